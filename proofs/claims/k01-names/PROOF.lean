import PyProof.Rows.All
import Wide.All
import OpenK.AllK
import Wide.FinOn
import HandS.ForMost
import HandS.DictComp
import HandS.Zip
import HandS.IsInst
import HandS.Wide
import HandS.Style
import HandS.Small
import HandS.Flow
import HandS.TupAny
import HandS.RaiseOp
import PyProof.ListStr
import HandS.Deep
import HandS.ListItems
import HandS.New
import PySem.Challenge.RW_mingleddeeds_k01_names_told_from_others
set_option Elab.async false
set_option linter.all false
set_option maxRecDepth 100000
set_option maxHeartbeats 0
/-! DL: a layer of readings by values over HandS: what a name holds is told by a tree T; lists, dicts and instances that nobody else holds are owned and may change, all else stands still. -/
namespace DL
open PySem PySem.Spec L2

/-- a value with all that it holds; o: owned (nobody else holds it); gone: nothing is known; hole: an object that is owned, whatever stands there; ro: a list that is only read -/
inductive T where
  | gone
  | hole
  | ro (xs : List V)
  | v (x : V)
  | lst (o : Bool) (xs : List T)
  | tup (xs : List T)
  | dK (o : Bool) (ks : List Key) (xs : List T)
  | dT (o : Bool) (ks : List (List Key)) (xs : List T)
  | ins (o : Bool) (C : Addr) (fs : List Str) (xs : List T)

abbrev T.int (i : Int) : T := .v (.int i)
abbrev T.bl (b : Bool) : T := .v (.bl b)
abbrev T.str (x : Str) : T := .v (.str x)
abbrev T.non : T := .v .non

/-- what a footprint is made of: an owned object (false), a lock that is held (true) -/
abbrev Fp := Addr × Bool
/-- the written part, and the dicts that are locked while they are walked -/
structure KL where
  k : PySem.W.Frag
  l : List (Addr × Obj × HO)
/-- no tuple -/
def nt : HO → Bool
  | .tup _ => false
  | _ => true
/-- an object that stands still: in the fixed part F; a cell: owned (in the footprint), or still -/
def Cell (F H : Hp) (o : Bool) (a : Addr) (u : HO) (A B : List Fp) : Prop :=
  (o = true ∧ A = (a, false) :: B ∧ H a = some u) ∨ (o = false ∧ A = [] ∧ B = [] ∧ F a = some u)
mutual
def Own (K : KL) (F H : Hp) : T → V → List Fp → Prop
  | .gone, _, A => A = []
  | .hole, y, A => ∃ a u, y = .ref a ∧ A = [(a, false)] ∧ H a = some u ∧ nt u = true
  | .v x, y, A => y = x ∧ A = []
  | .ro xs, y, A => ∃ a, y = .ref a ∧ A = [] ∧ SqL K.k F a xs
  | .lst o ts, y, A => ∃ a vs B, y = .ref a ∧ Cell F H o a (.lst vs) A B ∧ OwnL K F H ts vs B
  | .tup ts, y, A => ∃ a vs, y = .ref a ∧ F a = some (.tup vs) ∧ OwnL K F H ts vs A
  | .dK o ks ts, y, A => ∃ a vs B, y = .ref a ∧ (vs.length = ks.length ∧ ks.Nodup) ∧ Cell F H o a (.dK (ks.zip vs)) A B ∧ OwnL K F H ts vs B
  | .dT o ks ts, y, A => ∃ a vs B, y = .ref a ∧ (vs.length = ks.length ∧ ks.Nodup) ∧ Cell F H o a (.dT (ks.zip vs)) A B ∧ OwnL K F H ts vs B
  | .ins o C fs ts, y, A => ∃ a dx vs B, y = .ref a ∧ vs.length = fs.length ∧ Cell F H o a (.ins C dx (fs.zip vs)) A B ∧ OwnL K F H ts vs B
def OwnL (K : KL) (F H : Hp) : List T → List V → List Fp → Prop
  | [], vs, A => vs = [] ∧ A = []
  | t :: ts, vs, A => ∃ v r B C, vs = v :: r ∧ A = B ++ C ∧ Own K F H t v B ∧ OwnL K F H ts r C
end

/- nothing in it is owned -/
mutual
def Fz : T → Prop
  | .gone => True
  | .hole => False
  | .ro _ => True
  | .v _ => True
  | .lst o ts => o = false ∧ FzL ts
  | .tup ts => FzL ts
  | .dK o _ ts => o = false ∧ FzL ts
  | .dT o _ ts => o = false ∧ FzL ts
  | .ins o _ _ ts => o = false ∧ FzL ts
def FzL : List T → Prop
  | [] => True
  | t :: ts => Fz t ∧ FzL ts
end
/- the same, from now on still -/
mutual
def fz : T → T
  | .gone => .gone
  | .hole => .gone
  | .ro xs => .ro xs
  | .v x => .v x
  | .lst _ ts => .lst false (fzL ts)
  | .tup ts => .tup (fzL ts)
  | .dK _ ks ts => .dK false ks (fzL ts)
  | .dT _ ks ts => .dT false ks (fzL ts)
  | .ins _ C fs ts => .ins false C fs (fzL ts)
def fzL : List T → List T
  | [] => []
  | t :: ts => fz t :: fzL ts
end

section
variable {K : KL} {F F' H H' : Hp}
theorem ownL_length : ∀ {ts : List T} {vs : List V} {A : List Fp}, OwnL K F H ts vs A → ts.length = vs.length
  | [], vs, A, h => by
    unfold OwnL at h; obtain ⟨rfl, rfl⟩ := h; rfl
  | t :: ts, vs, A, h => by
    unfold OwnL at h
    obtain ⟨v, r, B, C, rfl, rfl, _, h⟩ := h
    rw [List.length_cons, List.length_cons, ownL_length h]

/-- what a cell leans on -/
theorem Cell.mono {o : Bool} {a : Addr} {u : HO} {A B : List Fp} (h : Cell F H o a u A B) (hF : ∀ a u, F a = some u → F' a = some u) (hH : ∀ b ∈ A, H' b.1 = H b.1) : Cell F' H' o a u A B := by
  rcases h with ⟨e, rfl, h⟩ | ⟨e, e1, e2, h⟩
  · exact .inl ⟨e, rfl, by rw [hH (a, false) (by simp), h]⟩
  · exact .inr ⟨e, e1, e2, hF _ _ h⟩
theorem Cell.sub {o : Bool} {a : Addr} {u : HO} {A B : List Fp} (h : Cell F H o a u A B) : ∀ b ∈ B, b ∈ A := by
  rcases h with ⟨e, rfl, h⟩ | ⟨e, e1, e2, h⟩
  · intro b hb; exact List.mem_cons_of_mem _ hb
  · rw [e2]; intro b hb; cases hb
theorem sql_mono {a : Addr} {xs : List V} (hF : ∀ a u, F a = some u → F' a = some u) (h : SqL K.k F a xs) : SqL K.k F' a xs := by
  rcases h with (h | ⟨o, h⟩) | h
  · exact .inl (.inl (hF _ _ h))
  · exact .inl (.inr ⟨o, hF _ _ h⟩)
  · exact .inr h
mutual
theorem own_mono (hF : ∀ a u, F a = some u → F' a = some u) : ∀ {t : T} {v : V} {A : List Fp}, Own K F H t v A → (∀ b ∈ A, H' b.1 = H b.1) → Own K F' H' t v A
  | .gone, v, A, h, _ => by unfold Own at h ⊢; exact h
  | .hole, v, A, h, hH => by
    unfold Own at h ⊢
    obtain ⟨a, u, e, rfl, h, hn⟩ := h
    exact ⟨a, u, e, rfl, by rw [hH (a, false) (by simp), h], hn⟩
  | .ro xs, v, A, h, hH => by
    unfold Own at h ⊢
    obtain ⟨a, e, e2, h⟩ := h
    exact ⟨a, e, e2, sql_mono hF h⟩
  | .v x, v, A, h, _ => by unfold Own at h ⊢; exact h
  | .lst o ts, v, A, h, hH => by
    unfold Own at h ⊢
    obtain ⟨a, vs, B, e, c, h⟩ := h
    exact ⟨a, vs, B, e, c.mono hF hH, ownL_mono hF h fun b hb => hH b (c.sub b hb)⟩
  | .tup ts, v, A, h, hH => by
    unfold Own at h ⊢
    obtain ⟨a, vs, e, c, h⟩ := h
    exact ⟨a, vs, e, hF _ _ c, ownL_mono hF h hH⟩
  | .dK o ks ts, v, A, h, hH => by
    unfold Own at h ⊢
    obtain ⟨a, vs, B, e, l, c, h⟩ := h
    exact ⟨a, vs, B, e, l, c.mono hF hH, ownL_mono hF h fun b hb => hH b (c.sub b hb)⟩
  | .dT o ks ts, v, A, h, hH => by
    unfold Own at h ⊢
    obtain ⟨a, vs, B, e, l, c, h⟩ := h
    exact ⟨a, vs, B, e, l, c.mono hF hH, ownL_mono hF h fun b hb => hH b (c.sub b hb)⟩
  | .ins o C fs ts, v, A, h, hH => by
    unfold Own at h ⊢
    obtain ⟨a, dx, vs, B, e, l, c, h⟩ := h
    exact ⟨a, dx, vs, B, e, l, c.mono hF hH, ownL_mono hF h fun b hb => hH b (c.sub b hb)⟩
theorem ownL_mono (hF : ∀ a u, F a = some u → F' a = some u) : ∀ {ts : List T} {vs : List V} {A : List Fp}, OwnL K F H ts vs A → (∀ b ∈ A, H' b.1 = H b.1) → OwnL K F' H' ts vs A
  | [], vs, A, h, _ => by unfold OwnL at h ⊢; exact h
  | t :: ts, vs, A, h, hH => by
    unfold OwnL at h ⊢
    obtain ⟨v, r, B, C, e1, e2, h1, h2⟩ := h
    refine ⟨v, r, B, C, e1, e2, own_mono hF h1 fun b hb => hH b ?_, ownL_mono hF h2 fun b hb => hH b ?_⟩
    · rw [e2]; exact List.mem_append_left _ hb
    · rw [e2]; exact List.mem_append_right _ hb
end

/- still things have no footprint -/
mutual
theorem own_fz : ∀ {t : T} {v : V} {A : List Fp}, Own K F H t v A → Fz t → A = []
  | .gone, v, A, h, _ => by unfold Own at h; exact h
  | .hole, v, A, h, z => by unfold Fz at z; exact z.elim
  | .ro xs, v, A, h, z => by
    unfold Own at h
    obtain ⟨a, e, e2, h⟩ := h
    exact e2
  | .v x, v, A, h, _ => by unfold Own at h; exact h.2
  | .lst o ts, v, A, h, z => by
    unfold Own at h; unfold Fz at z
    obtain ⟨a, vs, B, e, c, h⟩ := h
    obtain ⟨rfl, z⟩ := z
    rcases c with ⟨e, _⟩ | ⟨_, e, _⟩
    · cases e
    · exact e
  | .tup ts, v, A, h, z => by
    unfold Own at h; unfold Fz at z
    obtain ⟨a, vs, e, c, h⟩ := h
    exact ownL_fz h z
  | .dK o ks ts, v, A, h, z => by
    unfold Own at h; unfold Fz at z
    obtain ⟨a, vs, B, e, l, c, h⟩ := h
    obtain ⟨rfl, z⟩ := z
    rcases c with ⟨e, _⟩ | ⟨_, e, _⟩
    · cases e
    · exact e
  | .dT o ks ts, v, A, h, z => by
    unfold Own at h; unfold Fz at z
    obtain ⟨a, vs, B, e, l, c, h⟩ := h
    obtain ⟨rfl, z⟩ := z
    rcases c with ⟨e, _⟩ | ⟨_, e, _⟩
    · cases e
    · exact e
  | .ins o C fs ts, v, A, h, z => by
    unfold Own at h; unfold Fz at z
    obtain ⟨a, dx, vs, B, e, l, c, h⟩ := h
    obtain ⟨rfl, z⟩ := z
    rcases c with ⟨e, _⟩ | ⟨_, e, _⟩
    · cases e
    · exact e
theorem ownL_fz : ∀ {ts : List T} {vs : List V} {A : List Fp}, OwnL K F H ts vs A → FzL ts → A = []
  | [], vs, A, h, _ => by unfold OwnL at h; exact h.2
  | t :: ts, vs, A, h, z => by
    unfold OwnL at h; unfold FzL at z
    obtain ⟨v, r, B, C, e1, e2, h1, h2⟩ := h
    rw [e2, own_fz h1 z.1, ownL_fz h2 z.2]
    rfl
end

/- made still: the cells of the footprint go to the fixed part -/
mutual
theorem own_still (hF : ∀ a u, F a = some u → F' a = some u) : ∀ {t : T} {v : V} {A : List Fp}, Own K F H t v A → (∀ b ∈ A, b.2 = false → ∀ u, H b.1 = some u → F' b.1 = some u) → Own K F' H' (fz t) v []
  | .gone, v, A, h, _ => by unfold fz Own; rfl
  | .hole, v, A, h, _ => by unfold fz Own; rfl
  | .ro xs, v, A, h, _ => by
    unfold Own at h; unfold fz Own
    obtain ⟨a, e, e2, h⟩ := h
    exact ⟨a, e, rfl, sql_mono hF h⟩
  | .v x, v, A, h, _ => by unfold Own at h; unfold fz Own; exact ⟨h.1, rfl⟩
  | .lst o ts, v, A, h, hH => by
    unfold Own at h; unfold fz Own
    obtain ⟨a, vs, B, e, c, h⟩ := h
    rcases c with ⟨_, e1, c⟩ | ⟨_, e1, e2, c⟩
    · refine ⟨a, vs, [], e, .inr ⟨rfl, rfl, rfl, hH (a, false) (by rw [e1]; simp) rfl _ c⟩, ownL_still hF h fun b hb => hH b (by rw [e1]; exact List.mem_cons_of_mem _ hb)⟩
    · refine ⟨a, vs, [], e, .inr ⟨rfl, rfl, rfl, hF _ _ c⟩, ownL_still hF h fun b hb => by rw [e2] at hb; cases hb⟩
  | .tup ts, v, A, h, hH => by
    unfold Own at h; unfold fz Own
    obtain ⟨a, vs, e, c, h⟩ := h
    exact ⟨a, vs, e, hF _ _ c, ownL_still hF h hH⟩
  | .dK o ks ts, v, A, h, hH => by
    unfold Own at h; unfold fz Own
    obtain ⟨a, vs, B, e, l, c, h⟩ := h
    rcases c with ⟨_, e1, c⟩ | ⟨_, e1, e2, c⟩
    · refine ⟨a, vs, [], e, l, .inr ⟨rfl, rfl, rfl, hH (a, false) (by rw [e1]; simp) rfl _ c⟩, ownL_still hF h fun b hb => hH b (by rw [e1]; exact List.mem_cons_of_mem _ hb)⟩
    · refine ⟨a, vs, [], e, l, .inr ⟨rfl, rfl, rfl, hF _ _ c⟩, ownL_still hF h fun b hb => by rw [e2] at hb; cases hb⟩
  | .dT o ks ts, v, A, h, hH => by
    unfold Own at h; unfold fz Own
    obtain ⟨a, vs, B, e, l, c, h⟩ := h
    rcases c with ⟨_, e1, c⟩ | ⟨_, e1, e2, c⟩
    · refine ⟨a, vs, [], e, l, .inr ⟨rfl, rfl, rfl, hH (a, false) (by rw [e1]; simp) rfl _ c⟩, ownL_still hF h fun b hb => hH b (by rw [e1]; exact List.mem_cons_of_mem _ hb)⟩
    · refine ⟨a, vs, [], e, l, .inr ⟨rfl, rfl, rfl, hF _ _ c⟩, ownL_still hF h fun b hb => by rw [e2] at hb; cases hb⟩
  | .ins o C fs ts, v, A, h, hH => by
    unfold Own at h; unfold fz Own
    obtain ⟨a, dx, vs, B, e, l, c, h⟩ := h
    rcases c with ⟨_, e1, c⟩ | ⟨_, e1, e2, c⟩
    · refine ⟨a, dx, vs, [], e, l, .inr ⟨rfl, rfl, rfl, hH (a, false) (by rw [e1]; simp) rfl _ c⟩, ownL_still hF h fun b hb => hH b (by rw [e1]; exact List.mem_cons_of_mem _ hb)⟩
    · refine ⟨a, dx, vs, [], e, l, .inr ⟨rfl, rfl, rfl, hF _ _ c⟩, ownL_still hF h fun b hb => by rw [e2] at hb; cases hb⟩
theorem ownL_still (hF : ∀ a u, F a = some u → F' a = some u) : ∀ {ts : List T} {vs : List V} {A : List Fp}, OwnL K F H ts vs A → (∀ b ∈ A, b.2 = false → ∀ u, H b.1 = some u → F' b.1 = some u) → OwnL K F' H' (fzL ts) vs []
  | [], vs, A, h, _ => by unfold OwnL at h; unfold fzL OwnL; exact ⟨h.1, rfl⟩
  | t :: ts, vs, A, h, hH => by
    unfold OwnL at h; unfold fzL OwnL
    obtain ⟨v, r, B, C, e1, e2, h1, h2⟩ := h
    refine ⟨v, r, [], [], e1, rfl, own_still hF h1 fun b hb => hH b ?_, ownL_still hF h2 fun b hb => hH b ?_⟩
    · rw [e2]; exact List.mem_append_left _ hb
    · rw [e2]; exact List.mem_append_right _ hb
end
mutual
theorem fz_of : ∀ {t : T}, Fz t → fz t = t
  | .gone, _ => rfl
  | .hole, h => by unfold Fz at h; exact h.elim
  | .ro _, h => rfl
  | .v _, _ => rfl
  | .lst o ts, h => by unfold Fz at h; unfold fz; rw [h.1, fzL_of h.2]
  | .tup ts, h => by unfold Fz at h; unfold fz; rw [fzL_of h]
  | .dK o ks ts, h => by unfold Fz at h; unfold fz; rw [h.1, fzL_of h.2]
  | .dT o ks ts, h => by unfold Fz at h; unfold fz; rw [h.1, fzL_of h.2]
  | .ins o C fs ts, h => by unfold Fz at h; unfold fz; rw [h.1, fzL_of h.2]
theorem fzL_of : ∀ {ts : List T}, FzL ts → fzL ts = ts
  | [], _ => rfl
  | t :: ts, h => by unfold FzL at h; unfold fzL; rw [fz_of h.1, fzL_of h.2]
end
end

mutual
theorem fz_Fz : ∀ t : T, Fz (fz t)
  | .gone => by unfold fz Fz; trivial
  | .hole => by unfold fz Fz; trivial
  | .ro _ => by unfold fz Fz; trivial
  | .v _ => by unfold fz Fz; trivial
  | .lst o ts => by unfold fz Fz; exact ⟨rfl, fzL_FzL ts⟩
  | .tup ts => by unfold fz Fz; exact fzL_FzL ts
  | .dK o ks ts => by unfold fz Fz; exact ⟨rfl, fzL_FzL ts⟩
  | .dT o ks ts => by unfold fz Fz; exact ⟨rfl, fzL_FzL ts⟩
  | .ins o C fs ts => by unfold fz Fz; exact ⟨rfl, fzL_FzL ts⟩
theorem fzL_FzL : ∀ ts : List T, FzL (fzL ts)
  | [] => by unfold fzL FzL; trivial
  | t :: ts => by unfold fzL FzL; exact ⟨fz_Fz t, fzL_FzL ts⟩
end

/-! ### the state: what the names hold, and all that waits -/
def OwnO (K : KL) (F H : Hp) (t : T) (o : Option V) (A : List Fp) : Prop := (t = .gone ∧ A = []) ∨ ∃ x, o = some x ∧ Own K F H t x A
def OwnS (K : KL) (F H : Hp) : List T → List (Option V) → List Fp → Prop
  | [], vs, A => vs = [] ∧ A = []
  | t :: ts, vs, A => ∃ o r B C, vs = o :: r ∧ A = B ++ C ∧ OwnO K F H t o B ∧ OwnS K F H ts r C
/-- a dict -/
def isDi : HO → Bool
  | .dK _ => true
  | .dT _ => true
  | _ => false
/-- it stands there, a dict perhaps locked -/
def RdX (H : Hp) (a : Addr) (u : HO) : Prop := H a = some u ∨ (isDi u = true ∧ ∃ o, H a = some (.frz o u))
theorem RdX.rd {H : Hp} {a : Addr} {u : HO} (h : RdX H a u) : Rd H a u := h.imp id fun ⟨_, h⟩ => h
/-- what is fixed stands there; a lock is on just those of the list -/
structure LkOk (K : KL) (F H : Hp) : Prop where
  fx : ∀ a u, F a = some u → H a = some u ∨ ∃ o, (a, o, u) ∈ K.l
  lk : ∀ a o u, (a, o, u) ∈ K.l → F a = some u ∧ isDi u = true ∧ H a = some (.frz o u)
theorem LkOk.rd {K : KL} {F H : Hp} (h : LkOk K F H) (a : Addr) (u : HO) (e : F a = some u) : RdX H a u := by
  rcases h.fx a u e with c | ⟨o, c⟩
  · exact .inl c
  · obtain ⟨_, d, c⟩ := h.lk a o u c
    exact .inr ⟨d, o, c⟩
theorem LkOk.upd {K : KL} {F H : Hp} {p : Addr} {u : HO} (h : LkOk K F H) (n : F p = none) : LkOk K F (L2.upd H p u) := by
  refine ⟨fun a w e => ?_, fun a o w e => ?_⟩
  · have : a ≠ p := fun z => by rw [z, n] at e; cases e
    rw [upd_ne this]
    exact h.fx a w e
  · obtain ⟨c1, c2, c3⟩ := h.lk a o w e
    have : a ≠ p := fun z => by rw [z, n] at c1; cases c1
    rw [upd_ne this]
    exact ⟨c1, c2, c3⟩
/-- more is fixed -/
theorem LkOk.more {K : KL} {F F' H : Hp} (h : LkOk K F H) (hF : ∀ a u, F a = some u → F' a = some u) (new : ∀ a u, F' a = some u → F a = some u ∨ H a = some u) : LkOk K F' H := by
  refine ⟨fun a w e => ?_, fun a o w e => ?_⟩
  · rcases new a w e with c | c
    · exact h.fx a w c
    · exact .inl c
  · obtain ⟨c1, c2, c3⟩ := h.lk a o w e
    exact ⟨hF _ _ c1, c2, c3⟩
structure RpX (K : KL) (F : Hp) (A : List Fp) (ts : List T) (vs : List (Option V)) (H : Hp) : Prop where
  own : OwnS K F H ts vs A
  nd : A.Nodup
  dj : ∀ a ∈ A, a.2 = false → F a.1 = none
  lk : LkOk K F H
theorem RpX.le {K : KL} {F H : Hp} {A : List Fp} {ts : List T} {vs : List (Option V)} (h : RpX K F A ts vs H) (a : Addr) (u : HO) (e : F a = some u) : RdX H a u := h.lk.rd a u e
def Rp (K : KL) (ts : List T) (vs : List (Option V)) (H : Hp) : Prop := ∃ F A, RpX K F A ts vs H

section
variable {K : KL} {F F' H H' : Hp}
theorem OwnO.mono {t : T} {o : Option V} {A : List Fp} (h : OwnO K F H t o A) (hF : ∀ a u, F a = some u → F' a = some u) (hH : ∀ b ∈ A, H' b.1 = H b.1) : OwnO K F' H' t o A := by
  rcases h with h | ⟨x, e, h⟩
  · exact .inl h
  · exact .inr ⟨x, e, own_mono hF h hH⟩
theorem ownS_mono (hF : ∀ a u, F a = some u → F' a = some u) : ∀ {ts : List T} {vs : List (Option V)} {A : List Fp}, OwnS K F H ts vs A → (∀ b ∈ A, H' b.1 = H b.1) → OwnS K F' H' ts vs A
  | [], _, _, h, _ => h
  | t :: ts, vs, A, h, hH => by
    obtain ⟨o, r, B, C, e1, e2, h1, h2⟩ := h
    refine ⟨o, r, B, C, e1, e2, h1.mono hF fun b hb => hH b ?_, ownS_mono hF h2 fun b hb => hH b ?_⟩
    · rw [e2]; exact List.mem_append_left _ hb
    · rw [e2]; exact List.mem_append_right _ hb
theorem ownS_length : ∀ {ts : List T} {vs : List (Option V)} {A : List Fp}, OwnS K F H ts vs A → ts.length = vs.length
  | [], vs, A, h => by obtain ⟨rfl, rfl⟩ := h; rfl
  | t :: ts, vs, A, h => by
    obtain ⟨v, r, B, C, rfl, rfl, _, h⟩ := h
    rw [List.length_cons, List.length_cons, ownS_length h]
/-- cut in two -/
theorem ownS_app : ∀ {ts us : List T} {vs : List (Option V)} {A : List Fp}, OwnS K F H (ts ++ us) vs A → ∃ v1 v2 B C, vs = v1 ++ v2 ∧ v1.length = ts.length ∧ A = B ++ C ∧ OwnS K F H ts v1 B ∧ OwnS K F H us v2 C
  | [], us, vs, A, h => ⟨[], vs, [], A, rfl, rfl, rfl, ⟨rfl, rfl⟩, h⟩
  | t :: ts, us, vs, A, h => by
    obtain ⟨o, r, B, C, rfl, rfl, h1, h2⟩ := h
    obtain ⟨v1, v2, B1, C1, rfl, l, rfl, h3, h4⟩ := ownS_app h2
    exact ⟨o :: v1, v2, B ++ B1, C1, rfl, by rw [List.length_cons, l, List.length_cons], by rw [List.append_assoc], ⟨o, v1, B, B1, rfl, rfl, h1, h3⟩, h4⟩
theorem ownS_app' {ts us : List T} {v1 v2 : List (Option V)} {A : List Fp} (h : OwnS K F H (ts ++ us) (v1 ++ v2) A) (l : ts.length = v1.length) : ∃ B C, A = B ++ C ∧ OwnS K F H ts v1 B ∧ OwnS K F H us v2 C := by
  obtain ⟨w1, w2, B, C, e, l', e2, h1, h2⟩ := ownS_app h
  obtain ⟨rfl, rfl⟩ := List.append_inj e (by rw [l', l])
  exact ⟨B, C, e2, h1, h2⟩
theorem ownS_join : ∀ {ts us : List T} {v1 v2 : List (Option V)} {B C : List Fp}, OwnS K F H ts v1 B → OwnS K F H us v2 C → OwnS K F H (ts ++ us) (v1 ++ v2) (B ++ C)
  | [], us, v1, v2, B, C, h1, h2 => by
    obtain ⟨rfl, rfl⟩ := h1
    exact h2
  | t :: ts, us, v1, v2, B, C, h1, h2 => by
    obtain ⟨o, r, B1, C1, rfl, rfl, h3, h4⟩ := h1
    exact ⟨o, r ++ v2, B1, C1 ++ C, rfl, by rw [List.append_assoc], h3, ownS_join h4 h2⟩
/-- the parts in another order, some left out -/
theorem RpX.perm {A A' : List Fp} {ts us : List T} {vs ws : List (Option V)} (h : RpX K F A ts vs H) (hs : OwnS K F H us ws A') (A2 : List Fp) (p : A'.Perm A2) (q : A2.Sublist A) : RpX K F A' us ws H :=
  ⟨hs, p.nodup_iff.mpr (h.nd.sublist q), fun a ha => h.dj a (q.subset (p.mem_iff.mp ha)), h.lk⟩
theorem Rp.swap {t1 t2 t3 : List T} {v1 v2 v3 : List (Option V)} (h : Rp K (t1 ++ (t2 ++ t3)) (v1 ++ (v2 ++ v3)) H) (l1 : t1.length = v1.length) (l2 : t2.length = v2.length) : Rp K (t2 ++ (t1 ++ t3)) (v2 ++ (v1 ++ v3)) H := by
  obtain ⟨F, A, h⟩ := h
  obtain ⟨B, C, rfl, h1, h2⟩ := ownS_app' h.own l1
  obtain ⟨B2, C2, rfl, h3, h4⟩ := ownS_app' h2 l2
  refine ⟨F, _, h.perm (ownS_join h3 (ownS_join h1 h4)) _ (List.perm_append_comm_assoc ..) (List.Sublist.refl _)⟩
/-- forget the first part -/
theorem Rp.drop {t1 t2 : List T} {v1 v2 : List (Option V)} (h : Rp K (t1 ++ t2) (v1 ++ v2) H) (l1 : t1.length = v1.length) : Rp K t2 v2 H := by
  obtain ⟨F, A, h⟩ := h
  obtain ⟨B, C, rfl, h1, h2⟩ := ownS_app' h.own l1
  exact ⟨F, C, h.perm h2 _ (List.Perm.refl _) (List.sublist_append_right ..)⟩
theorem Rp.length {ts : List T} {vs : List (Option V)} (h : Rp K ts vs H) : ts.length = vs.length := by
  obtain ⟨F, A, h⟩ := h
  exact ownS_length h.own

/- what is owned stands there -/
mutual
theorem own_there : ∀ {t : T} {v : V} {A : List Fp}, Own K F H t v A → ∀ a ∈ A, H a.1 ≠ none
  | .gone, v, A, h => by unfold Own at h; rw [h]; intro a ha; cases ha
  | .hole, v, A, h => by
    unfold Own at h
    obtain ⟨a, u, e, rfl, h, hn⟩ := h
    intro b hb
    rw [List.mem_singleton.mp hb]
    show H a ≠ none
    rw [h]
    exact fun z => nomatch z
  | .v x, v, A, h => by unfold Own at h; rw [h.2]; intro a ha; cases ha
  | .ro xs, v, A, h => by
    unfold Own at h
    obtain ⟨a, e, rfl, h⟩ := h
    intro b hb; cases hb
  | .lst o ts, v, A, h => by
    unfold Own at h
    obtain ⟨a, vs, B, e, c, h⟩ := h
    rcases c with ⟨_, rfl, c⟩ | ⟨_, rfl, _, c⟩
    · intro b hb
      rcases List.mem_cons.mp hb with rfl | hb
      · show H a ≠ none
        rw [c]; exact fun z => nomatch z
      · exact ownL_there h b hb
    · intro b hb; cases hb
  | .tup ts, v, A, h => by
    unfold Own at h
    obtain ⟨a, vs, e, c, h⟩ := h
    exact ownL_there h
  | .dK o ks ts, v, A, h => by
    unfold Own at h
    obtain ⟨a, vs, B, e, l, c, h⟩ := h
    rcases c with ⟨_, rfl, c⟩ | ⟨_, rfl, _, c⟩
    · intro b hb
      rcases List.mem_cons.mp hb with rfl | hb
      · show H a ≠ none
        rw [c]; exact fun z => nomatch z
      · exact ownL_there h b hb
    · intro b hb; cases hb
  | .dT o ks ts, v, A, h => by
    unfold Own at h
    obtain ⟨a, vs, B, e, l, c, h⟩ := h
    rcases c with ⟨_, rfl, c⟩ | ⟨_, rfl, _, c⟩
    · intro b hb
      rcases List.mem_cons.mp hb with rfl | hb
      · show H a ≠ none
        rw [c]; exact fun z => nomatch z
      · exact ownL_there h b hb
    · intro b hb; cases hb
  | .ins o C fs ts, v, A, h => by
    unfold Own at h
    obtain ⟨a, dx, vs, B, e, l, c, h⟩ := h
    rcases c with ⟨_, rfl, c⟩ | ⟨_, rfl, _, c⟩
    · intro b hb
      rcases List.mem_cons.mp hb with rfl | hb
      · show H a ≠ none
        rw [c]; exact fun z => nomatch z
      · exact ownL_there h b hb
    · intro b hb; cases hb
theorem ownL_there : ∀ {ts : List T} {vs : List V} {A : List Fp}, OwnL K F H ts vs A → ∀ a ∈ A, H a.1 ≠ none
  | [], vs, A, h => by unfold OwnL at h; rw [h.2]; intro a ha; cases ha
  | t :: ts, vs, A, h => by
    unfold OwnL at h
    obtain ⟨v, r, B, C, e1, rfl, h1, h2⟩ := h
    intro b hb
    rcases List.mem_append.mp hb with hb | hb
    · exact own_there h1 b hb
    · exact ownL_there h2 b hb
end
theorem ownS_there : ∀ {ts : List T} {vs : List (Option V)} {A : List Fp}, OwnS K F H ts vs A → ∀ a ∈ A, H a.1 ≠ none
  | [], vs, A, h => by rw [h.2]; intro a ha; cases ha
  | t :: ts, vs, A, h => by
    obtain ⟨o, r, B, C, e1, rfl, h1, h2⟩ := h
    intro b hb
    rcases List.mem_append.mp hb with hb | hb
    · rcases h1 with ⟨_, rfl⟩ | ⟨x, _, h1⟩
      · cases hb
      · exact own_there h1 b hb
    · exact ownS_there h2 b hb
theorem ownL_S : ∀ {ts : List T} {vs : List V} {A : List Fp}, OwnL K F H ts vs A → OwnS K F H ts (vs.map some) A
  | [], vs, A, h => by
    unfold OwnL at h
    obtain ⟨rfl, rfl⟩ := h
    exact ⟨rfl, rfl⟩
  | t :: ts, vs, A, h => by
    unfold OwnL at h
    obtain ⟨v, r, B, C, rfl, e2, h1, h2⟩ := h
    exact ⟨some v, r.map some, B, C, rfl, e2, .inr ⟨v, rfl, h1⟩, ownL_S h2⟩
theorem ownS_L : ∀ {ts : List T} {vs : List V} {A : List Fp}, OwnS K F H ts (vs.map some) A → OwnL K F H ts vs A
  | [], vs, A, h => by
    obtain ⟨e, rfl⟩ := h
    unfold OwnL
    exact ⟨List.map_eq_nil_iff.mp e, rfl⟩
  | t :: ts, [], A, h => by
    obtain ⟨o, r, B, C, e, e2, h1, h2⟩ := h
    cases e
  | t :: ts, v :: vs, A, h => by
    obtain ⟨o, r, B, C, e, e2, h1, h2⟩ := h
    obtain ⟨rfl, rfl⟩ := List.cons.inj e
    unfold OwnL
    refine ⟨v, vs, B, C, rfl, e2, ?_, ownS_L h2⟩
    rcases h1 with ⟨rfl, rfl⟩ | ⟨x, e, h1⟩
    · unfold Own; rfl
    · cases e
      exact h1

theorem Rd.some {a : Addr} {u : HO} (h : Rd H a u) : H a ≠ none := by
  rcases h with h | ⟨o, h⟩ <;> rw [h] <;> exact fun z => nomatch z
theorem RpX.fresh {A : List Fp} {ts : List T} {vs : List (Option V)} {p : Addr} (h : RpX K F A ts vs H) (hp : H p = none) : (∀ b ∈ A, b.1 ≠ p) ∧ F p = none := by
  refine ⟨fun b hb z => ownS_there h.own b hb (by rw [z]; exact hp), ?_⟩
  cases e : F p with
  | none => rfl
  | some u => exact absurd hp (Rd.some (h.le p u e).rd)
/- a lock is on what is fixed -/
mutual
theorem own_tok : ∀ {t : T} {v : V} {A : List Fp}, Own K F H t v A → ∀ b ∈ A, b.2 = true → False
  | .gone, v, A, h => by unfold Own at h; rw [h]; intro a ha; cases ha
  | .hole, v, A, h => by
    unfold Own at h
    obtain ⟨a, u, e, rfl, h, hn⟩ := h
    intro b hb e
    rw [List.mem_singleton.mp hb] at e
    cases e
  | .v x, v, A, h => by unfold Own at h; rw [h.2]; intro a ha; cases ha
  | .ro xs, v, A, h => by
    unfold Own at h
    obtain ⟨a, e, rfl, h⟩ := h
    intro b hb; cases hb
  | .lst o ts, v, A, h => by
    unfold Own at h
    obtain ⟨a, vs, B, e, c, h⟩ := h
    rcases c with ⟨_, rfl, c⟩ | ⟨_, rfl, _, c⟩
    · intro b hb e
      rcases List.mem_cons.mp hb with rfl | hb
      · cases e
      · exact ownL_tok h b hb e
    · intro b hb; cases hb
  | .tup ts, v, A, h => by
    unfold Own at h
    obtain ⟨a, vs, e, c, h⟩ := h
    exact ownL_tok h
  | .dK o ks ts, v, A, h => by
    unfold Own at h
    obtain ⟨a, vs, B, e, l, c, h⟩ := h
    rcases c with ⟨_, rfl, c⟩ | ⟨_, rfl, _, c⟩
    · intro b hb e
      rcases List.mem_cons.mp hb with rfl | hb
      · cases e
      · exact ownL_tok h b hb e
    · intro b hb; cases hb
  | .dT o ks ts, v, A, h => by
    unfold Own at h
    obtain ⟨a, vs, B, e, l, c, h⟩ := h
    rcases c with ⟨_, rfl, c⟩ | ⟨_, rfl, _, c⟩
    · intro b hb e
      rcases List.mem_cons.mp hb with rfl | hb
      · cases e
      · exact ownL_tok h b hb e
    · intro b hb; cases hb
  | .ins o C fs ts, v, A, h => by
    unfold Own at h
    obtain ⟨a, dx, vs, B, e, l, c, h⟩ := h
    rcases c with ⟨_, rfl, c⟩ | ⟨_, rfl, _, c⟩
    · intro b hb e
      rcases List.mem_cons.mp hb with rfl | hb
      · cases e
      · exact ownL_tok h b hb e
    · intro b hb; cases hb
theorem ownL_tok : ∀ {ts : List T} {vs : List V} {A : List Fp}, OwnL K F H ts vs A → ∀ b ∈ A, b.2 = true → False
  | [], vs, A, h => by unfold OwnL at h; rw [h.2]; intro a ha; cases ha
  | t :: ts, vs, A, h => by
    unfold OwnL at h
    obtain ⟨v, r, B, C, e1, rfl, h1, h2⟩ := h
    intro b hb e
    rcases List.mem_append.mp hb with hb | hb
    · exact own_tok h1 b hb e
    · exact ownL_tok h2 b hb e
end
theorem ownS_tok : ∀ {ts : List T} {vs : List (Option V)} {A : List Fp}, OwnS K F H ts vs A → ∀ b ∈ A, b.2 = true → False
  | [], vs, A, h => by rw [h.2]; intro a ha; cases ha
  | t :: ts, vs, A, h => by
    obtain ⟨o, r, B, C, e1, rfl, h1, h2⟩ := h
    intro b hb e
    rcases List.mem_append.mp hb with hb | hb
    · rcases h1 with ⟨_, rfl⟩ | ⟨x, _, h1⟩
      · cases hb
      · exact own_tok h1 b hb e
    · exact ownS_tok h2 b hb e
/-- an owned object's address stands just once -/
theorem RpX.alone {A B : List Fp} {a : Addr} {ts : List T} {vs : List (Option V)} (h : RpX K F A ts vs H) (e : A = (a, false) :: B) : ∀ b ∈ B, b.1 ≠ a := by
  subst e
  intro b hb z
  have nd := List.nodup_cons.mp h.nd
  have f0 : F a = none := h.dj (a, false) (by simp) rfl
  obtain ⟨b1, b2⟩ := b
  cases z
  cases b2 with
  | false => exact nd.1 hb
  | true => exact ownS_tok h.own (b1, true) (by simp [hb]) rfl
theorem rd_upd {a p : Addr} {u o : HO} (h : RdX H a u) (n : a ≠ p) : RdX (upd H p o) a u := by
  rcases h with h | ⟨q, o', h⟩
  · exact .inl (by rw [upd_ne n]; exact h)
  · exact .inr ⟨q, o', by rw [upd_ne n]; exact h⟩
/-- nothing is forgotten by a name of which nothing is known -/
theorem Rp.gone {ts : List T} {vs : List (Option V)} (o : Option V) (h : Rp K ts vs H) : Rp K (.gone :: ts) (o :: vs) H := by
  obtain ⟨F, A, h⟩ := h
  exact ⟨F, A, ⟨o, vs, [], A, rfl, rfl, .inl ⟨rfl, rfl⟩, h.own⟩, h.nd, h.dj, h.lk⟩
theorem Rp.sc {ts : List T} {vs : List (Option V)} (x : V) (h : Rp K ts vs H) : Rp K (.v x :: ts) (some x :: vs) H := by
  obtain ⟨F, A, h⟩ := h
  exact ⟨F, A, ⟨some x, vs, [], A, rfl, rfl, .inr ⟨x, rfl, by unfold Own; exact ⟨rfl, rfl⟩⟩, h.own⟩, h.nd, h.dj, h.lk⟩
theorem Rp.sc_inv {ts : List T} {o : Option V} {vs : List (Option V)} {x : V} (h : Rp K (.v x :: ts) (o :: vs) H) : o = some x := by
  obtain ⟨F, A, h⟩ := h
  obtain ⟨o', r, B, C, e, rfl, h1, h2⟩ := h.own
  obtain ⟨rfl, rfl⟩ := List.cons.inj e
  rcases h1 with ⟨e, _⟩ | ⟨y, rfl, h1⟩
  · cases e
  · unfold Own at h1
    rw [h1.1]
theorem Rp.some_inv {ts : List T} {t : T} {o : Option V} {vs : List (Option V)} (h : Rp K (t :: ts) (o :: vs) H) (ht : t ≠ .gone) : ∃ x, o = some x := by
  obtain ⟨F, A, h⟩ := h
  obtain ⟨o', r, B, C, e, rfl, h1, h2⟩ := h.own
  obtain ⟨rfl, rfl⟩ := List.cons.inj e
  rcases h1 with ⟨e, _⟩ | ⟨y, rfl, h1⟩
  · exact absurd e ht
  · exact ⟨y, rfl⟩
/-- what is still may be told twice -/
theorem Rp.dup {ts : List T} {t : T} {o : Option V} {vs : List (Option V)} (h : Rp K (t :: ts) (o :: vs) H) (z : Fz t) : Rp K (t :: t :: ts) (o :: o :: vs) H := by
  obtain ⟨F, A, h⟩ := h
  obtain ⟨o', r, B, C, e, rfl, h1, h2⟩ := id h.own
  obtain ⟨rfl, rfl⟩ := List.cons.inj e
  refine ⟨F, B ++ C, ⟨o, o :: vs, [], B ++ C, rfl, rfl, ?_, h.own⟩, h.nd, h.dj, h.lk⟩
  rcases h1 with ⟨e, _⟩ | ⟨y, e, h1⟩
  · exact .inl ⟨e, rfl⟩
  · rw [own_fz h1 z] at h1
    exact .inr ⟨y, e, h1⟩
/-- made still -/
theorem Rp.still {ts : List T} {t : T} {o : Option V} {vs : List (Option V)} (h : Rp K (t :: ts) (o :: vs) H) : Rp K (fz t :: ts) (o :: vs) H := by
  obtain ⟨F, A, h⟩ := h
  obtain ⟨o', r, B, C, e, rfl, h1, h2⟩ := id h.own
  obtain ⟨rfl, rfl⟩ := List.cons.inj e
  have nd := List.nodup_append.mp h.nd
  have hF : ∀ a u, F a = some u → (if (a, false) ∈ B then H a else F a) = some u := fun a u e => by
    rw [if_neg fun z => by rw [show F a = none from h.dj (a, false) (List.mem_append_left _ z) rfl] at e; cases e]
    exact e
  refine ⟨fun a => if (a, false) ∈ B then H a else F a, C, ⟨o, vs, [], C, rfl, rfl, ?_, ownS_mono hF h2 fun _ _ => rfl⟩, nd.2.1, fun a ha ha2 => ?_, h.lk.more hF fun a u e => ?_⟩
  · rcases h1 with ⟨rfl, _⟩ | ⟨y, e, h1⟩
    · exact .inl ⟨by unfold fz; rfl, rfl⟩
    · exact .inr ⟨y, e, own_still hF h1 fun b hb hb2 u e => by
        show (if (b.1, false) ∈ B then H b.1 else F b.1) = some u
        rw [if_pos (by rw [← hb2]; exact hb)]
        exact e⟩
  · show (if (a.1, false) ∈ B then H a.1 else F a.1) = none
    rw [if_neg fun z => nd.2.2 _ z a ha (by rw [← ha2])]
    exact h.dj a (List.mem_append_right _ ha) ha2
  · have e' : (if (a, false) ∈ B then H a else F a) = some u := e
    split at e'
    · exact .inr e'
    · exact .inl e'
/-- a new object -/
theorem Rp.new {ts : List T} {vs : List (Option V)} {p : Addr} (u : HO) (h : Rp K ts vs H) (hp : H p = none) (hu : nt u = true := by rfl) : Rp K (.hole :: ts) (some (.ref p) :: vs) (upd H p u) := by
  obtain ⟨F, A, h⟩ := h
  obtain ⟨n1, n2⟩ := h.fresh hp
  refine ⟨F, (p, false) :: A, ⟨some (.ref p), vs, [(p, false)], A, rfl, rfl, .inr ⟨_, rfl, by unfold Own; exact ⟨p, u, rfl, rfl, upd_same, hu⟩⟩, ownS_mono (fun _ _ e => e) h.own fun b hb => upd_ne (n1 b hb)⟩, List.nodup_cons.mpr ⟨fun z => n1 _ z rfl, h.nd⟩, fun a ha ha2 => ?_, h.lk.upd n2⟩
  · rcases List.mem_cons.mp ha with rfl | ha
    · exact n2
    · exact h.dj a ha ha2
/-- a new tuple of what waits -/
theorem Rp.newTup {ts us : List T} {vs : List V} {ws : List (Option V)} {p : Addr} (h : Rp K (ts ++ us) (vs.map some ++ ws) H) (l : ts.length = vs.length) (hp : H p = none) : Rp K (.tup ts :: us) (some (.ref p) :: ws) (upd H p (.tup vs)) := by
  obtain ⟨F, A, h⟩ := h
  obtain ⟨n1, n2⟩ := h.fresh hp
  obtain ⟨B, C, rfl, h1, h2⟩ := ownS_app' h.own (by rw [l, List.length_map])
  have hF : ∀ a u, F a = some u → upd F p (.tup vs) a = some u := fun a u e => by
    rw [upd_ne fun z => by rw [z, n2] at e; cases e]
    exact e
  have hH : ∀ b ∈ B ++ C, upd H p (.tup vs) b.1 = H b.1 := fun b hb => upd_ne (n1 b hb)
  refine ⟨upd F p (.tup vs), B ++ C, ⟨some (.ref p), ws, B, C, rfl, rfl, .inr ⟨_, rfl, ?_⟩, ownS_mono hF h2 fun b hb => hH b (List.mem_append_right _ hb)⟩, h.nd, fun a ha ha2 => ?_, (h.lk.upd n2).more hF fun a o e => ?_⟩
  · unfold Own
    exact ⟨p, vs, rfl, upd_same, ownL_mono hF (ownS_L h1) fun b hb => hH b (List.mem_append_left _ hb)⟩
  · rw [upd_ne (n1 a ha)]
    exact h.dj a ha ha2
  · by_cases z : a = p
    · subst z
      rw [upd_same] at e
      cases e
      exact .inr upd_same
    · rw [upd_ne z] at e
      exact .inl e
/-- an owned object is written: the hole is filled with what waits -/
theorem Rp.fill {t : T} {ts us : List T} {vs : List V} {ws : List (Option V)} {x : V} {u : HO} (h : Rp K (.hole :: (ts ++ us)) (some x :: (vs.map some ++ ws)) H) (l : ts.length = vs.length)
    (ht : ∀ (F H' : Hp) (a : Addr) (B : List Fp), x = .ref a → H' a = some u → OwnL K F H' ts vs B → Own K F H' t x ((a, false) :: B)) : ∃ a, x = .ref a ∧ Rp K (t :: us) (some x :: ws) (upd H a u) := by
  obtain ⟨F, A, h⟩ := h
  obtain ⟨o', r, B0, C0, e, rfl, h0, h3⟩ := id h.own
  obtain ⟨rfl, rfl⟩ := List.cons.inj e
  obtain ⟨B, C, rfl, h1, h2⟩ := ownS_app' h3 (by rw [l, List.length_map])
  rcases h0 with ⟨e, _⟩ | ⟨y, e, h0⟩
  · cases e
  cases e
  unfold Own at h0
  obtain ⟨a, u0, rfl, rfl, h0, hn0⟩ := h0
  have n1 := h.alone (B := B ++ C) rfl
  have hH : ∀ b ∈ B ++ C, upd H a u b.1 = H b.1 := fun b hb => upd_ne (n1 b hb)
  refine ⟨a, rfl, F, ((a, false) :: B) ++ C, ⟨some (.ref a), ws, (a, false) :: B, C, rfl, rfl, .inr ⟨_, rfl, ?_⟩, ownS_mono (fun _ _ e => e) h2 fun b hb => hH b (List.mem_append_right _ hb)⟩, h.nd, h.dj, h.lk.upd (h.dj (a, false) (by simp) rfl)⟩
  exact ht F _ a B rfl upd_same (ownL_mono (fun _ _ e => e) (ownS_L h1) fun b hb => hH b (List.mem_append_left _ hb))
theorem Rp.fillL {ts us : List T} {vs : List V} {ws : List (Option V)} {a : Addr} (h : Rp K (.hole :: (ts ++ us)) (some (.ref a) :: (vs.map some ++ ws)) H) (l : ts.length = vs.length) : Rp K (.lst true ts :: us) (some (.ref a) :: ws) (upd H a (.lst vs)) := by
  obtain ⟨b, e, h⟩ := h.fill (t := .lst true ts) (u := .lst vs) l fun F H' a B e h1 h2 => by
    unfold Own
    exact ⟨a, vs, B, e, .inl ⟨rfl, rfl, h1⟩, h2⟩
  cases e
  exact h
theorem Rp.fillK {ks : List Key} {ts us : List T} {vs : List V} {ws : List (Option V)} {a : Addr} (h : Rp K (.hole :: (ts ++ us)) (some (.ref a) :: (vs.map some ++ ws)) H) (l : ts.length = vs.length) (l2 : ks.length = vs.length) (nd : ks.Nodup) : Rp K (.dK true ks ts :: us) (some (.ref a) :: ws) (upd H a (.dK (ks.zip vs))) := by
  obtain ⟨b, e, h⟩ := h.fill (t := .dK true ks ts) (u := .dK (ks.zip vs)) l fun F H' a B e h1 h2 => by
    unfold Own
    exact ⟨a, vs, B, e, ⟨l2.symm, nd⟩, .inl ⟨rfl, rfl, h1⟩, h2⟩
  cases e
  exact h
theorem Rp.fillT {ks : List (List Key)} {ts us : List T} {vs : List V} {ws : List (Option V)} {a : Addr} (h : Rp K (.hole :: (ts ++ us)) (some (.ref a) :: (vs.map some ++ ws)) H) (l : ts.length = vs.length) (l2 : ks.length = vs.length) (nd : ks.Nodup) : Rp K (.dT true ks ts :: us) (some (.ref a) :: ws) (upd H a (.dT (ks.zip vs))) := by
  obtain ⟨b, e, h⟩ := h.fill (t := .dT true ks ts) (u := .dT (ks.zip vs)) l fun F H' a B e h1 h2 => by
    unfold Own
    exact ⟨a, vs, B, e, ⟨l2.symm, nd⟩, .inl ⟨rfl, rfl, h1⟩, h2⟩
  cases e
  exact h
theorem Rp.fillI {C dx : Addr} {fs : List Str} {ts us : List T} {vs : List V} {ws : List (Option V)} {a : Addr} (h : Rp K (.hole :: (ts ++ us)) (some (.ref a) :: (vs.map some ++ ws)) H) (l : ts.length = vs.length) (l2 : fs.length = vs.length) :
    Rp K (.ins true C fs ts :: us) (some (.ref a) :: ws) (upd H a (.ins C dx (fs.zip vs))) := by
  obtain ⟨b, e, h⟩ := h.fill (t := .ins true C fs ts) (u := .ins C dx (fs.zip vs)) l fun F H' a B e h1 h2 => by
    unfold Own
    exact ⟨a, dx, vs, B, e, l2.symm, .inl ⟨rfl, rfl, h1⟩, h2⟩
  cases e
  exact h
/-- an owned object is opened: its parts wait, and the hole -/
theorem Rp.openX {t : T} {us ts : List T} {o : Option V} {ws : List (Option V)} {R : Addr → List V → Prop} (h : Rp K (t :: us) (o :: ws) H)
    (ht : ∀ (F : Hp) (x : V) (A : List Fp), OwnO K F H t o A → ∃ a u vs B, o = some (.ref a) ∧ A = (a, false) :: B ∧ (H a = some u ∧ nt u = true) ∧ OwnL K F H ts vs B ∧ R a vs) : ∃ a vs, o = some (.ref a) ∧ R a vs ∧ ts.length = vs.length ∧ Rp K (.hole :: (ts ++ us)) (some (.ref a) :: (vs.map some ++ ws)) H := by
  obtain ⟨F, A, h⟩ := h
  obtain ⟨o', r, B0, C0, e, rfl, h0, h3⟩ := id h.own
  obtain ⟨rfl, rfl⟩ := List.cons.inj e
  obtain ⟨a, u, vs, B, e1, rfl, h1, h2, h4⟩ := ht F .non B0 h0
  exact ⟨a, vs, e1, h4, ownL_length h2, F, ((a, false) :: B) ++ C0, ⟨some (.ref a), vs.map some ++ ws, [(a, false)], B ++ C0, rfl, rfl, .inr ⟨_, rfl, by unfold Own; exact ⟨a, u, rfl, rfl, h1.1, h1.2⟩⟩, ownS_join (ownL_S h2) h3⟩, h.nd, h.dj, h.lk⟩
theorem Rp.openL {us ts : List T} {o : Option V} {ws : List (Option V)} (h : Rp K (.lst true ts :: us) (o :: ws) H) : ∃ a vs, o = some (.ref a) ∧ H a = some (.lst vs) ∧ ts.length = vs.length ∧ Rp K (.hole :: (ts ++ us)) (some (.ref a) :: (vs.map some ++ ws)) H := by
  refine h.openX fun F x A g => ?_
  rcases g with ⟨e, _⟩ | ⟨y, rfl, g⟩
  · cases e
  unfold Own at g
  obtain ⟨a, vs, B, rfl, c, g⟩ := g
  rcases c with ⟨_, rfl, c⟩ | ⟨e, _⟩
  · exact ⟨a, _, vs, B, rfl, rfl, ⟨c, rfl⟩, g, c⟩
  · cases e
theorem Rp.openK {us ts : List T} {ks : List Key} {o : Option V} {ws : List (Option V)} (h : Rp K (.dK true ks ts :: us) (o :: ws) H) : ∃ a vs, o = some (.ref a) ∧ (H a = some (.dK (ks.zip vs)) ∧ ks.length = vs.length ∧ ks.Nodup) ∧ ts.length = vs.length ∧ Rp K (.hole :: (ts ++ us)) (some (.ref a) :: (vs.map some ++ ws)) H := by
  refine h.openX (R := fun a vs => H a = some (.dK (ks.zip vs)) ∧ ks.length = vs.length ∧ ks.Nodup) fun F x A g => ?_
  rcases g with ⟨e, _⟩ | ⟨y, rfl, g⟩
  · cases e
  unfold Own at g
  obtain ⟨a, vs, B, rfl, l, c, g⟩ := g
  rcases c with ⟨_, rfl, c⟩ | ⟨e, _⟩
  · exact ⟨a, _, vs, B, rfl, rfl, ⟨c, rfl⟩, g, c, l.1.symm, l.2⟩
  · cases e
theorem Rp.openT {us ts : List T} {ks : List (List Key)} {o : Option V} {ws : List (Option V)} (h : Rp K (.dT true ks ts :: us) (o :: ws) H) : ∃ a vs, o = some (.ref a) ∧ (H a = some (.dT (ks.zip vs)) ∧ ks.length = vs.length ∧ ks.Nodup) ∧ ts.length = vs.length ∧ Rp K (.hole :: (ts ++ us)) (some (.ref a) :: (vs.map some ++ ws)) H := by
  refine h.openX (R := fun a vs => H a = some (.dT (ks.zip vs)) ∧ ks.length = vs.length ∧ ks.Nodup) fun F x A g => ?_
  rcases g with ⟨e, _⟩ | ⟨y, rfl, g⟩
  · cases e
  unfold Own at g
  obtain ⟨a, vs, B, rfl, l, c, g⟩ := g
  rcases c with ⟨_, rfl, c⟩ | ⟨e, _⟩
  · exact ⟨a, _, vs, B, rfl, rfl, ⟨c, rfl⟩, g, c, l.1.symm, l.2⟩
  · cases e
theorem Rp.openI {us ts : List T} {C : Addr} {fs : List Str} {o : Option V} {ws : List (Option V)} (h : Rp K (.ins true C fs ts :: us) (o :: ws) H) : ∃ a vs, o = some (.ref a) ∧ ((∃ dx, H a = some (.ins C dx (fs.zip vs))) ∧ fs.length = vs.length) ∧ ts.length = vs.length ∧ Rp K (.hole :: (ts ++ us)) (some (.ref a) :: (vs.map some ++ ws)) H := by
  refine h.openX (R := fun a vs => (∃ dx, H a = some (.ins C dx (fs.zip vs))) ∧ fs.length = vs.length) fun F x A g => ?_
  rcases g with ⟨e, _⟩ | ⟨y, rfl, g⟩
  · cases e
  unfold Own at g
  obtain ⟨a, dx, vs, B, rfl, l, c, g⟩ := g
  rcases c with ⟨_, rfl, c⟩ | ⟨e, _⟩
  · exact ⟨a, _, vs, B, rfl, rfl, ⟨c, rfl⟩, g, ⟨dx, c⟩, l.symm⟩
  · cases e

theorem ownL_get : ∀ {ts : List T} {vs : List V} {A : List Fp} {i : Nat} {t : T} {v : V}, OwnL K F H ts vs A → ts[i]? = some t → vs[i]? = some v → Fz t → Own K F H t v []
  | [], vs, A, i, t, v, h, e, _, _ => by simp at e
  | t0 :: ts, vs, A, i, t, v, h, e1, e2, z => by
    unfold OwnL at h
    obtain ⟨v0, r, B, C, rfl, rfl, h1, h2⟩ := h
    cases i with
    | zero =>
      have a1 : t0 = t := Option.some.inj e1
      have a2 : v0 = v := Option.some.inj e2
      subst a1 a2
      have := own_fz h1 z
      subst this
      exact h1
    | succ i => exact ownL_get h2 e1 e2 z
/-- an object is read: it, and its parts that are still -/
def Parts (K : KL) (H : Hp) (xs : List T) (ws : List V) (ts : List T) (vs : List (Option V)) : Prop := xs.length = ws.length ∧ ∀ (i : Nat) (t : T) (v : V), xs[i]? = some t → ws[i]? = some v → Fz t → Rp K (t :: ts) (some v :: vs) H
theorem parts_of {A : List Fp} {xs : List T} {ws : List V} {B : List Fp} {ts : List T} {vs : List (Option V)} (h : RpX K F A ts vs H) (o : OwnL K F H xs ws B) : Parts K H xs ws ts vs :=
  ⟨ownL_length o, fun i t v e1 e2 z => ⟨F, A, ⟨some v, vs, [], A, rfl, rfl, .inr ⟨v, rfl, ownL_get o e1 e2 z⟩, h.own⟩, h.nd, h.dj, h.lk⟩⟩
theorem Rp.rdL {o : Bool} {xs ts : List T} {w : Option V} {vs : List (Option V)} (h : Rp K (.lst o xs :: ts) (w :: vs) H) : ∃ a ws, w = some (.ref a) ∧ H a = some (.lst ws) ∧ Parts K H xs ws (.lst o xs :: ts) (w :: vs) := by
  obtain ⟨F, A, h⟩ := h
  obtain ⟨o', r, B0, C0, e, rfl, h0, h3⟩ := id h.own
  obtain ⟨rfl, rfl⟩ := List.cons.inj e
  rcases h0 with ⟨e, _⟩ | ⟨y, rfl, g⟩
  · cases e
  unfold Own at g
  obtain ⟨a, ws, B, rfl, c, g⟩ := g
  refine ⟨a, ws, rfl, ?_, parts_of h g⟩
  rcases c with ⟨_, _, c⟩ | ⟨_, _, _, c⟩
  · exact c
  · rcases h.le _ _ c with c | ⟨e, _⟩
    · exact c
    · cases e
theorem Rp.rdU {xs ts : List T} {w : Option V} {vs : List (Option V)} (h : Rp K (.tup xs :: ts) (w :: vs) H) : ∃ a ws, w = some (.ref a) ∧ H a = some (.tup ws) ∧ Parts K H xs ws (.tup xs :: ts) (w :: vs) := by
  obtain ⟨F, A, h⟩ := h
  obtain ⟨o', r, B0, C0, e, rfl, h0, h3⟩ := id h.own
  obtain ⟨rfl, rfl⟩ := List.cons.inj e
  rcases h0 with ⟨e, _⟩ | ⟨y, rfl, g⟩
  · cases e
  unfold Own at g
  obtain ⟨a, ws, rfl, c, g⟩ := g
  refine ⟨a, ws, rfl, ?_, parts_of h g⟩
  rcases h.le _ _ c with c | ⟨e, _⟩
  · exact c
  · cases e
theorem Rp.rdR {xs : List V} {ts : List T} {w : Option V} {vs : List (Option V)} (h : Rp K (.ro xs :: ts) (w :: vs) H) : ∃ a, w = some (.ref a) ∧ SqL K.k H a xs := by
  obtain ⟨F, A, h⟩ := h
  obtain ⟨o', r, B0, C0, e, rfl, h0, h3⟩ := id h.own
  obtain ⟨rfl, rfl⟩ := List.cons.inj e
  rcases h0 with ⟨e, _⟩ | ⟨y, rfl, g⟩
  · cases e
  unfold Own at g
  obtain ⟨a, rfl, rfl, c⟩ := g
  refine ⟨a, rfl, ?_⟩
  rcases c with (c | ⟨o, c⟩) | c
  · exact .inl (h.le _ _ c).rd
  · rcases h.le _ _ c with c | ⟨e, _⟩
    · exact .inl (.inr ⟨o, c⟩)
    · cases e
  · exact .inr c
theorem Rp.rdK {o : Bool} {ks : List Key} {xs ts : List T} {w : Option V} {vs : List (Option V)} (h : Rp K (.dK o ks xs :: ts) (w :: vs) H) : ∃ a ws, w = some (.ref a) ∧ Rd H a (.dK (ks.zip ws)) ∧ (ks.length = ws.length ∧ ks.Nodup) ∧ Parts K H xs ws (.dK o ks xs :: ts) (w :: vs) := by
  obtain ⟨F, A, h⟩ := h
  obtain ⟨o', r, B0, C0, e, rfl, h0, h3⟩ := id h.own
  obtain ⟨rfl, rfl⟩ := List.cons.inj e
  rcases h0 with ⟨e, _⟩ | ⟨y, rfl, g⟩
  · cases e
  unfold Own at g
  obtain ⟨a, ws, B, rfl, l, c, g⟩ := g
  refine ⟨a, ws, rfl, ?_, ⟨l.1.symm, l.2⟩, parts_of h g⟩
  rcases c with ⟨_, _, c⟩ | ⟨_, _, _, c⟩
  · exact .inl c
  · exact (h.le _ _ c).rd
theorem Rp.rdT {o : Bool} {ks : List (List Key)} {xs ts : List T} {w : Option V} {vs : List (Option V)} (h : Rp K (.dT o ks xs :: ts) (w :: vs) H) : ∃ a ws, w = some (.ref a) ∧ Rd H a (.dT (ks.zip ws)) ∧ (ks.length = ws.length ∧ ks.Nodup) ∧ Parts K H xs ws (.dT o ks xs :: ts) (w :: vs) := by
  obtain ⟨F, A, h⟩ := h
  obtain ⟨o', r, B0, C0, e, rfl, h0, h3⟩ := id h.own
  obtain ⟨rfl, rfl⟩ := List.cons.inj e
  rcases h0 with ⟨e, _⟩ | ⟨y, rfl, g⟩
  · cases e
  unfold Own at g
  obtain ⟨a, ws, B, rfl, l, c, g⟩ := g
  refine ⟨a, ws, rfl, ?_, ⟨l.1.symm, l.2⟩, parts_of h g⟩
  rcases c with ⟨_, _, c⟩ | ⟨_, _, _, c⟩
  · exact .inl c
  · exact (h.le _ _ c).rd
theorem Rp.rdI {o : Bool} {C : Addr} {fs : List Str} {xs ts : List T} {w : Option V} {vs : List (Option V)} (h : Rp K (.ins o C fs xs :: ts) (w :: vs) H) : ∃ a dx ws, w = some (.ref a) ∧ H a = some (.ins C dx (fs.zip ws)) ∧ fs.length = ws.length ∧ Parts K H xs ws (.ins o C fs xs :: ts) (w :: vs) := by
  obtain ⟨F, A, h⟩ := h
  obtain ⟨o', r, B0, C0, e, rfl, h0, h3⟩ := id h.own
  obtain ⟨rfl, rfl⟩ := List.cons.inj e
  rcases h0 with ⟨e, _⟩ | ⟨y, rfl, g⟩
  · cases e
  unfold Own at g
  obtain ⟨a, dx, ws, B, rfl, l, c, g⟩ := g
  refine ⟨a, dx, ws, rfl, ?_, l.symm, parts_of h g⟩
  rcases c with ⟨_, _, c⟩ | ⟨_, _, _, c⟩
  · exact c
  · rcases h.le _ _ c with c | ⟨e, _⟩
    · exact c
    · cases e



/- no tuple is owned -/
mutual
theorem own_nt {q : Addr} {ws : List V} (hq : H q = some (.tup ws)) : ∀ {t : T} {v : V} {A : List Fp}, Own K F H t v A → (q, false) ∉ A
  | .gone, v, A, h => by unfold Own at h; rw [h]; intro ha; cases ha
  | .hole, v, A, h => by
    unfold Own at h
    obtain ⟨a, u, e, rfl, h, hn⟩ := h
    intro hb
    cases List.mem_singleton.mp hb
    rw [hq] at h
    cases h
    cases hn
  | .ro xs, v, A, h => by
    unfold Own at h
    obtain ⟨a, e, rfl, h⟩ := h
    intro hb; cases hb
  | .v x, v, A, h => by unfold Own at h; rw [h.2]; intro ha; cases ha
  | .lst o ts, v, A, h => by
    unfold Own at h
    obtain ⟨a, vs, B, e, c, h⟩ := h
    rcases c with ⟨_, rfl, c⟩ | ⟨_, rfl, _, c⟩
    · intro hb
      rcases List.mem_cons.mp hb with e | hb
      · cases e
        rw [hq] at c
        cases c
      · exact ownL_nt hq h hb
    · intro hb; cases hb
  | .tup ts, v, A, h => by
    unfold Own at h
    obtain ⟨a, vs, e, c, h⟩ := h
    exact ownL_nt hq h
  | .dK o ks ts, v, A, h => by
    unfold Own at h
    obtain ⟨a, vs, B, e, l, c, h⟩ := h
    rcases c with ⟨_, rfl, c⟩ | ⟨_, rfl, _, c⟩
    · intro hb
      rcases List.mem_cons.mp hb with e | hb
      · cases e
        rw [hq] at c
        cases c
      · exact ownL_nt hq h hb
    · intro hb; cases hb
  | .dT o ks ts, v, A, h => by
    unfold Own at h
    obtain ⟨a, vs, B, e, l, c, h⟩ := h
    rcases c with ⟨_, rfl, c⟩ | ⟨_, rfl, _, c⟩
    · intro hb
      rcases List.mem_cons.mp hb with e | hb
      · cases e
        rw [hq] at c
        cases c
      · exact ownL_nt hq h hb
    · intro hb; cases hb
  | .ins o C fs ts, v, A, h => by
    unfold Own at h
    obtain ⟨a, dx, vs, B, e, l, c, h⟩ := h
    rcases c with ⟨_, rfl, c⟩ | ⟨_, rfl, _, c⟩
    · intro hb
      rcases List.mem_cons.mp hb with e | hb
      · cases e
        rw [hq] at c
        cases c
      · exact ownL_nt hq h hb
    · intro hb; cases hb
theorem ownL_nt {q : Addr} {ws : List V} (hq : H q = some (.tup ws)) : ∀ {ts : List T} {vs : List V} {A : List Fp}, OwnL K F H ts vs A → (q, false) ∉ A
  | [], vs, A, h => by unfold OwnL at h; rw [h.2]; intro ha; cases ha
  | t :: ts, vs, A, h => by
    unfold OwnL at h
    obtain ⟨v, r, B, C, e1, rfl, h1, h2⟩ := h
    intro hb
    rcases List.mem_append.mp hb with hb | hb
    · exact own_nt hq h1 hb
    · exact ownL_nt hq h2 hb
end
theorem ownS_nt {q : Addr} {ws : List V} (hq : H q = some (.tup ws)) : ∀ {ts : List T} {vs : List (Option V)} {A : List Fp}, OwnS K F H ts vs A → (q, false) ∉ A
  | [], vs, A, h => by rw [h.2]; intro ha; cases ha
  | t :: ts, vs, A, h => by
    obtain ⟨o, r, B, C, e1, rfl, h1, h2⟩ := h
    intro hb
    rcases List.mem_append.mp hb with hb | hb
    · rcases h1 with ⟨_, rfl⟩ | ⟨x, _, h1⟩
      · cases hb
      · exact own_nt hq h1 hb
    · exact ownS_nt hq h2 hb
theorem ownL_sc : ∀ (ws : List V), OwnL K F H (ws.map T.v) ws []
  | [] => by unfold OwnL; exact ⟨rfl, rfl⟩
  | w :: ws => by
    rw [List.map_cons]
    unfold OwnL
    exact ⟨w, ws, [], [], rfl, rfl, by unfold Own; exact ⟨rfl, rfl⟩, ownL_sc ws⟩
/-- a tuple that stands anywhere may be told -/
theorem Rp.tupIn {ts : List T} {vs : List (Option V)} {q : Addr} {ws : List V} (h : Rp K ts vs H) (hq : H q = some (.tup ws)) : Rp K (.tup (ws.map T.v) :: ts) (some (.ref q) :: vs) H := by
  obtain ⟨F, A, h⟩ := h
  have hF : ∀ a u, F a = some u → upd F q (.tup ws) a = some u := fun a u e => by
    by_cases z : a = q
    · subst z
      rcases h.le a u e with c | ⟨d, o, c⟩
      · rw [hq] at c
        rw [upd_same, c]
      · rw [hq] at c
        cases c
    · rw [upd_ne z]
      exact e
  refine ⟨upd F q (.tup ws), A, ⟨some (.ref q), vs, [], A, rfl, rfl, .inr ⟨_, rfl, ?_⟩, ownS_mono hF h.own fun _ _ => rfl⟩, h.nd, fun a ha ha2 => ?_, h.lk.more hF fun a u e => ?_⟩
  · unfold Own
    exact ⟨q, ws, rfl, upd_same, ownL_sc ws⟩
  · rw [upd_ne fun z => ownS_nt hq h.own (by rw [← z, ← ha2]; exact ha)]
    exact h.dj a ha ha2
  · by_cases z : a = q
    · subst z
      rw [upd_same] at e
      cases e
      exact .inr hq
    · rw [upd_ne z] at e
      exact .inl e


mutual
theorem own_k {k : PySem.W.Frag} {L L' : List (Addr × Obj × HO)} : ∀ {t : T} {v : V} {A : List Fp}, Own ⟨k, L⟩ F H t v A → Own ⟨k, L'⟩ F H t v A
  | .gone, v, A, h => by unfold Own at h ⊢; exact h
  | .hole, v, A, h => by unfold Own at h ⊢; exact h
  | .ro _, v, A, h => by unfold Own at h ⊢; exact h
  | .v _, v, A, h => by unfold Own at h ⊢; exact h
  | .lst o ts, v, A, h => by
    unfold Own at h ⊢
    obtain ⟨a, vs, B, e, c, h⟩ := h
    exact ⟨a, vs, B, e, c, ownL_k h⟩
  | .tup ts, v, A, h => by
    unfold Own at h ⊢
    obtain ⟨a, vs, e, c, h⟩ := h
    exact ⟨a, vs, e, c, ownL_k h⟩
  | .dK o ks ts, v, A, h => by
    unfold Own at h ⊢
    obtain ⟨a, vs, B, e, l, c, h⟩ := h
    exact ⟨a, vs, B, e, l, c, ownL_k h⟩
  | .dT o ks ts, v, A, h => by
    unfold Own at h ⊢
    obtain ⟨a, vs, B, e, l, c, h⟩ := h
    exact ⟨a, vs, B, e, l, c, ownL_k h⟩
  | .ins o C fs ts, v, A, h => by
    unfold Own at h ⊢
    obtain ⟨a, dx, vs, B, e, l, c, h⟩ := h
    exact ⟨a, dx, vs, B, e, l, c, ownL_k h⟩
theorem ownL_k {k : PySem.W.Frag} {L L' : List (Addr × Obj × HO)} : ∀ {ts : List T} {vs : List V} {A : List Fp}, OwnL ⟨k, L⟩ F H ts vs A → OwnL ⟨k, L'⟩ F H ts vs A
  | [], vs, A, h => by unfold OwnL at h ⊢; exact h
  | t :: ts, vs, A, h => by
    unfold OwnL at h ⊢
    obtain ⟨v, r, B, C, e1, e2, h1, h2⟩ := h
    exact ⟨v, r, B, C, e1, e2, own_k h1, ownL_k h2⟩
end
theorem ownS_k {k : PySem.W.Frag} {L L' : List (Addr × Obj × HO)} : ∀ {ts : List T} {vs : List (Option V)} {A : List Fp}, OwnS ⟨k, L⟩ F H ts vs A → OwnS ⟨k, L'⟩ F H ts vs A
  | [], vs, A, h => h
  | t :: ts, vs, A, h => by
    obtain ⟨o, r, B, C, e1, e2, h1, h2⟩ := h
    refine ⟨o, r, B, C, e1, e2, ?_, ownS_k h2⟩
    rcases h1 with h1 | ⟨x, e, h1⟩
    · exact .inl h1
    · exact .inr ⟨x, e, own_k h1⟩
/-- a dict that stands still is locked, and given back -/
theorem Rp.lock {k : PySem.W.Frag} {L : List (Addr × Obj × HO)} {ts : List T} {vs : List (Option V)} {u : HO} {a : Addr} (h : Rp ⟨k, L⟩ ts vs H) (ha : ∀ F A, RpX ⟨k, L⟩ F A ts vs H → F a = some u) (hu : isDi u = true) (hn : H a = some u) (nf : ∀ o u', u ≠ .frz o u') (od : Obj) :
    Rp ⟨k, (a, od, u) :: L⟩ ts vs (upd H a (.frz od u)) ∧ ∀ o u', (a, o, u') ∉ L := by
  obtain ⟨F, A, h⟩ := h
  have f1 := ha F A h
  have n2 : ∀ o u', (a, o, u') ∉ L := fun o u' z => by
    obtain ⟨_, _, c⟩ := h.lk.lk a o u' z
    rw [hn] at c
    exact nf _ _ (Option.some.inj c)
  have n1 : ∀ b ∈ A, b.1 ≠ a := by
    intro b hb z
    obtain ⟨b1, b2⟩ := b
    cases z
    cases b2 with
    | false =>
      rw [show F b1 = none from h.dj (b1, false) hb rfl] at f1
      cases f1
    | true => exact ownS_tok h.own _ hb rfl
  refine ⟨⟨F, A, ownS_k (ownS_mono (fun _ _ e => e) h.own fun b hb => upd_ne (n1 b hb)), h.nd, h.dj, fun b w e => ?_, fun b o w e => ?_⟩, n2⟩
  · by_cases z : b = a
    · subst z
      rw [f1] at e
      cases e
      exact .inr ⟨od, List.mem_cons_self⟩
    · rw [upd_ne z]
      rcases h.lk.fx b w e with c | ⟨o, c⟩
      · exact .inl c
      · exact .inr ⟨o, List.mem_cons_of_mem _ c⟩
  · rcases List.mem_cons.mp e with e | e
    · cases e
      exact ⟨f1, hu, upd_same⟩
    · have z : b ≠ a := fun z => n2 o w (by rw [← z]; exact e)
      rw [upd_ne z]
      exact h.lk.lk b o w e
theorem Rp.unlock {k : PySem.W.Frag} {L : List (Addr × Obj × HO)} {ts : List T} {vs : List (Option V)} {u : HO} {a : Addr} {od : Obj} (h : Rp ⟨k, (a, od, u) :: L⟩ ts vs H) (hn : ∀ o u', (a, o, u') ∉ L) : H a = some (.frz od u) ∧ Rp ⟨k, L⟩ ts vs (upd H a u) := by
  obtain ⟨F, A, h⟩ := h
  obtain ⟨f1, hu, h1⟩ := h.lk.lk a od u List.mem_cons_self
  have n1 : ∀ b ∈ A, b.1 ≠ a := by
    intro b hb z
    obtain ⟨b1, b2⟩ := b
    cases z
    cases b2 with
    | false =>
      rw [show F b1 = none from h.dj (b1, false) hb rfl] at f1
      cases f1
    | true => exact ownS_tok h.own _ hb rfl
  refine ⟨h1, F, A, ownS_k (ownS_mono (fun _ _ e => e) h.own fun b hb => upd_ne (n1 b hb)), h.nd, h.dj, fun b w e => ?_, fun b o w e => ?_⟩
  · by_cases z : b = a
    · subst z
      rw [f1] at e
      cases e
      exact .inl upd_same
    · rw [upd_ne z]
      rcases h.lk.fx b w e with c | ⟨o, c⟩
      · exact .inl c
      · rcases List.mem_cons.mp c with c | c
        · cases c
          exact absurd rfl z
        · exact .inr ⟨o, c⟩
  · have z : b ≠ a := fun z => hn o w (by rw [← z]; exact e)
    rw [upd_ne z]
    exact h.lk.lk b o w (List.mem_cons_of_mem _ e)
/-- a lock holds -/
theorem Rp.locked {ts : List T} {vs : List (Option V)} {u : HO} {a : Addr} {od : Obj} (h : Rp K ts vs H) (e : (a, od, u) ∈ K.l) : H a = some (.frz od u) := by
  obtain ⟨F, A, h⟩ := h
  exact (h.lk.lk a od u e).2.2

/-! ### parts taken out, and put in again -/
def _root_.DL.T.kids : T → List T
  | .lst _ xs => xs
  | .tup xs => xs
  | .dK _ _ xs => xs
  | .dT _ _ xs => xs
  | .ins _ _ _ xs => xs
  | _ => []
def _root_.DL.T.withKids : T → List T → T
  | .lst o _, us => .lst o us
  | .tup _, us => .tup us
  | .dK o ks _, us => .dK o ks us
  | .dT o ks _, us => .dT o ks us
  | .ins o C fs _, us => .ins o C fs us
  | t, _ => t
def _root_.DL.T.mine : T → Bool
  | .lst o _ => o
  | .tup _ => true
  | .dK o _ _ => o
  | .dT o _ _ => o
  | .ins o _ _ _ => o
  | _ => false
/-- the values that an object's parts have -/
def KidV (H : Hp) : T → V → List V → Prop
  | .lst _ _, x, ws => ∃ a, x = .ref a ∧ H a = some (.lst ws)
  | .tup _, x, ws => ∃ a, x = .ref a ∧ H a = some (.tup ws)
  | .dK _ ks _, x, ws => ∃ a, x = .ref a ∧ ks.length = ws.length ∧ H a = some (.dK (ks.zip ws))
  | .dT _ ks _, x, ws => ∃ a, x = .ref a ∧ ks.length = ws.length ∧ H a = some (.dT (ks.zip ws))
  | .ins _ C fs _, x, ws => ∃ a dx, x = .ref a ∧ fs.length = ws.length ∧ H a = some (.ins C dx (fs.zip ws))
  | _, _, _ => False
theorem own_kids {t : T} {x : V} {A : List Fp} (h : Own K F H t x A) (m : t.mine = true) (lk : LkOk K F H) : ∃ ws pre B, KidV H t x ws ∧ A = pre ++ B ∧ OwnL K F H t.kids ws B ∧ ∀ us B', OwnL K F H us ws B' → Own K F H (t.withKids us) x (pre ++ B') := by
  cases t with
  | lst o xs =>
    cases o with
    | false => cases m
    | true =>
      unfold Own at h
      obtain ⟨a, ws, B, rfl, c, h⟩ := h
      rcases c with ⟨_, rfl, c⟩ | ⟨e, _⟩
      · refine ⟨ws, [(a, false)], B, ⟨a, rfl, c⟩, rfl, h, fun us B' h' => ?_⟩
        show Own K F H (.lst true us) _ _
        unfold Own
        exact ⟨a, ws, B', rfl, .inl ⟨rfl, rfl, c⟩, h'⟩
      · cases e
  | tup xs =>
    unfold Own at h
    obtain ⟨a, ws, rfl, c, h⟩ := h
    refine ⟨ws, [], A, ⟨a, rfl, ?_⟩, rfl, h, fun us B' h' => ?_⟩
    · rcases lk.rd _ _ c with c | ⟨e, _⟩
      · exact c
      · cases e
    show Own K F H (.tup us) _ _
    unfold Own
    exact ⟨a, ws, rfl, c, h'⟩
  | dK o ks xs =>
    cases o with
    | false => cases m
    | true =>
      unfold Own at h
      obtain ⟨a, ws, B, rfl, l, c, h⟩ := h
      rcases c with ⟨_, rfl, c⟩ | ⟨e, _⟩
      · refine ⟨ws, [(a, false)], B, ⟨a, rfl, l.1.symm, c⟩, rfl, h, fun us B' h' => ?_⟩
        show Own K F H (.dK true ks us) _ _
        unfold Own
        exact ⟨a, ws, B', rfl, l, .inl ⟨rfl, rfl, c⟩, h'⟩
      · cases e
  | dT o ks xs =>
    cases o with
    | false => cases m
    | true =>
      unfold Own at h
      obtain ⟨a, ws, B, rfl, l, c, h⟩ := h
      rcases c with ⟨_, rfl, c⟩ | ⟨e, _⟩
      · refine ⟨ws, [(a, false)], B, ⟨a, rfl, l.1.symm, c⟩, rfl, h, fun us B' h' => ?_⟩
        show Own K F H (.dT true ks us) _ _
        unfold Own
        exact ⟨a, ws, B', rfl, l, .inl ⟨rfl, rfl, c⟩, h'⟩
      · cases e
  | ins o C fs xs =>
    cases o with
    | false => cases m
    | true =>
      unfold Own at h
      obtain ⟨a, dx, ws, B, rfl, l, c, h⟩ := h
      rcases c with ⟨_, rfl, c⟩ | ⟨e, _⟩
      · refine ⟨ws, [(a, false)], B, ⟨a, dx, rfl, l.symm, c⟩, rfl, h, fun us B' h' => ?_⟩
        show Own K F H (.ins true C fs us) _ _
        unfold Own
        exact ⟨a, dx, ws, B', rfl, l, .inl ⟨rfl, rfl, c⟩, h'⟩
      · cases e
  | _ => cases m
theorem ownL_set : ∀ {ts : List T} {vs : List V} {A : List Fp} {j : Nat} {t : T}, OwnL K F H ts vs A → ts[j]? = some t →
    ∃ v A1 C A2, vs[j]? = some v ∧ A = A1 ++ (C ++ A2) ∧ Own K F H t v C ∧ ∀ (u : T) (B : List Fp), Own K F H u v B → OwnL K F H (ts.set j u) vs (A1 ++ (B ++ A2))
  | [], vs, A, j, t, h, e => by simp at e
  | t0 :: ts, vs, A, 0, t, h, e => by
    unfold OwnL at h
    obtain ⟨v, r, B, C, rfl, rfl, h1, h2⟩ := h
    have : t0 = t := Option.some.inj e
    subst this
    refine ⟨v, [], B, C, rfl, rfl, h1, fun u B' hb => ?_⟩
    rw [List.set_cons_zero]
    unfold OwnL
    exact ⟨v, r, B', C, rfl, rfl, hb, h2⟩
  | t0 :: ts, vs, A, j + 1, t, h, e => by
    unfold OwnL at h
    obtain ⟨v, r, B, C, rfl, rfl, h1, h2⟩ := h
    obtain ⟨v', A1, C1, A2, e1, rfl, h3, h4⟩ := ownL_set h2 (by simpa using e)
    refine ⟨v', B ++ A1, C1, A2, by simpa using e1, by rw [List.append_assoc], h3, fun u B' hb => ?_⟩
    rw [List.set_cons_succ]
    unfold OwnL
    exact ⟨v, r, B, A1 ++ (B' ++ A2), rfl, by rw [List.append_assoc], h1, h4 u B' hb⟩
theorem Rp.kidOut {t u : T} {ts : List T} {x : Option V} {vs : List (Option V)} {j : Nat} (h : Rp K (t :: ts) (x :: vs) H) (m : t.mine = true) (e : t.kids[j]? = some u) :
    ∃ v y ws, x = some y ∧ KidV H t y ws ∧ t.kids.length = ws.length ∧ ws[j]? = some v ∧ Rp K (u :: t.withKids (t.kids.set j (.v v)) :: ts) (some v :: x :: vs) H := by
  obtain ⟨F, A, h⟩ := h
  obtain ⟨o', r, B0, C0, e0, rfl, h0, h3⟩ := id h.own
  obtain ⟨rfl, rfl⟩ := List.cons.inj e0
  rcases h0 with ⟨rfl, _⟩ | ⟨y, rfl, g⟩
  · cases m
  obtain ⟨ws, pre, B, kv, rfl, g1, g2⟩ := own_kids g m h.lk
  obtain ⟨v, A1, C1, A2, ev, rfl, g3, g4⟩ := ownL_set g1 e
  refine ⟨v, y, ws, rfl, kv, ownL_length g1, ev, F, C1 ++ ((pre ++ (A1 ++ ([] ++ A2))) ++ C0), h.perm ⟨some v, some y :: vs, C1, _, rfl, rfl, .inr ⟨v, rfl, g3⟩, some y, vs, _, C0, rfl, rfl, .inr ⟨y, rfl, g2 _ _ (g4 (.v v) [] (by unfold Own; exact ⟨rfl, rfl⟩))⟩, h3⟩ _ ?_ (List.Sublist.refl _)⟩
  simp only [List.nil_append, List.append_assoc]
  have p1 : (C1 ++ (pre ++ (A1 ++ (A2 ++ C0)))).Perm (pre ++ (C1 ++ (A1 ++ (A2 ++ C0)))) := List.perm_append_comm_assoc ..
  exact p1.trans (List.Perm.append_left _ (List.perm_append_comm_assoc ..))
theorem Rp.kidIn {t u : T} {ts : List T} {x : Option V} {v : V} {vs : List (Option V)} {j : Nat} (h : Rp K (u :: t :: ts) (some v :: x :: vs) H) (m : t.mine = true) (e : t.kids[j]? = some (.v v)) :
    Rp K (t.withKids (t.kids.set j u) :: ts) (x :: vs) H := by
  obtain ⟨F, A, h⟩ := h
  obtain ⟨o1, r1, B1, C1, e1, rfl, hu, h1⟩ := id h.own
  obtain ⟨rfl, rfl⟩ := List.cons.inj e1
  obtain ⟨o', r, B0, C0, e0, rfl, h0, h3⟩ := id h1
  obtain ⟨rfl, rfl⟩ := List.cons.inj e0
  rcases h0 with ⟨rfl, _⟩ | ⟨y, rfl, g⟩
  · cases m
  obtain ⟨ws, pre, B, kv, rfl, g1, g2⟩ := own_kids g m h.lk
  obtain ⟨v', A1, C2, A2, ev, rfl, g3, g4⟩ := ownL_set g1 e
  unfold Own at g3
  obtain ⟨rfl, rfl⟩ := g3
  have hu' : Own K F H u v' B1 := by
    rcases hu with ⟨rfl, rfl⟩ | ⟨x, e, hu⟩
    · unfold Own; rfl
    · cases e
      exact hu
  refine ⟨F, (pre ++ (A1 ++ (B1 ++ A2))) ++ C0, h.perm ⟨some y, vs, _, C0, rfl, rfl, .inr ⟨y, rfl, g2 _ _ (g4 u B1 hu')⟩, h3⟩ _ ?_ (List.Sublist.refl _)⟩
  simp only [List.nil_append, List.append_assoc]
  have p1 : (B1 ++ (pre ++ (A1 ++ (A2 ++ C0)))).Perm (pre ++ (B1 ++ (A1 ++ (A2 ++ C0)))) := List.perm_append_comm_assoc ..
  exact (p1.trans (List.Perm.append_left _ (List.perm_append_comm_assoc ..))).symm
end
end DL

namespace DL
open PySem PySem.Spec L2

/-! ### what every state knows of sizes -/
structure SzOk (K : PySem.W.Frag) (H : Hp) : Prop where
  l : ∀ a xs, SqL K H a xs → xs.length ≤ sizeLine
  t : ∀ a xs, SqT K H a xs → xs.length ≤ sizeLine
  k : ∀ a kvs, Rd H a (.dK kvs) → kvs.length ≤ sizeLine
  u : ∀ a kvs, Rd H a (.dT kvs) → kvs.length ≤ sizeLine
theorem sz_inv {X : Cx} {pins : List (Addr × Obj)} {σ : St} {H : Hp} {s : Shared} (I : Inv X pins σ H s) : SzOk X.K H :=
  ⟨fun a xs h => let ⟨_, _, _, z⟩ := I.list h; z, fun a xs h => let ⟨_, _, _, z⟩ := I.tuple h; z, fun a kvs h => (h.ok I.hok).1, fun a kvs h => (h.ok I.hok).1⟩

/-! ### the weakest readings -/
def U (X : Cx) (e : Expr) : TE := fun σ H Q => ∀ (pins : List (Addr × Obj)) (s : Shared), Inv X pins σ H s → wpAny (model X.prog X.w) X.A (eval e X.env) (EP X pins σ Q) X.xe s
def UT (X : Cx) (e : Expr) : TT := fun σ H Q => ∀ (pins : List (Addr × Obj)) (s : Shared), Inv X pins σ H s → wpAny (model X.prog X.w) X.A (isTrue e X.env (eval e X.env)) (TP X pins σ Q) X.xe s
def US (X : Cx) (st : Stmt) : TS := fun D σ H => ∀ (pins : List (Addr × Obj)) (s : Shared), Inv X pins σ H s → wpAny (model X.prog X.w) X.A (exec st X.env) (SP X pins D) X.xe s
def USs (X : Cx) (st : List Stmt) : TS := fun D σ H => ∀ (pins : List (Addr × Obj)) (s : Shared), Inv X pins σ H s → wpAny (model X.prog X.w) X.A (execs st X.env) (SP X pins D) X.xe s
/-- expressions from the left -/
def UL (X : Cx) : List Expr → TA
  | [] => tNil
  | e :: es => tCons (U X e) (UL X es)
section
variable {X : Cx} {e : Expr} {st : Stmt} {sts : List Stmt} {σ : St} {H : Hp}
theorem pe_U : PE X e (U X e) := ⟨fun pins s _ _ _ I h => h pins s I⟩
theorem pt_U : PT X e (UT X e) := ⟨fun pins s _ _ _ I h => h pins s I⟩
theorem ps_U : PS X st (US X st) := ⟨fun pins s _ _ _ I h => h pins s I⟩
theorem pss_U : PSs X sts (USs X sts) := ⟨fun pins s _ _ _ I h => h pins s I⟩
theorem U_of {t : TE} {Q : VK} (h : PE X e t) (q : t σ H Q) : U X e σ H Q := fun pins s I => h.run pins s σ H Q I q
theorem UT_of {t : TT} {Q : Bool → Hp → Prop} (h : PT X e t) (q : t σ H Q) : UT X e σ H Q := fun pins s I => h.run pins s σ H Q I q
theorem US_of {t : TS} {D : Ends} (h : PS X st t) (q : t D σ H) : US X st D σ H := fun pins s I => h.run pins s σ H D I q
theorem USs_of {t : TS} {D : Ends} (h : PSs X sts t) (q : t D σ H) : USs X sts D σ H := fun pins s I => h.run pins s σ H D I q
theorem U_sz {Q : VK} (h : U X e σ H fun v H' => SzOk X.K H' → Q v H') : U X e σ H Q := fun pins s I =>
  thn (h pins s I) fun u s' ⟨v, H', I', r, q⟩ => ⟨v, H', I', r, q (sz_inv I')⟩
theorem UT_sz {Q : Bool → Hp → Prop} (h : UT X e σ H fun v H' => SzOk X.K H' → Q v H') : UT X e σ H Q := fun pins s I =>
  thn (h pins s I) fun u s' ⟨H', I', q⟩ => ⟨H', I', q (sz_inv I')⟩
def szE (K : PySem.W.Frag) (D : Ends) : Ends := ⟨fun σ H => SzOk K H → D.nx σ H, fun v H => SzOk K H → D.rt v H, fun σ H => SzOk K H → D.bk σ H, fun σ H => SzOk K H → D.ct σ H⟩
theorem SP_sz {pins : List (Addr × Obj)} {D : Ends} {f : Flow} {s' : Shared} (h : SP X pins (szE X.K D) f s') : SP X pins D f s' := by
  cases f with
  | next => obtain ⟨σ', H', I, q⟩ := h; exact ⟨σ', H', I, q (sz_inv I)⟩
  | brk => obtain ⟨σ', H', I, q⟩ := h; exact ⟨σ', H', I, q (sz_inv I)⟩
  | cont => obtain ⟨σ', H', I, q⟩ := h; exact ⟨σ', H', I, q (sz_inv I)⟩
  | ret u => obtain ⟨v, σ', H', I, r, q⟩ := h; exact ⟨v, σ', H', I, r, q (sz_inv I)⟩
theorem US_sz {D : Ends} (h : US X st (szE X.K D) σ H) : US X st D σ H := fun pins s I => thn (h pins s I) fun f s' q => SP_sz q
theorem USs_sz {D : Ends} (h : USs X sts (szE X.K D) σ H) : USs X sts D σ H := fun pins s I => thn (h pins s I) fun f s' q => SP_sz q
end

abbrev Lks := List (Addr × Obj × HO)
/-! ### the judgements by values -/
structure Stt (K : KL) (ρ : List T) (σ : St) (H : Hp) (fr : List T) (fv : List (Option V)) : Prop where
  len : ρ.length = σ.length
  rp : Rp K (ρ ++ fr) (σ ++ fv) H
  sz : SzOk K.k H
abbrev QT := T → List T → Prop
/-- an expression -/
def W (X : Cx) (e : Expr) (ρ : List T) (Q : QT) : Prop := ∀ (L : Lks) (σ : St) (H : Hp) (fr : List T) (fv : List (Option V)) (QV : VK), Stt ⟨X.K, L⟩ ρ σ H fr fv →
  (∀ r ρ' v H', Q r ρ' → Stt ⟨X.K, L⟩ (r :: ρ') (some v :: σ) H' fr fv → QV v H') → U X e σ H QV
/-- a test -/
def WT (X : Cx) (e : Expr) (ρ : List T) (Q : Bool → List T → Prop) : Prop := ∀ (L : Lks) (σ : St) (H : Hp) (fr : List T) (fv : List (Option V)) (QV : Bool → Hp → Prop), Stt ⟨X.K, L⟩ ρ σ H fr fv →
  (∀ b ρ' H', Q b ρ' → Stt ⟨X.K, L⟩ ρ' σ H' fr fv → QV b H') → UT X e σ H QV
/-- an operand: a value, or the name in the i-th slot, looked at when all operands are there; or the j-th part of what the i-th slot holds, out of which it was taken (its value v stands there) -/
inductive Arg where
  | val (t : T)
  | at (i : Nat)
  | sub (t : T) (v : V) (i j : Nat)
def Arg.t : Arg → T
  | .val t => t
  | .at _ => .gone
  | .sub t _ _ _ => t
def ArgOk (σ : St) : Arg → V → Prop
  | .val _, _ => True
  | .at i, v => σ[i]? = some (some v)
  | .sub _ w _ _, v => v = w
def ArgsOk (σ : St) : List Arg → List V → Prop
  | [], vs => vs = []
  | a :: as, vs => ∃ v r, vs = v :: r ∧ ArgOk σ a v ∧ ArgsOk σ as r
/-- operands -/
def WA (X : Cx) (es : List Expr) (ρ : List T) (Q : List Arg → List T → Prop) : Prop := ∀ (L : Lks) (σ : St) (H : Hp) (fr : List T) (fv : List (Option V)) (QV : List V → Hp → Prop), Stt ⟨X.K, L⟩ ρ σ H fr fv →
  (∀ as ρ' vs H', Q as ρ' → ArgsOk σ as vs → Stt ⟨X.K, L⟩ (as.map Arg.t ++ ρ') (vs.map some ++ σ) H' fr fv → QV vs H') → UL X es σ H QV
/-- the operands' values, and what is left -/
def resT : List Arg → List T → List T
  | [], _ => []
  | .val t :: as, ρ => t :: resT as ρ
  | .sub t _ _ _ :: as, ρ => t :: resT as ρ
  | .at i :: as, ρ => ρ.getD i .gone :: resT as (ρ.set i .gone)
def resR : List Arg → List T → List T
  | [], ρ => ρ
  | .val _ :: as, ρ => resR as ρ
  | .sub _ _ _ _ :: as, ρ => resR as ρ
  | .at i :: as, ρ => resR as (ρ.set i .gone)
def isV (v : V) : Option T → Bool
  | some (.v w) => decide (w = v)
  | _ => false
/-- a part put in where its value stands -/
def putKid (ρ : List T) (i j : Nat) (v : V) (u : T) : List T := match ρ[i]? with
  | some t => if (t.mine && isV v t.kids[j]?) = true then ρ.set i (t.withKids (t.kids.set j u)) else ρ
  | none => ρ
/-- the operands back to their slots -/
def wb : List Arg → List T → List T → List T
  | .val _ :: as, _ :: ts, ρ => wb as ts ρ
  | .sub _ v i j :: as, t :: ts, ρ => wb as ts (putKid ρ i j v t)
  | .at i :: as, t :: ts, ρ => wb as ts (ρ.set i t)
  | _, _, ρ => ρ
/-- an operation on values by its reading r -/
def OpT (K : PySem.W.Frag) (r : List V → Hp → VK → Prop) (ts : List T) (Q : QT) : Prop := ∀ (L : Lks) (H : Hp) (fr : List T) (fv : List (Option V)) (vs : List V) (QV : VK), ts.length = vs.length → Rp ⟨K, L⟩ (ts ++ fr) (vs.map some ++ fv) H → SzOk K H →
  (∀ q ts' v H', Q q ts' → ts'.length = ts.length → Rp ⟨K, L⟩ (q :: (ts' ++ fr)) (some v :: (vs.map some ++ fv)) H' → QV v H') → r vs H QV

section
variable {K : KL} {F H : Hp}
theorem ownS_set : ∀ {ρ : List T} {σ : List (Option V)} {A : List Fp} {i : Nat}, OwnS K F H ρ σ A → i < ρ.length →
    ∃ A1 C A2, A = A1 ++ (C ++ A2) ∧ OwnO K F H (ρ.getD i .gone) (σ.getD i none) C ∧ ∀ (t : T) (o : Option V) (B : List Fp), OwnO K F H t o B → OwnS K F H (ρ.set i t) (σ.set i o) (A1 ++ (B ++ A2))
  | [], σ, A, i, h, hi => absurd hi (by simp)
  | t0 :: ρ, σ, A, 0, h, _ => by
    obtain ⟨o1, r, B1, C, rfl, rfl, h1, h2⟩ := h
    exact ⟨[], B1, C, rfl, h1, fun t o B hb => ⟨o, r, B, C, rfl, rfl, hb, h2⟩⟩
  | t0 :: ρ, σ, A, i + 1, h, hi => by
    obtain ⟨o1, r, B1, C, rfl, rfl, h1, h2⟩ := h
    obtain ⟨A1, C1, A2, rfl, h3, h4⟩ := ownS_set h2 (Nat.lt_of_succ_lt_succ hi)
    exact ⟨B1 ++ A1, C1, A2, by rw [List.append_assoc], h3, fun t o B hb => ⟨o1, r.set i o, B1, A1 ++ (B ++ A2), rfl, by rw [List.append_assoc], h1, h4 t o B hb⟩⟩
theorem getD_of {α : Type} {l : List α} {i : Nat} {x d : α} (h : l[i]? = some x) : l.getD i d = x := by
  rw [List.getD_eq_getElem?_getD, h]
  rfl
theorem set_getD {α : Type} {l : List α} {i : Nat} {x : α} (h : l[i]? = some x) : l.set i x = l := by
  apply List.ext_getElem?
  intro j
  rw [List.getElem?_set]
  split
  · rename_i e
    subst e
    split
    · exact h.symm
    · rename_i h2
      rw [List.getElem?_eq_none (by omega)] at h
      cases h
  · rfl
/-- what stands in a slot is taken out -/
theorem Rp.take {ρ fr : List T} {σ fv : List (Option V)} {i : Nat} {v : V} (h : Rp K (ρ ++ fr) (σ ++ fv) H) (l : ρ.length = σ.length) (hi : σ[i]? = some (some v)) : Rp K (ρ.getD i .gone :: (ρ.set i .gone ++ fr)) (some v :: (σ ++ fv)) H := by
  obtain ⟨F, A, h⟩ := h
  obtain ⟨B, C, rfl, h1, h2⟩ := ownS_app' h.own l
  have hl : i < ρ.length := by
    rw [l]
    exact (List.getElem?_eq_some_iff.mp hi).1
  obtain ⟨A1, C1, A2, rfl, h3, h4⟩ := ownS_set h1 hl
  have h5 := h4 .gone (some v) [] (.inl ⟨rfl, rfl⟩)
  rw [set_getD hi] at h5
  rw [getD_of hi] at h3
  refine ⟨F, C1 ++ ((A1 ++ ([] ++ A2)) ++ C), h.perm ⟨some v, σ ++ fv, C1, _, rfl, rfl, h3, ownS_join h5 h2⟩ _ ?_ (List.Sublist.refl _)⟩
  rw [List.nil_append, List.append_assoc, List.append_assoc, List.append_assoc]
  exact (List.perm_append_comm_assoc ..)
/-- .. put in -/
theorem Rp.put {t : T} {ρ fr : List T} {σ fv : List (Option V)} {i : Nat} {o : Option V} (h : Rp K (t :: (ρ ++ fr)) (o :: (σ ++ fv)) H) (l : ρ.length = σ.length) (hi : i < ρ.length) : Rp K (ρ.set i t ++ fr) (σ.set i o ++ fv) H := by
  obtain ⟨F, A, h⟩ := h
  obtain ⟨o1, r, B0, C0, e, rfl, h1, h2⟩ := h.own
  obtain ⟨rfl, rfl⟩ := List.cons.inj e
  obtain ⟨B, C, rfl, h3, h4⟩ := ownS_app' h2 l
  obtain ⟨A1, C1, A2, rfl, h5, h6⟩ := ownS_set h3 hi
  refine ⟨F, _, h.perm (ownS_join (h6 t o B0 h1) h4) (B0 ++ ((A1 ++ A2) ++ C)) ?_ ?_⟩
  · rw [List.append_assoc, List.append_assoc, List.append_assoc]
    exact (List.perm_append_comm_assoc ..)
  · exact List.Sublist.append (List.Sublist.refl _) (List.Sublist.append (List.Sublist.append (List.Sublist.refl _) (List.sublist_append_right ..)) (List.Sublist.refl _))

theorem res_length : ∀ (as : List Arg) (ρ : List T), (resT as ρ).length = as.length ∧ (resR as ρ).length = ρ.length
  | [], ρ => ⟨rfl, rfl⟩
  | .val t :: as, ρ => by
    obtain ⟨h1, h2⟩ := res_length as ρ
    exact ⟨congrArg Nat.succ h1, h2⟩
  | .sub t _ _ _ :: as, ρ => by
    obtain ⟨h1, h2⟩ := res_length as ρ
    exact ⟨congrArg Nat.succ h1, h2⟩
  | .at i :: as, ρ => by
    obtain ⟨h1, h2⟩ := res_length as (ρ.set i .gone)
    exact ⟨congrArg Nat.succ h1, by
      show (resR as (ρ.set i .gone)).length = _
      rw [h2, List.length_set]⟩
theorem argsOk_length {σ : L2.St} : ∀ {as : List Arg} {vs : List V}, ArgsOk σ as vs → as.length = vs.length
  | [], vs, h => by
    have e : vs = [] := h
    rw [e]
    rfl
  | a :: as, vs, h => by
    obtain ⟨v, r, rfl, _, h⟩ := h
    exact congrArg Nat.succ (argsOk_length h)
theorem putKid_length (ρ : List T) (i j : Nat) (v : V) (u : T) : (putKid ρ i j v u).length = ρ.length := by
  unfold putKid
  split
  · split
    · rw [List.length_set]
    · rfl
  · rfl
theorem wb_length : ∀ (as : List Arg) (ts ρ : List T), (wb as ts ρ).length = ρ.length
  | [], ts, ρ => by unfold wb; rfl
  | .val _ :: as, [], ρ => by unfold wb; rfl
  | .at _ :: as, [], ρ => by unfold wb; rfl
  | .sub _ _ _ _ :: as, [], ρ => by unfold wb; rfl
  | .sub _ v i j :: as, t :: ts, ρ => by unfold wb; rw [wb_length as ts, putKid_length]
  | .val _ :: as, _ :: ts, ρ => by unfold wb; exact wb_length as ts ρ
  | .at i :: as, t :: ts, ρ => by unfold wb; rw [wb_length as ts, List.length_set]
/-- a part to the front, from behind two -/
theorem Rp.front {t1 t2 t3 t4 : List T} {v1 v2 v3 v4 : List (Option V)} (h : Rp K (t1 ++ (t2 ++ (t3 ++ t4))) (v1 ++ (v2 ++ (v3 ++ v4))) H) (l1 : t1.length = v1.length) (l2 : t2.length = v2.length) (l3 : t3.length = v3.length) :
    Rp K (t3 ++ (t1 ++ (t2 ++ t4))) (v3 ++ (v1 ++ (v2 ++ v4))) H := by
  have e := Rp.swap (t1 := t1 ++ t2) (v1 := v1 ++ v2) (t2 := t3) (v2 := v3) (t3 := t4) (v3 := v4) (H := H) (K := K) (by simpa [List.append_assoc] using h) (by simp [l1, l2]) l3
  simpa [List.append_assoc] using e
theorem Rp.back {t1 t2 t3 t4 : List T} {v1 v2 v3 v4 : List (Option V)} (h : Rp K (t3 ++ (t1 ++ (t2 ++ t4))) (v3 ++ (v1 ++ (v2 ++ v4))) H) (l1 : t1.length = v1.length) (l2 : t2.length = v2.length) (l3 : t3.length = v3.length) :
    Rp K (t1 ++ (t2 ++ (t3 ++ t4))) (v1 ++ (v2 ++ (v3 ++ v4))) H := by
  have e := Rp.swap (t1 := t3) (v1 := v3) (t2 := t1 ++ t2) (v2 := v1 ++ v2) (t3 := t4) (v3 := v4) (H := H) (K := K) (by simpa [List.append_assoc] using h) l3 (by simp [l1, l2])
  simpa [List.append_assoc] using e
theorem Rp.res {σ : L2.St} : ∀ {as : List Arg} {ρ fr : List T} {vs : List V} {fv : List (Option V)}, Rp K (as.map Arg.t ++ (ρ ++ fr)) (vs.map some ++ (σ ++ fv)) H → ArgsOk σ as vs → ρ.length = σ.length →
    Rp K (resT as ρ ++ (resR as ρ ++ fr)) (vs.map some ++ (σ ++ fv)) H
  | [], ρ, fr, vs, fv, h, ok, l => h
  | .val t :: as, ρ, fr, vs, fv, h, ok, l => by
    obtain ⟨v, r, rfl, _, ok⟩ := ok
    have la := argsOk_length ok
    have h1 := Rp.back (t3 := [t]) (v3 := [some v]) (t1 := as.map Arg.t) (v1 := r.map some) (t2 := ρ) (v2 := σ) (t4 := fr) (v4 := fv) h (by simpa using la) l rfl
    have h2 := Rp.res h1 ok l
    obtain ⟨q1, q2⟩ := res_length as ρ
    exact Rp.front (t3 := [t]) (v3 := [some v]) (v1 := r.map some) (v2 := σ) h2 (by simpa [q1] using la) (q2.trans l) rfl
  | .sub t _ _ _ :: as, ρ, fr, vs, fv, h, ok, l => by
    obtain ⟨v, r, rfl, _, ok⟩ := ok
    have la := argsOk_length ok
    have h1 := Rp.back (t3 := [t]) (v3 := [some v]) (t1 := as.map Arg.t) (v1 := r.map some) (t2 := ρ) (v2 := σ) (t4 := fr) (v4 := fv) h (by simpa using la) l rfl
    have h2 := Rp.res h1 ok l
    obtain ⟨q1, q2⟩ := res_length as ρ
    exact Rp.front (t3 := [t]) (v3 := [some v]) (v1 := r.map some) (v2 := σ) h2 (by simpa [q1] using la) (q2.trans l) rfl
  | .at i :: as, ρ, fr, vs, fv, h, ok, l => by
    obtain ⟨v, r, rfl, hi, ok⟩ := ok
    have la := argsOk_length ok
    have h1 : Rp K (as.map Arg.t ++ (ρ ++ fr)) (r.map some ++ (σ ++ fv)) H := Rp.drop (t1 := [.gone]) (v1 := [some v]) h rfl
    have h2 := (Rp.swap h1 (by simpa using la) l).take l hi
    have h3 := Rp.swap (t1 := [ρ.getD i .gone]) (v1 := [some v]) (t2 := ρ.set i .gone) (v2 := σ) h2 rfl (by rw [List.length_set, l])
    have h4 := Rp.front (t3 := as.map Arg.t) (v3 := r.map some) (t1 := ρ.set i .gone) (v1 := σ) (t2 := [ρ.getD i .gone]) (v2 := [some v]) h3 (by rw [List.length_set, l]) rfl (by simpa using la)
    have h5 := Rp.res (ρ := ρ.set i .gone) (fr := ρ.getD i .gone :: fr) (fv := some v :: fv) h4 ok (by rw [List.length_set, l])
    obtain ⟨q1, q2⟩ := res_length as (ρ.set i .gone)
    exact Rp.front (t3 := [ρ.getD i .gone]) (v3 := [some v]) (v1 := r.map some) (v2 := σ) h5 (by simpa [q1] using la) (q2.trans (by rw [List.length_set, l])) rfl
theorem Rp.wb {σ : L2.St} : ∀ {as : List Arg} {ts ρ fr : List T} {vs : List V} {fv : List (Option V)}, Rp K (ts ++ (ρ ++ fr)) (vs.map some ++ (σ ++ fv)) H → ArgsOk σ as vs → ρ.length = σ.length → ts.length = as.length →
    Rp K (wb as ts ρ ++ fr) (σ ++ fv) H
  | [], [], ρ, fr, vs, fv, h, ok, l, _ => by
    have e : vs = [] := ok
    subst e
    exact h
  | .val t :: as, q :: ts, ρ, fr, vs, fv, h, ok, l, l2 => by
    obtain ⟨v, r, rfl, _, ok⟩ := ok
    exact Rp.wb (as := as) (ts := ts) (vs := r) (Rp.drop (t1 := [q]) (v1 := [some v]) h rfl) ok l (Nat.succ.inj l2)
  | .sub t w i j :: as, q :: ts, ρ, fr, vs, fv, h, ok, l, l2 => by
    obtain ⟨v, r, rfl, rfl, ok⟩ := ok
    have la := argsOk_length ok
    have l3 : ts.length = (r.map some).length := by
      rw [List.length_map, ← la]
      exact Nat.succ.inj l2
    show Rp K (DL.wb as ts (putKid ρ i j v q) ++ fr) (σ ++ fv) H
    unfold putKid
    split
    · rename_i t0 e0
      split
      · rename_i c
        obtain ⟨c1, c2⟩ := Bool.and_eq_true_iff.mp c
        have c3 : t0.kids[j]? = some (.v v) := by
          revert c2
          unfold isV
          split
          · rename_i w' e'
            intro c2
            rw [e', of_decide_eq_true c2]
          · intro c2
            cases c2
        have hil : i < ρ.length := (List.getElem?_eq_some_iff.mp e0).1
        have h1 := Rp.back (t3 := [q]) (v3 := [some v]) (t1 := ts) (v1 := r.map some) (t2 := ρ) (v2 := σ) (t4 := fr) (v4 := fv) h l3 l rfl
        have h3 := Rp.front (t3 := [q]) (v3 := [some v]) (t1 := ρ) (v1 := σ) (t2 := ts) (v2 := r.map some) (Rp.swap h1 l3 l |> fun h => by simpa [List.append_assoc] using h) l l3 rfl
        have h4 : Rp K (ρ ++ (q :: (ts ++ fr))) (σ ++ (some v :: (r.map some ++ fv))) H := Rp.swap (t1 := [q]) (v1 := [some v]) h3 rfl l
        obtain ⟨y, hy⟩ : ∃ y, σ[i]? = some (some y) := by
          obtain ⟨F, A, g⟩ := h4
          obtain ⟨B, C, rfl, g1, g2⟩ := ownS_app' g.own l
          obtain ⟨A1, C1, A2, _, g3, _⟩ := ownS_set g1 hil
          rw [getD_of e0] at g3
          rcases g3 with ⟨e, _⟩ | ⟨x, e, _⟩
          · rw [e] at c1
            cases c1
          · refine ⟨x, ?_⟩
            have hs : i < σ.length := by rw [← l]; exact hil
            rw [List.getD_eq_getElem?_getD, List.getElem?_eq_getElem hs] at e
            rw [List.getElem?_eq_getElem hs]
            exact congrArg some e
        have h5 := h4.take l hy
        rw [getD_of e0] at h5
        have h6 : Rp K (q :: t0 :: (ρ.set i .gone ++ (ts ++ fr))) (some v :: some y :: (σ ++ (r.map some ++ fv))) H := by
          have a1 : Rp K ([t0] ++ (ρ.set i .gone ++ ([q] ++ (ts ++ fr)))) ([some y] ++ (σ ++ ([some v] ++ (r.map some ++ fv)))) H := h5
          exact Rp.front a1 rfl (by rw [List.length_set, l]) rfl
        have h7 := h6.kidIn c1 c3
        have h8 := h7.put (ρ := ρ.set i .gone) (σ := σ) (by rw [List.length_set, l]) (by rw [List.length_set]; exact hil)
        rw [set_getD hy, List.set_set] at h8
        exact Rp.wb (as := as) (ts := ts) (vs := r) (Rp.swap h8 (by rw [List.length_set, l]) l3) ok (by rw [List.length_set, l]) (Nat.succ.inj l2)
      · exact Rp.wb (as := as) (ts := ts) (vs := r) (Rp.drop (t1 := [q]) (v1 := [some v]) h rfl) ok l (Nat.succ.inj l2)
    · exact Rp.wb (as := as) (ts := ts) (vs := r) (Rp.drop (t1 := [q]) (v1 := [some v]) h rfl) ok l (Nat.succ.inj l2)
  | .at i :: as, q :: ts, ρ, fr, vs, fv, h, ok, l, l2 => by
    obtain ⟨v, r, rfl, hi, ok⟩ := ok
    have la := argsOk_length ok
    have hil : i < ρ.length := by
      rw [l]
      exact (List.getElem?_eq_some_iff.mp hi).1
    have l3 : ts.length = (r.map some).length := by
      rw [List.length_map, ← la]
      exact Nat.succ.inj l2
    have h1 := Rp.back (t3 := [q]) (v3 := [some v]) (t1 := ts) (v1 := r.map some) (t2 := ρ) (v2 := σ) (t4 := fr) (v4 := fv) h l3 l rfl
    have h2 := Rp.swap h1 l3 l
    have h3 := Rp.front (t3 := [q]) (v3 := [some v]) (t1 := ρ) (v1 := σ) (t2 := ts) (v2 := r.map some) (Rp.swap h1 l3 l |> fun h => by simpa [List.append_assoc] using h) l l3 rfl
    have h4 := Rp.put (t := q) (o := some v) (ρ := ρ) (σ := σ) h3 l hil
    rw [set_getD hi] at h4
    exact Rp.wb (as := as) (ts := ts) (ρ := ρ.set i q) (vs := r) (Rp.swap h4 (by rw [List.length_set, l]) l3) ok (by rw [List.length_set, l]) (Nat.succ.inj l2)
end

/-! ### the rules -/
section
variable {X : Cx} {e a b : Expr} {es : List Expr} {ρ : List T} {pos : Pos}
theorem Stt.mk' {K : KL} {ρ fr : List T} {σ : L2.St} {fv : List (Option V)} {H : Hp} (h : Rp K (ρ ++ fr) (σ ++ fv) H) (l : ρ.length = σ.length) (z : SzOk K.k H) : Stt K ρ σ H fr fv := ⟨l, h, z⟩
/-- an operation's node: its operands, then its reading -/
theorem w_op {Q : QT} {r : List V → Hp → VK → Prop} (hU : ∀ σ H QV, UL X es σ H (fun vs H1 => r vs H1 QV) → U X e σ H QV)
    (h : WA X es ρ fun as ρ1 => OpT X.K r (resT as ρ1) fun q ts' => Q q (wb as ts' (resR as ρ1))) : W X e ρ Q := by
  intro L σ H fr fv QV st k
  refine U_sz (hU _ _ _ (h L σ H fr fv _ st fun as ρ1 vs H1 q ok s1 => ?_))
  have la := argsOk_length ok
  have l1 : ρ1.length = σ.length := by
    have := s1.len
    rw [List.length_append, List.length_append, List.length_map, List.length_map] at this
    omega
  have s2 : Rp ⟨X.K, L⟩ (as.map Arg.t ++ (ρ1 ++ fr)) (vs.map some ++ (σ ++ fv)) H1 := by simpa [List.append_assoc] using s1.rp
  obtain ⟨q1, q2⟩ := res_length as ρ1
  refine q L H1 _ _ vs _ (by rw [q1, la]) (s2.res ok l1) s1.sz fun t ts' v H2 hq hl h2 z => ?_
  refine k t _ v H2 hq (.mk' (K := ⟨X.K, L⟩) ?_ (by rw [List.length_cons, List.length_cons, wb_length, q2, l1]) z)
  have l3 : ts'.length = (vs.map some).length := by rw [hl, q1, List.length_map, la]
  have h3 := Rp.back (t3 := [t]) (v3 := [some v]) (t1 := ts') (v1 := vs.map some) (t2 := resR as ρ1) (v2 := σ) h2 l3 (by rw [q2, l1]) rfl
  have h4 := Rp.wb h3 ok (by rw [q2, l1]) (by rw [hl, q1])
  exact Rp.swap (t1 := wb as ts' (resR as ρ1)) (t2 := [t]) (v2 := [some v]) h4 (by rw [wb_length, q2, l1]) rfl
theorem wa_nil {Q : List Arg → List T → Prop} (h : Q [] ρ) : WA X [] ρ Q := fun L σ H fr fv QV st k => k [] ρ [] H h rfl st
theorem wa_val {Q : List Arg → List T → Prop} (h : W X e ρ fun t ρ1 => WA X es ρ1 fun as ρ2 => Q (.val t :: as) ρ2) : WA X (e :: es) ρ Q := by
  intro L σ H fr fv QV st k
  refine h L σ H fr fv _ st fun t ρ1 v H1 h1 s1 => ?_
  have l1 : ρ1.length = σ.length := Nat.succ.inj s1.len
  have s2 : Rp ⟨X.K, L⟩ (ρ1 ++ (t :: fr)) (σ ++ (some v :: fv)) H1 := Rp.swap (t1 := [t]) (v1 := [some v]) s1.rp rfl l1
  refine h1 L σ H1 (t :: fr) (some v :: fv) _ ⟨l1, s2, s1.sz⟩ fun as ρ2 vs H2 q ok s3 => ?_
  refine k _ ρ2 (v :: vs) H2 q ⟨v, vs, rfl, trivial, ok⟩ ⟨congrArg Nat.succ s3.len, ?_, s3.sz⟩
  exact Rp.swap (t1 := as.map Arg.t ++ ρ2) (t2 := [t]) (v2 := [some v]) s3.rp s3.len rfl

theorem slot_some {L : Lks} {ρ fr : List T} {σ : L2.St} {fv : List (Option V)} {H : Hp} {i : Nat} {t : T} (st : Stt ⟨X.K, L⟩ ρ σ H fr fv) (hρ : ρ[i]? = some t) (ht : t ≠ .gone) : ∃ v, σ[i]? = some (some v) := by
  obtain ⟨F, A, h⟩ := st.rp
  obtain ⟨B, C, rfl, h1, h2⟩ := ownS_app' h.own st.len
  have hl : i < ρ.length := (List.getElem?_eq_some_iff.mp hρ).1
  obtain ⟨A1, C1, A2, _, h3, _⟩ := ownS_set h1 hl
  rw [getD_of hρ] at h3
  rcases h3 with ⟨e, _⟩ | ⟨x, e, _⟩
  · exact absurd e ht
  · refine ⟨x, ?_⟩
    have hs : i < σ.length := by rw [← st.len]; exact hl
    rw [List.getD_eq_getElem?_getD, List.getElem?_eq_getElem hs] at e
    rw [List.getElem?_eq_getElem hs]
    exact congrArg some e
theorem wa_at {Q : List Arg → List T → Prop} (i : Nat) {x : Str} {t : T} (hρ : ρ[i]? = some t) (ht : t ≠ .gone) (h : WA X es ρ fun as ρ2 => Q (.at i :: as) ρ2) (hN : X.N[i]? = some x := by rfl)
    (hv : Vis X.env.scope x := by first | exact Or.inl rfl | exact Or.inr (Or.inl rfl) | exact Or.inr (Or.inr rfl)) (hd : (x == ("__debug__" : Str)) = false := by decide) (hcd : (x == ("__classdict__" : Str)) = false := by decide) : WA X (.Name x pos :: es) ρ Q := by
  intro L σ H fr fv QV st k
  obtain ⟨v, hi⟩ := slot_some st hρ ht
  refine U_of (pe_var hN hv hd hcd) ⟨v, hi, ?_⟩
  have s2 : Rp ⟨X.K, L⟩ (ρ ++ (.gone :: fr)) (σ ++ (some v :: fv)) H := Rp.swap (t1 := [.gone]) (v1 := [some v]) (st.rp.gone (some v)) rfl st.len
  refine h L σ H (.gone :: fr) (some v :: fv) _ ⟨st.len, s2, st.sz⟩ fun as ρ2 vs H2 q ok s3 => ?_
  refine k _ ρ2 (v :: vs) H2 q ⟨v, vs, rfl, hi, ok⟩ ⟨congrArg Nat.succ s3.len, ?_, s3.sz⟩
  exact Rp.swap (t1 := as.map Arg.t ++ ρ2) (t2 := [.gone]) (v2 := [some v]) s3.rp s3.len rfl

theorem U_imp {σ : L2.St} {H : Hp} {Q Q' : VK} (h : U X e σ H Q) (k : ∀ v H', Q v H' → Q' v H') : U X e σ H Q' := fun pins s I => thn (h pins s I) fun u s' ⟨v, H', I', r, q⟩ => ⟨v, H', I', r, k _ _ q⟩
theorem UL_imp : ∀ {es : List Expr} {σ : L2.St} {H : Hp} {Q Q' : List V → Hp → Prop}, UL X es σ H Q → (∀ v H', Q v H' → Q' v H') → UL X es σ H Q'
  | [], _, _, _, _, h, k => k _ _ h
  | e :: es, _, _, _, _, h, k => U_imp (Q := fun v H1 => UL X es _ H1 fun vs H2 => _) h fun v H1 h1 => UL_imp (es := es) h1 fun vs H2 q => k _ _ q
theorem W.imp {Q Q' : QT} (h : W X e ρ Q) (k : ∀ r ρ', Q r ρ' → Q' r ρ') : W X e ρ Q' := fun L σ H fr fv QV st q => h L σ H fr fv QV st fun r ρ' v H' z => q r ρ' v H' (k _ _ z)
/-- constants -/
theorem w_c {v : V} {Q : QT} (h : PE X e (tC v)) (q : Q (.v v) ρ) : W X e ρ Q := fun L σ H fr fv QV st k =>
  U_of h (k (.v v) ρ v H q ⟨congrArg Nat.succ st.len, st.rp.sc v, st.sz⟩)
theorem w_int {i j} {Q : QT} (q : Q (T.int i) ρ) : W X (.Constant (.int i) j pos) ρ Q := w_c pe_int q
theorem w_str {i j} {Q : QT} (q : Q (T.str i) ρ) : W X (.Constant (.str i) j pos) ρ Q := w_c pe_str q
theorem w_bl {i j} {Q : QT} (q : Q (T.bl i) ρ) : W X (.Constant (.bool i) j pos) ρ Q := w_c pe_bl q
theorem w_non {j} {Q : QT} (q : Q T.non ρ) : W X (.Constant .none j pos) ρ Q := w_c pe_non q
theorem w_glob {x : Str} {v : V} {u : Value} {Q : QT} (hm : X.mg x = some u) (r : RelV v u) (q : Q (.v v) ρ) (hg : Gl X x := by rfl) (hd : (x == ("__debug__" : Str)) = false := by decide) : W X (.Name x pos) ρ Q := w_c (pe_glob hg hm r hd) q
/-- names -/
theorem w_nm {Q : QT} (i : Nat) {x : Str} {t : T} (hρ : ρ[i]? = some t) (z : Fz t) (ht : t ≠ .gone) (q : Q t ρ) (hN : X.N[i]? = some x := by rfl)
    (hv : Vis X.env.scope x := by first | exact Or.inl rfl | exact Or.inr (Or.inl rfl) | exact Or.inr (Or.inr rfl)) (hd : (x == ("__debug__" : Str)) = false := by decide) (hcd : (x == ("__classdict__" : Str)) = false := by decide) : W X (.Name x pos) ρ Q := by
  intro L σ H fr fv QV st k
  obtain ⟨v, hi⟩ := slot_some st hρ ht
  refine U_of (pe_var hN hv hd hcd) ⟨v, hi, k t ρ v H q ⟨congrArg Nat.succ st.len, ?_, st.sz⟩⟩
  have h1 := st.rp.take st.len hi
  rw [getD_of hρ] at h1
  have h2 := h1.dup z
  have h3 : Rp ⟨X.K, L⟩ (t :: (ρ.set i .gone ++ ([t] ++ fr))) (some v :: (σ ++ ([some v] ++ fv))) H :=
    Rp.back (t3 := [t]) (v3 := [some v]) (t1 := [t]) (v1 := [some v]) (t2 := ρ.set i .gone) (v2 := σ) h2 rfl (by rw [List.length_set, st.len]) rfl
  have h4 := h3.put (ρ := ρ.set i .gone) (σ := σ) (by rw [List.length_set, st.len]) (i := i) (by rw [List.length_set]; exact (List.getElem?_eq_some_iff.mp hρ).1)
  rw [set_getD hi, List.set_set, set_getD hρ] at h4
  exact Rp.swap (t1 := ρ) (t2 := [t]) (v2 := [some v]) h4 st.len rfl
/-- the name's value goes from there -/
theorem w_mv {Q : QT} (i : Nat) {x : Str} {t : T} (hρ : ρ[i]? = some t) (ht : t ≠ .gone) (q : Q t (ρ.set i .gone)) (hN : X.N[i]? = some x := by rfl)
    (hv : Vis X.env.scope x := by first | exact Or.inl rfl | exact Or.inr (Or.inl rfl) | exact Or.inr (Or.inr rfl)) (hd : (x == ("__debug__" : Str)) = false := by decide) (hcd : (x == ("__classdict__" : Str)) = false := by decide) : W X (.Name x pos) ρ Q := by
  intro L σ H fr fv QV st k
  obtain ⟨v, hi⟩ := slot_some st hρ ht
  refine U_of (pe_var hN hv hd hcd) ⟨v, hi, k t _ v H q ⟨by rw [List.length_cons, List.length_cons, List.length_set, st.len], ?_, st.sz⟩⟩
  have h1 := st.rp.take st.len hi
  rw [getD_of hρ] at h1
  exact h1
/-- the name's value is made still, and told -/
theorem w_fz {Q : QT} (i : Nat) {x : Str} {t : T} (hρ : ρ[i]? = some t) (ht : t ≠ .gone) (q : Q (fz t) (ρ.set i (fz t))) (hN : X.N[i]? = some x := by rfl)
    (hv : Vis X.env.scope x := by first | exact Or.inl rfl | exact Or.inr (Or.inl rfl) | exact Or.inr (Or.inr rfl)) (hd : (x == ("__debug__" : Str)) = false := by decide) (hcd : (x == ("__classdict__" : Str)) = false := by decide) : W X (.Name x pos) ρ Q := by
  intro L σ H fr fv QV st k
  obtain ⟨v, hi⟩ := slot_some st hρ ht
  refine U_of (pe_var hN hv hd hcd) ⟨v, hi, k (fz t) _ v H q ⟨by rw [List.length_cons, List.length_cons, List.length_set, st.len], ?_, st.sz⟩⟩
  have h1 := st.rp.take st.len hi
  rw [getD_of hρ] at h1
  have h2 := h1.still.dup (fz_Fz t)
  have h3 : Rp ⟨X.K, L⟩ (fz t :: (ρ.set i .gone ++ ([fz t] ++ fr))) (some v :: (σ ++ ([some v] ++ fv))) H :=
    Rp.back (t3 := [fz t]) (v3 := [some v]) (t1 := [fz t]) (v1 := [some v]) (t2 := ρ.set i .gone) (v2 := σ) h2 rfl (by rw [List.length_set, st.len]) rfl
  have h4 := h3.put (ρ := ρ.set i .gone) (σ := σ) (by rw [List.length_set, st.len]) (i := i) (by rw [List.length_set]; exact (List.getElem?_eq_some_iff.mp hρ).1)
  rw [set_getD hi, List.set_set] at h4
  exact Rp.swap (t1 := ρ.set i (fz t)) (t2 := [fz t]) (v2 := [some v]) h4 (by rw [List.length_set, st.len]) rfl
/-- a value that is made still -/
theorem w_still {Q : QT} (h : W X e ρ fun t ρ1 => Q (fz t) ρ1) : W X e ρ Q := fun L σ H fr fv QV st k =>
  h L σ H fr fv QV st fun t ρ1 v H1 q s1 => k (fz t) ρ1 v H1 q ⟨s1.len, s1.rp.still, s1.sz⟩

/-! ### operators -/
def rOp (X : Cx) (f : Value → Value → Sem Value) : R2 := fun x y H Q => ∃ r, OpR X f r ∧ r x y H Q
theorem op_U {f : Value → Value → Sem Value} : OpR X f (rOp X f) := fun pins s σ H x y v u Q I rx ry ⟨r, h, q⟩ => h pins s σ H x y v u Q I rx ry q
def r2 (r : R2) : List V → Hp → VK → Prop := fun vs H Q => ∃ x y, vs = [x, y] ∧ r x y H Q
def r1 (r : V → Hp → VK → Prop) : List V → Hp → VK → Prop := fun vs H Q => ∃ x, vs = [x] ∧ r x H Q
theorem opT_imp {K : PySem.W.Frag} {r r' : List V → Hp → VK → Prop} {ts : List T} {Q : QT} (h : OpT K r ts Q) (k : ∀ vs H Q, r vs H Q → r' vs H Q) : OpT K r' ts Q := fun L H fr fv vs QV l rp z q => k _ _ _ (h L H fr fv vs QV l rp z q)
theorem t_op2 {f : Value → Value → Sem Value} {r : R2} {ts : List T} {Q : QT} (ho : OpR X f r) (h : OpT X.K (r2 r) ts Q) : OpT X.K (r2 (rOp X f)) ts Q :=
  opT_imp h fun vs H Q ⟨x, y, e, q⟩ => ⟨x, y, e, r, ho, q⟩
/-- an operation's node, its reading by the operands' values -/
theorem w_bin {op : Operator} {Q : QT} (h : WA X [a, b] ρ fun as ρ1 => OpT X.K (r2 (rOp X (binaryOp op))) (resT as ρ1) fun q ts' => Q q (wb as ts' (resR as ρ1))) : W X (.BinOp a op b pos) ρ Q := by
  refine w_op (es := [a, b]) (fun σ H QV hq => U_of (pe_op op_U pe_U pe_U) ?_) h
  refine U_imp hq fun x H1 hq => U_imp hq fun y H2 hq => ?_
  obtain ⟨x', y', e, q⟩ := hq
  cases e
  exact q
theorem w_cmp {op : CmpOp} {Q : QT} (h : WA X [a, b] ρ fun as ρ1 => OpT X.K (r2 (rOp X (compareOp op))) (resT as ρ1) fun q ts' => Q q (wb as ts' (resR as ρ1))) (hm : behindInMarks op b = false := by first | rfl | exact nomark _) : W X (.Compare a [op] [b] pos) ρ Q := by
  refine w_op (es := [a, b]) (fun σ H QV hq => U_of (pe_cmpR op_U pe_U pe_U hm) ?_) h
  refine U_imp hq fun x H1 hq => U_imp hq fun y H2 hq => ?_
  obtain ⟨x', y', e, q⟩ := hq
  cases e
  exact q
def rUn (X : Cx) (f : Value → Sem Value) : V → Hp → VK → Prop := fun x H Q => ∃ r, UnR X f r ∧ r x H Q
theorem un_U {f : Value → Sem Value} : UnR X f (rUn X f) := fun pins s σ H x v Q I rx ⟨r, h, q⟩ => h pins s σ H x v Q I rx q
theorem w_un {op : UnaryOp} {Q : QT} (h : WA X [a] ρ fun as ρ1 => OpT X.K (r1 (rUn X (unaryOp op))) (resT as ρ1) fun q ts' => Q q (wb as ts' (resR as ρ1))) : W X (.UnaryOp op a pos) ρ Q := by
  refine w_op (es := [a]) (fun σ H QV hq => U_of (pe_un un_U pe_U) ?_) h
  refine U_imp hq fun x H1 hq => ?_
  obtain ⟨x', e, q⟩ := hq
  cases e
  exact q
/-- o[i] -/
def rIxU (X : Cx) : R2 := fun x y H Q => ∃ r, IxR X r ∧ r x y H Q
theorem ix_U : IxR X (rIxU X) := fun value slice pins s σ H x y v u Q I rx ry ⟨r, h, q⟩ hs => h value slice pins s σ H x y v u Q I rx ry q hs
theorem w_ix {Q : QT} (h : WA X [a, b] ρ fun as ρ1 => OpT X.K (r2 (rIxU X)) (resT as ρ1) fun q ts' => Q q (wb as ts' (resR as ρ1))) (hs : PlainIx b := by exact fun _ _ => rfl) : W X (.Subscript a b pos) ρ Q := by
  refine w_op (es := [a, b]) (fun σ H QV hq => U_of (pe_ix ix_U pe_U pe_U hs) ?_) h
  refine U_imp hq fun x H1 hq => U_imp hq fun y H2 hq => ?_
  obtain ⟨x', y', e, q⟩ := hq
  cases e
  exact q

theorem t_ix {r : R2} {ts : List T} {Q : QT} (ho : IxR X r) (h : OpT X.K (r2 r) ts Q) : OpT X.K (r2 (rIxU X)) ts Q :=
  opT_imp h fun vs H Q ⟨x, y, e, q⟩ => ⟨x, y, e, r, ho, q⟩
theorem t_un {f : Value → Sem Value} {r : V → Hp → VK → Prop} {ts : List T} {Q : QT} (ho : UnR X f r) (h : OpT X.K (r1 r) ts Q) : OpT X.K (r1 (rUn X f)) ts Q :=
  opT_imp h fun vs H Q ⟨x, e, q⟩ => ⟨x, e, r, ho, q⟩
/-- calls of what is built in -/
def rCl (X : Cx) (f : Value) : List V → Hp → VK → Prop := fun vs H Q => ∃ r, CallR X f r ∧ r vs H Q
theorem cl_U {f : Value} : CallR X f (rCl X f) := fun pins s σ H xs us Q I rx ⟨r, h, q⟩ => h pins s σ H xs us Q I rx q
theorem t_cl {f : Value} {r : List V → Hp → VK → Prop} {ts : List T} {Q : QT} (ho : CallR X f r) (h : OpT X.K r ts Q) : OpT X.K (rCl X f) ts Q := opT_imp h fun vs H Q q => ⟨r, ho, q⟩
theorem w_callB {x : Str} {p : Pos} {id : String} {Q : QT} (hm : X.mg x = none) (hv : bootBuiltins x = some (.builtin id)) (ha : PA X (e :: es) (UL X (e :: es)))
    (h : WA X (e :: es) ρ fun as ρ1 => OpT X.K (rCl X (.builtin id)) (resT as ρ1) fun q ts' => Q q (wb as ts' (resR as ρ1))) (hg : Gl X x := by rfl) (hn : x ≠ "__name__" := by decide) (hdb : (x == ("__debug__" : Str)) = false := by decide)
    (he : starEach (e :: es) X.env = (false, eval e X.env) :: starEach es X.env := by rfl) (hpl : (backTo pos (starEach es X.env)).any (·.1) = false := by rfl) : W X (.Call (.Name x p) (e :: es) [] pos) ρ Q :=
  w_op (fun σ H QV hq => U_of (pe_callB cl_U hg hm hv ha hn hdb he hpl) hq) h
theorem w_callTy {x : Str} {p : Pos} {id : String} {Q : QT} (hm : X.mg x = none) (hv : bootBuiltins x = some (.type id)) (ha : PA X (e :: es) (UL X (e :: es)))
    (h : WA X (e :: es) ρ fun as ρ1 => OpT X.K (rCl X (.type id)) (resT as ρ1) fun q ts' => Q q (wb as ts' (resR as ρ1))) (hg : Gl X x := by rfl) (hn : x ≠ "__name__" := by decide) (hdb : (x == ("__debug__" : Str)) = false := by decide)
    (he : starEach (e :: es) X.env = (false, eval e X.env) :: starEach es X.env := by rfl) (hpl : (backTo pos (starEach es X.env)).any (·.1) = false := by rfl) : W X (.Call (.Name x p) (e :: es) [] pos) ρ Q :=
  w_op (fun σ H QV hq => U_of (pe_callTy cl_U hg hm hv ha hn hdb he hpl) hq) h
/-- o.f -/
def rFld (K : PySem.W.Frag) (f : Str) : V → Hp → VK → Prop := fun x H1 Q => ∃ a C dx fs v, x = .ref a ∧ H1 a = some (.ins C dx fs) ∧ Cls K C ∧ NoAttr K C f ∧ fs.lookup f = some v ∧ Q v H1
theorem w_fld {f : Str} {Q : QT} (h : WA X [e] ρ fun as ρ1 => OpT X.K (r1 (rFld X.K f)) (resT as ρ1) fun q ts' => Q q (wb as ts' (resR as ρ1))) (hb : attributeBase e f X.env (eval e X.env) = eval e X.env := by rfl) : W X (.Attribute e f pos) ρ Q := by
  refine w_op (es := [e]) (fun σ H QV hq => U_of (pe_fld pe_U hb) ?_) h
  refine U_imp hq fun x H1 hq => ?_
  obtain ⟨x', e, q⟩ := hq
  cases e
  exact q
/-- displays -/
def rTup : List V → Hp → VK → Prop := fun xs H Q => xs.length ≤ sizeLine ∧ ∀ p, H p = none → Q (.ref p) (upd H p (.tup xs))
def rLst : List V → Hp → VK → Prop := fun xs H Q => xs.length ≤ sizeLine ∧ ∀ p, H p = none → Q (.ref p) (upd H p (.lst xs))
theorem w_tup {k : Nat} {Q : QT} (ha : PA X es (UL X es)) (h : WA X es ρ fun as ρ1 => OpT X.K rTup (resT as ρ1) fun q ts' => Q q (wb as ts' (resR as ρ1))) : W X (.Tuple es k pos) ρ Q :=
  w_op (fun σ H QV hq => U_of (pe_tup ha) hq) h
theorem w_lst {Q : QT} (ha : PA X es (UL X es)) (h : WA X es ρ fun as ρ1 => OpT X.K rLst (resT as ρ1) fun q ts' => Q q (wb as ts' (resR as ρ1))) : W X (.List es pos) ρ Q :=
  w_op (fun σ H QV hq => U_of (pe_lst ha) hq) h
theorem pa0 : PA X [] (UL X []) := pa_nil
theorem paU (h : PA X es (UL X es)) (hs : starEach (e :: es) X.env = (false, eval e X.env) :: starEach es X.env := by rfl) : PA X (e :: es) (UL X (e :: es)) := pa_cons pe_U h hs

/-! ### tests -/
theorem UT_imp {σ : L2.St} {H : Hp} {Q Q' : Bool → Hp → Prop} (h : UT X e σ H Q) (k : ∀ v H', Q v H' → Q' v H') : UT X e σ H Q' := fun pins s I => thn (h pins s I) fun u s' ⟨H', I', q⟩ => ⟨H', I', k _ _ q⟩
/-- truth -/
def truT : T → Option Bool
  | .v .non => some false
  | .v (.bl b) => some b
  | .v (.int i) => some (i != 0)
  | .lst _ ts => some (!ts.isEmpty)
  | .tup ts => some (!ts.isEmpty)
  | _ => none
theorem isEmpty_len {α β : Type} {xs : List α} {ys : List β} (h : xs.length = ys.length) : (!xs.isEmpty) = !ys.isEmpty := by
  cases xs <;> cases ys <;> first | rfl | simp at h
theorem truT_ok {K : KL} {t : T} {b : Bool} {o : Option V} {ts : List T} {vs : List (Option V)} {H : Hp} (h : Rp K (t :: ts) (o :: vs) H) (e : truT t = some b) : ∃ v, o = some v ∧ TruV K.k v H b := by
  cases t with
  | v x =>
    have := h.sc_inv
    subst this
    cases x <;> first | (cases e; exact ⟨_, rfl, rfl⟩) | cases e
  | lst o xs =>
    obtain ⟨a, ws, rfl, hq, l, _⟩ := h.rdL
    cases e
    exact ⟨_, rfl, .inl ⟨ws, SqL.of hq, isEmpty_len l⟩⟩
  | tup xs =>
    obtain ⟨a, ws, rfl, hq, l, _⟩ := h.rdU
    cases e
    exact ⟨_, rfl, .inr (.inl ⟨ws, SqT.of hq, isEmpty_len l⟩)⟩
  | _ => cases e
/-- an expression as a test, by its value's truth -/
theorem wt_val {Q : Bool → List T → Prop} (h : W X e ρ fun t ρ1 => ∃ b, truT t = some b ∧ Q b ρ1) (he : ∀ whole, isTrue e X.env whole = (do let v ← whole; standAt e.pos; holding [v] (truthy v)) := by intro _; rfl) : WT X e ρ Q := by
  intro L σ H fr fv QV st k
  refine UT_sz (UT_of (pt_truth pe_U he) ?_)
  refine h L σ H fr fv _ st fun t ρ1 v H1 ⟨b, e1, q⟩ s1 => ?_
  obtain ⟨v', e2, tv⟩ := truT_ok s1.rp e1
  cases e2
  exact ⟨b, tv, fun z => k b ρ1 H1 q ⟨Nat.succ.inj s1.len, Rp.drop (t1 := [t]) (v1 := [some v]) s1.rp rfl, z⟩⟩

theorem wt_op {Q : Bool → List T → Prop} {r : List V → Hp → VK → Prop} (hU : ∀ σ H (QB : Bool → Hp → Prop), UL X es σ H (fun vs H1 => r vs H1 fun v H2 => ∃ k, v = .bl k ∧ QB k H2) → UT X e σ H QB)
    (h : WA X es ρ fun as ρ1 => OpT X.K r (resT as ρ1) fun q ts' => ∃ k, q = T.bl k ∧ Q k (wb as ts' (resR as ρ1))) : WT X e ρ Q := by
  intro L σ H fr fv QV st k
  refine UT_sz (hU _ _ _ (h L σ H fr fv _ st fun as ρ1 vs H1 q ok s1 => ?_))
  have la := argsOk_length ok
  have l1 : ρ1.length = σ.length := by
    have := s1.len
    rw [List.length_append, List.length_append, List.length_map, List.length_map] at this
    omega
  have s2 : Rp ⟨X.K, L⟩ (as.map Arg.t ++ (ρ1 ++ fr)) (vs.map some ++ (σ ++ fv)) H1 := by simpa [List.append_assoc] using s1.rp
  obtain ⟨q1, q2⟩ := res_length as ρ1
  refine q L H1 _ _ vs _ (by rw [q1, la]) (s2.res ok l1) s1.sz fun t ts' v H2 hq hl h2 => ?_
  obtain ⟨b, rfl, hq⟩ := hq
  have e := h2.sc_inv
  cases e
  refine ⟨b, rfl, fun z => k b _ H2 hq (.mk' (K := ⟨X.K, L⟩) ?_ (by rw [wb_length, q2, l1]) z)⟩
  have l3 : ts'.length = (vs.map some).length := by rw [hl, q1, List.length_map, la]
  exact Rp.wb (Rp.drop (t1 := [T.bl b]) (v1 := [some (V.bl b)]) h2 rfl) ok (by rw [q2, l1]) (by rw [hl, q1])
/-- a comparison as a test -/
theorem wt_cmp {op : CmpOp} {Q : Bool → List T → Prop} (h : WA X [a, b] ρ fun as ρ1 => OpT X.K (r2 (rOp X (compareOp op))) (resT as ρ1) fun q ts' => ∃ k, q = T.bl k ∧ Q k (wb as ts' (resR as ρ1))) (hm : behindInMarks op b = false := by first | rfl | exact nomark _) : WT X (.Compare a [op] [b] pos) ρ Q := by
  refine wt_op (es := [a, b]) (fun σ H QV hq => UT_of (pt_cmpR op_U pe_U pe_U hm) ?_) h
  refine U_imp hq fun x H1 hq => U_imp hq fun y H2 hq => ?_
  obtain ⟨x', y', e, q⟩ := hq
  cases e
  exact q
theorem wt_not {Q : Bool → List T → Prop} (h : WT X a ρ fun c ρ1 => Q (!c) ρ1) : WT X (.UnaryOp .Not a pos) ρ Q := fun L σ H fr fv QV st k =>
  UT_of (pt_not pt_U) (h L σ H fr fv _ st fun c ρ1 H1 q s1 => k (!c) ρ1 H1 q s1)
theorem WT.imp {Q Q' : Bool → List T → Prop} (h : WT X e ρ Q) (k : ∀ r ρ', Q r ρ' → Q' r ρ') : WT X e ρ Q' := fun L σ H fr fv QV st q => h L σ H fr fv QV st fun r ρ' H' z => q r ρ' H' (k _ _ z)
/-- and, or as tests: any 'whole' -/
def WW (X : Cx) (e : Expr) (ρ : List T) (Q : Bool → List T → Prop) : Prop := ∀ (L : Lks) (σ : L2.St) (H : Hp) (fr : List T) (fv : List (Option V)) (QV : Bool → Hp → Prop), Stt ⟨X.K, L⟩ ρ σ H fr fv →
  (∀ b ρ' H', Q b ρ' → Stt ⟨X.K, L⟩ ρ' σ H' fr fv → QV b H') → ∀ (whole : Sem Value) (pins : List (Addr × Obj)) (s : Shared), Inv X pins σ H s → wpAny (model X.prog X.w) X.A (isTrue e X.env whole) (TP X pins σ QV) X.xe s
theorem WW.t {Q : Bool → List T → Prop} (h : WW X e ρ Q) : WT X e ρ Q := fun L σ H fr fv QV st k pins s I => h L σ H fr fv QV st k _ pins s I
theorem ww_and1 {Q : Bool → List T → Prop} (h : WT X a ρ Q) : WW X (.BoolOp .And [a] pos) ρ Q := fun L σ H fr fv QV st k wh pins s I => (pw_and1 (pos := pos) pt_U).run wh pins s σ H QV I (h L σ H fr fv QV st k)
theorem ww_or1 {Q : Bool → List T → Prop} (h : WT X a ρ Q) : WW X (.BoolOp .Or [a] pos) ρ Q := fun L σ H fr fv QV st k wh pins s I => (pw_or1 (pos := pos) pt_U).run wh pins s σ H QV I (h L σ H fr fv QV st k)
def UW (X : Cx) (e : Expr) : TT := fun σ H Q => ∀ (whole : Sem Value) (pins : List (Addr × Obj)) (s : Shared), Inv X pins σ H s → wpAny (model X.prog X.w) X.A (isTrue e X.env whole) (TP X pins σ Q) X.xe s
theorem pw_U : PW X e (UW X e) := ⟨fun wh pins s _ _ _ I h => h wh pins s I⟩
theorem ww_and {Q : Bool → List T → Prop} (h : WT X a ρ fun c ρ1 => if c = true then WW X (.BoolOp .And (b :: es) pos) ρ1 Q else Q false ρ1) : WW X (.BoolOp .And (a :: b :: es) pos) ρ Q := fun L σ H fr fv QV st k wh pins s I =>
  (pw_and (tA := UT X a) (tB' := UW X (.BoolOp .And (b :: es) pos)) pt_U pw_U).run wh pins s σ H QV I (h L σ H fr fv _ st fun c ρ1 H1 q s1 => by
    cases c with
    | true => exact iteT ((show WW X _ ρ1 Q from q) L σ H1 fr fv QV s1 k)
    | false => exact iteF (k false ρ1 H1 q s1))
theorem ww_or {Q : Bool → List T → Prop} (h : WT X a ρ fun c ρ1 => if c = true then Q true ρ1 else WW X (.BoolOp .Or (b :: es) pos) ρ1 Q) : WW X (.BoolOp .Or (a :: b :: es) pos) ρ Q := fun L σ H fr fv QV st k wh pins s I =>
  (pw_or (tA := UT X a) (tB' := UW X (.BoolOp .Or (b :: es) pos)) pt_U pw_U).run wh pins s σ H QV I (h L σ H fr fv _ st fun c ρ1 H1 q s1 => by
    cases c with
    | false => exact iteF ((show WW X _ ρ1 Q from q) L σ H1 fr fv QV s1 k)
    | true => exact iteT (k true ρ1 H1 q s1))
/-- .. as values, all but the last bools -/
theorem w_one {op} {Q : QT} (h : W X a ρ Q) : W X (.BoolOp op [a] pos) ρ Q := fun L σ H fr fv QV st k => U_of (pe_one pe_U) (h L σ H fr fv QV st k)
theorem bl_of {K : KL} {t : T} {c : Bool} {v : V} {ts : List T} {vs : List (Option V)} {H : Hp} (h : Rp K (t :: ts) (some v :: vs) H) (e : t = T.bl c) : v = .bl c := by
  subst e
  exact Option.some.inj h.sc_inv
theorem w_and {Q : QT} (h : W X a ρ fun t ρ1 => ∃ c, t = T.bl c ∧ if c = true then W X (.BoolOp .And (b :: es) pos) ρ1 Q else Q (T.bl false) ρ1) : W X (.BoolOp .And (a :: b :: es) pos) ρ Q := fun L σ H fr fv QV st k => by
  refine U_of (pe_and pe_U pe_U) (h L σ H fr fv _ st fun t ρ1 v H1 ⟨c, e, q⟩ s1 => ⟨c, bl_of s1.rp e, ?_⟩)
  have s2 : Stt ⟨X.K, L⟩ ρ1 σ H1 fr fv := ⟨Nat.succ.inj s1.len, Rp.drop (t1 := [t]) (v1 := [some v]) s1.rp rfl, s1.sz⟩
  cases c with
  | true => exact iteT ((show W X _ ρ1 Q from q) L σ H1 fr fv QV s2 k)
  | false => exact iteF (k (T.bl false) ρ1 _ H1 q ⟨s1.len, s2.rp.sc _, s1.sz⟩)
theorem w_or {Q : QT} (h : W X a ρ fun t ρ1 => ∃ c, t = T.bl c ∧ if c = true then Q (T.bl true) ρ1 else W X (.BoolOp .Or (b :: es) pos) ρ1 Q) : W X (.BoolOp .Or (a :: b :: es) pos) ρ Q := fun L σ H fr fv QV st k => by
  refine U_of (pe_or pe_U pe_U) (h L σ H fr fv _ st fun t ρ1 v H1 ⟨c, e, q⟩ s1 => ⟨c, bl_of s1.rp e, ?_⟩)
  have s2 : Stt ⟨X.K, L⟩ ρ1 σ H1 fr fv := ⟨Nat.succ.inj s1.len, Rp.drop (t1 := [t]) (v1 := [some v]) s1.rp rfl, s1.sz⟩
  cases c with
  | false => exact iteF ((show W X _ ρ1 Q from q) L σ H1 fr fv QV s2 k)
  | true => exact iteT (k (T.bl true) ρ1 _ H1 q ⟨s1.len, s2.rp.sc _, s1.sz⟩)
theorem w_not {Q : QT} (h : W X a ρ fun t ρ1 => ∃ c, t = T.bl c ∧ Q (T.bl !c) ρ1) : W X (.UnaryOp .Not a pos) ρ Q := fun L σ H fr fv QV st k => by
  refine U_of (pe_not pe_U) (h L σ H fr fv _ st fun t ρ1 v H1 ⟨c, e, q⟩ s1 => ⟨c, bl_of s1.rp e, k (T.bl !c) ρ1 _ H1 q ⟨s1.len, ?_, s1.sz⟩⟩)
  exact Rp.sc _ (Rp.drop (t1 := [t]) (v1 := [some v]) s1.rp rfl)
theorem w_if {c : Expr} {Q : QT} (h : WT X c ρ fun k ρ1 => if k = true then W X a ρ1 Q else W X b ρ1 Q) : W X (.IfExp c a b pos) ρ Q := fun L σ H fr fv QV st k => by
  refine U_of (pe_ifExp pt_U pe_U pe_U) (h L σ H fr fv _ st fun d ρ1 H1 q s1 => ?_)
  cases d with
  | true => exact iteT ((show W X _ ρ1 Q from q) L σ H1 fr fv QV s1 k)
  | false => exact iteF ((show W X _ ρ1 Q from q) L σ H1 fr fv QV s1 k)
end
end DL

namespace DL
open PySem PySem.Spec L2

/-! ### statements -/
structure DT where
  nx : List T → Prop
  rt : T → List T → Prop
  bk : List T → Prop := fun _ => False
  ct : List T → Prop := fun _ => False
/-- the slots at P are as they were -/
def PinOk (P : Nat → Bool) (σ σ' : L2.St) : Prop := σ'.length = σ.length ∧ ∀ i, P i = true → σ'[i]? = σ[i]?
theorem PinOk.refl {P : Nat → Bool} {σ : L2.St} : PinOk P σ σ := ⟨rfl, fun _ _ => rfl⟩
theorem PinOk.trans {P : Nat → Bool} {σ σ' σ'' : L2.St} (a : PinOk P σ σ') (b : PinOk P σ' σ'') : PinOk P σ σ'' := ⟨b.1.trans a.1, fun i h => (b.2 i h).trans (a.2 i h)⟩
theorem PinOk.set {P : Nat → Bool} {σ : L2.St} {i : Nat} {o : Option V} (h : P i = false) : PinOk P σ (σ.set i o) := ⟨List.length_set, fun j hj => by
  rw [List.getElem?_set_ne]
  intro e
  rw [e, hj] at h
  cases h⟩
structure EOk (P : Nat → Bool) (K : KL) (σ : L2.St) (fr : List T) (fv : List (Option V)) (D : DT) (E : Ends) : Prop where
  nx : ∀ ρ' σ' H', D.nx ρ' → PinOk P σ σ' → Stt K ρ' σ' H' fr fv → E.nx σ' H'
  rt : ∀ r ρ' v σ' H', D.rt r ρ' → PinOk P σ σ' → Stt K (r :: ρ') (some v :: σ') H' fr fv → E.rt v H'
  bk : ∀ ρ' σ' H', D.bk ρ' → PinOk P σ σ' → Stt K ρ' σ' H' fr fv → E.bk σ' H'
  ct : ∀ ρ' σ' H', D.ct ρ' → PinOk P σ σ' → Stt K ρ' σ' H' fr fv → E.ct σ' H'
def WS (P : Nat → Bool) (X : Cx) (st : Stmt) (ρ : List T) (D : DT) : Prop := ∀ (L : Lks) (σ : L2.St) (H : Hp) (fr : List T) (fv : List (Option V)) (E : Ends), Stt ⟨X.K, L⟩ ρ σ H fr fv → EOk P ⟨X.K, L⟩ σ fr fv D E → US X st E σ H
def WSs (P : Nat → Bool) (X : Cx) (sts : List Stmt) (ρ : List T) (D : DT) : Prop := ∀ (L : Lks) (σ : L2.St) (H : Hp) (fr : List T) (fv : List (Option V)) (E : Ends), Stt ⟨X.K, L⟩ ρ σ H fr fv → EOk P ⟨X.K, L⟩ σ fr fv D E → USs X sts E σ H
section
variable {P : Nat → Bool} {X : Cx} {e a b : Expr} {es : List Expr} {st : Stmt} {sts : List Stmt} {ρ : List T} {D : DT} {pos : Pos}
theorem EOk.later {L : Lks} {σ σ' : L2.St} {fr : List T} {fv : List (Option V)} {E : Ends} (h : EOk P ⟨X.K, L⟩ σ fr fv D E) (p : PinOk P σ σ') : EOk P ⟨X.K, L⟩ σ' fr fv D E :=
  ⟨fun ρ' σ'' H' q p' s => h.nx ρ' σ'' H' q (p.trans p') s, fun r ρ' v σ'' H' q p' s => h.rt r ρ' v σ'' H' q (p.trans p') s, fun ρ' σ'' H' q p' s => h.bk ρ' σ'' H' q (p.trans p') s, fun ρ' σ'' H' q p' s => h.ct ρ' σ'' H' q (p.trans p') s⟩
theorem wss_nil (h : D.nx ρ) : WSs P X [] ρ D := fun L σ H fr fv E s k => USs_of pss_nil (k.nx ρ σ H h .refl s)
theorem wss_cons (h : WS P X st ρ { D with nx := fun ρ1 => WSs P X sts ρ1 D }) : WSs P X (st :: sts) ρ D := fun L σ H fr fv E s k =>
  USs_of (pss_cons ps_U pss_U) (h L σ H fr fv _ s ⟨fun ρ' σ' H' q p s' => q L σ' H' fr fv E s' (k.later p), k.rt, k.bk, k.ct⟩)
theorem wss_one (h : WS P X st ρ D) : WSs P X [st] ρ D := fun L σ H fr fv E s k => USs_of (pss_one ps_U) (h L σ H fr fv E s k)
theorem WS.imp {D' : DT} (h : WS P X st ρ D) (h1 : ∀ ρ, D.nx ρ → D'.nx ρ) (h2 : ∀ r ρ, D.rt r ρ → D'.rt r ρ) (h3 : ∀ ρ, D.bk ρ → D'.bk ρ) (h4 : ∀ ρ, D.ct ρ → D'.ct ρ) : WS P X st ρ D' := fun L σ H fr fv E s k =>
  h L σ H fr fv E s ⟨fun ρ' σ' H' q => k.nx ρ' σ' H' (h1 _ q), fun r ρ' v σ' H' q => k.rt r ρ' v σ' H' (h2 _ _ q), fun ρ' σ' H' q => k.bk ρ' σ' H' (h3 _ q), fun ρ' σ' H' q => k.ct ρ' σ' H' (h4 _ q)⟩
theorem ws_pass (h : D.nx ρ) : WS P X (.Pass pos) ρ D := fun L σ H fr fv E s k => US_of ps_pass (k.nx ρ σ H h .refl s)
theorem ws_break (h : D.bk ρ) : WS P X (.Break pos) ρ D := fun L σ H fr fv E s k => US_of ps_break (k.bk ρ σ H h .refl s)
theorem ws_cont (h : D.ct ρ) : WS P X (.Continue pos) ρ D := fun L σ H fr fv E s k => US_of ps_continue (k.ct ρ σ H h .refl s)
theorem Stt.tail {K : KL} {t : T} {o : Option V} {σ : L2.St} {H : Hp} {fr : List T} {fv : List (Option V)} (s : Stt K (t :: ρ) (o :: σ) H fr fv) : Stt K ρ σ H fr fv := ⟨Nat.succ.inj s.len, Rp.drop (t1 := [t]) (v1 := [o]) s.rp rfl, s.sz⟩
theorem ws_expr (h : W X e ρ fun _ ρ1 => D.nx ρ1) (hs : swapsWith e none pos.line X.env = pure false := by rfl) : WS P X (.Expr e pos) ρ D := fun L σ H fr fv E s k =>
  US_of (ps_expr pe_U hs) (h L σ H fr fv _ s fun r ρ' v H' q s' => k.nx ρ' σ H' q .refl s'.tail)
theorem ws_ret (h : W X e ρ D.rt) : WS P X (.Return (some e) pos) ρ D := fun L σ H fr fv E s k =>
  US_of (ps_ret pe_U) (h L σ H fr fv _ s fun r ρ' v H' q s' => k.rt r ρ' v σ H' q .refl s')
theorem ws_retN (h : D.rt T.non ρ) : WS P X (.Return none pos) ρ D := fun L σ H fr fv E s k =>
  US_of ps_retN (k.rt T.non ρ .non σ H h .refl ⟨congrArg Nat.succ s.len, s.rp.sc _, s.sz⟩)
theorem ws_if {c : Expr} {A B : List Stmt} (h : WT X c ρ fun b ρ1 => if b = true then WSs P X A ρ1 D else WSs P X B ρ1 D) : WS P X (.If c A B pos) ρ D := fun L σ H fr fv E s k =>
  US_of (ps_if pt_U pss_U pss_U) (h L σ H fr fv _ s fun b ρ1 H1 q s1 => by
    cases b with
    | true => exact iteT ((show WSs P X A ρ1 D from q) L σ H1 fr fv E s1 k)
    | false => exact iteF ((show WSs P X B ρ1 D from q) L σ H1 fr fv E s1 k))
theorem Stt.put {K : KL} {t : T} {o : Option V} {σ : L2.St} {H : Hp} {fr : List T} {fv : List (Option V)} {i : Nat} (s : Stt K (t :: ρ) (o :: σ) H fr fv) (hi : i < ρ.length) : Stt K (ρ.set i t) (σ.set i o) H fr fv :=
  ⟨by rw [List.length_set, List.length_set]; exact Nat.succ.inj s.len, Rp.put s.rp (Nat.succ.inj s.len) hi, s.sz⟩
/-- name = value -/
theorem ws_set (i : Nat) {x : Str} {pos' : Pos} (h : W X e ρ fun t ρ1 => D.nx (ρ1.set i t)) (hP : P i = false := by rfl) (hN : X.N.Nodup := by first | assumption | exact FnScope.nd (by assumption)) (hi : X.N[i]? = some x := by rfl)
    (hx : Loc X.env.scope x := by first | exact Or.inl rfl | exact Or.inr rfl) (hs : swapsWith e (some (.Name x pos')) pos.line X.env = pure false := by rfl) (hf : X.fn x = true ∨ X.env.scope.names.lookup x = some .local := by first | exact .inl rfl | exact .inr rfl) :
    WS P X (.Assign [.Name x pos'] e pos) ρ D := fun L σ H fr fv E s k => by
  intro pins s0 I
  refine US_of (ps_set hN hi hx pe_U hs hf) (h L σ H fr fv _ s fun r ρ' v H' q s' => ?_) pins s0 I
  have l : i < ρ'.length := by
    rw [Nat.succ.inj s'.len, I.len]
    exact (List.getElem?_eq_some_iff.mp hi).1
  exact k.nx _ _ H' q (.set hP) (s'.put l)
end

/-! ### targets -/
def UG (X : Cx) (tg : Expr) : TG := fun v σ H Q => ∀ (pins : List (Addr × Obj)) (s : Shared) (u : Value), Inv X pins σ H s → RelV v u → wpAny (model X.prog X.w) X.A (assign tg X.env u) (fun _ s' => ∃ σ' H', Inv X pins σ' H' s' ∧ Q σ' H') X.xe s
def WG (P : Nat → Bool) (X : Cx) (tg : Expr) (t : T) (ρ : List T) (Q : List T → Prop) : Prop := ∀ (L : Lks) (σ : L2.St) (H : Hp) (fr : List T) (fv : List (Option V)) (v : V) (QV : L2.St → Hp → Prop), Stt ⟨X.K, L⟩ (t :: ρ) (some v :: σ) H fr fv →
  (∀ ρ' σ' H', Q ρ' → PinOk P σ σ' → Stt ⟨X.K, L⟩ ρ' σ' H' fr fv → QV σ' H') → UG X tg v σ H QV
def UGs (X : Cx) (tgs : List Expr) : TGs := fun vs σ H Q => ∀ (pins : List (Addr × Obj)) (s : Shared) (us : List Value), Inv X pins σ H s → Vals vs us → wpAny (model X.prog X.w) X.A (assignInOrder ((assignEach tgs X.env).map (·.2)) us) (fun _ s' => ∃ σ' H', Inv X pins σ' H' s' ∧ Q σ' H') X.xe s
def WGs (P : Nat → Bool) (X : Cx) (tgs : List Expr) (ts : List T) (ρ : List T) (Q : List T → Prop) : Prop := ∀ (L : Lks) (σ : L2.St) (H : Hp) (fr : List T) (fv : List (Option V)) (vs : List V) (QV : L2.St → Hp → Prop), ts.length = vs.length → Stt ⟨X.K, L⟩ (ts ++ ρ) (vs.map some ++ σ) H fr fv →
  (∀ ρ' σ' H', Q ρ' → PinOk P σ σ' → Stt ⟨X.K, L⟩ ρ' σ' H' fr fv → QV σ' H') → UGs X tgs vs σ H QV
section
variable {P : Nat → Bool} {X : Cx} {e a b tg : Expr} {es tgs : List Expr} {t : T} {ts ρ : List T} {pos : Pos} {Q : List T → Prop}
theorem pg_U : PG X tg (UG X tg) := ⟨fun pins s σ H v u Q I r h => h pins s u I r⟩
theorem pgs_U : PGs X tgs (UGs X tgs) := ⟨fun pins s σ H v u Q I r h => h pins s u I r⟩
theorem UG_of {g : TG} {v : V} {σ : L2.St} {H : Hp} {Q : L2.St → Hp → Prop} (h : PG X tg g) (q : g v σ H Q) : UG X tg v σ H Q := fun pins s u I r => h.run pins s σ H v u Q I r q
theorem UGs_of {g : TGs} {v : List V} {σ : L2.St} {H : Hp} {Q : L2.St → Hp → Prop} (h : PGs X tgs g) (q : g v σ H Q) : UGs X tgs v σ H Q := fun pins s u I r => h.run pins s σ H v u Q I r q
theorem wg_nm (i : Nat) {x : Str} (h : Q (ρ.set i t)) (hP : P i = false := by rfl) (hN : X.N.Nodup := by first | assumption | exact FnScope.nd (by assumption)) (hi : X.N[i]? = some x := by rfl) (hx : Loc X.env.scope x := by first | exact Or.inl rfl | exact Or.inr rfl)
    (hf : X.fn x = true ∨ X.env.scope.names.lookup x = some .local := by first | exact .inl rfl | exact .inr rfl) : WG P X (.Name x pos) t ρ Q := fun L σ H fr fv v QV s k pins s0 u I r => by
  have l : i < ρ.length := by
    rw [Nat.succ.inj s.len, I.len]
    exact (List.getElem?_eq_some_iff.mp hi).1
  exact UG_of (pg_name hN hi hx hf) (k _ _ H h (.set hP) (s.put l)) pins s0 u I r
theorem wgs_nil (h : Q ρ) : WGs P X [] [] ρ Q := fun L σ H fr fv vs QV l s k => by
  cases vs with
  | nil => exact UGs_of pgs_nil ⟨rfl, k ρ σ H h .refl s⟩
  | cons _ _ => cases l
theorem UG_imp {v : V} {σ : L2.St} {H : Hp} {Q Q' : L2.St → Hp → Prop} (h : UG X tg v σ H Q) (k : ∀ σ' H', Q σ' H' → Q' σ' H') : UG X tg v σ H Q' := fun pins s u I r => thn (h pins s u I r) fun _ s' ⟨σ', H', I', q⟩ => ⟨σ', H', I', k _ _ q⟩
theorem wgs_cons (h : WG P X tg t ρ fun ρ1 => WGs P X tgs ts ρ1 Q) (hs : (assignEach (tg :: tgs) X.env).map (·.2) = assign tg X.env :: (assignEach tgs X.env).map (·.2) := by rfl) : WGs P X (tg :: tgs) (t :: ts) ρ Q := fun L σ H fr fv vs QV l s k => by
  cases vs with
  | nil => cases l
  | cons v vs =>
    have l' : ts.length = vs.length := Nat.succ.inj l
    have ls : ρ.length = σ.length := by
      have := s.len
      simp only [List.length_append, List.length_map, List.length_cons] at this
      omega
    have s1 : Stt ⟨X.K, L⟩ (t :: ρ) (some v :: σ) H (ts ++ fr) (vs.map some ++ fv) := by
      refine ⟨congrArg Nat.succ ls, ?_, s.sz⟩
      have h1 : Rp ⟨X.K, L⟩ ((t :: ts) ++ (ρ ++ fr)) ((v :: vs).map some ++ (σ ++ fv)) H := by simpa [List.append_assoc] using s.rp
      have h2 := Rp.back (t3 := [t]) (v3 := [some v]) (t1 := ts) (v1 := vs.map some) (t2 := ρ) (v2 := σ) h1 (by simpa using l') ls rfl
      have h3 := Rp.front (t3 := [t]) (v3 := [some v]) (t1 := ρ) (v1 := σ) (t2 := ts) (v2 := vs.map some) (t4 := fr) (v4 := fv) (Rp.swap h2 (by simpa using l') ls |> fun h => by
        have := Rp.swap (t1 := ts) (v1 := vs.map some) (t2 := ρ) (v2 := σ) h2 (by simpa using l') ls
        simpa [List.append_assoc] using this) ls (by simpa using l') rfl
      simpa [List.append_assoc] using h3
    refine UGs_of (pgs_cons pg_U pgs_U hs) ⟨v, vs, rfl, h L σ H _ _ v _ s1 fun ρ1 σ1 H1 q p s2 => ?_⟩
    refine q L σ1 H1 fr fv vs _ l' ⟨by simp [s2.len, l'], ?_, s2.sz⟩ fun ρ' σ' H' q' p' s' => k ρ' σ' H' q' (p.trans p') s'
    have := Rp.swap (t1 := ρ1) (v1 := σ1) (t2 := ts) (v2 := vs.map some) s2.rp s2.len (by simpa using l')
    simpa [List.append_assoc] using this
/-- a tuple is told apart -/
theorem _root_.DL.Rp.untup {K : KL} {H : Hp} {xs ts : List T} {w : Option V} {vs : List (Option V)} (h : Rp K (.tup xs :: ts) (w :: vs) H) : ∃ a ws, w = some (.ref a) ∧ H a = some (.tup ws) ∧ xs.length = ws.length ∧ Rp K (xs ++ ts) (ws.map some ++ vs) H := by
  obtain ⟨F, A, h⟩ := h
  obtain ⟨o', r, B0, C0, e, rfl, h0, h3⟩ := id h.own
  obtain ⟨rfl, rfl⟩ := List.cons.inj e
  rcases h0 with ⟨e, _⟩ | ⟨y, rfl, g⟩
  · cases e
  unfold Own at g
  obtain ⟨a, ws, rfl, c, g⟩ := g
  refine ⟨a, ws, rfl, ?_, ownL_length g, F, B0 ++ C0, h.perm (ownS_join (ownL_S g) h3) _ (List.Perm.refl _) (List.Sublist.refl _)⟩
  rcases h.le _ _ c with c | ⟨e, _⟩
  · exact c
  · cases e
theorem wg_tup {k : Nat} (h : WGs P X es ts ρ Q) (hc : X.calm = true := by rfl) (hn : (assignEach es X.env).length = ts.length := by rfl) (hst : (assignEach es X.env).findIdx? (·.1) = none := by rfl) : WG P X (.Tuple es k pos) (.tup ts) ρ Q := fun L σ H fr fv v QV s kk => by
  obtain ⟨a, ws, e1, hq, l, h1⟩ := s.rp.untup
  cases e1
  refine UG_of (pg_tup (n := ts.length) hc pgs_U hn hst) ⟨a, ws, rfl, SqT.of hq, l.symm, h L σ H fr fv ws QV l ⟨by simp [l, Nat.succ.inj s.len], by simpa [List.append_assoc] using h1, s.sz⟩ kk⟩
/-- target = value -/
theorem ws_asg {D : DT} (h : W X e ρ fun t ρ1 => WG P X tg t ρ1 D.nx) (hs : swapsWithSole [tg] e pos.line X.env = pure false := by rfl) (hw : swappedStores [tg] e X.env = pure none := by rfl)
    (h1 : (assignEach [tg] X.env).map (·.2) = [assign tg X.env] := by rfl) : WS P X (.Assign [tg] e pos) ρ D := fun L σ H fr fv E s k =>
  US_of (ps_asg pe_U pg_U hs hw h1) (h L σ H fr fv _ s fun t ρ1 v H1 q s1 => q L σ H1 fr fv v _ s1 fun ρ' σ' H' q' p' s' => k.nx ρ' σ' H' q' p' s')
end
end DL

namespace DL
open PySem PySem.Spec L2
section
variable {P : Nat → Bool} {X : Cx} {e a b tg o i : Expr} {es tgs : List Expr} {t : T} {ts ρ : List T} {pos : Pos} {D : DT}
theorem par_of : ∀ {es : List Expr} {pos : Pos}, PA X es (UL X es) → PA X es (UL X es) := fun h => h
/-- the operands of a statement, taken -/
theorem stt_res {L : Lks} {σ : L2.St} {H : Hp} {fr : List T} {fv : List (Option V)} {as : List Arg} {vs : List V} (s : Stt ⟨X.K, L⟩ (as.map Arg.t ++ ρ) (vs.map some ++ σ) H fr fv) (ok : ArgsOk σ as vs) : Stt ⟨X.K, L⟩ (resT as ρ ++ resR as ρ) (vs.map some ++ σ) H fr fv := by
  have la := argsOk_length ok
  have l1 : ρ.length = σ.length := by
    have := s.len
    simp only [List.length_append, List.length_map] at this
    omega
  obtain ⟨q1, q2⟩ := res_length as ρ
  refine ⟨by simp [q1, q2, la, l1], ?_, s.sz⟩
  have := Rp.res (K := ⟨X.K, L⟩) (H := H) (as := as) (ρ := ρ) (fr := fr) (vs := vs) (fv := fv) (σ := σ) (by simpa [List.append_assoc] using s.rp) ok l1
  simpa [List.append_assoc] using this
/-- a, b = e1, e2 -/
theorem ws_par (i j : Nat) {x y : Str} {px py pt : Pos} {kt k2 pt2} (ha : PA X [a, b] (UL X [a, b])) (h : WA X [a, b] ρ fun as ρ1 => ∃ t u, resT as ρ1 = [t, u] ∧ D.nx (((resR as ρ1).set i t).set j u))
    (hP : P i = false := by rfl) (hP2 : P j = false := by rfl) (hc : X.calm = true := by rfl) (hN : X.N.Nodup := by first | assumption | exact FnScope.nd (by assumption)) (hi : X.N[i]? = some x := by rfl) (hj : X.N[j]? = some y := by rfl) (hij : i ≠ j := by decide)
    (hx : X.env.scope.names.lookup x = some .local := by rfl) (hy : X.env.scope.names.lookup y = some .local := by rfl)
    (hw : swappedStores [.Tuple [.Name x px, .Name y py] kt pt] (.Tuple [a, b] k2 pt2) X.env = pure (some [x, y]) := by rfl)
    (hs : swapsWithSole [.Tuple [.Name x px, .Name y py] kt pt] (.Tuple [a, b] k2 pt2) pos.line X.env = pure false := by rfl) :
    WS P X (.Assign [.Tuple [.Name x px, .Name y py] kt pt] (.Tuple [a, b] k2 pt2) pos) ρ D := fun L σ H fr fv E s k => by
  intro pins s0 I
  refine US_of (ps_par hc hN hi hj hij hx hy ha hw hs) (h L σ H fr fv _ s fun as ρ1 vs H1 ⟨t, u, e, q⟩ ok s1 => ?_) pins s0 I
  have s2 := stt_res s1 ok
  rw [e] at s2
  have l2 : vs.length = 2 := by
    have := argsOk_length ok
    have q1 := (res_length as ρ1).1
    rw [e] at q1
    simp at q1
    omega
  obtain ⟨v, w, rfl⟩ : ∃ v w, vs = [v, w] := by
    match vs, l2 with
    | [v, w], _ => exact ⟨v, w, rfl⟩
  have l3 : (resR as ρ1).length = σ.length := by
    have := s2.len
    simp at this
    omega
  have li : i < (resR as ρ1).length := by rw [l3, I.len]; exact (List.getElem?_eq_some_iff.mp hi).1
  have lj : j < (resR as ρ1).length := by rw [l3, I.len]; exact (List.getElem?_eq_some_iff.mp hj).1
  refine ⟨v, w, rfl, k.nx _ _ H1 q (.trans (.set hP) (.set hP2)) ?_⟩
  have s3 : Stt ⟨X.K, L⟩ (t :: resR as ρ1) (some v :: σ) H1 (u :: fr) (some w :: fv) := by
    refine ⟨congrArg Nat.succ l3, ?_, s2.sz⟩
    have := s2.rp
    have h2 := Rp.back (t3 := [u]) (v3 := [some w]) (t1 := resR as ρ1) (v1 := σ) (t2 := [t]) (v2 := [some v]) (t4 := fr) (v4 := fv) (Rp.swap (t1 := [t]) (v1 := [some v]) (t2 := [u]) (v2 := [some w]) this rfl rfl |> fun h => by
      have := Rp.back (t3 := [t]) (v3 := [some v]) (t1 := [u]) (v1 := [some w]) (t2 := resR as ρ1) (v2 := σ) (t4 := fr) (v4 := fv) s2.rp rfl l3 rfl
      simpa [List.append_assoc] using this) l3 rfl rfl
    exact Rp.swap (t1 := resR as ρ1) (v1 := σ) (t2 := [t]) (v2 := [some v]) h2 l3 rfl
  have s4 := s3.put li
  have s5 : Stt ⟨X.K, L⟩ (u :: (resR as ρ1).set i t) (some w :: σ.set i (some v)) H1 fr fv := ⟨congrArg Nat.succ s4.len, Rp.swap (t1 := (resR as ρ1).set i t) (v1 := σ.set i (some v)) (t2 := [u]) (v2 := [some w]) s4.rp s4.len rfl, s4.sz⟩
  exact s5.put (by rw [List.length_set]; exact lj)
/-- name op= e: the name holds what is still -/
def rIp (X : Cx) (op : Operator) : R2 := fun x y H Q => ∃ r : TIp, PIp X op r ∧ r x y H Q
theorem ip_U {op : Operator} : PIp X op (rIp X op) := fun pins s σ H x y v u Q I rx ry ⟨r, h, q⟩ => h pins s σ H x y v u Q I rx ry q
theorem t_ip {op : Operator} {r : TIp} {ts : List T} {Q : QT} (ho : PIp X op r) (h : OpT X.K (r2 r) ts Q) : OpT X.K (r2 (rIp X op)) ts Q :=
  opT_imp h fun vs H Q ⟨x, y, e, q⟩ => ⟨x, y, e, r, ho, q⟩
theorem ws_aug (i : Nat) {x : Str} {op : Operator} {pos' : Pos} (hρ : ρ[i]? = some t) (z : Fz t) (ht : t ≠ .gone) (h : W X e ρ fun u ρ1 => OpT X.K (r2 (rIp X op)) [t, u] fun q _ => D.nx (ρ1.set i q))
    (hP : P i = false := by rfl) (hN : X.N.Nodup := by first | assumption | exact FnScope.nd (by assumption)) (hi : X.N[i]? = some x := by rfl) (hx : Loc X.env.scope x := by first | exact Or.inl rfl | exact Or.inr rfl)
    (hf : X.fn x = true ∨ X.env.scope.names.lookup x = some .local := by first | exact .inl rfl | exact .inr rfl) : WS P X (.AugAssign (.Name x pos') op e pos) ρ D := fun L σ H fr fv E s k => by
  intro pins s0 I
  obtain ⟨v, hv⟩ := slot_some s hρ ht
  -- the old value waits twice
  have s1 : Stt ⟨X.K, L⟩ ρ σ H (t :: fr) (some v :: fv) := by
    have h1 := s.rp.take s.len hv
    rw [getD_of hρ] at h1
    have h3 : Rp ⟨X.K, L⟩ (t :: (ρ.set i .gone ++ ([t] ++ fr))) (some v :: (σ ++ ([some v] ++ fv))) H :=
      Rp.back (t3 := [t]) (v3 := [some v]) (t1 := [t]) (v1 := [some v]) (t2 := ρ.set i .gone) (v2 := σ) (h1.dup z) rfl (by rw [List.length_set, s.len]) rfl
    have h4 := h3.put (ρ := ρ.set i .gone) (σ := σ) (by rw [List.length_set, s.len]) (i := i) (by rw [List.length_set]; exact (List.getElem?_eq_some_iff.mp hρ).1)
    rw [set_getD hv, List.set_set, set_getD hρ] at h4
    exact ⟨s.len, h4, s.sz⟩
  refine US_sz (US_of (ps_aug hN hi hx pe_U ip_U hf) ⟨v, hv, h L σ H _ _ _ s1 fun u ρ1 w H1 q s2 => ?_⟩) pins s0 I
  have l1 : ρ1.length = σ.length := Nat.succ.inj s2.len
  have h5 : Rp ⟨X.K, L⟩ ([t, u] ++ (ρ1 ++ fr)) ([v, w].map some ++ (σ ++ fv)) H1 := Rp.front (t3 := [t]) (v3 := [some v]) (t1 := [u]) (v1 := [some w]) (t2 := ρ1) (v2 := σ) s2.rp rfl l1 rfl
  have h6 := q L H1 (ρ1 ++ fr) (σ ++ fv) [v, w] (fun z H2 => SzOk X.K H2 → E.nx (σ.set i (some z)) H2) rfl h5 s2.sz fun r ts' z H2 q hl h7 sz => by
    refine k.nx _ _ H2 q (.set hP) (Stt.put (t := r) (o := some z) (σ := σ) ⟨congrArg Nat.succ l1, ?_, sz⟩ (by rw [l1, I.len]; exact (List.getElem?_eq_some_iff.mp hi).1))
    have h8 := Rp.swap (t1 := [r]) (v1 := [some z]) (t2 := ts') (v2 := [v, w].map some) h7 rfl (by rw [hl]; rfl)
    exact Rp.drop (t1 := ts') (v1 := [v, w].map some) h8 (by rw [hl]; rfl)
  obtain ⟨x', y', e', q'⟩ := h6
  cases e'
  exact q'
/-- a statement that operates on what it evaluates, whose value is dropped -/
theorem ws_op {r : List V → Hp → VK → Prop} (hU : ∀ (σ : L2.St) (H : Hp) (E : Ends), UL X es σ H (fun vs H1 => r vs H1 fun _ H2 => E.nx σ H2) → US X st E σ H)
    (h : WA X es ρ fun as ρ1 => OpT X.K r (resT as ρ1) fun _ ts' => D.nx (wb as ts' (resR as ρ1))) : WS P X st ρ D := by
  intro L σ H fr fv E s k
  refine US_sz (hU _ _ _ (h L σ H fr fv _ s fun as ρ1 vs H1 q ok s1 => ?_))
  have la := argsOk_length ok
  have s2 := stt_res s1 ok
  obtain ⟨q1, q2⟩ := res_length as ρ1
  have l1 : ρ1.length = σ.length := by
    have := s1.len
    simp only [List.length_append, List.length_map] at this
    omega
  refine q L H1 (resR as ρ1 ++ fr) (σ ++ fv) vs _ (by rw [q1, la]) (by simpa [List.append_assoc] using s2.rp) s2.sz fun t ts' v H2 hq hl h2 z => ?_
  refine k.nx _ _ H2 hq .refl ⟨by rw [wb_length, q2, l1], ?_, z⟩
  exact Rp.wb (Rp.drop (t1 := [t]) (v1 := [some v]) h2 rfl) ok (by rw [q2, l1]) (by rw [hl, q1])
/-- o[i] = e -/
def rSet (X : Cx) : List V → Hp → VK → Prop := fun vs H Q => ∃ x o i, vs = [x, o, i] ∧ ∃ r : TSet, PSet X r ∧ r o i x H fun H1 => Q .non H1
theorem set_U : PSet X (fun o i v H Q => ∃ r : TSet, PSet X r ∧ r o i v H Q) := fun pins s σ H o i v ov iv u Q I r1 r2 r3 ⟨r, h, q⟩ => h pins s σ H o i v ov iv u Q I r1 r2 r3 q
theorem ws_sub {tpos : Pos} (h : WA X [e, o, i] ρ fun as ρ1 => OpT X.K (rSet X) (resT as ρ1) fun _ ts' => D.nx (wb as ts' (resR as ρ1)))
    (ha : ∀ v, assign (.Subscript o i tpos) X.env v = (do
      let ov ← holding [v] (eval o X.env)
      let iv ← holding [v, ov] (eval i X.env)
      standAt tpos
      holding [v, ov, iv] (setItem ov iv v)
      release [v, ov, iv] []) := by intro _; rfl)
    (hs : swapsWithSole [.Subscript o i tpos] e pos.line X.env = pure false := by rfl) (hw : swappedStores [.Subscript o i tpos] e X.env = pure none := by rfl)
    (h1 : (assignEach [.Subscript o i tpos] X.env).map (·.2) = [assign (.Subscript o i tpos) X.env] := by rfl) : WS P X (.Assign [.Subscript o i tpos] e pos) ρ D := by
  refine ws_op (es := [e, o, i]) (fun σ H E hq => US_of (ps_asg pe_U (pg_sub pe_U pe_U set_U ha) hs hw h1) ?_) h
  refine U_imp hq fun x H1 hq => U_imp hq fun y H2 hq => U_imp hq fun z H3 hq => ?_
  obtain ⟨x', o', i', e, r, hr, q⟩ := hq
  cases e
  exact ⟨r, hr, q⟩
theorem t_set {r : TSet} {ts : List T} {Q : QT} (hr : PSet X r) (h : OpT X.K (fun vs H Q => ∃ x o i, vs = [x, o, i] ∧ r o i x H fun H1 => Q .non H1) ts Q) : OpT X.K (rSet X) ts Q :=
  opT_imp h fun vs H Q ⟨x, o, i, e, q⟩ => ⟨x, o, i, e, r, hr, q⟩
/-- o.f = e -/
def rSetF (K : PySem.W.Frag) (f : Str) : List V → Hp → VK → Prop := fun vs H Q => ∃ y x, vs = [y, x] ∧ ∃ a C dx fs, x = .ref a ∧ H a = some (.ins C dx fs) ∧ Cls K C ∧ NoAttr K C f ∧ fs.length < 1000 ∧ Q .non (upd H a (.ins C dx (putF f y fs)))
theorem ws_fld {f : Str} {pos' : Pos} (h : WA X [e, o] ρ fun as ρ1 => OpT X.K (rSetF X.K f) (resT as ρ1) fun _ ts' => D.nx (wb as ts' (resR as ρ1))) (hs : swapsWith e (some (.Attribute o f pos')) pos.line X.env = pure false := by rfl) :
    WS P X (.Assign [.Attribute o f pos'] e pos) ρ D := by
  refine ws_op (es := [e, o]) (fun σ H E hq => US_of (ps_fld pe_U pe_U hs) ?_) h
  refine U_imp hq fun x H1 hq => U_imp hq fun y H2 hq => ?_
  obtain ⟨y', x', e, q⟩ := hq
  cases e
  exact q
end
end DL

namespace DL
open PySem PySem.Spec L2

/-! ### what is walked -/
def UI (X : Cx) (tg iter : Expr) : TI := fun σ H R => ∀ (pins : List (Addr × Obj)) (s : Shared), Inv X pins σ H s →
  wpAny (model X.prog X.w) X.A (eval iter X.env) (fun v s1 => wpAny (model X.prog X.w) X.A (pyIter v) (PIE X pins σ tg R) X.xe s1) X.xe s
structure ItOk (K : KL) (J : It) (xs ps : List T) (pvs : List (Option V)) : Prop where
  len : xs.length ≤ sizeLine
  stop : ∀ i ts vs H, Rp K (ps ++ ts) (pvs ++ vs) H → xs.length ≤ i → J.stop i H
  go : ∀ i t ts vs H, Rp K (ps ++ ts) (pvs ++ vs) H → xs[i]? = some t → J.go i H
  yld : ∀ i t ts vs H x H', Rp K (ps ++ ts) (pvs ++ vs) H → xs[i]? = some t → J.yld i H x H' → Rp K (t :: (ps ++ ts)) (some x :: (pvs ++ vs)) H'
/-- a lock that is held within, and given back -/
def RelOk (X : Cx) (L L' : Lks) : Prop := L' = L ∨ ∃ d od u, L' = (d, od, u) :: L ∧ (∀ o u', (d, o, u') ∉ L) ∧ ∀ o' u', X.H_0 d ≠ some (.frz o' u')
def WI (X : Cx) (tg iter : Expr) (ρ : List T) (Q : List T → List T → Prop) : Prop := ∀ (L : Lks) (σ : L2.St) (H : Hp) (fr : List T) (fv : List (Option V)) (R : It → Hp → Prop), Stt ⟨X.K, L⟩ ρ σ H fr fv →
  (∀ xs ρ' J H' ps pvs L', Q xs ρ' → ps.length = pvs.length → ItOk ⟨X.K, L'⟩ J xs ps pvs → RelOk X L L' → Stt ⟨X.K, L'⟩ ρ' σ H' (ps ++ fr) (pvs ++ fv) → R J H') → UI X tg iter σ H R
section
variable {X : Cx} {tg iter : Expr} {e : Expr} {st : Stmt} {σ : L2.St} {H : Hp} {ρ : List T}
theorem pi_U : PI X tg iter (UI X tg iter) := ⟨fun pins s σ H R I h => h pins s I⟩
theorem UI_of {wi : TI} {R : It → Hp → Prop} (h : PI X tg iter wi) (q : wi σ H R) : UI X tg iter σ H R := fun pins s I => h.run pins s σ H R I q
theorem UI_sz {R : It → Hp → Prop} (h : UI X tg iter σ H fun J H' => SzOk X.K H' → R J H') : UI X tg iter σ H R := fun pins s I => thn (h pins s I) fun v s1 h1 => thn h1 fun itv s2 ⟨it, fp, tn, J, H', e, I', T', st, f, q⟩ => ⟨it, fp, tn, J, H', e, I', T', st, f, q (sz_inv I')⟩
theorem UG_sz0 {v : V} {Q : L2.St → Hp → Prop} (h : SzOk X.K H → UG X tg v σ H Q) : UG X tg v σ H Q := fun pins s u I r => h (sz_inv I) pins s u I r
theorem U_sz0 {Q : VK} (h : SzOk X.K H → U X e σ H Q) : U X e σ H Q := fun pins s I => h (sz_inv I) pins s I
theorem UT_sz0 {Q : Bool → Hp → Prop} (h : SzOk X.K H → UT X e σ H Q) : UT X e σ H Q := fun pins s I => h (sz_inv I) pins s I
/-- behind: the same, or with a lock given back -/
def UnH (X : Cx) (Q : Hp → Prop) (H : Hp) : Prop := Q H ∨ ∃ d od u, H d = some (.frz od u) ∧ (∀ o' u', X.H_0 d ≠ some (.frz o' u')) ∧ Q (upd H d u)
def unl (X : Cx) (D : Ends) : Ends := ⟨fun σ H => UnH X (D.nx σ) H, fun v H => UnH X (D.rt v) H, fun σ H => UnH X (D.bk σ) H, fun σ H => UnH X (D.ct σ) H⟩
theorem UnH.inv {pins : List (Addr × Obj)} {s : Shared} {Q : Hp → Prop} (h : UnH X Q H) (I : Inv X pins σ H s) : ∃ H', Inv X pins σ H' s ∧ Q H' := by
  rcases h with h | ⟨d, od, u, e, n, h⟩
  · exact ⟨H, I, h⟩
  · exact ⟨_, I.unlock e n, h⟩
theorem US_unl {D : Ends} (h : US X st (unl X D) σ H) : US X st D σ H := fun pins s I => thn (h pins s I) fun f s' q => by
  cases f with
  | next =>
    obtain ⟨σ', H', I', q⟩ := q
    obtain ⟨H2, I2, q⟩ := q.inv I'
    exact ⟨σ', H2, I2, q⟩
  | brk =>
    obtain ⟨σ', H', I', q⟩ := q
    obtain ⟨H2, I2, q⟩ := q.inv I'
    exact ⟨σ', H2, I2, q⟩
  | cont =>
    obtain ⟨σ', H', I', q⟩ := q
    obtain ⟨H2, I2, q⟩ := q.inv I'
    exact ⟨σ', H2, I2, q⟩
  | ret v =>
    obtain ⟨x, σ', H', I', r, q⟩ := q
    obtain ⟨H2, I2, q⟩ := q.inv I'
    exact ⟨x, σ', H2, I2, r, q⟩
theorem U_unl {Q : VK} (h : U X e σ H fun v H' => UnH X (Q v) H') : U X e σ H Q := fun pins s I => thn (h pins s I) fun u s' ⟨v, H', I', r, q⟩ => by
  obtain ⟨H2, I2, q⟩ := q.inv I'
  exact ⟨v, H2, I2, r, q⟩
/-- what was walked is given back -/
theorem rel_ok {L L' : Lks} {ps ts : List T} {pvs vs : List (Option V)} {Q : Hp → Prop} (h : Rp ⟨X.K, L'⟩ (ps ++ ts) (pvs ++ vs) H) (l : ps.length = pvs.length) (r : RelOk X L L') (k : ∀ H', Rp ⟨X.K, L⟩ ts vs H' → Q H') : UnH X Q H := by
  rcases r with rfl | ⟨d, od, u, rfl, hn, hx⟩
  · exact .inl (k H (h.drop l))
  · obtain ⟨h1, h2⟩ := h.unlock hn
    exact .inr ⟨d, od, u, h1, hx, k _ (h2.drop l)⟩
end

section
variable {P : Nat → Bool} {X : Cx} {tg iter c : Expr} {body : List Stmt} {ρ : List T} {D : DT} {pos : Pos}
theorem ws_for (h : WI X tg iter ρ fun xs ρ1 => ∃ Iv : Nat → List T → Prop, Iv 0 ρ1 ∧ (∀ i t ρ2, xs[i]? = some t → Iv i ρ2 → WG P X tg t ρ2 fun ρ3 => WSs P X body ρ3 ⟨Iv (i + 1), D.rt, D.nx, Iv (i + 1)⟩) ∧ ∀ ρ2, Iv xs.length ρ2 → D.nx ρ2)
    (hc : X.calm = true := by rfl) (hp : PassesOwn (model X.prog X.w) X.A X.env X.xe := by exact PassesOwn.never) (hs : ∀ x, foldedSetIterable iter X.env x = pure x := by intro _; rfl) : WS P X (.For tg iter body [] pos) ρ D := by
  intro L σ H fr fv E s k
  refine US_sz (US_unl (US_of (ps_for hp hc pi_U pg_U pss_U hs) (h L σ H fr fv _ s fun xs ρ1 J H1 ps pvs L' ⟨Iv, h0, hs, hd⟩ lp it ro s1 => ?_)))
  have stp : ∀ {ρ2 : List T} {σ2 : L2.St} {H2 : Hp}, Stt ⟨X.K, L'⟩ ρ2 σ2 H2 (ps ++ fr) (pvs ++ fv) → Rp ⟨X.K, L'⟩ (ps ++ (ρ2 ++ fr)) (pvs ++ (σ2 ++ fv)) H2 := fun s2 => Rp.swap s2.rp s2.len lp
  have bkS : ∀ {ρ2 : List T} {σ2 : L2.St} {H2 : Hp}, D.nx ρ2 → PinOk P σ σ2 → Stt ⟨X.K, L'⟩ ρ2 σ2 H2 (ps ++ fr) (pvs ++ fv) → UnH X ((szE X.K E).nx σ2) H2 := fun q p s2 => rel_ok (stp s2) lp ro fun H' r' z => k.nx _ _ H' q p ⟨s2.len, r', z⟩
  refine ⟨fun i m σ2 H2 => m = xs.length - i ∧ i ≤ xs.length ∧ ∃ ρ2, Iv i ρ2 ∧ PinOk P σ σ2 ∧ Stt ⟨X.K, L'⟩ ρ2 σ2 H2 (ps ++ fr) (pvs ++ fv), ⟨_, rfl, Nat.zero_le _, ρ1, h0, .refl, s1⟩, ?_⟩
  rintro i m σ2 H2 ⟨rfl, hi, ρ2, iv, pn, s2⟩
  by_cases hlt : i < xs.length
  · have e : xs[i]? = some xs[i] := List.getElem?_eq_getElem hlt
    refine .inr ⟨it.go i _ _ _ H2 (stp s2) e, fun σ' H' => ∃ ρ3, Iv (i + 1) ρ3 ∧ PinOk P σ σ' ∧ Stt ⟨X.K, L'⟩ ρ3 σ' H' (ps ++ fr) (pvs ++ fv), fun σ' H' ⟨ρ3, a, b, c⟩ => ⟨xs.length - (i + 1), by omega, rfl, hlt, ρ3, a, b, c⟩, fun x H' y => UG_sz0 fun z => ?_⟩
    have r3 := it.yld i _ _ _ H2 x H' (stp s2) e y
    have s3 : Stt ⟨X.K, L'⟩ (xs[i] :: ρ2) (some x :: σ2) H' (ps ++ fr) (pvs ++ fv) := ⟨congrArg Nat.succ s2.len, Rp.back (t3 := ps) (v3 := pvs) (t1 := [xs[i]]) (v1 := [some x]) (t2 := ρ2) (v2 := σ2) (t4 := fr) (v4 := fv) (Rp.swap (t1 := [xs[i]]) (v1 := [some x]) (t2 := ps) (v2 := pvs) r3 rfl lp) rfl s2.len lp, z⟩
    refine hs i _ ρ2 e iv L' σ2 H' _ _ x _ s3 fun ρ3 σ3 H3 q p3 s4 => ?_
    refine q L' σ3 H3 _ _ _ s4 ⟨fun ρ' σ' H' a b c => ⟨ρ', a, pn.trans (p3.trans b), c⟩, fun r ρ' v σ' H' a b c => ?_, fun ρ' σ' H' a b c => bkS a (pn.trans (p3.trans b)) c, fun ρ' σ' H' a b c => ⟨ρ', a, pn.trans (p3.trans b), c⟩⟩
    have r5 : Rp ⟨X.K, L'⟩ (ps ++ ((r :: ρ') ++ fr)) (pvs ++ ((some v :: σ') ++ fv)) H' := Rp.swap c.rp c.len lp
    exact rel_ok r5 lp ro fun H'' r' z => k.rt r ρ' v σ' H'' a (pn.trans (p3.trans b)) ⟨c.len, r', z⟩
  · have e : i = xs.length := by omega
    subst e
    exact .inl ⟨it.stop _ _ _ H2 (stp s2) (Nat.le_refl _), bkS (hd ρ2 iv) pn s2⟩
theorem ws_while {α : Type} (E : α → List T → Prop) (μ : α → Nat) (a0 : α) (h0 : E a0 ρ) (hs : ∀ a ρ, E a ρ → WT X c ρ fun b ρ1 => if b = true then WSs P X body ρ1 ⟨fun ρ' => ∃ a', μ a' < μ a ∧ E a' ρ', D.rt, D.nx, fun ρ' => ∃ a', μ a' < μ a ∧ E a' ρ'⟩ else D.nx ρ1)
    (hp : PassesOwn (model X.prog X.w) X.A X.env X.xe := by exact PassesOwn.never) : WS P X (.While c body [] pos) ρ D := by
  intro L σ H fr fv EE s k
  refine US_of (ps_while hp pt_U pss_U) ⟨fun m σ2 H2 => ∃ a ρ2, m = μ a ∧ E a ρ2 ∧ PinOk P σ σ2 ∧ Stt ⟨X.K, L⟩ ρ2 σ2 H2 fr fv, ⟨_, a0, ρ, rfl, h0, .refl, s⟩, ?_⟩
  rintro m σ2 H2 ⟨a, ρ2, rfl, ea, pn, s2⟩
  refine hs a ρ2 ea L σ2 H2 fr fv _ s2 fun b ρ3 H3 q s3 => ?_
  cases b with
  | false => exact iteF (k.nx ρ3 σ2 H3 q pn s3)
  | true =>
    refine iteT ⟨fun σ' H' => ∃ a' ρ', μ a' < μ a ∧ E a' ρ' ∧ PinOk P σ σ' ∧ Stt ⟨X.K, L⟩ ρ' σ' H' fr fv, fun σ' H' ⟨a', ρ', l, e, p, st⟩ => ⟨μ a', l, a', ρ', rfl, e, p, st⟩, ?_⟩
    exact (show WSs P X body ρ3 _ from q) L σ2 H3 fr fv _ s3 ⟨fun ρ' σ' H' ⟨a', l, e⟩ p st => ⟨a', ρ', l, e, pn.trans p, st⟩, fun r ρ' v σ' H' q p st => k.rt r ρ' v σ' H' q (pn.trans p) st, fun ρ' σ' H' q p st => k.nx ρ' σ' H' q (pn.trans p) st, fun ρ' σ' H' ⟨a', l, e⟩ p st => ⟨a', ρ', l, e, pn.trans p, st⟩⟩
end

/-! ### comprehensions -/
abbrev Bc := Shared × Hp × Addr × List (Str × Addr) × List Addr
abbrev bk (X : Cx) (scope : Scope) (c : Bc) : Cx := X.blk c.1 c.2.1 scope (compEnvC scope c.2.2.2.1 c.2.2.1 X.env) c.2.2.2.2
def wipeT (ρ : List T) : List Nat → List T
  | [] => ρ
  | v :: vs => (wipeT ρ vs).set v .gone
theorem wipeT_length (ρ : List T) : ∀ vs, (wipeT ρ vs).length = ρ.length
  | [] => rfl
  | v :: vs => by unfold wipeT; rw [List.length_set, wipeT_length ρ vs]
theorem Rp.set0 {K : KL} {H : Hp} {ρ fr : List T} {σ fv : List (Option V)} (i : Nat) (h : Rp K (ρ ++ fr) (σ ++ fv) H) (l : ρ.length = σ.length) : Rp K (ρ.set i .gone ++ fr) (σ.set i none ++ fv) H := by
  by_cases hi : i < ρ.length
  · exact Rp.put (t := .gone) (o := none) (h.gone none) l hi
  · rw [List.set_eq_of_length_le (by omega), List.set_eq_of_length_le (by omega)]
    exact h
theorem Rp.wipe {K : KL} {H : Hp} {ρ fr : List T} {σ fv : List (Option V)} (h : Rp K (ρ ++ fr) (σ ++ fv) H) (l : ρ.length = σ.length) : ∀ vs, Rp K (wipeT ρ vs ++ fr) (wipe σ vs ++ fv) H
  | [] => h
  | v :: vs => Rp.set0 v (Rp.wipe h l vs) (by rw [wipeT_length, wipe_length, l])
/-- an item put behind an owned list -/
theorem Rp.app {K : KL} {H : Hp} {xs ts : List T} {t : T} {w : Option V} {v : V} {vs : List (Option V)} (h : Rp K (.lst true xs :: t :: ts) (w :: some v :: vs) H) : ∃ a ws, w = some (.ref a) ∧ H a = some (.lst ws) ∧ xs.length = ws.length ∧ Rp K (.lst true (xs ++ [t]) :: ts) (w :: vs) (upd H a (.lst (ws ++ [v]))) := by
  obtain ⟨a, ws, rfl, h1, l, h2⟩ := h.openL
  refine ⟨a, ws, rfl, h1, l, Rp.fillL ?_ (by simp [l])⟩
  simpa [List.append_assoc] using h2
theorem pinOk_wipe {vs : List Nat} {σ σ' : L2.St} (h : PinOk (fun j => !vs.contains j) (wipe σ vs) σ') : wipe σ' vs = wipe σ vs := by
  have l : σ'.length = σ.length := by rw [h.1, wipe_length]
  have wp : ∀ (vs : List Nat) (σ : L2.St) (i : Nat), (wipe σ vs)[i]? = if i ∈ vs then (if i < σ.length then some none else none) else σ[i]? := by
    intro vs
    induction vs with
    | nil => intro σ i; simp [wipe]
    | cons v vs ih =>
      intro σ i
      unfold wipe
      rw [List.getElem?_set, wipe_length]
      by_cases e : v = i
      · subst e
        simp
      · rw [if_neg e, ih]
        simp [Ne.symm e]
  apply List.ext_getElem?
  intro i
  rw [wp, wp]
  by_cases hi : i ∈ vs
  · rw [if_pos hi, if_pos hi, l]
  · rw [if_neg hi, if_neg hi]
    have := h.2 i (by simp [hi])
    rw [wp, if_neg hi] at this
    exact this
theorem Rp.weakO {K : KL} {H : Hp} : ∀ {ts : List T} {vs ws : List (Option V)}, Rp K ts vs H → vs.length = ws.length → (∀ (i : Nat) (x : V), vs[i]? = some (some x) → ws[i]? = some (some x)) → Rp K ts ws H := by
  have go : ∀ {F : Hp} {ts : List T} {vs ws : List (Option V)} {A : List Fp}, OwnS K F H ts vs A → vs.length = ws.length → (∀ (i : Nat) (x : V), vs[i]? = some (some x) → ws[i]? = some (some x)) → OwnS K F H ts ws A := by
    intro F ts
    induction ts with
    | nil =>
      intro vs ws A h l _
      obtain ⟨rfl, rfl⟩ := h
      exact ⟨by simpa using l.symm, rfl⟩
    | cons t ts ih =>
      intro vs ws A h l k
      obtain ⟨o, r, B, C, rfl, rfl, h1, h2⟩ := h
      cases ws with
      | nil => cases l
      | cons w ws =>
        refine ⟨w, ws, B, C, rfl, rfl, ?_, ih h2 (Nat.succ.inj l) fun i x e => k (i + 1) x e⟩
        rcases h1 with h1 | ⟨x, rfl, h1⟩
        · exact .inl h1
        · have e : w = some x := Option.some.inj (k 0 x rfl)
          exact .inr ⟨x, e, h1⟩
  intro ts vs ws ⟨F, A, h⟩ l k
  exact ⟨F, A, go h.own l k, h.nd, h.dj, h.lk⟩
theorem Rp.unwipe {K : KL} {H : Hp} {ρ fr : List T} {σ : L2.St} {fv : List (Option V)} {vs : List Nat} (h : Rp K (ρ ++ fr) (L2.wipe σ vs ++ fv) H) (l : ρ.length = σ.length) : Rp K (ρ ++ fr) (σ ++ fv) H := by
  refine h.weakO (by simp [L2.wipe_length]) fun i x e => ?_
  by_cases hi : i < σ.length
  · rw [List.getElem?_append_left (by rw [L2.wipe_length]; exact hi)] at e
    rw [List.getElem?_append_left hi]
    exact (L2.wipe_some e).1
  · rw [List.getElem?_append_right (by rw [L2.wipe_length]; omega), wipe_length] at e
    rw [List.getElem?_append_right (by omega)]
    exact e
def tIfs (X : Cx) : List Expr → TT
  | [] => tYes
  | [c] => UT X c
  | _ => fun _ _ _ => False
theorem pts_U {X : Cx} : ∀ {ifs : List Expr}, PTs X ifs (tIfs X ifs)
  | [] => pts_nil
  | [c] => pts_one pt_U
  | c :: c2 :: r => ⟨fun pins s σ H Q I h => False.elim h⟩
def WTs (X : Cx) : List Expr → List T → (Bool → List T → Prop) → Prop
  | [], ρ, Q => Q true ρ
  | [c], ρ, Q => WT X c ρ Q
  | _, _, _ => False
theorem wts_ok {X : Cx} {L : Lks} {ifs : List Expr} {ρ : List T} {Q : Bool → List T → Prop} (h : WTs X ifs ρ Q) {σ : L2.St} {H : Hp} {fr : List T} {fv : List (Option V)} {QV : Bool → Hp → Prop} (s : Stt ⟨X.K, L⟩ ρ σ H fr fv) (k : ∀ b ρ' H', Q b ρ' → Stt ⟨X.K, L⟩ ρ' σ H' fr fv → QV b H') : tIfs X ifs σ H QV := by
  match ifs, h with
  | [], h => exact k true ρ H h s
  | [c], h => exact h L σ H fr fv QV s k
section
variable {X : Cx} {tg iter elt kx vx : Expr} {ifs : List Expr} {ρ : List T} {pos : Pos} {scope : Scope}
theorem tIfs_all {R : List Expr} {σ : L2.St} {H : Hp} {Q : Bool → Hp → Prop} (h : ∀ c : Bc, tIfs (bk X scope c) R σ H Q) : (fun (σ : L2.St) (H : Hp) (Q : Bool → Hp → Prop) => ∀ c : Bc, tIfs (bk X scope c) R σ H Q) σ H Q := h
/-- a comprehension's premise -/
def LcP (X : Cx) (tg iter elt : Expr) (ifs : List Expr) (scope : Scope) (own : List (Str × Nat)) (ρ : List T) (Q : QT) : Prop := WI X tg iter ρ fun xs ρ1 => ∃ Iv : Nat → List T → List T → Prop, Iv 0 [] (wipeT ρ1 (own.map (·.2))) ∧
      (∀ i t acc ρ2, xs[i]? = some t → Iv i acc ρ2 → ∀ c : Bc, WG (fun j => !(own.map (·.2)).contains j) (bk X scope c) tg t ρ2 fun ρ3 => ∀ c : Bc, WTs (bk X scope c) ifs ρ3 fun b ρ4 =>
        if b = true then ∀ c : Bc, W (bk X scope c) elt ρ4 fun y ρ5 => Iv (i + 1) (acc ++ [y]) (wipeT ρ5 (own.map (·.2))) else Iv (i + 1) acc (wipeT ρ4 (own.map (·.2)))) ∧ ∀ acc ρ2, Iv xs.length acc ρ2 → Q (.lst true acc) ρ2
def gA (X : Cx) (scope : Scope) (tg : Expr) : TG := fun v σ H Q => ∀ c : Bc, UG (bk X scope c) tg v σ H Q
def ttA (X : Cx) (scope : Scope) (ifs : List Expr) : TT := fun σ H Q => ∀ c : Bc, tIfs (bk X scope c) ifs σ H Q
def teA (X : Cx) (scope : Scope) (e : Expr) : TE := fun σ H Q => ∀ c : Bc, U (bk X scope c) e σ H Q
theorem gA_ok (s : Shared) (H : Hp) (C : Addr) (cl : List (Str × Addr)) (fp : List Addr) : PG (X.blk s H scope (compEnvC scope cl C X.env) fp) tg (gA X scope tg) := ⟨fun pins s' σ H' v u Q I r q => q (s, H, C, cl, fp) pins s' u I r⟩
theorem ttA_ok (s : Shared) (H : Hp) (C : Addr) (cl : List (Str × Addr)) (fp : List Addr) : PTs (X.blk s H scope (compEnvC scope cl C X.env) fp) ifs (ttA X scope ifs) := ⟨fun pins s' σ H' Q I q => (pts_U (X := bk X scope (s, H, C, cl, fp))).run pins s' σ H' Q I (q (s, H, C, cl, fp))⟩
theorem teA_ok (s : Shared) (H : Hp) (C : Addr) (cl : List (Str × Addr)) (fp : List Addr) : PE (X.blk s H scope (compEnvC scope cl C X.env) fp) elt (teA X scope elt) := ⟨fun pins s' σ H' Q I q => q (s, H, C, cl, fp) pins s' I⟩
theorem lc_rd (own : List (Str × Nat)) {Q : QT} (h : LcP X tg iter elt ifs scope own ρ Q) {L : Lks} {σ : L2.St} {H : Hp} {fr : List T} {fv : List (Option V)} {QV : VK} (s : Stt ⟨X.K, L⟩ ρ σ H fr fv) (k : ∀ r ρ' v H', Q r ρ' → Stt ⟨X.K, L⟩ (r :: ρ') (some v :: σ) H' fr fv → QV v H') :
    tLc (UI X tg iter) (gA X scope tg) (ttA X scope ifs) (teA X scope elt) (own.map (·.2)) σ H fun v H' => UnH X (fun H' => SzOk X.K H' → QV v H') H' := by
  refine h L σ H fr fv _ s fun xs ρ1 J H1 ps pvs L' ⟨Iv, h0, ht, hd⟩ lp it ro s1 Dd nD => ?_
  have r1 : Rp ⟨X.K, L'⟩ (.lst true [] :: (wipeT ρ1 (own.map (·.2)) ++ (ps ++ fr))) (some (.ref Dd) :: (wipe σ (own.map (·.2)) ++ (pvs ++ fv))) (upd H1 Dd (.lst [])) := by
    have := Rp.fillL (ts := []) (vs := []) (us := wipeT ρ1 (own.map (·.2)) ++ (ps ++ fr)) (ws := wipe σ (own.map (·.2)) ++ (pvs ++ fv)) ((Rp.wipe s1.rp s1.len (own.map (·.2))).new (.lst []) nD) rfl
    rw [upd_upd] at this
    exact this
  refine ⟨fun i m H2 => m = xs.length - i ∧ i ≤ xs.length ∧ ∃ acc ρ2, acc.length ≤ i ∧ Iv i acc ρ2 ∧ ρ2.length = σ.length ∧ Rp ⟨X.K, L'⟩ (.lst true acc :: (ρ2 ++ (ps ++ fr))) (some (.ref Dd) :: (wipe σ (own.map (·.2)) ++ (pvs ++ fv))) H2, ⟨_, rfl, Nat.zero_le _, [], _, Nat.le_refl _, h0, by rw [wipeT_length, s1.len], r1⟩, ?_⟩
  rintro i m H2 ⟨rfl, hi, acc, ρ2, la, iv, l2, r2⟩
  have lw : ρ2.length = (wipe σ (own.map (·.2))).length := by rw [l2, wipe_length]
  -- the walked thing ahead
  have r3 : Rp ⟨X.K, L'⟩ (ps ++ (.lst true acc :: (ρ2 ++ fr))) (pvs ++ (some (.ref Dd) :: (wipe σ (own.map (·.2)) ++ fv))) H2 := Rp.front (t1 := [.lst true acc]) (v1 := [some (.ref Dd)]) (t2 := ρ2) (v2 := wipe σ (own.map (·.2))) (t3 := ps) (v3 := pvs) (t4 := fr) (v4 := fv) r2 rfl lw lp
  by_cases hlt : i < xs.length
  · have e : xs[i]? = some xs[i] := List.getElem?_eq_getElem hlt
    refine .inr ⟨it.go i _ _ _ H2 r3 e, fun H' => ∃ acc' ρ', acc'.length ≤ i + 1 ∧ Iv (i + 1) acc' ρ' ∧ ρ'.length = σ.length ∧ Rp ⟨X.K, L'⟩ (.lst true acc' :: (ρ' ++ (ps ++ fr))) (some (.ref Dd) :: (wipe σ (own.map (·.2)) ++ (pvs ++ fv))) H', fun H' ⟨acc', ρ', a, b, c, d⟩ => ⟨xs.length - (i + 1), by omega, rfl, hlt, acc', ρ', a, b, c, d⟩, fun x H' y c1 => UG_sz0 fun z => ?_⟩
    have r4 := it.yld i _ _ _ H2 x H' r3 e y
    have r5 : Rp ⟨X.K, L'⟩ ((xs[i] :: ρ2) ++ (.lst true acc :: (ps ++ fr))) ((some x :: wipe σ (own.map (·.2))) ++ (some (.ref Dd) :: (pvs ++ fv))) H' := by
      have a1 := Rp.back (t3 := ps) (v3 := pvs) (t1 := [.lst true acc]) (v1 := [some (.ref Dd)]) (t2 := ρ2) (v2 := wipe σ (own.map (·.2))) (t4 := fr ) (v4 := fv) (K := ⟨X.K, L'⟩) (H := H')
      have a2 := Rp.swap (t1 := [xs[i]]) (v1 := [some x]) (t2 := ps) (v2 := pvs) (t3 := .lst true acc :: (ρ2 ++ fr)) (v3 := some (.ref Dd) :: (wipe σ (own.map (·.2)) ++ fv)) r4 rfl lp
      have a3 := Rp.back (t3 := ps) (v3 := pvs) (t1 := [xs[i], .lst true acc]) (v1 := [some x, some (.ref Dd)]) (t2 := ρ2) (v2 := wipe σ (own.map (·.2))) (t4 := fr) (v4 := fv) a2 rfl lw lp
      exact Rp.back (t3 := [.lst true acc]) (v3 := [some (.ref Dd)]) (t1 := [xs[i]]) (v1 := [some x]) (t2 := ρ2) (v2 := wipe σ (own.map (·.2))) (t4 := ps ++ fr) (v4 := pvs ++ fv) (Rp.swap (t1 := [xs[i]]) (v1 := [some x]) (t2 := [.lst true acc]) (v2 := [some (.ref Dd)]) a3 rfl rfl) rfl lw rfl
    refine ht i _ acc ρ2 e iv c1 L' _ H' _ _ x _ ⟨congrArg Nat.succ lw, r5, z⟩ fun ρ3 σ3 H3 q p3 s3 => ⟨pinOk_wipe p3, fun c2 => ?_⟩
    have l3 : σ3.length = σ.length := by rw [p3.1, wipe_length]
    refine wts_ok (q c2) s3 fun b ρ4 H4 q4 s4 => ?_
    have fin : ∀ {acc' ρ' : List T} {H' : Hp}, acc'.length ≤ i + 1 → Iv (i + 1) acc' (wipeT ρ' (own.map (·.2))) → ρ'.length = σ3.length → Rp ⟨X.K, L'⟩ (.lst true acc' :: (ρ' ++ (ps ++ fr))) (some (.ref Dd) :: (σ3 ++ (pvs ++ fv))) H' →
        ∃ acc' ρ', acc'.length ≤ i + 1 ∧ Iv (i + 1) acc' ρ' ∧ ρ'.length = σ.length ∧ Rp ⟨X.K, L'⟩ (.lst true acc' :: (ρ' ++ (ps ++ fr))) (some (.ref Dd) :: (wipe σ (own.map (·.2)) ++ (pvs ++ fv))) H' := fun {acc' ρ' H'} a b c d => by
      refine ⟨acc', _, a, b, by rw [wipeT_length, c, l3], ?_⟩
      have d1 := Rp.swap (t1 := [.lst true acc']) (v1 := [some (.ref Dd)]) (t2 := ρ') (v2 := σ3) d rfl c
      have d2 := Rp.wipe d1 c (own.map (·.2))
      rw [pinOk_wipe p3] at d2
      exact Rp.swap (t1 := wipeT ρ' (own.map (·.2))) (t2 := [.lst true acc']) (v2 := [some (.ref Dd)]) d2 (by rw [wipeT_length, wipe_length, c, l3]) rfl
    cases b with
    | false =>
      refine iteF (fin (Nat.le_succ_of_le la) q4 s4.len ?_)
      exact Rp.swap (t1 := ρ4) (t2 := [.lst true acc]) (v2 := [some (.ref Dd)]) s4.rp s4.len rfl
    | true =>
      refine iteT fun c3 => (show ∀ c, W (bk X scope c) elt ρ4 _ from q4) c3 L' σ3 H4 _ _ _ s4 fun y ρ5 v H5 q5 s5 => ?_
      have l5 : ρ5.length = σ3.length := Nat.succ.inj s5.len
      have d3 : Rp ⟨X.K, L'⟩ (.lst true acc :: y :: (ρ5 ++ (ps ++ fr))) (some (.ref Dd) :: some v :: (σ3 ++ (pvs ++ fv))) H5 := Rp.front (t3 := [.lst true acc]) (v3 := [some (.ref Dd)]) (t1 := [y]) (v1 := [some v]) (t2 := ρ5) (v2 := σ3) (t4 := ps ++ fr) (v4 := pvs ++ fv) s5.rp rfl l5 rfl
      obtain ⟨a, ws, e1, e2, e3, r6⟩ := d3.app
      cases e1
      refine ⟨ws, e2, ?_, fin (by simp; omega) q5 l5 r6⟩
      have := it.len
      omega
  · have e : i = xs.length := by omega
    subst e
    refine .inl ⟨it.stop _ _ _ H2 r3 (Nat.le_refl _), rel_ok r3 lp ro fun H' r' z => ?_⟩
    refine k _ ρ2 _ H' (hd acc ρ2 iv) ⟨congrArg Nat.succ l2, ?_, z⟩
    -- the block's own names: nothing is known of them
    have d1 := Rp.swap (t1 := [.lst true acc]) (v1 := [some (.ref Dd)]) (t2 := ρ2) (v2 := wipe σ (own.map (·.2))) r' rfl lw
    have d2 := Rp.unwipe d1 l2
    exact Rp.swap (t1 := ρ2) (v1 := σ) (t2 := [.lst true acc]) (v2 := [some (.ref Dd)]) d2 l2 rfl
theorem w_lc (own : List (Str × Nat)) {Q : QT} (h : LcP X tg iter elt ifs scope own ρ Q)
    (ok : BlkOk X.N X.env.scope scope own) (hN : X.N.Nodup := by first | assumption | exact FnScope.nd (by assumption)) (hc : X.calm = true := by rfl) (hs : ∀ x, foldedSetIterable iter X.env x = pure x := by intro _; rfl) :
    W X (.ListComp elt [⟨tg, iter, ifs, 0⟩] scope pos) ρ Q := fun L σ H fr fv QV s k =>
  U_sz (U_unl (U_of (pe_lc hc hN pi_U ok gA_ok ttA_ok teA_ok hs) (lc_rd own h s k)))
/-- name = [..] -/
theorem ws_setLc {P : Nat → Bool} {D : DT} (i : Nat) {y : Str} {py spos : Pos} (own : List (Str × Nat)) (h : LcP X tg iter elt ifs scope own ρ fun t ρ1 => D.nx (ρ1.set i t)) (ok : BlkOk X.N X.env.scope scope own) (hP : P i = false := by rfl)
    (hN : X.N.Nodup := by first | assumption | exact FnScope.nd (by assumption)) (hc : X.calm = true := by rfl) (hy : X.N[i]? = some y := by rfl) (hyl : X.env.scope.names.lookup y = some .local := by rfl)
    (hsw : swapsWith (.ListComp elt [⟨tg, iter, ifs, 0⟩] scope pos) (some (.Name y py)) spos.line X.env = pure true := by exact sw_true rfl rfl rfl (by decide +kernel)) (hs : ∀ x, foldedSetIterable iter X.env x = pure x := by intro _; rfl) :
    WS P X (.Assign [.Name y py] (.ListComp elt [⟨tg, iter, ifs, 0⟩] scope pos) spos) ρ D := fun L σ H fr fv E s k pins s0 I => by
  refine US_sz (US_unl (US_of (ps_setLc hc hN hy hyl hsw pi_U ok gA_ok ttA_ok teA_ok hs) (lc_rd own h s (QV := fun v H' => E.nx (σ.set i (some v)) H') fun r ρ' v H' q s' => k.nx _ _ H' q (.set hP) (s'.put ?_)))) pins s0 I
  rw [Nat.succ.inj s'.len, I.len]
  exact (List.getElem?_eq_some_iff.mp hy).1
end
end DL

namespace DL
open PySem PySem.Spec L2
open PyProof.Rows (envOfC)

/-! ### defs: contracts by values -/
/-- a contract: the arguments, what is wanted of the value and of the arguments behind -/
abbrev BC := List T → QT → Prop
def lift (K : PySem.W.Frag) (b : BC) : Sp := fun vs H Q _ => ∃ (L : Lks) (ts fr : List T) (fv : List (Option V)) (Q1 : QT), b ts Q1 ∧ ts.length = vs.length ∧ Rp ⟨K, L⟩ (ts ++ fr) (vs.map some ++ fv) H ∧
  ∀ r ts' v H', Q1 r ts' → ts'.length = ts.length → Rp ⟨K, L⟩ (r :: (ts' ++ fr)) (some v :: (vs.map some ++ fv)) H' → Q v H'
/-- the parameters behind: those at P -/
def maskT (P : Nat → Bool) : Nat → Nat → List T → List T
  | _, 0, _ => []
  | i, n + 1, [] => .gone :: maskT P (i + 1) n []
  | i, n + 1, t :: ρ => (if P i = true then t else .gone) :: maskT P (i + 1) n ρ
theorem maskT_length (P : Nat → Bool) : ∀ (n i : Nat) (ρ : List T), (maskT P i n ρ).length = n
  | 0, _, _ => by unfold maskT; rfl
  | n + 1, i, [] => by unfold maskT; rw [List.length_cons, maskT_length P n]
  | n + 1, i, t :: ρ => by unfold maskT; rw [List.length_cons, maskT_length P n]
theorem mask_ok {K : KL} {P : Nat → Bool} {H : Hp} : ∀ {vs : List V} {i : Nat} {ρ fr pre : List T} {σ fv pv : List (Option V)}, Rp K (pre ++ (ρ ++ fr)) (pv ++ (σ ++ fv)) H → pre.length = pv.length → ρ.length = σ.length → vs.length ≤ ρ.length →
    (∀ j, P (i + j) = true → j < vs.length → σ[j]? = some vs[j]?) → Rp K (pre ++ (maskT P i vs.length ρ ++ fr)) (pv ++ (vs.map some ++ fv)) H
  | [], i, ρ, fr, pre, σ, fv, pv, h, lp, l, hl, hp => by
    have h1 := Rp.swap h lp l
    have h2 := Rp.drop h1 l
    cases ρ <;> exact h2
  | v :: vs, i, [], fr, pre, σ, fv, pv, h, lp, l, hl, hp => by simp at hl
  | v :: vs, i, t :: ρ, fr, pre, [], fv, pv, h, lp, l, hl, hp => by cases l
  | v :: vs, i, t :: ρ, fr, pre, o :: σ, fv, pv, h, lp, l, hl, hp => by
    have h1 : Rp K (pre ++ ([t] ++ (ρ ++ fr))) (pv ++ ([o] ++ (σ ++ fv))) H := h
    have h2 : Rp K (t :: (pre ++ (ρ ++ fr))) (o :: (pv ++ (σ ++ fv))) H := Rp.swap h1 lp rfl
    have h3 : Rp K ((if P i = true then t else .gone) :: (pre ++ (ρ ++ fr))) (some v :: (pv ++ (σ ++ fv))) H := by
      by_cases hP : P i = true
      · rw [if_pos hP]
        have e := hp 0 hP (Nat.zero_lt_succ _)
        have e2 : o = some v := Option.some.inj e
        rw [e2] at h2
        exact h2
      · rw [if_neg hP]
        exact Rp.gone (some v) (Rp.drop (t1 := [t]) (v1 := [o]) h2 rfl)
    have h4 : Rp K ((pre ++ [if P i = true then t else .gone]) ++ (ρ ++ fr)) ((pv ++ [some v]) ++ (σ ++ fv)) H := by
      have := Rp.swap (t1 := [if P i = true then t else .gone]) (v1 := [some v]) (t2 := pre) (v2 := pv) h3 rfl lp
      simpa [List.append_assoc] using this
    have h5 := mask_ok (P := P) (i := i + 1) (vs := vs) h4 (by simp [lp]) (Nat.succ.inj l) (Nat.le_of_succ_le_succ hl) fun j hj hlt => by
      have := hp (j + 1) (by rw [show i + (j + 1) = i + 1 + j by omega]; exact hj) (Nat.succ_lt_succ hlt)
      simpa using this
    show Rp K (pre ++ (((if P i = true then t else .gone) :: maskT P (i + 1) vs.length ρ) ++ fr)) (pv ++ (some v :: (vs.map some ++ fv))) H
    simpa [List.append_assoc] using h5
theorem gones {K : KL} {H : Hp} {ts fr : List T} {vs fv : List (Option V)} : ∀ (n : Nat), Rp K (ts ++ fr) (vs ++ fv) H → ts.length = vs.length → Rp K ((ts ++ List.replicate n .gone) ++ fr) ((vs ++ List.replicate n none) ++ fv) H
  | 0, h, _ => by simpa using h
  | n + 1, h, l => by
    have h1 := gones n h l
    have h2 := Rp.gone none (Rp.swap (t1 := ts ++ List.replicate n .gone) (t2 := fr) (t3 := []) (v3 := []) (v1 := vs ++ List.replicate n none) (v2 := fv) (by simpa using h1) (by simp [l]) (by have := h1.length; simp [l] at this; omega))
    have h3 := Rp.swap (t1 := .gone :: fr) (v1 := none :: fv) (t2 := ts ++ List.replicate n .gone) (v2 := vs ++ List.replicate n none) (t3 := []) (v3 := []) (by simpa using h2) (by have := h1.length; simp [l] at this; simp; omega) (by simp [l])
    have e : List.replicate (n + 1) (T.gone) = List.replicate n T.gone ++ [T.gone] := by rw [List.replicate_succ', ]
    have e2 : List.replicate (n + 1) (none : Option V) = List.replicate n none ++ [none] := by rw [List.replicate_succ']
    rw [e, e2]
    simpa [List.append_assoc] using h3
theorem USs_sz0 {X : Cx} {sts : List Stmt} {D : Ends} {σ : L2.St} {H : Hp} (h : SzOk X.K H → USs X sts D σ H) : USs X sts D σ H := fun pins s I => h (sz_inv I) pins s I
section
variable {Pg : Program} {w : World} {K : PySem.W.Frag} {mg : Str → Option Value} {base : Heap}
/-- THE RULE for a def -/
theorem fn_ok {x qual : Str} {st : Stmt} {f : Addr} {fd : FuncData} {N ps : List Str} {k : Nat} {b : BC} (F : Fun K x qual st f fd) (S : FnScope N ps (defScope st)) (P : Nat → Bool) (len : ∀ ts Q, b ts Q → ts.length = ps.length)
    (body : ∀ (cdv : Value) (A : Around) (outer : List Env) (s : Shared) (H : Hp) (E : XK) (ts : List T) (Q : QT), Room k (A.deeper (envOfC qual (defScope st) s.heap.objs.size f cdv)) → b ts Q →
      WSs P (cxOf CX0 Pg w K mg base N qual (defScope st) f cdv A outer s H E).nox (defBody st) (ts ++ List.replicate (N.length - ps.length) .gone) ⟨fun ρ => Q (.v .non) (maskT P 0 ps.length ρ), fun r ρ => Q r (maskT P 0 ps.length ρ), fun _ => False, fun _ => False⟩) :
    FnOk Pg w K mg base CX0 (k + 1) f fd ps (lift K b) := by
  refine F.ok S (fun vs H Q E h => ?_) (fun cdv A outer s H vs Q E hr h => ?_)
  · obtain ⟨L, ts, fr, fv, Q1, hb, l, _⟩ := h
    rw [← l]
    exact len _ _ hb
  · obtain ⟨L, ts, fr, fv, Q1, hb, l, rp, kk⟩ := h
    have lps : ts.length = ps.length := len _ _ hb
    have hpl : ps.length ≤ N.length := by have := congrArg List.length S.pre; rw [List.length_take] at this; omega
    refine ⟨_, pss_U, ?_⟩
    have e : L2.start N vs = vs.map some ++ List.replicate (N.length - ps.length) none := by unfold L2.start; rw [← l, lps]
    rw [e]
    have fin : ∀ (r : T) (ρ' : List T) (v : V) (σ' : L2.St) (H' : Hp), Q1 r (maskT P 0 ps.length ρ') → PinOk P (vs.map some ++ List.replicate (N.length - ps.length) none) σ' → Stt ⟨K, L⟩ (r :: ρ') (some v :: σ') H' fr fv → Q v H' := fun r ρ' v σ' H' q p s' => by
      refine kk r _ v H' q (by rw [maskT_length, lps]) ?_
      have l3 : ρ'.length = σ'.length := Nat.succ.inj s'.len
      have l4 : σ'.length = N.length := by
        rw [p.1]
        simp
        omega
      have := mask_ok (P := P) (i := 0) (vs := vs) (pre := [r]) (pv := [some v]) (ρ := ρ') (σ := σ') s'.rp rfl l3 (by rw [l3, l4]; omega) fun j hj hlt => by
        have := p.2 j (by simpa using hj)
        rw [this, List.getElem?_append_left (by simpa using hlt), List.getElem?_map]
        rw [List.getElem?_eq_getElem hlt]
        rfl
      rw [← l, lps] at this
      exact this
    refine USs_sz0 fun sz => ?_
    refine body cdv A outer s H E ts Q1 hr hb L _ H fr fv _ ⟨by simp; omega, gones _ rp (by simpa using l), sz⟩ ⟨fun ρ' σ' H' q p s' => ?_, fun r ρ' v σ' H' q p s' => fin r ρ' v σ' H' q p s', fun _ _ _ q => False.elim q, fun _ _ _ q => False.elim q⟩
    exact fin (.v .non) ρ' .non σ' H' q p ⟨congrArg Nat.succ s'.len, s'.rp.sc _, s'.sz⟩
end

section
variable {X : Cx} {e o : Expr} {es : List Expr} {ρ : List T} {pos p apos : Pos} {k : Nat} {f C : Addr} {fd : FuncData} {ps : List Str} {b : BC} {x m : Str}
/-- a contract as an operation -/
theorem t_lift {K : PySem.W.Frag} {ts : List T} {Q : QT} (h : b ts Q) : OpT K (fun vs H Q => lift K b vs H Q E0) ts Q := fun L H fr fv vs QV l rp sz kk => ⟨L, ts, fr, fv, Q, h, l, rp, fun r ts' v H' q hl r' => kk r ts' v H' q hl r'⟩
theorem w_call {Q : QT} (F : FnOk X.prog X.w X.K X.mg X.base CX0 k f fd ps (lift X.K b)) (hr : Room k X.A) (hm : X.mg x = some (.ref f)) (hk : PySem.W.keepIn X.K (.ref f) = true) (hb : Binds X.K fd ps []) (ha : PA X (e :: es) (UL X (e :: es)))
    (h : WA X (e :: es) ρ fun as ρ1 => b (resT as ρ1) fun q ts' => Q q (wb as ts' (resR as ρ1))) (hg : Gl X x := by rfl) (hdb : (x == ("__debug__" : Str)) = false := by decide)
    (he : starEach (e :: es) X.env = (false, eval e X.env) :: starEach es X.env := by rfl) (hpl : (backTo pos (starEach es X.env)).any (·.1) = false := by rfl) : W X (.Call (.Name x p) (e :: es) [] pos) ρ Q := by
  refine w_op (r := fun vs H Q => lift X.K b vs H Q E0) (fun σ H QV hq => U_of (pe_call F hr hg hm hk hb .nil pass0 ha hdb he hpl) ?_) (?_ : WA X (e :: es) ρ _)
  · exact UL_imp hq fun vs H1 q => by rw [List.append_nil]; exact q
  · exact fun L σ H fr fv QV st kk => h L σ H fr fv QV st fun as ρ' vs H' q => kk as ρ' vs H' (t_lift q)
theorem w_call0 {Q : QT} (F : FnOk X.prog X.w X.K X.mg X.base CX0 k f fd ps (lift X.K b)) (hr : Room k X.A) (hm : X.mg x = some (.ref f)) (hk : PySem.W.keepIn X.K (.ref f) = true) (hb : Binds X.K fd ps [])
    (h : b [] fun q _ => Q q ρ) (hg : Gl X x := by rfl) (hdb : (x == ("__debug__" : Str)) = false := by decide) : W X (.Call (.Name x p) [] [] pos) ρ Q :=
  w_op (es := []) (r := fun vs H Q => lift X.K b vs H Q E0) (fun σ H QV hq => U_of (pe_call0 F hr hg hm hk hb .nil pass0 hdb) hq) (wa_nil (t_lift (by exact h)))
/-! a receiver: known ahead of the arguments -/
def WR (X : Cx) (o : Expr) (p : V → Hp → Prop) (ρ : List T) (Q : Arg → List T → Prop) : Prop := ∀ (L : Lks) (σ : L2.St) (H : Hp) (fr : List T) (fv : List (Option V)) (QV : VK), Stt ⟨X.K, L⟩ ρ σ H fr fv →
  (∀ a ρ' v H', Q a ρ' → ArgOk σ a v → p v H' → Stt ⟨X.K, L⟩ (a.t :: ρ') (some v :: σ) H' fr fv → QV v H') → U X o σ H QV
theorem wr_val {pr : V → Hp → Prop} {Q : Arg → List T → Prop} (pT : T → Prop) (hp : ∀ (L : Lks) t v ts vs H, pT t → Rp ⟨X.K, L⟩ (t :: ts) (some v :: vs) H → pr v H) (h : W X o ρ fun t ρ1 => pT t ∧ Q (.val t) ρ1) : WR X o pr ρ Q := fun L σ H fr fv QV st kk =>
  h L σ H fr fv QV st fun t ρ' v H' q s' => kk (.val t) ρ' v H' q.2 trivial (hp L t v _ _ H' q.1 s'.rp) s'
theorem wr_at {pr : V → Hp → Prop} {Q : Arg → List T → Prop} (pT : T → Prop) (hp : ∀ (L : Lks) t v ts vs H, pT t → Rp ⟨X.K, L⟩ (t :: ts) (some v :: vs) H → pr v H) (i : Nat) {t : T} (hρ : ρ[i]? = some t) (ht : pT t) (hg : t ≠ .gone) (h : Q (.at i) ρ) (hN : X.N[i]? = some x := by rfl)
    (hv : Vis X.env.scope x := by first | exact Or.inl rfl | exact Or.inr (Or.inl rfl) | exact Or.inr (Or.inr rfl)) (hd : (x == ("__debug__" : Str)) = false := by decide) (hcd : (x == ("__classdict__" : Str)) = false := by decide) : WR X (.Name x pos) pr ρ Q := fun L σ H fr fv QV st kk => by
  obtain ⟨v, hi⟩ := slot_some st hρ hg
  have h1 := st.rp.take st.len hi
  rw [getD_of hρ] at h1
  exact U_of (pe_var hN hv hd hcd) ⟨v, hi, kk (.at i) ρ v H h hi (hp L t v _ _ H ht h1) ⟨congrArg Nat.succ st.len, st.rp.gone (some v), st.sz⟩⟩
theorem w_opR {pr : V → Hp → Prop} {r : List V → Hp → VK → Prop} {Q : QT} (hU : ∀ σ H QV, U X o σ H (fun x H1 => pr x H1 ∧ UL X es σ H1 fun vs H2 => r (x :: vs) H2 QV) → U X e σ H QV)
    (h : WR X o pr ρ fun a ρ1 => WA X es ρ1 fun as ρ2 => OpT X.K r (resT (a :: as) ρ2) fun q ts' => Q q (wb (a :: as) ts' (resR (a :: as) ρ2))) : W X e ρ Q := by
  intro L σ H fr fv QV st kk
  refine U_sz (hU _ _ _ (h L σ H fr fv _ st fun a ρ1 v H1 q ok pv s1 => ⟨pv, ?_⟩))
  have l1 : ρ1.length = σ.length := Nat.succ.inj s1.len
  have s2 : Rp ⟨X.K, L⟩ (ρ1 ++ (a.t :: fr)) (σ ++ (some v :: fv)) H1 := Rp.swap (t1 := [a.t]) (v1 := [some v]) s1.rp rfl l1
  refine q L σ H1 (a.t :: fr) (some v :: fv) _ ⟨l1, s2, s1.sz⟩ fun as ρ2 vs H2 q2 ok2 s3 => ?_
  have s4 : Stt ⟨X.K, L⟩ ((a :: as).map Arg.t ++ ρ2) ((v :: vs).map some ++ σ) H2 fr fv := ⟨congrArg Nat.succ s3.len, Rp.swap (t1 := as.map Arg.t ++ ρ2) (t2 := [a.t]) (v2 := [some v]) s3.rp s3.len rfl, s3.sz⟩
  have okk : ArgsOk σ (a :: as) (v :: vs) := ⟨v, vs, rfl, ok, ok2⟩
  have la := argsOk_length okk
  have s5 := stt_res s4 okk
  obtain ⟨q1, q2'⟩ := res_length (a :: as) ρ2
  have l2 : ρ2.length = σ.length := by
    have := s4.len
    simp only [List.length_append, List.length_map] at this
    omega
  refine q2 L H2 (resR (a :: as) ρ2 ++ fr) (σ ++ fv) (v :: vs) _ (by rw [q1, la]) (by simpa [List.append_assoc] using s5.rp) s5.sz fun t ts' v' H3 hq hl h3 z => ?_
  refine kk t _ v' H3 hq (.mk' (K := ⟨X.K, L⟩) ?_ (by rw [List.length_cons, List.length_cons, wb_length, q2', l2]) z)
  have l3 : ts'.length = ((v :: vs).map some).length := by rw [hl, q1, List.length_map, la]
  have h4 := Rp.back (t3 := [t]) (v3 := [some v']) (t1 := ts') (v1 := (v :: vs).map some) (t2 := resR (a :: as) ρ2) (v2 := σ) h3 l3 (by rw [q2', l2]) rfl
  have h5 := Rp.wb h4 okk (by rw [q2', l2]) (by rw [hl, q1])
  exact Rp.swap (t1 := wb (a :: as) ts' (resR (a :: as) ρ2)) (t2 := [t]) (v2 := [some v']) h5 (by rw [wb_length, q2', l2]) rfl
/-- methods of the text's own classes -/
def insP (C : Addr) (m : Str) : V → Hp → Prop := fun x H1 => ∃ a dx fs, x = .ref a ∧ H1 a = some (.ins C dx fs) ∧ fs.lookup m = none
def insT (C : Addr) (m : Str) : T → Prop := fun t => ∃ o fs xs, t = .ins o C fs xs ∧ m ∉ fs
theorem lookup_none {α : Type} {m : Str} : ∀ {fs : List Str} {vs : List α}, m ∉ fs → (fs.zip vs).lookup m = none
  | [], vs, _ => by cases vs <;> rfl
  | f :: fs, [], _ => rfl
  | f :: fs, v :: vs, h => by
    have hf : m ≠ f := fun e => h (by rw [e]; exact List.mem_cons_self)
    rw [List.zip_cons_cons, List.lookup_cons]
    have : (m == f) = false := beq_eq_false_iff_ne.mpr hf
    rw [this]
    exact lookup_none fun z => h (List.mem_cons_of_mem _ z)
theorem insT_ok {K : PySem.W.Frag} {C : Addr} {m : Str} : ∀ (L : Lks) t v ts vs H, insT C m t → Rp ⟨K, L⟩ (t :: ts) (some v :: vs) H → insP C m v H := by
  rintro L t v ts vs H ⟨o, fs, xs, rfl, hm⟩ h
  obtain ⟨a, dx, ws, e, h1, l, _⟩ := h.rdI
  cases e
  exact ⟨a, dx, _, rfl, h1, lookup_none hm⟩
theorem w_meth {pl : Sem Bool} {Q : QT} (c : Cls X.K C) (hm : Meth X.K C m f) (F : FnOk X.prog X.w X.K X.mg X.base CX0 k f fd ps (lift X.K b)) (hr : Room k X.A) (hb : Binds X.K fd ps []) (ha : PA X (e :: es) (UL X (e :: es)))
    (h : WR X o (insP C m) ρ fun a ρ1 => WA X (e :: es) ρ1 fun as ρ2 => b (resT (a :: as) ρ2) fun q ts' => Q q (wb (a :: as) ts' (resR (a :: as) ρ2)))
    (hst : starEach (e :: es) X.env = (false, eval e X.env) :: starEach es X.env := by rfl) (hpl : (backTo pos (starEach es X.env)).any (·.1) = false := by rfl)
    (ht : eval (.Call (.Attribute o m apos) (e :: es) [] pos) X.env = (do
      let ov ← eval o X.env
      standAt apos.atName
      let (f, first) ← holding [ov] (getMethod ov m pl)
      callWith pos f first (backTo pos (starEach (e :: es) X.env)) (backToKw pos (keywordEach [] X.env))) := by rfl) : W X (.Call (.Attribute o m apos) (e :: es) [] pos) ρ Q := by
  refine w_opR (pr := insP C m) (r := fun vs H Q => lift X.K b vs H Q E0) (es := e :: es) (fun σ H QV hq => U_of (pe_meth pe_U c hm F hr hb .nil pass0 ha hst hpl ht) ?_) (?_ : WR X o _ ρ _)
  · refine U_imp hq fun x H1 ⟨⟨a, dx, fs, e1, h1, h2⟩, hq⟩ => ⟨a, dx, fs, e1, h1, h2, ?_⟩
    exact UL_imp hq fun vs H2 q => by rw [List.append_nil]; exact q
  · exact fun L σ H fr fv QV st kk => h L σ H fr fv QV st fun a ρ1 v H1 q ok pv s1 => kk a ρ1 v H1 (fun L σ H fr fv QV st kk => q L σ H fr fv QV st fun as ρ' vs H' q => kk as ρ' vs H' (t_lift q)) ok pv s1
theorem w_meth0 {pl : Sem Bool} {Q : QT} (c : Cls X.K C) (hm : Meth X.K C m f) (F : FnOk X.prog X.w X.K X.mg X.base CX0 k f fd ps (lift X.K b)) (hr : Room k X.A) (hb : Binds X.K fd ps [])
    (h : WR X o (insP C m) ρ fun a ρ1 => b (resT [a] ρ1) fun q ts' => Q q (wb [a] ts' (resR [a] ρ1)))
    (ht : eval (.Call (.Attribute o m apos) [] [] pos) X.env = (do
      let ov ← eval o X.env
      standAt apos.atName
      let (f, first) ← holding [ov] (getMethod ov m pl)
      callWith pos f first (backTo pos (starEach [] X.env)) (backToKw pos (keywordEach [] X.env))) := by rfl) : W X (.Call (.Attribute o m apos) [] [] pos) ρ Q := by
  refine w_opR (pr := insP C m) (r := fun vs H Q => lift X.K b vs H Q E0) (es := []) (fun σ H QV hq => U_of (pe_meth0 pe_U c hm F hr hb .nil pass0 ht) ?_) (?_ : WR X o _ ρ _)
  · refine U_imp hq fun x H1 ⟨⟨a, dx, fs, e1, h1, h2⟩, hq⟩ => ⟨a, dx, fs, e1, h1, h2, ?_⟩
    exact hq
  · exact fun L σ H fr fv QV st kk => h L σ H fr fv QV st fun a ρ1 v H1 q ok pv s1 => kk a ρ1 v H1 (wa_nil (t_lift q)) ok pv s1
end
end DL

namespace DL
open PySem PySem.Spec L2

theorem fzL_get : ∀ {xs : List T} {i : Nat} {t : T}, FzL xs → xs[i]? = some t → Fz t
  | [], i, t, _, e => by simp at e
  | x :: xs, 0, t, h, e => by
    unfold FzL at h
    have : x = t := Option.some.inj e
    rw [← this]
    exact h.1
  | x :: xs, i + 1, t, h, e => by
    unfold FzL at h
    exact fzL_get h.2 e
theorem fzL_map {α : Type} {f : α → T} (h : ∀ x, Fz (f x)) : ∀ {xs : List α}, FzL (xs.map f)
  | [] => by simp [FzL]
  | x :: xs => by
    rw [List.map_cons]
    unfold FzL
    exact ⟨h x, fzL_map h⟩
theorem fz_v {x : V} : Fz (.v x) := by unfold Fz; trivial
theorem fzL_nil : FzL [] := by unfold FzL; trivial
theorem fzL_cons {t : T} {ts : List T} (h : Fz t) (h2 : FzL ts) : FzL (t :: ts) := by unfold FzL; exact ⟨h, h2⟩
theorem fz_tup {ts : List T} (h : FzL ts) : Fz (.tup ts) := by unfold Fz; exact h
theorem fz_lst {ts : List T} (h : FzL ts) : Fz (.lst false ts) := by unfold Fz; exact ⟨rfl, h⟩
theorem fzL_app {ts us : List T} (h : FzL ts) (h2 : FzL us) : FzL (ts ++ us) := by
  induction ts with
  | nil => exact h2
  | cons t ts ih =>
    unfold FzL at h
    exact fzL_cons h.1 (ih h.2)
theorem fzL_mem {ts : List T} (h : ∀ t ∈ ts, Fz t) : FzL ts := by
  induction ts with
  | nil => exact fzL_nil
  | cons t ts ih => exact fzL_cons (h t (by simp)) (ih fun u hu => h u (by simp [hu]))
theorem mem_fzL {ts : List T} (h : FzL ts) : ∀ t ∈ ts, Fz t := by
  induction ts with
  | nil => intro t ht; cases ht
  | cons t ts ih =>
    unfold FzL at h
    intro u hu
    rcases List.mem_cons.mp hu with rfl | hu
    · exact h.1
    · exact ih h.2 u hu
theorem Rp.snd {K : KL} {H : Hp} {t u : T} {ts : List T} {a b : Option V} {vs : List (Option V)} (h : Rp K (t :: u :: ts) (a :: b :: vs) H) : Rp K (u :: t :: ts) (b :: a :: vs) H := Rp.swap (t1 := [t]) (v1 := [a]) (t2 := [u]) (v2 := [b]) h rfl rfl
theorem Rp.tl {K : KL} {H : Hp} {t : T} {ts : List T} {a : Option V} {vs : List (Option V)} (h : Rp K (t :: ts) (a :: vs) H) : Rp K ts vs H := Rp.drop (t1 := [t]) (v1 := [a]) h rfl

section
variable {X : Cx} {tg e iter : Expr} {es : List Expr} {ρ : List T} {pos p : Pos}
/-- a value that is walked, by its items -/
theorem wi_lst {Q : List T → List T → Prop} (h : W X e ρ fun t ρ1 => ∃ xs, fz t = .lst false xs ∧ Q xs ρ1) : WI X tg e ρ Q := by
  intro L σ H fr fv R st k
  refine UI_sz (UI_of (pi_list pe_U) (h L σ H fr fv _ st fun t ρ1 v H1 ⟨xs, e1, q⟩ s1 => ?_))
  have z : FzL xs := by
    have := fz_Fz t
    rw [e1] at this
    unfold Fz at this
    exact this.2
  have r1 := s1.rp.still
  rw [e1] at r1
  obtain ⟨a, ws, e2, hq, l, _⟩ := r1.rdL
  cases e2
  refine ⟨a, rfl, ⟨ws, SqL.of hq⟩, fun sz => k xs ρ1 (Itl X.K a) H1 [.lst false xs] [some (.ref a)] L q rfl ⟨by rw [l]; exact s1.sz.l a ws (SqL.of hq), ?_, ?_, ?_⟩ (.inl rfl) ⟨Nat.succ.inj s1.len, Rp.swap (t1 := [.lst false xs]) (v1 := [some (.ref a)]) r1 rfl (Nat.succ.inj s1.len), sz⟩⟩
  · intro i ts vs H' rp hi
    obtain ⟨a', ws', e3, hq', l', _⟩ := Rp.rdL rp
    cases e3
    exact ⟨ws', SqL.of hq', by rw [← l']; exact hi⟩
  · intro i t' ts vs H' rp hi
    obtain ⟨a', ws', e3, hq', l', _⟩ := Rp.rdL rp
    cases e3
    have hl : i < ws'.length := by rw [← l']; exact (List.getElem?_eq_some_iff.mp hi).1
    exact ⟨ws', ws'[i], SqL.of hq', List.getElem?_eq_getElem hl⟩
  · intro i t' ts vs H' x H2 rp hi y
    obtain ⟨rfl, y⟩ := y
    obtain ⟨a', ws', e3, hq', l', k'⟩ := Rp.rdL rp
    cases e3
    exact k' i t' x hi (y ws' (SqL.of hq')) (fzL_get z hi)
theorem wi_tup {Q : List T → List T → Prop} (h : W X e ρ fun t ρ1 => ∃ xs, fz t = .tup xs ∧ Q xs ρ1) : WI X tg e ρ Q := by
  intro L σ H fr fv R st k
  refine UI_sz (UI_of (pi_tup pe_U) (h L σ H fr fv _ st fun t ρ1 v H1 ⟨xs, e1, q⟩ s1 => ?_))
  have z : FzL xs := by
    have := fz_Fz t
    rw [e1] at this
    unfold Fz at this
    exact this
  have r1 := s1.rp.still
  rw [e1] at r1
  obtain ⟨a, ws, e2, hq, l, _⟩ := r1.rdU
  cases e2
  refine ⟨a, rfl, ⟨ws, SqT.of hq⟩, fun sz => k xs ρ1 (Itt X.K a) H1 [.tup xs] [some (.ref a)] L q rfl ⟨by rw [l]; exact s1.sz.t a ws (SqT.of hq), ?_, ?_, ?_⟩ (.inl rfl) ⟨Nat.succ.inj s1.len, Rp.swap (t1 := [.tup xs]) (v1 := [some (.ref a)]) r1 rfl (Nat.succ.inj s1.len), sz⟩⟩
  · intro i ts vs H' rp hi
    obtain ⟨a', ws', e3, hq', l', _⟩ := Rp.rdU rp
    cases e3
    exact ⟨ws', SqT.of hq', by rw [← l']; exact hi⟩
  · intro i t' ts vs H' rp hi
    obtain ⟨a', ws', e3, hq', l', _⟩ := Rp.rdU rp
    cases e3
    have hl : i < ws'.length := by rw [← l']; exact (List.getElem?_eq_some_iff.mp hi).1
    exact ⟨ws', ws'[i], SqT.of hq', List.getElem?_eq_getElem hl⟩
  · intro i t' ts vs H' x H2 rp hi y
    obtain ⟨rfl, y⟩ := y
    obtain ⟨a', ws', e3, hq', l', k'⟩ := Rp.rdU rp
    cases e3
    exact k' i t' x hi (y ws' (SqT.of hq')) (fzL_get z hi)
/-- the ints lo, lo + 1, .. -/
def rngT (lo : Int) (n : Nat) : List T := (List.range n).map fun i => T.int (lo + (i : Nat))
theorem rngT_length {lo : Int} {n : Nat} : (rngT lo n).length = n := by unfold rngT; simp
theorem rngT_get {lo : Int} {n i : Nat} {t : T} (h : (rngT lo n)[i]? = some t) : i < n ∧ t = T.int (lo + (i : Nat)) := by
  unfold rngT at h
  rw [List.getElem?_map] at h
  by_cases hi : i < n
  · rw [List.getElem?_range hi] at h
    exact ⟨hi, (Option.some.inj h).symm⟩
  · rw [List.getElem?_eq_none (by simpa using hi)] at h
    cases h
theorem itr_ok {K : KL} {lo : Int} {n : Nat} (h : n ≤ sizeLine) : ItOk K (Itr lo n) (rngT lo n) [] [] := by
  refine ⟨by rw [rngT_length]; exact h, fun i ts vs H rp hi => ?_, fun i t ts vs H rp hi => ?_, fun i t ts vs H x H' rp hi y => ?_⟩
  · rw [rngT_length] at hi
    exact hi
  · exact (rngT_get hi).1
  · obtain ⟨rfl, rfl⟩ := y
    rw [(rngT_get hi).2]
    exact rp.sc _
theorem wi_range1 {a : Expr} {Q : List T → List T → Prop} (hm : X.mg "range" = none) (ha : PA X [a] (UL X [a])) (h : W X a ρ fun t ρ1 => ∃ j : Int, t = T.int j ∧ (-4611686018427387904 ≤ j ∧ j ≤ 16777216) ∧ Q (rngT 0 j.toNat) ρ1) (hg : Gl X "range" := by rfl) (hs : starEach [a] X.env = [(false, eval a X.env)] := by rfl) : WI X tg (.Call (.Name "range" p) [a] [] pos) ρ Q := by
  intro L σ H fr fv R st k
  refine UI_sz (UI_of (pi_range1 hg hm ha hs) (h L σ H fr fv _ st fun t ρ1 v H1 ⟨j, e1, hj, q⟩ s1 => ?_))
  subst e1
  have e2 := s1.rp.sc_inv
  cases e2
  exact ⟨j, rfl, by omega, by omega, fun sz => k _ ρ1 _ H1 [] [] L q rfl (itr_ok (by rw [sizeLine_eq]; omega)) (.inl rfl) ⟨Nat.succ.inj s1.len, s1.rp.tl, sz⟩⟩
theorem wi_range2 {a b : Expr} {Q : List T → List T → Prop} (hm : X.mg "range" = none) (ha : PA X [a, b] (UL X [a, b])) (h : W X a ρ fun t ρ1 => ∃ i : Int, t = T.int i ∧ W X b ρ1 fun u ρ2 => ∃ j : Int, u = T.int j ∧ (-16777216 ≤ i ∧ i ≤ 16777216 ∧ -16777216 ≤ j ∧ j ≤ 16777216 ∧ (j - i) ≤ 16777216) ∧ Q (rngT i (j - i).toNat) ρ2)
    (hg : Gl X "range" := by rfl) (hs : starEach [a, b] X.env = [(false, eval a X.env), (false, eval b X.env)] := by rfl) (hs2 : starEach [b] X.env = [(false, eval b X.env)] := by rfl) : WI X tg (.Call (.Name "range" p) [a, b] [] pos) ρ Q := by
  intro L σ H fr fv R st k
  refine UI_sz (UI_of (pi_range2 hg hm ha hs hs2) (h L σ H fr fv _ st fun t ρ1 v H1 ⟨i, e1, q⟩ s1 => ?_))
  subst e1
  have e2 := s1.rp.sc_inv
  cases e2
  refine q L σ H1 fr fv _ s1.tail fun u ρ2 v2 H2 ⟨j, e3, hj, q2⟩ s2 => ?_
  subst e3
  have e4 := s2.rp.sc_inv
  cases e4
  exact ⟨i, j, rfl, ⟨by omega, by omega, by omega, by omega⟩, fun sz => k _ ρ2 _ H2 [] [] L q2 rfl (itr_ok (by rw [sizeLine_eq]; omega)) (.inl rfl) ⟨Nat.succ.inj s2.len, s2.rp.tl, sz⟩⟩
/-- the signs of a text -/
def sgnT (x : Str) : List T := x.cps.toList.map fun c => T.str ⟨#[c]⟩
theorem wi_str {Q : List T → List T → Prop} (h : W X e ρ fun t ρ1 => ∃ x : Str, t = T.str x ∧ x.cps.size ≤ 16777216 ∧ Q (sgnT x) ρ1) : WI X tg e ρ Q := by
  intro L σ H fr fv R st k
  refine UI_sz (UI_of (pi_str pe_U) (h L σ H fr fv _ st fun t ρ1 v H1 ⟨x, e1, hx, q⟩ s1 => ?_))
  subst e1
  have e2 := s1.rp.sc_inv
  cases e2
  refine ⟨x, rfl, fun sz => k _ ρ1 _ H1 [] [] L q rfl ⟨?_, ?_, ?_, ?_⟩ (.inl rfl) ⟨Nat.succ.inj s1.len, s1.rp.tl, sz⟩⟩
  · unfold sgnT
    rw [sizeLine_eq]
    simpa using hx
  · intro i ts vs H' rp hi
    unfold sgnT at hi
    show x.cps.size ≤ i
    simpa using hi
  · intro i t ts vs H' rp hi
    have := (List.getElem?_eq_some_iff.mp hi).1
    unfold sgnT at this
    show i < x.cps.size
    simpa using this
  · intro i t ts vs H' v H2 rp hi y
    obtain ⟨rfl, c, hc, rfl⟩ := y
    unfold sgnT at hi
    rw [List.getElem?_map, Array.getElem?_toList, hc] at hi
    cases hi
    exact rp.sc _
/-- an iterated pair: a new tuple of two that are still -/
theorem pair_new {K : KL} {H : Hp} {t u : T} {x y : V} {ts : List T} {vs : List (Option V)} {p : Addr} (h : Rp K (t :: u :: ts) (some x :: some y :: vs) H) (hp : H p = none) : Rp K (.tup [t, u] :: ts) (some (.ref p) :: vs) (upd H p (.tup [x, y])) :=
  Rp.newTup (ts := [t, u]) (vs := [x, y]) h rfl hp
/-- enumerate of a list -/
def enmT (xs : List T) : List T := xs.zipIdx.map fun p => .tup [T.int (p.2 : Nat), p.1]
theorem enmT_length {xs : List T} : (enmT xs).length = xs.length := by unfold enmT; simp
theorem enmT_get {xs : List T} {i : Nat} {t : T} (h : (enmT xs)[i]? = some t) : ∃ u, xs[i]? = some u ∧ t = .tup [T.int (i : Nat), u] := by
  unfold enmT at h
  rw [List.getElem?_map, List.getElem?_zipIdx] at h
  cases e : xs[i]? with
  | none => rw [e] at h; cases h
  | some u =>
    rw [e] at h
    simp only [Option.map_some, Option.some.injEq, Nat.zero_add] at h
    exact ⟨u, rfl, h.symm⟩
theorem wi_enum {elts : List Expr} {kk : Nat} {tpos : Pos} {Q : List T → List T → Prop} (hm : X.mg "enumerate" = none) (ha : PA X [e] (UL X [e])) (h : W X e ρ fun t ρ1 => ∃ xs, fz t = .lst false xs ∧ Q (enmT xs) ρ1)
    (hg : Gl X "enumerate" := by rfl) (hs : starEach [e] X.env = [(false, eval e X.env)] := by rfl) : WI X (.Tuple elts kk tpos) (.Call (.Name "enumerate" p) [e] [] pos) ρ Q := by
  intro L σ H fr fv R st k
  refine UI_sz (UI_of (pi_enum hg hm ha hs) (h L σ H fr fv _ st fun t ρ1 v H1 ⟨xs, e1, q⟩ s1 => ?_))
  have z : FzL xs := by
    have := fz_Fz t
    rw [e1] at this
    unfold Fz at this
    exact this.2
  have r1 := s1.rp.still
  rw [e1] at r1
  obtain ⟨a, ws, e2, hq, l, _⟩ := r1.rdL
  cases e2
  refine ⟨a, ws, rfl, SqL.of hq, fun sz => k _ ρ1 (Ite X.K a) H1 [.lst false xs] [some (.ref a)] L q rfl ⟨by rw [enmT_length, l]; exact s1.sz.l a ws (SqL.of hq), ?_, ?_, ?_⟩ (.inl rfl) ⟨Nat.succ.inj s1.len, Rp.swap (t1 := [.lst false xs]) (v1 := [some (.ref a)]) r1 rfl (Nat.succ.inj s1.len), sz⟩⟩
  · intro i ts vs H' rp hi
    obtain ⟨a', ws', e3, hq', l', _⟩ := Rp.rdL rp
    cases e3
    exact ⟨ws', SqL.of hq', by rw [← l']; rw [enmT_length] at hi; exact hi⟩
  · intro i t' ts vs H' rp hi
    obtain ⟨a', ws', e3, hq', l', _⟩ := Rp.rdL rp
    cases e3
    obtain ⟨u, hu, _⟩ := enmT_get hi
    have hl : i < ws'.length := by rw [← l']; exact (List.getElem?_eq_some_iff.mp hu).1
    exact ⟨ws', ws'[i], SqL.of hq', List.getElem?_eq_getElem hl⟩
  · intro i t' ts vs H' x H2 rp hi y
    obtain ⟨Tp, y, rfl, nT, rfl, hy⟩ := y
    obtain ⟨a', ws', e3, hq', l', k'⟩ := Rp.rdL rp
    cases e3
    obtain ⟨u, hu, rfl⟩ := enmT_get hi
    exact pair_new ((k' i u y hu (hy ws' (SqL.of hq')) (fzL_get z hu)).sc _) nT
/-- zip of two lists -/
def zipT (xs ys : List T) : List T := (xs.zip ys).map fun p => .tup [p.1, p.2]
theorem zipT_length {xs ys : List T} : (zipT xs ys).length = min xs.length ys.length := by unfold zipT; simp
theorem zipT_get {xs ys : List T} {i : Nat} {t : T} (h : (zipT xs ys)[i]? = some t) : ∃ u w, xs[i]? = some u ∧ ys[i]? = some w ∧ t = .tup [u, w] := by
  unfold zipT at h
  rw [List.getElem?_map] at h
  cases e : (xs.zip ys)[i]? with
  | none => rw [e] at h; cases h
  | some pr =>
    rw [e] at h
    obtain ⟨u, w⟩ := pr
    have e' := List.getElem?_zip_eq_some.mp e
    cases h
    exact ⟨u, w, e'.1, e'.2, rfl⟩
theorem wi_zip {e2 : Expr} {elts : List Expr} {kk : Nat} {tpos : Pos} {Q : List T → List T → Prop} (hm : X.mg "zip" = none) (ha : PA X [e, e2] (UL X [e, e2]))
    (h : W X e ρ fun t ρ1 => W X e2 ρ1 fun u ρ2 => ∃ xs ys, ((fz t = .lst false xs ∧ fz u = .lst false ys) ∨ (fz t = .tup xs ∧ fz u = .tup ys)) ∧ Q (zipT xs ys) ρ2)
    (hg : Gl X "zip" := by rfl) (hs : starEach [e, e2] X.env = (false, eval e X.env) :: starEach [e2] X.env := by rfl) (hpl : (backTo pos (starEach [e2] X.env)).any (·.1) = false := by rfl) : WI X (.Tuple elts kk tpos) (.Call (.Name "zip" p) [e, e2] [] pos) ρ Q := by
  intro L σ H fr fv R st k
  refine UI_sz (UI_of (RZ.pi_zipA hg hm ha hs hpl) (h L σ H fr fv _ st fun t ρ1 v H1 h1 s1 => ?_))
  have l1 : ρ1.length = σ.length := Nat.succ.inj s1.len
  have s1' : Stt ⟨X.K, L⟩ ρ1 σ H1 (t :: fr) (some v :: fv) := ⟨l1, Rp.swap (t1 := [t]) (v1 := [some v]) s1.rp rfl l1, s1.sz⟩
  refine h1 L σ H1 _ _ _ s1' fun u ρ2 v2 H2 ⟨xs, ys, e12, q⟩ s2 => ?_
  have l2 : ρ2.length = σ.length := Nat.succ.inj s2.len
  have r1 : Rp ⟨X.K, L⟩ (fz t :: fz u :: (ρ2 ++ fr)) (some v :: some v2 :: (σ ++ fv)) H2 := by
    have a1 := Rp.front (t3 := [t]) (v3 := [some v]) (t1 := [u]) (v1 := [some v2]) (t2 := ρ2) (v2 := σ) (t4 := fr) (v4 := fv) s2.rp rfl l2 rfl
    exact (Rp.still a1).snd.still.snd
  have zz : FzL xs ∧ FzL ys := by
    have z1 := fz_Fz t
    have z2 := fz_Fz u
    rcases e12 with ⟨e1, e2⟩ | ⟨e1, e2⟩ <;> rw [e1] at z1 <;> rw [e2] at z2 <;> unfold Fz at z1 z2
    · exact ⟨z1.2, z2.2⟩
    · exact ⟨z1, z2⟩
  have fin : ∀ {a b : T}, Rp ⟨X.K, L⟩ (a :: b :: (ρ2 ++ fr)) (some v :: some v2 :: (σ ++ fv)) H2 → SzOk X.K H2 → Stt ⟨X.K, L⟩ ρ2 σ H2 ([a, b] ++ fr) ([some v, some v2] ++ fv) := fun r sz => ⟨l2, Rp.swap (t1 := [_, _]) (v1 := [some v, some v2]) r rfl l2, sz⟩
  rcases e12 with ⟨e1, e2⟩ | ⟨e1, e2⟩
  · rw [e1, e2] at r1
    obtain ⟨a, ws, ea, hq, l, _⟩ := r1.rdL
    cases ea
    obtain ⟨b, ws2, eb, hq2, l', _⟩ := r1.snd.rdL
    cases eb
    refine ⟨a, b, ws, ws2, rfl, .inl ⟨SqL.of hq, SqL.of hq2, fun sz => k _ ρ2 _ H2 [.lst false xs, .lst false ys] [some (.ref a), some (.ref b)] L q rfl ⟨?_, ?_, ?_, ?_⟩ (.inl rfl) (fin r1 sz)⟩⟩
    · rw [zipT_length, l, l']
      exact Nat.le_trans (Nat.min_le_left _ _) (s2.sz.l a ws (SqL.of hq))
    · intro i ts vs H' rp hi
      obtain ⟨_, ws', e3, hq', l3, _⟩ := Rp.rdL rp
      cases e3
      obtain ⟨_, ws4, e4, hq4, l4, _⟩ := Rp.rdL (Rp.snd rp)
      cases e4
      rw [zipT_length] at hi
      exact ⟨ws', ws4, SqL.of hq', SqL.of hq4, by rw [← l3, ← l4]; omega⟩
    · intro i t' ts vs H' rp hi
      obtain ⟨_, ws', e3, hq', l3, _⟩ := Rp.rdL rp
      cases e3
      obtain ⟨_, ws4, e4, hq4, l4, _⟩ := Rp.rdL (Rp.snd rp)
      cases e4
      obtain ⟨u1, u2, h5, h6, _⟩ := zipT_get hi
      have hl : i < ws'.length := by rw [← l3]; exact (List.getElem?_eq_some_iff.mp h5).1
      have hl4 : i < ws4.length := by rw [← l4]; exact (List.getElem?_eq_some_iff.mp h6).1
      exact ⟨ws', ws4, _, _, SqL.of hq', SqL.of hq4, List.getElem?_eq_getElem hl, List.getElem?_eq_getElem hl4⟩
    · intro i t' ts vs H' x H3 rp hi y
      obtain ⟨Tp, y1, y2, rfl, nT, rfl, hy1, hy2⟩ := y
      obtain ⟨_, ws', e3, hq', l3, k3⟩ := Rp.rdL rp
      cases e3
      obtain ⟨u1, u2, h5, h6, rfl⟩ := zipT_get hi
      have r5 := k3 i u1 y1 h5 (hy1 ws' (SqL.of hq')) (fzL_get zz.1 h5)
      have r6 := Rp.front (t1 := [u1]) (v1 := [some y1]) (t2 := [.lst false xs]) (v2 := [some (.ref a)]) (t3 := [.lst false ys]) (v3 := [some (.ref b)]) r5 rfl rfl rfl
      obtain ⟨_, ws4, e4, hq4, l4, k4⟩ := Rp.rdL r6
      cases e4
      have r7 := k4 i u2 y2 h6 (hy2 ws4 (SqL.of hq4)) (fzL_get zz.2 h6)
      have r8 := Rp.front (t1 := [u2]) (v1 := [some y2]) (t2 := [.lst false ys]) (v2 := [some (.ref b)]) (t3 := [u1]) (v3 := [some y1]) r7 rfl rfl rfl
      have r9 := pair_new r8 nT
      exact Rp.front (t1 := [.tup [u1, u2]]) (v1 := [some (.ref Tp)]) (t2 := [.lst false ys]) (v2 := [some (.ref b)]) (t3 := [.lst false xs]) (v3 := [some (.ref a)]) r9 rfl rfl rfl |> Rp.snd
  · rw [e1, e2] at r1
    obtain ⟨a, ws, ea, hq, l, _⟩ := r1.rdU
    cases ea
    obtain ⟨b, ws2, eb, hq2, l', _⟩ := r1.snd.rdU
    cases eb
    refine ⟨a, b, ws, ws2, rfl, .inr ⟨SqT.of hq, SqT.of hq2, fun sz => k _ ρ2 _ H2 [.tup xs, .tup ys] [some (.ref a), some (.ref b)] L q rfl ⟨?_, ?_, ?_, ?_⟩ (.inl rfl) (fin r1 sz)⟩⟩
    · rw [zipT_length, l, l']
      exact Nat.le_trans (Nat.min_le_left _ _) (s2.sz.t a ws (SqT.of hq))
    · intro i ts vs H' rp hi
      obtain ⟨_, ws', e3, hq', l3, _⟩ := Rp.rdU rp
      cases e3
      obtain ⟨_, ws4, e4, hq4, l4, _⟩ := Rp.rdU (Rp.snd rp)
      cases e4
      rw [zipT_length] at hi
      exact ⟨ws', ws4, SqT.of hq', SqT.of hq4, by rw [← l3, ← l4]; omega⟩
    · intro i t' ts vs H' rp hi
      obtain ⟨_, ws', e3, hq', l3, _⟩ := Rp.rdU rp
      cases e3
      obtain ⟨_, ws4, e4, hq4, l4, _⟩ := Rp.rdU (Rp.snd rp)
      cases e4
      obtain ⟨u1, u2, h5, h6, _⟩ := zipT_get hi
      have hl : i < ws'.length := by rw [← l3]; exact (List.getElem?_eq_some_iff.mp h5).1
      have hl4 : i < ws4.length := by rw [← l4]; exact (List.getElem?_eq_some_iff.mp h6).1
      exact ⟨ws', ws4, _, _, SqT.of hq', SqT.of hq4, List.getElem?_eq_getElem hl, List.getElem?_eq_getElem hl4⟩
    · intro i t' ts vs H' x H3 rp hi y
      obtain ⟨Tp, y1, y2, rfl, nT, rfl, hy1, hy2⟩ := y
      obtain ⟨_, ws', e3, hq', l3, k3⟩ := Rp.rdU rp
      cases e3
      obtain ⟨u1, u2, h5, h6, rfl⟩ := zipT_get hi
      have r5 := k3 i u1 y1 h5 (hy1 ws' (SqT.of hq')) (fzL_get zz.1 h5)
      have r6 := Rp.front (t1 := [u1]) (v1 := [some y1]) (t2 := [.tup xs]) (v2 := [some (.ref a)]) (t3 := [.tup ys]) (v3 := [some (.ref b)]) r5 rfl rfl rfl
      obtain ⟨_, ws4, e4, hq4, l4, k4⟩ := Rp.rdU r6
      cases e4
      have r7 := k4 i u2 y2 h6 (hy2 ws4 (SqT.of hq4)) (fzL_get zz.2 h6)
      have r8 := Rp.front (t1 := [u2]) (v1 := [some y2]) (t2 := [.tup ys]) (v2 := [some (.ref b)]) (t3 := [u1]) (v3 := [some y1]) r7 rfl rfl rfl
      have r9 := pair_new r8 nT
      exact Rp.front (t1 := [.tup [u1, u2]]) (v1 := [some (.ref Tp)]) (t2 := [.tup ys]) (v2 := [some (.ref b)]) (t3 := [.tup xs]) (v3 := [some (.ref a)]) r9 rfl rfl rfl |> Rp.snd
end
end DL

namespace DL
open PySem PySem.Spec L2

/-! ### dicts that are walked -/
section
variable {X : Cx} {tg e iter : Expr} {es : List Expr} {ρ : List T} {pos p apos : Pos}
/-- a dict that is met is locked, or was -/
theorem U_lock {σ : L2.St} {H : Hp} {Q : VK} (h : U X e σ H fun v H1 => Q v H1 ∨ ∃ d u, H1 d = some u ∧ Mut (some u) ∧ ∀ od, (∀ o' u', X.H_0 d ≠ some (.frz o' u')) → Q v (upd H1 d (.frz od u))) : U X e σ H Q := fun pins s I =>
  thn (h pins s I) fun w s1 ⟨v, H1, I1, r, q⟩ => by
    rcases q with q | ⟨d, u, hd, mu, q⟩
    · exact ⟨v, H1, I1, r, q⟩
    · obtain ⟨od, I2⟩ := I1.lock hd mu
      exact ⟨v, _, I2, r, q od (I1.nofrz hd mu)⟩
theorem dK_lk {k : PySem.W.Frag} {L : Lks} {ks : List Key} {xs ts : List T} {v : V} {vs : List (Option V)} {H : Hp} (h : Rp ⟨k, L⟩ (.dK false ks xs :: ts) (some v :: vs) H) : ∃ d ws, v = .ref d ∧ ks.length = ws.length ∧ xs.length = ws.length ∧
    ((∃ o, (d, o, .dK (ks.zip ws)) ∈ L) ∨ (H d = some (.dK (ks.zip ws)) ∧ ∀ od, Rp ⟨k, (d, od, .dK (ks.zip ws)) :: L⟩ (.dK false ks xs :: ts) (some v :: vs) (upd H d (.frz od (.dK (ks.zip ws)))) ∧ ∀ o u', (d, o, u') ∉ L)) := by
  have fd : ∀ {F : Hp} {A : List Fp}, RpX ⟨k, L⟩ F A (.dK false ks xs :: ts) (some v :: vs) H → ∃ a ws, v = .ref a ∧ ws.length = ks.length ∧ F a = some (.dK (ks.zip ws)) ∧ xs.length = ws.length := fun {F A} g => by
    obtain ⟨o', r, B0, C0, e, rfl, h0, h3⟩ := id g.own
    obtain ⟨rfl, rfl⟩ := List.cons.inj e
    rcases h0 with ⟨e, _⟩ | ⟨y, e, g0⟩
    · cases e
    cases e
    unfold Own at g0
    obtain ⟨a, ws, B, rfl, l, c, ol⟩ := g0
    rcases c with ⟨e, _⟩ | ⟨_, _, _, c⟩
    · cases e
    · exact ⟨a, ws, rfl, l.1, c, ownL_length ol⟩
  obtain ⟨F, A, g⟩ := id h
  obtain ⟨d, ws, rfl, l, f, lx⟩ := fd g
  refine ⟨d, ws, rfl, l.symm, lx, ?_⟩
  rcases g.lk.fx d _ f with c | ⟨o, c⟩
  · refine .inr ⟨c, fun od => h.lock (fun F' A' g' => ?_) rfl c (fun _ _ z => nomatch z) od⟩
    obtain ⟨d', ws', e, l', f', _⟩ := fd g'
    cases e
    rcases g'.lk.fx d _ f' with c' | ⟨o, c'⟩
    · rw [c] at c'
      rw [f', ← c']
    · have := (g'.lk.lk d o _ c').2.2
      rw [c] at this
      cases this
  · exact .inl ⟨o, c⟩
theorem dT_lk {k : PySem.W.Frag} {L : Lks} {ks : List (List Key)} {xs ts : List T} {v : V} {vs : List (Option V)} {H : Hp} (h : Rp ⟨k, L⟩ (.dT false ks xs :: ts) (some v :: vs) H) : ∃ d ws, v = .ref d ∧ ks.length = ws.length ∧ xs.length = ws.length ∧
    ((∃ o, (d, o, .dT (ks.zip ws)) ∈ L) ∨ (H d = some (.dT (ks.zip ws)) ∧ ∀ od, Rp ⟨k, (d, od, .dT (ks.zip ws)) :: L⟩ (.dT false ks xs :: ts) (some v :: vs) (upd H d (.frz od (.dT (ks.zip ws)))) ∧ ∀ o u', (d, o, u') ∉ L)) := by
  have fd : ∀ {F : Hp} {A : List Fp}, RpX ⟨k, L⟩ F A (.dT false ks xs :: ts) (some v :: vs) H → ∃ a ws, v = .ref a ∧ ws.length = ks.length ∧ F a = some (.dT (ks.zip ws)) ∧ xs.length = ws.length := fun {F A} g => by
    obtain ⟨o', r, B0, C0, e, rfl, h0, h3⟩ := id g.own
    obtain ⟨rfl, rfl⟩ := List.cons.inj e
    rcases h0 with ⟨e, _⟩ | ⟨y, e, g0⟩
    · cases e
    cases e
    unfold Own at g0
    obtain ⟨a, ws, B, rfl, l, c, ol⟩ := g0
    rcases c with ⟨e, _⟩ | ⟨_, _, _, c⟩
    · cases e
    · exact ⟨a, ws, rfl, l.1, c, ownL_length ol⟩
  obtain ⟨F, A, g⟩ := id h
  obtain ⟨d, ws, rfl, l, f, lx⟩ := fd g
  refine ⟨d, ws, rfl, l.symm, lx, ?_⟩
  rcases g.lk.fx d _ f with c | ⟨o, c⟩
  · refine .inr ⟨c, fun od => h.lock (fun F' A' g' => ?_) rfl c (fun _ _ z => nomatch z) od⟩
    obtain ⟨d', ws', e, l', f', _⟩ := fd g'
    cases e
    rcases g'.lk.fx d _ f' with c' | ⟨o, c'⟩
    · rw [c] at c'
      rw [f', ← c']
    · have := (g'.lk.lk d o _ c').2.2
      rw [c] at this
      cases this
  · exact .inl ⟨o, c⟩
/-! the shared part of the walks of a dict -/
section
variable {κ : Type} {tf : List κ → List T → T} {mk : List (κ × V) → HO} {J : Addr → Obj → List (κ × V) → It} {its : List κ → List T → List T}
theorem wi_dic {Q : List T → List T → Prop} {E : TE → TI} (hpi : PI X tg iter (E (U X e)))
    (hE : ∀ σ H R, U X e σ H (fun x H1 => ∃ d o kvs, x = .ref d ∧ H1 d = some (.frz o (mk kvs)) ∧ R (J d o kvs) H1) → E (U X e) σ H R)
    (lk : ∀ {L : Lks} {ks : List κ} {xs ts : List T} {v : V} {vs : List (Option V)} {H : Hp}, Rp ⟨X.K, L⟩ (tf ks xs :: ts) (some v :: vs) H → ∃ d ws, v = .ref d ∧ ks.length = ws.length ∧ xs.length = ws.length ∧
      ((∃ o, (d, o, mk (ks.zip ws)) ∈ L) ∨ (H d = some (mk (ks.zip ws)) ∧ ∀ od, Rp ⟨X.K, (d, od, mk (ks.zip ws)) :: L⟩ (tf ks xs :: ts) (some v :: vs) (upd H d (.frz od (mk (ks.zip ws)))) ∧ ∀ o u', (d, o, u') ∉ L)))
    (mu : ∀ kvs, Mut (some (mk kvs))) (sz : ∀ {H d kvs}, SzOk X.K H → Rd H d (mk kvs) → kvs.length ≤ sizeLine)
    (h : W X e ρ fun t ρ1 => ∃ ks xs, fz t = tf ks xs ∧ Q (its ks xs) ρ1) (hl : ∀ ks xs, ks.length = xs.length → (its ks xs).length = ks.length)
    (stop : ∀ d o kvs i H, H d = some (.frz o (mk kvs)) → kvs.length ≤ i → (J d o kvs).stop i H) (go : ∀ d o kvs i H, H d = some (.frz o (mk kvs)) → i < kvs.length → (J d o kvs).go i H)
    (yld : ∀ (L : Lks) (d : Addr) (o : Obj) (ks : List κ) (xs : List T) (ws : List V) (i : Nat) (t : T) (ts : List T) (vs : List (Option V)) (H : Hp) (x : V) (H' : Hp), Fz (tf ks xs) → H d = some (.frz o (mk (ks.zip ws))) → Rp ⟨X.K, L⟩ (tf ks xs :: ts) (some (.ref d) :: vs) H → (its ks xs)[i]? = some t → (J d o (ks.zip ws)).yld i H x H' → ks.length = ws.length →
      Rp ⟨X.K, L⟩ (t :: tf ks xs :: ts) (some x :: some (.ref d) :: vs) H') : WI X tg iter ρ Q := by
  intro L σ H fr fv R st k
  refine UI_sz (UI_of hpi (hE σ H _ (U_lock (h L σ H fr fv _ st fun t ρ1 v H1 ⟨ks, xs, e1, q⟩ s1 => ?_))))
  have zz : Fz (tf ks xs) := by
    have := fz_Fz t
    rw [e1] at this
    exact this
  have r1 := s1.rp.still
  rw [e1] at r1
  have l1 : ρ1.length = σ.length := Nat.succ.inj s1.len
  obtain ⟨d, ws, rfl, l, lx, hd⟩ := lk r1
  have ok : ∀ {L' : Lks} {o : Obj}, (d, o, mk (ks.zip ws)) ∈ L' → ∀ {H' : Hp}, SzOk X.K H' → H' d = some (.frz o (mk (ks.zip ws))) → ItOk ⟨X.K, L'⟩ (J d o (ks.zip ws)) (its ks xs) [tf ks xs] [some (.ref d)] := fun {L' o} hm {H'} z hd => by
    refine ⟨?_, fun i ts vs H' rp hi => ?_, fun i t' ts vs H' rp hi => ?_, fun i t' ts vs H' x H3 rp hi y => ?_⟩
    · rw [hl ks xs (l.trans lx.symm)]
      have := sz z (.inr ⟨o, hd⟩)
      simpa [l] using this
    · rw [hl ks xs (l.trans lx.symm)] at hi
      exact stop _ _ _ _ _ (rp.locked hm) (by simpa [l] using hi)
    · have := (List.getElem?_eq_some_iff.mp hi).1
      rw [hl ks xs (l.trans lx.symm)] at this
      exact go _ _ _ _ _ (rp.locked hm) (by simpa [l] using this)
    · exact yld L' d o ks xs ws i t' ts vs H' x H3 zz (rp.locked hm) rp hi y l
  rcases hd with ⟨o, hm⟩ | ⟨hd, hk⟩
  · have hd := r1.locked hm
    exact .inl ⟨d, o, ks.zip ws, rfl, hd, fun sz => k _ ρ1 _ H1 [tf ks xs] [some (.ref d)] L q rfl (ok hm s1.sz hd) (.inl rfl) ⟨l1, Rp.swap (t1 := [_]) (v1 := [some (.ref d)]) r1 rfl l1, sz⟩⟩
  · refine .inr ⟨d, _, hd, mu _, fun od nf => ⟨d, od, ks.zip ws, rfl, upd_same, fun sz => ?_⟩⟩
    obtain ⟨r2, nL⟩ := hk od
    exact k _ ρ1 _ _ [tf ks xs] [some (.ref d)] _ q rfl (ok List.mem_cons_self sz upd_same) (.inr ⟨d, od, _, rfl, nL, nf⟩) ⟨l1, Rp.swap (t1 := [_]) (v1 := [some (.ref d)]) r2 rfl l1, sz⟩
end
theorem zip_inj {κ : Type} {ks : List κ} {ws ws' : List V} (h : ks.zip ws = ks.zip ws') (l : ks.length = ws.length) (l' : ks.length = ws'.length) : ws = ws' := by
  have := congrArg (List.map Prod.snd) h
  rwa [List.map_snd_zip (by omega), List.map_snd_zip (by omega)] at this
theorem dK_here {K : KL} {ks : List Key} {xs ts : List T} {d : Addr} {vs : List (Option V)} {H : Hp} {o : Obj} {ws : List V} (rp : Rp K (.dK false ks xs :: ts) (some (.ref d) :: vs) H) (h1 : H d = some (.frz o (.dK (ks.zip ws)))) (l : ks.length = ws.length) :
    ∃ ws', ws' = ws ∧ ks.length = ws'.length ∧ Parts K H xs ws' (.dK false ks xs :: ts) (some (.ref d) :: vs) := by
  obtain ⟨a, ws', e2, hr, l2, pt⟩ := rp.rdK
  cases e2
  refine ⟨ws', ?_, l2.1, pt⟩
  rcases hr with hr | ⟨o', hr⟩ <;> rw [h1] at hr
  · cases hr
  · have := Option.some.inj hr
    injection this with _ e3
    injection e3 with e3
    exact (zip_inj e3 l l2.1).symm
/-- the keys of a dict -/
def keyT : Key → T := fun k => .v (kV k)
theorem zip_get {κ : Type} {ks : List κ} {ws : List V} {i : Nat} {k : κ} {v : V} (h : (ks.zip ws)[i]? = some (k, v)) : ks[i]? = some k ∧ ws[i]? = some v := List.getElem?_zip_eq_some.mp h
theorem wi_keys {Q : List T → List T → Prop} (h : W X e ρ fun t ρ1 => ∃ ks xs, fz t = .dK false ks xs ∧ Q (ks.map keyT) ρ1) : WI X tg e ρ Q := by
  refine wi_dic (tf := .dK false) (mk := .dK) (J := Itk) (its := fun ks _ => ks.map keyT) (E := iKeys) (pi_keys pe_U) (fun σ H R q => U_imp q fun v H1 ⟨d, o, kvs, e, h1, q⟩ => ⟨d, o, e, .inl ⟨kvs, h1, q⟩⟩) dK_lk (fun _ => trivial) (fun z r => z.k _ _ r) h (fun ks xs _ => by simp) (fun d o kvs i H h1 h2 => ⟨h1, h2⟩) (fun d o kvs i H h1 h2 => ⟨h1, h2⟩) ?_
  rintro L d o ks xs ws i t ts vs H x H' z h1 rp hi ⟨rfl, k, v, e, rfl⟩ l
  rw [List.getElem?_map, (zip_get e).1] at hi
  cases hi
  exact rp.sc _
theorem wi_keysM {cpos : Pos} {Q : List T → List T → Prop} (h : W X e ρ fun t ρ1 => ∃ ks xs, fz t = .dK false ks xs ∧ Q (ks.map keyT) ρ1) (hbase : attributeBase e "keys" X.env (eval e X.env) = eval e X.env := by rfl) (hline : (apos.endLine == cpos.line) = true := by rfl) : WI X tg (.Call (.Attribute e "keys" apos) [] [] cpos) ρ Q := by
  refine wi_dic (tf := .dK false) (mk := .dK) (J := Itk) (its := fun ks _ => ks.map keyT) (E := iKeysM) (pi_keysM pe_U hbase hline) (fun σ H R q => U_imp q fun v H1 ⟨d, o, kvs, e, h1, q⟩ => ⟨d, o, kvs, e, h1, q⟩) dK_lk (fun _ => trivial) (fun z r => z.k _ _ r) h (fun ks xs _ => by simp) (fun d o kvs i H h1 h2 => ⟨h1, h2⟩) (fun d o kvs i H h1 h2 => ⟨h1, h2⟩) ?_
  rintro L d o ks xs ws i t ts vs H x H' z h1 rp hi ⟨rfl, k, v, e, rfl⟩ l
  rw [List.getElem?_map, (zip_get e).1] at hi
  cases hi
  exact rp.sc _
/-- .. of a dict whose keys are tuples -/
theorem wi_keysT {Q : List T → List T → Prop} (h : W X e ρ fun t ρ1 => ∃ ks xs, fz t = .dT false ks xs ∧ Q (ks.map fun k => .tup (k.map keyT)) ρ1) : WI X tg e ρ Q := by
  refine wi_dic (tf := .dT false) (mk := .dT) (J := Itkt) (its := fun ks _ => ks.map fun k => .tup (k.map keyT)) (E := iKeys) (pi_keys pe_U) (fun σ H R q => U_imp q fun v H1 ⟨d, o, kvs, e, h1, q⟩ => ⟨d, o, e, .inr ⟨kvs, h1, q⟩⟩) dT_lk (fun _ => trivial) (fun z r => z.u _ _ r) h (fun ks xs _ => by simp) (fun d o kvs i H h1 h2 => ⟨h1, h2⟩) (fun d o kvs i H h1 h2 => ⟨h1, h2⟩) ?_
  rintro L d o ks xs ws i t ts vs H x H' z h1 rp hi ⟨rfl, k, v, q, e, rfl, hq⟩ l
  rw [List.getElem?_map, (zip_get e).1] at hi
  cases hi
  have := rp.tupIn hq
  rw [List.map_map] at this
  exact this
theorem wi_vals {cpos : Pos} {Q : List T → List T → Prop} (h : W X e ρ fun t ρ1 => ∃ ks xs, fz t = .dK false ks xs ∧ ks.length = xs.length ∧ Q xs ρ1) (hbase : attributeBase e "values" X.env (eval e X.env) = eval e X.env := by rfl) (hline : (apos.endLine == cpos.line) = true := by rfl) : WI X tg (.Call (.Attribute e "values" apos) [] [] cpos) ρ Q := by
  refine wi_dic (tf := .dK false) (mk := .dK) (J := Itd) (its := fun ks xs => xs) (E := iVals) (pi_values pe_U hbase hline) (fun σ H R q => U_imp q fun v H1 ⟨d, o, kvs, e, h1, q⟩ => ⟨d, o, kvs, e, h1, q⟩) dK_lk (fun _ => trivial) (fun z r => z.k _ _ r) (h.imp fun t ρ1 ⟨ks, xs, a, b, c⟩ => ⟨ks, xs, a, c⟩) (fun ks xs l => l.symm) (fun d o kvs i H h1 h2 => ⟨h1, h2⟩) (fun d o kvs i H h1 h2 => ⟨h1, h2⟩) ?_
  rintro L d o ks xs ws i t ts vs H x H' z h1 rp hi ⟨rfl, k, e⟩ l
  obtain ⟨ws', e2, l2, pt⟩ := dK_here rp h1 l
  subst e2
  exact pt.2 i t x hi (zip_get e).2 (fzL_get (by unfold Fz at z; exact z.2) hi)
theorem wi_items {cpos tpos : Pos} {elts : List Expr} {kk : Nat} {Q : List T → List T → Prop} (h : W X e ρ fun t ρ1 => ∃ ks xs, fz t = .dK false ks xs ∧ Q ((ks.zip xs).map fun p => .tup [keyT p.1, p.2]) ρ1) (hbase : attributeBase e "items" X.env (eval e X.env) = eval e X.env := by rfl) (hline : (apos.endLine == cpos.line) = true := by rfl) : WI X (.Tuple elts kk tpos) (.Call (.Attribute e "items" apos) [] [] cpos) ρ Q := by
  refine wi_dic (tf := .dK false) (mk := .dK) (J := Iti) (its := fun ks xs => (ks.zip xs).map fun p => .tup [keyT p.1, p.2]) (E := iItems) (pi_items pe_U hbase hline) (fun σ H R q => U_imp q fun v H1 ⟨d, o, kvs, e, h1, q⟩ => ⟨d, o, kvs, e, h1, q⟩) dK_lk (fun _ => trivial) (fun z r => z.k _ _ r) h (fun ks xs l => by simp [l]) (fun d o kvs i H h1 h2 => ⟨h1, h2⟩) (fun d o kvs i H h1 h2 => ⟨h1, h2⟩) ?_
  rintro L d o ks xs ws i t ts vs H x H' z h1 rp hi ⟨Tp, k, v, e, rfl, nT, rfl⟩ l
  obtain ⟨ws', e2, l2, pt⟩ := dK_here rp h1 l
  subst e2
  rw [List.getElem?_map] at hi
  cases e3 : (ks.zip xs)[i]? with
  | none => rw [e3] at hi; cases hi
  | some pr =>
    rw [e3] at hi
    obtain ⟨k', u⟩ := pr
    obtain ⟨e4, e5⟩ := List.getElem?_zip_eq_some.mp e3
    obtain ⟨e6, e7⟩ := zip_get e
    rw [e4] at e6
    cases e6
    cases hi
    have r1 := pt.2 i u v e5 e7 (fzL_get (by unfold Fz at z; exact z.2) e5)
    exact pair_new (r1.sc _) nT
end
end DL

namespace DL
open PySem PySem.Spec L2

theorem len1 {α : Type} {l : List α} (h : 1 = l.length) : ∃ a, l = [a] := by
  match l, h with
  | [a], _ => exact ⟨a, rfl⟩
theorem len2 {α : Type} {l : List α} (h : 2 = l.length) : ∃ a b, l = [a, b] := by
  match l, h with
  | [a, b], _ => exact ⟨a, b, rfl⟩
theorem len3 {α : Type} {l : List α} (h : 3 = l.length) : ∃ a b c, l = [a, b, c] := by
  match l, h with
  | [a, b, c], _ => exact ⟨a, b, c, rfl⟩

section
variable {K : PySem.W.Frag} {Q : QT}
/-- a value that is told and an operand or two, unchanged -/
theorem o1_v {r : V → Hp → VK → Prop} {x v : V} (hr : ∀ H QV, QV v H → r x H QV) (q : Q (.v v) [.v x]) : OpT K (r1 r) [.v x] Q := fun L H fr fv vs QV l rp sz k => by
  obtain ⟨a, rfl⟩ := len1 l
  have e1 := Rp.sc_inv rp
  cases e1
  exact ⟨x, rfl, hr H QV (k (.v v) [.v x] v H q rfl (rp.sc v))⟩
theorem o2_v {r : R2} {x y v : V} (hr : ∀ H QV, QV v H → r x y H QV) (q : Q (.v v) [.v x, .v y]) : OpT K (r2 r) [.v x, .v y] Q := fun L H fr fv vs QV l rp sz k => by
  obtain ⟨a, b, rfl⟩ := len2 l
  have e1 := Rp.sc_inv rp
  cases e1
  have e2 := Rp.sc_inv (Rp.tl rp)
  cases e2
  exact ⟨x, y, rfl, hr H QV (k (.v v) [.v x, .v y] v H q rfl (rp.sc v))⟩
theorem ocl_v {r : List V → Hp → VK → Prop} {xs : List V} {v : V} (hr : ∀ H QV, QV v H → r xs H QV) (q : Q (.v v) (xs.map T.v)) : OpT K r (xs.map T.v) Q := fun L H fr fv vs QV l rp sz k => by
  have e : vs = xs := by
    have go : ∀ {xs : List V} {vs : List V} {fr : List T} {fv : List (Option V)}, (xs.map T.v).length = vs.length → Rp ⟨K, L⟩ (xs.map T.v ++ fr) (vs.map some ++ fv) H → vs = xs := by
      intro xs
      induction xs with
      | nil =>
        intro vs fr fv l _
        exact List.length_eq_zero_iff.mp l.symm
      | cons x xs ih =>
        intro vs fr fv l rp
        cases vs with
        | nil => cases l
        | cons w ws =>
          have e1 := Rp.sc_inv (ts := xs.map T.v ++ fr) (vs := ws.map some ++ fv) rp
          cases e1
          rw [ih (Nat.succ.inj l) (Rp.tl (ts := xs.map T.v ++ fr) (vs := ws.map some ++ fv) rp)]
    exact go l rp
  subst e
  exact hr H QV (k (.v v) _ v H q rfl (rp.sc v))
end

section
variable {X : Cx} {Q : QT}
/-! ints -/
theorem b_add {i j : Int} (q : Q (T.int (i + j)) [T.int i, T.int j]) : OpT X.K (r2 (rOp X (binaryOp .Add))) [T.int i, T.int j] Q := t_op2 op_add (o2_v (fun H QV h => ⟨i, j, rfl, rfl, h⟩) q)
theorem b_sub {i j : Int} (q : Q (T.int (i - j)) [T.int i, T.int j]) : OpT X.K (r2 (rOp X (binaryOp .Sub))) [T.int i, T.int j] Q := t_op2 op_sub (o2_v (fun H QV h => ⟨i, j, rfl, rfl, h⟩) q)
theorem b_mul {i j : Int} (h : CMul i j) (q : Q (T.int (i * j)) [T.int i, T.int j]) : OpT X.K (r2 (rOp X (binaryOp .Mult))) [T.int i, T.int j] Q := t_op2 op_mul (o2_v (fun H QV h' => ⟨i, j, rfl, rfl, h, h'⟩) q)
theorem b_div {i j : Int} (h : CDiv i j) (q : Q (T.int (i / j)) [T.int i, T.int j]) : OpT X.K (r2 (rOp X (binaryOp .FloorDiv))) [T.int i, T.int j] Q := t_op2 op_fdiv (o2_v (fun H QV h' => ⟨i, j, rfl, rfl, h, h'⟩) q)
theorem b_mod {i j : Int} (h : 0 < j) (q : Q (T.int (i % j)) [T.int i, T.int j]) : OpT X.K (r2 (rOp X (binaryOp .Mod))) [T.int i, T.int j] Q := t_op2 op_mod (o2_v (fun H QV h' => ⟨i, j, rfl, rfl, h, h'⟩) q)
theorem b_pow {i j : Int} (h : CPow i j) (q : Q (T.int (i ^ j.toNat)) [T.int i, T.int j]) : OpT X.K (r2 (rOp X (binaryOp .Pow))) [T.int i, T.int j] Q := t_op2 op_pow (o2_v (fun H QV h' => ⟨i, j, rfl, rfl, h, h'⟩) q)
theorem u_neg {i : Int} (q : Q (T.int (-i)) [T.int i]) : OpT X.K (r1 (rUn X (unaryOp .USub))) [T.int i] Q := t_un un_neg (o1_v (fun H QV h => ⟨i, rfl, h⟩) q)
theorem c_lt {i j : Int} (q : Q (T.bl (decide (i < j))) [T.int i, T.int j]) : OpT X.K (r2 (rOp X (compareOp .Lt))) [T.int i, T.int j] Q := t_op2 op_lt (o2_v (fun H QV h => ⟨i, j, rfl, rfl, h⟩) q)
theorem c_le {i j : Int} (q : Q (T.bl (decide (i ≤ j))) [T.int i, T.int j]) : OpT X.K (r2 (rOp X (compareOp .LtE))) [T.int i, T.int j] Q := t_op2 op_le (o2_v (fun H QV h => ⟨i, j, rfl, rfl, h⟩) q)
theorem c_gt {i j : Int} (q : Q (T.bl (decide (j < i))) [T.int i, T.int j]) : OpT X.K (r2 (rOp X (compareOp .Gt))) [T.int i, T.int j] Q := t_op2 op_gt (o2_v (fun H QV h => ⟨i, j, rfl, rfl, h⟩) q)
theorem c_ge {i j : Int} (q : Q (T.bl (decide (j ≤ i))) [T.int i, T.int j]) : OpT X.K (r2 (rOp X (compareOp .GtE))) [T.int i, T.int j] Q := t_op2 op_ge (o2_v (fun H QV h => ⟨i, j, rfl, rfl, h⟩) q)
/-! flat values -/
theorem c_eq {x y : V} (h : scal x y = true) (q : Q (T.bl (decide (x = y))) [.v x, .v y]) : OpT X.K (r2 (rOp X (compareOp .Eq))) [.v x, .v y] Q := t_op2 op_eq (o2_v (fun H QV h' => ⟨h, h'⟩) q)
theorem c_ne {x y : V} (h : scal x y = true) (q : Q (T.bl (!decide (x = y))) [.v x, .v y]) : OpT X.K (r2 (rOp X (compareOp .NotEq))) [.v x, .v y] Q := t_op2 op_ne (o2_v (fun H QV h' => ⟨h, h'⟩) q)
theorem c_isN {x : V} (q : Q (T.bl (decide (x = .non))) [.v x, T.non]) : OpT X.K (r2 (rOp X (compareOp .Is))) [.v x, T.non] Q := t_op2 op_isN (o2_v (fun H QV h' => ⟨rfl, h'⟩) q)
theorem c_notN {x : V} (q : Q (T.bl (!decide (x = .non))) [.v x, T.non]) : OpT X.K (r2 (rOp X (compareOp .IsNot))) [.v x, T.non] Q := t_op2 op_notN (o2_v (fun H QV h' => ⟨rfl, h'⟩) q)
/-! texts -/
theorem b_addS {i j : Str} (h : i.length + j.length ≤ sizeLine) (q : Q (T.str (i ++ j)) [T.str i, T.str j]) : OpT X.K (r2 (rOp X (binaryOp .Add))) [T.str i, T.str j] Q := t_op2 op_add_str (o2_v (fun H QV h' => ⟨i, j, rfl, rfl, h, h'⟩) q)
theorem c_ltS {i j : Str} (q : Q (T.bl (decide (i.cps.toList < j.cps.toList))) [T.str i, T.str j]) : OpT X.K (r2 (rOp X (compareOp .Lt))) [T.str i, T.str j] Q := t_op2 op_lt_str (o2_v (fun H QV h => ⟨i, j, rfl, rfl, h⟩) q)
theorem c_gtS {i j : Str} (q : Q (T.bl (decide (j.cps.toList < i.cps.toList))) [T.str i, T.str j]) : OpT X.K (r2 (rOp X (compareOp .Gt))) [T.str i, T.str j] Q := t_op2 op_gt_str (o2_v (fun H QV h => ⟨i, j, rfl, rfl, h⟩) q)
theorem c_inSign {c : Nat} {z : Str} (q : Q (T.bl (decide (c ∈ z.cps.toList))) [T.str ⟨#[c]⟩, T.str z]) : OpT X.K (r2 (rOp X (compareOp .In))) [T.str ⟨#[c]⟩, T.str z] Q := t_op2 op_in_sign (o2_v (fun H QV h => ⟨c, z, rfl, rfl, h⟩) q)
theorem c_notInSign {c : Nat} {z : Str} (q : Q (T.bl (!decide (c ∈ z.cps.toList))) [T.str ⟨#[c]⟩, T.str z]) : OpT X.K (r2 (rOp X (compareOp .NotIn))) [T.str ⟨#[c]⟩, T.str z] Q := t_op2 op_notIn_sign (o2_v (fun H QV h => ⟨c, z, rfl, rfl, h⟩) q)
theorem ix_s {z : Str} {i : Int} {c : Nat} (hz : z.length ≤ sizeLine) (h : atI z.cps.toList i = some c) (q : Q (T.str ⟨#[c]⟩) [T.str z, T.int i]) : OpT X.K (r2 (rIxU X)) [T.str z, T.int i] Q := t_ix ix_str (o2_v (fun H QV h' => ⟨z, i, c, rfl, rfl, hz, h, h'⟩) q)
/-! items -/
theorem at_get {xs : List T} {ws : List V} {i : Int} {t : T} (l : xs.length = ws.length) (h : atI xs i = some t) : ∃ (v : V) (j : Nat), atI ws i = some v ∧ xs[j]? = some t ∧ ws[j]? = some v := by
  unfold atI at h ⊢
  rw [← l]
  cases e : ixN xs.length i with
  | none => rw [e] at h; cases h
  | some j =>
    rw [e] at h
    have h1 : xs[j]? = some t := h
    have hj : j < ws.length := by rw [← l]; exact (List.getElem?_eq_some_iff.mp h1).1
    exact ⟨ws[j], j, List.getElem?_eq_getElem hj, h1, List.getElem?_eq_getElem hj⟩
theorem ix_l {o : Bool} {xs : List T} {i : Int} {t : T} (h : atI xs i = some t) (z : Fz t) (q : Q t [.lst o xs, T.int i]) : OpT X.K (r2 (rIxU X)) [.lst o xs, T.int i] Q := t_ix ix_list fun L H fr fv vs QV l rp sz k => by
  obtain ⟨a, b, rfl⟩ := len2 l
  obtain ⟨p, ws, e, hq, pt⟩ := Rp.rdL rp
  cases e
  have e2 := Rp.sc_inv (Rp.tl rp)
  cases e2
  obtain ⟨v, j, h1, h2, h3⟩ := at_get pt.1 h
  exact ⟨_, _, rfl, p, ws, i, v, rfl, rfl, SqL.of hq, h1, k t _ v H q rfl (pt.2 j t v h2 h3 z)⟩
theorem ix_t {xs : List T} {i : Int} {t : T} (h : atI xs i = some t) (z : Fz t) (q : Q t [.tup xs, T.int i]) : OpT X.K (r2 (rIxU X)) [.tup xs, T.int i] Q := t_ix ix_tup fun L H fr fv vs QV l rp sz k => by
  obtain ⟨a, b, rfl⟩ := len2 l
  obtain ⟨p, ws, e, hq, pt⟩ := Rp.rdU rp
  cases e
  have e2 := Rp.sc_inv (Rp.tl rp)
  cases e2
  obtain ⟨v, j, h1, h2, h3⟩ := at_get pt.1 h
  exact ⟨_, _, rfl, p, ws, i, v, rfl, rfl, SqT.of hq, h1, k t _ v H q rfl (pt.2 j t v h2 h3 z)⟩
/-- xs[k] = t -/
theorem st_l {t : T} {xs : List T} {i : Int} {j : Nat} (h : ixN xs.length i = some j) (q : Q T.non [.gone, .lst true (xs.set j t), T.int i]) : OpT X.K (rSet X) [t, .lst true xs, T.int i] Q := t_set set_list fun L H fr fv vs QV l rp sz k => by
  obtain ⟨a, b, c, rfl⟩ := len3 l
  have r0 : Rp ⟨X.K, L⟩ (t :: .lst true xs :: T.int i :: fr) (some a :: some b :: some c :: fv) H := rp
  obtain ⟨p, ws, e, hq, lw, r1⟩ := Rp.openL (Rp.snd r0)
  cases e
  have e2 := Rp.sc_inv (Rp.tl (Rp.tl r0))
  cases e2
  refine ⟨a, _, _, rfl, p, ws, i, j, rfl, rfl, hq, by rw [← lw]; exact h, ?_⟩
  refine k T.non _ .non _ q rfl (Rp.sc _ (Rp.gone (some a) ?_))
  -- the old item goes, the new one comes
  have hj : j < xs.length := (ixN_seq h).2.1
  have r2 : Rp ⟨X.K, L⟩ (t :: (xs ++ (.hole :: T.int i :: fr))) (some a :: (ws.map some ++ (some (.ref p) :: some (.int i) :: fv))) H := by
    have a1 : Rp ⟨X.K, L⟩ ([.hole] ++ (xs ++ ([t] ++ (T.int i :: fr)))) ([some (.ref p)] ++ (ws.map some ++ ([some a] ++ (some (.int i) :: fv)))) H := r1
    have a2 := Rp.front a1 rfl (by simpa using lw) rfl
    exact Rp.swap (t1 := [t, .hole]) (v1 := [some a, some (.ref p)]) (t2 := xs) (v2 := ws.map some) a2 rfl (by simpa using lw) |> fun r => by
      have b1 : Rp ⟨X.K, L⟩ (xs ++ ([t] ++ ([.hole] ++ (T.int i :: fr)))) (ws.map some ++ ([some a] ++ ([some (.ref p)] ++ (some (.int i) :: fv)))) H := r
      exact Rp.swap b1 (by simpa using lw) rfl
  have r3 := Rp.put r2 (by simpa using lw) hj
  have r4 : Rp ⟨X.K, L⟩ (.hole :: (xs.set j t ++ (T.int i :: fr))) (some (.ref p) :: ((ws.set j a).map some ++ (some (.int i) :: fv))) H := by
    have b1 : Rp ⟨X.K, L⟩ (xs.set j t ++ ([.hole] ++ (T.int i :: fr))) ((ws.set j a).map some ++ ([some (.ref p)] ++ (some (.int i) :: fv))) H := by
      rw [List.map_set]
      exact r3
    exact Rp.swap b1 (by simp [lw]) rfl
  exact Rp.fillL r4 (by simp [lw])
/-! displays -/
def goneL : List T → List T
  | [] => []
  | _ :: ts => .gone :: goneL ts
theorem goneL_eq : ∀ ts : List T, goneL ts = List.replicate ts.length .gone
  | [] => rfl
  | t :: ts => by rw [List.length_cons, List.replicate_succ, ← goneL_eq ts]; rfl
theorem d_lst {ts : List T} (h : ts.length ≤ sizeLine) (q : Q (.lst true ts) (goneL ts)) : OpT X.K rLst ts Q := fun L H fr fv vs QV l rp sz k => by
  rw [goneL_eq] at q
  refine ⟨by rw [← l]; exact h, fun p hp => k _ _ _ _ q (by simp) ?_⟩
  have r1 := Rp.new (.lst vs) rp hp
  have r2 := Rp.fillL r1 l
  rw [upd_upd] at r2
  have go : ∀ (n : Nat) (ws : List V), n = ws.length → ∀ {t : T} {o : Option V}, Rp ⟨X.K, L⟩ (t :: fr) (o :: fv) (upd H p (.lst vs)) → Rp ⟨X.K, L⟩ (t :: (List.replicate n .gone ++ fr)) (o :: (ws.map some ++ fv)) (upd H p (.lst vs)) := by
    intro n
    induction n with
    | zero =>
      intro ws e t o r
      rw [List.length_eq_zero_iff.mp e.symm]
      exact r
    | succ n ih =>
      intro ws e t o r
      cases ws with
      | nil => cases e
      | cons w ws => exact Rp.snd (Rp.gone (some w) (ih ws (Nat.succ.inj e) r))
  exact go ts.length vs l r2
theorem d_tup {ts : List T} (h : ts.length ≤ sizeLine) (q : Q (.tup ts) (goneL ts)) : OpT X.K rTup ts Q := fun L H fr fv vs QV l rp sz k => by
  rw [goneL_eq] at q
  refine ⟨by rw [← l]; exact h, fun p hp => k _ _ _ _ q (by simp) ?_⟩
  have r2 := Rp.newTup rp l hp
  have go : ∀ (n : Nat) (ws : List V), n = ws.length → ∀ {t : T} {o : Option V}, Rp ⟨X.K, L⟩ (t :: fr) (o :: fv) (upd H p (.tup vs)) → Rp ⟨X.K, L⟩ (t :: (List.replicate n .gone ++ fr)) (o :: (ws.map some ++ fv)) (upd H p (.tup vs)) := by
    intro n
    induction n with
    | zero =>
      intro ws e t o r
      rw [List.length_eq_zero_iff.mp e.symm]
      exact r
    | succ n ih =>
      intro ws e t o r
      cases ws with
      | nil => cases e
      | cons w ws => exact Rp.snd (Rp.gone (some w) (ih ws (Nat.succ.inj e) r))
  exact go ts.length vs l r2
end
end DL

namespace DL
open PySem PySem.Spec L2

/-! ### methods of what is built in -/
section
variable {X : Cx} {o e : Expr} {es : List Expr} {ρ : List T} {apos cpos : Pos} {name : Str} {Tn id : String} {Q : QT}
def rM (X : Cx) (id : String) : List V → Hp → VK → Prop := fun vs H Q => ∃ x xs, vs = x :: xs ∧ ∃ r, MtR X id r ∧ r x xs H Q
theorem mt_U : MtR X id (fun x xs H Q => ∃ r, MtR X id r ∧ r x xs H Q) := fun pins s σ H x xs v us Q I rx rs ⟨r, h, q⟩ => h pins s σ H x xs v us Q I rx rs q
def tyT (Tn : String) : T → Prop
  | .v (.str _) => Tn = "str"
  | .v (.int _) => Tn = "int"
  | .lst _ _ => Tn = "list"
  | .dK true _ _ => Tn = "dict"
  | .dT true _ _ => Tn = "dict"
  | _ => False
theorem tyT_ok (L : Lks) : ∀ (t : T) (v : V) ts vs H, tyT Tn t → Rp ⟨X.K, L⟩ (t :: ts) (some v :: vs) H → tyV X.K Tn v H := by
  intro t v ts vs H ty rp
  cases t with
  | v x =>
    have := rp.sc_inv
    cases this
    cases v <;> first | exact ty | exact ty.elim
  | lst b xs =>
    obtain ⟨a, ws, e, h, _⟩ := rp.rdL
    cases e
    exact .inl ⟨ty, ws, SqL.of h⟩
  | dK b ks xs =>
    cases b with
    | false => exact ty.elim
    | true =>
      obtain ⟨a, ws, e, ⟨h, _⟩, _⟩ := rp.openK
      cases e
      exact .inr (.inr (.inl ⟨ty, .inl ⟨_, h⟩⟩))
  | dT b ks xs =>
    cases b with
    | false => exact ty.elim
    | true =>
      obtain ⟨a, ws, e, ⟨h, _⟩, _⟩ := rp.openT
      cases e
      exact .inr (.inr (.inl ⟨ty, .inr ⟨_, h⟩⟩))
  | _ => exact ty.elim
theorem w_bm (pa : PlainAttrs Tn) (slot : Slot Tn name id) (hty : typeOf (.builtin id) = pure (.type "method_descriptor")) (ha : PA X (e :: es) (UL X (e :: es)))
    (h : WR X o (tyV X.K Tn) ρ fun a ρ1 => WA X (e :: es) ρ1 fun as ρ2 => OpT X.K (rM X id) (resT (a :: as) ρ2) fun q ts' => Q q (wb (a :: as) ts' (resR (a :: as) ρ2)))
    (hbase : attributeBase o name X.env (eval o X.env) = eval o X.env := by rfl)
    (hfew : ((backTo cpos (starEach (e :: es) X.env)).all (fun x => !x.1) && (backToKw cpos (keywordEach [] X.env)).all (fun x => x.1.isSome)
      && decide ((e :: es).length + ([] : List Keyword).length + (if ([] : List Keyword).isEmpty then 0 else 1) < 30)) = true := by rfl)
    (hline : (apos.endLine == cpos.line) = true := by rfl) (hs : starEach (e :: es) X.env = (false, eval e X.env) :: starEach es X.env := by rfl) (hplain : (backTo cpos (starEach es X.env)).any (·.1) = false := by rfl) :
    W X (.Call (.Attribute o name apos) (e :: es) [] cpos) ρ Q := by
  refine w_opR (pr := tyV X.K Tn) (r := rM X id) (es := e :: es) (fun σ H QV hq => U_of (pe_bm pa slot hty mt_U pe_U ha hbase hfew hline hs hplain) ?_) h
  refine U_imp hq fun x H1 ⟨ty, hq⟩ => ⟨ty, UL_imp hq fun vs H2 ⟨x', xs', e, q⟩ => ?_⟩
  cases e
  exact q
theorem w_bm0 (pa : PlainAttrs Tn) (slot : Slot Tn name id) (hty : typeOf (.builtin id) = pure (.type "method_descriptor"))
    (h : WR X o (tyV X.K Tn) ρ fun a ρ1 => OpT X.K (rM X id) (resT [a] ρ1) fun q ts' => Q q (wb [a] ts' (resR [a] ρ1)))
    (hbase : attributeBase o name X.env (eval o X.env) = eval o X.env := by rfl) (hline : (apos.endLine == cpos.line) = true := by rfl) :
    W X (.Call (.Attribute o name apos) [] [] cpos) ρ Q := by
  refine w_opR (pr := tyV X.K Tn) (r := rM X id) (es := []) (fun σ H QV hq => U_of (pe_bm0 pa slot hty mt_U pe_U hbase hline) ?_) (fun L σ H fr fv QV st kk => h L σ H fr fv QV st fun a ρ1 v H1 q ok pv s1 => kk a ρ1 v H1 (wa_nil q) ok pv s1)
  refine U_imp hq fun x H1 ⟨ty, hq⟩ => ⟨ty, ?_⟩
  obtain ⟨x', xs', e, q⟩ := (show rM X id [x] H1 QV from hq)
  cases e
  exact q
theorem t_mt {r : V → List V → Hp → VK → Prop} {ts : List T} (hm : MtR X id r) (h : OpT X.K (fun vs H Q => ∃ x xs, vs = x :: xs ∧ r x xs H Q) ts Q) : OpT X.K (rM X id) ts Q :=
  opT_imp h fun vs H Q ⟨x, xs, e, q⟩ => ⟨x, xs, e, r, hm, q⟩
theorem m_append {t : T} {xs : List T} (h : xs.length < sizeLine) (q : Q T.non [.lst true (xs ++ [t]), .gone]) : OpT X.K (rM X "list.append") [.lst true xs, t] Q := t_mt mt_append fun L H fr fv vs QV l rp sz k => by
  obtain ⟨a, b, rfl⟩ := len2 l
  obtain ⟨p, ws, e1, h1, e2, r6⟩ := Rp.app (ts := fr) (vs := fv) rp
  cases e1
  refine ⟨_, _, rfl, p, ws, b, rfl, rfl, h1, by rw [← e2]; exact h, ?_⟩
  exact k T.non _ .non _ q rfl (Rp.sc _ (Rp.snd (Rp.gone (some b) r6)))
/-- pop(): the last one -/
theorem m_pop {t : T} {xs : List T} (q : Q t [.lst true xs]) : OpT X.K (rM X "list.pop") [.lst true (xs ++ [t])] Q := t_mt mt_pop fun L H fr fv vs QV l rp sz k => by
  obtain ⟨a, rfl⟩ := len1 l
  have r0 : Rp ⟨X.K, L⟩ (.lst true (xs ++ [t]) :: fr) (some a :: fv) H := rp
  obtain ⟨p, ws, e1, h1, e2, r1⟩ := r0.openL
  cases e1
  obtain ⟨ws0, w, rfl⟩ : ∃ ws0 w, ws = ws0 ++ [w] := by
    have : ws ≠ [] := fun z => by rw [z] at e2; simp at e2
    exact ⟨ws.dropLast, ws.getLast this, (List.dropLast_concat_getLast this).symm⟩
  have l0 : xs.length = ws0.length := by simpa using e2
  refine ⟨_, _, rfl, p, ws0 ++ [w], w, rfl, rfl, h1, by simp, ?_⟩
  refine k t _ w _ q rfl ?_
  have r2 : Rp ⟨X.K, L⟩ ([.hole] ++ (xs ++ ([t] ++ fr))) ([some (.ref p)] ++ (ws0.map some ++ ([some w] ++ fv))) H := by simpa [List.append_assoc] using r1
  have r3 := Rp.front r2 rfl (by simpa using l0) rfl
  have r4 := Rp.fillL (ts := xs) (vs := ws0) (us := t :: fr) (ws := some w :: fv) (a := p) (by
    have a1 := Rp.back (t3 := [t]) (v3 := [some w]) (t1 := [.hole]) (v1 := [some (.ref p)]) (t2 := xs) (v2 := ws0.map some) (t4 := fr) (v4 := fv) r3 rfl (by simpa using l0) rfl
    exact a1) l0
  rw [List.dropLast_concat]
  exact Rp.snd r4
/-- pop(k) -/
theorem m_popAt {t : T} {xs : List T} {i : Int} {j : Nat} (hi : -(2 ^ 63) ≤ i ∧ i < 2 ^ 63) (h : seqIndex? i xs.length = some j) (ht : xs[j]? = some t) (q : Q t [.lst true (xs.eraseIdx j), T.int i]) : OpT X.K (rM X "list.pop") [.lst true xs, T.int i] Q := t_mt mt_popAt fun L H fr fv vs QV l rp sz k => by
  obtain ⟨a, b, rfl⟩ := len2 l
  have r0 : Rp ⟨X.K, L⟩ (.lst true xs :: T.int i :: fr) (some a :: some b :: fv) H := rp
  have eb := Rp.sc_inv (Rp.tl r0)
  cases eb
  obtain ⟨p, ws, e1, h1, e2, r1⟩ := r0.openL
  cases e1
  have hj : j < xs.length := (List.getElem?_eq_some_iff.mp ht).1
  have hj2 : j < ws.length := by rw [← e2]; exact hj
  refine ⟨_, _, rfl, p, ws, i, j, ws[j], rfl, rfl, h1, hi.1, hi.2, by rw [← e2]; exact h, List.getElem?_eq_getElem hj2, ?_⟩
  refine k t _ ws[j] _ q rfl ?_
  have sx : xs = xs.take j ++ t :: xs.drop (j + 1) := by
    rw [← (List.getElem?_eq_some_iff.mp ht).2]
    simp
  have sw : ws = ws.take j ++ ws[j] :: ws.drop (j + 1) := by simp
  have ex : xs.eraseIdx j = xs.take j ++ xs.drop (j + 1) := List.eraseIdx_eq_take_drop_succ xs j
  have ew : ws.eraseIdx j = ws.take j ++ ws.drop (j + 1) := List.eraseIdx_eq_take_drop_succ ws j
  have lt : (xs.take j).length = (ws.take j).length := by simp [e2]
  have ld : (xs.drop (j + 1)).length = (ws.drop (j + 1)).length := by simp [e2]
  have r2 : Rp ⟨X.K, L⟩ (([.hole] ++ xs.take j) ++ ([t] ++ (xs.drop (j + 1) ++ (T.int i :: fr)))) (([some (.ref p)] ++ (ws.take j).map some) ++ ([some ws[j]] ++ ((ws.drop (j + 1)).map some ++ (some (.int i) :: fv)))) H := by
    have e3 : ([.hole] ++ xs.take j) ++ ([t] ++ (xs.drop (j + 1) ++ (T.int i :: fr))) = .hole :: (xs ++ (T.int i :: fr)) := by
      conv => rhs; rw [sx]
      simp [List.append_assoc]
    have e4 : ([some (.ref p)] ++ (ws.take j).map some) ++ ([some ws[j]] ++ ((ws.drop (j + 1)).map some ++ (some (.int i) :: fv))) = some (.ref p) :: (ws.map some ++ (some (.int i) :: fv)) := by
      have e5 : ws.map some = (ws.take j).map some ++ some ws[j] :: (ws.drop (j + 1)).map some := by
        rw [← List.map_cons, ← List.map_append, ← sw]
      rw [e5]
      simp only [List.append_assoc, List.cons_append, List.nil_append]
    rw [e3, e4]
    exact r1
  have r3 := Rp.swap r2 (by simp [e2]) rfl
  have r4 : Rp ⟨X.K, L⟩ (.hole :: (xs.eraseIdx j ++ (t :: T.int i :: fr))) (some (.ref p) :: ((ws.eraseIdx j).map some ++ (some ws[j] :: some (.int i) :: fv))) H := by
    have a1 : Rp ⟨X.K, L⟩ ([t] ++ (([.hole] ++ xs.eraseIdx j) ++ (T.int i :: fr))) ([some ws[j]] ++ (([some (.ref p)] ++ (ws.eraseIdx j).map some) ++ (some (.int i) :: fv))) H := by
      rw [ex, ew]
      simpa [List.append_assoc] using r3
    have a2 := Rp.swap a1 rfl (by simp [ex, ew, e2])
    simpa [List.append_assoc] using a2
  exact Rp.snd (Rp.fillL r4 (by rw [ex, ew]; simp [e2]))
end

/-! ### built-in functions -/
section
variable {X : Cx} {Q : QT}
theorem k_int {i : Int} (q : Q (T.int i) [T.int i]) : OpT X.K (rCl X (.type "int")) [T.int i] Q := t_cl call_int1 (ocl_v (xs := [.int i]) (fun H QV h => .inl ⟨i, rfl, h⟩) q)
theorem k_intB {b : Bool} (q : Q (T.int (if b then 1 else 0)) [T.bl b]) : OpT X.K (rCl X (.type "int")) [T.bl b] Q := t_cl call_int1 (ocl_v (xs := [.bl b]) (fun H QV h => .inr ⟨b, rfl, h⟩) q)
theorem k_strI {i : Int} (h : i.natAbs.log2 < 1920) (q : Q (T.str (toString i)) [T.int i]) : OpT X.K (rCl X (.type "str")) [T.int i] Q := t_cl call_str_int (ocl_v (xs := [.int i]) (fun H QV h' => ⟨i, rfl, h, h'⟩) q)
theorem k_lenS {z : Str} (h : z.length ≤ sizeLine) (q : Q (T.int z.length) [T.str z]) : OpT X.K (rCl X (.builtin "len")) [T.str z] Q := t_cl call_len_str (ocl_v (xs := [.str z]) (fun H QV h' => ⟨z, rfl, h, h'⟩) q)
theorem k_lenL {o : Bool} {xs : List T} (q : Q (T.int xs.length) [.lst o xs]) : OpT X.K (rCl X (.builtin "len")) [.lst o xs] Q := t_cl call_len_seq fun L H fr fv vs QV l rp sz k => by
  obtain ⟨a, rfl⟩ := len1 l
  obtain ⟨p, ws, e, hq, pt⟩ := Rp.rdL rp
  cases e
  refine ⟨p, ws, rfl, .inl (SqL.of hq), ?_⟩
  rw [← pt.1]
  exact k _ _ _ H q rfl (Rp.sc _ rp)
theorem k_lenT {xs : List T} (q : Q (T.int xs.length) [.tup xs]) : OpT X.K (rCl X (.builtin "len")) [.tup xs] Q := t_cl call_len_seq fun L H fr fv vs QV l rp sz k => by
  obtain ⟨a, rfl⟩ := len1 l
  obtain ⟨p, ws, e, hq, pt⟩ := Rp.rdU rp
  cases e
  refine ⟨p, ws, rfl, .inr (SqT.of hq), ?_⟩
  rw [← pt.1]
  exact k _ _ _ H q rfl (Rp.sc _ rp)
theorem Rp.allKids {K : KL} {H : Hp} {o : Bool} {a : Addr} : ∀ {xs : List T} {ws : List V} {t : T} {w : Option V} {ts : List T} {vs : List (Option V)}, Rp K (t :: ts) (w :: vs) H → (∀ (us : List T) (ys : List (Option V)), us.length = ys.length → Rp K (t :: (us ++ ts)) (w :: (ys ++ vs)) H → Parts K H xs ws (t :: (us ++ ts)) (w :: (ys ++ vs))) → FzL xs → Rp K (xs ++ (t :: ts)) (ws.map some ++ (w :: vs)) H := by
  intro xs ws t w ts vs rp pt z
  have go : ∀ (n : Nat), n ≤ xs.length → Rp K (xs.drop (xs.length - n) ++ (t :: ts)) ((ws.drop (xs.length - n)).map some ++ (w :: vs)) H := by
    have e0 : xs.length = ws.length := (pt [] [] rfl rp).1
    intro n
    induction n with
    | zero =>
      intro _
      rw [Nat.sub_zero, List.drop_length, e0, List.drop_length]
      exact rp
    | succ n ih =>
      intro hn
      have h1 := ih (by omega)
      have hj : xs.length - (n + 1) < xs.length := by omega
      have hj2 : xs.length - (n + 1) < ws.length := by rw [← e0]; exact hj
      have en : xs.length - (n + 1) + 1 = xs.length - n := by omega
      have e1 : xs.drop (xs.length - (n + 1)) = xs[xs.length - (n + 1)] :: xs.drop (xs.length - n) := by
        rw [List.drop_eq_getElem_cons hj, en]
      have e2 : ws.drop (xs.length - (n + 1)) = ws[xs.length - (n + 1)] :: ws.drop (xs.length - n) := by
        rw [List.drop_eq_getElem_cons hj2, en]
      have l1 : (xs.drop (xs.length - n)).length = ((ws.drop (xs.length - n)).map some).length := by simp [e0]
      have h2 : Rp K (t :: (xs.drop (xs.length - n) ++ ts)) (w :: ((ws.drop (xs.length - n)).map some ++ vs)) H := Rp.swap (t1 := xs.drop (xs.length - n)) (v1 := (ws.drop (xs.length - n)).map some) (t2 := [t]) (v2 := [w]) h1 l1 rfl
      have h3 := (pt _ _ l1 h2).2 _ _ _ (List.getElem?_eq_getElem hj) (List.getElem?_eq_getElem hj2) (fzL_get z (List.getElem?_eq_getElem hj))
      rw [e1, e2]
      have h4 := Rp.swap (t1 := [xs[xs.length - (n + 1)], t]) (v1 := [some ws[xs.length - (n + 1)], w]) (t2 := xs.drop (xs.length - n)) (v2 := (ws.drop (xs.length - n)).map some) h3 rfl l1
      exact Rp.swap (t1 := xs.drop (xs.length - n)) (v1 := (ws.drop (xs.length - n)).map some) (t2 := [xs[xs.length - (n + 1)]]) (v2 := [some ws[xs.length - (n + 1)]]) (t3 := t :: ts) (v3 := w :: vs) (by
        exact Rp.swap (t1 := [xs[xs.length - (n + 1)]]) (v1 := [some ws[xs.length - (n + 1)]]) (t2 := xs.drop (xs.length - n)) (v2 := (ws.drop (xs.length - n)).map some) (t3 := t :: ts) (v3 := w :: vs) (by
          exact Rp.swap (t1 := xs.drop (xs.length - n)) (v1 := (ws.drop (xs.length - n)).map some) (t2 := [xs[xs.length - (n + 1)]]) (v2 := [some ws[xs.length - (n + 1)]]) (t3 := t :: ts) (v3 := w :: vs) h4 l1 rfl) rfl l1) l1 rfl
  have := go xs.length (Nat.le_refl _)
  simpa using this
/-- all parts of a list that is still, beside it -/
theorem Rp.kidsL {K : KL} {H : Hp} {o : Bool} {xs ts : List T} {w : Option V} {vs : List (Option V)} (rp : Rp K (.lst o xs :: ts) (w :: vs) H) (z : FzL xs) : ∃ a ws, w = some (.ref a) ∧ H a = some (.lst ws) ∧ xs.length = ws.length ∧ Rp K (xs ++ (.lst o xs :: ts)) (ws.map some ++ (w :: vs)) H := by
  obtain ⟨a, ws, e, h, pt⟩ := rp.rdL
  cases e
  refine ⟨a, ws, rfl, h, pt.1, Rp.allKids (o := o) (a := a) rp (fun us ys _ r => ?_) z⟩
  obtain ⟨a', ws', e', h', pt'⟩ := r.rdL
  cases e'
  rw [h] at h'
  cases h'
  exact pt'
theorem Rp.kidsU {K : KL} {H : Hp} {xs ts : List T} {w : Option V} {vs : List (Option V)} (rp : Rp K (.tup xs :: ts) (w :: vs) H) (z : FzL xs) : ∃ a ws, w = some (.ref a) ∧ H a = some (.tup ws) ∧ xs.length = ws.length ∧ Rp K (xs ++ (.tup xs :: ts)) (ws.map some ++ (w :: vs)) H := by
  obtain ⟨a, ws, e, h, pt⟩ := rp.rdU
  cases e
  refine ⟨a, ws, rfl, h, pt.1, Rp.allKids (o := false) (a := a) rp (fun us ys _ r => ?_) z⟩
  obtain ⟨a', ws', e', h', pt'⟩ := r.rdU
  cases e'
  rw [h] at h'
  cases h'
  exact pt'
end
end DL

namespace DL
open PySem PySem.Spec L2

/-! ### data: ==, in -/
mutual
def pdT : T → Option PyData
  | .v .non => some .none
  | .v (.bl b) => some (.bool b)
  | .v (.int i) => some (.int i)
  | .v (.str x) => some (.str x)
  | .lst _ xs => (pdL xs).map PyData.list
  | .tup xs => (pdL xs).map PyData.tuple
  | _ => none
def pdL : List T → Option (List PyData)
  | [] => some []
  | t :: ts => match pdT t, pdL ts with
    | some d, some ds => some (d :: ds)
    | _, _ => none
end
section
variable {K : KL} {F H : Hp}
mutual
theorem own_dp (le : ∀ a u, F a = some u → RdX H a u) : ∀ {t : T} {v : V} {A : List Fp} {d : PyData}, Own K F H t v A → pdT t = some d → Dp K.k H v d
  | .v x, y, A, d, h, e => by
    unfold Own at h
    obtain ⟨rfl, _⟩ := h
    cases y <;> (unfold pdT at e; first | cases e) <;> constructor
  | .lst o xs, y, A, d, h, e => by
    unfold Own at h
    obtain ⟨a, vs, B, rfl, c, g⟩ := h
    unfold pdT at e
    cases el : pdL xs with
    | none => rw [el] at e; cases e
    | some ds =>
      rw [el] at e
      cases e
      refine .lst (xs := vs) ?_ (ownL_dp le g el)
      rcases c with ⟨_, _, c⟩ | ⟨_, _, _, c⟩
      · exact SqL.of c
      · rcases le _ _ c with c | ⟨e, _⟩
        · exact SqL.of c
        · cases e
  | .tup xs, y, A, d, h, e => by
    unfold Own at h
    obtain ⟨a, vs, rfl, c, g⟩ := h
    unfold pdT at e
    cases el : pdL xs with
    | none => rw [el] at e; cases e
    | some ds =>
      rw [el] at e
      cases e
      refine .tup (xs := vs) ?_ (ownL_dp le g el)
      rcases le _ _ c with c | ⟨e, _⟩
      · exact SqT.of c
      · cases e
  | .gone, _, _, _, _, e => by unfold pdT at e; cases e
  | .hole, _, _, _, _, e => by unfold pdT at e; cases e
  | .ro _, _, _, _, _, e => by unfold pdT at e; cases e
  | .dK _ _ _, _, _, _, _, e => by unfold pdT at e; cases e
  | .dT _ _ _, _, _, _, _, e => by unfold pdT at e; cases e
  | .ins _ _ _ _, _, _, _, _, e => by unfold pdT at e; cases e
theorem ownL_dp (le : ∀ a u, F a = some u → RdX H a u) : ∀ {ts : List T} {vs : List V} {A : List Fp} {ds : List PyData}, OwnL K F H ts vs A → pdL ts = some ds → DpAll K.k H vs ds
  | [], vs, A, ds, h, e => by
    unfold OwnL at h
    obtain ⟨rfl, _⟩ := h
    unfold pdL at e
    cases e
    exact .nil
  | t :: ts, vs, A, ds, h, e => by
    unfold OwnL at h
    obtain ⟨v, r, B, C, rfl, rfl, h1, h2⟩ := h
    unfold pdL at e
    cases e1 : pdT t with
    | none => rw [e1] at e; cases e
    | some d =>
      cases e2 : pdL ts with
      | none => rw [e1, e2] at e; cases e
      | some ds' =>
        rw [e1, e2] at e
        cases e
        exact .cons (own_dp le h1 e1) (ownL_dp le h2 e2)
end
theorem Rp.dp {t : T} {w : Option V} {ts : List T} {vs : List (Option V)} {d : PyData} (h : Rp K (t :: ts) (w :: vs) H) (e : pdT t = some d) : ∃ v, w = some v ∧ Dp K.k H v d := by
  obtain ⟨F, A, h⟩ := h
  obtain ⟨o', r, B0, C0, e', rfl, h0, h3⟩ := id h.own
  obtain ⟨rfl, rfl⟩ := List.cons.inj e'
  rcases h0 with ⟨rfl, _⟩ | ⟨y, rfl, g⟩
  · unfold pdT at e; cases e
  · exact ⟨y, rfl, own_dp h.le g e⟩
theorem ownL_vs : ∀ {ws vs : List V} {A : List Fp}, OwnL K F H (ws.map T.v) vs A → vs = ws
  | [], vs, A, h => by unfold OwnL at h; exact h.1
  | w :: ws, vs, A, h => by
    rw [List.map_cons] at h
    unfold OwnL at h
    obtain ⟨v, r, B, C, rfl, rfl, h1, h2⟩ := h
    unfold Own at h1
    rw [h1.1, ownL_vs h2]
/-- a list, a tuple of values that are no objects -/
theorem Rp.flL {o : Bool} {ws : List V} {ts : List T} {w : Option V} {vs : List (Option V)} (h : Rp K (.lst o (ws.map T.v) :: ts) (w :: vs) H) : ∃ a, w = some (.ref a) ∧ H a = some (.lst ws) := by
  obtain ⟨F, A, h⟩ := h
  obtain ⟨o', r, B0, C0, e, rfl, h0, h3⟩ := id h.own
  obtain ⟨rfl, rfl⟩ := List.cons.inj e
  rcases h0 with ⟨e, _⟩ | ⟨y, rfl, g⟩
  · cases e
  unfold Own at g
  obtain ⟨a, us, B, rfl, c, g⟩ := g
  have := ownL_vs g
  subst this
  refine ⟨a, rfl, ?_⟩
  rcases c with ⟨_, _, c⟩ | ⟨_, _, _, c⟩
  · exact c
  · rcases h.le _ _ c with c | ⟨e, _⟩
    · exact c
    · cases e
theorem Rp.flU {ws : List V} {ts : List T} {w : Option V} {vs : List (Option V)} (h : Rp K (.tup (ws.map T.v) :: ts) (w :: vs) H) : ∃ a, w = some (.ref a) ∧ H a = some (.tup ws) := by
  obtain ⟨F, A, h⟩ := h
  obtain ⟨o', r, B0, C0, e, rfl, h0, h3⟩ := id h.own
  obtain ⟨rfl, rfl⟩ := List.cons.inj e
  rcases h0 with ⟨e, _⟩ | ⟨y, rfl, g⟩
  · cases e
  unfold Own at g
  obtain ⟨a, us, rfl, c, g⟩ := g
  have := ownL_vs g
  subst this
  refine ⟨a, rfl, ?_⟩
  rcases h.le _ _ c with c | ⟨e, _⟩
  · exact c
  · cases e
end
section
variable {X : Cx} {Q : QT} {pos p : Pos} {ρ : List T}
theorem w_bltn {x : Str} {v : V} {u : Value} (hm : X.mg x = none) (hv : bootBuiltins x = some u) (r : RelV v u) (q : Q (.v v) ρ) (hg : Gl X x := by rfl) (hn : x ≠ "__name__" := by decide) (hd : (x == ("__debug__" : Str)) = false := by decide) : W X (.Name x pos) ρ Q := w_c (pe_bltn hg hm hv r hn hd) q
theorem w_ty {x : Str} {n : String} (hm : X.mg x = none) (hv : bootBuiltins x = some (.type n)) (q : Q (.v (.ty n)) ρ) (hg : Gl X x := by rfl) (hn : x ≠ "__name__" := by decide) (hd : (x == ("__debug__" : Str)) = false := by decide) : W X (.Name x pos) ρ Q := w_bltn (v := .ty n) (u := .type n) hm hv (show Value.type n = Value.type n from rfl) q hg hn hd
theorem c_eqD {t u : T} {d e : PyData} (hu : X.A.units + 64 < cLine) (h1 : pdT t = some d) (h2 : pdT u = some e) (s1 : SeqAt.shaped d = true) (s2 : SeqAt.shaped e = true) (q : Q (T.bl (PyData.eqv d e)) [t, u]) : OpT X.K (r2 (rOp X (compareOp .Eq))) [t, u] Q := t_op2 (op_eqD hu) fun L H fr fv vs QV l rp sz k => by
  obtain ⟨a, b, rfl⟩ := len2 l
  obtain ⟨v, e1, p1⟩ := Rp.dp (t := t) (ts := u :: fr) (w := some a) (vs := some b :: fv) rp h1
  cases e1
  obtain ⟨w, e1, p2⟩ := Rp.dp (Rp.tl (t := t) (ts := u :: fr) (a := some a) (vs := some b :: fv) rp) h2
  cases e1
  exact ⟨_, _, rfl, d, e, p1, p2, s1, s2, k _ _ _ H q rfl (Rp.sc _ rp)⟩
theorem c_neD {t u : T} {d e : PyData} (hu : X.A.units + 64 < cLine) (h1 : pdT t = some d) (h2 : pdT u = some e) (s1 : SeqAt.shaped d = true) (s2 : SeqAt.shaped e = true) (q : Q (T.bl (!PyData.eqv d e)) [t, u]) : OpT X.K (r2 (rOp X (compareOp .NotEq))) [t, u] Q := t_op2 (op_neD hu) fun L H fr fv vs QV l rp sz k => by
  obtain ⟨a, b, rfl⟩ := len2 l
  obtain ⟨v, e1, p1⟩ := Rp.dp (t := t) (ts := u :: fr) (w := some a) (vs := some b :: fv) rp h1
  cases e1
  obtain ⟨w, e1, p2⟩ := Rp.dp (Rp.tl (t := t) (ts := u :: fr) (a := some a) (vs := some b :: fv) rp) h2
  cases e1
  exact ⟨_, _, rfl, d, e, p1, p2, s1, s2, k _ _ _ H q rfl (Rp.sc _ rp)⟩
theorem c_inD {t u : T} {d : PyData} {ds : List PyData} (hu : X.A.units + 65 < cLine) (h1 : pdT t = some d) (h2 : pdT u = some (.list ds)) (s1 : SeqAt.shaped d = true) (s2 : SeqAt.shaped (.list ds) = true) (q : Q (T.bl (ds.any fun z => PyData.eqv z d)) [t, u]) : OpT X.K (r2 (rOp X (compareOp .In))) [t, u] Q := t_op2 (op_inD hu) fun L H fr fv vs QV l rp sz k => by
  obtain ⟨a, b, rfl⟩ := len2 l
  obtain ⟨v, e1, p1⟩ := Rp.dp (t := t) (ts := u :: fr) (w := some a) (vs := some b :: fv) rp h1
  cases e1
  obtain ⟨w, e1, p2⟩ := Rp.dp (Rp.tl (t := t) (ts := u :: fr) (a := some a) (vs := some b :: fv) rp) h2
  cases e1
  exact ⟨_, _, rfl, d, ds, p1, p2, s1, s2, k _ _ _ H q rfl (Rp.sc _ rp)⟩
theorem c_notInD {t u : T} {d : PyData} {ds : List PyData} (hu : X.A.units + 65 < cLine) (h1 : pdT t = some d) (h2 : pdT u = some (.list ds)) (s1 : SeqAt.shaped d = true) (s2 : SeqAt.shaped (.list ds) = true) (q : Q (T.bl (!ds.any fun z => PyData.eqv z d)) [t, u]) : OpT X.K (r2 (rOp X (compareOp .NotIn))) [t, u] Q := t_op2 (op_notInD hu) fun L H fr fv vs QV l rp sz k => by
  obtain ⟨a, b, rfl⟩ := len2 l
  obtain ⟨v, e1, p1⟩ := Rp.dp (t := t) (ts := u :: fr) (w := some a) (vs := some b :: fv) rp h1
  cases e1
  obtain ⟨w, e1, p2⟩ := Rp.dp (Rp.tl (t := t) (ts := u :: fr) (a := some a) (vs := some b :: fv) rp) h2
  cases e1
  exact ⟨_, _, rfl, d, ds, p1, p2, s1, s2, k _ _ _ H q rfl (Rp.sc _ rp)⟩
/-- x in a list or a tuple of plain values -/
theorem c_inL {o : Bool} {x : V} {xs : List V} (fx : flatV x = true) (fs : xs.all flatV = true) (q : Q (T.bl (inV x xs)) [.v x, .lst o (xs.map T.v)]) : OpT X.K (r2 (rOp X (compareOp .In))) [.v x, .lst o (xs.map T.v)] Q := t_op2 op_in_seq fun L H fr fv vs QV l rp sz k => by
  obtain ⟨a, b, rfl⟩ := len2 l
  have e0 := Rp.sc_inv (ts := .lst o (xs.map T.v) :: fr) (o := some a) (vs := some b :: fv) rp
  cases e0
  obtain ⟨p, e1, h1⟩ := Rp.flL (Rp.tl (t := .v x) (ts := .lst o (xs.map T.v) :: fr) (a := some x) (vs := some b :: fv) rp)
  cases e1
  exact ⟨_, _, rfl, p, xs, rfl, .inl (SqL.of h1), fx, fs, k _ _ _ H q rfl (Rp.sc _ rp)⟩
theorem c_notInL {o : Bool} {x : V} {xs : List V} (fx : flatV x = true) (fs : xs.all flatV = true) (q : Q (T.bl (!inV x xs)) [.v x, .lst o (xs.map T.v)]) : OpT X.K (r2 (rOp X (compareOp .NotIn))) [.v x, .lst o (xs.map T.v)] Q := t_op2 op_notIn_seq fun L H fr fv vs QV l rp sz k => by
  obtain ⟨a, b, rfl⟩ := len2 l
  have e0 := Rp.sc_inv (ts := .lst o (xs.map T.v) :: fr) (o := some a) (vs := some b :: fv) rp
  cases e0
  obtain ⟨p, e1, h1⟩ := Rp.flL (Rp.tl (t := .v x) (ts := .lst o (xs.map T.v) :: fr) (a := some x) (vs := some b :: fv) rp)
  cases e1
  exact ⟨_, _, rfl, p, xs, rfl, .inl (SqL.of h1), fx, fs, k _ _ _ H q rfl (Rp.sc _ rp)⟩
theorem c_inT {x : V} {xs : List V} (fx : flatV x = true) (fs : xs.all flatV = true) (q : Q (T.bl (inV x xs)) [.v x, .tup (xs.map T.v)]) : OpT X.K (r2 (rOp X (compareOp .In))) [.v x, .tup (xs.map T.v)] Q := t_op2 op_in_seq fun L H fr fv vs QV l rp sz k => by
  obtain ⟨a, b, rfl⟩ := len2 l
  have e0 := Rp.sc_inv (ts := .tup (xs.map T.v) :: fr) (o := some a) (vs := some b :: fv) rp
  cases e0
  obtain ⟨p, e1, h1⟩ := Rp.flU (Rp.tl (t := .v x) (ts := .tup (xs.map T.v) :: fr) (a := some x) (vs := some b :: fv) rp)
  cases e1
  exact ⟨_, _, rfl, p, xs, rfl, .inr (SqT.of h1), fx, fs, k _ _ _ H q rfl (Rp.sc _ rp)⟩
theorem c_notInT {x : V} {xs : List V} (fx : flatV x = true) (fs : xs.all flatV = true) (q : Q (T.bl (!inV x xs)) [.v x, .tup (xs.map T.v)]) : OpT X.K (r2 (rOp X (compareOp .NotIn))) [.v x, .tup (xs.map T.v)] Q := t_op2 op_notIn_seq fun L H fr fv vs QV l rp sz k => by
  obtain ⟨a, b, rfl⟩ := len2 l
  have e0 := Rp.sc_inv (ts := .tup (xs.map T.v) :: fr) (o := some a) (vs := some b :: fv) rp
  cases e0
  obtain ⟨p, e1, h1⟩ := Rp.flU (Rp.tl (t := .v x) (ts := .tup (xs.map T.v) :: fr) (a := some x) (vs := some b :: fv) rp)
  cases e1
  exact ⟨_, _, rfl, p, xs, rfl, .inr (SqT.of h1), fx, fs, k _ _ _ H q rfl (Rp.sc _ rp)⟩
theorem c_isBl {a b : Bool} (q : Q (T.bl (decide (a = b))) [T.bl a, T.bl b]) : OpT X.K (r2 (rOp X (compareOp .Is))) [T.bl a, T.bl b] Q := t_op2 op_isBl (o2_v (fun H QV h => ⟨a, b, rfl, rfl, h⟩) q)
theorem c_notBl {a b : Bool} (q : Q (T.bl (!decide (a = b))) [T.bl a, T.bl b]) : OpT X.K (r2 (rOp X (compareOp .IsNot))) [T.bl a, T.bl b] Q := t_op2 op_notBl (o2_v (fun H QV h => ⟨a, b, rfl, rfl, h⟩) q)
theorem c_leS {i j : Str} (q : Q (T.bl (!decide (j.cps.toList < i.cps.toList))) [T.str i, T.str j]) : OpT X.K (r2 (rOp X (compareOp .LtE))) [T.str i, T.str j] Q := t_op2 op_le_str (o2_v (fun H QV h => ⟨i, j, rfl, rfl, h⟩) q)
theorem c_geS {i j : Str} (q : Q (T.bl (!decide (i.cps.toList < j.cps.toList))) [T.str i, T.str j]) : OpT X.K (r2 (rOp X (compareOp .GtE))) [T.str i, T.str j] Q := t_op2 op_ge_str (o2_v (fun H QV h => ⟨i, j, rfl, rfl, h⟩) q)

/-! ### isinstance -/
def kindT : T → Option String
  | .v .non => some "NoneType"
  | .v (.bl _) => some "bool"
  | .v (.int _) => some "int"
  | .v (.str _) => some "str"
  | .lst _ _ => some "list"
  | .tup _ => some "tuple"
  | .dK _ _ _ => some "dict"
  | .dT true _ _ => some "dict"
  | _ => none
theorem kind_ok {K : PySem.W.Frag} {L : Lks} {t : T} {k : String} {w : Option V} {ts : List T} {vs : List (Option V)} {H : Hp} (h : kindT t = some k) (rp : Rp ⟨K, L⟩ (t :: ts) (w :: vs) H) : ∃ v, w = some v ∧ TyX K H v (.type k) := by
  cases t with
  | v x =>
    have := rp.sc_inv
    subst this
    cases x <;> cases h
    · exact ⟨_, rfl, .base .non⟩
    · exact ⟨_, rfl, .base (.bl _)⟩
    · exact ⟨_, rfl, .base (.int _)⟩
    · exact ⟨_, rfl, .base (.str _)⟩
  | lst o xs =>
    cases h
    obtain ⟨a, ws, e, h, _⟩ := rp.rdL
    exact ⟨_, e, .base (.lst h)⟩
  | tup xs =>
    cases h
    obtain ⟨a, ws, e, h, _⟩ := rp.rdU
    exact ⟨_, e, .base (.tup h)⟩
  | dK o ks xs =>
    cases h
    obtain ⟨a, ws, e, h, _⟩ := rp.rdK
    rcases h with h | ⟨ob, h⟩
    · exact ⟨_, e, .base (.dK h)⟩
    · exact ⟨_, e, .fDict h⟩
  | dT o ks xs =>
    cases o with
    | false => cases h
    | true =>
      cases h
      obtain ⟨a, ws, e, ⟨h, _⟩, _⟩ := rp.openT
      exact ⟨_, e, .base (.dT h)⟩
  | _ => cases h
theorem k_isi {t : T} {c k : String} {b : Bool} (hk : kindT t = some k) (q : Q (T.bl b) [t, .v (.ty c)]) (h : kitB k c = some b := by decide +kernel) : OpT X.K (rCl X (.builtin "isinstance")) [t, .v (.ty c)] Q := t_cl call_isi fun L H fr fv vs QV l rp sz kk => by
  obtain ⟨a, a2, rfl⟩ := len2 l
  obtain ⟨v, e, ty⟩ := kind_ok (t := t) (ts := .v (.ty c) :: fr) (w := some a) (vs := some a2 :: fv) hk rp
  cases e
  have e0 := Rp.sc_inv (Rp.tl (t := t) (ts := .v (.ty c) :: fr) (a := some a) (vs := some a2 :: fv) rp)
  cases e0
  exact ⟨a, .ty c, .type k, .type c, b, rfl, .ty c, ty, kit_ty h, kk _ _ _ H q rfl (Rp.sc _ rp)⟩
def kitBs (k : String) : List String → Option Bool
  | [] => some false
  | c :: cs => match kitB k c with
    | some true => some true
    | some false => kitBs k cs
    | none => none
theorem kitBs_ok {K : PySem.W.Frag} {k : String} : ∀ {cs : List String} {b : Bool}, kitBs k cs = some b → PySem.W.kitAny K (.type k) (cs.map Value.type) = some b
  | [], b, h => by cases h; rfl
  | c :: cs, b, h => by
    unfold kitBs at h
    cases e : kitB k c with
    | none => rw [e] at h; cases h
    | some r =>
      rw [e] at h
      rw [List.map_cons]
      cases r with
      | true => cases h; exact kitAny_cons (kit_ty e) (fun z => by cases z) (fun _ => rfl)
      | false => exact kitAny_cons (kit_ty e) (fun _ => kitBs_ok h) (fun z => by cases z)
theorem paired_ty : ∀ (cs : List String), Paired ClsV (cs.map V.ty) (cs.map Value.type)
  | [] => .nil
  | c :: cs => .cons (.ty c) (paired_ty cs)
theorem k_isiT {t : T} {k : String} {b : Bool} (cs : List String) (hk : kindT t = some k) (q : Q (T.bl b) [t, .tup ((cs.map V.ty).map T.v)]) (h : kitBs k cs = some b := by decide +kernel) : OpT X.K (rCl X (.builtin "isinstance")) [t, .tup ((cs.map V.ty).map T.v)] Q := t_cl call_isiT fun L H fr fv vs QV l rp sz kk => by
  obtain ⟨a, a2, rfl⟩ := len2 l
  obtain ⟨v, e, ty⟩ := kind_ok (t := t) (ts := .tup ((cs.map V.ty).map T.v) :: fr) (w := some a) (vs := some a2 :: fv) hk rp
  cases e
  obtain ⟨p, e, h1⟩ := Rp.flU (Rp.tl (t := t) (ts := .tup ((cs.map V.ty).map T.v) :: fr) (a := some a) (vs := some a2 :: fv) rp)
  cases e
  exact ⟨a, p, cs.map V.ty, .type k, cs.map Value.type, b, rfl, h1, paired_ty cs, ty, kitBs_ok h, kk _ _ _ H q rfl (Rp.sc _ rp)⟩

/-! ### all, any, sum, join -/
theorem map_bl (bs : List Bool) : bs.map T.bl = (bs.map V.bl).map T.v := by rw [List.map_map]; rfl
theorem map_int (is : List Int) : is.map T.int = (is.map V.int).map T.v := by rw [List.map_map]; rfl
theorem map_str (zs : List Str) : zs.map T.str = (zs.map V.str).map T.v := by rw [List.map_map]; rfl
theorem k_all {o : Bool} {bs : List Bool} (q : Q (T.bl (bs.all id)) [.lst o (bs.map T.bl)]) (hc : X.calm = true := by rfl) : OpT X.K (rCl X (.builtin "all")) [.lst o (bs.map T.bl)] Q := t_cl (cr_all hc) fun L H fr fv vs QV l rp sz k => by
  obtain ⟨a, rfl⟩ := len1 l
  obtain ⟨p, e, h⟩ := Rp.flL (ws := bs.map V.bl) (o := o) (ts := fr) (w := some a) (vs := fv) (by rw [← map_bl]; exact rp)
  cases e
  exact ⟨p, bs, rfl, SqL.of h, k _ _ _ H q rfl (Rp.sc _ rp)⟩
theorem k_any {o : Bool} {bs : List Bool} (q : Q (T.bl (bs.any id)) [.lst o (bs.map T.bl)]) (hc : X.calm = true := by rfl) : OpT X.K (rCl X (.builtin "any")) [.lst o (bs.map T.bl)] Q := t_cl (cr_any hc) fun L H fr fv vs QV l rp sz k => by
  obtain ⟨a, rfl⟩ := len1 l
  obtain ⟨p, e, h⟩ := Rp.flL (ws := bs.map V.bl) (o := o) (ts := fr) (w := some a) (vs := fv) (by rw [← map_bl]; exact rp)
  cases e
  exact ⟨p, bs, rfl, SqL.of h, k _ _ _ H q rfl (Rp.sc _ rp)⟩
theorem m_join {o : Bool} {a : Str} {ys : List Str} (hz : (ys.map (·.length)).sum + ys.length * a.length ≤ 16777216) (q : Q (T.str (Txt.join a ys)) [T.str a, .lst o (ys.map T.str)]) : OpT X.K (rM X "str.join") [T.str a, .lst o (ys.map T.str)] Q := t_mt mt_join fun L H fr fv vs QV l rp sz k => by
  obtain ⟨x, y, rfl⟩ := len2 l
  have r0 : Rp ⟨X.K, L⟩ (T.str a :: .lst o (ys.map T.str) :: fr) (some x :: some y :: fv) H := rp
  have e0 := Rp.sc_inv r0
  cases e0
  obtain ⟨p, e, h⟩ := Rp.flL (ws := ys.map V.str) (o := o) (ts := fr) (w := some y) (vs := fv) (by rw [← map_str]; exact Rp.tl r0)
  cases e
  exact ⟨_, _, rfl, a, p, ys, rfl, rfl, .inl (SqL.of h), hz, k _ _ _ H q rfl (Rp.sc _ rp)⟩
theorem m_joinT {a : Str} {ys : List Str} (hz : (ys.map (·.length)).sum + ys.length * a.length ≤ 16777216) (q : Q (T.str (Txt.join a ys)) [T.str a, .tup (ys.map T.str)]) : OpT X.K (rM X "str.join") [T.str a, .tup (ys.map T.str)] Q := t_mt mt_join fun L H fr fv vs QV l rp sz k => by
  obtain ⟨x, y, rfl⟩ := len2 l
  have r0 : Rp ⟨X.K, L⟩ (T.str a :: .tup (ys.map T.str) :: fr) (some x :: some y :: fv) H := rp
  have e0 := Rp.sc_inv r0
  cases e0
  obtain ⟨p, e, h⟩ := Rp.flU (ws := ys.map V.str) (ts := fr) (w := some y) (vs := fv) (by rw [← map_str]; exact Rp.tl r0)
  cases e
  exact ⟨_, _, rfl, a, p, ys, rfl, rfl, .inr (SqT.of h), hz, k _ _ _ H q rfl (Rp.sc _ rp)⟩

/-! ### list(..), tuple(..), list + list -/
theorem Rp.newL {K : KL} {H : Hp} {xs ts : List T} {ws : List V} {vs : List (Option V)} {p : Addr} (h : Rp K (xs ++ ts) (ws.map some ++ vs) H) (l : xs.length = ws.length) (hp : H p = none) : Rp K (.lst true xs :: ts) (some (.ref p) :: vs) (upd H p (.lst ws)) := by
  have := Rp.fillL (Rp.new (.lst ws) h hp) l
  have e : upd (upd H p (.lst ws)) p (.lst ws) = upd H p (.lst ws) := by
    funext a
    unfold upd
    by_cases c : a = p <;> simp [c]
  rw [e] at this
  exact this
theorem k_listL {o : Bool} {xs : List T} (z : FzL xs) (q : Q (.lst true xs) [.lst o xs]) : OpT X.K (rCl X (.type "list")) [.lst o xs] Q := t_cl call_list_of fun L H fr fv vs QV l rp sz k => by
  obtain ⟨a, rfl⟩ := len1 l
  obtain ⟨p, ws, e, h, l2, r2⟩ := Rp.kidsL (o := o) (ts := fr) (w := some a) (vs := fv) rp z
  cases e
  exact ⟨p, ws, rfl, .inl (SqL.of h), fun n hn => k _ _ _ _ q rfl (Rp.newL r2 l2 hn)⟩
theorem k_listT {xs : List T} (z : FzL xs) (q : Q (.lst true xs) [.tup xs]) : OpT X.K (rCl X (.type "list")) [.tup xs] Q := t_cl call_list_of fun L H fr fv vs QV l rp sz k => by
  obtain ⟨a, rfl⟩ := len1 l
  obtain ⟨p, ws, e, h, l2, r2⟩ := Rp.kidsU (ts := fr) (w := some a) (vs := fv) rp z
  cases e
  exact ⟨p, ws, rfl, .inr (SqT.of h), fun n hn => k _ _ _ _ q rfl (Rp.newL r2 l2 hn)⟩
theorem k_tupL {o : Bool} {xs : List T} (z : FzL xs) (q : Q (.tup xs) [.lst o xs]) : OpT X.K (rCl X (.type "tuple")) [.lst o xs] Q := t_cl call_tuple_of fun L H fr fv vs QV l rp sz k => by
  obtain ⟨a, rfl⟩ := len1 l
  obtain ⟨p, ws, e, h, l2, r2⟩ := Rp.kidsL (o := o) (ts := fr) (w := some a) (vs := fv) rp z
  cases e
  exact ⟨p, ws, rfl, .inl ⟨SqL.of h, fun n hn => k _ _ _ _ q rfl (Rp.newTup r2 l2 hn)⟩⟩
theorem k_tupT {xs : List T} (z : FzL xs) (q : Q (.tup xs) [.tup xs]) : OpT X.K (rCl X (.type "tuple")) [.tup xs] Q := t_cl call_tuple_of fun L H fr fv vs QV l rp sz k => by
  obtain ⟨a, rfl⟩ := len1 l
  obtain ⟨p, ws, e, h, _⟩ := Rp.rdU (ts := fr) (w := some a) (vs := fv) rp
  cases e
  exact ⟨p, ws, rfl, .inr ⟨SqT.of h, k _ _ _ _ q rfl (Rp.dup (t := .tup xs) (ts := fr) (o := some (.ref p)) (vs := fv) rp (fz_tup z))⟩⟩
theorem b_cat {o o2 : Bool} {xs ys : List T} (z1 : FzL xs) (z2 : FzL ys) (hz : xs.length + ys.length ≤ sizeLine) (q : Q (.lst true (xs ++ ys)) [.lst o xs, .lst o2 ys]) : OpT X.K (r2 (rOp X (binaryOp .Add))) [.lst o xs, .lst o2 ys] Q := t_op2 op_cat fun L H fr fv vs QV l rp sz k => by
  obtain ⟨a, b, rfl⟩ := len2 l
  obtain ⟨p, ws, e, h, l1, r1⟩ := Rp.kidsL (o := o) (ts := .lst o2 ys :: fr) (w := some a) (vs := some b :: fv) rp z1
  cases e
  have r2 : Rp ⟨X.K, L⟩ (.lst o2 ys :: ((xs ++ [.lst o xs]) ++ fr)) (some b :: ((ws.map some ++ [some (.ref p)]) ++ fv)) H :=
    Rp.swap (t1 := xs ++ [.lst o xs]) (v1 := ws.map some ++ [some (.ref p)]) (t2 := [.lst o2 ys]) (v2 := [some b]) (t3 := fr) (v3 := fv) (by simpa using r1) (by simp [l1]) rfl
  obtain ⟨p2, ws2, e, h2, l2, r3⟩ := Rp.kidsL r2 z2
  cases e
  refine ⟨_, _, rfl, p, p2, ws, ws2, rfl, rfl, h, h2, by rw [← l1, ← l2]; exact hz, fun n hn => k _ _ _ _ q rfl (Rp.newL (ws := ws ++ ws2) ?_ (by simp [l1, l2]) hn)⟩
  have r4 : Rp ⟨X.K, L⟩ ((ys ++ [.lst o2 ys]) ++ (xs ++ (.lst o xs :: fr))) ((ws2.map some ++ [some (.ref p2)]) ++ (ws.map some ++ (some (.ref p) :: fv))) H := by simpa using r3
  have r5 := Rp.swap r4 (by simp [l2]) (by simp [l1])
  have r6 : Rp ⟨X.K, L⟩ ((xs ++ ys) ++ ([.lst o2 ys] ++ ([.lst o xs] ++ fr))) ((ws.map some ++ ws2.map some) ++ ([some (.ref p2)] ++ ([some (.ref p)] ++ fv))) H := by simpa using r5
  have r7 := Rp.back (t3 := xs ++ ys) (v3 := ws.map some ++ ws2.map some) (t1 := [.lst o2 ys]) (v1 := [some (.ref p2)]) (t2 := [.lst o xs]) (v2 := [some (.ref p)]) r6 rfl rfl (by simp [l1, l2])
  have r8 := Rp.swap r7 rfl rfl
  have r9 := Rp.front (t1 := [.lst o xs]) (v1 := [some (.ref p)]) (t2 := [.lst o2 ys]) (v2 := [some (.ref p2)]) (t3 := xs ++ ys) (v3 := ws.map some ++ ws2.map some) r8 rfl rfl (by simp [l1, l2])
  simpa using r9
end
end DL

namespace DL
open PySem PySem.Spec L2

/-! ### more ways of the state -/
section
variable {K : KL} {H : Hp}
/-- a tuple that stands, of what waits -/
theorem Rp.tupOf {ts us : List T} {ws : List V} {vs : List (Option V)} {q : Addr} (h : Rp K (ts ++ us) (ws.map some ++ vs) H) (l : ts.length = ws.length) (hq : H q = some (.tup ws)) : Rp K (.tup ts :: us) (some (.ref q) :: vs) H := by
  obtain ⟨F, A, h⟩ := h
  obtain ⟨B, C, rfl, h1, h2⟩ := ownS_app' h.own (by rw [l, List.length_map])
  have hF : ∀ a u, F a = some u → upd F q (.tup ws) a = some u := fun a u e => by
    by_cases z : a = q
    · subst z
      rcases h.le a u e with c | ⟨d, o, c⟩
      · rw [hq] at c
        rw [upd_same, c]
      · rw [hq] at c
        cases c
    · rw [upd_ne z]
      exact e
  refine ⟨upd F q (.tup ws), B ++ C, ⟨some (.ref q), vs, B, C, rfl, rfl, .inr ⟨_, rfl, ?_⟩, ownS_mono hF h2 fun _ _ => rfl⟩, h.nd, fun a ha ha2 => ?_, h.lk.more hF fun a u e => ?_⟩
  · unfold Own
    exact ⟨q, ws, rfl, upd_same, ownL_mono hF (ownS_L h1) fun _ _ => rfl⟩
  · rw [upd_ne fun z => ownS_nt hq h.own (by rw [← z, ← ha2]; exact ha)]
    exact h.dj a ha ha2
  · by_cases z : a = q
    · subst z
      rw [upd_same] at e
      cases e
      exact .inr hq
    · rw [upd_ne z] at e
      exact .inl e
/-- more stands there -/
theorem Rp.ext {H' : Hp} {ts : List T} {vs : List (Option V)} (h : Rp K ts vs H) (e : ∀ b o, H b = some o → H' b = some o) : Rp K ts vs H' := by
  obtain ⟨F, A, h⟩ := h
  refine ⟨F, A, ownS_mono (fun _ _ e => e) h.own fun b hb => ?_, h.nd, h.dj, ⟨fun a u x => ?_, fun a o u x => ?_⟩⟩
  · cases q : H b.1 with
    | none => exact absurd q (ownS_there h.own b hb)
    | some u => exact e _ _ q
  · rcases h.lk.fx a u x with c | c
    · exact .inl (e _ _ c)
    · exact .inr c
  · obtain ⟨c1, c2, c3⟩ := h.lk.lk a o u x
    exact ⟨c1, c2, e _ _ c3⟩
end

/-! ### the keys of dicts -/
section
variable {κ : Type} [DecidableEq κ]
theorem valV_zip : ∀ {ks : List κ} {ws : List V} {k : κ} {j : Nat} {v : V}, ks.Nodup → ks[j]? = some k → ws[j]? = some v → valV (ks.zip ws) k = some v
  | [], _, _, _, _, _, h, _ => by cases h
  | _ :: _, [], _, _, _, _, _, h => by cases h
  | k0 :: ks, w :: ws, k, 0, v, nd, h1, h2 => by
    cases h1
    cases h2
    rw [List.zip_cons_cons]
    exact valV_pos rfl
  | k0 :: ks, w :: ws, k, j + 1, v, nd, h1, h2 => by
    have hk : k0 ≠ k := fun z => by
      subst z
      exact (List.nodup_cons.mp nd).1 (List.mem_of_getElem? h1)
    rw [List.zip_cons_cons, valV_neg hk]
    exact valV_zip (List.nodup_cons.mp nd).2 h1 h2
theorem valV_off : ∀ {ks : List κ} {ws : List V} {k : κ}, k ∉ ks → valV (ks.zip ws) k = none
  | [], _, _, _ => rfl
  | _ :: _, [], _, _ => rfl
  | k0 :: ks, w :: ws, k, h => by
    have hk : ¬ k0 = k := fun z => h (by rw [z]; exact List.mem_cons_self)
    rw [List.zip_cons_cons, valV_neg hk]
    exact valV_off fun z => h (List.mem_cons_of_mem _ z)
/-- a key is among them -/
def hasK (ks : List κ) (k : κ) : Bool := ks.any fun x => decide (x = k)
theorem hasK_iff {ks : List κ} {k : κ} : hasK ks k = true ↔ k ∈ ks := by
  unfold hasK
  simp
theorem hasK_not {ks : List κ} {k : κ} : hasK ks k = false ↔ k ∉ ks := by
  rw [← hasK_iff]; simp
theorem any_zip : ∀ {ks : List κ} {ws : List V} {k : κ}, ks.length = ws.length → ((ks.zip ws).any fun kv => decide (kv.1 = k)) = hasK ks k
  | [], _, _, _ => by simp [hasK]
  | _ :: _, [], _, h => by cases h
  | k0 :: ks, w :: ws, k, h => by
    rw [List.zip_cons_cons, List.any_cons, any_zip (Nat.succ.inj h)]
    rfl
theorem map_off : ∀ {ks : List κ} {ws : List V} {k : κ} {v : V}, k ∉ ks → ((ks.zip ws).map fun kv => if kv.1 = k then (kv.1, v) else kv) = ks.zip ws
  | [], _, _, _, _ => rfl
  | _ :: _, [], _, _, _ => rfl
  | k0 :: ks, w :: ws, k, v, h => by
    have hk : ¬ k0 = k := fun z => h (by rw [z]; exact List.mem_cons_self)
    rw [List.zip_cons_cons, List.map_cons, if_neg hk, map_off fun z => h (List.mem_cons_of_mem _ z)]
theorem map_on : ∀ {ks : List κ} {ws : List V} {k : κ} {j : Nat} {v : V}, ks.Nodup → ks[j]? = some k → ((ks.zip ws).map fun kv => if kv.1 = k then (kv.1, v) else kv) = ks.zip (ws.set j v)
  | [], _, _, _, _, _, h => by cases h
  | _ :: _, [], _, _, _, _, _ => rfl
  | k0 :: ks, w :: ws, k, 0, v, nd, h1 => by
    cases h1
    rw [List.zip_cons_cons, List.map_cons, if_pos rfl, map_off (List.nodup_cons.mp nd).1]
    rfl
  | k0 :: ks, w :: ws, k, j + 1, v, nd, h1 => by
    have hk : ¬ k0 = k := fun z => by
      subst z
      exact (List.nodup_cons.mp nd).1 (List.mem_of_getElem? h1)
    rw [List.zip_cons_cons, List.map_cons, if_neg hk, map_on (List.nodup_cons.mp nd).2 h1]
    rfl
theorem putK_zip {ks : List κ} {ws : List V} {k : κ} {j : Nat} {v : V} (l : ks.length = ws.length) (nd : ks.Nodup) (h : ks[j]? = some k) : putK (ks.zip ws) k v = ks.zip (ws.set j v) := by
  unfold putK
  rw [any_zip l, if_pos (hasK_iff.mpr (List.mem_of_getElem? h)), map_on nd h]
theorem putK_off {ks : List κ} {ws : List V} {k : κ} {v : V} (l : ks.length = ws.length) (h : k ∉ ks) : putK (ks.zip ws) k v = (ks ++ [k]).zip (ws ++ [v]) := by
  unfold putK
  rw [any_zip l, if_neg (by rw [hasK_not.mpr h]; exact Bool.false_ne_true), List.zip_append l]
  rfl
theorem dropK_off : ∀ {ks : List κ} {ws : List V} {k : κ}, k ∉ ks → dropK (ks.zip ws) k = ks.zip ws
  | [], _, _, _ => rfl
  | _ :: _, [], _, _ => rfl
  | k0 :: ks, w :: ws, k, h => by
    have hk : k0 ≠ k := fun z => h (by rw [z]; exact List.mem_cons_self)
    have ih := dropK_off (ks := ks) (ws := ws) fun z => h (List.mem_cons_of_mem _ z)
    unfold dropK at ih ⊢
    rw [List.zip_cons_cons, List.filter_cons, if_pos (by simpa using hk), ih]
theorem dropK_zip : ∀ {ks : List κ} {ws : List V} {k : κ} {j : Nat}, ks.Nodup → ks[j]? = some k → j < ws.length → dropK (ks.zip ws) k = (ks.eraseIdx j).zip (ws.eraseIdx j)
  | [], _, _, _, _, h, _ => by cases h
  | _ :: _, [], _, _, _, _, h => by cases h
  | k0 :: ks, w :: ws, k, 0, nd, h1, _ => by
    cases h1
    have ih := dropK_off (ws := ws) (List.nodup_cons.mp nd).1
    unfold dropK at ih ⊢
    rw [List.zip_cons_cons, List.filter_cons, if_neg (by simp), ih]
    rfl
  | k0 :: ks, w :: ws, k, j + 1, nd, h1, h2 => by
    have hk : k0 ≠ k := fun z => by
      subst z
      exact (List.nodup_cons.mp nd).1 (List.mem_of_getElem? h1)
    have ih := dropK_zip (ws := ws) (List.nodup_cons.mp nd).2 h1 (Nat.lt_of_succ_lt_succ h2)
    unfold dropK at ih ⊢
    rw [List.zip_cons_cons, List.filter_cons, if_pos (by simpa using hk), ih]
    rfl
theorem mergeK_zip : ∀ {ks ks0 : List Key} {ws ws0 : List V}, ks.length = ws.length → ks0.length = ws0.length → (ks0 ++ ks).Nodup → mergeK (ks0.zip ws0) (ks.zip ws) = (ks0 ++ ks).zip (ws0 ++ ws)
  | [], ks0, ws, ws0, l, l0, nd => by
    cases ws with
    | nil => simp [mergeK]
    | cons _ _ => cases l
  | k :: ks, ks0, [], ws0, l, l0, nd => by cases l
  | k :: ks, ks0, w :: ws, ws0, l, l0, nd => by
    show mergeK (putK (ks0.zip ws0) k w) (ks.zip ws) = _
    rw [putK_off l0 fun z => (List.nodup_append.mp nd).2.2 k z k List.mem_cons_self rfl, mergeK_zip (Nat.succ.inj l) (by simp [l0]) (by simpa using nd)]
    simp
end

section
variable {X : Cx} {Q : QT} {pos p : Pos} {ρ : List T} {a b e : Expr}
/-! ### dicts: d[k], k in d, d[k] = v -/
theorem ix_dic (hu : X.A.units + 1 < cLine) : IxR X (fun x y H Q => ∃ d v, x = .ref d ∧ DGet H d y (some v) ∧ Q v H) := by
  intro value slice pins s σ H x y v u Q I rx ry h hs
  obtain ⟨d, w, rfl, g, q⟩ := h
  obtain rfl : v = Value.ref d := rx
  exact PyProof.Rows.tail_any (dict_typeIs I g) PySem.F.slot_dict_getitem.lookup (d_getItem hu I g ry fun w' s3 I3 rw' => ⟨w, H, I3, rw', q⟩) hs
theorem op_din (hu : X.A.units + 1 < cLine) : OpR X (compareOp .In) (fun y x H Q => ∃ d o, x = .ref d ∧ DGet H d y o ∧ Q (.bl o.isSome) H) := by
  intro pins s σ H y x u v Q I ry rx h
  obtain ⟨d, o, rfl, g, q⟩ := h
  obtain rfl : v = Value.ref d := rx
  exact d_in hu I g ry fun s3 I3 => ⟨.bl o.isSome, H, I3, rfl, q⟩
theorem op_dnotin (hu : X.A.units + 1 < cLine) : OpR X (compareOp .NotIn) (fun y x H Q => ∃ d o, x = .ref d ∧ DGet H d y o ∧ Q (.bl (!o.isSome)) H) := by
  intro pins s σ H y x u v Q I ry rx h
  obtain ⟨d, o, rfl, g, q⟩ := h
  obtain rfl : v = Value.ref d := rx
  exact d_notIn hu I g ry fun s3 I3 => ⟨.bl (!o.isSome), H, I3, rfl, q⟩
/-- what a dict of plain keys tells at k -/
theorem dK_get {K : KL} {H : Hp} {o : Bool} {ks : List Key} {xs ts : List T} {w : Option V} {vs : List (Option V)} {k : Key} {j : Nat} {t : T} (rp : Rp K (.dK o ks xs :: ts) (w :: vs) H) (hj : ks[j]? = some k) (ht : xs[j]? = some t) (z : Fz t) :
    ∃ d v, w = some (.ref d) ∧ DGet H d (kV k) (some v) ∧ Rp K (t :: .dK o ks xs :: ts) (some v :: w :: vs) H := by
  obtain ⟨d, ws, e, h, ⟨l, nd⟩, pt⟩ := rp.rdK
  have hw : j < ws.length := by rw [← l]; exact (List.getElem?_eq_some_iff.mp hj).1
  exact ⟨d, ws[j], e, .inl ⟨_, k, h, rfl, (valV_zip nd hj (List.getElem?_eq_getElem hw)).symm⟩, pt.2 _ _ _ ht (List.getElem?_eq_getElem hw) z⟩
theorem dT_get {K : KL} {H : Hp} {o : Bool} {ks : List (List Key)} {xs ts : List T} {w u : Option V} {vs : List (Option V)} {k : List Key} {j : Nat} {t : T} (rp : Rp K (.dT o ks xs :: .tup (k.map keyT) :: ts) (w :: u :: vs) H) (hj : ks[j]? = some k) (ht : xs[j]? = some t) (z : Fz t) :
    ∃ d b v, w = some (.ref d) ∧ u = some (.ref b) ∧ DGet H d (.ref b) (some v) ∧ Rp K (t :: .dT o ks xs :: .tup (k.map keyT) :: ts) (some v :: w :: u :: vs) H := by
  obtain ⟨d, ws, e, h, ⟨l, nd⟩, pt⟩ := rp.rdT
  have hw : j < ws.length := by rw [← l]; exact (List.getElem?_eq_some_iff.mp hj).1
  have e2 : k.map keyT = (k.map kV).map T.v := by rw [List.map_map]; rfl
  obtain ⟨b, eb, hb⟩ := Rp.flU (ws := k.map kV) (by rw [← e2]; exact Rp.tl rp)
  exact ⟨d, b, ws[j], e, eb, .inr ⟨_, k, b, h, rfl, hb, (valV_zip nd hj (List.getElem?_eq_getElem hw)).symm⟩, pt.2 _ _ _ ht (List.getElem?_eq_getElem hw) z⟩
theorem ix_dK {o : Bool} {ks : List Key} {xs : List T} {k : Key} {j : Nat} {t : T} (hu : X.A.units + 1 < cLine) (hj : ks[j]? = some k) (ht : xs[j]? = some t) (z : Fz t) (q : Q t [.dK o ks xs, keyT k]) : OpT X.K (r2 (rIxU X)) [.dK o ks xs, keyT k] Q := t_ix (ix_dic hu) fun L H fr fv vs QV l rp sz kk => by
  obtain ⟨x, y, rfl⟩ := len2 l
  have rp0 : Rp ⟨X.K, L⟩ (.dK o ks xs :: keyT k :: fr) (some x :: some y :: fv) H := rp
  obtain ⟨d, v, e, g, r1⟩ := dK_get rp0 hj ht z
  cases e
  have e0 := Rp.sc_inv (Rp.tl rp0)
  cases e0
  exact ⟨_, _, rfl, d, v, rfl, g, kk _ _ _ H q rfl r1⟩
theorem ix_dT {o : Bool} {ks : List (List Key)} {xs : List T} {k : List Key} {j : Nat} {t : T} (hu : X.A.units + 1 < cLine) (hj : ks[j]? = some k) (ht : xs[j]? = some t) (z : Fz t) (q : Q t [.dT o ks xs, .tup (k.map keyT)]) : OpT X.K (r2 (rIxU X)) [.dT o ks xs, .tup (k.map keyT)] Q := t_ix (ix_dic hu) fun L H fr fv vs QV l rp sz kk => by
  obtain ⟨x, y, rfl⟩ := len2 l
  have rp0 : Rp ⟨X.K, L⟩ (.dT o ks xs :: .tup (k.map keyT) :: fr) (some x :: some y :: fv) H := rp
  obtain ⟨d, b, v, e, eb, g, r1⟩ := dT_get rp0 hj ht z
  cases e
  cases eb
  exact ⟨_, _, rfl, d, v, rfl, g, kk _ _ _ H q rfl r1⟩
theorem mem_isSome {κ : Type} [DecidableEq κ] {ks : List κ} {ws : List V} {k : κ} (l : ks.length = ws.length) : (valV (ks.zip ws) k).isSome = hasK ks k := by
  rw [← valV_any, any_zip l]
theorem c_inK {o : Bool} {ks : List Key} {xs : List T} {k : Key} (hu : X.A.units + 1 < cLine) (q : Q (T.bl (hasK ks k)) [keyT k, .dK o ks xs]) : OpT X.K (r2 (rOp X (compareOp .In))) [keyT k, .dK o ks xs] Q := t_op2 (op_din hu) fun L H fr fv vs QV l rp sz kk => by
  obtain ⟨y, x, rfl⟩ := len2 l
  have rp0 : Rp ⟨X.K, L⟩ (keyT k :: .dK o ks xs :: fr) (some y :: some x :: fv) H := rp
  have e0 := Rp.sc_inv rp0
  cases e0
  obtain ⟨d, ws, e, h, ⟨lk, nd⟩, pt⟩ := (Rp.tl rp0).rdK
  cases e
  refine ⟨_, _, rfl, d, _, rfl, .inl ⟨_, k, h, rfl, rfl⟩, ?_⟩
  rw [mem_isSome lk]
  exact kk _ _ _ H q rfl (Rp.sc _ rp)
theorem c_notInK {o : Bool} {ks : List Key} {xs : List T} {k : Key} (hu : X.A.units + 1 < cLine) (q : Q (T.bl (!hasK ks k)) [keyT k, .dK o ks xs]) : OpT X.K (r2 (rOp X (compareOp .NotIn))) [keyT k, .dK o ks xs] Q := t_op2 (op_dnotin hu) fun L H fr fv vs QV l rp sz kk => by
  obtain ⟨y, x, rfl⟩ := len2 l
  have rp0 : Rp ⟨X.K, L⟩ (keyT k :: .dK o ks xs :: fr) (some y :: some x :: fv) H := rp
  have e0 := Rp.sc_inv rp0
  cases e0
  obtain ⟨d, ws, e, h, ⟨lk, nd⟩, pt⟩ := (Rp.tl rp0).rdK
  cases e
  refine ⟨_, _, rfl, d, _, rfl, .inl ⟨_, k, h, rfl, rfl⟩, ?_⟩
  rw [mem_isSome lk]
  exact kk _ _ _ H q rfl (Rp.sc _ rp)
theorem c_inDT {o : Bool} {ks : List (List Key)} {xs : List T} {k : List Key} (hu : X.A.units + 1 < cLine) (q : Q (T.bl (hasK ks k)) [.tup (k.map keyT), .dT o ks xs]) : OpT X.K (r2 (rOp X (compareOp .In))) [.tup (k.map keyT), .dT o ks xs] Q := t_op2 (op_din hu) fun L H fr fv vs QV l rp sz kk => by
  obtain ⟨y, x, rfl⟩ := len2 l
  have rp0 : Rp ⟨X.K, L⟩ (.tup (k.map keyT) :: .dT o ks xs :: fr) (some y :: some x :: fv) H := rp
  have e2 : k.map keyT = (k.map kV).map T.v := by rw [List.map_map]; rfl
  obtain ⟨b, eb, hb⟩ := Rp.flU (ws := k.map kV) (by rw [← e2]; exact rp0)
  cases eb
  obtain ⟨d, ws, e, h, ⟨lk, nd⟩, pt⟩ := (Rp.tl rp0).rdT
  cases e
  refine ⟨_, _, rfl, d, _, rfl, .inr ⟨_, k, b, h, rfl, hb, rfl⟩, ?_⟩
  rw [mem_isSome lk]
  exact kk _ _ _ H q rfl (Rp.sc _ rp)
theorem c_notInDT {o : Bool} {ks : List (List Key)} {xs : List T} {k : List Key} (hu : X.A.units + 1 < cLine) (q : Q (T.bl (!hasK ks k)) [.tup (k.map keyT), .dT o ks xs]) : OpT X.K (r2 (rOp X (compareOp .NotIn))) [.tup (k.map keyT), .dT o ks xs] Q := t_op2 (op_dnotin hu) fun L H fr fv vs QV l rp sz kk => by
  obtain ⟨y, x, rfl⟩ := len2 l
  have rp0 : Rp ⟨X.K, L⟩ (.tup (k.map keyT) :: .dT o ks xs :: fr) (some y :: some x :: fv) H := rp
  have e2 : k.map keyT = (k.map kV).map T.v := by rw [List.map_map]; rfl
  obtain ⟨b, eb, hb⟩ := Rp.flU (ws := k.map kV) (by rw [← e2]; exact rp0)
  cases eb
  obtain ⟨d, ws, e, h, ⟨lk, nd⟩, pt⟩ := (Rp.tl rp0).rdT
  cases e
  refine ⟨_, _, rfl, d, _, rfl, .inr ⟨_, k, b, h, rfl, hb, rfl⟩, ?_⟩
  rw [mem_isSome lk]
  exact kk _ _ _ H q rfl (Rp.sc _ rp)

/-! ### a new dict -/
theorem w_dnew (q : Q (.dK true [] []) ρ) : W X (.Dict [] [] pos) ρ Q := by
  refine w_op (es := []) (r := fun vs H Q => ∀ p, H p = none → Q (.ref p) (upd H p (.dK []))) (fun σ H QV h => U_of pe_dnewK (fun p hp => ?_)) (wa_nil ?_)
  · exact h p hp
  · intro L H fr fv vs QV l rp sz k p hp
    cases vs with
    | cons _ _ => cases l
    | nil =>
      have r1 := Rp.new (.dK []) rp hp
      have r2 := Rp.fillK (ks := []) (ts := []) (vs := []) (us := fr) (ws := fv) r1 rfl rfl .nil
      have e : upd (upd H p (.dK [])) p (.dK ([].zip [])) = upd H p (.dK []) := by
        funext a
        unfold upd
        by_cases c : a = p <;> simp [c]
      rw [e] at r2
      exact k _ [] _ _ q rfl r2
theorem w_dnewT (q : Q (.dT true [] []) ρ) : W X (.Dict [] [] pos) ρ Q := by
  refine w_op (es := []) (r := fun vs H Q => ∀ p, H p = none → Q (.ref p) (upd H p (.dT []))) (fun σ H QV h => U_of pe_dnewT (fun p hp => ?_)) (wa_nil ?_)
  · exact h p hp
  · intro L H fr fv vs QV l rp sz k p hp
    cases vs with
    | cons _ _ => cases l
    | nil =>
      have r1 := Rp.new (.dT []) rp hp
      have r2 := Rp.fillT (ks := []) (ts := []) (vs := []) (us := fr) (ws := fv) r1 rfl rfl .nil
      have e : upd (upd H p (.dT [])) p (.dT ([].zip [])) = upd H p (.dT []) := by
        funext a
        unfold upd
        by_cases c : a = p <;> simp [c]
      rw [e] at r2
      exact k _ [] _ _ q rfl r2

/-! ### slices -/
def cutL {α : Type} (xs : List α) (lo hi : Option Int) : List α := (xs.drop (HT.sIx xs.length 0 lo)).take (HT.sIx xs.length xs.length hi - HT.sIx xs.length 0 lo)
def rSlU (X : Cx) : V → Option Int → Option Int → Hp → VK → Prop := fun x lo hi H Q => ∃ r, L2.SlR X r ∧ r x lo hi H Q
theorem sl_U : L2.SlR X (rSlU X) := fun pins s σ H x v vl vu lo hi sl Q I rx hs pl pu ⟨r, h, q⟩ => h pins s σ H x v vl vu lo hi sl Q I rx hs pl pu q
/-- what is cut, with its bounds -/
def OpSl (X : Cx) (t : T) (lo hi : Option Int) (Q : T → T → Prop) : Prop := ∀ (L : Lks) (H : Hp) (fr : List T) (fv : List (Option V)) (x : V) (QV : VK), Rp ⟨X.K, L⟩ (t :: fr) (some x :: fv) H → SzOk X.K H →
  (∀ q t' v H', Q q t' → Rp ⟨X.K, L⟩ (q :: t' :: fr) (some v :: some x :: fv) H' → QV v H') → rSlU X x lo hi H QV
def rS (X : Cx) (f : List V → Option (V × Option Int × Option Int)) : List V → Hp → VK → Prop := fun vs H Q => ∃ x lo hi, f vs = some (x, lo, hi) ∧ rSlU X x lo hi H Q
def sl00 : List V → Option (V × Option Int × Option Int)
  | [x] => some (x, none, none)
  | _ => none
def sl10 : List V → Option (V × Option Int × Option Int)
  | [x, .int i] => some (x, some i, none)
  | _ => none
def sl01 : List V → Option (V × Option Int × Option Int)
  | [x, .int i] => some (x, none, some i)
  | _ => none
def sl11 : List V → Option (V × Option Int × Option Int)
  | [x, .int i, .int j] => some (x, some i, some j)
  | _ => none
variable {lo hi : Expr} {p2 : Pos}
theorem w_sl00 (h : WA X [e] ρ fun as ρ1 => OpT X.K (rS X sl00) (resT as ρ1) fun q ts' => Q q (wb as ts' (resR as ρ1))) : W X (.Subscript e (.Slice none none none p2) pos) ρ Q := by
  refine w_op (es := [e]) (fun σ H QV hq => U_of (pe_slice sl_U pe_U po_none po_none) ?_) h
  refine U_imp (show U X e σ H fun x H1 => rS X sl00 [x] H1 QV from hq) fun x H1 hq => ?_
  obtain ⟨x', lo, hi, e, q⟩ := hq
  cases e
  exact q
theorem w_sl10 (h : WA X [e, lo] ρ fun as ρ1 => OpT X.K (rS X sl10) (resT as ρ1) fun q ts' => Q q (wb as ts' (resR as ρ1))) : W X (.Subscript e (.Slice (some lo) none none p2) pos) ρ Q := by
  refine w_op (es := [e, lo]) (fun σ H QV hq => U_of (pe_slice sl_U pe_U (po_some pe_U) po_none) ?_) h
  refine U_imp (show U X e σ H fun x H1 => U X lo σ H1 fun y H2 => rS X sl10 [x, y] H2 QV from hq) fun x H1 hq => ?_
  refine U_imp hq fun y H2 hq => ?_
  obtain ⟨x', l, u, e, q⟩ := hq
  cases y <;> cases e
  exact ⟨_, rfl, q⟩
theorem w_sl01 (h : WA X [e, hi] ρ fun as ρ1 => OpT X.K (rS X sl01) (resT as ρ1) fun q ts' => Q q (wb as ts' (resR as ρ1))) : W X (.Subscript e (.Slice none (some hi) none p2) pos) ρ Q := by
  refine w_op (es := [e, hi]) (fun σ H QV hq => U_of (pe_slice sl_U pe_U po_none (po_some pe_U)) ?_) h
  refine U_imp (show U X e σ H fun x H1 => U X hi σ H1 fun y H2 => rS X sl01 [x, y] H2 QV from hq) fun x H1 hq => ?_
  refine U_imp hq fun y H2 hq => ?_
  obtain ⟨x', l, u, e, q⟩ := hq
  cases y <;> cases e
  exact ⟨_, rfl, q⟩
/-- the end of an operation, behind its operands -/
theorem fin_op {L : Lks} {σ : L2.St} {H : Hp} {fr : List T} {fv : List (Option V)} {as : List Arg} {vs : List V} {ρ1 : List T} {r : List V → Hp → VK → Prop} {QV : VK} (s1 : Stt ⟨X.K, L⟩ (as.map Arg.t ++ ρ1) (vs.map some ++ σ) H fr fv) (ok : ArgsOk σ as vs)
    (q : OpT X.K r (resT as ρ1) fun q ts' => Q q (wb as ts' (resR as ρ1))) (k : ∀ r ρ' v H', Q r ρ' → SzOk X.K H' → Stt ⟨X.K, L⟩ (r :: ρ') (some v :: σ) H' fr fv → QV v H') : r vs H fun v H' => SzOk X.K H' → QV v H' := by
  have la := argsOk_length ok
  have l1 : ρ1.length = σ.length := by
    have := s1.len
    rw [List.length_append, List.length_append, List.length_map, List.length_map] at this
    omega
  have s2 : Rp ⟨X.K, L⟩ (as.map Arg.t ++ (ρ1 ++ fr)) (vs.map some ++ (σ ++ fv)) H := by simpa [List.append_assoc] using s1.rp
  obtain ⟨q1, q2⟩ := res_length as ρ1
  refine q L H _ _ vs _ (by rw [q1, la]) (s2.res ok l1) s1.sz fun t ts' v H2 hq hl h2 z => ?_
  refine k t _ v H2 hq z (.mk' (K := ⟨X.K, L⟩) ?_ (by rw [List.length_cons, List.length_cons, wb_length, q2, l1]) z)
  have l3 : ts'.length = (vs.map some).length := by rw [hl, q1, List.length_map, la]
  have h3 := Rp.back (t3 := [t]) (v3 := [some v]) (t1 := ts') (v1 := vs.map some) (t2 := resR as ρ1) (v2 := σ) h2 l3 (by rw [q2, l1]) rfl
  have h4 := Rp.wb h3 ok (by rw [q2, l1]) (by rw [hl, q1])
  exact Rp.swap (t1 := wb as ts' (resR as ρ1)) (t2 := [t]) (v2 := [some v]) h4 (by rw [wb_length, q2, l1]) rfl
def rS2 (X : Cx) (i j : Int) : List V → Hp → VK → Prop := fun vs H Q => ∃ x, vs = [x] ∧ rSlU X x (some i) (some j) H Q
theorem w_sl11 (h : WA X [e] ρ fun as ρ1 => W X lo ρ1 fun t ρ2 => ∃ i, t = T.int i ∧ W X hi ρ2 fun u ρ3 => ∃ j, u = T.int j ∧ OpT X.K (rS2 X i j) (resT as ρ3) fun q ts' => Q q (wb as ts' (resR as ρ3))) : W X (.Subscript e (.Slice (some lo) (some hi) none p2) pos) ρ Q := by
  intro L σ H fr fv QV st kk
  refine U_sz (U_of (pe_slice sl_U pe_U (po_some pe_U) (po_some pe_U)) ?_)
  refine U_imp (show U X e σ H fun x H1 => U X lo σ H1 fun y H2 => ∃ i, y = .int i ∧ U X hi σ H2 fun z H3 => ∃ j, z = .int j ∧ rSlU X x (some i) (some j) H3 (fun v H' => SzOk X.K H' → QV v H') from ?_) fun x H1 hq => hq
  refine (show UL X [e] σ H fun vs H1 => ∀ x, vs = [x] → U X lo σ H1 fun y H2 => ∃ i, y = .int i ∧ U X hi σ H2 fun z H3 => ∃ j, z = .int j ∧ rSlU X x (some i) (some j) H3 (fun v H' => SzOk X.K H' → QV v H') from ?_) |> fun hq => U_imp hq fun x H1 q => q x rfl
  refine h L σ H fr fv _ st fun as ρ1 vs H1 q ok s1 x ex => ?_
  have la := argsOk_length ok
  have l1 : ρ1.length = σ.length := by
    have := s1.len
    rw [List.length_append, List.length_append, List.length_map, List.length_map] at this
    omega
  have lA : (as.map Arg.t).length = (vs.map some).length := by rw [List.length_map, List.length_map, la]
  have r1 : Rp ⟨X.K, L⟩ (ρ1 ++ (as.map Arg.t ++ fr)) (σ ++ (vs.map some ++ fv)) H1 := Rp.swap (by simpa [List.append_assoc] using s1.rp) lA l1
  refine q L σ H1 (as.map Arg.t ++ fr) (vs.map some ++ fv) _ ⟨l1, r1, s1.sz⟩ fun t ρ2 v H2 q2 s2 => ?_
  obtain ⟨i, rfl, q2⟩ := q2
  have ev := Rp.sc_inv s2.rp
  cases ev
  refine ⟨i, rfl, ?_⟩
  refine q2 L σ H2 (as.map Arg.t ++ fr) (vs.map some ++ fv) _ s2.tail fun u ρ3 w H3 q3 s3 => ?_
  obtain ⟨j, rfl, q3⟩ := q3
  have ev := Rp.sc_inv s3.rp
  cases ev
  refine ⟨j, rfl, ?_⟩
  have s4 := s3.tail
  have r4 : Rp ⟨X.K, L⟩ (as.map Arg.t ++ (ρ3 ++ fr)) (vs.map some ++ (σ ++ fv)) H3 := Rp.swap s4.rp s4.len lA
  have s5 : Stt ⟨X.K, L⟩ (as.map Arg.t ++ ρ3) (vs.map some ++ σ) H3 fr fv := ⟨by rw [List.length_append, List.length_append, lA, s4.len], by simpa [List.append_assoc] using r4, s4.sz⟩
  obtain ⟨x', e, q5⟩ := fin_op s5 ok q3 fun r ρ' v H' a b c => kk r ρ' v H' a c
  rw [ex] at e
  cases e
  exact q5
theorem s_00 {t : T} (h : OpSl X t none none fun q t' => Q q [t']) : OpT X.K (rS X sl00) [t] Q := fun L H fr fv vs QV l rp sz k => by
  obtain ⟨x, rfl⟩ := len1 l
  exact ⟨x, none, none, rfl, h L H fr fv x QV rp sz fun q t' v H' hq r => k _ _ _ _ hq rfl r⟩
theorem s_10 {t : T} {i : Int} (h : OpSl X t (some i) none fun q t' => Q q [t', T.int i]) : OpT X.K (rS X sl10) [t, T.int i] Q := fun L H fr fv vs QV l rp sz k => by
  obtain ⟨x, y, rfl⟩ := len2 l
  have e0 := Rp.sc_inv (Rp.tl (t := t) (ts := T.int i :: fr) (a := some x) (vs := some y :: fv) rp)
  cases e0
  exact ⟨x, some i, none, rfl, h L H (T.int i :: fr) (some (.int i) :: fv) x QV rp sz fun q t' v H' hq r => k _ _ _ _ hq rfl r⟩
theorem s_01 {t : T} {i : Int} (h : OpSl X t none (some i) fun q t' => Q q [t', T.int i]) : OpT X.K (rS X sl01) [t, T.int i] Q := fun L H fr fv vs QV l rp sz k => by
  obtain ⟨x, y, rfl⟩ := len2 l
  have e0 := Rp.sc_inv (Rp.tl (t := t) (ts := T.int i :: fr) (a := some x) (vs := some y :: fv) rp)
  cases e0
  exact ⟨x, none, some i, rfl, h L H (T.int i :: fr) (some (.int i) :: fv) x QV rp sz fun q t' v H' hq r => k _ _ _ _ hq rfl r⟩
theorem s_11 {t : T} {i j : Int} (h : OpSl X t (some i) (some j) fun q t' => Q q [t']) : OpT X.K (rS2 X i j) [t] Q := fun L H fr fv vs QV l rp sz k => by
  obtain ⟨x, rfl⟩ := len1 l
  exact ⟨x, rfl, h L H fr fv x QV rp sz fun q t' v H' hq r => k _ _ _ _ hq rfl r⟩
theorem so_s {z : Str} {lo hi : Option Int} {Q : T → T → Prop} (hz : z.length ≤ sizeLine) (q : Q (T.str (cutS z lo hi)) (T.str z)) : OpSl X (T.str z) lo hi Q := fun L H fr fv x QV rp sz k => by
  have e0 := Rp.sc_inv rp
  cases e0
  exact ⟨_, sl_str, z, rfl, hz, k _ _ _ H q (Rp.sc _ rp)⟩
theorem cut_parts {K : KL} {H : Hp} {xs ts : List T} {ws : List V} {vs : List (Option V)} {lo hi : Option Int} (rp : Rp K (xs ++ ts) (ws.map some ++ vs) H) (l : xs.length = ws.length) : Rp K (cutL xs lo hi ++ ts) ((cutL ws lo hi).map some ++ vs) H ∧ (cutL xs lo hi).length = (cutL ws lo hi).length := by
  have go : ∀ (xs : List T) (ws : List V) (i n : Nat), xs.length = ws.length → Rp K (xs ++ ts) (ws.map some ++ vs) H → Rp K ((xs.drop i).take n ++ ts) (((ws.drop i).take n).map some ++ vs) H := by
    intro xs ws i n l rp
    have h1 : Rp K (xs.take i ++ (xs.drop i ++ ts)) ((ws.take i).map some ++ ((ws.drop i).map some ++ vs)) H := by
      rw [← List.append_assoc, ← List.append_assoc, ← List.map_append, List.take_append_drop, List.take_append_drop]
      exact rp
    have h2 := Rp.drop h1 (by simp [l])
    have h3 : Rp K ((xs.drop i).take n ++ ((xs.drop i).drop n ++ ts)) (((ws.drop i).take n).map some ++ (((ws.drop i).drop n).map some ++ vs)) H := by
      rw [← List.append_assoc, ← List.append_assoc, ← List.map_append, List.take_append_drop, List.take_append_drop]
      exact h2
    have h4 := Rp.swap h3 (by simp [l]) (by simp [l])
    exact Rp.drop h4 (by simp [l])
  refine ⟨?_, ?_⟩
  · unfold cutL
    rw [← l]
    exact go _ _ _ _ l rp
  · unfold cutL
    simp [l]
theorem so_l {o : Bool} {xs : List T} {lo hi : Option Int} {Q : T → T → Prop} (z : FzL xs) (q : Q (.lst true (cutL xs lo hi)) (.lst o xs)) : OpSl X (.lst o xs) lo hi Q := fun L H fr fv x QV rp sz k => by
  obtain ⟨a, ws, e, h, l, r1⟩ := Rp.kidsL rp z
  cases e
  obtain ⟨r2, l2⟩ := cut_parts (lo := lo) (hi := hi) r1 l
  exact ⟨_, sl_list, a, ws, rfl, SqL.of h, fun p hp => k _ _ _ _ q (Rp.newL r2 l2 hp)⟩
theorem cut_all {α : Type} {xs : List α} {lo hi : Option Int} (h : HT.sIx xs.length 0 lo = 0 ∧ HT.sIx xs.length xs.length hi = xs.length) : cutL xs lo hi = xs := by
  unfold cutL
  rw [h.1, h.2]
  simp
theorem so_t {xs : List T} {lo hi : Option Int} {Q : T → T → Prop} (z : FzL xs) (q : Q (.tup (cutL xs lo hi)) (.tup xs)) : OpSl X (.tup xs) lo hi Q := fun L H fr fv x QV rp sz k => by
  obtain ⟨a, ws, e, h, l, r1⟩ := Rp.kidsU rp z
  cases e
  obtain ⟨r2, l2⟩ := cut_parts (lo := lo) (hi := hi) r1 l
  refine ⟨_, sl_tupA, a, ws, rfl, SqT.of h, fun c => ?_, fun _ p hp => k _ _ _ _ q (Rp.newTup r2 l2 hp)⟩
  rw [cut_all (by rw [l]; exact c)] at q
  exact k _ _ _ _ q (Rp.dup rp (fz_tup z))
/-! the places of a slice -/
theorem cutL_to {α : Type} {xs : List α} {n : Nat} : cutL xs none (some (n : Int)) = xs.take n := by
  unfold cutL
  rw [HT.sIx_none, HT.sIx_nat, List.drop_zero, Nat.sub_zero, ← List.take_take, List.take_length]
theorem cutL_from {α : Type} {xs : List α} {n : Nat} : cutL xs (some (n : Int)) none = xs.drop n := by
  unfold cutL
  rw [HT.sIx_none, HT.sIx_nat]
  by_cases h : n ≤ xs.length
  · rw [Nat.min_eq_left h]
    exact List.take_of_length_le (by simp)
  · rw [Nat.min_eq_right (by omega)]
    simp
    omega
end
end DL

namespace DL
open PySem PySem.Spec L2

section
variable {X : Cx} {Q : QT} {pos p px : Pos} {ρ : List T} {a b e idx : Expr} {es : List Expr}
/-! ### parts as operands -/
abbrev prT : V → Hp → Prop := fun _ _ => True
theorem wa_R {Q : List Arg → List T → Prop} (h : WR X e prT ρ fun a ρ1 => WA X es ρ1 fun as ρ2 => Q (a :: as) ρ2) : WA X (e :: es) ρ Q := by
  intro L σ H fr fv QV st kk
  refine h L σ H fr fv _ st fun a ρ1 v H1 q ok pv s1 => ?_
  have l1 : ρ1.length = σ.length := Nat.succ.inj s1.len
  have s2 : Rp ⟨X.K, L⟩ (ρ1 ++ (a.t :: fr)) (σ ++ (some v :: fv)) H1 := Rp.swap (t1 := [a.t]) (v1 := [some v]) s1.rp rfl l1
  refine q L σ H1 (a.t :: fr) (some v :: fv) _ ⟨l1, s2, s1.sz⟩ fun as ρ2 vs H2 q2 ok2 s3 => ?_
  exact kk (a :: as) ρ2 (v :: vs) H2 q2 ⟨v, vs, rfl, ok, ok2⟩ ⟨congrArg Nat.succ s3.len, Rp.swap (t1 := as.map Arg.t ++ ρ2) (t2 := [a.t]) (v2 := [some v]) s3.rp s3.len rfl, s3.sz⟩
/-- the j-th part of what the i-th slot holds -/
theorem kid_at {L : Lks} {σ : L2.St} {H : Hp} {fr : List T} {fv : List (Option V)} {i j : Nat} {t u : T} (st : Stt ⟨X.K, L⟩ ρ σ H fr fv) (hρ : ρ[i]? = some t) (m : t.mine = true) (hj : t.kids[j]? = some u) :
    ∃ v y ws, σ[i]? = some (some y) ∧ KidV H t y ws ∧ t.kids.length = ws.length ∧ ws[j]? = some v ∧ Stt ⟨X.K, L⟩ (u :: ρ.set i (t.withKids (t.kids.set j (.v v)))) (some v :: σ) H fr fv := by
  obtain ⟨y, hy⟩ := slot_some st hρ (fun z => by rw [z] at m; cases m)
  have h1 := st.rp.take st.len hy
  rw [getD_of hρ] at h1
  obtain ⟨v, y', ws, e, kv, kl, ev, h2⟩ := Rp.kidOut h1 m hj
  cases e
  refine ⟨v, y, ws, hy, kv, kl, ev, ⟨by rw [List.length_cons, List.length_cons, List.length_set, st.len], ?_, st.sz⟩⟩
  have hil : i < ρ.length := (List.getElem?_eq_some_iff.mp hρ).1
  have h3 := Rp.swap (t1 := [u]) (v1 := [some v]) (t2 := [t.withKids (t.kids.set j (.v v))]) (v2 := [some y]) h2 rfl rfl
  have h4 : Rp ⟨X.K, L⟩ (t.withKids (t.kids.set j (.v v)) :: (ρ.set i .gone ++ (u :: fr))) (some y :: (σ ++ (some v :: fv))) H := by
    have a1 : Rp ⟨X.K, L⟩ ([t.withKids (t.kids.set j (.v v))] ++ ([u] ++ (ρ.set i .gone ++ fr))) ([some y] ++ ([some v] ++ (σ ++ fv))) H := h3
    have a2 := Rp.swap a1 rfl rfl
    have a3 : Rp ⟨X.K, L⟩ ([u] ++ (([t.withKids (t.kids.set j (.v v))] ++ ρ.set i .gone) ++ fr)) ([some v] ++ (([some y] ++ σ) ++ fv)) H := by simpa using a2
    have a4 := Rp.swap a3 rfl (by simp [st.len])
    simpa using a4
  have h5 := h4.put (by rw [List.length_set, st.len]) (by rw [List.length_set]; exact hil)
  rw [set_getD hy, List.set_set] at h5
  exact Rp.swap (t1 := ρ.set i (t.withKids (t.kids.set j (.v v)))) (v1 := σ) (t2 := [u]) (v2 := [some v]) h5 (by rw [List.length_set, st.len]) rfl
theorem wr_subL {pr : V → Hp → Prop} {Q : Arg → List T → Prop} (pT : T → Prop) (hp : ∀ (L : Lks) t v ts vs H, pT t → Rp ⟨X.K, L⟩ (t :: ts) (some v :: vs) H → pr v H) (i : Nat) {x : Str} {t0 : T} (hρ : ρ[i]? = some t0) (ht0 : t0 ≠ .gone)
    (h : W X idx ρ fun t ρ1 => ∃ k xs j u, t = T.int k ∧ ρ1[i]? = some (.lst true xs) ∧ ixN xs.length k = some j ∧ xs[j]? = some u ∧ pT u ∧ ∀ v, Q (.sub u v i j) (ρ1.set i (.lst true (xs.set j (.v v)))))
    (hs : PlainIx idx := by exact fun _ _ => rfl) (hN : X.N[i]? = some x := by rfl)
    (hv : Vis X.env.scope x := by first | exact Or.inl rfl | exact Or.inr (Or.inl rfl) | exact Or.inr (Or.inr rfl)) (hd : (x == ("__debug__" : Str)) = false := by decide) (hcd : (x == ("__classdict__" : Str)) = false := by decide) :
    WR X (.Subscript (.Name x px) idx pos) pr ρ Q := fun L σ H fr fv QV st kk => by
  obtain ⟨y, hy⟩ := slot_some st hρ ht0
  refine U_of (pe_ix ix_list (pe_var hN hv hd hcd) pe_U hs) ⟨y, hy, ?_⟩
  refine h L σ H fr fv _ st fun t ρ1 w H1 q s1 => ?_
  obtain ⟨k, xs, j, u, rfl, h1, h2, h3, h4, h5⟩ := q
  have ew := Rp.sc_inv s1.rp
  cases ew
  obtain ⟨v, y', ws, hy', kv, kl, ev, s2⟩ := kid_at s1.tail h1 rfl h3
  rw [hy] at hy'
  cases hy'
  obtain ⟨p, rfl, hq⟩ : ∃ p, y = .ref p ∧ H1 p = some (.lst ws) := by
    exact kv
  refine ⟨p, ws, k, v, rfl, rfl, SqL.of hq, ?_, kk _ _ v H1 (h5 v) rfl (hp L u v _ _ H1 h4 s2.rp) s2⟩
  unfold atI
  rw [← show xs.length = ws.length from kl, h2]
  exact ev
end
end DL

namespace DL
open PySem PySem.Spec L2
open PyProof.Rows (envOfC)

/-! ### branches -/
theorem if2 {A B : Prop} {b : Bool} (h1 : b = true → A) (h0 : b = false → B) : if b = true then A else B := by
  cases b
  · rw [if_neg Bool.false_ne_true]; exact h0 rfl
  · rw [if_pos rfl]; exact h1 rfl
theorem ifd {A B p : Prop} [Decidable p] (h1 : p → A) (h0 : ¬ p → B) : if decide p = true then A else B := by
  by_cases h : p
  · rw [if_pos (decide_eq_true h)]; exact h1 h
  · rw [if_neg (by simpa using h)]; exact h0 h
theorem ifnd {A B p : Prop} [Decidable p] (h0 : ¬ p → A) (h1 : p → B) : if (!decide p) = true then A else B := by
  by_cases h : p
  · rw [if_neg (by simp [h])]; exact h1 h
  · rw [if_pos (by simp [h])]; exact h0 h
theorem ifT {A B : Prop} {b : Bool} (e : b = true) (h : A) : if b = true then A else B := by rw [if_pos e]; exact h
theorem ifF {A B : Prop} {b : Bool} (e : b = false) (h : B) : if b = true then A else B := by rw [if_neg (by rw [e]; exact Bool.false_ne_true)]; exact h

/-! ### what is told of a kind of data, for == -/
structure Enc {α : Type} [DecidableEq α] (f : α → T) (ok : α → Prop) where
  pd : α → PyData
  n : Nat
  pdT : ∀ x, DL.pdT (f x) = some (pd x)
  lay : ∀ x, ok x → (pd x).canLay0 = true
  dep : ∀ x, (pd x).depth ≤ n
  eq : ∀ x y, PyData.eqv (pd x) (pd y) = decide (x = y)
section
variable {α : Type} [DecidableEq α] {f : α → T} {ok : α → Prop}
theorem Enc.shaped (E : Enc f ok) (hn : E.n ≤ 64) {x : α} (h : ok x) : SeqAt.shaped (E.pd x) = true := by
  unfold SeqAt.shaped
  rw [E.lay x h, Bool.true_and]
  exact decide_eq_true (Nat.le_trans (E.dep x) hn)
def encInt : Enc T.int (fun _ => True) := ⟨PyData.int, 0, fun _ => by unfold pdT; rfl, fun _ _ => by unfold PyData.canLay0; rfl, fun _ => by unfold PyData.depth; exact Nat.le_refl _, fun x y => by unfold PyData.eqv; exact rfl⟩
def encBl : Enc T.bl (fun _ => True) := ⟨PyData.bool, 0, fun _ => by unfold pdT; rfl, fun _ _ => by unfold PyData.canLay0; rfl, fun _ => by unfold PyData.depth; exact Nat.le_refl _, fun x y => by unfold PyData.eqv; cases x <;> cases y <;> rfl⟩
def sOk (x : Str) : Prop := PyData.strOk x = true
theorem str_beq (x y : Str) : (x == y) = decide (x = y) := by
  by_cases h : x = y
  · subst h; simp
  · rw [decide_eq_false h]
    exact beq_eq_false_iff_ne.mpr h
def encStr : Enc T.str sOk := ⟨PyData.str, 0, fun _ => by unfold pdT; rfl, fun _ h => by unfold PyData.canLay0; exact h, fun _ => by unfold PyData.depth; exact Nat.le_refl _, fun x y => by unfold PyData.eqv; exact str_beq x y⟩
theorem pdL_map (E : Enc f ok) : ∀ (xs : List α), pdL (xs.map f) = some (xs.map E.pd)
  | [] => by unfold pdL; rfl
  | x :: xs => by
    rw [List.map_cons]
    unfold pdL
    rw [E.pdT x, pdL_map E xs]
    rfl
theorem layAll (E : Enc f ok) : ∀ (xs : List α), (∀ x ∈ xs, ok x) → PyData.canLayAll0 (xs.map E.pd) = true
  | [], _ => by unfold PyData.canLayAll0; rfl
  | x :: xs, h => by
    rw [List.map_cons]
    unfold PyData.canLayAll0
    rw [E.lay x (h x List.mem_cons_self), layAll E xs fun y hy => h y (List.mem_cons_of_mem _ hy)]
    rfl
theorem depAll (E : Enc f ok) : ∀ (xs : List α), PyData.depthAll (xs.map E.pd) ≤ E.n
  | [] => by rw [List.map_nil]; unfold PyData.depthAll; exact Nat.zero_le _
  | x :: xs => by
    rw [List.map_cons]
    unfold PyData.depthAll
    exact Nat.max_le.mpr ⟨E.dep x, depAll E xs⟩
theorem eqvAll_map (E : Enc f ok) : ∀ (xs ys : List α), PyData.eqvAll (xs.map E.pd) (ys.map E.pd) = decide (xs = ys)
  | [], [] => by rw [List.map_nil]; unfold PyData.eqvAll; rfl
  | x :: xs, [] => by rw [List.map_cons, List.map_nil]; unfold PyData.eqvAll; rfl
  | [], y :: ys => by rw [List.map_cons, List.map_nil]; unfold PyData.eqvAll; rfl
  | x :: xs, y :: ys => by
    rw [List.map_cons, List.map_cons]
    unfold PyData.eqvAll
    rw [E.eq, eqvAll_map E xs ys]
    by_cases h1 : x = y <;> by_cases h2 : xs = ys <;> simp [h1, h2]
def encL (E : Enc f ok) (o : Bool) : Enc (fun xs : List α => T.lst o (xs.map f)) (fun xs => ∀ x ∈ xs, ok x) :=
  ⟨fun xs => .list (xs.map E.pd), E.n + 1, fun xs => by unfold pdT; rw [pdL_map E xs]; rfl, fun xs h => by unfold PyData.canLay0; exact layAll E xs h, fun xs => by unfold PyData.depth; exact Nat.succ_le_succ (depAll E xs), fun xs ys => by unfold PyData.eqv; exact eqvAll_map E xs ys⟩
def encU (E : Enc f ok) : Enc (fun xs : List α => T.tup (xs.map f)) (fun xs => ∀ x ∈ xs, ok x) :=
  ⟨fun xs => .tuple (xs.map E.pd), E.n + 1, fun xs => by unfold pdT; rw [pdL_map E xs]; rfl, fun xs h => by unfold PyData.canLay0; exact layAll E xs h, fun xs => by unfold PyData.depth; exact Nat.succ_le_succ (depAll E xs), fun xs ys => by unfold PyData.eqv; exact eqvAll_map E xs ys⟩
def encP {β : Type} [DecidableEq β] {g : β → T} {ok2 : β → Prop} (E : Enc f ok) (G : Enc g ok2) : Enc (fun p : α × β => T.tup [f p.1, g p.2]) (fun p => ok p.1 ∧ ok2 p.2) :=
  ⟨fun p => .tuple [E.pd p.1, G.pd p.2], max E.n G.n + 1, fun p => by
    unfold pdT pdL pdL pdL
    rw [E.pdT, G.pdT]
    rfl, fun p h => by
    unfold PyData.canLay0 PyData.canLayAll0 PyData.canLayAll0 PyData.canLayAll0
    rw [E.lay _ h.1, G.lay _ h.2]
    rfl, fun p => by
    unfold PyData.depth PyData.depthAll PyData.depthAll PyData.depthAll
    have h1 := E.dep p.1
    have h2 := G.dep p.2
    omega, fun p q => by
    unfold PyData.eqv PyData.eqvAll PyData.eqvAll PyData.eqvAll
    rw [E.eq, G.eq]
    obtain ⟨a, b⟩ := p
    obtain ⟨c, d⟩ := q
    by_cases h1 : a = c <;> by_cases h2 : b = d <;> simp [h1, h2]⟩
variable {X : Cx} {Q : QT}
theorem c_eqE (E : Enc f ok) {x y : α} (hu : X.A.units + 64 < cLine) (h1 : ok x) (h2 : ok y) (q : Q (T.bl (decide (x = y))) [f x, f y]) (hn : E.n ≤ 64 := by decide) : OpT X.K (r2 (rOp X (compareOp .Eq))) [f x, f y] Q :=
  c_eqD hu (E.pdT x) (E.pdT y) (E.shaped hn h1) (E.shaped hn h2) (by rw [E.eq]; exact q)
theorem c_neE (E : Enc f ok) {x y : α} (hu : X.A.units + 64 < cLine) (h1 : ok x) (h2 : ok y) (q : Q (T.bl (!decide (x = y))) [f x, f y]) (hn : E.n ≤ 64 := by decide) : OpT X.K (r2 (rOp X (compareOp .NotEq))) [f x, f y] Q :=
  c_neD hu (E.pdT x) (E.pdT y) (E.shaped hn h1) (E.shaped hn h2) (by rw [E.eq]; exact q)
/-- lists, one perhaps owned and the other not -/
theorem c_eqL (E : Enc f ok) {o o2 : Bool} {xs ys : List α} (hu : X.A.units + 64 < cLine) (h1 : ∀ x ∈ xs, ok x) (h2 : ∀ x ∈ ys, ok x) (q : Q (T.bl (decide (xs = ys))) [.lst o (xs.map f), .lst o2 (ys.map f)]) (hn : E.n ≤ 63 := by decide) : OpT X.K (r2 (rOp X (compareOp .Eq))) [.lst o (xs.map f), .lst o2 (ys.map f)] Q :=
  c_eqD hu ((encL E o).pdT xs) ((encL E o2).pdT ys) ((encL E o).shaped (Nat.succ_le_succ hn) h1) ((encL E o2).shaped (Nat.succ_le_succ hn) h2) (by rw [show ∀ a b, PyData.eqv ((encL E o).pd a) ((encL E o2).pd b) = decide (a = b) from (encL E o).eq]; exact q)
theorem c_neL (E : Enc f ok) {o o2 : Bool} {xs ys : List α} (hu : X.A.units + 64 < cLine) (h1 : ∀ x ∈ xs, ok x) (h2 : ∀ x ∈ ys, ok x) (q : Q (T.bl (!decide (xs = ys))) [.lst o (xs.map f), .lst o2 (ys.map f)]) (hn : E.n ≤ 63 := by decide) : OpT X.K (r2 (rOp X (compareOp .NotEq))) [.lst o (xs.map f), .lst o2 (ys.map f)] Q :=
  c_neD hu ((encL E o).pdT xs) ((encL E o2).pdT ys) ((encL E o).shaped (Nat.succ_le_succ hn) h1) ((encL E o2).shaped (Nat.succ_le_succ hn) h2) (by rw [show ∀ a b, PyData.eqv ((encL E o).pd a) ((encL E o2).pd b) = decide (a = b) from (encL E o).eq]; exact q)
/-- against [] -/
theorem c_eqN (E : Enc f ok) {o o2 : Bool} {xs : List α} (hu : X.A.units + 64 < cLine) (h1 : ∀ x ∈ xs, ok x) (q : Q (T.bl (decide (xs = []))) [.lst o (xs.map f), .lst o2 []]) (hn : E.n ≤ 63 := by decide) : OpT X.K (r2 (rOp X (compareOp .Eq))) [.lst o (xs.map f), .lst o2 []] Q :=
  c_eqL (ys := []) E hu h1 (fun _ h => absurd h (List.not_mem_nil)) q hn
theorem c_neN (E : Enc f ok) {o o2 : Bool} {xs : List α} (hu : X.A.units + 64 < cLine) (h1 : ∀ x ∈ xs, ok x) (q : Q (T.bl (!decide (xs = []))) [.lst o (xs.map f), .lst o2 []]) (hn : E.n ≤ 63 := by decide) : OpT X.K (r2 (rOp X (compareOp .NotEq))) [.lst o (xs.map f), .lst o2 []] Q :=
  c_neL (ys := []) E hu h1 (fun _ h => absurd h (List.not_mem_nil)) q hn
end

/-! ### a def, with its slots in plain -/
section
variable {Pg : Program} {w : World} {K : PySem.W.Frag} {mg : Str → Option Value} {base : Heap}
theorem fn_okN {x qual : Str} {st : Stmt} {f : Addr} {fd : FuncData} {N ps : List Str} {k : Nat} {b : BC} (F : Fun K x qual st f fd) (S : FnScope N ps (defScope st)) (P : Nat → Bool) (n : Nat) (gs : List T) (len : ∀ ts Q, b ts Q → ts.length = n)
    (body : ∀ (cdv : Value) (A : Around) (outer : List Env) (s : Shared) (H : Hp) (E : XK) (ts : List T) (Q : QT), Room k (A.deeper (envOfC qual (defScope st) s.heap.objs.size f cdv)) → b ts Q →
      WSs P (cxOf CX0 Pg w K mg base N qual (defScope st) f cdv A outer s H E).nox (defBody st) (ts ++ gs) ⟨fun ρ => Q (.v .non) (maskT P 0 n ρ), fun r ρ => Q r (maskT P 0 n ρ), fun _ => False, fun _ => False⟩)
    (hn : ps.length = n := by rfl) (hg : gs = List.replicate (N.length - ps.length) .gone := by rfl) : FnOk Pg w K mg base CX0 (k + 1) f fd ps (lift K b) := by
  subst hn hg
  exact fn_ok F S P len body
end
theorem putKid_l {ρ : List T} {i j : Nat} {v : V} {u : T} {o : Bool} {xs : List T} (h : ρ[i]? = some (.lst o xs)) (ho : o = true) (hj : xs[j]? = some (.v v)) : putKid ρ i j v u = ρ.set i (.lst o (xs.set j u)) := by
  unfold putKid
  rw [h]
  show (if ((T.lst o xs).mine && isV v xs[j]?) = true then _ else _) = _
  rw [hj, ho]
  show (if (true && decide (v = v)) = true then _ else _) = _
  rw [decide_eq_true rfl]
  rfl
end DL

namespace DL
open PySem PySem.Spec L2
theorem seqIx {n j : Nat} (h : j < n) : seqIndex? (j : Int) n = some j := by
  rw [seqIndex_of (Int.natCast_nonneg _) (by omega), Int.toNat_natCast]
theorem seqIx0 {n : Nat} (h : 0 < n) : seqIndex? 0 n = some 0 := seqIx h
theorem ixN_of {n j : Nat} (h : j < n) : ixN n (j : Int) = some j := by
  unfold ixN
  rw [if_pos (by omega), if_pos (by omega)]
  rfl
theorem atI_of {α : Type} {xs : List α} {j : Nat} {t : α} (h : xs[j]? = some t) : atI xs (j : Int) = some t := by
  have hj := (List.getElem?_eq_some_iff.mp h).1
  unfold atI
  rw [ixN_of hj]
  exact h
theorem atI_int {α : Type} {xs : List α} {i : Int} (h0 : 0 ≤ i) (h : i < xs.length) : ∃ (j : Nat) (t : α), i = (j : Int) ∧ j < xs.length ∧ xs[j]? = some t ∧ atI xs i = some t := by
  obtain ⟨j, rfl⟩ := Int.eq_ofNat_of_zero_le h0
  have hj : j < xs.length := by omega
  exact ⟨j, xs[j], rfl, hj, List.getElem?_eq_getElem hj, atI_of (List.getElem?_eq_getElem hj)⟩
end DL

namespace DL
open PySem PySem.Spec L2

section
variable {X : Cx} {Q : QT} {pos p px : Pos} {ρ : List T} {a b e idx : Expr} {es : List Expr}
/-! ### list(text) -/
theorem sgn_vals {z : Str} {acc : Array Value} (h : ItemsOf (SignAt z) acc z.cps.size) : Vals (z.cps.toList.map fun c => V.str ⟨#[c]⟩) acc.toList := by
  have go : ∀ (n : Nat), n ≤ z.cps.size → Vals ((z.cps.toList.drop (z.cps.size - n)).map fun c => V.str ⟨#[c]⟩) (acc.toList.drop (z.cps.size - n)) := by
    intro n
    induction n with
    | zero =>
      intro _
      have e1 : z.cps.toList.drop (z.cps.size - 0) = [] := by rw [Nat.sub_zero]; simp
      have e2 : acc.toList.drop (z.cps.size - 0) = [] := by rw [Nat.sub_zero, ← h.1]; simp
      rw [e1, e2]
      exact .nil
    | succ n ih =>
      intro hn
      have hj : z.cps.size - (n + 1) < z.cps.toList.length := by simp; omega
      have hj2 : z.cps.size - (n + 1) < acc.toList.length := by simp [h.1]; omega
      have en : z.cps.size - (n + 1) + 1 = z.cps.size - n := by omega
      rw [List.drop_eq_getElem_cons hj, List.drop_eq_getElem_cons hj2, en, List.map_cons]
      refine .cons ?_ (ih (by omega))
      have hs := h.2 (z.cps.size - (n + 1)) (acc.toList[z.cps.size - (n + 1)]) (by simp)
      obtain ⟨c, t, e, ev⟩ := hs
      have ec : z.cps.toList[z.cps.size - (n + 1)] = c := by
        have := e
        simp only [Array.getElem_toList]
        rw [Array.getElem?_eq_some_iff] at this
        exact this.2
      rw [ec]
      exact ⟨t, ev⟩
  have := go z.cps.size (Nat.le_refl _)
  simpa using this
theorem call_list_sgn (hc : X.calm = true) : CallR X (.type "list") (fun xs H Q => ∃ z : Str, xs = [.str z] ∧ z.cps.size ≤ sizeLine ∧ ∀ l, H l = none → Q (.ref l) (upd H l (.lst (z.cps.toList.map fun c => V.str ⟨#[c]⟩)))) := by
  intro pins s σ H xs us Q I r h
  obtain ⟨z, rfl, hz, q⟩ := h
  obtain ⟨u, rfl, t, rfl⟩ := vals1 r
  refine call_list_str (I.ok.hd hc) z t (fun h' tk acc' c' kp e it => ?_) hz
  have rv := sgn_vals it
  exact ⟨.ref s.heap.objs.size, _, I.laid (t' := tk) kp (Nat.le_refl _) (show ObjOk X.prog X.w _ h' _ (.lst _) from ⟨by simpa using hz, acc'.toList, c', rv, by rw [Array.toArray_toList]; exact e⟩), rfl, q _ (I.hok.fresh (Nat.le_refl _))⟩
theorem k_listS {z : Str} (hz : z.cps.size ≤ sizeLine) (q : Q (.lst true (sgnT z)) [T.str z]) (hc : X.calm = true := by rfl) : OpT X.K (rCl X (.type "list")) [T.str z] Q := t_cl (call_list_sgn hc) fun L H fr fv vs QV l rp sz k => by
  obtain ⟨a, rfl⟩ := len1 l
  have e0 := Rp.sc_inv (ts := fr) (o := some a) (vs := fv) rp
  cases e0
  refine ⟨z, rfl, hz, fun p hp => k _ _ _ _ q rfl ?_⟩
  have r1 := Rp.new (.lst (z.cps.toList.map fun c => V.str ⟨#[c]⟩)) rp hp
  have e1 : sgnT z = (z.cps.toList.map fun c => V.str ⟨#[c]⟩).map T.v := by unfold sgnT; rw [List.map_map]; rfl
  have go : ∀ (ws : List V), Rp ⟨X.K, L⟩ (.hole :: (ws.map T.v ++ (T.str z :: fr))) (some (.ref p) :: (ws.map some ++ (some (.str z) :: fv))) (upd H p (.lst (z.cps.toList.map fun c => V.str ⟨#[c]⟩))) := by
    intro ws
    induction ws with
    | nil => exact r1
    | cons w ws ih => exact Rp.snd (Rp.sc w ih)
  have r2 := Rp.fillL (vs := z.cps.toList.map fun c => V.str ⟨#[c]⟩) (go _) (by simp)
  rw [e1]
  have e : upd (upd H p (.lst (z.cps.toList.map fun c => V.str ⟨#[c]⟩))) p (.lst (z.cps.toList.map fun c => V.str ⟨#[c]⟩)) = upd H p (.lst (z.cps.toList.map fun c => V.str ⟨#[c]⟩)) := upd_upd
  rw [e] at r2
  exact r2

/-! ### dict(a list of pairs) -/
def pairT : Key → T → T := fun k t => .tup [keyT k, t]
/-- pairs that wait are opened -/
theorem Rp.unpairs {K : KL} {H : Hp} : ∀ {ks : List Key} {xs us acc : List T} {ws : List V} {vs av : List (Option V)}, ks.length = xs.length → Rp K ((List.zipWith pairT ks xs) ++ (acc ++ us)) (ws.map some ++ (av ++ vs)) H → (List.zipWith pairT ks xs).length = ws.length → acc.length = av.length →
    ∃ (ps : List Addr) (kvs : List (Key × V)), ws = ps.map V.ref ∧ kvs.map (·.1) = ks ∧ Paired (fun p kv => H p = some (.tup [kV kv.1, kv.2])) ps kvs ∧ Rp K (acc ++ (xs ++ us)) (av ++ ((kvs.map (·.2)).map some ++ vs)) H
  | [], [], us, acc, ws, vs, av, _, rp, l, la => by
    cases ws with
    | cons _ _ => cases l
    | nil => exact ⟨[], [], rfl, rfl, .nil, rp⟩
  | [], _ :: _, _, _, _, _, _, l0, _, _, _ => by cases l0
  | _ :: _, [], _, _, _, _, _, l0, _, _, _ => by cases l0
  | k :: ks, x :: xs, us, acc, [], vs, av, l0, rp, l, la => by cases l
  | k :: ks, x :: xs, us, acc, w :: ws, vs, av, l0, rp, l, la => by
    have r0 : Rp K (.tup [keyT k, x] :: (List.zipWith pairT ks xs ++ (acc ++ us))) (some w :: (ws.map some ++ (av ++ vs))) H := rp
    obtain ⟨p, zs, e, hp, lz, r1⟩ := Rp.untup r0
    cases e
    obtain ⟨a, v, rfl⟩ := len2 lz
    have r2 : Rp K (keyT k :: x :: (List.zipWith pairT ks xs ++ (acc ++ us))) (some a :: some v :: (ws.map some ++ (av ++ vs))) H := r1
    have ea := Rp.sc_inv r2
    cases ea
    have r3 := Rp.tl r2
    have l' : (List.zipWith pairT ks xs).length = ws.length := Nat.succ.inj l
    have r4 : Rp K (List.zipWith pairT ks xs ++ ((acc ++ [x]) ++ us)) (ws.map some ++ ((av ++ [some v]) ++ vs)) H := by
      have b1 : Rp K ([x] ++ ((List.zipWith pairT ks xs ++ acc) ++ us)) ([some v] ++ ((ws.map some ++ av) ++ vs)) H := by simpa [List.append_assoc] using r3
      have b2 := Rp.swap b1 rfl (by simp [← l', la])
      simpa [List.append_assoc] using b2
    obtain ⟨ps, kvs, e1, e2, e3, r5⟩ := Rp.unpairs (Nat.succ.inj l0) r4 l' (by simp [la])
    subst e1
    refine ⟨p :: ps, (k, v) :: kvs, rfl, by rw [List.map_cons, e2], .cons hp e3, ?_⟩
    simpa [List.append_assoc] using r5
theorem zipWith_len {ks : List Key} {xs : List T} (l : ks.length = xs.length) : (List.zipWith pairT ks xs).length = ks.length := by simp [l]
theorem fzL_pairs : ∀ {ks : List Key} {xs : List T}, FzL xs → FzL (List.zipWith pairT ks xs)
  | [], xs, _ => by rw [List.zipWith_nil_left]; exact fzL_nil
  | _ :: _, [], _ => by rw [List.zipWith_nil_right]; exact fzL_nil
  | k :: ks, x :: xs, z => by
    rw [List.zipWith_cons_cons]
    unfold FzL at z
    exact fzL_cons (fz_tup (fzL_cons fz_v (fzL_cons z.1 fzL_nil))) (fzL_pairs z.2)
theorem paired_mono {α β : Type} {F G : α → β → Prop} (h : ∀ a b, F a b → G a b) : ∀ {xs : List α} {ys : List β}, Paired F xs ys → Paired G xs ys
  | _, _, .nil => .nil
  | _, _, .cons r t => .cons (h _ _ r) (paired_mono h t)
theorem k_dictP {o : Bool} {ks : List Key} {xs : List T} (l0 : ks.length = xs.length) (nd : ks.Nodup) (z : FzL xs) (q : Q (.dK true ks xs) [.lst o (List.zipWith pairT ks xs)]) (hc : X.calm = true := by rfl) : OpT X.K (rCl X (.type "dict")) [.lst o (List.zipWith pairT ks xs)] Q := t_cl (call_dictP hc) fun L H fr fv vs QV l rp sz k => by
  obtain ⟨a, rfl⟩ := len1 l
  obtain ⟨p, ws, e, h, l2, r2⟩ := Rp.kidsL (o := o) (ts := fr) (w := some a) (vs := fv) rp (fzL_pairs z)
  cases e
  obtain ⟨ps, kvs, rfl, ek, e3, r3⟩ := Rp.unpairs (acc := []) (av := []) l0 r2 l2 rfl
  have lv : ks.length = (kvs.map (·.2)).length := by rw [← ek]; simp
  have ez : ks.zip (kvs.map (·.2)) = kvs := by
    rw [← ek]
    have : ∀ l : List (Key × V), (l.map (·.1)).zip (l.map (·.2)) = l := fun l => by induction l <;> simp_all
    exact this kvs
  have lx : xs.length = (kvs.map (·.2)).length := by rw [← l0, lv]
  refine ⟨p, ps, kvs, rfl, SqL.of h, paired_mono (fun _ _ e => SqT.of e) e3, fun d hd => k _ _ _ _ q rfl ?_⟩
  have em : mergeK [] kvs = ks.zip (kvs.map (·.2)) := by
    have := mergeK_zip (ks := ks) (ks0 := []) (ws := kvs.map (·.2)) (ws0 := []) lv rfl (by simpa using nd)
    rw [List.nil_append, List.nil_append, List.zip_nil_left] at this
    exact (congrArg (mergeK []) ez.symm).trans this
  rw [em]
  have r4 := Rp.fillK (ts := xs) (vs := kvs.map (·.2)) (us := .lst o (List.zipWith pairT ks xs) :: fr) (ws := some (.ref p) :: fv) (Rp.new (.dK (ks.zip (kvs.map (·.2)))) r3 hd) lx lv nd
  rw [upd_upd] at r4
  exact r4

/-! ### a dict with one pair -/
theorem w_disp1 {kx vx : Expr} (h : W X kx ρ fun t ρ1 => ∃ k, t = keyT k ∧ W X vx ρ1 fun u ρ2 => Q (.dK true [k] [u]) ρ2) : W X (.Dict [some kx] [vx] pos) ρ Q := by
  intro L σ H fr fv QV st kk
  refine U_sz (U_of (pe_disp (pps_cons pe_U pe_U pps_nil) (by rfl) rfl (by simp) (by show 1 ≤ 15; decide)) fun d hd => ?_)
  have r0 : Rp ⟨X.K, L⟩ (.dK true [] [] :: (ρ ++ fr)) (some (.ref d) :: (σ ++ fv)) (upd H d (.dK [])) := by
    have r2 := Rp.fillK (ks := []) (ts := []) (vs := []) (us := ρ ++ fr) (ws := σ ++ fv) (Rp.new (.dK []) st.rp hd) rfl rfl .nil
    rw [upd_upd] at r2
    exact r2
  have r1 : Rp ⟨X.K, L⟩ (ρ ++ (.dK true [] [] :: fr)) (σ ++ (some (.ref d) :: fv)) (upd H d (.dK [])) := Rp.swap (t1 := [.dK true [] []]) (v1 := [some (.ref d)]) r0 rfl st.len
  show U X kx σ (upd H d (.dK [])) fun x H1 => U X vx σ H1 fun y H2 => H2 d = some (.dK []) ∧ ∃ kvs : List (Key × V), [(x, y)] = kvs.map (fun kv => (kV kv.1, kv.2)) ∧ kvs.length ≤ 15 ∧ (SzOk X.K (upd H2 d (.dK (mergeK [] kvs))) → QV (.ref d) (upd H2 d (.dK (mergeK [] kvs))))
  refine U_sz0 fun z0 => ?_
  refine h L σ (upd H d (.dK [])) (.dK true [] [] :: fr) (some (.ref d) :: fv) _ ⟨st.len, r1, z0⟩ fun t ρ1 x H1 q s1 => ?_
  obtain ⟨k, rfl, q⟩ := q
  have ex := Rp.sc_inv s1.rp
  cases ex
  refine q L σ H1 (.dK true [] [] :: fr) (some (.ref d) :: fv) _ s1.tail fun u ρ2 y H2 q2 s2 => ?_
  have r2 : Rp ⟨X.K, L⟩ (.dK true [] [] :: ((u :: ρ2) ++ fr)) (some (.ref d) :: ((some y :: σ) ++ fv)) H2 := Rp.swap (t1 := u :: ρ2) (v1 := some y :: σ) (t2 := [.dK true [] []]) (v2 := [some (.ref d)]) s2.rp s2.len rfl
  obtain ⟨a, vs, e, ⟨h2, l2, _⟩, l3, r3⟩ := r2.openK
  cases e
  have ev : vs = [] := List.eq_nil_of_length_eq_zero l2.symm
  subst ev
  refine ⟨h2, [(k, y)], rfl, by show 1 ≤ 15; decide, fun z => kk _ ρ2 _ _ q2 ⟨s2.len, ?_, z⟩⟩
  exact Rp.fillK (ks := [k]) (ts := [u]) (vs := [y]) (us := ρ2 ++ fr) (ws := σ ++ fv) r3 rfl rfl (by simp)

/-! ### list(d.items()) -/
theorem Rp.repairs {K : KL} {H : Hp} : ∀ {ts : List Addr} {kvs : List (Key × V)} {xs us : List T} {vs : List (Option V)}, Paired (fun (t : Addr) (q : Key × V) => H t = some (.tup [kV q.1, q.2])) ts kvs → xs.length = kvs.length → Rp K (xs ++ us) ((kvs.map (·.2)).map some ++ vs) H →
    Rp K (List.zipWith pairT (kvs.map (·.1)) xs ++ us) ((ts.map V.ref).map some ++ vs) H := by
  intro ts kvs xs us vs pr
  induction pr generalizing xs us vs with
  | nil =>
    intro l rp
    cases xs with
    | cons _ _ => cases l
    | nil => exact rp
  | @cons t q ts kvs h hp ih =>
    intro l rp
    cases xs with
    | nil => cases l
    | cons x xs =>
      have r1 : Rp K ([x] ++ (xs ++ us)) ([some q.2] ++ ((kvs.map (·.2)).map some ++ vs)) H := rp
      have r2 := Rp.swap r1 rfl (by simp [Nat.succ.inj l])
      have r3 := ih (us := [x] ++ us) (vs := [some q.2] ++ vs) (Nat.succ.inj l) r2
      have lz : (List.zipWith pairT (kvs.map (·.1)) xs).length = ((ts.map V.ref).map some).length := by
        have h1 := Paired.length hp
        have h2 := Nat.succ.inj l
        simp [h1, h2]
      have r4 : Rp K ([x] ++ (List.zipWith pairT (kvs.map (·.1)) xs ++ us)) ([some q.2] ++ ((ts.map V.ref).map some ++ vs)) H := Rp.swap r3 lz rfl
      have r5 := Rp.tupOf (ts := [keyT q.1, x]) (ws := [kV q.1, q.2]) (Rp.sc (kV q.1) r4) rfl h
      exact r5
def rItemsR : List V → Hp → VK → Prop := fun vs H Q => ∃ (d : Addr) (kvs : List (Key × V)), vs = [.ref d] ∧ Rd H d (.dK kvs) ∧
  ∀ (H' : Hp) (p : Addr) (ts : List Addr), (∀ b o, H b = some o → H' b = some o) → H p = none → (∀ t ∈ ts, H t = none) → p ∉ ts → H' p = some (.lst (ts.map V.ref)) → Paired (fun (t : Addr) (q : Key × V) => H' t = some (.tup [kV q.1, q.2])) ts kvs → Q (.ref p) H'
theorem U_items {apos cpos : Pos} {σ : L2.St} {H : Hp} {QV : VK} (hq : U X e σ H fun x H1 => rItemsR [x] H1 QV) (hm : X.mg "list" = none) (hc : X.calm = true) (hg : Gl X "list") (hbase : attributeBase e "items" X.env (eval e X.env) = eval e X.env) (hline : (apos.endLine == cpos.line) = true)
    (hs : starEach [.Call (.Attribute e "items" apos) [] [] cpos] X.env = (false, eval (.Call (.Attribute e "items" apos) [] [] cpos) X.env) :: starEach [] X.env) : U X (.Call (.Name "list" p) [.Call (.Attribute e "items" apos) [] [] cpos] [] pos) σ H QV := by
  intro pins s I
  refine wpAny_Call_Name_kw (ld_blt I hg hm (show bootBuiltins "list" = some (.type "list") by decide +kernel) (PyProof.Rows.callWith_type1 ?_ hs rfl))
  rw [hs]
  show wpAny _ _ (spliced ((false, eval (.Call (.Attribute e "items" apos) [] [] cpos) X.env) :: backTo pos (starEach [] X.env))) _ _ s
  refine Calls.spliced_cons (wpAny_Call_method (T := "dict") (id := "dict.items") hbase rfl hline PySem.F.plainAttrs_dict PySem.F.slot_dict_items PySem.F.type_dict_items (thn (hq pins s I) fun u s1 hx => ?_))
  obtain ⟨x, H1, I1, rx, d, kvs, ex, hd, q⟩ := hx
  cases ex
  cases (show u = Value.ref d from rx)
  obtain ⟨hz, hs0, vs, kv, hdo⟩ := dk_rd I1.hok hd
  obtain ⟨ep, hat⟩ := hdo.dictAt
  have ln : kvs.length = vs.length := Paired.length kv
  have J2 : Inv X pins σ H1 { s1 with heap := s1.heap.push { cls := .type "dict_items", data := .fields #[.ref d] } } := I1.kept (t' := s1.toks) fun _ _ c => Heap.get?_push_of_some _ c
  refine ⟨hdo.typeIs, hdo.mapOf.noDict, ?_⟩
  show wpAny _ _ (callWith cpos (.builtin "dict.items") [.ref d] [] []) _ X.xe s1
  refine method_meetsIn PySem.F.slot_dict_items PySem.F.entry_dict_items rfl (PySem.evalArgs_none ⟨rfl, hdo.typeIs, PySem.F.args_dict_items_1 _, _, meets_dict_items (mixKind X.prog X.w) d hs0, ⟨vs, hdo⟩, Calls.spliced_nil ?_⟩)
  refine PySem.W.kdx_call (knd := mixKind X.prog X.w) (kvs := vs) (ep := ep) (I1.ok.hd hc) ⟨_, Heap.get?_push_size _ rfl, rfl, rfl⟩ (hat.push _) (by omega) fun h' tk acc c as a1 a2 a3 a4 a5 => ?_
  obtain ⟨H', k1, k2, k3, k4, k5, k6, J⟩ := LiI.items_laid (tk := tk) J2 hz kv a1 a2 a3 a4 a5
  exact ⟨.ref _, H', J, rfl, q H' _ as k1 k2 k3 k4 k5 k6⟩
theorem w_listItems {apos cpos : Pos} (hm : X.mg "list" = none) (h : WA X [e] ρ fun as ρ1 => OpT X.K rItemsR (resT as ρ1) fun q ts' => Q q (wb as ts' (resR as ρ1)))
    (hc : X.calm = true := by rfl) (hg : Gl X "list" := by rfl) (hbase : attributeBase e "items" X.env (eval e X.env) = eval e X.env := by rfl) (hline : (apos.endLine == cpos.line) = true := by rfl)
    (hs : starEach [.Call (.Attribute e "items" apos) [] [] cpos] X.env = (false, eval (.Call (.Attribute e "items" apos) [] [] cpos) X.env) :: starEach [] X.env := by rfl) : W X (.Call (.Name "list" p) [.Call (.Attribute e "items" apos) [] [] cpos] [] pos) ρ Q :=
  w_op (es := [e]) (r := rItemsR) (fun σ H QV hq => U_items hq hm hc hg hbase hline hs) h
theorem Rp.allKidsD {K : KL} {H : Hp} {o : Bool} {ks : List Key} {xs ts : List T} {w : Option V} {vs : List (Option V)} (rp : Rp K (.dK o ks xs :: ts) (w :: vs) H) (z : FzL xs) : ∃ a ws, w = some (.ref a) ∧ Rd H a (.dK (ks.zip ws)) ∧ ks.length = ws.length ∧ ks.Nodup ∧ xs.length = ws.length ∧ Rp K (xs ++ (.dK o ks xs :: ts)) (ws.map some ++ (w :: vs)) H := by
  obtain ⟨a, ws, e, h, ⟨l, nd⟩, pt⟩ := rp.rdK
  cases e
  refine ⟨a, ws, rfl, h, l, nd, pt.1, Rp.allKids (o := o) (a := a) rp (fun us ys _ r => ?_) z⟩
  obtain ⟨a', ws', e', h', ⟨l', nd'⟩, pt'⟩ := r.rdK
  cases e'
  have e2 : ws = ws' := by
    have ez : ks.zip ws = ks.zip ws' := by
      rcases h with h | ⟨o1, h⟩ <;> rcases h' with h' | ⟨o2, h'⟩
      · exact HO.dK.inj (Option.some.inj (h.symm.trans h'))
      · exact nomatch (Option.some.inj (h.symm.trans h'))
      · exact nomatch (Option.some.inj (h.symm.trans h'))
      · exact HO.dK.inj (HO.frz.inj (Option.some.inj (h.symm.trans h'))).2
    exact zip_inj ez l l'
  rw [e2]
  exact pt'
theorem k_items {o : Bool} {ks : List Key} {xs : List T} (z : FzL xs) (q : ks.length = xs.length → ks.Nodup → Q (.lst true (List.zipWith pairT ks xs)) [.dK o ks xs]) : OpT X.K rItemsR [.dK o ks xs] Q := fun L H fr fv vs QV l rp sz k => by
  obtain ⟨a, rfl⟩ := len1 l
  obtain ⟨d, ws, e, h, l1, nd, l2, r1⟩ := Rp.allKidsD (o := o) (ts := fr) (w := some a) (vs := fv) rp z
  cases e
  refine ⟨d, _, rfl, h, fun H' p ts kp hp ht hn hl hpr => ?_⟩
  have ek : (ks.zip ws).map (·.1) = ks := by rw [List.map_fst_zip (by omega)]
  have ew : (ks.zip ws).map (·.2) = ws := by rw [List.map_snd_zip (by omega)]
  have r2 : Rp ⟨X.K, L⟩ (.hole :: (xs ++ (.dK o ks xs :: fr))) (some (.ref p) :: (ws.map some ++ (some (.ref d) :: fv))) H' := by
    have a1 := Rp.new (.lst (ts.map V.ref)) r1 hp
    refine Rp.ext a1 fun b u e => ?_
    by_cases c : b = p
    · subst c
      rw [upd_same] at e
      rw [← e]; exact hl
    · rw [upd_ne c] at e
      exact kp _ _ e
  have r3 : Rp ⟨X.K, L⟩ (xs ++ ([.hole] ++ (.dK o ks xs :: fr))) (((ks.zip ws).map (·.2)).map some ++ ([some (.ref p)] ++ (some (.ref d) :: fv))) H' := by
    rw [ew]
    exact Rp.swap (t1 := [.hole]) (v1 := [some (.ref p)]) r2 rfl (by simp [l2])
  have r4 := Rp.repairs hpr (by simp [l1, l2]) r3
  rw [ek] at r4
  have lt : (List.zipWith pairT ks xs).length = (ts.map V.ref).length := by
    have h1 := Paired.length hpr
    rw [zipWith_len (by rw [l1, l2]), List.length_map, h1, List.length_zip, l1, Nat.min_self]
  have r5 := Rp.swap r4 (by simp [lt]) rfl
  have r6 := Rp.fillL (ts := List.zipWith pairT ks xs) (vs := ts.map V.ref) (us := .dK o ks xs :: fr) (ws := some (.ref d) :: fv) r5 lt
  refine k _ _ _ _ (q (by rw [l1, l2]) nd) rfl ?_
  have e3 : upd H' p (.lst (ts.map V.ref)) = H' := by
    funext b
    by_cases c : b = p
    · subst c; rw [upd_same, hl]
    · rw [upd_ne c]
  rw [e3] at r6
  exact r6
end
end DL

namespace DL
open PySem PySem.Spec L2
section
variable {X : Cx} {Q : QT} {pos p px kp : Pos} {ρ : List T} {a b e idx : Expr} {es : List Expr} {k : Nat} {f : Addr} {fd : FuncData} {x pn kn : Str} {bc : BC}
/-- f(k = e), the only argument -/
theorem w_callK1 (F : FnOk X.prog X.w X.K X.mg X.base CX0 k f fd [pn] (lift X.K bc)) (hr : Room k X.A) (hm : X.mg x = some (.ref f)) (hk : PySem.W.keepIn X.K (.ref f) = true) (hb : KBinds X.K fd [pn] [pn] (fun us ws => us ++ ws) (fun vs zs => vs ++ zs))
    (h : WA X [e] ρ fun as ρ1 => bc (resT as ρ1) fun q ts' => Q q (wb as ts' (resR as ρ1))) (hg : Gl X x := by rfl) (hdb : (x == ("__debug__" : Str)) = false := by decide)
    (hall : (backToKw pos (keywordEach [⟨some pn, e, kp⟩] X.env)).all (·.1.isSome) = true := by rfl) (hks : (backToKw pos (keywordEach [⟨some pn, e, kp⟩] X.env)).filterMap (·.1) = [pn] := by rfl)
    (hpl : ((backTo pos (starEach [] X.env)).any (·.1) || (backToKw pos (keywordEach [⟨some pn, e, kp⟩] X.env)).any (·.1.isNone)) = false := by rfl) : W X (.Call (.Name x p) [] [⟨some pn, e, kp⟩] pos) ρ Q := by
  refine w_op (es := [e]) (r := fun vs H Q => lift X.K bc vs H Q E0) (fun σ H QV hq pins s I => ?_) (?_ : WA X [e] ρ _)
  · refine wpAny_Call_Name_kw (ld_glob I hg hm ?_ hdb)
    refine PySem.W.callWith_KW0 (h₀ := X.base) I.ok.mod.kin hk hall (thn ((pk_cons (kpos := kp) (nm := some pn) (pe_U (e := e)) pk_nil).run pos pins s σ H _ I hq) fun ws s2 hz => ?_) hpl
    obtain ⟨zs, H2, I2, rz, q2⟩ := hz
    refine ⟨I2.kIn, ?_⟩
    rw [hks]
    exact run_fnk (us := []) (vs := []) F hr hb pass0 I2 .nil rz q2
  · exact fun L σ H fr fv QV st kk => h L σ H fr fv QV st fun as ρ' vs H' q => kk as ρ' vs H' (t_lift q)
theorem kbinds1 {K : PySem.W.Frag} {x qual : Str} {st : Stmt} (F : Fun K x qual st f fd)
    (h : ∀ (kV doc pm : Value) (an : Option Addr) (cdv ct u : Value), bindArgs (PySem.W.fnOf x qual (defArgs st) (defBody st) (defScope st) .none kV doc pm an cdv ct) ⟨[], [(pn, u)]⟩ = pure [(pn, u)] ∧ bindArgs (PySem.W.fnOf x qual (defArgs st) (defBody st) (defScope st) .none kV doc pm an cdv ct) ⟨[u], []⟩ = pure [(pn, u)]) : KBinds K fd [pn] [pn] (fun us ws => us ++ ws) (fun vs zs => vs ++ zs) := by
  obtain ⟨oc, od, kV, doc, pm, an, cdv, ct, osl, rfl, lk, hcd⟩ := F.ex
  refine ⟨fun s us ws _ hl => ?_, fun r1 r2 => r1.append r2⟩
  match us, ws, hl with
  | [u], [], _ => exact .of_eq (h kV doc pm an cdv ct u).2
  | [], [u], _ => exact .of_eq (h kV doc pm an cdv ct u).1
end
end DL

namespace DL
open PySem PySem.Spec L2
section
variable {X : Cx} {tg iter elt cd : Expr} {ifs : List Expr} {ρ : List T} {pos : Pos} {scope : Scope} {own : List (Str × Nat)} {Q : QT}
theorem filterMap_take {α β : Type} {g : α → Option β} : ∀ {xs : List α} {i : Nat} {t : α}, xs[i]? = some t → (xs.take (i + 1)).filterMap g = (xs.take i).filterMap g ++ (g t).toList := by
  intro xs i t h
  have hi := (List.getElem?_eq_some_iff.mp h).1
  have ht := (List.getElem?_eq_some_iff.mp h).2
  rw [List.take_succ_eq_append_getElem hi, List.filterMap_append, ht]
  cases e : g t <;> simp [e]
theorem map_take {α β : Type} {g : α → β} {xs : List α} {i : Nat} {t : α} (h : xs[i]? = some t) : (xs.take (i + 1)).map g = (xs.take i).map g ++ [g t] := by
  have hi := (List.getElem?_eq_some_iff.mp h).1
  have ht := (List.getElem?_eq_some_iff.mp h).2
  rw [List.take_succ_eq_append_getElem hi, List.map_append, ht]
  rfl
theorem WG.imp {P : Nat → Bool} {t : T} {Q Q' : List T → Prop} (h : WG P X tg t ρ Q) (k : ∀ ρ, Q ρ → Q' ρ) : WG P X tg t ρ Q' := fun L σ H fr fv v QV s k2 => h L σ H fr fv v QV s fun ρ3 σ3 H3 q3 p3 s3 => k2 ρ3 σ3 H3 (k _ q3) p3 s3
theorem WI.imp {Q Q' : List T → List T → Prop} (h : WI X tg iter ρ Q) (k : ∀ xs ρ, Q xs ρ → Q' xs ρ) : WI X tg iter ρ Q' := fun L σ H fr fv R st k2 => h L σ H fr fv R st fun xs ρ1 J H1 ps pvs L' q => k2 xs ρ1 J H1 ps pvs L' (k _ _ q)
theorem wts0 {Q : Bool → List T → Prop} (h : Q true ρ) : WTs X [] ρ Q := h
/-- a comprehension without conditions -/
theorem lcp_iv (ws : List Nat) (h : WI X tg iter ρ fun (xs ρ1 : List T) => ∃ Iv : Nat → List T → List T → Prop, Iv 0 [] (wipeT ρ1 ws) ∧
      (∀ (i : Nat) (t : T) (acc ρ2 : List T), xs[i]? = some t → Iv i acc ρ2 → ∀ c : Bc, WG (fun j => !ws.contains j) (bk X scope c) tg t ρ2 fun ρ3 => ∀ c : Bc, W (bk X scope c) elt ρ3 fun y ρ5 => Iv (i + 1) (acc ++ [y]) (wipeT ρ5 ws)) ∧
      ∀ acc ρ2, Iv xs.length acc ρ2 → Q (.lst true acc) ρ2) (hw : own.map (·.2) = ws := by rfl) : LcP X tg iter elt [] scope own ρ Q := by
  subst hw
  exact WI.imp h fun xs ρ1 hz => by
    obtain ⟨Iv, h0, h1, h2⟩ := hz
    refine ⟨Iv, h0, fun i t acc ρ2 e iv c => (h1 i t acc ρ2 e iv c).imp fun ρ3 q c2 => ?_, h2⟩
    refine wts0 ?_
    rw [if_pos rfl]
    exact q
/-- each item gives g's answer, the slots stay -/
theorem lcp_map (g : T → T) (ws : List Nat) (h : WI X tg iter ρ fun (xs ρ1 : List T) =>
      (∀ (i : Nat) (t : T), xs[i]? = some t → ∀ c : Bc, WG (fun j => !ws.contains j) (bk X scope c) tg t (wipeT ρ1 ws) fun ρ3 => ∀ c : Bc, W (bk X scope c) elt ρ3 fun y ρ5 => y = g t ∧ wipeT ρ5 ws = wipeT ρ1 ws) ∧
      Q (.lst true (xs.map g)) (wipeT ρ1 ws)) (hw : own.map (·.2) = ws := by rfl) : LcP X tg iter elt [] scope own ρ Q :=
  lcp_iv ws (WI.imp h fun xs ρ1 ⟨h1, h2⟩ => ⟨fun i acc ρ2 => acc = (xs.take i).map g ∧ ρ2 = wipeT ρ1 ws, ⟨rfl, rfl⟩, fun i t acc ρ2 e ⟨ea, er⟩ c => by
    subst er
    exact (h1 i t e c).imp fun ρ3 q c2 => (q c2).imp fun y ρ5 ⟨a, b⟩ => ⟨by rw [map_take e, ea, a], b⟩, fun acc ρ2 ⟨ea, er⟩ => by
    subst er
    rw [List.take_length] at ea
    rw [ea]
    exact h2⟩) hw
/-- with one condition: g tells what is kept -/
theorem lcp_fm (g : T → Option T) (ws : List Nat) (h : WI X tg iter ρ fun (xs ρ1 : List T) =>
      (∀ (i : Nat) (t : T), xs[i]? = some t → ∀ c : Bc, WG (fun j => !ws.contains j) (bk X scope c) tg t (wipeT ρ1 ws) fun ρ3 => ∀ c : Bc, WT (bk X scope c) cd ρ3 fun b ρ4 =>
        if b = true then (∀ c : Bc, W (bk X scope c) elt ρ4 fun y ρ5 => g t = some y ∧ wipeT ρ5 ws = wipeT ρ1 ws) else g t = none ∧ wipeT ρ4 ws = wipeT ρ1 ws) ∧
      Q (.lst true (xs.filterMap g)) (wipeT ρ1 ws)) (hw : own.map (·.2) = ws := by rfl) : LcP X tg iter elt [cd] scope own ρ Q := by
  subst hw
  refine WI.imp h fun xs ρ1 ⟨h1, h2⟩ => ⟨fun i acc ρ2 => acc = (xs.take i).filterMap g ∧ ρ2 = wipeT ρ1 (own.map (·.2)), ⟨rfl, rfl⟩, fun i t acc ρ2 e iv c => ?_, fun acc ρ2 iv => ?_⟩
  · obtain ⟨rfl, rfl⟩ := iv
    refine (h1 i t e c).imp fun ρ3 q c2 => (WT.imp (q c2) fun b ρ4 hb => ?_ : WT _ cd ρ3 _)
    cases b with
    | true =>
      rw [if_pos rfl] at hb ⊢
      exact fun c => (hb c).imp fun r ρ' ⟨a1, a2⟩ => ⟨by rw [filterMap_take e, a1]; rfl, a2⟩
    | false =>
      rw [if_neg Bool.false_ne_true] at hb ⊢
      exact ⟨by rw [filterMap_take e, hb.1]; simp, hb.2⟩
  · obtain ⟨rfl, rfl⟩ := iv
    rw [List.take_length]
    exact h2
end
end DL

namespace DL
open PySem PySem.Spec L2
section
variable {X : Cx} {Q : QT}
theorem k_listR {xs : List V} (q : Q (.lst true (xs.map T.v)) [.ro xs]) : OpT X.K (rCl X (.type "list")) [.ro xs] Q := t_cl call_list_of fun L H fr fv vs QV l rp sz k => by
  obtain ⟨a, rfl⟩ := len1 l
  obtain ⟨p, e, h⟩ := Rp.rdR (ts := fr) (w := some a) (vs := fv) rp
  cases e
  refine ⟨p, xs, rfl, .inl h, fun n hn => k _ _ _ _ q rfl ?_⟩
  have r1 := Rp.new (.lst xs) rp hn
  have go : ∀ (ws : List V), Rp ⟨X.K, L⟩ (.hole :: (ws.map T.v ++ (.ro xs :: fr))) (some (.ref n) :: (ws.map some ++ (some (.ref p) :: fv))) (upd H n (.lst xs)) := by
    intro ws
    induction ws with
    | nil => exact r1
    | cons w ws ih => exact Rp.snd (Rp.sc w ih)
  have r2 := Rp.fillL (ts := xs.map T.v) (vs := xs) (us := .ro xs :: fr) (ws := some (.ref p) :: fv) (go xs) (by simp)
  rw [upd_upd] at r2
  exact r2
/-- the law's own call -/
theorem top_sp {K : PySem.W.Frag} {b : BC} {H : Hp} {a : Addr} {ns : List Int} {E : XK} (hS : SqL K H a (ns.map V.int)) (hb : b [.ro (ns.map V.int)] fun r _ => r = T.bl true) : lift K b [.ref a] H (fun v _ => v = .bl true) E := by
  refine ⟨[], [.ro (ns.map V.int)], [], [], _, hb, rfl, ⟨H, [], ⟨some (.ref a), [], [], [], rfl, rfl, .inr ⟨_, rfl, by unfold Own; exact ⟨a, rfl, rfl, hS⟩⟩, rfl, rfl⟩, List.nodup_nil, fun _ h => absurd h List.not_mem_nil, ⟨fun _ _ e => .inl e, fun _ _ _ e => absurd e List.not_mem_nil⟩⟩, fun r ts' v H' q hl' rp => ?_⟩
  subst q
  exact Option.some.inj (Rp.sc_inv rp)
end
end DL

namespace DL
open PySem PySem.Spec L2
/-! ### a list of texts, written out -/
def strsOf : List Expr → Option (List Str)
  | [] => some []
  | .Constant (.str z) _ _ :: es => (strsOf es).map (z :: ·)
  | _ => none
section
variable {X : Cx} {Q : QT} {ρ : List T} {pos : Pos}
theorem paS : ∀ {es : List Expr} {zs : List Str}, strsOf es = some zs → PA X es (UL X es)
  | [], _, _ => pa0
  | .Constant (.str z) k p :: es, zs, h => by
    unfold strsOf at h
    cases e : strsOf es with
    | none => rw [e] at h; cases h
    | some ys => exact paU (paS e)
theorem waS {Q : List Arg → List T → Prop} : ∀ {es : List Expr} {zs : List Str}, strsOf es = some zs → Q (zs.map fun z => Arg.val (T.str z)) ρ → WA X es ρ Q
  | [], zs, h, q => by cases h; exact wa_nil q
  | .Constant (.str z) k p :: es, zs, h, q => by
    unfold strsOf at h
    cases e : strsOf es with
    | none => rw [e] at h; cases h
    | some ys =>
      rw [e] at h
      cases h
      exact wa_val (w_str (waS e q))
theorem res_vals : ∀ (ts : List T), resT (ts.map Arg.val) ρ = ts ∧ resR (ts.map Arg.val) ρ = ρ ∧ ∀ us, wb (ts.map Arg.val) us ρ = ρ
  | [] => ⟨rfl, rfl, fun us => by cases us <;> rfl⟩
  | t :: ts => ⟨congrArg (t :: ·) (res_vals ts).1, (res_vals ts).2.1, fun us => by
    cases us with
    | nil => rfl
    | cons u us => exact (res_vals ts).2.2 us⟩
theorem w_lstS {es : List Expr} {zs : List Str} (h : strsOf es = some zs) (hz : zs.length ≤ sizeLine) (q : Q (.lst true (zs.map T.str)) ρ) : W X (.List es pos) ρ Q := by
  refine w_lst (paS h) (waS h ?_)
  have e : (zs.map fun z => Arg.val (T.str z)) = (zs.map T.str).map Arg.val := by rw [List.map_map]; rfl
  obtain ⟨e1, e2, e3⟩ := res_vals (ρ := ρ) (zs.map T.str)
  rw [e, e1, e2]
  refine d_lst (by rw [List.length_map]; exact hz) ?_
  rw [e3]
  exact q
end
end DL

/-! FL: defs as plain functions on trees. A def's body is told by a Lean function (M, MS, ..) made of the pieces below; each piece has a theorem (tr_..) that the text does what the function says. -/
namespace DL
open PySem PySem.Spec L2

def _root_.Option.bd {α β : Type} (o : Option α) (f : α → Option β) : Option β := match o with
  | some x => f x
  | none => none
@[simp] theorem bd_some {α β : Type} {x : α} {f : α → Option β} : (some x).bd f = f x := rfl
@[simp] theorem bd_none {α β : Type} {f : α → Option β} : (none : Option α).bd f = none := rfl
theorem bd_congr {α β : Type} {o o' : Option α} {f : α → Option β} (h : o = o') : o.bd f = o'.bd f := by rw [h]
def szB (n : Nat) : Bool := decide (n ≤ 16777216)
theorem szB_ok {n : Nat} (h : szB n = true) : n ≤ sizeLine := by rw [sizeLine_eq]; exact of_decide_eq_true h
def gd {α : Type} (b : Bool) (x : Option α) : Option α := if b then x else none
theorem gd_some {α : Type} {b : Bool} {x : Option α} {y : α} (h : gd b x = some y) : b = true ∧ x = some y := by
  cases b with
  | true => exact ⟨rfl, h⟩
  | false => cases h
@[simp] theorem gd_true {α : Type} {x : Option α} : gd true x = x := rfl
theorem gd_of {α : Type} {b : Bool} {x : Option α} (h : b = true) : gd b x = x := by rw [h]; rfl
abbrev M := List T → Option (T × List T)
abbrev MT := List T → Option (Bool × List T)
abbrev MA := List T → Option (List Arg × List T)
abbrev Op := List T → Option (T × List T)
inductive Out where
  | nx
  | rt (t : T)
  | bk
  | ct
abbrev MS := List T → Option (Out × List T)
abbrev MG := T → List T → Option (List T)
abbrev MI := List T → Option (List T × List T)

structure TrE (X : Cx) (e : Expr) (m : M) : Prop where
  run : ∀ ρ t ρ', m ρ = some (t, ρ') → ∀ Q : QT, Q t ρ' → W X e ρ Q
instance {X : Cx} {e : Expr} {m : M} : CoeFun (TrE X e m) (fun _ => ∀ ρ t ρ', m ρ = some (t, ρ') → ∀ Q : QT, Q t ρ' → W X e ρ Q) := ⟨TrE.run⟩
structure TrT (X : Cx) (e : Expr) (m : MT) : Prop where
  run : ∀ ρ b ρ', m ρ = some (b, ρ') → ∀ Q : Bool → List T → Prop, Q b ρ' → WT X e ρ Q
instance {X : Cx} {e : Expr} {m : MT} : CoeFun (TrT X e m) (fun _ => ∀ ρ b ρ', m ρ = some (b, ρ') → ∀ Q : Bool → List T → Prop, Q b ρ' → WT X e ρ Q) := ⟨TrT.run⟩
structure TrW (X : Cx) (e : Expr) (m : MT) : Prop where
  run : ∀ ρ b ρ', m ρ = some (b, ρ') → ∀ Q : Bool → List T → Prop, Q b ρ' → WW X e ρ Q
instance {X : Cx} {e : Expr} {m : MT} : CoeFun (TrW X e m) (fun _ => ∀ ρ b ρ', m ρ = some (b, ρ') → ∀ Q : Bool → List T → Prop, Q b ρ' → WW X e ρ Q) := ⟨TrW.run⟩
structure TrA (X : Cx) (es : List Expr) (m : MA) : Prop where
  run : ∀ ρ as ρ', m ρ = some (as, ρ') → ∀ Q : List Arg → List T → Prop, Q as ρ' → WA X es ρ Q
instance {X : Cx} {es : List Expr} {m : MA} : CoeFun (TrA X es m) (fun _ => ∀ ρ as ρ', m ρ = some (as, ρ') → ∀ Q : List Arg → List T → Prop, Q as ρ' → WA X es ρ Q) := ⟨TrA.run⟩
structure TrO (K : PySem.W.Frag) (r : List V → Hp → VK → Prop) (f : Op) : Prop where
  run : ∀ ts t ts', f ts = some (t, ts') → ∀ Q : QT, Q t ts' → OpT K r ts Q
instance {K : PySem.W.Frag} {r : List V → Hp → VK → Prop} {f : Op} : CoeFun (TrO K r f) (fun _ => ∀ ts t ts', f ts = some (t, ts') → ∀ Q : QT, Q t ts' → OpT K r ts Q) := ⟨TrO.run⟩
def okD (D : DT) : Out → List T → Prop
  | .nx, ρ => D.nx ρ
  | .rt t, ρ => D.rt t ρ
  | .bk, ρ => D.bk ρ
  | .ct, ρ => D.ct ρ
structure TrS (P : Nat → Bool) (X : Cx) (st : Stmt) (m : MS) : Prop where
  run : ∀ ρ o ρ', m ρ = some (o, ρ') → ∀ D : DT, okD D o ρ' → WS P X st ρ D
instance {P : Nat → Bool} {X : Cx} {st : Stmt} {m : MS} : CoeFun (TrS P X st m) (fun _ => ∀ ρ o ρ', m ρ = some (o, ρ') → ∀ D : DT, okD D o ρ' → WS P X st ρ D) := ⟨TrS.run⟩
structure TrSs (P : Nat → Bool) (X : Cx) (sts : List Stmt) (m : MS) : Prop where
  run : ∀ ρ o ρ', m ρ = some (o, ρ') → ∀ D : DT, okD D o ρ' → WSs P X sts ρ D
instance {P : Nat → Bool} {X : Cx} {sts : List Stmt} {m : MS} : CoeFun (TrSs P X sts m) (fun _ => ∀ ρ o ρ', m ρ = some (o, ρ') → ∀ D : DT, okD D o ρ' → WSs P X sts ρ D) := ⟨TrSs.run⟩
structure TrG (P : Nat → Bool) (X : Cx) (tg : Expr) (g : MG) : Prop where
  run : ∀ t ρ ρ', g t ρ = some ρ' → ∀ Q : List T → Prop, Q ρ' → WG P X tg t ρ Q
instance {P : Nat → Bool} {X : Cx} {tg : Expr} {g : MG} : CoeFun (TrG P X tg g) (fun _ => ∀ t ρ ρ', g t ρ = some ρ' → ∀ Q : List T → Prop, Q ρ' → WG P X tg t ρ Q) := ⟨TrG.run⟩
structure TrGs (P : Nat → Bool) (X : Cx) (tgs : List Expr) (g : List T → List T → Option (List T)) : Prop where
  run : ∀ ts ρ ρ', g ts ρ = some ρ' → ∀ Q : List T → Prop, Q ρ' → WGs P X tgs ts ρ Q
instance {P : Nat → Bool} {X : Cx} {tgs : List Expr} {g : List T → List T → Option (List T)} : CoeFun (TrGs P X tgs g) (fun _ => ∀ ts ρ ρ', g ts ρ = some ρ' → ∀ Q : List T → Prop, Q ρ' → WGs P X tgs ts ρ Q) := ⟨TrGs.run⟩
structure TrI (X : Cx) (tg iter : Expr) (m : MI) : Prop where
  run : ∀ ρ xs ρ', m ρ = some (xs, ρ') → ∀ Q : List T → List T → Prop, Q xs ρ' → WI X tg iter ρ Q
instance {X : Cx} {tg iter : Expr} {m : MI} : CoeFun (TrI X tg iter m) (fun _ => ∀ ρ xs ρ', m ρ = some (xs, ρ') → ∀ Q : List T → List T → Prop, Q xs ρ' → WI X tg iter ρ Q) := ⟨TrI.run⟩

/-! ### slots -/
def ng : T → Option T
  | .gone => none
  | t => some t
theorem ng_some {t u : T} (h : ng t = some u) : u = t ∧ t ≠ .gone := by
  cases t <;> first | (cases h; exact ⟨rfl, nofun⟩) | cases h
@[simp] theorem ng_v {x : V} : ng (.v x) = some (.v x) := rfl
@[simp] theorem ng_lst {o : Bool} {xs : List T} : ng (.lst o xs) = some (.lst o xs) := rfl
@[simp] theorem ng_tup {xs : List T} : ng (.tup xs) = some (.tup xs) := rfl
@[simp] theorem ng_dK {o : Bool} {ks : List Key} {xs : List T} : ng (.dK o ks xs) = some (.dK o ks xs) := rfl
@[simp] theorem ng_dT {o : Bool} {ks : List (List Key)} {xs : List T} : ng (.dT o ks xs) = some (.dT o ks xs) := rfl
@[simp] theorem ng_ins {o : Bool} {C : Addr} {fs : List Str} {xs : List T} : ng (.ins o C fs xs) = some (.ins o C fs xs) := rfl
@[simp] theorem ng_ro {xs : List V} : ng (.ro xs) = some (.ro xs) := rfl
@[simp] theorem ng_gone : ng .gone = none := rfl
def slot (ρ : List T) (i : Nat) : Option T := (ρ[i]?).bd ng
theorem slot_some' {ρ : List T} {i : Nat} {t : T} (h : slot ρ i = some t) : ρ[i]? = some t ∧ t ≠ .gone := by
  unfold slot at h
  cases e : ρ[i]? with
  | none => rw [e] at h; cases h
  | some u =>
    rw [e] at h
    obtain ⟨rfl, hn⟩ := ng_some (t := u) (u := t) h
    exact ⟨rfl, hn⟩
@[simp] theorem slot_zero {t : T} {ρ : List T} : slot (t :: ρ) 0 = ng t := rfl
@[simp] theorem slot_succ {t : T} {ρ : List T} {i : Nat} : slot (t :: ρ) (i + 1) = slot ρ i := by unfold slot; rw [List.getElem?_cons_succ]

/-! ### expressions -/
/-- a constant -/
def mC (v : V) : M := fun ρ => some (.v v, ρ)
/-- what a name holds, from now on still -/
def mNm (i : Nat) : M := fun ρ => (slot ρ i).bd fun t => some (fz t, ρ.set i (fz t))
/-- .. taken from there -/
def mMv (i : Nat) : M := fun ρ => (slot ρ i).bd fun t => some (t, ρ.set i .gone)
/-- made still -/
def mFz (m : M) : M := fun ρ => (m ρ).bd fun p => some (fz p.1, p.2)
def aNil : MA := fun ρ => some ([], ρ)
def aVal (m : M) (r : MA) : MA := fun ρ => (m ρ).bd fun p => (r p.2).bd fun q => some (.val p.1 :: q.1, q.2)
def aAt (i : Nat) (r : MA) : MA := fun ρ => (slot ρ i).bd fun _ => (r ρ).bd fun q => some (.at i :: q.1, q.2)
def mOp (a : MA) (f : Op) : M := fun ρ => (a ρ).bd fun p => (f (resT p.1 p.2)).bd fun q => some (q.1, wb p.1 q.2 (resR p.1 p.2))
theorem bind_some {α β : Type} {o : Option α} {f : α → Option β} {y : β} (h : o.bd f = some y) : ∃ x, o = some x ∧ f x = some y := by
  cases o with
  | none => cases h
  | some x => exact ⟨x, rfl, h⟩
theorem mOp_inv {a : MA} {f : Op} {ρ ρ' : List T} {t : T} (h : mOp a f ρ = some (t, ρ')) : ∃ as ρ1 ts', a ρ = some (as, ρ1) ∧ f (resT as ρ1) = some (t, ts') ∧ ρ' = wb as ts' (resR as ρ1) := by
  obtain ⟨⟨as, ρ1⟩, h1, h2⟩ := bind_some h
  obtain ⟨⟨q, ts'⟩, h3, h4⟩ := bind_some h2
  cases h4
  exact ⟨as, ρ1, ts', h1, h3, rfl⟩
section
variable {X : Cx} {a b c e : Expr} {es : List Expr} {pos p : Pos} {m ma mb : M} {mt mt2 : MT} {as : MA} {f : Op}
theorem tr_int {i : Int} {j} : TrE X (.Constant (.int i) j pos) (mC (.int i)) := .mk fun ρ t ρ' h Q q => by cases h; exact w_int q
theorem tr_str {i : Str} {j} : TrE X (.Constant (.str i) j pos) (mC (.str i)) := .mk fun ρ t ρ' h Q q => by cases h; exact w_str q
theorem tr_bl {i : Bool} {j} : TrE X (.Constant (.bool i) j pos) (mC (.bl i)) := .mk fun ρ t ρ' h Q q => by cases h; exact w_bl q
theorem tr_non {j} : TrE X (.Constant .none j pos) (mC .non) := .mk fun ρ t ρ' h Q q => by cases h; exact w_non q
theorem tr_glob {x : Str} {v : V} {u : Value} (hm : X.mg x = some u) (r : RelV v u) (hg : Gl X x := by rfl) (hd : (x == ("__debug__" : Str)) = false := by decide) : TrE X (.Name x pos) (mC v) := .mk fun ρ t ρ' h Q q => by cases h; exact w_glob hm r q hg hd
theorem tr_ty {x : Str} {n : String} (hm : X.mg x = none) (hv : bootBuiltins x = some (.type n)) (hg : Gl X x := by rfl) (hn : x ≠ "__name__" := by decide) (hd : (x == ("__debug__" : Str)) = false := by decide) : TrE X (.Name x pos) (mC (.ty n)) := .mk fun ρ t ρ' h Q q => by cases h; exact w_ty hm hv q hg hn hd
theorem tr_nm (i : Nat) {x : Str} (hN : X.N[i]? = some x := by rfl) (hv : Vis X.env.scope x := by first | exact Or.inl rfl | exact Or.inr (Or.inl rfl) | exact Or.inr (Or.inr rfl)) (hd : (x == ("__debug__" : Str)) = false := by decide) (hcd : (x == ("__classdict__" : Str)) = false := by decide) :
    TrE X (.Name x pos) (mNm i) := .mk fun ρ t ρ' h Q q => by
  obtain ⟨u, h1, h2⟩ := bind_some h
  obtain ⟨h3, h4⟩ := slot_some' h1
  cases h2
  exact w_fz i h3 h4 q hN hv hd hcd
theorem tr_mv (i : Nat) {x : Str} (hN : X.N[i]? = some x := by rfl) (hv : Vis X.env.scope x := by first | exact Or.inl rfl | exact Or.inr (Or.inl rfl) | exact Or.inr (Or.inr rfl)) (hd : (x == ("__debug__" : Str)) = false := by decide) (hcd : (x == ("__classdict__" : Str)) = false := by decide) :
    TrE X (.Name x pos) (mMv i) := .mk fun ρ t ρ' h Q q => by
  obtain ⟨u, h1, h2⟩ := bind_some h
  obtain ⟨h3, h4⟩ := slot_some' h1
  cases h2
  exact w_mv i h3 h4 q hN hv hd hcd
theorem tr_fz (h0 : TrE X e m) : TrE X e (mFz m) := .mk fun ρ t ρ' h Q q => by
  obtain ⟨u, h1, h2⟩ := bind_some h
  cases h2
  exact w_still (h0 ρ _ _ h1 _ q)
theorem ta_nil : TrA X [] aNil := .mk fun ρ as ρ' h Q q => by cases h; exact wa_nil q
theorem ta_val {r : MA} (h1 : TrE X e m) (h2 : TrA X es r) : TrA X (e :: es) (aVal m r) := .mk fun ρ as ρ' h Q q => by
  obtain ⟨⟨t, ρ1⟩, e1, h⟩ := bind_some h
  obtain ⟨⟨bs, ρ2⟩, e2, h⟩ := bind_some h
  cases h
  exact wa_val (h1 ρ t ρ1 e1 _ (h2 ρ1 bs ρ2 e2 _ q))
theorem ta_at (i : Nat) {x : Str} {r : MA} (h2 : TrA X es r) (hN : X.N[i]? = some x := by rfl) (hv : Vis X.env.scope x := by first | exact Or.inl rfl | exact Or.inr (Or.inl rfl) | exact Or.inr (Or.inr rfl)) (hd : (x == ("__debug__" : Str)) = false := by decide) (hcd : (x == ("__classdict__" : Str)) = false := by decide) :
    TrA X (.Name x pos :: es) (aAt i r) := .mk fun ρ as ρ' h Q q => by
  obtain ⟨u, h1, h⟩ := bind_some h
  obtain ⟨h3, h4⟩ := slot_some' h1
  obtain ⟨⟨bs, ρ2⟩, e2, h⟩ := bind_some h
  cases h
  exact wa_at i h3 h4 (h2 ρ bs ρ2 e2 _ q) hN hv hd hcd
theorem tr_bin {op : Operator} (ha : TrA X [a, b] as) (ho : TrO X.K (r2 (rOp X (binaryOp op))) f) : TrE X (.BinOp a op b pos) (mOp as f) := .mk fun ρ t ρ' h Q q => by
  obtain ⟨as, ρ1, ts', h1, h2, rfl⟩ := mOp_inv h
  exact w_bin (ha ρ as ρ1 h1 _ (ho _ _ _ h2 _ q))
theorem tr_cmp {op : CmpOp} (ha : TrA X [a, b] as) (ho : TrO X.K (r2 (rOp X (compareOp op))) f) (hm : behindInMarks op b = false := by first | rfl | exact nomark _) : TrE X (.Compare a [op] [b] pos) (mOp as f) := .mk fun ρ t ρ' h Q q => by
  obtain ⟨as, ρ1, ts', h1, h2, rfl⟩ := mOp_inv h
  exact w_cmp (ha ρ as ρ1 h1 _ (ho _ _ _ h2 _ q)) hm
theorem tr_un {op : UnaryOp} (ha : TrA X [a] as) (ho : TrO X.K (r1 (rUn X (unaryOp op))) f) : TrE X (.UnaryOp op a pos) (mOp as f) := .mk fun ρ t ρ' h Q q => by
  obtain ⟨as, ρ1, ts', h1, h2, rfl⟩ := mOp_inv h
  exact w_un (ha ρ as ρ1 h1 _ (ho _ _ _ h2 _ q))
theorem tr_ix (ha : TrA X [a, b] as) (ho : TrO X.K (r2 (rIxU X)) f) (hs : PlainIx b := by exact fun _ _ => rfl) : TrE X (.Subscript a b pos) (mOp as f) := .mk fun ρ t ρ' h Q q => by
  obtain ⟨as, ρ1, ts', h1, h2, rfl⟩ := mOp_inv h
  exact w_ix (ha ρ as ρ1 h1 _ (ho _ _ _ h2 _ q)) hs
theorem tr_fld {fl : Str} (ha : TrA X [e] as) (ho : TrO X.K (r1 (rFld X.K fl)) f) (hb : attributeBase e fl X.env (eval e X.env) = eval e X.env := by rfl) : TrE X (.Attribute e fl pos) (mOp as f) := .mk fun ρ t ρ' h Q q => by
  obtain ⟨as, ρ1, ts', h1, h2, rfl⟩ := mOp_inv h
  exact w_fld (ha ρ as ρ1 h1 _ (ho _ _ _ h2 _ q)) hb
theorem tr_tup {k : Nat} (hp : PA X es (UL X es)) (ha : TrA X es as) (ho : TrO X.K rTup f) : TrE X (.Tuple es k pos) (mOp as f) := .mk fun ρ t ρ' h Q q => by
  obtain ⟨as, ρ1, ts', h1, h2, rfl⟩ := mOp_inv h
  exact w_tup hp (ha ρ as ρ1 h1 _ (ho _ _ _ h2 _ q))
theorem tr_lst (hp : PA X es (UL X es)) (ha : TrA X es as) (ho : TrO X.K rLst f) : TrE X (.List es pos) (mOp as f) := .mk fun ρ t ρ' h Q q => by
  obtain ⟨as, ρ1, ts', h1, h2, rfl⟩ := mOp_inv h
  exact w_lst hp (ha ρ as ρ1 h1 _ (ho _ _ _ h2 _ q))
theorem tr_callB {x : Str} {id : String} (hm : X.mg x = none) (hv : bootBuiltins x = some (.builtin id)) (hp : PA X (e :: es) (UL X (e :: es))) (ha : TrA X (e :: es) as) (ho : TrO X.K (rCl X (.builtin id)) f)
    (hg : Gl X x := by rfl) (hn : x ≠ "__name__" := by decide) (hdb : (x == ("__debug__" : Str)) = false := by decide) (he : starEach (e :: es) X.env = (false, eval e X.env) :: starEach es X.env := by rfl) (hpl : (backTo pos (starEach es X.env)).any (·.1) = false := by rfl) :
    TrE X (.Call (.Name x p) (e :: es) [] pos) (mOp as f) := .mk fun ρ t ρ' h Q q => by
  obtain ⟨as, ρ1, ts', h1, h2, rfl⟩ := mOp_inv h
  exact w_callB hm hv hp (ha ρ as ρ1 h1 _ (ho _ _ _ h2 _ q)) hg hn hdb he hpl
theorem tr_callTy {x : Str} {id : String} (hm : X.mg x = none) (hv : bootBuiltins x = some (.type id)) (hp : PA X (e :: es) (UL X (e :: es))) (ha : TrA X (e :: es) as) (ho : TrO X.K (rCl X (.type id)) f)
    (hg : Gl X x := by rfl) (hn : x ≠ "__name__" := by decide) (hdb : (x == ("__debug__" : Str)) = false := by decide) (he : starEach (e :: es) X.env = (false, eval e X.env) :: starEach es X.env := by rfl) (hpl : (backTo pos (starEach es X.env)).any (·.1) = false := by rfl) :
    TrE X (.Call (.Name x p) (e :: es) [] pos) (mOp as f) := .mk fun ρ t ρ' h Q q => by
  obtain ⟨as, ρ1, ts', h1, h2, rfl⟩ := mOp_inv h
  exact w_callTy hm hv hp (ha ρ as ρ1 h1 _ (ho _ _ _ h2 _ q)) hg hn hdb he hpl
/-- slices: two are told by operands, three one after the other -/
theorem tr_sl00 {p2 : Pos} (ha : TrA X [e] as) (ho : TrO X.K (rS X sl00) f) : TrE X (.Subscript e (.Slice none none none p2) pos) (mOp as f) := .mk fun ρ t ρ' h Q q => by
  obtain ⟨as, ρ1, ts', h1, h2, rfl⟩ := mOp_inv h
  exact w_sl00 (ha ρ as ρ1 h1 _ (ho _ _ _ h2 _ q))
theorem tr_sl10 {p2 : Pos} (ha : TrA X [e, a] as) (ho : TrO X.K (rS X sl10) f) : TrE X (.Subscript e (.Slice (some a) none none p2) pos) (mOp as f) := .mk fun ρ t ρ' h Q q => by
  obtain ⟨as, ρ1, ts', h1, h2, rfl⟩ := mOp_inv h
  exact w_sl10 (ha ρ as ρ1 h1 _ (ho _ _ _ h2 _ q))
theorem tr_sl01 {p2 : Pos} (ha : TrA X [e, a] as) (ho : TrO X.K (rS X sl01) f) : TrE X (.Subscript e (.Slice none (some a) none p2) pos) (mOp as f) := .mk fun ρ t ρ' h Q q => by
  obtain ⟨as, ρ1, ts', h1, h2, rfl⟩ := mOp_inv h
  exact w_sl01 (ha ρ as ρ1 h1 _ (ho _ _ _ h2 _ q))
def intT : T → Option Int
  | .v (.int i) => some i
  | _ => none
@[simp] theorem intT_int {i : Int} : intT (.v (.int i)) = some i := rfl
theorem intT_some {t : T} {i : Int} (h : intT t = some i) : t = T.int i := by
  unfold intT at h
  split at h
  · cases h; rfl
  · cases h
def mSl11 (as : MA) (ma mb : M) (f : Int → Int → Op) : M := fun ρ => (as ρ).bd fun p => (ma p.2).bd fun q => (intT q.1).bd fun i => (mb q.2).bd fun r => (intT r.1).bd fun j => (f i j (resT p.1 r.2)).bd fun u => some (u.1, wb p.1 u.2 (resR p.1 r.2))
theorem tr_sl11 {p2 : Pos} {f : Int → Int → Op} (ha : TrA X [e] as) (h1 : TrE X a ma) (h2 : TrE X b mb) (ho : ∀ i j, TrO X.K (rS2 X i j) (f i j)) : TrE X (.Subscript e (.Slice (some a) (some b) none p2) pos) (mSl11 as ma mb f) := .mk fun ρ t ρ' h Q q => by
  obtain ⟨⟨bs, ρ1⟩, e1, h⟩ := bind_some h
  obtain ⟨⟨u, ρ2⟩, e2, h⟩ := bind_some h
  obtain ⟨i, e5, h⟩ := bind_some h
  obtain ⟨⟨w, ρ3⟩, e3, h⟩ := bind_some h
  obtain ⟨j, e6, h⟩ := bind_some h
  obtain ⟨⟨z, ts'⟩, e4, h⟩ := bind_some h
  cases h
  exact w_sl11 (ha ρ bs ρ1 e1 _ (h1 ρ1 _ ρ2 e2 _ ⟨i, intT_some e5, h2 ρ2 _ ρ3 e3 _ ⟨j, intT_some e6, ho i j _ _ _ e4 _ q⟩⟩))
/-! ### tests -/
def mTru (m : M) : MT := fun ρ => (m ρ).bd fun p => (truT p.1).bd fun b => some (b, p.2)
theorem tt_val (h0 : TrE X e m) (he : ∀ whole, isTrue e X.env whole = (do let v ← whole; standAt e.pos; holding [v] (truthy v)) := by intro _; rfl) : TrT X e (mTru m) := .mk fun ρ b ρ' h Q q => by
  obtain ⟨⟨t, ρ1⟩, e1, h⟩ := bind_some h
  obtain ⟨b', e2, h⟩ := bind_some h
  cases h
  exact wt_val (h0 ρ t ρ1 e1 _ ⟨b, e2, q⟩) he
def blT : T → Option Bool
  | .v (.bl b) => some b
  | _ => none
@[simp] theorem blT_bl {b : Bool} : blT (.v (.bl b)) = some b := rfl
theorem blT_some {t : T} {b : Bool} (h : blT t = some b) : t = T.bl b := by
  unfold blT at h
  split at h
  · cases h; rfl
  · cases h
def mBl (m : M) : MT := fun ρ => (m ρ).bd fun p => (blT p.1).bd fun b => some (b, p.2)
theorem tt_cmp {op : CmpOp} (ha : TrA X [a, b] as) (ho : TrO X.K (r2 (rOp X (compareOp op))) f) (hm : behindInMarks op b = false := by first | rfl | exact nomark _) : TrT X (.Compare a [op] [b] pos) (mBl (mOp as f)) := .mk fun ρ t ρ' h Q q => by
  obtain ⟨⟨t1, ρ1⟩, e1, h⟩ := bind_some h
  obtain ⟨b', e2, h⟩ := bind_some h
  cases h
  obtain ⟨bs, ρ2, ts', h1, h2, e3⟩ := mOp_inv e1
  dsimp only at e2 e3 q
  subst e3
  exact wt_cmp (ha ρ bs ρ2 h1 _ (ho _ _ _ h2 _ ⟨_, blT_some e2, q⟩)) hm
def mNot (m : MT) : MT := fun ρ => (m ρ).bd fun p => some (!p.1, p.2)
theorem tt_not (h0 : TrT X a mt) : TrT X (.UnaryOp .Not a pos) (mNot mt) := .mk fun ρ b ρ' h Q q => by
  obtain ⟨⟨b', ρ1⟩, e1, h⟩ := bind_some h
  cases h
  exact wt_not (h0 ρ b' ρ1 e1 _ q)
def mAnd (m1 m2 : MT) : MT := fun ρ => (m1 ρ).bd fun p => if p.1 then m2 p.2 else some (false, p.2)
def mOr (m1 m2 : MT) : MT := fun ρ => (m1 ρ).bd fun p => if p.1 then some (true, p.2) else m2 p.2
theorem tt_W (h0 : TrW X e mt) : TrT X e mt := .mk fun ρ b ρ' h Q q => (h0 ρ b ρ' h Q q).t
theorem tw_and1 (h0 : TrT X a mt) : TrW X (.BoolOp .And [a] pos) mt := .mk fun ρ b ρ' h Q q => ww_and1 (h0 ρ b ρ' h Q q)
theorem tw_or1 (h0 : TrT X a mt) : TrW X (.BoolOp .Or [a] pos) mt := .mk fun ρ b ρ' h Q q => ww_or1 (h0 ρ b ρ' h Q q)
theorem tw_and (h1 : TrT X a mt) (h2 : TrW X (.BoolOp .And (b :: es) pos) mt2) : TrW X (.BoolOp .And (a :: b :: es) pos) (mAnd mt mt2) := .mk fun ρ c ρ' h Q q => by
  obtain ⟨⟨c', ρ1⟩, e1, h⟩ := bind_some h
  dsimp only at h
  refine ww_and (h1 ρ c' ρ1 e1 _ ?_)
  cases c' with
  | true => exact iteT (h2 ρ1 c ρ' h Q q)
  | false => cases h; exact iteF q
theorem tw_or (h1 : TrT X a mt) (h2 : TrW X (.BoolOp .Or (b :: es) pos) mt2) : TrW X (.BoolOp .Or (a :: b :: es) pos) (mOr mt mt2) := .mk fun ρ c ρ' h Q q => by
  obtain ⟨⟨c', ρ1⟩, e1, h⟩ := bind_some h
  dsimp only at h
  refine ww_or (h1 ρ c' ρ1 e1 _ ?_)
  cases c' with
  | false => exact iteF (h2 ρ1 c ρ' h Q q)
  | true => cases h; exact iteT q
/-- and, or, not as values; all but the last are bools -/
def mAndV (m1 m2 : M) : M := fun ρ => (m1 ρ).bd fun p => (blT p.1).bd fun c => if c then m2 p.2 else some (T.bl false, p.2)
def mOrV (m1 m2 : M) : M := fun ρ => (m1 ρ).bd fun p => (blT p.1).bd fun c => if c then some (T.bl true, p.2) else m2 p.2
def mNotV (m : M) : M := fun ρ => (m ρ).bd fun p => (blT p.1).bd fun c => some (T.bl !c, p.2)
theorem tr_one {op} (h0 : TrE X a m) : TrE X (.BoolOp op [a] pos) m := .mk fun ρ t ρ' h Q q => w_one (h0 ρ t ρ' h Q q)
theorem tr_and (h1 : TrE X a ma) (h2 : TrE X (.BoolOp .And (b :: es) pos) mb) : TrE X (.BoolOp .And (a :: b :: es) pos) (mAndV ma mb) := .mk fun ρ t ρ' h Q q => by
  obtain ⟨⟨t1, ρ1⟩, e1, h⟩ := bind_some h
  obtain ⟨c, e2, h⟩ := bind_some h
  dsimp only at e2 h
  refine w_and (h1 ρ t1 ρ1 e1 _ ⟨c, blT_some e2, ?_⟩)
  cases c with
  | true => exact iteT (h2 ρ1 t ρ' h Q q)
  | false => cases h; exact iteF q
theorem tr_or (h1 : TrE X a ma) (h2 : TrE X (.BoolOp .Or (b :: es) pos) mb) : TrE X (.BoolOp .Or (a :: b :: es) pos) (mOrV ma mb) := .mk fun ρ t ρ' h Q q => by
  obtain ⟨⟨t1, ρ1⟩, e1, h⟩ := bind_some h
  obtain ⟨c, e2, h⟩ := bind_some h
  dsimp only at e2 h
  refine w_or (h1 ρ t1 ρ1 e1 _ ⟨c, blT_some e2, ?_⟩)
  cases c with
  | false => exact iteF (h2 ρ1 t ρ' h Q q)
  | true => cases h; exact iteT q
theorem tr_not (h1 : TrE X a ma) : TrE X (.UnaryOp .Not a pos) (mNotV ma) := .mk fun ρ t ρ' h Q q => by
  obtain ⟨⟨t1, ρ1⟩, e1, h⟩ := bind_some h
  obtain ⟨c, e2, h⟩ := bind_some h
  cases h
  exact w_not (h1 ρ t1 ρ1 e1 _ ⟨c, blT_some e2, q⟩)
def mIf (mt : MT) (ma mb : M) : M := fun ρ => (mt ρ).bd fun p => if p.1 then ma p.2 else mb p.2
theorem tr_if (h0 : TrT X c mt) (h1 : TrE X a ma) (h2 : TrE X b mb) : TrE X (.IfExp c a b pos) (mIf mt ma mb) := .mk fun ρ t ρ' h Q q => by
  obtain ⟨⟨c', ρ1⟩, e1, h⟩ := bind_some h
  dsimp only at h
  refine w_if (h0 ρ c' ρ1 e1 _ ?_)
  cases c' with
  | true => exact iteT (h1 ρ1 t ρ' h Q q)
  | false => exact iteF (h2 ρ1 t ρ' h Q q)
end

/-! ### statements -/
def sNil : MS := fun ρ => some (.nx, ρ)
def sCons (a b : MS) : MS := fun ρ => (a ρ).bd fun p => match p.1 with
  | .nx => b p.2
  | .rt t => some (.rt t, p.2)
  | .bk => some (.bk, p.2)
  | .ct => some (.ct, p.2)
def sPass : MS := fun ρ => some (.nx, ρ)
def sBreak : MS := fun ρ => some (.bk, ρ)
def sCont : MS := fun ρ => some (.ct, ρ)
def sExpr (m : M) : MS := fun ρ => (m ρ).bd fun p => some (.nx, p.2)
def sRet (m : M) : MS := fun ρ => (m ρ).bd fun p => some (.rt p.1, p.2)
def sRetN : MS := fun ρ => some (.rt T.non, ρ)
def sSet (i : Nat) (m : M) : MS := fun ρ => (m ρ).bd fun p => some (.nx, p.2.set i p.1)
def sIf (mt : MT) (a b : MS) : MS := fun ρ => (mt ρ).bd fun p => if p.1 then a p.2 else b p.2
/-- what is never come to -/
def sNo : MS := fun _ => none
def sAsg (m : M) (g : MG) : MS := fun ρ => (m ρ).bd fun p => (g p.1 p.2).bd fun r => some (.nx, r)
def sOp (as : MA) (f : Op) : MS := fun ρ => (as ρ).bd fun p => (f (resT p.1 p.2)).bd fun q => some (.nx, wb p.1 q.2 (resR p.1 p.2))
def sPar (i j : Nat) (as : MA) : MS := fun ρ => (as ρ).bd fun p => match resT p.1 p.2 with
  | [t, u] => some (.nx, ((resR p.1 p.2).set i t).set j u)
  | _ => none
def sAug (i : Nat) (m : M) (f : Op) : MS := fun ρ => match ρ[i]? with
  | some (.v x) => (m ρ).bd fun p => (f [.v x, p.1]).bd fun q => some (.nx, p.2.set i q.1)
  | _ => none
def whileF : Nat → MT → MS → MS
  | 0, _, _ => fun _ => none
  | n + 1, mt, b => fun ρ => (mt ρ).bd fun p => if p.1 then (b p.2).bd fun q => match q.1 with
    | .nx => whileF n mt b q.2
    | .ct => whileF n mt b q.2
    | .bk => some (.nx, q.2)
    | .rt t => some (.rt t, q.2)
    else some (.nx, p.2)
def forF (g : MG) (b : MS) : List T → MS
  | [] => fun ρ => some (.nx, ρ)
  | t :: ts => fun ρ => (g t ρ).bd fun r => (b r).bd fun q => match q.1 with
    | .nx => forF g b ts q.2
    | .ct => forF g b ts q.2
    | .bk => some (.nx, q.2)
    | .rt t => some (.rt t, q.2)
def sFor (mi : MI) (g : MG) (b : MS) : MS := fun ρ => (mi ρ).bd fun p => forF g b p.1 p.2
/-- how often a while goes at most -/
def FUEL : Nat := 1000000
def sWhile (mt : MT) (b : MS) : MS := whileF FUEL mt b
section
variable {P : Nat → Bool} {X : Cx} {a b c e o i tg : Expr} {es tgs : List Expr} {st : Stmt} {sts body : List Stmt} {pos p : Pos} {m ma mb : M} {mt mt2 : MT} {as : MA} {f : Op} {s1 s2 : MS} {g : MG}
theorem ts_nil : TrSs P X [] sNil := .mk fun ρ o ρ' h D q => by cases h; exact wss_nil q
theorem ts_cons (h1 : TrS P X st s1) (h2 : TrSs P X sts s2) : TrSs P X (st :: sts) (sCons s1 s2) := .mk fun ρ o ρ' h D q => by
  obtain ⟨⟨o1, ρ1⟩, e1, h⟩ := bind_some h
  refine wss_cons (h1 ρ o1 ρ1 e1 _ ?_)
  dsimp only at h
  cases o1 with
  | nx => exact h2 ρ1 o ρ' h D q
  | rt t => cases h; exact q
  | bk => cases h; exact q
  | ct => cases h; exact q
theorem ts_one (h1 : TrS P X st s1) : TrSs P X [st] s1 := .mk fun ρ o ρ' h D q => wss_one (h1 ρ o ρ' h D q)
theorem ts_pass : TrS P X (.Pass pos) sPass := .mk fun ρ o ρ' h D q => by cases h; exact ws_pass q
theorem ts_break : TrS P X (.Break pos) sBreak := .mk fun ρ o ρ' h D q => by cases h; exact ws_break q
theorem ts_cont : TrS P X (.Continue pos) sCont := .mk fun ρ o ρ' h D q => by cases h; exact ws_cont q
theorem ts_no : TrS P X st sNo := .mk fun ρ o ρ' h D q => by cases h
theorem ts_expr (h0 : TrE X e m) (hs : swapsWith e none pos.line X.env = pure false := by rfl) : TrS P X (.Expr e pos) (sExpr m) := .mk fun ρ o ρ' h D q => by
  obtain ⟨⟨t, ρ1⟩, e1, h⟩ := bind_some h
  cases h
  exact ws_expr (h0 ρ t ρ1 e1 _ q) hs
theorem ts_ret (h0 : TrE X e m) : TrS P X (.Return (some e) pos) (sRet m) := .mk fun ρ o ρ' h D q => by
  obtain ⟨⟨t, ρ1⟩, e1, h⟩ := bind_some h
  cases h
  exact ws_ret (h0 ρ t ρ1 e1 _ q)
theorem ts_retN : TrS P X (.Return none pos) sRetN := .mk fun ρ o ρ' h D q => by cases h; exact ws_retN q
theorem ts_set (i : Nat) {x : Str} {pos' : Pos} (h0 : TrE X e m) (hP : P i = false := by rfl) (hN : X.N.Nodup := by first | assumption | exact FnScope.nd (by assumption)) (hi : X.N[i]? = some x := by rfl)
    (hx : Loc X.env.scope x := by first | exact Or.inl rfl | exact Or.inr rfl) (hs : swapsWith e (some (.Name x pos')) pos.line X.env = pure false := by rfl) (hf : X.fn x = true ∨ X.env.scope.names.lookup x = some .local := by first | exact .inl rfl | exact .inr rfl) :
    TrS P X (.Assign [.Name x pos'] e pos) (sSet i m) := .mk fun ρ o ρ' h D q => by
  obtain ⟨⟨t, ρ1⟩, e1, h⟩ := bind_some h
  cases h
  exact ws_set i (h0 ρ t ρ1 e1 _ q) hP hN hi hx hs hf
theorem ts_if {A B : List Stmt} (h0 : TrT X c mt) (h1 : TrSs P X A s1) (h2 : TrSs P X B s2) : TrS P X (.If c A B pos) (sIf mt s1 s2) := .mk fun ρ o ρ' h D q => by
  obtain ⟨⟨c', ρ1⟩, e1, h⟩ := bind_some h
  dsimp only at h
  refine ws_if (h0 ρ c' ρ1 e1 _ ?_)
  cases c' with
  | true => exact iteT (h1 ρ1 o ρ' h D q)
  | false => exact iteF (h2 ρ1 o ρ' h D q)
/-! targets -/
def gNm (i : Nat) : MG := fun t ρ => some (ρ.set i t)
def gsNil : List T → List T → Option (List T) := fun ts ρ => match ts with
  | [] => some ρ
  | _ => none
def gsCons (g : MG) (gs : List T → List T → Option (List T)) : List T → List T → Option (List T) := fun ts ρ => match ts with
  | t :: ts => (g t ρ).bd fun r => gs ts r
  | [] => none
def gTup (n : Nat) (gs : List T → List T → Option (List T)) : MG := fun t ρ => match t with
  | .tup ts => if ts.length = n then gs ts ρ else none
  | _ => none
theorem tg_nm (i : Nat) {x : Str} (hP : P i = false := by rfl) (hN : X.N.Nodup := by first | assumption | exact FnScope.nd (by assumption)) (hi : X.N[i]? = some x := by rfl) (hx : Loc X.env.scope x := by first | exact Or.inl rfl | exact Or.inr rfl)
    (hf : X.fn x = true ∨ X.env.scope.names.lookup x = some .local := by first | exact .inl rfl | exact .inr rfl) : TrG P X (.Name x pos) (gNm i) := .mk fun t ρ ρ' h Q q => by
  cases h
  exact wg_nm i q hP hN hi hx hf
theorem tgs_nil : TrGs P X [] gsNil := .mk fun ts ρ ρ' h Q q => by
  cases ts with
  | nil => cases h; exact wgs_nil q
  | cons _ _ => cases h
theorem tgs_cons {gs : List T → List T → Option (List T)} (h1 : TrG P X tg g) (h2 : TrGs P X tgs gs) (hs : (assignEach (tg :: tgs) X.env).map (·.2) = assign tg X.env :: (assignEach tgs X.env).map (·.2) := by rfl) : TrGs P X (tg :: tgs) (gsCons g gs) := .mk fun ts ρ ρ' h Q q => by
  cases ts with
  | nil => cases h
  | cons t ts =>
    obtain ⟨r, e1, h⟩ := bind_some h
    exact wgs_cons (h1 t ρ r e1 _ (h2 ts r ρ' h Q q)) hs
theorem tg_tup {k n : Nat} {gs : List T → List T → Option (List T)} (h0 : TrGs P X es gs) (hc : X.calm = true := by rfl) (hn : (assignEach es X.env).length = n := by rfl) (hst : (assignEach es X.env).findIdx? (·.1) = none := by rfl) : TrG P X (.Tuple es k pos) (gTup n gs) := .mk fun t ρ ρ' h Q q => by
  unfold gTup at h
  split at h
  · rename_i ts
    split at h
    · rename_i hl
      exact wg_tup (h0 ts ρ ρ' h Q q) hc (by rw [hn, hl]) hst
    · cases h
  · cases h
theorem ts_asg (h0 : TrE X e m) (h1 : TrG P X tg g) (hs : swapsWithSole [tg] e pos.line X.env = pure false := by rfl) (hw : swappedStores [tg] e X.env = pure none := by rfl)
    (h2 : (assignEach [tg] X.env).map (·.2) = [assign tg X.env] := by rfl) : TrS P X (.Assign [tg] e pos) (sAsg m g) := .mk fun ρ o ρ' h D q => by
  obtain ⟨⟨t, ρ1⟩, e1, h⟩ := bind_some h
  obtain ⟨r, e2, h⟩ := bind_some h
  cases h
  exact ws_asg (h0 ρ t ρ1 e1 _ (h1 t ρ1 _ e2 _ q)) hs hw h2
theorem ts_par (i j : Nat) {x y : Str} {px py pt : Pos} {kt k2 pt2} (ha : PA X [a, b] (UL X [a, b])) (h0 : TrA X [a, b] as)
    (hP : P i = false := by rfl) (hP2 : P j = false := by rfl) (hc : X.calm = true := by rfl) (hN : X.N.Nodup := by first | assumption | exact FnScope.nd (by assumption)) (hi : X.N[i]? = some x := by rfl) (hj : X.N[j]? = some y := by rfl) (hij : i ≠ j := by decide)
    (hx : X.env.scope.names.lookup x = some .local := by rfl) (hy : X.env.scope.names.lookup y = some .local := by rfl)
    (hw : swappedStores [.Tuple [.Name x px, .Name y py] kt pt] (.Tuple [a, b] k2 pt2) X.env = pure (some [x, y]) := by rfl)
    (hs : swapsWithSole [.Tuple [.Name x px, .Name y py] kt pt] (.Tuple [a, b] k2 pt2) pos.line X.env = pure false := by rfl) :
    TrS P X (.Assign [.Tuple [.Name x px, .Name y py] kt pt] (.Tuple [a, b] k2 pt2) pos) (sPar i j as) := .mk fun ρ o ρ' h D q => by
  obtain ⟨⟨bs, ρ1⟩, e1, h⟩ := bind_some h
  dsimp only at h
  split at h
  · rename_i t u e2
    cases h
    exact ws_par i j ha (h0 ρ bs ρ1 e1 _ ⟨t, u, e2, q⟩) hP hP2 hc hN hi hj hij hx hy hw hs
  · cases h
theorem ts_aug (i : Nat) {x : Str} {op : Operator} {pos' : Pos} (h0 : TrE X e m) (ho : TrO X.K (r2 (rIp X op)) f)
    (hP : P i = false := by rfl) (hN : X.N.Nodup := by first | assumption | exact FnScope.nd (by assumption)) (hi : X.N[i]? = some x := by rfl) (hx : Loc X.env.scope x := by first | exact Or.inl rfl | exact Or.inr rfl)
    (hf : X.fn x = true ∨ X.env.scope.names.lookup x = some .local := by first | exact .inl rfl | exact .inr rfl) : TrS P X (.AugAssign (.Name x pos') op e pos) (sAug i m f) := .mk fun ρ o ρ' h D q => by
  unfold sAug at h
  split at h
  · rename_i v hv
    obtain ⟨⟨t, ρ1⟩, e1, h⟩ := bind_some h
    obtain ⟨⟨z, ts'⟩, e2, h⟩ := bind_some h
    cases h
    exact ws_aug i hv fz_v nofun (h0 ρ t ρ1 e1 _ (ho _ _ _ e2 _ q)) hP hN hi hx hf
  · cases h
theorem ts_sub {tpos : Pos} (h0 : TrA X [e, o, i] as) (ho : TrO X.K (rSet X) f)
    (ha : ∀ v, assign (.Subscript o i tpos) X.env v = (do
      let ov ← holding [v] (eval o X.env)
      let iv ← holding [v, ov] (eval i X.env)
      standAt tpos
      holding [v, ov, iv] (setItem ov iv v)
      release [v, ov, iv] []) := by intro _; rfl)
    (hs : swapsWithSole [.Subscript o i tpos] e pos.line X.env = pure false := by rfl) (hw : swappedStores [.Subscript o i tpos] e X.env = pure none := by rfl)
    (h1 : (assignEach [.Subscript o i tpos] X.env).map (·.2) = [assign (.Subscript o i tpos) X.env] := by rfl) : TrS P X (.Assign [.Subscript o i tpos] e pos) (sOp as f) := .mk fun ρ o' ρ' h D q => by
  obtain ⟨⟨bs, ρ1⟩, e1, h⟩ := bind_some h
  obtain ⟨⟨z, ts'⟩, e2, h⟩ := bind_some h
  cases h
  exact ws_sub (h0 ρ bs ρ1 e1 _ (ho _ _ _ e2 _ q)) ha hs hw h1
theorem ts_fld {fl : Str} {pos' : Pos} (h0 : TrA X [e, o] as) (ho : TrO X.K (rSetF X.K fl) f) (hs : swapsWith e (some (.Attribute o fl pos')) pos.line X.env = pure false := by rfl) :
    TrS P X (.Assign [.Attribute o fl pos'] e pos) (sOp as f) := .mk fun ρ o' ρ' h D q => by
  obtain ⟨⟨bs, ρ1⟩, e1, h⟩ := bind_some h
  obtain ⟨⟨z, ts'⟩, e2, h⟩ := bind_some h
  cases h
  exact ws_fld (h0 ρ bs ρ1 e1 _ (ho _ _ _ e2 _ q)) hs
theorem ts_while (h0 : TrT X c mt) (h1 : TrSs P X body s1) (hp : PassesOwn (model X.prog X.w) X.A X.env X.xe := by exact PassesOwn.never) : TrS P X (.While c body [] pos) (sWhile mt s1) := .mk fun ρ o ρ' h D q => by
  unfold sWhile at h
  refine ws_while (α := Nat) (fun n ρ => whileF n mt s1 ρ = some (o, ρ')) id FUEL h (fun n ρ h => ?_) hp
  cases n with
  | zero => cases h
  | succ n =>
    obtain ⟨⟨c', ρ1⟩, e1, h⟩ := bind_some h
    dsimp only at h
    refine h0 ρ c' ρ1 e1 _ ?_
    cases c' with
    | false => cases h; exact iteF q
    | true =>
      refine iteT ?_
      rw [if_pos rfl] at h
      obtain ⟨⟨o1, ρ2⟩, e2, h⟩ := bind_some h
      refine h1 ρ1 o1 ρ2 e2 _ ?_
      cases o1 with
      | nx => exact ⟨n, Nat.lt_succ_self n, h⟩
      | ct => exact ⟨n, Nat.lt_succ_self n, h⟩
      | bk => cases h; exact q
      | rt t => cases h; exact q
theorem ts_for {iter : Expr} {mi : MI} (h0 : TrI X tg iter mi) (h1 : TrG P X tg g) (h2 : TrSs P X body s1)
    (hc : X.calm = true := by rfl) (hp : PassesOwn (model X.prog X.w) X.A X.env X.xe := by exact PassesOwn.never) (hs : ∀ x, foldedSetIterable iter X.env x = pure x := by intro _; rfl) : TrS P X (.For tg iter body [] pos) (sFor mi g s1) := .mk fun ρ o ρ' h D q => by
  obtain ⟨⟨xs, ρ1⟩, e1, h⟩ := bind_some h
  dsimp only at h
  -- a turn that is left stands at (o, ρ'): two forms of what holds between turns
  refine ws_for (h0 ρ xs ρ1 e1 _ ⟨fun i ρ => forF g s1 (xs.drop i) ρ = some (o, ρ'), h, fun i t ρ2 hi iv => ?_, fun ρ2 iv => ?_⟩) hc hp hs
  · have e2 : xs.drop i = t :: xs.drop (i + 1) := by
      obtain ⟨hl, ht⟩ := List.getElem?_eq_some_iff.mp hi
      rw [List.drop_eq_getElem_cons hl, ht]
    dsimp only at iv
    rw [e2] at iv
    obtain ⟨r, e3, iv⟩ := bind_some iv
    obtain ⟨⟨o1, ρ3⟩, e4, iv⟩ := bind_some iv
    refine h1 t ρ2 r e3 _ (h2 r o1 ρ3 e4 _ ?_)
    cases o1 with
    | nx => exact iv
    | ct => exact iv
    | bk => cases iv; exact q
    | rt t => cases iv; exact q
  · dsimp only at iv
    rw [List.drop_length] at iv
    cases iv
    exact q
end
end DL

/-! FL2: what is walked, comprehensions, calls, methods, defs. -/
namespace DL
open PySem PySem.Spec L2

/-! ### what is walked -/
def itemsT : T → Option (List T)
  | .lst false xs => some xs
  | .tup xs => some xs
  | .v (.str z) => gd (szB z.cps.size) (some (sgnT z))
  | .dK false ks _ => some (ks.map keyT)
  | .dT false ks _ => some (ks.map fun k => .tup (k.map keyT))
  | _ => none
def valsT : T → Option (List T)
  | .dK false ks xs => gd (decide (ks.length = xs.length)) (some xs)
  | _ => none
def prsT : T → Option (List T)
  | .dK false ks xs => some ((ks.zip xs).map fun p => .tup [keyT p.1, p.2])
  | _ => none
def lstT : T → Option (List T)
  | .lst false xs => some xs
  | _ => none
theorem lstT_some {t : T} {xs : List T} (h : lstT t = some xs) : t = .lst false xs := by
  unfold lstT at h
  split at h
  · cases h; rfl
  · cases h
def iOf (k : T → Option (List T)) (m : M) : MI := fun ρ => (m ρ).bd fun p => (k (fz p.1)).bd fun xs => some (xs, p.2)
def iRng1 (m : M) : MI := fun ρ => (m ρ).bd fun p => (intT p.1).bd fun j => gd (decide (-4611686018427387904 ≤ j ∧ j ≤ 16777216)) (some (rngT 0 j.toNat, p.2))
def iRng2 (ma mb : M) : MI := fun ρ => (ma ρ).bd fun p => (intT p.1).bd fun i => (mb p.2).bd fun q => (intT q.1).bd fun j => gd (decide (-16777216 ≤ i ∧ i ≤ 16777216 ∧ -16777216 ≤ j ∧ j ≤ 16777216 ∧ (j - i) ≤ 16777216)) (some (rngT i (j - i).toNat, q.2))
def zipW (t u : T) : Option (List T) := match fz t, fz u with
  | .lst false xs, .lst false ys => some (zipT xs ys)
  | .tup xs, .tup ys => some (zipT xs ys)
  | _, _ => none
def iZip (ma mb : M) : MI := fun ρ => (ma ρ).bd fun p => (mb p.2).bd fun q => (zipW p.1 q.1).bd fun xs => some (xs, q.2)
def iEnum (m : M) : MI := fun ρ => (m ρ).bd fun p => (lstT (fz p.1)).bd fun xs => some (enmT xs, p.2)
section
variable {X : Cx} {tg e a b iter : Expr} {es : List Expr} {pos p : Pos} {m ma mb : M}
theorem ti_any (h0 : TrE X e m) : TrI X tg e (iOf itemsT m) := .mk fun ρ xs ρ' h Q q => by
  obtain ⟨⟨t, ρ1⟩, e1, h⟩ := bind_some h
  obtain ⟨ys, e2, h⟩ := bind_some h
  cases h
  dsimp only at e2
  unfold itemsT at e2
  split at e2
  · rename_i zs e3
    cases e2
    exact wi_lst (h0 ρ t ρ1 e1 _ ⟨_, e3, q⟩)
  · rename_i zs e3
    cases e2
    exact wi_tup (h0 ρ t ρ1 e1 _ ⟨_, e3, q⟩)
  · rename_i z e3
    obtain ⟨hz, e2⟩ := gd_some e2
    cases e2
    refine wi_str (h0 ρ t ρ1 e1 _ ⟨z, ?_, of_decide_eq_true hz, q⟩)
    cases t <;> unfold fz at e3 <;> cases e3 <;> rfl
  · rename_i ks zs e3
    cases e2
    exact wi_keys (h0 ρ t ρ1 e1 _ ⟨_, _, e3, q⟩)
  · rename_i ks zs e3
    cases e2
    exact wi_keysT (h0 ρ t ρ1 e1 _ ⟨_, _, e3, q⟩)
  · cases e2
theorem ti_vals {apos cpos : Pos} (h0 : TrE X e m) (hbase : attributeBase e "values" X.env (eval e X.env) = eval e X.env := by rfl) (hline : (apos.endLine == cpos.line) = true := by rfl) : TrI X tg (.Call (.Attribute e "values" apos) [] [] cpos) (iOf valsT m) := .mk fun ρ xs ρ' h Q q => by
  obtain ⟨⟨t, ρ1⟩, e1, h⟩ := bind_some h
  obtain ⟨ys, e2, h⟩ := bind_some h
  cases h
  dsimp only at e2
  unfold valsT at e2
  split at e2
  · rename_i ks zs e3
    obtain ⟨hl, e2⟩ := gd_some e2
    cases e2
    exact wi_vals (h0 ρ t ρ1 e1 _ ⟨_, _, e3, of_decide_eq_true hl, q⟩) hbase hline
  · cases e2
theorem ti_items {apos cpos tpos : Pos} {elts : List Expr} {kk : Nat} (h0 : TrE X e m) (hbase : attributeBase e "items" X.env (eval e X.env) = eval e X.env := by rfl) (hline : (apos.endLine == cpos.line) = true := by rfl) : TrI X (.Tuple elts kk tpos) (.Call (.Attribute e "items" apos) [] [] cpos) (iOf prsT m) := .mk fun ρ xs ρ' h Q q => by
  obtain ⟨⟨t, ρ1⟩, e1, h⟩ := bind_some h
  obtain ⟨ys, e2, h⟩ := bind_some h
  cases h
  dsimp only at e2
  unfold prsT at e2
  split at e2
  · rename_i ks zs e3
    cases e2
    exact wi_items (h0 ρ t ρ1 e1 _ ⟨_, _, e3, q⟩) hbase hline
  · cases e2
theorem ti_rng1 (hm : X.mg "range" = none) (h0 : TrE X a m) (hg : Gl X "range" := by rfl) (hs : starEach [a] X.env = [(false, eval a X.env)] := by rfl) : TrI X tg (.Call (.Name "range" p) [a] [] pos) (iRng1 m) := .mk fun ρ xs ρ' h Q q => by
  obtain ⟨⟨t, ρ1⟩, e1, h⟩ := bind_some h
  obtain ⟨j, e2, h⟩ := bind_some h
  dsimp only at e2 h
  obtain ⟨hj, h⟩ := gd_some h
  cases h
  exact wi_range1 hm (paU pa0 hs) (h0 ρ t _ e1 _ ⟨j, intT_some e2, of_decide_eq_true hj, q⟩) hg hs
theorem ti_rng2 (hm : X.mg "range" = none) (h0 : TrE X a ma) (h1 : TrE X b mb) (hg : Gl X "range" := by rfl) (hs : starEach [a, b] X.env = [(false, eval a X.env), (false, eval b X.env)] := by rfl) (hs2 : starEach [b] X.env = [(false, eval b X.env)] := by rfl) : TrI X tg (.Call (.Name "range" p) [a, b] [] pos) (iRng2 ma mb) := .mk fun ρ xs ρ' h Q q => by
  obtain ⟨⟨t, ρ1⟩, e1, h⟩ := bind_some h
  obtain ⟨i, e2, h⟩ := bind_some h
  obtain ⟨⟨u, ρ2⟩, e3, h⟩ := bind_some h
  obtain ⟨j, e4, h⟩ := bind_some h
  dsimp only at e2 e3 e4 h
  obtain ⟨hj, h⟩ := gd_some h
  cases h
  exact wi_range2 hm (paU (paU pa0 hs2) (by rw [hs, hs2])) (h0 ρ t ρ1 e1 _ ⟨i, intT_some e2, h1 ρ1 u _ e3 _ ⟨j, intT_some e4, of_decide_eq_true hj, q⟩⟩) hg hs hs2
theorem ti_zip {elts : List Expr} {kk : Nat} {tpos : Pos} (hm : X.mg "zip" = none) (h0 : TrE X a ma) (h1 : TrE X b mb)
    (hg : Gl X "zip" := by rfl) (hs : starEach [a, b] X.env = (false, eval a X.env) :: starEach [b] X.env := by rfl) (hs2 : starEach [b] X.env = (false, eval b X.env) :: starEach [] X.env := by rfl) (hpl : (backTo pos (starEach [b] X.env)).any (·.1) = false := by rfl) : TrI X (.Tuple elts kk tpos) (.Call (.Name "zip" p) [a, b] [] pos) (iZip ma mb) := .mk fun ρ xs ρ' h Q q => by
  obtain ⟨⟨t, ρ1⟩, e1, h⟩ := bind_some h
  obtain ⟨⟨u, ρ2⟩, e2, h⟩ := bind_some h
  obtain ⟨ys, e3, h⟩ := bind_some h
  cases h
  dsimp only at e2 e3
  unfold zipW at e3
  split at e3
  · rename_i xs ys h1' h2'
    cases e3
    exact wi_zip hm (paU (paU pa0 hs2) hs) (h0 ρ t ρ1 e1 _ (h1 ρ1 u ρ2 e2 _ ⟨_, _, .inl ⟨h1', h2'⟩, q⟩)) hg hs hpl
  · rename_i xs ys h1' h2'
    cases e3
    exact wi_zip hm (paU (paU pa0 hs2) hs) (h0 ρ t ρ1 e1 _ (h1 ρ1 u ρ2 e2 _ ⟨_, _, .inr ⟨h1', h2'⟩, q⟩)) hg hs hpl
  · cases e3
theorem ti_enum {elts : List Expr} {kk : Nat} {tpos : Pos} (hm : X.mg "enumerate" = none) (h0 : TrE X e m) (hg : Gl X "enumerate" := by rfl) (hs : starEach [e] X.env = [(false, eval e X.env)] := by rfl) : TrI X (.Tuple elts kk tpos) (.Call (.Name "enumerate" p) [e] [] pos) (iEnum m) := .mk fun ρ xs ρ' h Q q => by
  obtain ⟨⟨t, ρ1⟩, e1, h⟩ := bind_some h
  obtain ⟨ys, e2, h⟩ := bind_some h
  cases h
  exact wi_enum hm (paU pa0 hs) (h0 ρ t ρ1 e1 _ ⟨_, lstT_some e2, q⟩) hg hs
end

/-! ### comprehensions -/
abbrev MC := MT
def cT : MC := fun ρ => some (true, ρ)
structure TrC (X : Cx) (ifs : List Expr) (m : MC) : Prop where
  run : ∀ ρ b ρ', m ρ = some (b, ρ') → ∀ Q : Bool → List T → Prop, Q b ρ' → WTs X ifs ρ Q
instance {X : Cx} {ifs : List Expr} {m : MC} : CoeFun (TrC X ifs m) (fun _ => ∀ ρ b ρ', m ρ = some (b, ρ') → ∀ Q : Bool → List T → Prop, Q b ρ' → WTs X ifs ρ Q) := ⟨TrC.run⟩
theorem tc_nil {X : Cx} : TrC X [] cT := .mk fun ρ b ρ' h Q q => by cases h; exact q
theorem tc_one {X : Cx} {c : Expr} {m : MT} (h0 : TrT X c m) : TrC X [c] m := .mk h0.run
def lcF (ws : List Nat) (g : MG) (c : MC) (e : M) : List T → List T → Option (List T × List T)
  | [], ρ => some ([], ρ)
  | t :: ts, ρ => (g t ρ).bd fun r => (c r).bd fun p => if p.1 then (e p.2).bd fun q => (lcF ws g c e ts (wipeT q.2 ws)).bd fun z => some (q.1 :: z.1, z.2) else lcF ws g c e ts (wipeT p.2 ws)
def mLc (ws : List Nat) (mi : MI) (g : MG) (c : MC) (e : M) : M := fun ρ => (mi ρ).bd fun p => (lcF ws g c e p.1 (wipeT p.2 ws)).bd fun q => some (.lst true q.1, q.2)
section
variable {X : Cx} {tg iter elt : Expr} {ifs : List Expr} {pos : Pos} {scope : Scope} {mi : MI} {g : MG} {c : MC} {m : M}
theorem lcp_ok (own : List (Str × Nat)) (h0 : TrI X tg iter mi) (h1 : ∀ b : Bc, TrG (fun j => !(own.map (·.2)).contains j) (bk X scope b) tg g) (h2 : ∀ b : Bc, TrC (bk X scope b) ifs c) (h3 : ∀ b : Bc, TrE (bk X scope b) elt m) {ρ ρ' : List T} {t : T}
    (h : mLc (own.map (·.2)) mi g c m ρ = some (t, ρ')) {Q : QT} (q : Q t ρ') : LcP X tg iter elt ifs scope own ρ Q := by
  obtain ⟨⟨xs, ρ1⟩, e1, h⟩ := bind_some h
  obtain ⟨⟨ys, ρ2⟩, e2, h⟩ := bind_some h
  cases h
  dsimp only at e2
  refine h0 ρ xs ρ1 e1 _ ⟨fun i acc ρ => ∃ zs, lcF (own.map (·.2)) g c m (xs.drop i) ρ = some (zs, ρ2) ∧ ys = acc ++ zs, ⟨ys, e2, rfl⟩, fun i t acc ρ6 hi iv b => ?_, fun acc ρ6 iv => ?_⟩
  · obtain ⟨zs, iv, ez⟩ := iv
    have e3 : xs.drop i = t :: xs.drop (i + 1) := by
      obtain ⟨hl, ht⟩ := List.getElem?_eq_some_iff.mp hi
      rw [List.drop_eq_getElem_cons hl, ht]
    rw [e3] at iv
    obtain ⟨r, e4, iv⟩ := bind_some iv
    obtain ⟨⟨k, ρ3⟩, e5, iv⟩ := bind_some iv
    dsimp only at iv
    refine h1 b t ρ6 r e4 _ fun b' => h2 b' r k ρ3 e5 _ ?_
    cases k with
    | false => exact iteF ⟨zs, iv, ez⟩
    | true =>
      rw [if_pos rfl] at iv
      obtain ⟨⟨y, ρ4⟩, e6, iv⟩ := bind_some iv
      obtain ⟨⟨us, ρ5⟩, e7, iv⟩ := bind_some iv
      cases iv
      refine iteT fun b'' => h3 b'' ρ3 y ρ4 e6 _ ⟨us, e7, ?_⟩
      rw [ez, List.append_assoc]
      rfl
  · obtain ⟨zs, iv, ez⟩ := iv
    rw [List.drop_length] at iv
    cases iv
    rw [List.append_nil] at ez
    rw [← ez]
    exact q
theorem tr_lc (own : List (Str × Nat)) (h0 : TrI X tg iter mi) (h1 : ∀ b : Bc, TrG (fun j => !(own.map (·.2)).contains j) (bk X scope b) tg g) (h2 : ∀ b : Bc, TrC (bk X scope b) ifs c) (h3 : ∀ b : Bc, TrE (bk X scope b) elt m)
    (ok : BlkOk X.N X.env.scope scope own) (hN : X.N.Nodup := by first | assumption | exact FnScope.nd (by assumption)) (hc : X.calm = true := by rfl) (hs : ∀ x, foldedSetIterable iter X.env x = pure x := by intro _; rfl) :
    TrE X (.ListComp elt [⟨tg, iter, ifs, 0⟩] scope pos) (mLc (own.map (·.2)) mi g c m) := .mk fun ρ t ρ' h Q q => w_lc own (lcp_ok own h0 h1 h2 h3 h q) ok hN hc hs
theorem ts_setLc {P : Nat → Bool} (i : Nat) {y : Str} {py spos : Pos} (own : List (Str × Nat)) (h0 : TrI X tg iter mi) (h1 : ∀ b : Bc, TrG (fun j => !(own.map (·.2)).contains j) (bk X scope b) tg g) (h2 : ∀ b : Bc, TrC (bk X scope b) ifs c) (h3 : ∀ b : Bc, TrE (bk X scope b) elt m)
    (ok : BlkOk X.N X.env.scope scope own) (hP : P i = false := by rfl)
    (hN : X.N.Nodup := by first | assumption | exact FnScope.nd (by assumption)) (hc : X.calm = true := by rfl) (hy : X.N[i]? = some y := by rfl) (hyl : X.env.scope.names.lookup y = some .local := by rfl)
    (hsw : swapsWith (.ListComp elt [⟨tg, iter, ifs, 0⟩] scope pos) (some (.Name y py)) spos.line X.env = pure true := by exact sw_true rfl rfl rfl (by decide +kernel)) (hs : ∀ x, foldedSetIterable iter X.env x = pure x := by intro _; rfl) :
    TrS P X (.Assign [.Name y py] (.ListComp elt [⟨tg, iter, ifs, 0⟩] scope pos) spos) (sSet i (mLc (own.map (·.2)) mi g c m)) := .mk fun ρ o ρ' h D q => by
  obtain ⟨⟨t, ρ1⟩, e1, h⟩ := bind_some h
  cases h
  exact ws_setLc i own (lcp_ok own h0 h1 h2 h3 e1 q) ok hP hN hc hy hyl hsw hs
end

/-! ### calls of defs -/
abbrev MF := Op
def bM (mf : MF) : BC := fun ts Q => ∃ t ts', mf ts = some (t, ts') ∧ Q t ts'
def mOp0 (f : MF) : M := fun ρ => (f []).bd fun q => some (q.1, ρ)
section
variable {X : Cx} {e : Expr} {es : List Expr} {pos p : Pos} {as : MA} {f : Addr} {fd : FuncData} {k : Nat} {ps : List Str} {x pn : Str} {mf : MF}
theorem tr_call (F : FnOk X.prog X.w X.K X.mg X.base CX0 k f fd ps (lift X.K (bM mf))) (hr : Room k X.A) (hm : X.mg x = some (.ref f)) (hk : PySem.W.keepIn X.K (.ref f) = true) (hb : Binds X.K fd ps []) (hp : PA X (e :: es) (UL X (e :: es))) (ha : TrA X (e :: es) as)
    (hg : Gl X x := by rfl) (hdb : (x == ("__debug__" : Str)) = false := by decide) (he : starEach (e :: es) X.env = (false, eval e X.env) :: starEach es X.env := by rfl) (hpl : (backTo pos (starEach es X.env)).any (·.1) = false := by rfl) : TrE X (.Call (.Name x p) (e :: es) [] pos) (mOp as mf) := .mk fun ρ t ρ' h Q q => by
  obtain ⟨bs, ρ1, ts', h1, h2, rfl⟩ := mOp_inv h
  exact w_call F hr hm hk hb hp (ha ρ bs ρ1 h1 _ ⟨t, ts', h2, q⟩) hg hdb he hpl
theorem tr_call0 (F : FnOk X.prog X.w X.K X.mg X.base CX0 k f fd ps (lift X.K (bM mf))) (hr : Room k X.A) (hm : X.mg x = some (.ref f)) (hk : PySem.W.keepIn X.K (.ref f) = true) (hb : Binds X.K fd ps [])
    (hg : Gl X x := by rfl) (hdb : (x == ("__debug__" : Str)) = false := by decide) : TrE X (.Call (.Name x p) [] [] pos) (mOp0 mf) := .mk fun ρ t ρ' h Q q => by
  obtain ⟨⟨u, us⟩, h1, h2⟩ := bind_some h
  cases h2
  exact w_call0 F hr hm hk hb ⟨u, us, h1, q⟩ hg hdb
theorem tr_callK1 {kp : Pos} (F : FnOk X.prog X.w X.K X.mg X.base CX0 k f fd [pn] (lift X.K (bM mf))) (hr : Room k X.A) (hm : X.mg x = some (.ref f)) (hk : PySem.W.keepIn X.K (.ref f) = true) (hb : KBinds X.K fd [pn] [pn] (fun us ws => us ++ ws) (fun vs zs => vs ++ zs)) (ha : TrA X [e] as)
    (hg : Gl X x := by rfl) (hdb : (x == ("__debug__" : Str)) = false := by decide)
    (hall : (backToKw pos (keywordEach [⟨some pn, e, kp⟩] X.env)).all (·.1.isSome) = true := by rfl) (hks : (backToKw pos (keywordEach [⟨some pn, e, kp⟩] X.env)).filterMap (·.1) = [pn] := by rfl)
    (hpl : ((backTo pos (starEach [] X.env)).any (·.1) || (backToKw pos (keywordEach [⟨some pn, e, kp⟩] X.env)).any (·.1.isNone)) = false := by rfl) : TrE X (.Call (.Name x p) [] [⟨some pn, e, kp⟩] pos) (mOp as mf) := .mk fun ρ t ρ' h Q q => by
  obtain ⟨bs, ρ1, ts', h1, h2, rfl⟩ := mOp_inv h
  exact w_callK1 F hr hm hk hb (ha ρ bs ρ1 h1 _ ⟨t, ts', h2, q⟩) hg hdb hall hks hpl
end

/-! ### methods of what is built in -/
def tyB (Tn : String) : T → Bool
  | .v (.str _) => Tn == "str"
  | .v (.int _) => Tn == "int"
  | .lst _ _ => Tn == "list"
  | .dK true _ _ => Tn == "dict"
  | .dT true _ _ => Tn == "dict"
  | _ => false
theorem tyB_T {Tn : String} {t : T} (h : tyB Tn t = true) : tyT Tn t := by
  unfold tyB at h
  split at h <;> first | exact eq_of_beq h | cases h
abbrev MR := List T → Option (Arg × List T)
structure TrR (X : Cx) (o : Expr) (pr : V → Hp → Prop) (m : MR) : Prop where
  run : ∀ ρ a ρ', m ρ = some (a, ρ') → ∀ Q : Arg → List T → Prop, Q a ρ' → WR X o pr ρ Q
instance {X : Cx} {o : Expr} {pr : V → Hp → Prop} {m : MR} : CoeFun (TrR X o pr m) (fun _ => ∀ ρ a ρ', m ρ = some (a, ρ') → ∀ Q : Arg → List T → Prop, Q a ρ' → WR X o pr ρ Q) := ⟨TrR.run⟩
def rAt (Tn : String) (i : Nat) : MR := fun ρ => (slot ρ i).bd fun t => if tyB Tn t then some (.at i, ρ) else none
def rVal (Tn : String) (m : M) : MR := fun ρ => (m ρ).bd fun p => if tyB Tn p.1 then some (.val p.1, p.2) else none
def mBm (r : MR) (as : MA) (f : Op) : M := fun ρ => (r ρ).bd fun a => (as a.2).bd fun p => (f (resT (a.1 :: p.1) p.2)).bd fun q => some (q.1, wb (a.1 :: p.1) q.2 (resR (a.1 :: p.1) p.2))
def mBm0 (r : MR) (f : Op) : M := fun ρ => (r ρ).bd fun a => (f (resT [a.1] a.2)).bd fun q => some (q.1, wb [a.1] q.2 (resR [a.1] a.2))
section
variable {X : Cx} {o e idx : Expr} {es : List Expr} {apos cpos pos p px : Pos} {name : Str} {Tn id : String} {r : MR} {as : MA} {f : Op} {m : M}
theorem trr_at (i : Nat) {x : Str} (hN : X.N[i]? = some x := by rfl) (hv : Vis X.env.scope x := by first | exact Or.inl rfl | exact Or.inr (Or.inl rfl) | exact Or.inr (Or.inr rfl)) (hd : (x == ("__debug__" : Str)) = false := by decide) (hcd : (x == ("__classdict__" : Str)) = false := by decide) :
    TrR X (.Name x pos) (tyV X.K Tn) (rAt Tn i) := .mk fun ρ a ρ' h Q q => by
  obtain ⟨t, h1, h⟩ := bind_some h
  obtain ⟨h2, h3⟩ := slot_some' h1
  split at h
  · rename_i ht
    cases h
    exact wr_at (tyT Tn) tyT_ok i h2 (tyB_T ht) h3 q hN hv hd hcd
  · cases h
theorem trr_val (h0 : TrE X e m) : TrR X e (tyV X.K Tn) (rVal Tn m) := .mk fun ρ a ρ' h Q q => by
  obtain ⟨⟨t, ρ1⟩, h1, h⟩ := bind_some h
  split at h
  · rename_i ht
    cases h
    exact wr_val (tyT Tn) tyT_ok (h0 ρ t ρ1 h1 _ ⟨tyB_T ht, q⟩)
  · cases h
theorem tr_bm (pa : PlainAttrs Tn) (slt : Slot Tn name id) (hty : typeOf (.builtin id) = pure (.type "method_descriptor")) (hp : PA X (e :: es) (UL X (e :: es))) (h0 : TrR X o (tyV X.K Tn) r) (h1 : TrA X (e :: es) as) (ho : TrO X.K (rM X id) f)
    (hbase : attributeBase o name X.env (eval o X.env) = eval o X.env := by rfl)
    (hfew : ((backTo cpos (starEach (e :: es) X.env)).all (fun x => !x.1) && (backToKw cpos (keywordEach [] X.env)).all (fun x => x.1.isSome)
      && decide ((e :: es).length + ([] : List Keyword).length + (if ([] : List Keyword).isEmpty then 0 else 1) < 30)) = true := by rfl)
    (hline : (apos.endLine == cpos.line) = true := by rfl) (hs : starEach (e :: es) X.env = (false, eval e X.env) :: starEach es X.env := by rfl) (hplain : (backTo cpos (starEach es X.env)).any (·.1) = false := by rfl) :
    TrE X (.Call (.Attribute o name apos) (e :: es) [] cpos) (mBm r as f) := .mk fun ρ t ρ' h Q q => by
  obtain ⟨⟨a, ρ1⟩, e1, h⟩ := bind_some h
  obtain ⟨⟨bs, ρ2⟩, e2, h⟩ := bind_some h
  obtain ⟨⟨u, ts'⟩, e3, h⟩ := bind_some h
  cases h
  exact w_bm pa slt hty hp (h0 ρ a ρ1 e1 _ (h1 ρ1 bs ρ2 e2 _ (ho _ _ _ e3 _ q))) hbase hfew hline hs hplain
theorem tr_bm0 (pa : PlainAttrs Tn) (slt : Slot Tn name id) (hty : typeOf (.builtin id) = pure (.type "method_descriptor")) (h0 : TrR X o (tyV X.K Tn) r) (ho : TrO X.K (rM X id) f)
    (hbase : attributeBase o name X.env (eval o X.env) = eval o X.env := by rfl) (hline : (apos.endLine == cpos.line) = true := by rfl) :
    TrE X (.Call (.Attribute o name apos) [] [] cpos) (mBm0 r f) := .mk fun ρ t ρ' h Q q => by
  obtain ⟨⟨a, ρ1⟩, e1, h⟩ := bind_some h
  obtain ⟨⟨u, ts'⟩, e3, h⟩ := bind_some h
  cases h
  exact w_bm0 pa slt hty (h0 ρ a ρ1 e1 _ (ho _ _ _ e3 _ q)) hbase hline
/-- a slot lent to what waits -/
theorem wa_frame {i : Nat} {t : T} {ρ : List T} {Q : List Arg → List T → Prop} (hi : ρ[i]? = some t) (h : WA X es (ρ.set i .gone) fun as ρ2 => ρ2.length = ρ.length ∧ Q as (ρ2.set i t)) : WA X es ρ Q := fun L σ H fr fv QV st k => by
  have hil : i < ρ.length := (List.getElem?_eq_some_iff.mp hi).1
  have hs : i < σ.length := by rw [← st.len]; exact hil
  by_cases ht : t = .gone
  · subst ht
    rw [set_getD hi] at h
    refine h L σ H fr fv QV st fun as ρ2 vs H2 ⟨l, q⟩ ok s2 => k as _ vs H2 q ok ?_
    -- a slot is forgotten
    obtain ⟨y, hy⟩ : ∃ y, σ[i]? = some y := ⟨_, List.getElem?_eq_getElem hs⟩
    have la := argsOk_length ok
    have l2 : ρ2.length = σ.length := by rw [l, st.len]
    have h1 : Rp ⟨X.K, L⟩ (ρ2 ++ (as.map Arg.t ++ fr)) (σ ++ (vs.map some ++ fv)) H2 := Rp.swap (by simpa [List.append_assoc] using s2.rp) (by simpa using la) l2
    have h2 := Rp.put (t := .gone) (o := y) (h1.gone y) l2 (by rw [l]; exact hil)
    rw [set_getD hy] at h2
    have h3 := Rp.swap h2 (by rw [List.length_set, l2]) (by simpa using la)
    refine ⟨by simp [List.length_set, l, st.len, la], ?_, s2.sz⟩
    simpa [List.append_assoc] using h3
  obtain ⟨y, hy⟩ := slot_some st hi ht
  have h1 := st.rp.take st.len hy
  rw [getD_of hi] at h1
  have l1 : (ρ.set i .gone).length = σ.length := by rw [List.length_set, st.len]
  have s1 : Stt ⟨X.K, L⟩ (ρ.set i .gone) σ H (t :: fr) (some y :: fv) := ⟨l1, Rp.swap (t1 := [t]) (v1 := [some y]) h1 rfl l1, st.sz⟩
  refine h L σ H (t :: fr) (some y :: fv) QV s1 fun as ρ2 vs H2 ⟨l, q⟩ ok s2 => k as _ vs H2 q ok ?_
  have la := argsOk_length ok
  have l2 : ρ2.length = σ.length := by rw [l, st.len]
  have h2 : Rp ⟨X.K, L⟩ (as.map Arg.t ++ (ρ2 ++ ([t] ++ fr))) (vs.map some ++ (σ ++ ([some y] ++ fv))) H2 := by simpa [List.append_assoc] using s2.rp
  have h3 := Rp.front h2 (by simpa using la) l2 rfl
  have h4 : Rp ⟨X.K, L⟩ (t :: (ρ2 ++ (as.map Arg.t ++ fr))) (some y :: (σ ++ (vs.map some ++ fv))) H2 := Rp.back (t3 := [t]) (v3 := [some y]) (t1 := ρ2) (v1 := σ) (t2 := as.map Arg.t) (v2 := vs.map some) (by
    have := Rp.swap (t1 := [t] ++ as.map Arg.t) (v1 := [some y] ++ vs.map some) (t2 := ρ2) (v2 := σ) (by simpa [List.append_assoc] using h3) (by simp [la]) l2
    have h5 := Rp.swap (t1 := ρ2) (v1 := σ) (t2 := [t]) (v2 := [some y]) (by simpa [List.append_assoc] using this) l2 rfl
    exact h5) l2 (by simpa using la) rfl |> fun h => by
    have := Rp.front (t3 := [t]) (v3 := [some y]) h l2 (by simpa using la) rfl
    exact this
  have h5 := Rp.put h4 l2 (by rw [l]; exact hil)
  rw [set_getD hy] at h5
  have h6 := Rp.swap h5 (by rw [List.length_set, l2]) (by simpa using la)
  refine ⟨by simp [List.length_set, l, st.len, la], ?_, s2.sz⟩
  simpa [List.append_assoc] using h6
end
end DL

/-! FL3: methods of parts, defs, instances. -/
namespace DL
open PySem PySem.Spec L2 PyProof.Rows

/-! ### x[i].name(..) -/
def allVal : List Arg → Bool
  | [] => true
  | .val _ :: as => allVal as
  | _ => false
theorem allVal_ok : ∀ {as : List Arg} {ρ : List T}, allVal as = true → resT as ρ = as.map Arg.t ∧ resR as ρ = ρ ∧ ∀ us, wb as us ρ = ρ
  | [], ρ, _ => ⟨rfl, rfl, fun us => by cases us <;> (unfold wb; rfl)⟩
  | .val t :: as, ρ, h => by
    obtain ⟨h1, h2, h3⟩ := allVal_ok (as := as) (ρ := ρ) h
    refine ⟨?_, ?_, fun us => ?_⟩
    · show t :: resT as ρ = _
      rw [h1]
      rfl
    · exact h2
    · cases us with
      | nil => unfold wb; rfl
      | cons u us => exact h3 us
/-- an index into the list of a slot: the place, what is there, all -/
def kidIx (i : Nat) (mi : M) (ρ : List T) : Option (T × Nat × List T × List T) := (slot ρ i).bd fun _ => (mi ρ).bd fun p => (intT p.1).bd fun k => (p.2[i]?).bd fun c => match c with
  | .lst true xs => (ixN xs.length k).bd fun j => (xs[j]?).bd fun u => some (u, j, xs, p.2)
  | _ => none
def mSub (Tn : String) (i : Nat) (mi : M) (ar : MA) (f : Op) : M := fun ρ => (kidIx i mi ρ).bd fun z => if tyB Tn z.1 then (ar (z.2.2.2.set i .gone)).bd fun q => if q.2.length = z.2.2.2.length ∧ allVal q.1 = true then (f (z.1 :: q.1.map Arg.t)).bd fun r => match r.2 with
    | u' :: _ => some (r.1, q.2.set i (.lst true (z.2.2.1.set z.2.1 u')))
    | [] => none
    else none
  else none
section
variable {X : Cx} {o e idx : Expr} {es : List Expr} {apos cpos pos p px : Pos} {name : Str} {Tn id : String} {as : MA} {f : Op} {m : M}
theorem tr_sub (i : Nat) {x : Str} (pa : PlainAttrs Tn) (slt : Slot Tn name id) (hty : typeOf (.builtin id) = pure (.type "method_descriptor")) (hp : PA X (e :: es) (UL X (e :: es))) (h0 : TrE X idx m) (h1 : TrA X (e :: es) as) (ho : TrO X.K (rM X id) f)
    (hbase : attributeBase (.Subscript (.Name x px) idx pos) name X.env (eval (.Subscript (.Name x px) idx pos) X.env) = eval (.Subscript (.Name x px) idx pos) X.env := by rfl)
    (hfew : ((backTo cpos (starEach (e :: es) X.env)).all (fun x => !x.1) && (backToKw cpos (keywordEach [] X.env)).all (fun x => x.1.isSome)
      && decide ((e :: es).length + ([] : List Keyword).length + (if ([] : List Keyword).isEmpty then 0 else 1) < 30)) = true := by rfl)
    (hline : (apos.endLine == cpos.line) = true := by rfl) (hs : starEach (e :: es) X.env = (false, eval e X.env) :: starEach es X.env := by rfl) (hplain : (backTo cpos (starEach es X.env)).any (·.1) = false := by rfl)
    (hsi : PlainIx idx := by exact fun _ _ => rfl) (hN : X.N[i]? = some x := by rfl)
    (hv : Vis X.env.scope x := by first | exact Or.inl rfl | exact Or.inr (Or.inl rfl) | exact Or.inr (Or.inr rfl)) (hd : (x == ("__debug__" : Str)) = false := by decide) (hcd : (x == ("__classdict__" : Str)) = false := by decide) :
    TrE X (.Call (.Attribute (.Subscript (.Name x px) idx pos) name apos) (e :: es) [] cpos) (mSub Tn i m as f) := .mk fun ρ t ρ' h Q q => by
  obtain ⟨⟨u, j, xs, ρ1⟩, e1, h⟩ := bind_some h
  obtain ⟨t0, e2, e1⟩ := bind_some e1
  obtain ⟨⟨k0, ρ1'⟩, e3, e1⟩ := bind_some e1
  obtain ⟨k, e4, e1⟩ := bind_some e1
  obtain ⟨c, e5, e1⟩ := bind_some e1
  dsimp only at e4 e5 e1 h
  split at e1
  · rename_i xs'
    obtain ⟨j', e6, e1⟩ := bind_some e1
    obtain ⟨u', e7, e1⟩ := bind_some e1
    cases e1
    split at h
    · rename_i ht
      obtain ⟨⟨bs, ρ2⟩, e8, h⟩ := bind_some h
      dsimp only at h
      split at h
      · rename_i hc
        obtain ⟨hl, hall⟩ := hc
        obtain ⟨⟨r, us⟩, e9, h⟩ := bind_some h
        dsimp only at h
        cases us with
        | nil => cases h
        | cons u1 us =>
          cases h
          obtain ⟨h3, h4⟩ := slot_some' e2
          refine w_bm pa slt hty hp (wr_subL (tyT Tn) tyT_ok i h3 h4 (h0 ρ k0 ρ1 e3 _ ⟨k, xs, j, u, intT_some e4, e5, e6, e7, tyB_T ht, fun v => ?_⟩) hsi hN hv hd hcd) hbase hfew hline hs hplain
          have hil : i < ρ1.length := (List.getElem?_eq_some_iff.mp e5).1
          refine wa_frame (i := i) (t := .lst true (xs.set j (.v v))) (by rw [List.getElem?_set_self hil]) ?_
          rw [List.set_set]
          refine h1 _ bs ρ2 e8 _ ⟨by rw [List.length_set, hl], ?_⟩
          obtain ⟨a1, a2, a3⟩ := allVal_ok (as := bs) (ρ := ρ2.set i (.lst true (xs.set j (.v v)))) hall
          show OpT X.K (rM X id) (u :: resT bs (ρ2.set i (.lst true (xs.set j (.v v))))) fun q ts' => Q q (wb (.sub u v i j :: bs) ts' (resR bs (ρ2.set i (.lst true (xs.set j (.v v))))))
          rw [a1, a2]
          refine ho _ _ _ e9 _ ?_
          show Q t (wb bs us (putKid (ρ2.set i (.lst true (xs.set j (.v v)))) i j v u1))
          have hil2 : i < ρ2.length := by rw [hl]; exact hil
          have hj : j < xs.length := (List.getElem?_eq_some_iff.mp e7).1
          rw [putKid_l (o := true) (xs := xs.set j (.v v)) (by rw [List.getElem?_set_self hil2]) rfl (by rw [List.getElem?_set_self hj]), (allVal_ok hall).2.2]
          rw [List.set_set, List.set_set]
          exact q
      · cases h
    · cases h
  · cases e1
end

/-! ### a def -/
def pinF (bs : List Bool) (i : Nat) : Bool := bs.getD i false
def defF (n : Nat) (P : Nat → Bool) (gs : List T) (body : MS) : MF := fun args => if args.length = n then (body (args ++ gs)).bd fun p => match p.1 with
    | .rt t => some (t, maskT P 0 n p.2)
    | .nx => some (T.non, maskT P 0 n p.2)
    | _ => none
  else none
section
variable {Pg : Program} {w : World} {K : PySem.W.Frag} {mg : Str → Option Value} {base : Heap}
theorem def_ok {x qual : Str} {st : Stmt} {f : Addr} {fd : FuncData} {N ps : List Str} {k : Nat} {mb : MS} (F : Fun K x qual st f fd) (S : FnScope N ps (defScope st)) (P : Nat → Bool) (n : Nat) (gs : List T)
    (body : ∀ (cdv : Value) (A : Around) (outer : List Env) (s : Shared) (H : Hp) (E : XK), Room k (A.deeper (envOfC qual (defScope st) s.heap.objs.size f cdv)) →
      TrSs P (cxOf CX0 Pg w K mg base N qual (defScope st) f cdv A outer s H E).nox (defBody st) mb)
    (hn : ps.length = n := by rfl) (hg : gs = List.replicate (N.length - ps.length) .gone := by rfl) : FnOk Pg w K mg base CX0 (k + 1) f fd ps (lift K (bM (defF n P gs mb))) := by
  refine fn_okN F S P n gs (fun ts Q h => ?_) (fun cdv A outer s H E ts Q hr h => ?_) hn hg
  · obtain ⟨t, ts', h, _⟩ := h
    unfold defF at h
    split at h
    · assumption
    · cases h
  · obtain ⟨t, ts', h, q⟩ := h
    unfold defF at h
    split at h
    · obtain ⟨⟨o, ρ⟩, e1, h⟩ := bind_some h
      refine body cdv A outer s H E hr _ o ρ e1 _ ?_
      cases o with
      | nx => cases h; exact q
      | rt t => cases h; exact q
      | bk => cases h
      | ct => cases h
    · cases h
end

/-! ### instances -/
/-- C(..) -/
def mMake (C : Addr) (as : MA) (mf : MF) : M := fun ρ => (as ρ).bd fun p => (mf (.ins true C [] [] :: resT p.1 p.2)).bd fun q => match q.1, q.2 with
  | .v .non, t :: us => if us.length = p.1.length then some (t, wb p.1 us (resR p.1 p.2)) else none
  | _, _ => none
section
variable {X : Cx} {e : Expr} {es : List Expr} {pos p : Pos} {as : MA} {f C : Addr} {fd : FuncData} {k : Nat} {ps : List Str} {x : Str} {mf : MF}
theorem Rp.newI {K : KL} {ts : List T} {vs : List (Option V)} {H : Hp} {x dx C : Addr} (h : Rp K ts vs H) (h1 : H x = none) (h2 : H dx = none) (hn : dx ≠ x) : Rp K (.ins true C [] [] :: ts) (some (.ref x) :: vs) (upd (upd H dx (.own x)) x (.ins C dx [])) := by
  have r1 := Rp.tl (Rp.new (.own x) h h2)
  have r2 := Rp.new (.ins C dx []) r1 (by rw [upd_ne hn.symm]; exact h1)
  have r3 := Rp.fillI (C := C) (dx := dx) (fs := []) (ts := []) (vs := []) (us := ts) (ws := vs) r2 rfl rfl
  rw [upd_upd] at r3
  exact r3
theorem tr_make (Mk' : Mk X.K C f) (F : FnOk X.prog X.w X.K X.mg X.base CX0 k f fd ps (lift X.K (bM mf))) (hr : Room (k + 1) X.A) (hm : X.mg x = some (.ref C)) (hb : Binds X.K fd ps []) (hp : PA X (e :: es) (UL X (e :: es))) (ha : TrA X (e :: es) as)
    (hg : Gl X x := by rfl) (hdb : (x == ("__debug__" : Str)) = false := by decide) (he : starEach (e :: es) X.env = (false, eval e X.env) :: starEach es X.env := by rfl) (hpl : (backTo pos (starEach es X.env)).any (·.1) = false := by rfl) : TrE X (.Call (.Name x p) (e :: es) [] pos) (mMake C as mf) := .mk fun ρ t ρ' h Q q => by
  obtain ⟨⟨bs, ρ1⟩, e1, h⟩ := bind_some h
  obtain ⟨⟨u, us⟩, e2, h⟩ := bind_some h
  dsimp only at e2 h
  split at h
  · rename_i t' us'
    split at h
    · rename_i hl
      cases h
      refine w_op (es := e :: es) (r := fun vs H Q => ∀ x dx, H x = none → H dx = none → dx ≠ x → lift X.K (bM mf) (.ref x :: vs) (upd (upd H dx (.own x)) x (.ins C dx [])) (fun v H2 => v = .non ∧ Q (.ref x) H2) E0)
        (fun σ H QV hq => U_of (pe_make Mk' F hr hg hm hb .nil pass0 hp hdb he hpl) ?_) (ha ρ bs ρ1 e1 _ ?_)
      · exact UL_imp hq fun vs H1 q x dx h1 h2 hn => by rw [List.append_nil]; exact q x dx h1 h2 hn
      · intro L H fr fv vs QV l rp sz kk x dx h1 h2 hn
        refine ⟨L, _, fr, fv, fun r ts => r = T.non ∧ ts = t :: us', ⟨T.non, t :: us', e2, rfl, rfl⟩, congrArg Nat.succ l, Rp.newI rp h1 h2 hn, ?_⟩
        rintro r ts' v H' ⟨rfl, rfl⟩ hl' rp'
        have ev := Rp.sc_inv rp'
        cases ev
        exact ⟨rfl, kk t us' (.ref x) H' q (by rw [hl, (res_length bs ρ1).1]) (Rp.tl rp')⟩
    · cases h
  · cases h
end
/-! ### still, told by a Bool -/
mutual
def fzB : T → Bool
  | .gone => true
  | .hole => false
  | .ro _ => true
  | .v _ => true
  | .lst o ts => !o && fzLB ts
  | .tup ts => fzLB ts
  | .dK o _ ts => !o && fzLB ts
  | .dT o _ ts => !o && fzLB ts
  | .ins o _ _ ts => !o && fzLB ts
def fzLB : List T → Bool
  | [] => true
  | t :: ts => fzB t && fzLB ts
end
mutual
theorem fzB_ok : ∀ {t : T}, fzB t = true → Fz t
  | .gone, _ => by unfold Fz; trivial
  | .hole, h => by unfold fzB at h; cases h
  | .ro _, _ => by unfold Fz; trivial
  | .v _, _ => by unfold Fz; trivial
  | .lst o ts, h => by
    unfold fzB at h; unfold Fz
    cases o with
    | true => cases h
    | false => exact ⟨rfl, fzLB_ok h⟩
  | .tup ts, h => by unfold fzB at h; unfold Fz; exact fzLB_ok h
  | .dK o _ ts, h => by
    unfold fzB at h; unfold Fz
    cases o with
    | true => cases h
    | false => exact ⟨rfl, fzLB_ok h⟩
  | .dT o _ ts, h => by
    unfold fzB at h; unfold Fz
    cases o with
    | true => cases h
    | false => exact ⟨rfl, fzLB_ok h⟩
  | .ins o _ _ ts, h => by
    unfold fzB at h; unfold Fz
    cases o with
    | true => cases h
    | false => exact ⟨rfl, fzLB_ok h⟩
theorem fzLB_ok : ∀ {ts : List T}, fzLB ts = true → FzL ts
  | [], _ => fzL_nil
  | t :: ts, h => by
    unfold fzLB at h
    obtain ⟨h1, h2⟩ := Bool.and_eq_true_iff.mp h
    exact fzL_cons (fzB_ok h1) (fzLB_ok h2)
end
mutual
theorem Fz_B : ∀ {t : T}, Fz t → fzB t = true
  | .gone, _ => by unfold fzB; rfl
  | .hole, h => by unfold Fz at h; exact h.elim
  | .ro _, _ => by unfold fzB; rfl
  | .v _, _ => by unfold fzB; rfl
  | .lst o ts, h => by unfold Fz at h; unfold fzB; rw [h.1, FzL_B h.2]; rfl
  | .tup ts, h => by unfold Fz at h; unfold fzB; exact FzL_B h
  | .dK o _ ts, h => by unfold Fz at h; unfold fzB; rw [h.1, FzL_B h.2]; rfl
  | .dT o _ ts, h => by unfold Fz at h; unfold fzB; rw [h.1, FzL_B h.2]; rfl
  | .ins o _ _ ts, h => by unfold Fz at h; unfold fzB; rw [h.1, FzL_B h.2]; rfl
theorem FzL_B : ∀ {ts : List T}, FzL ts → fzLB ts = true
  | [], _ => by unfold fzLB; rfl
  | t :: ts, h => by unfold FzL at h; unfold fzLB; rw [Fz_B h.1, FzL_B h.2]; rfl
end
theorem fzB_iff {t : T} : fzB t = true ↔ Fz t := ⟨fzB_ok, Fz_B⟩
theorem fzLB_iff {ts : List T} : fzLB ts = true ↔ FzL ts := ⟨fzLB_ok, FzL_B⟩
/-- o.f read -/
def idxF (f : Str) (fs : List Str) : Option Nat := fs.findIdx? (fun g => decide (g = f))
def fFld (C : Addr) (f : Str) : Op := fun ts => match ts with
  | [.ins o C' fs xs] => if C' = C then (idxF f fs).bd fun j => (xs[j]?).bd fun t => if fzB t then some (t, [.ins o C' fs xs]) else none else none
  | _ => none
theorem lookup_idx {f : Str} : ∀ {fs : List Str} {ws : List V} {j : Nat} {v : V}, idxF f fs = some j → ws[j]? = some v → (fs.zip ws).lookup f = some v := by
  intro fs
  induction fs with
  | nil => intro ws j v h; cases h
  | cons g fs ih =>
    intro ws j v h e
    unfold idxF at h
    rw [List.findIdx?_cons] at h
    cases ws with
    | nil => simp at e
    | cons w ws =>
      rw [List.zip_cons_cons, List.lookup_cons]
      by_cases c : g = f
      · subst c
        rw [if_pos (decide_eq_true rfl)] at h
        cases h
        cases e
        rw [beq_self_eq_true]
      · rw [if_neg (by simpa using c)] at h
        have : (f == g) = false := beq_eq_false_iff_ne.mpr fun z => c z.symm
        rw [this]
        cases hh : List.findIdx? (fun g => decide (g = f)) fs with
        | none => rw [hh] at h; cases h
        | some i =>
          rw [hh] at h
          cases h
          exact ih hh (by simpa using e)
theorem to_fld {K : PySem.W.Frag} {C : Addr} {f : Str} (c : Cls K C) (na : NoAttr K C f) : TrO K (r1 (rFld K f)) (fFld C f) := .mk fun ts t ts' h Q q => by
  unfold fFld at h
  split at h
  · rename_i o C' fs xs
    split at h
    · rename_i hC
      subst hC
      obtain ⟨j, e1, h⟩ := bind_some h
      obtain ⟨u, e2, h⟩ := bind_some h
      split at h
      · rename_i hz
        cases h
        intro L H fr fv vs QV l rp sz k
        obtain ⟨a, rfl⟩ := len1 l
        obtain ⟨p, dx, ws, e, h1, l1, pt⟩ := Rp.rdI (ts := fr) (w := some a) (vs := fv) rp
        cases e
        have hj : j < ws.length := by rw [← pt.1]; exact (List.getElem?_eq_some_iff.mp e2).1
        have e3 : ws[j]? = some ws[j] := List.getElem?_eq_getElem hj
        exact ⟨.ref p, rfl, p, C', dx, _, ws[j], rfl, h1, c, na, lookup_idx e1 e3, k _ _ _ H q rfl (pt.2 j _ _ e2 e3 (fzB_ok hz))⟩
      · cases h
    · cases h
  · cases h
/-- o.f = e -/
def fSetF (C : Addr) (f : Str) : Op := fun ts => match ts with
  | [y, .ins true C' fs xs] => if C' = C then if fs.length < 1000 then match idxF f fs with
      | some j => some (T.non, [.gone, .ins true C' fs (xs.set j y)])
      | none => some (T.non, [.gone, .ins true C' (fs ++ [f]) (xs ++ [y])])
    else none else none
  | _ => none
theorem putF_on {f : Str} {v : V} : ∀ {fs : List Str} {ws : List V} {j : Nat}, fs.length = ws.length → idxF f fs = some j → putF f v (fs.zip ws) = fs.zip (ws.set j v) := by
  intro fs
  induction fs with
  | nil => intro ws j _ h; cases h
  | cons g fs ih =>
    intro ws j l h
    unfold idxF at h
    rw [List.findIdx?_cons] at h
    cases ws with
    | nil => cases l
    | cons w ws =>
      rw [List.zip_cons_cons]
      by_cases c : g = f
      · subst c
        rw [if_pos (decide_eq_true rfl)] at h
        cases h
        show (if g = g then _ else _) = _
        rw [if_pos rfl]
        rfl
      · rw [if_neg (by simpa using c)] at h
        cases hh : List.findIdx? (fun g => decide (g = f)) fs with
        | none => rw [hh] at h; cases h
        | some i =>
          rw [hh] at h
          cases h
          show (if g = f then _ else _) = _
          rw [if_neg c, ih (Nat.succ.inj l) hh]
          rfl
theorem putF_off {f : Str} {v : V} : ∀ {fs : List Str} {ws : List V}, fs.length = ws.length → idxF f fs = none → putF f v (fs.zip ws) = (fs ++ [f]).zip (ws ++ [v]) := by
  intro fs
  induction fs with
  | nil =>
    intro ws l h
    cases ws with
    | nil => rfl
    | cons _ _ => cases l
  | cons g fs ih =>
    intro ws l h
    unfold idxF at h
    rw [List.findIdx?_cons] at h
    cases ws with
    | nil => cases l
    | cons w ws =>
      by_cases c : g = f
      · subst c
        rw [if_pos (decide_eq_true rfl)] at h
        cases h
      · rw [if_neg (by simpa using c)] at h
        cases hh : List.findIdx? (fun g => decide (g = f)) fs with
        | some i => rw [hh] at h; cases h
        | none =>
          rw [List.zip_cons_cons]
          show (if g = f then _ else _) = _
          rw [if_neg c, ih (Nat.succ.inj l) hh]
          rfl
theorem to_setF {K : PySem.W.Frag} {C : Addr} {f : Str} (c : Cls K C) (na : NoAttr K C f) : TrO K (rSetF K f) (fSetF C f) := .mk fun ts t ts' h Q q => by
  unfold fSetF at h
  split at h
  · rename_i y C' fs xs
    split at h
    · rename_i hC
      subst hC
      split at h
      · rename_i hl
        intro L H fr fv vs QV l rp sz k
        obtain ⟨a, b, rfl⟩ := len2 l
        have rp1 : Rp ⟨K, L⟩ (.ins true C' fs xs :: y :: fr) (some b :: some a :: fv) H := Rp.snd rp
        obtain ⟨p, vs, e, ⟨⟨dx, h1⟩, l1⟩, l2, r2⟩ := Rp.openI rp1
        cases e
        have r3 : Rp ⟨K, L⟩ (.hole :: (xs ++ ([y] ++ fr))) (some (.ref p) :: (vs.map some ++ ([some a] ++ fv))) H := r2
        split at h
        · rename_i j e1
          cases h
          refine ⟨a, .ref p, rfl, p, C', dx, _, rfl, h1, c, na, ?_, ?_⟩
          · rw [List.length_zip, l1, Nat.min_self, ← l1]; exact hl
          · rw [putF_on l1 e1]
            have r4 : Rp ⟨K, L⟩ (y :: (xs ++ (.hole :: fr))) (some a :: (vs.map some ++ (some (.ref p) :: fv))) H := by
              have a1 := Rp.front (t1 := [.hole]) (v1 := [some (.ref p)]) (t2 := xs) (v2 := vs.map some) (t3 := [y]) (v3 := [some a]) r3 rfl (by simp [l2]) rfl
              have a2 : Rp ⟨K, L⟩ ([y] ++ ([.hole] ++ (xs ++ fr))) ([some a] ++ ([some (.ref p)] ++ (vs.map some ++ fv))) H := a1
              have a3 := Rp.front (t1 := [y]) (v1 := [some a]) (t2 := [.hole]) (v2 := [some (.ref p)]) (t3 := xs) (v3 := vs.map some) a2 rfl rfl (by simp [l2])
              have a4 := Rp.swap (t1 := xs) (v1 := vs.map some) (t2 := [y]) (v2 := [some a]) a3 (by simp [l2]) rfl
              exact a4
            by_cases hj : j < xs.length
            · have r5 := Rp.put (ρ := xs) (σ := vs.map some) r4 (by simp [l2]) hj
              have r6 : Rp ⟨K, L⟩ (.hole :: (xs.set j y ++ fr)) (some (.ref p) :: ((vs.set j a).map some ++ fv)) H := by
                rw [List.map_set]
                exact Rp.swap (t2 := [.hole]) (v2 := [some (.ref p)]) r5 (by simp [l2]) rfl
              have r7 := Rp.fillI (C := C') (dx := dx) (fs := fs) r6 (by simp [l2]) (by simp [l1])
              exact k _ _ _ _ q rfl (Rp.sc _ (Rp.gone (some a) r7 |> fun z => Rp.snd (Rp.snd z)))
            · exfalso
              unfold idxF at e1
              have := List.findIdx?_eq_some_iff_getElem.mp e1
              obtain ⟨hj2, _⟩ := this
              omega
        · rename_i e1
          cases h
          refine ⟨a, .ref p, rfl, p, C', dx, _, rfl, h1, c, na, ?_, ?_⟩
          · rw [List.length_zip, l1, Nat.min_self, ← l1]; exact hl
          · rw [putF_off l1 e1]
            have r6 : Rp ⟨K, L⟩ (.hole :: ((xs ++ [y]) ++ fr)) (some (.ref p) :: ((vs ++ [a]).map some ++ fv)) H := by simpa [List.append_assoc] using r3
            have r7 := Rp.fillI (C := C') (dx := dx) (fs := fs ++ [f]) r6 (by simp [l2]) (by simp [l1])
            exact k _ _ _ _ q rfl (Rp.sc _ (Rp.gone (some a) r7 |> fun z => Rp.snd (Rp.snd z)))
      · cases h
    · cases h
  · cases h
end DL

/-! FL4: operations. -/
namespace DL
open PySem PySem.Spec L2
instance {i j : Int} : Decidable (CMul i j) := by unfold CMul; exact inferInstance
instance {i j : Int} : Decidable (CDiv i j) := by unfold CDiv; exact inferInstance
instance {i j : Int} : Decidable (CPow i j) := by unfold CPow; exact inferInstance

/-! binary operators -/
def fAdd : Op := fun ts => match ts with
  | [.v (.int i), .v (.int j)] => some (T.int (i + j), ts)
  | [.v (.str i), .v (.str j)] => gd (szB (i.length + j.length)) (some (T.str (i ++ j), ts))
  | [.lst o xs, .lst o2 ys] => gd (fzLB xs && (fzLB ys && szB (xs.length + ys.length))) (some (.lst true (xs ++ ys), ts))
  | _ => none
def fSub : Op := fun ts => match ts with
  | [.v (.int i), .v (.int j)] => some (T.int (i - j), ts)
  | _ => none
def fMul : Op := fun ts => match ts with
  | [.v (.int i), .v (.int j)] => gd (decide (CMul i j)) (some (T.int (i * j), ts))
  | _ => none
def fDiv : Op := fun ts => match ts with
  | [.v (.int i), .v (.int j)] => gd (decide (CDiv i j)) (some (T.int (i / j), ts))
  | _ => none
def fMod : Op := fun ts => match ts with
  | [.v (.int i), .v (.int j)] => gd (decide (0 < j)) (some (T.int (i % j), ts))
  | _ => none
def fPow : Op := fun ts => match ts with
  | [.v (.int i), .v (.int j)] => gd (decide (CPow i j)) (some (T.int (i ^ j.toNat), ts))
  | _ => none
def fNeg : Op := fun ts => match ts with
  | [.v (.int i)] => some (T.int (-i), ts)
  | _ => none
/-! comparisons -/
def fLt : Op := fun ts => match ts with
  | [.v (.int i), .v (.int j)] => some (T.bl (decide (i < j)), ts)
  | [.v (.str i), .v (.str j)] => some (T.bl (decide (i.cps.toList < j.cps.toList)), ts)
  | _ => none
def fLe : Op := fun ts => match ts with
  | [.v (.int i), .v (.int j)] => some (T.bl (decide (i ≤ j)), ts)
  | [.v (.str i), .v (.str j)] => some (T.bl (!decide (j.cps.toList < i.cps.toList)), ts)
  | _ => none
def fGt : Op := fun ts => match ts with
  | [.v (.int i), .v (.int j)] => some (T.bl (decide (j < i)), ts)
  | [.v (.str i), .v (.str j)] => some (T.bl (decide (j.cps.toList < i.cps.toList)), ts)
  | _ => none
def fGe : Op := fun ts => match ts with
  | [.v (.int i), .v (.int j)] => some (T.bl (decide (j ≤ i)), ts)
  | [.v (.str i), .v (.str j)] => some (T.bl (!decide (i.cps.toList < j.cps.toList)), ts)
  | _ => none
def fIs : Op := fun ts => match ts with
  | [.v x, .v .non] => some (T.bl (decide (x = .non)), ts)
  | [.v (.bl a), .v (.bl b)] => some (T.bl (decide (a = b)), ts)
  | _ => none
def fIsNot : Op := fun ts => match ts with
  | [.v x, .v .non] => some (T.bl (!decide (x = .non)), ts)
  | [.v (.bl a), .v (.bl b)] => some (T.bl (!decide (a = b)), ts)
  | _ => none
/-- == of data -/
def eqD (t u : T) : Option Bool := (pdT t).bd fun d => (pdT u).bd fun e => gd (SeqAt.shaped d && SeqAt.shaped e) (some (PyData.eqv d e))
def fEq : Op := fun ts => match ts with
  | [.v x, .v y] => gd (scal x y) (some (T.bl (decide (x = y)), ts))
  | [t, u] => (eqD t u).bd fun b => some (T.bl b, ts)
  | _ => none
def fNe : Op := fun ts => match ts with
  | [.v x, .v y] => gd (scal x y) (some (T.bl (!decide (x = y)), ts))
  | [t, u] => (eqD t u).bd fun b => some (T.bl (!b), ts)
  | _ => none
/-- a list of plain values -/
def vsL : List T → Option (List V)
  | [] => some []
  | .v x :: ts => (vsL ts).bd fun xs => some (x :: xs)
  | _ => none
theorem vsL_some : ∀ {ts : List T} {xs : List V}, vsL ts = some xs → ts = xs.map T.v
  | [], xs, h => by cases h; rfl
  | t :: ts, xs, h => by
    unfold vsL at h
    split at h
    · rename_i e; cases e
    · rename_i x ts' e
      obtain ⟨ys, e1, h⟩ := bind_some h
      cases h
      cases e
      rw [vsL_some e1]
      rfl
    · cases h
@[simp] theorem vsL_map (xs : List V) : vsL (xs.map T.v) = some xs := by
  induction xs with
  | nil => rfl
  | cons x xs ih => rw [List.map_cons, vsL, ih]; rfl
def keyOf : T → Option Key
  | .v (.int i) => some (.inl i)
  | .v (.str s) => some (.inr s)
  | _ => none
theorem keyOf_some {t : T} {k : Key} (h : keyOf t = some k) : t = keyT k := by
  unfold keyOf at h
  split at h <;> first | (cases h; rfl) | cases h
@[simp] theorem keyOf_keyT (k : Key) : keyOf (keyT k) = some k := by cases k <;> rfl
def keysOf : List T → Option (List Key)
  | [] => some []
  | t :: ts => (keyOf t).bd fun k => (keysOf ts).bd fun ks => some (k :: ks)
theorem keysOf_some : ∀ {ts : List T} {ks : List Key}, keysOf ts = some ks → ts = ks.map keyT
  | [], ks, h => by cases h; rfl
  | t :: ts, ks, h => by
    obtain ⟨k, e1, h⟩ := bind_some h
    obtain ⟨ks', e2, h⟩ := bind_some h
    cases h
    rw [keyOf_some e1, keysOf_some e2]
    rfl
@[simp] theorem keysOf_map (ks : List Key) : keysOf (ks.map keyT) = some ks := by
  induction ks with
  | nil => rfl
  | cons k ks ih => rw [List.map_cons, keysOf, keyOf_keyT, ih]; rfl
/-- x in l: flat values, or data -/
def inB (t : T) (xs : List T) (l : Bool) : Option Bool := match t, vsL xs with
  | .v x, some ws => gd (flatV x && ws.all flatV) (some (inV x ws))
  | _, _ => gd l ((pdT t).bd fun d => (pdL xs).bd fun ds => gd (SeqAt.shaped d && SeqAt.shaped (.list ds)) (some (ds.any fun z => PyData.eqv z d)))
def insB : T → T → Option Bool
  | .v (.str s), .v (.str z) => match s.cps.toList with
    | [c] => some (decide (c ∈ z.cps.toList))
    | _ => none
  | t, .lst _ xs => inB t xs true
  | t, .tup xs => inB t xs false
  | t, .dK _ ks _ => (keyOf t).bd fun k => some (hasK ks k)
  | .tup ts, .dT _ ks _ => (keysOf ts).bd fun k => some (hasK ks k)
  | _, _ => none
def fIn : Op := fun ts => match ts with
  | [t, u] => (insB t u).bd fun b => some (T.bl b, ts)
  | _ => none
def fNotIn : Op := fun ts => match ts with
  | [t, u] => (insB t u).bd fun b => some (T.bl (!b), ts)
  | _ => none
/-! o[i] -/
def fIx : Op := fun ts => match ts with
  | [.v (.str z), .v (.int i)] => gd (szB z.length) ((atI z.cps.toList i).bd fun c => some (T.str ⟨#[c]⟩, ts))
  | [.lst o xs, .v (.int i)] => (atI xs i).bd fun t => gd (fzB t) (some (t, ts))
  | [.tup xs, .v (.int i)] => (atI xs i).bd fun t => gd (fzB t) (some (t, ts))
  | [.dK o ks xs, k] => (keyOf k).bd fun k => (ks.findIdx? fun x => decide (x = k)).bd fun j => (xs[j]?).bd fun t => gd (fzB t) (some (t, ts))
  | [.dT o ks xs, .tup k] => (keysOf k).bd fun k => (ks.findIdx? fun x => decide (x = k)).bd fun j => (xs[j]?).bd fun t => gd (fzB t) (some (t, ts))
  | _ => none
def fSt : Op := fun ts => match ts with
  | [t, .lst true xs, .v (.int i)] => (ixN xs.length i).bd fun j => some (T.non, [.gone, .lst true (xs.set j t), T.int i])
  | _ => none
def fLst : Op := fun ts => gd (szB ts.length) (some (.lst true ts, goneL ts))
def fTup : Op := fun ts => gd (szB ts.length) (some (.tup ts, goneL ts))
/-! slices -/
def slT (lo hi : Option Int) : T → Option (T × T)
  | .v (.str z) => gd (szB z.length) (some (T.str (cutS z lo hi), T.str z))
  | .lst o xs => gd (fzLB xs) (some (.lst true (cutL xs lo hi), .lst o xs))
  | .tup xs => gd (fzLB xs) (some (.tup (cutL xs lo hi), .tup xs))
  | _ => none
def fSl00 : Op := fun ts => match ts with
  | [t] => (slT none none t).bd fun p => some (p.1, [p.2])
  | _ => none
def fSl10 : Op := fun ts => match ts with
  | [t, .v (.int i)] => (slT (some i) none t).bd fun p => some (p.1, [p.2, T.int i])
  | _ => none
def fSl01 : Op := fun ts => match ts with
  | [t, .v (.int i)] => (slT none (some i) t).bd fun p => some (p.1, [p.2, T.int i])
  | _ => none
def fSl11 (i j : Int) : Op := fun ts => match ts with
  | [t] => (slT (some i) (some j) t).bd fun p => some (p.1, [p.2])
  | _ => none
/-! what is built in -/
def fLen : Op := fun ts => match ts with
  | [.v (.str z)] => gd (szB z.length) (some (T.int z.length, ts))
  | [.lst o xs] => some (T.int xs.length, ts)
  | [.tup xs] => some (T.int xs.length, ts)
  | _ => none
def fInt : Op := fun ts => match ts with
  | [.v (.int i)] => some (T.int i, ts)
  | [.v (.bl b)] => some (T.int (if b then 1 else 0), ts)
  | _ => none
def fStr : Op := fun ts => match ts with
  | [.v (.int i)] => gd (decide (i.natAbs.log2 < 1920)) (some (T.str (toString i), ts))
  | _ => none
def tysL : List T → Option (List String)
  | [] => some []
  | .v (.ty c) :: ts => (tysL ts).bd fun cs => some (c :: cs)
  | _ => none
theorem tysL_some : ∀ {ts : List T} {xs : List String}, tysL ts = some xs → ts = (xs.map V.ty).map T.v
  | [], xs, h => by cases h; rfl
  | t :: ts, xs, h => by
    unfold tysL at h
    split at h
    · rename_i e; cases e
    · rename_i x ts' e
      obtain ⟨ys, e1, h⟩ := bind_some h
      cases h
      cases e
      rw [tysL_some e1]
      rfl
    · cases h
def fIsi : Op := fun ts => match ts with
  | [t, .v (.ty c)] => (kindT t).bd fun k => (kitB k c).bd fun b => some (T.bl b, ts)
  | [t, .tup cs] => (kindT t).bd fun k => (tysL cs).bd fun cs => (kitBs k cs).bd fun b => some (T.bl b, ts)
  | _ => none
def blsL : List T → Option (List Bool)
  | [] => some []
  | .v (.bl b) :: ts => (blsL ts).bd fun bs => some (b :: bs)
  | _ => none
theorem blsL_some : ∀ {ts : List T} {xs : List Bool}, blsL ts = some xs → ts = xs.map T.bl
  | [], xs, h => by cases h; rfl
  | t :: ts, xs, h => by
    unfold blsL at h
    split at h
    · rename_i e; cases e
    · rename_i x ts' e
      obtain ⟨ys, e1, h⟩ := bind_some h
      cases h
      cases e
      rw [blsL_some e1]
      rfl
    · cases h
@[simp] theorem blsL_map (xs : List Bool) : blsL (xs.map T.bl) = some xs := by
  induction xs with
  | nil => rfl
  | cons x xs ih => rw [List.map_cons, blsL, ih]; rfl
def fAll : Op := fun ts => match ts with
  | [.lst o xs] => (blsL xs).bd fun bs => some (T.bl (bs.all id), ts)
  | _ => none
def fAny : Op := fun ts => match ts with
  | [.lst o xs] => (blsL xs).bd fun bs => some (T.bl (bs.any id), ts)
  | _ => none
def fList : Op := fun ts => match ts with
  | [.lst o xs] => gd (fzLB xs) (some (.lst true xs, ts))
  | [.tup xs] => gd (fzLB xs) (some (.lst true xs, ts))
  | [.ro xs] => some (.lst true (xs.map T.v), ts)
  | [.v (.str z)] => gd (szB z.cps.size) (some (.lst true (sgnT z), ts))
  | _ => none
def fTuple : Op := fun ts => match ts with
  | [.lst o xs] => gd (fzLB xs) (some (.tup xs, ts))
  | [.tup xs] => gd (fzLB xs) (some (.tup xs, ts))
  | _ => none
def prL : List T → Option (List Key × List T)
  | [] => some ([], [])
  | .tup [k, t] :: ts => (keyOf k).bd fun k => (prL ts).bd fun p => some (k :: p.1, t :: p.2)
  | _ => none
theorem prL_some : ∀ {ts : List T} {ks : List Key} {xs : List T}, prL ts = some (ks, xs) → ts = List.zipWith pairT ks xs ∧ ks.length = xs.length
  | [], ks, xs, h => by cases h; exact ⟨rfl, rfl⟩
  | t :: ts, ks, xs, h => by
    unfold prL at h
    split at h
    · rename_i e; cases e
    · rename_i k u ts' e
      obtain ⟨k', e1, h⟩ := bind_some h
      obtain ⟨⟨ks', us⟩, e2, h⟩ := bind_some h
      cases h
      cases e
      obtain ⟨h1, h2⟩ := prL_some e2
      refine ⟨?_, congrArg Nat.succ h2⟩
      rw [h1, keyOf_some e1]
      rfl
    · cases h
def fDict : Op := fun ts => match ts with
  | [.lst o ps] => (prL ps).bd fun p => gd (decide p.1.Nodup && fzLB p.2) (some (.dK true p.1 p.2, ts))
  | _ => none
/-- list(d.items()) -/
def fItems : Op := fun ts => match ts with
  | [.dK o ks xs] => gd (fzLB xs && (decide (ks.length = xs.length) && decide ks.Nodup)) (some (.lst true (List.zipWith pairT ks xs), ts))
  | _ => none
/-! methods -/
def fAppend : Op := fun ts => match ts with
  | [.lst true xs, t] => gd (szB (xs.length + 1)) (some (T.non, [.lst true (xs ++ [t]), .gone]))
  | _ => none
def fPopAt : Op := fun ts => match ts with
  | [.lst true xs, .v (.int i)] => gd (decide (-(2 ^ 63) ≤ i ∧ i < 2 ^ 63)) ((seqIndex? i xs.length).bd fun j => (xs[j]?).bd fun t => some (t, [.lst true (xs.eraseIdx j), T.int i]))
  | _ => none
def strsL : List T → Option (List Str)
  | [] => some []
  | .v (.str b) :: ts => (strsL ts).bd fun bs => some (b :: bs)
  | _ => none
theorem strsL_some : ∀ {ts : List T} {xs : List Str}, strsL ts = some xs → ts = xs.map T.str
  | [], xs, h => by cases h; rfl
  | t :: ts, xs, h => by
    unfold strsL at h
    split at h
    · rename_i e; cases e
    · rename_i x ts' e
      obtain ⟨ys, e1, h⟩ := bind_some h
      cases h
      cases e
      rw [strsL_some e1]
      rfl
    · cases h
@[simp] theorem strsL_map (xs : List Str) : strsL (xs.map T.str) = some xs := by
  induction xs with
  | nil => rfl
  | cons x xs ih => rw [List.map_cons, strsL, ih]; rfl
def fJoin : Op := fun ts => match ts with
  | [.v (.str a), .lst o xs] => (strsL xs).bd fun ys => gd (decide ((ys.map (·.length)).sum + ys.length * a.length ≤ 16777216)) (some (T.str (Txt.join a ys), ts))
  | _ => none

section
variable {X : Cx}
theorem to_add : TrO X.K (r2 (rOp X (binaryOp .Add))) fAdd := .mk fun ts t ts' h Q q => by
  unfold fAdd at h
  split at h
  · cases h; exact b_add q
  · obtain ⟨h1, h⟩ := gd_some h; cases h; exact b_addS (szB_ok h1) q
  · obtain ⟨h1, h⟩ := gd_some h; cases h
    obtain ⟨h2, h1⟩ := Bool.and_eq_true_iff.mp h1
    obtain ⟨h3, h1⟩ := Bool.and_eq_true_iff.mp h1
    exact b_cat (fzLB_ok h2) (fzLB_ok h3) (szB_ok h1) q
  · cases h
theorem to_sub : TrO X.K (r2 (rOp X (binaryOp .Sub))) fSub := .mk fun ts t ts' h Q q => by
  unfold fSub at h
  split at h
  · cases h; exact b_sub q
  · cases h
theorem to_mul : TrO X.K (r2 (rOp X (binaryOp .Mult))) fMul := .mk fun ts t ts' h Q q => by
  unfold fMul at h
  split at h
  · obtain ⟨h1, h⟩ := gd_some h; cases h; exact b_mul (of_decide_eq_true h1) q
  · cases h
theorem to_div : TrO X.K (r2 (rOp X (binaryOp .FloorDiv))) fDiv := .mk fun ts t ts' h Q q => by
  unfold fDiv at h
  split at h
  · obtain ⟨h1, h⟩ := gd_some h; cases h; exact b_div (of_decide_eq_true h1) q
  · cases h
theorem to_mod : TrO X.K (r2 (rOp X (binaryOp .Mod))) fMod := .mk fun ts t ts' h Q q => by
  unfold fMod at h
  split at h
  · obtain ⟨h1, h⟩ := gd_some h; cases h; exact b_mod (of_decide_eq_true h1) q
  · cases h
theorem to_pow : TrO X.K (r2 (rOp X (binaryOp .Pow))) fPow := .mk fun ts t ts' h Q q => by
  unfold fPow at h
  split at h
  · obtain ⟨h1, h⟩ := gd_some h; cases h; exact b_pow (of_decide_eq_true h1) q
  · cases h
theorem to_neg : TrO X.K (r1 (rUn X (unaryOp .USub))) fNeg := .mk fun ts t ts' h Q q => by
  unfold fNeg at h
  split at h
  · cases h; exact u_neg q
  · cases h
theorem to_lt : TrO X.K (r2 (rOp X (compareOp .Lt))) fLt := .mk fun ts t ts' h Q q => by
  unfold fLt at h
  split at h
  · cases h; exact c_lt q
  · cases h; exact c_ltS q
  · cases h
theorem to_le : TrO X.K (r2 (rOp X (compareOp .LtE))) fLe := .mk fun ts t ts' h Q q => by
  unfold fLe at h
  split at h
  · cases h; exact c_le q
  · cases h; exact c_leS q
  · cases h
theorem to_gt : TrO X.K (r2 (rOp X (compareOp .Gt))) fGt := .mk fun ts t ts' h Q q => by
  unfold fGt at h
  split at h
  · cases h; exact c_gt q
  · cases h; exact c_gtS q
  · cases h
theorem to_ge : TrO X.K (r2 (rOp X (compareOp .GtE))) fGe := .mk fun ts t ts' h Q q => by
  unfold fGe at h
  split at h
  · cases h; exact c_ge q
  · cases h; exact c_geS q
  · cases h
theorem to_is : TrO X.K (r2 (rOp X (compareOp .Is))) fIs := .mk fun ts t ts' h Q q => by
  unfold fIs at h
  split at h
  · cases h; exact c_isN q
  · cases h; exact c_isBl q
  · cases h
theorem to_isNot : TrO X.K (r2 (rOp X (compareOp .IsNot))) fIsNot := .mk fun ts t ts' h Q q => by
  unfold fIsNot at h
  split at h
  · cases h; exact c_notN q
  · cases h; exact c_notBl q
  · cases h
theorem eqD_some {t u : T} {b : Bool} (h : eqD t u = some b) : ∃ d e, pdT t = some d ∧ pdT u = some e ∧ SeqAt.shaped d = true ∧ SeqAt.shaped e = true ∧ PyData.eqv d e = b := by
  obtain ⟨d, e1, h⟩ := bind_some h
  obtain ⟨e, e2, h⟩ := bind_some h
  obtain ⟨h1, h⟩ := gd_some h
  cases h
  obtain ⟨h2, h3⟩ := Bool.and_eq_true_iff.mp h1
  exact ⟨d, e, e1, e2, h2, h3, rfl⟩
theorem to_eq (hu : X.A.units + 64 < cLine) : TrO X.K (r2 (rOp X (compareOp .Eq))) fEq := .mk fun ts t ts' h Q q => by
  unfold fEq at h
  split at h
  · obtain ⟨h1, h⟩ := gd_some h; cases h; exact c_eq h1 q
  · obtain ⟨b, h1, h⟩ := bind_some h
    cases h
    obtain ⟨d, e, e1, e2, s1, s2, rfl⟩ := eqD_some h1
    exact c_eqD hu e1 e2 s1 s2 q
  · cases h
theorem to_ne (hu : X.A.units + 64 < cLine) : TrO X.K (r2 (rOp X (compareOp .NotEq))) fNe := .mk fun ts t ts' h Q q => by
  unfold fNe at h
  split at h
  · obtain ⟨h1, h⟩ := gd_some h; cases h; exact c_ne h1 q
  · obtain ⟨b, h1, h⟩ := bind_some h
    cases h
    obtain ⟨d, e, e1, e2, s1, s2, rfl⟩ := eqD_some h1
    exact c_neD hu e1 e2 s1 s2 q
  · cases h
theorem str_one {s : Str} {c : Nat} (h : s.cps.toList = [c]) : s = ⟨#[c]⟩ := by
  cases s with
  | mk cps =>
    have : cps = #[c] := by
      rw [← Array.toList_inj]
      exact h
    rw [this]
theorem inB_some {t : T} {xs : List T} {l b : Bool} (h : inB t xs l = some b) : (∃ x ws, t = .v x ∧ xs = ws.map T.v ∧ flatV x = true ∧ ws.all flatV = true ∧ b = inV x ws) ∨
    (l = true ∧ ∃ d ds, pdT t = some d ∧ pdL xs = some ds ∧ SeqAt.shaped d = true ∧ SeqAt.shaped (.list ds) = true ∧ b = ds.any fun z => PyData.eqv z d) := by
  unfold inB at h
  split at h
  · rename_i x ws e
    obtain ⟨h1, h⟩ := gd_some h
    cases h
    obtain ⟨h2, h3⟩ := Bool.and_eq_true_iff.mp h1
    exact .inl ⟨x, ws, rfl, vsL_some e, h2, h3, rfl⟩
  · obtain ⟨h1, h⟩ := gd_some h
    obtain ⟨d, e1, h⟩ := bind_some h
    obtain ⟨ds, e2, h⟩ := bind_some h
    obtain ⟨h3, h⟩ := gd_some h
    cases h
    obtain ⟨h4, h5⟩ := Bool.and_eq_true_iff.mp h3
    exact .inr ⟨h1, d, ds, e1, e2, h4, h5, rfl⟩
theorem pdT_lst {o : Bool} {xs : List T} {ds : List PyData} (h : pdL xs = some ds) : pdT (.lst o xs) = some (.list ds) := by unfold pdT; rw [h]; rfl
theorem to_in (hu : X.A.units + 65 < cLine) : TrO X.K (r2 (rOp X (compareOp .In))) fIn := .mk fun ts t ts' h Q q => by
  unfold fIn at h
  split at h
  · obtain ⟨b, h1, h⟩ := bind_some h
    cases h
    unfold insB at h1
    split at h1
    · split at h1
      · rename_i c e
        cases h1
        rw [str_one e]
        rw [str_one e] at q
        exact c_inSign q
      · cases h1
    · rcases inB_some h1 with ⟨x, ws, rfl, rfl, f1, f2, rfl⟩ | ⟨_, d, ds, e1, e2, s1, s2, rfl⟩
      · exact c_inL f1 f2 q
      · exact c_inD hu e1 (pdT_lst e2) s1 s2 q
    · rcases inB_some h1 with ⟨x, ws, rfl, rfl, f1, f2, rfl⟩ | ⟨z, _⟩
      · exact c_inT f1 f2 q
      · cases z
    · obtain ⟨k, e1, h1⟩ := bind_some h1
      cases h1
      rw [keyOf_some e1]
      rw [keyOf_some e1] at q
      exact c_inK (by omega) q
    · obtain ⟨k, e1, h1⟩ := bind_some h1
      cases h1
      rw [keysOf_some e1]
      rw [keysOf_some e1] at q
      exact c_inDT (by omega) q
    · cases h1
  · cases h
theorem to_notIn (hu : X.A.units + 65 < cLine) : TrO X.K (r2 (rOp X (compareOp .NotIn))) fNotIn := .mk fun ts t ts' h Q q => by
  unfold fNotIn at h
  split at h
  · obtain ⟨b, h1, h⟩ := bind_some h
    cases h
    unfold insB at h1
    split at h1
    · split at h1
      · rename_i c e
        cases h1
        rw [str_one e]
        rw [str_one e] at q
        exact c_notInSign q
      · cases h1
    · rcases inB_some h1 with ⟨x, ws, rfl, rfl, f1, f2, rfl⟩ | ⟨_, d, ds, e1, e2, s1, s2, rfl⟩
      · exact c_notInL f1 f2 q
      · exact c_notInD hu e1 (pdT_lst e2) s1 s2 q
    · rcases inB_some h1 with ⟨x, ws, rfl, rfl, f1, f2, rfl⟩ | ⟨z, _⟩
      · exact c_notInT f1 f2 q
      · cases z
    · obtain ⟨k, e1, h1⟩ := bind_some h1
      cases h1
      rw [keyOf_some e1]
      rw [keyOf_some e1] at q
      exact c_notInK (by omega) q
    · obtain ⟨k, e1, h1⟩ := bind_some h1
      cases h1
      rw [keysOf_some e1]
      rw [keysOf_some e1] at q
      exact c_notInDT (by omega) q
    · cases h1
  · cases h
theorem find_at {κ : Type} [DecidableEq κ] {ks : List κ} {k : κ} {j : Nat} (h : (ks.findIdx? fun x => decide (x = k)) = some j) : ks[j]? = some k := by
  obtain ⟨h1, h2, _⟩ := List.findIdx?_eq_some_iff_getElem.mp h
  rw [List.getElem?_eq_getElem h1, of_decide_eq_true h2]
theorem to_ix (hu : X.A.units + 1 < cLine) : TrO X.K (r2 (rIxU X)) fIx := .mk fun ts t ts' h Q q => by
  unfold fIx at h
  split at h
  · obtain ⟨h1, h⟩ := gd_some h
    obtain ⟨c, e1, h⟩ := bind_some h
    cases h
    exact ix_s (szB_ok h1) e1 q
  · obtain ⟨u, e1, h⟩ := bind_some h
    obtain ⟨h1, h⟩ := gd_some h
    cases h
    exact ix_l e1 (fzB_ok h1) q
  · obtain ⟨u, e1, h⟩ := bind_some h
    obtain ⟨h1, h⟩ := gd_some h
    cases h
    exact ix_t e1 (fzB_ok h1) q
  · obtain ⟨k, e1, h⟩ := bind_some h
    obtain ⟨j, e2, h⟩ := bind_some h
    obtain ⟨u, e3, h⟩ := bind_some h
    obtain ⟨h1, h⟩ := gd_some h
    cases h
    rw [keyOf_some e1]
    rw [keyOf_some e1] at q
    exact ix_dK hu (find_at e2) e3 (fzB_ok h1) q
  · obtain ⟨k, e1, h⟩ := bind_some h
    obtain ⟨j, e2, h⟩ := bind_some h
    obtain ⟨u, e3, h⟩ := bind_some h
    obtain ⟨h1, h⟩ := gd_some h
    cases h
    rw [keysOf_some e1]
    rw [keysOf_some e1] at q
    exact ix_dT hu (find_at e2) e3 (fzB_ok h1) q
  · cases h
theorem to_st : TrO X.K (rSet X) fSt := .mk fun ts t ts' h Q q => by
  unfold fSt at h
  split at h
  · obtain ⟨j, e1, h⟩ := bind_some h
    cases h
    exact st_l e1 q
  · cases h
theorem to_lst : TrO X.K rLst fLst := .mk fun ts t ts' h Q q => by
  obtain ⟨h1, h⟩ := gd_some h; cases h; exact d_lst (szB_ok h1) q
theorem to_tup : TrO X.K rTup fTup := .mk fun ts t ts' h Q q => by
  obtain ⟨h1, h⟩ := gd_some h; cases h; exact d_tup (szB_ok h1) q
theorem slT_ok {lo hi : Option Int} {t a b : T} (h : slT lo hi t = some (a, b)) {Q : T → T → Prop} (q : Q a b) : OpSl X t lo hi Q := by
  unfold slT at h
  split at h
  · obtain ⟨h1, h⟩ := gd_some h; cases h; exact so_s (szB_ok h1) q
  · obtain ⟨h1, h⟩ := gd_some h; cases h; exact so_l (fzLB_ok h1) q
  · obtain ⟨h1, h⟩ := gd_some h; cases h; exact so_t (fzLB_ok h1) q
  · cases h
theorem to_sl00 : TrO X.K (rS X sl00) fSl00 := .mk fun ts t ts' h Q q => by
  unfold fSl00 at h
  split at h
  · obtain ⟨⟨a, b⟩, e1, h⟩ := bind_some h; cases h; exact s_00 (slT_ok e1 q)
  · cases h
theorem to_sl10 : TrO X.K (rS X sl10) fSl10 := .mk fun ts t ts' h Q q => by
  unfold fSl10 at h
  split at h
  · obtain ⟨⟨a, b⟩, e1, h⟩ := bind_some h; cases h; exact s_10 (slT_ok e1 q)
  · cases h
theorem to_sl01 : TrO X.K (rS X sl01) fSl01 := .mk fun ts t ts' h Q q => by
  unfold fSl01 at h
  split at h
  · obtain ⟨⟨a, b⟩, e1, h⟩ := bind_some h; cases h; exact s_01 (slT_ok e1 q)
  · cases h
theorem to_sl11 (i j : Int) : TrO X.K (rS2 X i j) (fSl11 i j) := .mk fun ts t ts' h Q q => by
  unfold fSl11 at h
  split at h
  · obtain ⟨⟨a, b⟩, e1, h⟩ := bind_some h; cases h; exact s_11 (slT_ok e1 q)
  · cases h
theorem to_len : TrO X.K (rCl X (.builtin "len")) fLen := .mk fun ts t ts' h Q q => by
  unfold fLen at h
  split at h
  · obtain ⟨h1, h⟩ := gd_some h; cases h; exact k_lenS (szB_ok h1) q
  · cases h; exact k_lenL q
  · cases h; exact k_lenT q
  · cases h
theorem to_int : TrO X.K (rCl X (.type "int")) fInt := .mk fun ts t ts' h Q q => by
  unfold fInt at h
  split at h
  · cases h; exact k_int q
  · cases h; exact k_intB q
  · cases h
theorem to_str : TrO X.K (rCl X (.type "str")) fStr := .mk fun ts t ts' h Q q => by
  unfold fStr at h
  split at h
  · obtain ⟨h1, h⟩ := gd_some h; cases h; exact k_strI (of_decide_eq_true h1) q
  · cases h
theorem to_isi : TrO X.K (rCl X (.builtin "isinstance")) fIsi := .mk fun ts t ts' h Q q => by
  unfold fIsi at h
  split at h
  · obtain ⟨k, e1, h⟩ := bind_some h
    obtain ⟨b, e2, h⟩ := bind_some h
    cases h
    exact k_isi e1 q e2
  · obtain ⟨k, e1, h⟩ := bind_some h
    obtain ⟨cs, e2, h⟩ := bind_some h
    obtain ⟨b, e3, h⟩ := bind_some h
    cases h
    rw [tysL_some e2]
    rw [tysL_some e2] at q
    exact k_isiT cs e1 q e3
  · cases h
theorem to_all (hc : X.calm = true) : TrO X.K (rCl X (.builtin "all")) fAll := .mk fun ts t ts' h Q q => by
  unfold fAll at h
  split at h
  · obtain ⟨bs, e1, h⟩ := bind_some h
    cases h
    rw [blsL_some e1]
    rw [blsL_some e1] at q
    exact k_all q hc
  · cases h
theorem to_any (hc : X.calm = true) : TrO X.K (rCl X (.builtin "any")) fAny := .mk fun ts t ts' h Q q => by
  unfold fAny at h
  split at h
  · obtain ⟨bs, e1, h⟩ := bind_some h
    cases h
    rw [blsL_some e1]
    rw [blsL_some e1] at q
    exact k_any q hc
  · cases h
theorem to_list (hc : X.calm = true) : TrO X.K (rCl X (.type "list")) fList := .mk fun ts t ts' h Q q => by
  unfold fList at h
  split at h
  · obtain ⟨h1, h⟩ := gd_some h; cases h; exact k_listL (fzLB_ok h1) q
  · obtain ⟨h1, h⟩ := gd_some h; cases h; exact k_listT (fzLB_ok h1) q
  · cases h; exact k_listR q
  · obtain ⟨h1, h⟩ := gd_some h; cases h; exact k_listS (szB_ok h1) q hc
  · cases h
theorem to_tuple : TrO X.K (rCl X (.type "tuple")) fTuple := .mk fun ts t ts' h Q q => by
  unfold fTuple at h
  split at h
  · obtain ⟨h1, h⟩ := gd_some h; cases h; exact k_tupL (fzLB_ok h1) q
  · obtain ⟨h1, h⟩ := gd_some h; cases h; exact k_tupT (fzLB_ok h1) q
  · cases h
theorem to_dict (hc : X.calm = true) : TrO X.K (rCl X (.type "dict")) fDict := .mk fun ts t ts' h Q q => by
  unfold fDict at h
  split at h
  · obtain ⟨⟨ks, xs⟩, e1, h⟩ := bind_some h
    obtain ⟨h1, h⟩ := gd_some h
    cases h
    obtain ⟨h2, h3⟩ := Bool.and_eq_true_iff.mp h1
    obtain ⟨e2, l⟩ := prL_some e1
    rw [e2]
    rw [e2] at q
    exact k_dictP l (of_decide_eq_true h2) (fzLB_ok h3) q hc
  · cases h
theorem to_items : TrO X.K rItemsR fItems := .mk fun ts t ts' h Q q => by
  unfold fItems at h
  split at h
  · obtain ⟨h1, h⟩ := gd_some h
    cases h
    obtain ⟨h2, h3⟩ := Bool.and_eq_true_iff.mp h1
    exact k_items (fzLB_ok h2) fun _ _ => q
  · cases h
theorem to_append : TrO X.K (rM X "list.append") fAppend := .mk fun ts t ts' h Q q => by
  unfold fAppend at h
  split at h
  · obtain ⟨h1, h⟩ := gd_some h; cases h; exact m_append (szB_ok h1) q
  · cases h
theorem to_popAt : TrO X.K (rM X "list.pop") fPopAt := .mk fun ts t ts' h Q q => by
  unfold fPopAt at h
  split at h
  · obtain ⟨h1, h⟩ := gd_some h
    obtain ⟨j, e1, h⟩ := bind_some h
    obtain ⟨u, e2, h⟩ := bind_some h
    cases h
    exact m_popAt (of_decide_eq_true h1) e1 e2 q
  · cases h
theorem to_join : TrO X.K (rM X "str.join") fJoin := .mk fun ts t ts' h Q q => by
  unfold fJoin at h
  split at h
  · obtain ⟨ys, e1, h⟩ := bind_some h
    obtain ⟨h1, h⟩ := gd_some h
    cases h
    rw [strsL_some e1]
    rw [strsL_some e1] at q
    exact m_join (of_decide_eq_true h1) q
  · cases h
end
/-! list(d.items()), {k: v} -/
section
variable {X : Cx} {e kx vx : Expr} {pos p apos cpos : Pos} {as : MA} {f : Op} {mk mv : M}
theorem tr_listItems (hm : X.mg "list" = none) (ha : TrA X [e] as) (ho : TrO X.K rItemsR f)
    (hc : X.calm = true := by rfl) (hg : Gl X "list" := by rfl) (hbase : attributeBase e "items" X.env (eval e X.env) = eval e X.env := by rfl) (hline : (apos.endLine == cpos.line) = true := by rfl)
    (hs : starEach [.Call (.Attribute e "items" apos) [] [] cpos] X.env = (false, eval (.Call (.Attribute e "items" apos) [] [] cpos) X.env) :: starEach [] X.env := by rfl) : TrE X (.Call (.Name "list" p) [.Call (.Attribute e "items" apos) [] [] cpos] [] pos) (mOp as f) := .mk fun ρ t ρ' h Q q => by
  obtain ⟨bs, ρ1, ts', h1, h2, rfl⟩ := mOp_inv h
  exact w_listItems hm (ha ρ bs ρ1 h1 _ (ho _ _ _ h2 _ q)) hc hg hbase hline hs
def mD0 : M := fun ρ => some (.dK true [] [], ρ)
def mD0T : M := fun ρ => some (.dT true [] [], ρ)
def mD1 (mk mv : M) : M := fun ρ => (mk ρ).bd fun p => (keyOf p.1).bd fun k => (mv p.2).bd fun q => some (.dK true [k] [q.1], q.2)
theorem tr_d0 : TrE X (.Dict [] [] pos) mD0 := .mk fun ρ t ρ' h Q q => by cases h; exact w_dnew q
theorem tr_d0T : TrE X (.Dict [] [] pos) mD0T := .mk fun ρ t ρ' h Q q => by cases h; exact w_dnewT q
theorem tr_d1 (h1 : TrE X kx mk) (h2 : TrE X vx mv) : TrE X (.Dict [some kx] [vx] pos) (mD1 mk mv) := .mk fun ρ t ρ' h Q q => by
  obtain ⟨⟨u, ρ1⟩, e1, h⟩ := bind_some h
  obtain ⟨k, e2, h⟩ := bind_some h
  obtain ⟨⟨w, ρ2⟩, e3, h⟩ := bind_some h
  cases h
  exact w_disp1 (h1 ρ u ρ1 e1 _ ⟨k, keyOf_some e2, h2 ρ1 w _ e3 _ q⟩)
end
end DL

/-! FL5: parts as operands of comparisons; a def that says nothing. -/
namespace DL
open PySem PySem.Spec L2 PyProof.Rows
theorem hu65 {A : Around} {k : Nat} (hr : Room k A) : A.units + 65 < cLine := by have := hr.un; omega
section
variable {Pg : Program} {w : World} {K : PySem.W.Frag} {mg : Str → Option Value} {base : Heap}
theorem def_none {x qual : Str} {st : Stmt} {f : Addr} {fd : FuncData} {N ps : List Str} {k : Nat} (F : Fun K x qual st f fd) (S : FnScope N ps (defScope st)) (hk : 0 < k := by decide) : FnOk Pg w K mg base CX0 k f fd ps (lift K (bM fun _ => none)) := by
  obtain ⟨k, rfl⟩ : ∃ j, k = j + 1 := ⟨k - 1, by omega⟩
  refine fn_okN F S (fun _ => false) ps.length _ (fun ts Q h => ?_) (fun cdv A outer s H E ts Q hr h => ?_) rfl rfl
  · obtain ⟨t, ts', h, _⟩ := h
    cases h
  · obtain ⟨t, ts', h, _⟩ := h
    cases h
end
/-- a part, and other values, under an operation -/
def mSubO (i : Nat) (mi : M) (ar : MA) (f : Op) : M := fun ρ => (kidIx i mi ρ).bd fun z => (ar (z.2.2.2.set i .gone)).bd fun q => if q.2.length = z.2.2.2.length ∧ allVal q.1 = true then (f (z.1 :: q.1.map Arg.t)).bd fun r => match r.2 with
    | u' :: _ => some (r.1, q.2.set i (.lst true (z.2.2.1.set z.2.1 u')))
    | [] => none
    else none
section
variable {X : Cx} {o e idx b : Expr} {es : List Expr} {pos p px : Pos} {as : MA} {f : Op} {m : M}
theorem subO_wa {r : List V → Hp → VK → Prop} (i : Nat) {x : Str} (h0 : TrE X idx m) (h1 : TrA X es as) (ho : TrO X.K r f) (hsi : PlainIx idx) (hN : X.N[i]? = some x)
    (hv : Vis X.env.scope x) (hd : (x == ("__debug__" : Str)) = false) (hcd : (x == ("__classdict__" : Str)) = false) {ρ ρ' : List T} {t : T} (h : mSubO i m as f ρ = some (t, ρ')) {Q : QT} (q : Q t ρ') :
    WA X (.Subscript (.Name x px) idx pos :: es) ρ fun as ρ1 => OpT X.K r (resT as ρ1) fun q ts' => Q q (wb as ts' (resR as ρ1)) := by
  obtain ⟨⟨u, j, xs, ρ1⟩, e1, h⟩ := bind_some h
  obtain ⟨t0, e2, e1⟩ := bind_some e1
  obtain ⟨⟨k0, ρ1'⟩, e3, e1⟩ := bind_some e1
  obtain ⟨k, e4, e1⟩ := bind_some e1
  obtain ⟨c, e5, e1⟩ := bind_some e1
  dsimp only at e4 e5 e1 h
  split at e1
  · rename_i xs'
    obtain ⟨j', e6, e1⟩ := bind_some e1
    obtain ⟨u', e7, e1⟩ := bind_some e1
    cases e1
    obtain ⟨⟨bs, ρ2⟩, e8, h⟩ := bind_some h
    dsimp only at h
    split at h
    · rename_i hc
      obtain ⟨hl, hall⟩ := hc
      obtain ⟨⟨r, us⟩, e9, h⟩ := bind_some h
      dsimp only at h
      cases us with
      | nil => cases h
      | cons u1 us =>
        cases h
        obtain ⟨h3, h4⟩ := slot_some' e2
        refine wa_R (wr_subL (fun _ => True) (fun _ _ _ _ _ _ _ _ => trivial) i h3 h4 (h0 ρ k0 ρ1 e3 _ ⟨k, xs, j, u, intT_some e4, e5, e6, e7, trivial, fun v => ?_⟩) hsi hN hv hd hcd)
        have hil : i < ρ1.length := (List.getElem?_eq_some_iff.mp e5).1
        refine wa_frame (i := i) (t := .lst true (xs.set j (.v v))) (by rw [List.getElem?_set_self hil]) ?_
        rw [List.set_set]
        refine h1 _ bs ρ2 e8 _ ⟨by rw [List.length_set, hl], ?_⟩
        obtain ⟨a1, a2, a3⟩ := allVal_ok (as := bs) (ρ := ρ2.set i (.lst true (xs.set j (.v v)))) hall
        show OpT X.K _ (u :: resT bs (ρ2.set i (.lst true (xs.set j (.v v))))) fun q ts' => Q q (wb (.sub u v i j :: bs) ts' (resR bs (ρ2.set i (.lst true (xs.set j (.v v))))))
        rw [a1, a2]
        refine ho _ _ _ e9 _ ?_
        show Q t (wb bs us (putKid (ρ2.set i (.lst true (xs.set j (.v v)))) i j v u1))
        have hil2 : i < ρ2.length := by rw [hl]; exact hil
        have hj : j < xs.length := (List.getElem?_eq_some_iff.mp e7).1
        rw [putKid_l (o := true) (xs := xs.set j (.v v)) (by rw [List.getElem?_set_self hil2]) rfl (by rw [List.getElem?_set_self hj]), (allVal_ok hall).2.2]
        rw [List.set_set, List.set_set]
        exact q
    · cases h
  · cases e1
theorem tr_cmpS {op : CmpOp} (i : Nat) {x : Str} (h0 : TrE X idx m) (h1 : TrA X [b] as) (ho : TrO X.K (r2 (rOp X (compareOp op))) f) (hm : behindInMarks op b = false := by first | rfl | exact nomark _) (hsi : PlainIx idx := by exact fun _ _ => rfl) (hN : X.N[i]? = some x := by rfl)
    (hv : Vis X.env.scope x := by first | exact Or.inl rfl | exact Or.inr (Or.inl rfl) | exact Or.inr (Or.inr rfl)) (hd : (x == ("__debug__" : Str)) = false := by decide) (hcd : (x == ("__classdict__" : Str)) = false := by decide) :
    TrE X (.Compare (.Subscript (.Name x px) idx pos) [op] [b] p) (mSubO i m as f) := .mk fun ρ t ρ' h Q q => w_cmp (subO_wa i h0 h1 ho hsi hN hv hd hcd h q) hm
theorem tt_cmpS {op : CmpOp} (i : Nat) {x : Str} (h0 : TrE X idx m) (h1 : TrA X [b] as) (ho : TrO X.K (r2 (rOp X (compareOp op))) f) (hm : behindInMarks op b = false := by first | rfl | exact nomark _) (hsi : PlainIx idx := by exact fun _ _ => rfl) (hN : X.N[i]? = some x := by rfl)
    (hv : Vis X.env.scope x := by first | exact Or.inl rfl | exact Or.inr (Or.inl rfl) | exact Or.inr (Or.inr rfl)) (hd : (x == ("__debug__" : Str)) = false := by decide) (hcd : (x == ("__classdict__" : Str)) = false := by decide) :
    TrT X (.Compare (.Subscript (.Name x px) idx pos) [op] [b] p) (mBl (mSubO i m as f)) := .mk fun ρ t ρ' h Q q => by
  obtain ⟨⟨t1, ρ1⟩, e1, h⟩ := bind_some h
  obtain ⟨b', e2, h⟩ := bind_some h
  cases h
  exact wt_cmp (subO_wa (Q := fun q ρ => ∃ k, q = T.bl k ∧ Q k ρ) i h0 h1 ho hsi hN hv hd hcd e1 ⟨_, blT_some e2, q⟩) hm
end
/-- a written list of texts -/
def mStrs (zs : List Str) : M := fun ρ => some (.lst true (zs.map T.str), ρ)
section
variable {X : Cx} {es : List Expr} {pos : Pos}
theorem tr_lstS (zs : List Str) (h : strsOf es = some zs ∧ szB zs.length = true) : TrE X (.List es pos) (mStrs zs) := .mk fun ρ t ρ' h' Q q => by cases h'; exact w_lstS h.1 (szB_ok h.2) q
end
/-- a, b, c = e1, e2, e3 -/
def sPar3 (i j l : Nat) (as : MA) : MS := fun ρ => (as ρ).bd fun p => match resT p.1 p.2 with
  | [t, u, w] => some (.nx, (((resR p.1 p.2).set i t).set j u).set l w)
  | _ => none
section
variable {P : Nat → Bool} {X : Cx} {a b c : Expr} {ρ : List T} {pos : Pos} {D : DT} {as : MA}
theorem ws_par3 (i j l : Nat) {x y z : Str} {px py pz pt : Pos} {kt k2 pt2} (ha : PA X [a, b, c] (UL X [a, b, c])) (h : WA X [a, b, c] ρ fun as ρ1 => ∃ t u w, resT as ρ1 = [t, u, w] ∧ D.nx ((((resR as ρ1).set i t).set j u).set l w))
    (hP : P i = false) (hP2 : P j = false) (hP3 : P l = false) (hc : X.calm = true) (hN : X.N.Nodup) (hi : X.N[i]? = some x) (hj : X.N[j]? = some y) (hl : X.N[l]? = some z) (hij : i ≠ j) (hil : i ≠ l) (hjl : j ≠ l)
    (hx : X.env.scope.names.lookup x = some .local) (hy : X.env.scope.names.lookup y = some .local) (hz : X.env.scope.names.lookup z = some .local)
    (hw : swappedStores [.Tuple [.Name x px, .Name y py, .Name z pz] kt pt] (.Tuple [a, b, c] k2 pt2) X.env = pure (some [x, y, z]))
    (hs : swapsWithSole [.Tuple [.Name x px, .Name y py, .Name z pz] kt pt] (.Tuple [a, b, c] k2 pt2) pos.line X.env = pure false) :
    WS P X (.Assign [.Tuple [.Name x px, .Name y py, .Name z pz] kt pt] (.Tuple [a, b, c] k2 pt2) pos) ρ D := fun L σ H fr fv E s k => by
  intro pins s0 I
  refine US_of (ps_par3 hc hN hi hj hl hij hil hjl hx hy hz ha hw hs) (h L σ H fr fv _ s fun as ρ1 vs H1 ⟨t, u, w, e, q⟩ ok s1 => ?_) pins s0 I
  have s2 := stt_res s1 ok
  rw [e] at s2
  have l2 : vs.length = 3 := by
    have := argsOk_length ok
    have q1 := (res_length as ρ1).1
    rw [e] at q1
    simp at q1
    omega
  obtain ⟨v1, v2, v3, rfl⟩ : ∃ v w z, vs = [v, w, z] := by
    match vs, l2 with
    | [v, w, z], _ => exact ⟨v, w, z, rfl⟩
  have l3 : (resR as ρ1).length = σ.length := by
    have := s2.len
    simp at this
    omega
  have li : i < (resR as ρ1).length := by rw [l3, I.len]; exact (List.getElem?_eq_some_iff.mp hi).1
  have lj : j < (resR as ρ1).length := by rw [l3, I.len]; exact (List.getElem?_eq_some_iff.mp hj).1
  have ll : l < (resR as ρ1).length := by rw [l3, I.len]; exact (List.getElem?_eq_some_iff.mp hl).1
  refine ⟨v1, v2, v3, rfl, k.nx _ _ H1 q (.trans (.trans (.set hP) (.set hP2)) (.set hP3)) ?_⟩
  generalize hr : resR as ρ1 = r at *
  have r0 : Rp ⟨X.K, L⟩ ([t, u, w] ++ (r ++ fr)) ([some v1, some v2, some v3] ++ (σ ++ fv)) H1 := by
    simpa [List.append_assoc] using s2.rp
  have a1 : Rp ⟨X.K, L⟩ ([t] ++ (r ++ ([u, w] ++ fr))) ([some v1] ++ (σ ++ ([some v2, some v3] ++ fv))) H1 := by
    have b1 := Rp.back (t3 := [t]) (v3 := [some v1]) (t1 := [u, w]) (v1 := [some v2, some v3]) (t2 := r) (v2 := σ) (t4 := fr) (v4 := fv) r0 rfl l3 rfl
    have b2 : Rp ⟨X.K, L⟩ ([u, w] ++ ((r ++ [t]) ++ fr)) ([some v2, some v3] ++ ((σ ++ [some v1]) ++ fv)) H1 := by simpa [List.append_assoc] using b1
    have b3 := Rp.swap b2 rfl (by simp [l3])
    have b4 : Rp ⟨X.K, L⟩ (r ++ ([t] ++ ([u, w] ++ fr))) (σ ++ ([some v1] ++ ([some v2, some v3] ++ fv))) H1 := by simpa [List.append_assoc] using b3
    exact Rp.swap b4 l3 rfl
  have s3 : Stt ⟨X.K, L⟩ (t :: r) (some v1 :: σ) H1 ([u, w] ++ fr) ([some v2, some v3] ++ fv) := ⟨congrArg Nat.succ l3, a1, s2.sz⟩
  have s4 := s3.put li
  have a2 : Rp ⟨X.K, L⟩ ([u] ++ (r.set i t ++ ([w] ++ fr))) ([some v2] ++ (σ.set i (some v1) ++ ([some v3] ++ fv))) H1 := by
    have b1 : Rp ⟨X.K, L⟩ (r.set i t ++ ([u] ++ ([w] ++ fr))) (σ.set i (some v1) ++ ([some v2] ++ ([some v3] ++ fv))) H1 := s4.rp
    exact Rp.swap b1 s4.len rfl
  have s5 : Stt ⟨X.K, L⟩ (u :: r.set i t) (some v2 :: σ.set i (some v1)) H1 ([w] ++ fr) ([some v3] ++ fv) := ⟨congrArg Nat.succ s4.len, a2, s2.sz⟩
  have s6 := s5.put (i := j) (by rw [List.length_set]; exact lj)
  have a3 : Rp ⟨X.K, L⟩ ([w] ++ ((r.set i t).set j u ++ fr)) ([some v3] ++ ((σ.set i (some v1)).set j (some v2) ++ fv)) H1 := Rp.swap (t2 := [w]) (v2 := [some v3]) s6.rp s6.len rfl
  have s7 : Stt ⟨X.K, L⟩ (w :: (r.set i t).set j u) (some v3 :: (σ.set i (some v1)).set j (some v2)) H1 fr fv := ⟨congrArg Nat.succ s6.len, a3, s2.sz⟩
  exact s7.put (i := l) (by rw [List.length_set, List.length_set]; exact ll)
theorem ts_par3 (i j l : Nat) {x y z : Str} {px py pz pt : Pos} {kt k2 pt2} (ha : PA X [a, b, c] (UL X [a, b, c])) (h0 : TrA X [a, b, c] as)
    (hP : P i = false := by rfl) (hP2 : P j = false := by rfl) (hP3 : P l = false := by rfl) (hc : X.calm = true := by rfl) (hN : X.N.Nodup := by first | assumption | exact FnScope.nd (by assumption)) (hi : X.N[i]? = some x := by rfl) (hj : X.N[j]? = some y := by rfl) (hl : X.N[l]? = some z := by rfl)
    (hij : i ≠ j := by decide) (hil : i ≠ l := by decide) (hjl : j ≠ l := by decide)
    (hx : X.env.scope.names.lookup x = some .local := by rfl) (hy : X.env.scope.names.lookup y = some .local := by rfl) (hz : X.env.scope.names.lookup z = some .local := by rfl)
    (hw : swappedStores [.Tuple [.Name x px, .Name y py, .Name z pz] kt pt] (.Tuple [a, b, c] k2 pt2) X.env = pure (some [x, y, z]) := by rfl)
    (hs : swapsWithSole [.Tuple [.Name x px, .Name y py, .Name z pz] kt pt] (.Tuple [a, b, c] k2 pt2) pos.line X.env = pure false := by rfl) :
    TrS P X (.Assign [.Tuple [.Name x px, .Name y py, .Name z pz] kt pt] (.Tuple [a, b, c] k2 pt2) pos) (sPar3 i j l as) := .mk fun ρ o ρ' h D q => by
  obtain ⟨⟨bs, ρ1⟩, e1, h⟩ := bind_some h
  dsimp only at h
  split at h
  · rename_i t u w e2
    cases h
    exact ws_par3 i j l ha (h0 ρ bs ρ1 e1 _ ⟨t, u, w, e2, q⟩) hP hP2 hP3 hc hN hi hj hl hij hil hjl hx hy hz hw hs
  · cases h
end
end DL

/-! FL6: the end of a law. -/
namespace DL
open PySem PySem.Spec L2
def spLaw (K : PySem.W.Frag) : Sp := fun vs H Q _ => ∃ (a : Addr) (ns : List Int), vs = [.ref a] ∧ SqL K H a (ns.map V.int) ∧ ns.length ≤ 63 ∧ ∀ H', Q (.bl true) H'
theorem law_fn {Pg : Program} {w : World} {K : PySem.W.Frag} {mg : Str → Option Value} {base : Heap} {k : Nat} {f : Addr} {fd : FuncData} {mf : MF} (F : FnOk Pg w K mg base CX0 k f fd ["script"] (lift K (bM mf)))
    (h : ∀ ns : List Int, ns.length ≤ 63 → ∃ ρ, mf [.ro (ns.map V.int)] = some (T.bl true, ρ)) : FnOk Pg w K mg base CX0 k f fd ["script"] (spLaw K) := by
  refine F.imp fun vs H Q E hs => ?_
  obtain ⟨a, ns, rfl, hS, hl, q⟩ := hs
  obtain ⟨ρ, e⟩ := h ns hl
  refine ⟨[], [.ro (ns.map V.int)], [], [], fun r _ => r = T.bl true, ⟨_, _, e, rfl⟩, rfl, ⟨H, [], ⟨some (.ref a), [], [], [], rfl, rfl, .inr ⟨_, rfl, by unfold Own; exact ⟨a, rfl, rfl, hS⟩⟩, rfl, rfl⟩, List.nodup_nil, fun _ h => absurd h List.not_mem_nil, ⟨fun _ _ e => .inl e, fun _ _ _ e => absurd e List.not_mem_nil⟩⟩, fun r ts' v H' q' hl' rp => ?_⟩
  subst q'
  have ev := Rp.sc_inv rp
  cases ev
  exact q H'
end DL

/-! FL7 (written by gen7.py): values of the pieces, by rfl. -/
namespace DL
open PySem PySem.Spec L2
theorem mC_apc (v : V) (s0 : T) (ss : List T) : mC v (s0 :: ss) = (some (.v v, (s0 :: ss))) := rfl
theorem mC_apn (v : V) : mC v [] = (some (.v v, [])) := rfl
theorem mNm_apc (i : Nat) (s0 : T) (ss : List T) : mNm i (s0 :: ss) = ((slot (s0 :: ss) i).bd fun t => some (fz t, (s0 :: ss).set i (fz t))) := rfl
theorem mNm_apn (i : Nat) : mNm i [] = ((slot [] i).bd fun t => some (fz t, [].set i (fz t))) := rfl
theorem mMv_apc (i : Nat) (s0 : T) (ss : List T) : mMv i (s0 :: ss) = ((slot (s0 :: ss) i).bd fun t => some (t, (s0 :: ss).set i .gone)) := rfl
theorem mMv_apn (i : Nat) : mMv i [] = ((slot [] i).bd fun t => some (t, [].set i .gone)) := rfl
theorem mFz_apc (m : M) (s0 : T) (ss : List T) : mFz m (s0 :: ss) = ((m (s0 :: ss)).bd fun p => some (fz p.1, p.2)) := rfl
theorem mFz_apn (m : M) : mFz m [] = ((m []).bd fun p => some (fz p.1, p.2)) := rfl
theorem aNil_apc (s0 : T) (ss : List T) : aNil  (s0 :: ss) = (some ([], (s0 :: ss))) := rfl
theorem aNil_apn : aNil  [] = (some ([], [])) := rfl
theorem aVal_apc (m : M) (r : MA) (s0 : T) (ss : List T) : aVal m r (s0 :: ss) = ((m (s0 :: ss)).bd fun p => (r p.2).bd fun q => some (.val p.1 :: q.1, q.2)) := rfl
theorem aVal_apn (m : M) (r : MA) : aVal m r [] = ((m []).bd fun p => (r p.2).bd fun q => some (.val p.1 :: q.1, q.2)) := rfl
theorem aAt_apc (i : Nat) (r : MA) (s0 : T) (ss : List T) : aAt i r (s0 :: ss) = ((slot (s0 :: ss) i).bd fun _ => (r (s0 :: ss)).bd fun q => some (.at i :: q.1, q.2)) := rfl
theorem aAt_apn (i : Nat) (r : MA) : aAt i r [] = ((slot [] i).bd fun _ => (r []).bd fun q => some (.at i :: q.1, q.2)) := rfl
theorem mOp_apc (a : MA) (f : Op) (s0 : T) (ss : List T) : mOp a f (s0 :: ss) = ((a (s0 :: ss)).bd fun p => (f (resT p.1 p.2)).bd fun q => some (q.1, wb p.1 q.2 (resR p.1 p.2))) := rfl
theorem mOp_apn (a : MA) (f : Op) : mOp a f [] = ((a []).bd fun p => (f (resT p.1 p.2)).bd fun q => some (q.1, wb p.1 q.2 (resR p.1 p.2))) := rfl
theorem mSl11_apc (as : MA) (ma mb : M) (f : Int → Int → Op) (s0 : T) (ss : List T) : mSl11 as ma mb f (s0 :: ss) = ((as (s0 :: ss)).bd fun p => (ma p.2).bd fun q => (intT q.1).bd fun i => (mb q.2).bd fun r => (intT r.1).bd fun j => (f i j (resT p.1 r.2)).bd fun u => some (u.1, wb p.1 u.2 (resR p.1 r.2))) := rfl
theorem mSl11_apn (as : MA) (ma mb : M) (f : Int → Int → Op) : mSl11 as ma mb f [] = ((as []).bd fun p => (ma p.2).bd fun q => (intT q.1).bd fun i => (mb q.2).bd fun r => (intT r.1).bd fun j => (f i j (resT p.1 r.2)).bd fun u => some (u.1, wb p.1 u.2 (resR p.1 r.2))) := rfl
theorem mTru_apc (m : M) (s0 : T) (ss : List T) : mTru m (s0 :: ss) = ((m (s0 :: ss)).bd fun p => (truT p.1).bd fun b => some (b, p.2)) := rfl
theorem mTru_apn (m : M) : mTru m [] = ((m []).bd fun p => (truT p.1).bd fun b => some (b, p.2)) := rfl
theorem mBl_apc (m : M) (s0 : T) (ss : List T) : mBl m (s0 :: ss) = ((m (s0 :: ss)).bd fun p => (blT p.1).bd fun b => some (b, p.2)) := rfl
theorem mBl_apn (m : M) : mBl m [] = ((m []).bd fun p => (blT p.1).bd fun b => some (b, p.2)) := rfl
theorem mNot_apc (m : MT) (s0 : T) (ss : List T) : mNot m (s0 :: ss) = ((m (s0 :: ss)).bd fun p => some (!p.1, p.2)) := rfl
theorem mNot_apn (m : MT) : mNot m [] = ((m []).bd fun p => some (!p.1, p.2)) := rfl
theorem mAnd_apc (m1 m2 : MT) (s0 : T) (ss : List T) : mAnd m1 m2 (s0 :: ss) = ((m1 (s0 :: ss)).bd fun p => if p.1 then m2 p.2 else some (false, p.2)) := rfl
theorem mAnd_apn (m1 m2 : MT) : mAnd m1 m2 [] = ((m1 []).bd fun p => if p.1 then m2 p.2 else some (false, p.2)) := rfl
theorem mOr_apc (m1 m2 : MT) (s0 : T) (ss : List T) : mOr m1 m2 (s0 :: ss) = ((m1 (s0 :: ss)).bd fun p => if p.1 then some (true, p.2) else m2 p.2) := rfl
theorem mOr_apn (m1 m2 : MT) : mOr m1 m2 [] = ((m1 []).bd fun p => if p.1 then some (true, p.2) else m2 p.2) := rfl
theorem mAndV_apc (m1 m2 : M) (s0 : T) (ss : List T) : mAndV m1 m2 (s0 :: ss) = ((m1 (s0 :: ss)).bd fun p => (blT p.1).bd fun c => if c then m2 p.2 else some (T.bl false, p.2)) := rfl
theorem mAndV_apn (m1 m2 : M) : mAndV m1 m2 [] = ((m1 []).bd fun p => (blT p.1).bd fun c => if c then m2 p.2 else some (T.bl false, p.2)) := rfl
theorem mOrV_apc (m1 m2 : M) (s0 : T) (ss : List T) : mOrV m1 m2 (s0 :: ss) = ((m1 (s0 :: ss)).bd fun p => (blT p.1).bd fun c => if c then some (T.bl true, p.2) else m2 p.2) := rfl
theorem mOrV_apn (m1 m2 : M) : mOrV m1 m2 [] = ((m1 []).bd fun p => (blT p.1).bd fun c => if c then some (T.bl true, p.2) else m2 p.2) := rfl
theorem mNotV_apc (m : M) (s0 : T) (ss : List T) : mNotV m (s0 :: ss) = ((m (s0 :: ss)).bd fun p => (blT p.1).bd fun c => some (T.bl !c, p.2)) := rfl
theorem mNotV_apn (m : M) : mNotV m [] = ((m []).bd fun p => (blT p.1).bd fun c => some (T.bl !c, p.2)) := rfl
theorem mIf_apc (mt : MT) (ma mb : M) (s0 : T) (ss : List T) : mIf mt ma mb (s0 :: ss) = ((mt (s0 :: ss)).bd fun p => if p.1 then ma p.2 else mb p.2) := rfl
theorem mIf_apn (mt : MT) (ma mb : M) : mIf mt ma mb [] = ((mt []).bd fun p => if p.1 then ma p.2 else mb p.2) := rfl
theorem sNil_apc (s0 : T) (ss : List T) : sNil  (s0 :: ss) = (some (.nx, (s0 :: ss))) := rfl
theorem sNil_apn : sNil  [] = (some (.nx, [])) := rfl
theorem sCons_apc (a b : MS) (s0 : T) (ss : List T) : sCons a b (s0 :: ss) = ((a (s0 :: ss)).bd fun p => match p.1 with
  | .nx => b p.2
  | .rt t => some (.rt t, p.2)
  | .bk => some (.bk, p.2)
  | .ct => some (.ct, p.2)) := rfl
theorem sCons_apn (a b : MS) : sCons a b [] = ((a []).bd fun p => match p.1 with
  | .nx => b p.2
  | .rt t => some (.rt t, p.2)
  | .bk => some (.bk, p.2)
  | .ct => some (.ct, p.2)) := rfl
theorem sPass_apc (s0 : T) (ss : List T) : sPass  (s0 :: ss) = (some (.nx, (s0 :: ss))) := rfl
theorem sPass_apn : sPass  [] = (some (.nx, [])) := rfl
theorem sBreak_apc (s0 : T) (ss : List T) : sBreak  (s0 :: ss) = (some (.bk, (s0 :: ss))) := rfl
theorem sBreak_apn : sBreak  [] = (some (.bk, [])) := rfl
theorem sCont_apc (s0 : T) (ss : List T) : sCont  (s0 :: ss) = (some (.ct, (s0 :: ss))) := rfl
theorem sCont_apn : sCont  [] = (some (.ct, [])) := rfl
theorem sExpr_apc (m : M) (s0 : T) (ss : List T) : sExpr m (s0 :: ss) = ((m (s0 :: ss)).bd fun p => some (.nx, p.2)) := rfl
theorem sExpr_apn (m : M) : sExpr m [] = ((m []).bd fun p => some (.nx, p.2)) := rfl
theorem sRet_apc (m : M) (s0 : T) (ss : List T) : sRet m (s0 :: ss) = ((m (s0 :: ss)).bd fun p => some (.rt p.1, p.2)) := rfl
theorem sRet_apn (m : M) : sRet m [] = ((m []).bd fun p => some (.rt p.1, p.2)) := rfl
theorem sRetN_apc (s0 : T) (ss : List T) : sRetN  (s0 :: ss) = (some (.rt T.non, (s0 :: ss))) := rfl
theorem sRetN_apn : sRetN  [] = (some (.rt T.non, [])) := rfl
theorem sSet_apc (i : Nat) (m : M) (s0 : T) (ss : List T) : sSet i m (s0 :: ss) = ((m (s0 :: ss)).bd fun p => some (.nx, p.2.set i p.1)) := rfl
theorem sSet_apn (i : Nat) (m : M) : sSet i m [] = ((m []).bd fun p => some (.nx, p.2.set i p.1)) := rfl
theorem sIf_apc (mt : MT) (a b : MS) (s0 : T) (ss : List T) : sIf mt a b (s0 :: ss) = ((mt (s0 :: ss)).bd fun p => if p.1 then a p.2 else b p.2) := rfl
theorem sIf_apn (mt : MT) (a b : MS) : sIf mt a b [] = ((mt []).bd fun p => if p.1 then a p.2 else b p.2) := rfl
theorem sAsg_apc (m : M) (g : MG) (s0 : T) (ss : List T) : sAsg m g (s0 :: ss) = ((m (s0 :: ss)).bd fun p => (g p.1 p.2).bd fun r => some (.nx, r)) := rfl
theorem sAsg_apn (m : M) (g : MG) : sAsg m g [] = ((m []).bd fun p => (g p.1 p.2).bd fun r => some (.nx, r)) := rfl
theorem sOp_apc (as : MA) (f : Op) (s0 : T) (ss : List T) : sOp as f (s0 :: ss) = ((as (s0 :: ss)).bd fun p => (f (resT p.1 p.2)).bd fun q => some (.nx, wb p.1 q.2 (resR p.1 p.2))) := rfl
theorem sOp_apn (as : MA) (f : Op) : sOp as f [] = ((as []).bd fun p => (f (resT p.1 p.2)).bd fun q => some (.nx, wb p.1 q.2 (resR p.1 p.2))) := rfl
theorem sPar_apc (i j : Nat) (as : MA) (s0 : T) (ss : List T) : sPar i j as (s0 :: ss) = ((as (s0 :: ss)).bd fun p => match resT p.1 p.2 with
  | [t, u] => some (.nx, ((resR p.1 p.2).set i t).set j u)
  | _ => none) := rfl
theorem sPar_apn (i j : Nat) (as : MA) : sPar i j as [] = ((as []).bd fun p => match resT p.1 p.2 with
  | [t, u] => some (.nx, ((resR p.1 p.2).set i t).set j u)
  | _ => none) := rfl
theorem sAug_apc (i : Nat) (m : M) (f : Op) (s0 : T) (ss : List T) : sAug i m f (s0 :: ss) = (match (s0 :: ss)[i]? with
  | some (.v x) => (m (s0 :: ss)).bd fun p => (f [.v x, p.1]).bd fun q => some (.nx, p.2.set i q.1)
  | _ => none) := rfl
theorem sFor_apc (mi : MI) (g : MG) (b : MS) (s0 : T) (ss : List T) : sFor mi g b (s0 :: ss) = ((mi (s0 :: ss)).bd fun p => forF g b p.1 p.2) := rfl
theorem sFor_apn (mi : MI) (g : MG) (b : MS) : sFor mi g b [] = ((mi []).bd fun p => forF g b p.1 p.2) := rfl
theorem iOf_apc (k : T → Option (List T)) (m : M) (s0 : T) (ss : List T) : iOf k m (s0 :: ss) = ((m (s0 :: ss)).bd fun p => (k (fz p.1)).bd fun xs => some (xs, p.2)) := rfl
theorem iOf_apn (k : T → Option (List T)) (m : M) : iOf k m [] = ((m []).bd fun p => (k (fz p.1)).bd fun xs => some (xs, p.2)) := rfl
theorem iRng1_apc (m : M) (s0 : T) (ss : List T) : iRng1 m (s0 :: ss) = ((m (s0 :: ss)).bd fun p => (intT p.1).bd fun j => gd (decide (-4611686018427387904 ≤ j ∧ j ≤ 16777216)) (some (rngT 0 j.toNat, p.2))) := rfl
theorem iRng1_apn (m : M) : iRng1 m [] = ((m []).bd fun p => (intT p.1).bd fun j => gd (decide (-4611686018427387904 ≤ j ∧ j ≤ 16777216)) (some (rngT 0 j.toNat, p.2))) := rfl
theorem iRng2_apc (ma mb : M) (s0 : T) (ss : List T) : iRng2 ma mb (s0 :: ss) = ((ma (s0 :: ss)).bd fun p => (intT p.1).bd fun i => (mb p.2).bd fun q => (intT q.1).bd fun j => gd (decide (-16777216 ≤ i ∧ i ≤ 16777216 ∧ -16777216 ≤ j ∧ j ≤ 16777216 ∧ (j - i) ≤ 16777216)) (some (rngT i (j - i).toNat, q.2))) := rfl
theorem iRng2_apn (ma mb : M) : iRng2 ma mb [] = ((ma []).bd fun p => (intT p.1).bd fun i => (mb p.2).bd fun q => (intT q.1).bd fun j => gd (decide (-16777216 ≤ i ∧ i ≤ 16777216 ∧ -16777216 ≤ j ∧ j ≤ 16777216 ∧ (j - i) ≤ 16777216)) (some (rngT i (j - i).toNat, q.2))) := rfl
theorem iZip_apc (ma mb : M) (s0 : T) (ss : List T) : iZip ma mb (s0 :: ss) = ((ma (s0 :: ss)).bd fun p => (mb p.2).bd fun q => (zipW p.1 q.1).bd fun xs => some (xs, q.2)) := rfl
theorem iZip_apn (ma mb : M) : iZip ma mb [] = ((ma []).bd fun p => (mb p.2).bd fun q => (zipW p.1 q.1).bd fun xs => some (xs, q.2)) := rfl
theorem iEnum_apc (m : M) (s0 : T) (ss : List T) : iEnum m (s0 :: ss) = ((m (s0 :: ss)).bd fun p => (lstT (fz p.1)).bd fun xs => some (enmT xs, p.2)) := rfl
theorem iEnum_apn (m : M) : iEnum m [] = ((m []).bd fun p => (lstT (fz p.1)).bd fun xs => some (enmT xs, p.2)) := rfl
theorem cT_apc (s0 : T) (ss : List T) : cT  (s0 :: ss) = (some (true, (s0 :: ss))) := rfl
theorem cT_apn : cT  [] = (some (true, [])) := rfl
theorem mLc_apc (ws : List Nat) (mi : MI) (g : MG) (c : MC) (e : M) (s0 : T) (ss : List T) : mLc ws mi g c e (s0 :: ss) = ((mi (s0 :: ss)).bd fun p => (lcF ws g c e p.1 (wipeT p.2 ws)).bd fun q => some (.lst true q.1, q.2)) := rfl
theorem mLc_apn (ws : List Nat) (mi : MI) (g : MG) (c : MC) (e : M) : mLc ws mi g c e [] = ((mi []).bd fun p => (lcF ws g c e p.1 (wipeT p.2 ws)).bd fun q => some (.lst true q.1, q.2)) := rfl
theorem mOp0_apc (f : MF) (s0 : T) (ss : List T) : mOp0 f (s0 :: ss) = ((f []).bd fun q => some (q.1, (s0 :: ss))) := rfl
theorem mOp0_apn (f : MF) : mOp0 f [] = ((f []).bd fun q => some (q.1, [])) := rfl
theorem rAt_apc (Tn : String) (i : Nat) (s0 : T) (ss : List T) : rAt Tn i (s0 :: ss) = ((slot (s0 :: ss) i).bd fun t => if tyB Tn t then some (.at i, (s0 :: ss)) else none) := rfl
theorem rAt_apn (Tn : String) (i : Nat) : rAt Tn i [] = ((slot [] i).bd fun t => if tyB Tn t then some (.at i, []) else none) := rfl
theorem rVal_apc (Tn : String) (m : M) (s0 : T) (ss : List T) : rVal Tn m (s0 :: ss) = ((m (s0 :: ss)).bd fun p => if tyB Tn p.1 then some (.val p.1, p.2) else none) := rfl
theorem rVal_apn (Tn : String) (m : M) : rVal Tn m [] = ((m []).bd fun p => if tyB Tn p.1 then some (.val p.1, p.2) else none) := rfl
theorem mBm_apc (r : MR) (as : MA) (f : Op) (s0 : T) (ss : List T) : mBm r as f (s0 :: ss) = ((r (s0 :: ss)).bd fun a => (as a.2).bd fun p => (f (resT (a.1 :: p.1) p.2)).bd fun q => some (q.1, wb (a.1 :: p.1) q.2 (resR (a.1 :: p.1) p.2))) := rfl
theorem mBm_apn (r : MR) (as : MA) (f : Op) : mBm r as f [] = ((r []).bd fun a => (as a.2).bd fun p => (f (resT (a.1 :: p.1) p.2)).bd fun q => some (q.1, wb (a.1 :: p.1) q.2 (resR (a.1 :: p.1) p.2))) := rfl
theorem mBm0_apc (r : MR) (f : Op) (s0 : T) (ss : List T) : mBm0 r f (s0 :: ss) = ((r (s0 :: ss)).bd fun a => (f (resT [a.1] a.2)).bd fun q => some (q.1, wb [a.1] q.2 (resR [a.1] a.2))) := rfl
theorem mBm0_apn (r : MR) (f : Op) : mBm0 r f [] = ((r []).bd fun a => (f (resT [a.1] a.2)).bd fun q => some (q.1, wb [a.1] q.2 (resR [a.1] a.2))) := rfl
theorem mSub_apc (Tn : String) (i : Nat) (mi : M) (ar : MA) (f : Op) (s0 : T) (ss : List T) : mSub Tn i mi ar f (s0 :: ss) = ((kidIx i mi (s0 :: ss)).bd fun z => if tyB Tn z.1 then (ar (z.2.2.2.set i .gone)).bd fun q => if q.2.length = z.2.2.2.length ∧ allVal q.1 = true then (f (z.1 :: q.1.map Arg.t)).bd fun r => match r.2 with
    | u' :: _ => some (r.1, q.2.set i (.lst true (z.2.2.1.set z.2.1 u')))
    | [] => none
    else none
  else none) := rfl
theorem mSub_apn (Tn : String) (i : Nat) (mi : M) (ar : MA) (f : Op) : mSub Tn i mi ar f [] = ((kidIx i mi []).bd fun z => if tyB Tn z.1 then (ar (z.2.2.2.set i .gone)).bd fun q => if q.2.length = z.2.2.2.length ∧ allVal q.1 = true then (f (z.1 :: q.1.map Arg.t)).bd fun r => match r.2 with
    | u' :: _ => some (r.1, q.2.set i (.lst true (z.2.2.1.set z.2.1 u')))
    | [] => none
    else none
  else none) := rfl
theorem defF_ap (n : Nat) (P : Nat → Bool) (gs : List T) (body : MS) (args : List T) : defF n P gs body args = (if args.length = n then (body (args ++ gs)).bd fun p => match p.1 with
    | .rt t => some (t, maskT P 0 n p.2)
    | .nx => some (T.non, maskT P 0 n p.2)
    | _ => none
  else none) := rfl
theorem mMake_apc (C : Addr) (as : MA) (mf : MF) (s0 : T) (ss : List T) : mMake C as mf (s0 :: ss) = ((as (s0 :: ss)).bd fun p => (mf (.ins true C [] [] :: resT p.1 p.2)).bd fun q => match q.1, q.2 with
  | .v .non, t :: us => if us.length = p.1.length then some (t, wb p.1 us (resR p.1 p.2)) else none
  | _, _ => none) := rfl
theorem mMake_apn (C : Addr) (as : MA) (mf : MF) : mMake C as mf [] = ((as []).bd fun p => (mf (.ins true C [] [] :: resT p.1 p.2)).bd fun q => match q.1, q.2 with
  | .v .non, t :: us => if us.length = p.1.length then some (t, wb p.1 us (resR p.1 p.2)) else none
  | _, _ => none) := rfl
theorem mD0_apc (s0 : T) (ss : List T) : mD0  (s0 :: ss) = (some (.dK true [] [], (s0 :: ss))) := rfl
theorem mD0_apn : mD0  [] = (some (.dK true [] [], [])) := rfl
theorem mD0T_apc (s0 : T) (ss : List T) : mD0T  (s0 :: ss) = (some (.dT true [] [], (s0 :: ss))) := rfl
theorem mD0T_apn : mD0T  [] = (some (.dT true [] [], [])) := rfl
theorem mD1_apc (mk mv : M) (s0 : T) (ss : List T) : mD1 mk mv (s0 :: ss) = ((mk (s0 :: ss)).bd fun p => (keyOf p.1).bd fun k => (mv p.2).bd fun q => some (.dK true [k] [q.1], q.2)) := rfl
theorem mD1_apn (mk mv : M) : mD1 mk mv [] = ((mk []).bd fun p => (keyOf p.1).bd fun k => (mv p.2).bd fun q => some (.dK true [k] [q.1], q.2)) := rfl
theorem mSubO_apc (i : Nat) (mi : M) (ar : MA) (f : Op) (s0 : T) (ss : List T) : mSubO i mi ar f (s0 :: ss) = ((kidIx i mi (s0 :: ss)).bd fun z => (ar (z.2.2.2.set i .gone)).bd fun q => if q.2.length = z.2.2.2.length ∧ allVal q.1 = true then (f (z.1 :: q.1.map Arg.t)).bd fun r => match r.2 with
    | u' :: _ => some (r.1, q.2.set i (.lst true (z.2.2.1.set z.2.1 u')))
    | [] => none
    else none) := rfl
theorem mSubO_apn (i : Nat) (mi : M) (ar : MA) (f : Op) : mSubO i mi ar f [] = ((kidIx i mi []).bd fun z => (ar (z.2.2.2.set i .gone)).bd fun q => if q.2.length = z.2.2.2.length ∧ allVal q.1 = true then (f (z.1 :: q.1.map Arg.t)).bd fun r => match r.2 with
    | u' :: _ => some (r.1, q.2.set i (.lst true (z.2.2.1.set z.2.1 u')))
    | [] => none
    else none) := rfl
theorem mStrs_apc (zs : List Str) (s0 : T) (ss : List T) : mStrs zs (s0 :: ss) = (some (.lst true (zs.map T.str), (s0 :: ss))) := rfl
theorem mStrs_apn (zs : List Str) : mStrs zs [] = (some (.lst true (zs.map T.str), [])) := rfl
theorem sPar3_apc (i j l : Nat) (as : MA) (s0 : T) (ss : List T) : sPar3 i j l as (s0 :: ss) = ((as (s0 :: ss)).bd fun p => match resT p.1 p.2 with
  | [t, u, w] => some (.nx, (((resR p.1 p.2).set i t).set j u).set l w)
  | _ => none) := rfl
theorem sPar3_apn (i j l : Nat) (as : MA) : sPar3 i j l as [] = ((as []).bd fun p => match resT p.1 p.2 with
  | [t, u, w] => some (.nx, (((resR p.1 p.2).set i t).set j u).set l w)
  | _ => none) := rfl
theorem sNo_ap (ρ : List T) : sNo ρ = none := rfl
theorem gNm_ap (i : Nat) (t : T) (ρ : List T) : gNm i t ρ = some (ρ.set i t) := rfl
theorem gsNil_ap (ρ : List T) : gsNil [] ρ = some ρ := rfl
theorem gsCons_ap (g : MG) (gs : List T → List T → Option (List T)) (t : T) (ts ρ : List T) : gsCons g gs (t :: ts) ρ = (g t ρ).bd fun r => gs ts r := rfl
theorem gTup_ap (n : Nat) (gs : List T → List T → Option (List T)) (ts ρ : List T) : gTup n gs (.tup ts) ρ = if ts.length = n then gs ts ρ else none := rfl
theorem sWhile_ap (mt : MT) (b : MS) (ρ : List T) : sWhile mt b ρ = whileF FUEL mt b ρ := rfl
theorem forF_nil (g : MG) (b : MS) (ρ : List T) : forF g b [] ρ = some (.nx, ρ) := rfl
theorem lcF_nil (ws : List Nat) (g : MG) (c : MC) (e : M) (ρ : List T) : lcF ws g c e [] ρ = some ([], ρ) := rfl
/-! operations -/
theorem fAdd_int (i j : Int) : fAdd [.v (.int i), .v (.int j)] = some (T.int (i + j), [T.int i, T.int j]) := rfl
theorem fAdd_str (i j : Str) : fAdd [.v (.str i), .v (.str j)] = gd (szB (i.length + j.length)) (some (T.str (i ++ j), [T.str i, T.str j])) := rfl
theorem fAdd_lst (o o2 : Bool) (xs ys : List T) : fAdd [.lst o xs, .lst o2 ys] = gd (fzLB xs && (fzLB ys && szB (xs.length + ys.length))) (some (.lst true (xs ++ ys), [.lst o xs, .lst o2 ys])) := rfl
theorem fSub_int (i j : Int) : fSub [.v (.int i), .v (.int j)] = some (T.int (i - j), [T.int i, T.int j]) := rfl
theorem fMul_int (i j : Int) : fMul [.v (.int i), .v (.int j)] = gd (decide (CMul i j)) (some (T.int (i * j), [T.int i, T.int j])) := rfl
theorem fDiv_int (i j : Int) : fDiv [.v (.int i), .v (.int j)] = gd (decide (CDiv i j)) (some (T.int (i / j), [T.int i, T.int j])) := rfl
theorem fMod_int (i j : Int) : fMod [.v (.int i), .v (.int j)] = gd (decide (0 < j)) (some (T.int (i % j), [T.int i, T.int j])) := rfl
theorem fPow_int (i j : Int) : fPow [.v (.int i), .v (.int j)] = gd (decide (CPow i j)) (some (T.int (i ^ j.toNat), [T.int i, T.int j])) := rfl
theorem fNeg_int (i : Int) : fNeg [.v (.int i)] = some (T.int (-i), [T.int i]) := rfl
theorem fLt_int (i j : Int) : fLt [.v (.int i), .v (.int j)] = some (T.bl (decide (i < j)), [T.int i, T.int j]) := rfl
theorem fLe_int (i j : Int) : fLe [.v (.int i), .v (.int j)] = some (T.bl (decide (i ≤ j)), [T.int i, T.int j]) := rfl
theorem fGt_int (i j : Int) : fGt [.v (.int i), .v (.int j)] = some (T.bl (decide (j < i)), [T.int i, T.int j]) := rfl
theorem fGe_int (i j : Int) : fGe [.v (.int i), .v (.int j)] = some (T.bl (decide (j ≤ i)), [T.int i, T.int j]) := rfl
theorem fLt_str (i j : Str) : fLt [.v (.str i), .v (.str j)] = some (T.bl (decide (i.cps.toList < j.cps.toList)), [T.str i, T.str j]) := rfl
theorem fLe_str (i j : Str) : fLe [.v (.str i), .v (.str j)] = some (T.bl (!decide (j.cps.toList < i.cps.toList)), [T.str i, T.str j]) := rfl
theorem fGt_str (i j : Str) : fGt [.v (.str i), .v (.str j)] = some (T.bl (decide (j.cps.toList < i.cps.toList)), [T.str i, T.str j]) := rfl
theorem fGe_str (i j : Str) : fGe [.v (.str i), .v (.str j)] = some (T.bl (!decide (i.cps.toList < j.cps.toList)), [T.str i, T.str j]) := rfl
theorem fIs_non (x : V) : fIs [.v x, .v .non] = some (T.bl (decide (x = .non)), [.v x, T.non]) := by cases x <;> rfl
theorem fIs_bl (a b : Bool) : fIs [.v (.bl a), .v (.bl b)] = some (T.bl (decide (a = b)), [T.bl a, T.bl b]) := rfl
theorem fIsNot_non (x : V) : fIsNot [.v x, .v .non] = some (T.bl (!decide (x = .non)), [.v x, T.non]) := by cases x <;> rfl
theorem fIsNot_bl (a b : Bool) : fIsNot [.v (.bl a), .v (.bl b)] = some (T.bl (!decide (a = b)), [T.bl a, T.bl b]) := rfl
theorem fEq_int (i j : Int) : fEq [.v (.int i), .v (.int j)] = some (T.bl (decide (i = j)), [T.int i, T.int j]) := by
  show gd true (some (T.bl (decide (V.int i = V.int j)), _)) = _
  rw [show decide (V.int i = V.int j) = decide (i = j) from decide_eq_decide.mpr ⟨V.int.inj, fun h => by rw [h]⟩]
  rfl
theorem fEq_str (i j : Str) : fEq [.v (.str i), .v (.str j)] = some (T.bl (decide (i = j)), [T.str i, T.str j]) := by
  show gd true (some (T.bl (decide (V.str i = V.str j)), _)) = _
  rw [show decide (V.str i = V.str j) = decide (i = j) from decide_eq_decide.mpr ⟨V.str.inj, fun h => by rw [h]⟩]
  rfl
theorem fEq_bl (i j : Bool) : fEq [.v (.bl i), .v (.bl j)] = some (T.bl (decide (i = j)), [T.bl i, T.bl j]) := by
  show gd true (some (T.bl (decide (V.bl i = V.bl j)), _)) = _
  rw [show decide (V.bl i = V.bl j) = decide (i = j) from decide_eq_decide.mpr ⟨V.bl.inj, fun h => by rw [h]⟩]
  rfl
theorem fNe_int (i j : Int) : fNe [.v (.int i), .v (.int j)] = some (T.bl (!decide (i = j)), [T.int i, T.int j]) := by
  show gd true (some (T.bl (!decide (V.int i = V.int j)), _)) = _
  rw [show decide (V.int i = V.int j) = decide (i = j) from decide_eq_decide.mpr ⟨V.int.inj, fun h => by rw [h]⟩]
  rfl
theorem fNe_str (i j : Str) : fNe [.v (.str i), .v (.str j)] = some (T.bl (!decide (i = j)), [T.str i, T.str j]) := by
  show gd true (some (T.bl (!decide (V.str i = V.str j)), _)) = _
  rw [show decide (V.str i = V.str j) = decide (i = j) from decide_eq_decide.mpr ⟨V.str.inj, fun h => by rw [h]⟩]
  rfl
theorem fNe_bl (i j : Bool) : fNe [.v (.bl i), .v (.bl j)] = some (T.bl (!decide (i = j)), [T.bl i, T.bl j]) := by
  show gd true (some (T.bl (!decide (V.bl i = V.bl j)), _)) = _
  rw [show decide (V.bl i = V.bl j) = decide (i = j) from decide_eq_decide.mpr ⟨V.bl.inj, fun h => by rw [h]⟩]
  rfl
theorem fEq_lst (o : Bool) (xs : List T) (u : T) : fEq [.lst o xs, u] = (eqD (.lst o xs) u).bd fun b => some (T.bl b, [.lst o xs, u]) := rfl
theorem fEq_tup (xs : List T) (u : T) : fEq [.tup xs, u] = (eqD (.tup xs) u).bd fun b => some (T.bl b, [.tup xs, u]) := rfl
theorem fNe_lst (o : Bool) (xs : List T) (u : T) : fNe [.lst o xs, u] = (eqD (.lst o xs) u).bd fun b => some (T.bl (!b), [.lst o xs, u]) := rfl
theorem fNe_tup (xs : List T) (u : T) : fNe [.tup xs, u] = (eqD (.tup xs) u).bd fun b => some (T.bl (!b), [.tup xs, u]) := rfl
theorem fIn_ap (t u : T) : fIn [t, u] = (insB t u).bd fun b => some (T.bl b, [t, u]) := rfl
theorem fNotIn_ap (t u : T) : fNotIn [t, u] = (insB t u).bd fun b => some (T.bl (!b), [t, u]) := rfl
theorem fIx_str (z : Str) (i : Int) : fIx [.v (.str z), .v (.int i)] = gd (szB z.length) ((atI z.cps.toList i).bd fun c => some (T.str ⟨#[c]⟩, [T.str z, T.int i])) := rfl
theorem fIx_lst (o : Bool) (xs : List T) (i : Int) : fIx [.lst o xs, .v (.int i)] = (atI xs i).bd fun t => gd (fzB t) (some (t, [.lst o xs, T.int i])) := rfl
theorem fIx_tup (xs : List T) (i : Int) : fIx [.tup xs, .v (.int i)] = (atI xs i).bd fun t => gd (fzB t) (some (t, [.tup xs, T.int i])) := rfl
theorem fIx_dK (o : Bool) (ks : List Key) (xs : List T) (k : T) : fIx [.dK o ks xs, k] = (keyOf k).bd fun k' => (ks.findIdx? fun x => decide (x = k')).bd fun j => (xs[j]?).bd fun t => gd (fzB t) (some (t, [.dK o ks xs, k])) := rfl
theorem fSt_lst (t : T) (xs : List T) (i : Int) : fSt [t, .lst true xs, .v (.int i)] = (ixN xs.length i).bd fun j => some (T.non, [.gone, .lst true (xs.set j t), T.int i]) := rfl
theorem fLst_ap (ts : List T) : fLst ts = gd (szB ts.length) (some (.lst true ts, goneL ts)) := rfl
theorem fTup_ap (ts : List T) : fTup ts = gd (szB ts.length) (some (.tup ts, goneL ts)) := rfl
theorem slT_str (lo hi : Option Int) (z : Str) : slT lo hi (.v (.str z)) = gd (szB z.length) (some (T.str (cutS z lo hi), T.str z)) := rfl
theorem slT_lst (lo hi : Option Int) (o : Bool) (xs : List T) : slT lo hi (.lst o xs) = gd (fzLB xs) (some (.lst true (cutL xs lo hi), .lst o xs)) := rfl
theorem slT_tup (lo hi : Option Int) (xs : List T) : slT lo hi (.tup xs) = gd (fzLB xs) (some (.tup (cutL xs lo hi), .tup xs)) := rfl
theorem fSl00_ap (t : T) : fSl00 [t] = (slT none none t).bd fun p => some (p.1, [p.2]) := rfl
theorem fSl10_ap (t : T) (i : Int) : fSl10 [t, .v (.int i)] = (slT (some i) none t).bd fun p => some (p.1, [p.2, T.int i]) := rfl
theorem fSl01_ap (t : T) (i : Int) : fSl01 [t, .v (.int i)] = (slT none (some i) t).bd fun p => some (p.1, [p.2, T.int i]) := rfl
theorem fSl11_ap (i j : Int) (t : T) : fSl11 i j [t] = (slT (some i) (some j) t).bd fun p => some (p.1, [p.2]) := rfl
theorem fLen_str (z : Str) : fLen [.v (.str z)] = gd (szB z.length) (some (T.int z.length, [T.str z])) := rfl
theorem fLen_lst (o : Bool) (xs : List T) : fLen [.lst o xs] = some (T.int xs.length, [.lst o xs]) := rfl
theorem fLen_tup (xs : List T) : fLen [.tup xs] = some (T.int xs.length, [.tup xs]) := rfl
theorem fInt_int (i : Int) : fInt [.v (.int i)] = some (T.int i, [T.int i]) := rfl
theorem fStr_int (i : Int) : fStr [.v (.int i)] = gd (decide (i.natAbs.log2 < 1920)) (some (T.str (toString i), [T.int i])) := rfl
theorem fIsi_ty (t : T) (c : String) : fIsi [t, .v (.ty c)] = (kindT t).bd fun k => (kitB k c).bd fun b => some (T.bl b, [t, .v (.ty c)]) := rfl
theorem fIsi_tup (t : T) (cs : List T) : fIsi [t, .tup cs] = (kindT t).bd fun k => (tysL cs).bd fun cs' => (kitBs k cs').bd fun b => some (T.bl b, [t, .tup cs]) := rfl
theorem fAll_lst (o : Bool) (xs : List T) : fAll [.lst o xs] = (blsL xs).bd fun bs => some (T.bl (bs.all id), [.lst o xs]) := rfl
theorem fAny_lst (o : Bool) (xs : List T) : fAny [.lst o xs] = (blsL xs).bd fun bs => some (T.bl (bs.any id), [.lst o xs]) := rfl
theorem fList_lst (o : Bool) (xs : List T) : fList [.lst o xs] = gd (fzLB xs) (some (.lst true xs, [.lst o xs])) := rfl
theorem fList_tup (xs : List T) : fList [.tup xs] = gd (fzLB xs) (some (.lst true xs, [.tup xs])) := rfl
theorem fList_ro (xs : List V) : fList [.ro xs] = some (.lst true (xs.map T.v), [.ro xs]) := rfl
theorem fList_str (z : Str) : fList [.v (.str z)] = gd (szB z.cps.size) (some (.lst true (sgnT z), [T.str z])) := rfl
theorem fTuple_lst (o : Bool) (xs : List T) : fTuple [.lst o xs] = gd (fzLB xs) (some (.tup xs, [.lst o xs])) := rfl
theorem fTuple_tup (xs : List T) : fTuple [.tup xs] = gd (fzLB xs) (some (.tup xs, [.tup xs])) := rfl
theorem fDict_lst (o : Bool) (ps : List T) : fDict [.lst o ps] = (prL ps).bd fun p => gd (decide p.1.Nodup && fzLB p.2) (some (.dK true p.1 p.2, [.lst o ps])) := rfl
theorem fItems_dK (o : Bool) (ks : List Key) (xs : List T) : fItems [.dK o ks xs] = gd (fzLB xs && (decide (ks.length = xs.length) && decide ks.Nodup)) (some (.lst true (List.zipWith pairT ks xs), [.dK o ks xs])) := rfl
theorem fAppend_ap (xs : List T) (t : T) : fAppend [.lst true xs, t] = gd (szB (xs.length + 1)) (some (T.non, [.lst true (xs ++ [t]), .gone])) := rfl
theorem fPopAt_ap (xs : List T) (i : Int) : fPopAt [.lst true xs, .v (.int i)] = gd (decide (-(2 ^ 63) ≤ i ∧ i < 2 ^ 63)) ((seqIndex? i xs.length).bd fun j => (xs[j]?).bd fun t => some (t, [.lst true (xs.eraseIdx j), T.int i])) := rfl
theorem fJoin_ap (a : Str) (o : Bool) (xs : List T) : fJoin [.v (.str a), .lst o xs] = (strsL xs).bd fun ys => gd (decide ((ys.map (·.length)).sum + ys.length * a.length ≤ 16777216)) (some (T.str (Txt.join a ys), [T.str a, .lst o xs])) := rfl
/-! still things -/
theorem fz_V (x : V) : fz (.v x) = .v x := rfl
theorem fz_Gone : fz .gone = .gone := rfl
theorem fz_Lst (o : Bool) (xs : List T) : fz (.lst o xs) = .lst false (fzL xs) := by unfold fz; rfl
theorem fz_Tup (xs : List T) : fz (.tup xs) = .tup (fzL xs) := by unfold fz; rfl
theorem fz_DK (o : Bool) (ks : List Key) (xs : List T) : fz (.dK o ks xs) = .dK false ks (fzL xs) := by unfold fz; rfl
theorem fz_DT (o : Bool) (ks : List (List Key)) (xs : List T) : fz (.dT o ks xs) = .dT false ks (fzL xs) := by unfold fz; rfl
theorem fz_Ins (o : Bool) (C : Addr) (fs : List Str) (xs : List T) : fz (.ins o C fs xs) = .ins false C fs (fzL xs) := by unfold fz; rfl
theorem fzL_Nil : fzL [] = [] := by unfold fzL; rfl
theorem fzL_Cons (t : T) (ts : List T) : fzL (t :: ts) = fz t :: fzL ts := by rw [fzL]
theorem fzL_Map {α : Type} (f : α → T) (xs : List α) : fzL (xs.map f) = xs.map fun x => fz (f x) := by
  induction xs with
  | nil => exact fzL_Nil
  | cons x xs ih => rw [List.map_cons, fzL_Cons, ih, List.map_cons]
theorem fzL_App (xs ys : List T) : fzL (xs ++ ys) = fzL xs ++ fzL ys := by
  induction xs with
  | nil => rw [fzL_Nil]; rfl
  | cons x xs ih => rw [List.cons_append, fzL_Cons, ih, fzL_Cons]; rfl
mutual
theorem fz_Fz2 : ∀ t : T, fz (fz t) = fz t := fun t => fz_of (fz_Fz t)
end
theorem fzL_fzL (ts : List T) : fzL (fzL ts) = fzL ts := fzL_of (fzL_FzL ts)
theorem fzB_V (x : V) : fzB (.v x) = true := rfl
theorem fzB_fz (t : T) : fzB (fz t) = true := Fz_B (fz_Fz t)
theorem fzLB_fzL (ts : List T) : fzLB (fzL ts) = true := FzL_B (fzL_FzL ts)
theorem fzB_Lst (xs : List T) : fzB (.lst false xs) = fzLB xs := by unfold fzB; rfl
theorem fzB_Tup (xs : List T) : fzB (.tup xs) = fzLB xs := by unfold fzB; rfl
theorem fzB_DK (ks : List Key) (xs : List T) : fzB (.dK false ks xs) = fzLB xs := by unfold fzB; rfl
theorem fzLB_Nil : fzLB [] = true := by unfold fzLB; rfl
theorem fzLB_Cons (t : T) (ts : List T) : fzLB (t :: ts) = (fzB t && fzLB ts) := by rw [fzLB]
theorem fzLB_Map {α : Type} (f : α → T) (h : ∀ x, fzB (f x) = true) (xs : List α) : fzLB (xs.map f) = true := by
  induction xs with
  | nil => exact fzLB_Nil
  | cons x xs ih => rw [List.map_cons, fzLB_Cons, ih, h]; rfl
theorem fzLB_str (xs : List Str) : fzLB (xs.map fun x => T.v (V.str x)) = true := fzLB_Map _ (fun _ => rfl) xs
theorem fzLB_int (xs : List Int) : fzLB (xs.map fun x => T.v (V.int x)) = true := fzLB_Map _ (fun _ => rfl) xs
theorem fzLB_bl (xs : List Bool) : fzLB (xs.map fun x => T.v (V.bl x)) = true := fzLB_Map _ (fun _ => rfl) xs
/-! operands and slots -/
theorem resT_nil (ρ : List T) : resT [] ρ = [] := rfl
theorem resT_val (t : T) (as : List Arg) (ρ : List T) : resT (.val t :: as) ρ = t :: resT as ρ := rfl
theorem resT_at (i : Nat) (as : List Arg) (ρ : List T) : resT (.at i :: as) ρ = ρ.getD i .gone :: resT as (ρ.set i .gone) := rfl
theorem resR_nil (ρ : List T) : resR [] ρ = ρ := rfl
theorem resR_val (t : T) (as : List Arg) (ρ : List T) : resR (.val t :: as) ρ = resR as ρ := rfl
theorem resR_at (i : Nat) (as : List Arg) (ρ : List T) : resR (.at i :: as) ρ = resR as (ρ.set i .gone) := rfl
theorem wb_nil (ts ρ : List T) : wb [] ts ρ = ρ := by cases ts <;> rfl
theorem wb_val (t u : T) (as : List Arg) (ts ρ : List T) : wb (.val t :: as) (u :: ts) ρ = wb as ts ρ := rfl
theorem wb_at (i : Nat) (u : T) (as : List Arg) (ts ρ : List T) : wb (.at i :: as) (u :: ts) ρ = wb as ts (ρ.set i u) := rfl
theorem goneL_nil : goneL [] = [] := rfl
theorem goneL_cons (t : T) (ts : List T) : goneL (t :: ts) = .gone :: goneL ts := rfl
theorem maskT_zero (P : Nat → Bool) (i : Nat) (ρ : List T) : maskT P i 0 ρ = [] := by cases ρ <;> rfl
theorem maskT_succ (P : Nat → Bool) (i n : Nat) (t : T) (ρ : List T) : maskT P i (n + 1) (t :: ρ) = (if P i = true then t else .gone) :: maskT P (i + 1) n ρ := rfl
theorem wipeT_nil (ρ : List T) : wipeT ρ [] = ρ := rfl
theorem wipeT_cons (ρ : List T) (v : Nat) (vs : List Nat) : wipeT ρ (v :: vs) = (wipeT ρ vs).set v .gone := rfl
theorem atI_cast {α : Type} (xs : List α) (j : Nat) : atI xs (j : Int) = xs[j]? := by
  by_cases h : j < xs.length
  · rw [atI_of (List.getElem?_eq_getElem h), List.getElem?_eq_getElem h]
  · unfold atI ixN
    rw [if_pos (by omega), if_neg (by omega), List.getElem?_eq_none (by omega)]
    rfl
theorem atI_0 {α : Type} (x : α) (xs : List α) : atI (x :: xs) 0 = some x := atI_of (j := 0) rfl
theorem atI_1 {α : Type} (x y : α) (xs : List α) : atI (x :: y :: xs) 1 = some y := atI_of (j := 1) rfl
theorem atI_2 {α : Type} (x y z : α) (xs : List α) : atI (x :: y :: z :: xs) 2 = some z := atI_of (j := 2) rfl
theorem atI_3 {α : Type} (x y z w : α) (xs : List α) : atI (x :: y :: z :: w :: xs) 3 = some w := atI_of (j := 3) rfl
theorem itemsT_lst (xs : List T) : itemsT (.lst false xs) = some xs := rfl
theorem itemsT_tup (xs : List T) : itemsT (.tup xs) = some xs := rfl
theorem itemsT_str (z : Str) : itemsT (.v (.str z)) = gd (szB z.cps.size) (some (sgnT z)) := rfl
theorem itemsT_dK (ks : List Key) (xs : List T) : itemsT (.dK false ks xs) = some (ks.map keyT) := rfl
theorem valsT_dK (ks : List Key) (xs : List T) : valsT (.dK false ks xs) = gd (decide (ks.length = xs.length)) (some xs) := rfl
theorem prsT_dK (ks : List Key) (xs : List T) : prsT (.dK false ks xs) = some ((ks.zip xs).map fun p => .tup [keyT p.1, p.2]) := rfl
theorem lstT_lst (xs : List T) : lstT (.lst false xs) = some xs := rfl
theorem zipW_lst (o o2 : Bool) (xs ys : List T) : zipW (.lst o xs) (.lst o2 ys) = some (zipT (fzL xs) (fzL ys)) := by unfold zipW; rw [fz_Lst, fz_Lst]
theorem zipW_tup (xs ys : List T) : zipW (.tup xs) (.tup ys) = some (zipT (fzL xs) (fzL ys)) := by unfold zipW; rw [fz_Tup, fz_Tup]
theorem truT_bl (b : Bool) : truT (.v (.bl b)) = some b := rfl
theorem truT_int (i : Int) : truT (.v (.int i)) = some (i != 0) := rfl
theorem truT_lst (o : Bool) (xs : List T) : truT (.lst o xs) = some (!xs.isEmpty) := rfl
theorem truT_tup (xs : List T) : truT (.tup xs) = some (!xs.isEmpty) := rfl
theorem kindT_non : kindT (.v .non) = some "NoneType" := rfl
theorem kindT_bl (b : Bool) : kindT (.v (.bl b)) = some "bool" := rfl
theorem kindT_int (i : Int) : kindT (.v (.int i)) = some "int" := rfl
theorem kindT_str (i : Str) : kindT (.v (.str i)) = some "str" := rfl
theorem kindT_lst (o : Bool) (xs : List T) : kindT (.lst o xs) = some "list" := rfl
theorem kindT_tup (xs : List T) : kindT (.tup xs) = some "tuple" := rfl
theorem kindT_dK (o : Bool) (ks : List Key) (xs : List T) : kindT (.dK o ks xs) = some "dict" := rfl
theorem tysL_nil : tysL [] = some [] := rfl
theorem tysL_cons (c : String) (ts : List T) : tysL (.v (.ty c) :: ts) = (tysL ts).bd fun cs => some (c :: cs) := rfl
theorem tyB_lst (o : Bool) (xs : List T) : tyB "list" (.lst o xs) = true := rfl
theorem tyB_str (z : Str) : tyB "str" (.v (.str z)) = true := rfl
theorem tyB_dK (ks : List Key) (xs : List T) : tyB "dict" (.dK true ks xs) = true := rfl
theorem allVal_nil : allVal [] = true := rfl
theorem allVal_val (t : T) (as : List Arg) : allVal (.val t :: as) = allVal as := rfl
theorem szB_eq (n : Nat) : szB n = decide (n ≤ 16777216) := rfl
theorem pinF_eq (bs : List Bool) (i : Nat) : pinF bs i = bs.getD i false := rfl
theorem getD0 {α : Type} (x d : α) (xs : List α) : (x :: xs).getD 0 d = x := rfl
theorem getDS {α : Type} (x d : α) (xs : List α) (i : Nat) : (x :: xs).getD (i + 1) d = xs.getD i d := by simp [List.getD]
theorem argT_val (t : T) : Arg.t (.val t) = t := rfl
theorem keyOf_str (s : Str) : keyOf (.v (.str s)) = some (.inr s) := rfl
theorem keyOf_int (i : Int) : keyOf (.v (.int i)) = some (.inl i) := rfl
theorem ixN_0 (n : Nat) : ixN n 0 = if 0 < n then some 0 else none := by unfold ixN; rw [if_pos (Int.le_refl 0)]; split <;> split <;> first | rfl | omega
theorem ixN_1 (n : Nat) : ixN n 1 = if 1 < n then some 1 else none := by unfold ixN; rw [if_pos (by decide)]; split <;> split <;> first | rfl | omega
theorem ixN_2 (n : Nat) : ixN n 2 = if 2 < n then some 2 else none := by unfold ixN; rw [if_pos (by decide)]; split <;> split <;> first | rfl | omega
theorem ixN_3 (n : Nat) : ixN n 3 = if 3 < n then some 3 else none := by unfold ixN; rw [if_pos (by decide)]; split <;> split <;> first | rfl | omega
theorem map_vint (ns : List Int) : (ns.map V.int).map T.v = ns.map T.int := by rw [List.map_map]; rfl
theorem map_vstr (ns : List Str) : (ns.map V.str).map T.v = ns.map T.str := by rw [List.map_map]; rfl
theorem map_vbl (ns : List Bool) : (ns.map V.bl).map T.v = ns.map T.bl := by rw [List.map_map]; rfl
theorem kidIx_ap (i : Nat) (mi : M) (ρ : List T) : kidIx i mi ρ = (slot ρ i).bd fun _ => (mi ρ).bd fun p => (intT p.1).bd fun k => (p.2[i]?).bd fun c => match c with
  | .lst true xs => (ixN xs.length k).bd fun j => (xs[j]?).bd fun u => some (u, j, xs, p.2)
  | _ => none := rfl
end DL

/-! FL8: loops and comprehensions, by what holds between turns. -/
namespace DL
open PySem PySem.Spec L2
/-- it ends so -/
def Hs {α β : Type} (x : Option (α × β)) (Q : α → β → Prop) : Prop := ∃ a b, x = some (a, b) ∧ Q a b
theorem Hs.imp {α β : Type} {x : Option (α × β)} {Q Q' : α → β → Prop} (h : Hs x Q) (k : ∀ a b, Q a b → Q' a b) : Hs x Q' := by
  obtain ⟨a, b, e, q⟩ := h
  exact ⟨a, b, e, k a b q⟩
theorem Hs.bd {α β γ δ : Type} {x : Option (α × β)} {f : α × β → Option (γ × δ)} {P : α → β → Prop} {Q : γ → δ → Prop} (h : Hs x P) (k : ∀ a b, P a b → Hs (f (a, b)) Q) : Hs (x.bd f) Q := by
  obtain ⟨a, b, e, p⟩ := h
  rw [e]
  exact k a b p
theorem Hs.mk {α β : Type} {x : Option (α × β)} {Q : α → β → Prop} {a : α} {b : β} (e : x = some (a, b)) (q : Q a b) : Hs x Q := ⟨a, b, e, q⟩
theorem Hs.some {α β : Type} {Q : α → β → Prop} {a : α} {b : β} (q : Q a b) : Hs (some (a, b)) Q := ⟨a, b, rfl, q⟩
theorem whileF_succ (n : Nat) (mt : MT) (b : MS) (ρ : List T) : whileF (n + 1) mt b ρ = (mt ρ).bd fun p => if p.1 then (b p.2).bd fun q => match q.1 with
    | .nx => whileF n mt b q.2
    | .ct => whileF n mt b q.2
    | .bk => some (.nx, q.2)
    | .rt t => some (.rt t, q.2)
    else some (.nx, p.2) := rfl
/-- a while -/
theorem while_hs {α : Type} {mt : MT} {b : MS} (E : α → List T → Prop) (μ : α → Nat) (Q : Out → List T → Prop)
    (step : ∀ a ρ, E a ρ → Hs (mt ρ) fun c ρ1 => if c then Hs (b ρ1) fun o ρ2 => match o with
      | .nx => ∃ a', μ a' < μ a ∧ E a' ρ2
      | .ct => ∃ a', μ a' < μ a ∧ E a' ρ2
      | .bk => Q .nx ρ2
      | .rt t => Q (.rt t) ρ2
      else Q .nx ρ1) : ∀ (n : Nat) (a : α) (ρ : List T), E a ρ → μ a < n → Hs (whileF n mt b ρ) Q
  | 0, a, ρ, h, hn => absurd hn (Nat.not_lt_zero _)
  | n + 1, a, ρ, h, hn => by
    rw [whileF_succ]
    refine (step a ρ h).bd fun c ρ1 hc => ?_
    dsimp only
    cases c with
    | false => exact .some hc
    | true =>
      rw [if_pos rfl] at hc
      rw [if_pos rfl]
      refine hc.bd fun o ρ2 ho => ?_
      cases o with
      | nx => obtain ⟨a', l, h'⟩ := ho; exact while_hs E μ Q step n a' ρ2 h' (by omega)
      | ct => obtain ⟨a', l, h'⟩ := ho; exact while_hs E μ Q step n a' ρ2 h' (by omega)
      | bk => exact .some ho
      | rt t => exact .some ho
theorem sWhile_hs {α : Type} {mt : MT} {b : MS} {ρ : List T} {Q : Out → List T → Prop} (E : α → List T → Prop) (μ : α → Nat) (a : α) (h : E a ρ) (hm : μ a < 1000000)
    (step : ∀ a ρ, E a ρ → Hs (mt ρ) fun c ρ1 => if c then Hs (b ρ1) fun o ρ2 => match o with
      | .nx => ∃ a', μ a' < μ a ∧ E a' ρ2
      | .ct => ∃ a', μ a' < μ a ∧ E a' ρ2
      | .bk => Q .nx ρ2
      | .rt t => Q (.rt t) ρ2
      else Q .nx ρ1) : Hs (sWhile mt b ρ) Q := while_hs E μ Q step FUEL a ρ h hm
theorem forF_cons (g : MG) (b : MS) (t : T) (ts ρ : List T) : forF g b (t :: ts) ρ = (g t ρ).bd fun r => (b r).bd fun q => match q.1 with
    | .nx => forF g b ts q.2
    | .ct => forF g b ts q.2
    | .bk => some (.nx, q.2)
    | .rt t => some (.rt t, q.2) := rfl
/-- a for: E holds of what is left -/
theorem for_hs {g : MG} {b : MS} (E : List T → List T → Prop) (Q : Out → List T → Prop) (fin : ∀ ρ, E [] ρ → Q .nx ρ)
    (step : ∀ t ts ρ, E (t :: ts) ρ → ∃ r, g t ρ = some r ∧ Hs (b r) fun o ρ2 => match o with
      | .nx => E ts ρ2
      | .ct => E ts ρ2
      | .bk => Q .nx ρ2
      | .rt t => Q (.rt t) ρ2) : ∀ (ts : List T) (ρ : List T), E ts ρ → Hs (forF g b ts ρ) Q
  | [], ρ, h => .some (fin ρ h)
  | t :: ts, ρ, h => by
    obtain ⟨r, e, hb⟩ := step t ts ρ h
    rw [forF_cons, e, bd_some]
    refine hb.bd fun o ρ2 ho => ?_
    cases o with
    | nx => exact for_hs E Q fin step ts ρ2 ho
    | ct => exact for_hs E Q fin step ts ρ2 ho
    | bk => exact .some ho
    | rt t => exact .some ho
/-- a for over f of each of xs, by the number of turns done -/
theorem for_map {α : Type} {g : MG} {b : MS} (f : α → T) (xs : List α) (E : Nat → List T → Prop) (Q : Out → List T → Prop) (fin : ∀ ρ, E xs.length ρ → Q .nx ρ)
    (step : ∀ (i : Nat) (x : α) ρ, xs[i]? = some x → E i ρ → ∃ r, g (f x) ρ = some r ∧ Hs (b r) fun o ρ2 => match o with
      | .nx => E (i + 1) ρ2
      | .ct => E (i + 1) ρ2
      | .bk => Q .nx ρ2
      | .rt t => Q (.rt t) ρ2) {ρ : List T} (h : E 0 ρ) : Hs (forF g b (xs.map f) ρ) Q := by
  refine for_hs (fun ts ρ => ∃ i, i ≤ xs.length ∧ ts = (xs.drop i).map f ∧ E i ρ) Q (fun ρ ⟨i, hi, e, h⟩ => ?_) (fun t ts ρ ⟨i, hi, e, h⟩ => ?_) _ ρ ⟨0, Nat.zero_le _, by rw [List.drop_zero], h⟩
  · have : xs.length = i := by
      have := congrArg List.length e
      simp at this
      omega
    subst this
    exact fin ρ h
  · have hl : i < xs.length := by
      have := congrArg List.length e
      simp at this
      omega
    rw [List.drop_eq_getElem_cons hl, List.map_cons] at e
    obtain ⟨rfl, rfl⟩ := List.cons.inj e
    obtain ⟨r, e, hb⟩ := step i xs[i] ρ (List.getElem?_eq_getElem hl) h
    refine ⟨r, e, hb.imp fun o ρ2 ho => ?_⟩
    cases o with
    | nx => exact ⟨i + 1, by omega, rfl, ho⟩
    | ct => exact ⟨i + 1, by omega, rfl, ho⟩
    | bk => exact ho
    | rt t => exact ho
/-! comprehensions -/
theorem lcF_cons (ws : List Nat) (g : MG) (c : MC) (e : M) (t : T) (ts ρ : List T) : lcF ws g c e (t :: ts) ρ = (g t ρ).bd fun r => (c r).bd fun p => if p.1 then (e p.2).bd fun q => (lcF ws g c e ts (wipeT q.2 ws)).bd fun z => some (q.1 :: z.1, z.2) else lcF ws g c e ts (wipeT p.2 ws) := rfl
/-- each turn leaves the slots as they were -/
theorem lc_map {α : Type} {ws : List Nat} {g : MG} {c : MC} {e : M} (f : α → T) (h : α → T) {ρ : List T} : ∀ (xs : List α),
    (∀ x ∈ xs, ∃ r r2 r3, g (f x) ρ = some r ∧ c r = some (true, r2) ∧ e r2 = some (h x, r3) ∧ wipeT r3 ws = ρ) → lcF ws g c e (xs.map f) ρ = some (xs.map h, ρ)
  | [], _ => rfl
  | x :: xs, st => by
    obtain ⟨r, r2, r3, e1, e2, e3, e4⟩ := st x List.mem_cons_self
    rw [List.map_cons, lcF_cons, e1, bd_some, e2, bd_some]
    dsimp only
    rw [if_pos rfl, e3, bd_some]
    dsimp only
    rw [e4, lc_map f h xs fun y hy => st y (List.mem_cons_of_mem _ hy), bd_some]
    rfl
theorem lc_filter {α : Type} {ws : List Nat} {g : MG} {c : MC} {e : M} (f : α → T) (p : α → Bool) (h : α → T) {ρ : List T} : ∀ (xs : List α),
    (∀ x ∈ xs, ∃ r r2, g (f x) ρ = some r ∧ c r = some (p x, r2) ∧ if p x = true then ∃ r3, e r2 = some (h x, r3) ∧ wipeT r3 ws = ρ else wipeT r2 ws = ρ) → lcF ws g c e (xs.map f) ρ = some ((xs.filter p).map h, ρ)
  | [], _ => rfl
  | x :: xs, st => by
    obtain ⟨r, r2, e1, e2, e3⟩ := st x List.mem_cons_self
    have ih := lc_filter f p h xs fun y hy => st y (List.mem_cons_of_mem _ hy)
    rw [List.map_cons, lcF_cons, e1, bd_some, e2, bd_some, List.filter_cons]
    dsimp only
    cases hp : p x with
    | true =>
      rw [hp, if_pos rfl] at e3
      obtain ⟨r3, e3, e4⟩ := e3
      rw [if_pos rfl, e3, bd_some]
      dsimp only
      rw [e4, ih, bd_some, if_pos rfl]
      rfl
    | false =>
      rw [hp, if_neg Bool.false_ne_true] at e3
      rw [if_neg Bool.false_ne_true, e3, ih, if_neg Bool.false_ne_true]
/-- the slots change: by what holds between turns -/
theorem lc_hs {ws : List Nat} {g : MG} {c : MC} {e : M} (E : List T → List T → List T → Prop)
    (step : ∀ t ts acc ρ, E (t :: ts) acc ρ → ∃ r, g t ρ = some r ∧ Hs (c r) fun k r2 => if k then Hs (e r2) fun y r3 => E ts (acc ++ [y]) (wipeT r3 ws) else E ts acc (wipeT r2 ws)) :
    ∀ (ts acc ρ : List T), E ts acc ρ → ∃ ys ρ', lcF ws g c e ts ρ = some (ys, ρ') ∧ E [] (acc ++ ys) ρ'
  | [], acc, ρ, h => ⟨[], ρ, rfl, by rw [List.append_nil]; exact h⟩
  | t :: ts, acc, ρ, h => by
    obtain ⟨r, e1, k, r2, e2, hk⟩ := step t ts acc ρ h
    rw [lcF_cons, e1, bd_some, e2, bd_some]
    dsimp only
    cases k with
    | true =>
      rw [if_pos rfl] at hk
      obtain ⟨y, r3, e3, hE⟩ := hk
      obtain ⟨ys, ρ', e4, hf⟩ := lc_hs E step ts _ _ hE
      rw [if_pos rfl, e3, bd_some]
      dsimp only
      rw [e4, bd_some]
      exact ⟨_, _, rfl, by rw [List.append_assoc] at hf; exact hf⟩
    | false =>
      rw [if_neg Bool.false_ne_true] at hk
      rw [if_neg Bool.false_ne_true]
      exact lc_hs E step ts acc _ hk
end DL

/-! FL9: == of data by a Lean type; small rules. -/
namespace DL
open PySem PySem.Spec L2
section
variable {α : Type} [DecidableEq α] {f : α → T} {ok : α → Prop}
theorem eqD_E (E : Enc f ok) {x y : α} (h1 : ok x) (h2 : ok y) (hn : E.n ≤ 64 := by decide) : eqD (f x) (f y) = some (decide (x = y)) := by
  unfold eqD
  rw [E.pdT, E.pdT, bd_some, bd_some, E.shaped hn h1, E.shaped hn h2, E.eq]
  rfl
theorem eqD_L (E : Enc f ok) {o o2 : Bool} {xs ys : List α} (h1 : ∀ x ∈ xs, ok x) (h2 : ∀ x ∈ ys, ok x) (hn : E.n ≤ 63 := by decide) : eqD (.lst o (xs.map f)) (.lst o2 (ys.map f)) = some (decide (xs = ys)) := by
  unfold eqD
  rw [(encL E o).pdT, (encL E o2).pdT, bd_some, bd_some, (encL E o).shaped (Nat.succ_le_succ hn) h1, (encL E o2).shaped (Nat.succ_le_succ hn) h2]
  rw [show ∀ a b, PyData.eqv ((encL E o).pd a) ((encL E o2).pd b) = decide (a = b) from (encL E o).eq]
  rfl
theorem eqD_U (E : Enc f ok) {xs ys : List α} (h1 : ∀ x ∈ xs, ok x) (h2 : ∀ x ∈ ys, ok x) (hn : E.n ≤ 63 := by decide) : eqD (.tup (xs.map f)) (.tup (ys.map f)) = some (decide (xs = ys)) := eqD_E (encU E) h1 h2 (Nat.succ_le_succ hn)
theorem eqD_N (E : Enc f ok) {o o2 : Bool} {xs : List α} (h1 : ∀ x ∈ xs, ok x) (hn : E.n ≤ 63 := by decide) : eqD (.lst o (xs.map f)) (.lst o2 []) = some (decide (xs = [])) := eqD_L (ys := []) E h1 (fun _ h => absurd h List.not_mem_nil) hn
end
theorem eqD_ints (o o2 : Bool) (xs ys : List Int) : eqD (.lst o (xs.map T.int)) (.lst o2 (ys.map T.int)) = some (decide (xs = ys)) := eqD_L encInt (fun _ _ => trivial) fun _ _ => trivial
theorem eqD_intsN (o o2 : Bool) (xs : List Int) : eqD (.lst o (xs.map T.int)) (.lst o2 []) = some (decide (xs = [])) := eqD_N encInt fun _ _ => trivial
/-- a text of signs -/
def StrOk (x : Str) : Prop := PyData.strOk x = true
theorem eqD_strs (o o2 : Bool) {xs ys : List Str} (h1 : ∀ x ∈ xs, StrOk x) (h2 : ∀ x ∈ ys, StrOk x) : eqD (.lst o (xs.map T.str)) (.lst o2 (ys.map T.str)) = some (decide (xs = ys)) := eqD_L encStr h1 h2
theorem eqD_strsN (o o2 : Bool) {xs : List Str} (h1 : ∀ x ∈ xs, StrOk x) : eqD (.lst o (xs.map T.str)) (.lst o2 []) = some (decide (xs = [])) := eqD_N encStr h1
theorem eqD_strsU {xs ys : List Str} (h1 : ∀ x ∈ xs, StrOk x) (h2 : ∀ x ∈ ys, StrOk x) : eqD (.tup (xs.map T.str)) (.tup (ys.map T.str)) = some (decide (xs = ys)) := eqD_U encStr h1 h2
theorem seqIdx_0 (n : Nat) : seqIndex? 0 n = if 0 < n then some 0 else none := by
  cases n with
  | zero => rfl
  | succ n => rw [if_pos (Nat.succ_pos _)]; exact seqIx0 (Nat.succ_pos _)
theorem seqIdx_nat {n j : Nat} (h : j < n) : seqIndex? (j : Int) n = some j := seqIx h
theorem atI_get {α : Type} {xs : List α} {i : Int} (h0 : 0 ≤ i) (h : i < xs.length) : atI xs i = xs[i.toNat]? := by
  obtain ⟨j, rfl⟩ : ∃ j : Nat, i = (j : Int) := ⟨i.toNat, by omega⟩
  rw [atI_cast]
  rfl
theorem whileFuel : FUEL = 1000000 := rfl
/-- the stream of drawn numbers, behind at most n draws -/
abbrev strmT (cells : List Int) (cur cnt mix : Int) : T := .lst true [.lst true (cells.map T.int), T.int cur, T.int cnt, T.int mix]
structure SS where
  cells : List Int
  cur : Int
  cnt : Int
  mix : Int
def stT (s : SS) : T := strmT s.cells s.cur s.cnt s.mix
theorem ng_stT (s : SS) : ng (stT s) = some (stT s) := rfl
/-- behind at most n draws -/
structure SOk (n : Nat) (s : SS) : Prop where
  cur : 0 ≤ s.cur
  cnt : 0 ≤ s.cnt
  le : s.cnt ≤ n
  mix : 0 ≤ s.mix
  lt : s.mix < 2147483647
  len : s.cells.length ≤ 63
theorem SOk.mono {n m : Nat} {s : SS} (h : SOk n s) (l : n ≤ m) : SOk m s := ⟨h.cur, h.cnt, by have := h.le; omega, h.mix, h.lt, h.len⟩
theorem kit_NoneType_list : kitB "NoneType" "list" = some false := by decide +kernel
theorem kit_NoneType_tuple : kitB "NoneType" "tuple" = some false := by decide +kernel
theorem kit_NoneType_dict : kitB "NoneType" "dict" = some false := by decide +kernel
theorem kit_NoneType_int : kitB "NoneType" "int" = some false := by decide +kernel
theorem kit_NoneType_bool : kitB "NoneType" "bool" = some false := by decide +kernel
theorem kit_NoneType_str : kitB "NoneType" "str" = some false := by decide +kernel
theorem kit_bool_list : kitB "bool" "list" = some false := by decide +kernel
theorem kit_bool_tuple : kitB "bool" "tuple" = some false := by decide +kernel
theorem kit_bool_dict : kitB "bool" "dict" = some false := by decide +kernel
theorem kit_bool_int : kitB "bool" "int" = some true := by decide +kernel
theorem kit_bool_bool : kitB "bool" "bool" = some true := by decide +kernel
theorem kit_bool_str : kitB "bool" "str" = some false := by decide +kernel
theorem kit_int_list : kitB "int" "list" = some false := by decide +kernel
theorem kit_int_tuple : kitB "int" "tuple" = some false := by decide +kernel
theorem kit_int_dict : kitB "int" "dict" = some false := by decide +kernel
theorem kit_int_int : kitB "int" "int" = some true := by decide +kernel
theorem kit_int_bool : kitB "int" "bool" = some false := by decide +kernel
theorem kit_int_str : kitB "int" "str" = some false := by decide +kernel
theorem kit_str_list : kitB "str" "list" = some false := by decide +kernel
theorem kit_str_tuple : kitB "str" "tuple" = some false := by decide +kernel
theorem kit_str_dict : kitB "str" "dict" = some false := by decide +kernel
theorem kit_str_int : kitB "str" "int" = some false := by decide +kernel
theorem kit_str_bool : kitB "str" "bool" = some false := by decide +kernel
theorem kit_str_str : kitB "str" "str" = some true := by decide +kernel
theorem kit_list_list : kitB "list" "list" = some true := by decide +kernel
theorem kit_list_tuple : kitB "list" "tuple" = some false := by decide +kernel
theorem kit_list_dict : kitB "list" "dict" = some false := by decide +kernel
theorem kit_list_int : kitB "list" "int" = some false := by decide +kernel
theorem kit_list_bool : kitB "list" "bool" = some false := by decide +kernel
theorem kit_list_str : kitB "list" "str" = some false := by decide +kernel
theorem kit_tuple_list : kitB "tuple" "list" = some false := by decide +kernel
theorem kit_tuple_tuple : kitB "tuple" "tuple" = some true := by decide +kernel
theorem kit_tuple_dict : kitB "tuple" "dict" = some false := by decide +kernel
theorem kit_tuple_int : kitB "tuple" "int" = some false := by decide +kernel
theorem kit_tuple_bool : kitB "tuple" "bool" = some false := by decide +kernel
theorem kit_tuple_str : kitB "tuple" "str" = some false := by decide +kernel
theorem kit_dict_list : kitB "dict" "list" = some false := by decide +kernel
theorem kit_dict_tuple : kitB "dict" "tuple" = some false := by decide +kernel
theorem kit_dict_dict : kitB "dict" "dict" = some true := by decide +kernel
theorem kit_dict_int : kitB "dict" "int" = some false := by decide +kernel
theorem kit_dict_bool : kitB "dict" "bool" = some false := by decide +kernel
theorem kit_dict_str : kitB "dict" "str" = some false := by decide +kernel
theorem kitBs_nil (k : String) : kitBs k [] = some false := rfl
theorem kitBs_cons (k c : String) (cs : List String) : kitBs k (c :: cs) = match kitB k c with
  | some true => some true
  | some false => kitBs k cs
  | none => none := rfl
theorem insB_sign (c : Nat) (z : Str) : insB (.v (.str ⟨#[c]⟩)) (.v (.str z)) = some (decide (c ∈ z.cps.toList)) := rfl
theorem insB_lst (t : T) (o : Bool) (xs : List T) : insB t (.lst o xs) = inB t xs true := by
  cases t with
  | v x => cases x <;> rfl
  | _ => rfl
theorem insB_tup (t : T) (xs : List T) : insB t (.tup xs) = inB t xs false := by
  cases t with
  | v x => cases x <;> rfl
  | _ => rfl
theorem insB_dK (t : T) (o : Bool) (ks : List Key) (xs : List T) : insB t (.dK o ks xs) = (keyOf t).bd fun k => some (hasK ks k) := by
  cases t with
  | v x => cases x <;> rfl
  | _ => rfl
theorem eqV_str (x y : Str) : eqV (.str x) (.str y) = decide (x = y) := by
  unfold eqV
  exact str_beq x y
theorem inB_strs (x : Str) (xs : List Str) (l : Bool) : inB (.v (.str x)) (xs.map T.str) l = some (decide (x ∈ xs)) := by
  unfold inB
  rw [map_str xs, vsL_map]
  dsimp only
  have h1 : (xs.map V.str).all flatV = true := by simp [flatV]
  rw [h1]
  show some (inV (.str x) (xs.map V.str)) = _
  congr 1
  unfold inV
  induction xs with
  | nil => rfl
  | cons y ys ih =>
    rw [List.map_cons, List.any_cons, ih (by simp [flatV]), eqV_str]
    by_cases c : y = x
    · simp [c]
    · have : ¬ x = y := fun z => c z.symm
      simp [c, this]
/-! texts by their signs -/
abbrev cl (z : Str) : List Nat := z.cps.toList
theorem cl_app (a b : Str) : cl (a ++ b) = cl a ++ cl b := by
  obtain ⟨a⟩ := a
  obtain ⟨b⟩ := b
  show (a ++ b).toList = _
  simp
theorem cl_len (a : Str) : a.length = (cl a).length := by
  show a.cps.size = _
  simp [cl]
theorem len_app (a b : Str) : (a ++ b).length = a.length + b.length := by rw [cl_len, cl_app, List.length_append, ← cl_len, ← cl_len]
theorem cl_join0' : ∀ ys : List Str, cl (Str.join "" ys) = (ys.map cl).flatten
  | [] => rfl
  | [y] => by show cl y = _; simp
  | x :: y :: r => by
    show cl (x ++ "" ++ Str.join "" (y :: r)) = _
    rw [cl_app, cl_app, cl_join0' (y :: r)]
    show cl x ++ [] ++ _ = _
    rw [List.append_nil, List.map_cons (l := y :: r), List.flatten_cons]
theorem cl_join0 (ys : List Str) : cl (Txt.join "" ys) = (ys.map cl).flatten := by rw [TL.join_eq, cl_join0']
theorem cl_cut (z : Str) (lo hi : Option Int) : cl (cutS z lo hi) = ((cl z).drop (HT.sIx z.length 0 lo)).take (HT.sIx z.length z.length hi - HT.sIx z.length 0 lo) := by
  unfold cutS
  simp [cl]
theorem cl_to (z : Str) (n : Nat) : cl (cutS z none (some (n : Int))) = (cl z).take n := by
  rw [cl_cut, HT.sIx_none, HT.sIx_nat, List.drop_zero, Nat.sub_zero, cl_len]
  by_cases h : n ≤ (cl z).length
  · rw [Nat.min_eq_left h]
  · rw [Nat.min_eq_right (by omega), List.take_of_length_le (Nat.le_refl _), List.take_of_length_le (by omega)]
theorem cl_from (z : Str) (n : Nat) : cl (cutS z (some (n : Int)) none) = (cl z).drop n := by
  rw [cl_cut, HT.sIx_none, HT.sIx_nat, cl_len]
  by_cases h : n ≤ (cl z).length
  · rw [Nat.min_eq_left h, List.take_of_length_le (by rw [List.length_drop]; exact Nat.le_refl _)]
  · rw [Nat.min_eq_right (by omega), Nat.sub_self, List.take_zero, List.drop_eq_nil_of_le (by omega)]
end DL

namespace LW
open PySem PySem.Spec L2 DL
local macro_rules | `(tactic| walk_at "ev") => `(tactic| simp only [↓mC_apc, ↓mC_apn, ↓mNm_apc, ↓mNm_apn, ↓mMv_apc, ↓mMv_apn, ↓mFz_apc, ↓mFz_apn, ↓aNil_apc, ↓aNil_apn, ↓aVal_apc, ↓aVal_apn, ↓aAt_apc, ↓aAt_apn, ↓mOp_apc, ↓mOp_apn, ↓mSl11_apc, ↓mSl11_apn, ↓mTru_apc, ↓mTru_apn, ↓mBl_apc, ↓mBl_apn, ↓mNot_apc, ↓mNot_apn, ↓mAnd_apc, ↓mAnd_apn, ↓mOr_apc, ↓mOr_apn, ↓mAndV_apc, ↓mAndV_apn, ↓mOrV_apc, ↓mOrV_apn, ↓mNotV_apc, ↓mNotV_apn, ↓mIf_apc, ↓mIf_apn, ↓sNil_apc, ↓sNil_apn, ↓sCons_apc, ↓sCons_apn, ↓sPass_apc, ↓sPass_apn, ↓sBreak_apc, ↓sBreak_apn, ↓sCont_apc, ↓sCont_apn, ↓sExpr_apc, ↓sExpr_apn, ↓sRet_apc, ↓sRet_apn, ↓sRetN_apc, ↓sRetN_apn, ↓sSet_apc, ↓sSet_apn, ↓sIf_apc, ↓sIf_apn, ↓sAsg_apc, ↓sAsg_apn, ↓sOp_apc, ↓sOp_apn, ↓sPar_apc, ↓sPar_apn, ↓sAug_apc, ↓sFor_apc, ↓sFor_apn, ↓iOf_apc, ↓iOf_apn, ↓iRng1_apc, ↓iRng1_apn, ↓iRng2_apc, ↓iRng2_apn, ↓iZip_apc, ↓iZip_apn, ↓iEnum_apc, ↓iEnum_apn, ↓cT_apc, ↓cT_apn, ↓mLc_apc, ↓mLc_apn, ↓mOp0_apc, ↓mOp0_apn, ↓rAt_apc, ↓rAt_apn, ↓rVal_apc, ↓rVal_apn, ↓mBm_apc, ↓mBm_apn, ↓mBm0_apc, ↓mBm0_apn, ↓mSub_apc, ↓mSub_apn, ↓defF_ap, ↓mMake_apc, ↓mMake_apn, ↓mD0_apc, ↓mD0_apn, ↓mD0T_apc, ↓mD0T_apn, ↓mD1_apc, ↓mD1_apn, ↓mSubO_apc, ↓mSubO_apn, ↓mStrs_apc, ↓mStrs_apn, ↓sPar3_apc, ↓sPar3_apn, ↓sNo_ap, ↓gNm_ap, gsNil_ap, gsCons_ap, gTup_ap, kidIx_ap, bd_some, bd_none, fAdd_int, fAdd_str, fAdd_lst, fSub_int, fMul_int, fDiv_int, fMod_int, fPow_int, fNeg_int, fLt_int, fLe_int, fGt_int, fGe_int, fLt_str, fLe_str, fGt_str, fGe_str, fIs_non, fIs_bl, fIsNot_non, fIsNot_bl, fEq_int, fEq_str, fEq_bl, fNe_int, fNe_str, fNe_bl, fEq_lst, fEq_tup, fNe_lst, fNe_tup, fIn_ap, fNotIn_ap, fIx_str, fIx_lst, fIx_tup, fIx_dK, fSt_lst, fLst_ap, fTup_ap, slT_str, slT_lst, slT_tup, fSl00_ap, fSl10_ap, fSl01_ap, fSl11_ap, fLen_str, fLen_lst, fLen_tup, fInt_int, fStr_int, fIsi_ty, fIsi_tup, fAll_lst, fAny_lst, fList_lst, fList_tup, fList_ro, fList_str, fTuple_lst, fTuple_tup, fDict_lst, fItems_dK, fAppend_ap, fPopAt_ap, fJoin_ap, fz_V, fz_Gone, fz_Lst, fz_Tup, fz_DK, fz_DT, fz_Ins, fzL_Nil, fzL_Cons, fzL_Map, fzL_App, fz_Fz2, fzL_fzL, fzB_V, fzB_fz, fzLB_fzL, fzB_Lst, fzB_Tup, fzB_DK, fzLB_Nil, fzLB_Cons, fzLB_str, fzLB_int, fzLB_bl, resT_nil, resT_val, resT_at, resR_nil, resR_val, resR_at, wb_nil, wb_val, wb_at, goneL_nil, goneL_cons, maskT_zero, maskT_succ, wipeT_nil, wipeT_cons, atI_0, atI_1, atI_2, atI_3, itemsT_lst, itemsT_tup, itemsT_str, itemsT_dK, valsT_dK, prsT_dK, lstT_lst, zipW_lst, zipW_tup, truT_bl, truT_int, truT_lst, truT_tup, kindT_non, kindT_bl, kindT_int, kindT_str, kindT_lst, kindT_tup, kindT_dK, tysL_nil, tysL_cons, tyB_lst, tyB_str, tyB_dK, allVal_nil, allVal_val, szB_eq, pinF_eq, getD0, getDS, argT_val, keyOf_str, keyOf_int, ng_v, ng_lst, ng_tup, ng_dK, ng_dT, ng_ins, ng_ro, slot_zero, slot_succ, blT_bl, intT_int, gd_true, vsL_map, blsL_map, strsL_map, keysOf_map, keyOf_keyT, List.set_cons_zero, List.set_cons_succ, List.getElem?_cons_zero, List.getElem?_cons_succ, List.cons_append, List.nil_append, List.length_cons, List.length_nil, Bool.and_true, Bool.true_and, if_true, ite_true, decide_true, List.map_nil, List.map_cons, forF_nil, lcF_nil, ixN_0, ixN_1, ixN_2, ixN_3, map_vint, map_vstr, map_vbl, reduceIte, Nat.reduceAdd, Nat.reduceLeDiff, Nat.reduceLT, Nat.reduceEqDiff, Nat.reduceSub, Nat.reduceMul, List.length_set, List.length_map, true_and, and_true, and_self, decide_eq_true_eq, Bool.false_eq_true, Bool.not_eq_true, Bool.and_eq_true, List.eraseIdx_cons_zero, List.eraseIdx_zero, List.tail_cons, Nat.zero_lt_succ, eq_self, Int.toNat_natCast, Bool.not_true, Bool.not_false, Bool.and_false, Bool.false_and, reduceCtorEq, Bool.true_eq_false, decide_false, decide_eq_decide, eqD_ints, eqD_intsN, seqIdx_0, ng_stT, kit_NoneType_list, kit_NoneType_tuple, kit_NoneType_dict, kit_NoneType_int, kit_NoneType_bool, kit_NoneType_str, kit_bool_list, kit_bool_tuple, kit_bool_dict, kit_bool_int, kit_bool_bool, kit_bool_str, kit_int_list, kit_int_tuple, kit_int_dict, kit_int_int, kit_int_bool, kit_int_str, kit_str_list, kit_str_tuple, kit_str_dict, kit_str_int, kit_str_bool, kit_str_str, kit_list_list, kit_list_tuple, kit_list_dict, kit_list_int, kit_list_bool, kit_list_str, kit_tuple_list, kit_tuple_tuple, kit_tuple_dict, kit_tuple_int, kit_tuple_bool, kit_tuple_str, kit_dict_list, kit_dict_tuple, kit_dict_dict, kit_dict_int, kit_dict_bool, kit_dict_str, kitBs_nil, kitBs_cons, insB_sign, insB_lst, insB_tup, insB_dK, inB_strs, atI_cast])
local macro_rules | `(tactic| walk_at "gd") => `(tactic| (rw [gd_of]; rotate_left; (first | rfl | decide | exact decide_eq_true (by omega) | exact decide_eq_true (Or.inl (And.intro (by omega) (by omega))) | exact decide_eq_true (Or.inr (And.intro (by omega) (by omega))) | exact decide_eq_true (And.intro (by omega) (by omega)) | exact decide_eq_true (And.intro (by omega) (And.intro (by omega) (by omega))) | (simp only [szB_eq, fzLB_str, fzLB_int, fzLB_bl, fzLB_fzL, Bool.and_eq_true, decide_eq_true_eq, true_and, and_true, List.length_append, List.length_map]; omega))))
local macro_rules | `(tactic| walk_at "run") => `(tactic| ((try (walk_at "ev")); repeat (walk_at "gd"; try (walk_at "ev"))))
def topS (i : Nat) : Stmt := PySem.Challenge.pw_mingleddeeds_k01_names_told_from_others.main.body.getD i (.Pass ⟨0, 0, 0, 0⟩)
abbrev s__law_start : Stmt := topS 6
abbrev s__law_cletters : Stmt := topS 11
abbrev s__law_below : Stmt := topS 7
abbrev s__law_pick : Stmt := topS 8
abbrev s_is_word : Stmt := topS 3
abbrev s_is_name : Stmt := topS 4
abbrev s__law_copied : Stmt := topS 9
abbrev s__law_same : Stmt := topS 10
abbrev s__law_cwords : Stmt := topS 12
abbrev s_law : Stmt := topS 13
def c_FIGURES : Str := "0123456789"
def c_LETTERS : Str := "abcdefghijklmnopqrstuvwxyz"
def b__law_start : MS := (sRet (mOp (aVal (mOp (aAt 0 aNil) fList) (aVal (mC (.int 0)) (aVal (mC (.int 0)) (aVal (mC (.int 43)) aNil)))) fLst))
def m__law_start : MF := defF 1 (pinF [true]) [] (b__law_start)
def b__law_cletters : MS := (sRet (mC (.str "abcdefghijklmnopqrstuvwxyz")))
def m__law_cletters : MF := defF 0 (pinF []) [] (b__law_cletters)
def t1__law_below : MT := (mAnd (mBl (mOp (aVal (mOp (aAt 0 (aVal (mC (.int 1)) aNil)) fIx) (aVal (mC (.int 0)) aNil)) fEq)) (mBl (mSubO 0 (mC (.int 0)) (aVal (mFz (mOp aNil fLst)) aNil) fNe)))
def b2__law_below : MS := (sCons (sSet 2 (mSub "list" 0 (mC (.int 0)) (aVal (mC (.int 0)) aNil) fPopAt)) (sCons (sOp (aVal (mOp (aVal (mOp (aVal (mOp (aVal (mOp (aVal (mOp (aVal (mOp (aAt 0 (aVal (mC (.int 3)) aNil)) fIx) (aVal (mC (.int 69031)) aNil)) fMul) (aAt 2 aNil)) fAdd) (aVal (mC (.int 13)) aNil)) fAdd) aNil) fInt) (aVal (mC (.int 2147483647)) aNil)) fMod) (aAt 0 (aVal (mC (.int 3)) aNil))) fSt) (sOp (aVal (mFz (mIf (mBl (mOp (aAt 2 (aVal (mOp (aVal (mC (.int 10)) (aVal (mC (.int 18)) aNil)) fPow) aNil)) fGe)) (mNm 2) (mC (.int 0)))) (aAt 0 (aVal (mC (.int 1)) aNil))) fSt)))
def l3__law_below : MS := sWhile (t1__law_below) (b2__law_below)
def b__law_below : MS := (sCons (sOp (aVal (mFz (mOp (aVal (mOp (aAt 0 (aVal (mC (.int 2)) aNil)) fIx) (aVal (mC (.int 1)) aNil)) fAdd)) (aAt 0 (aVal (mC (.int 2)) aNil))) fSt) (sCons (l3__law_below) (sCons (sIf (mBl (mOp (aVal (mOp (aAt 0 (aVal (mC (.int 1)) aNil)) fIx) (aVal (mC (.int 0)) aNil)) fGt)) (sCons (sSet 3 (mOp (aVal (mOp (aVal (mOp (aAt 0 (aVal (mC (.int 1)) aNil)) fIx) aNil) fInt) (aAt 1 aNil)) fMod)) (sCons (sOp (aVal (mOp (aVal (mOp (aAt 0 (aVal (mC (.int 1)) aNil)) fIx) (aAt 1 aNil)) fDiv) (aAt 0 (aVal (mC (.int 1)) aNil))) fSt) (sRet (mMv 3)))) sNil) (sCons (sSet 4 (mOp (aVal (mOp (aVal (mOp (aVal (mOp (aVal (mOp (aVal (mOp (aAt 0 (aVal (mC (.int 3)) aNil)) fIx) (aVal (mOp (aVal (mC (.int 9049)) (aVal (mOp (aAt 0 (aVal (mC (.int 2)) aNil)) fIx) aNil)) fMul) aNil)) fAdd) (aVal (mC (.int 130073)) aNil)) fAdd) (aVal (mC (.int 5)) aNil)) fPow) aNil) fInt) (aVal (mC (.int 2147483629)) aNil)) fMod)) (sRet (mOp (aVal (mOp (aVal (mOp (aVal (mOp (aVal (mOp (aVal (mOp (aVal (mOp (aAt 4 (aVal (mC (.int 44089)) aNil)) fMul) (aVal (mOp (aVal (mC (.int 60077)) (aVal (mOp (aAt 0 (aVal (mC (.int 2)) aNil)) fIx) aNil)) fMul) aNil)) fAdd) (aVal (mC (.int 47)) aNil)) fAdd) (aVal (mC (.int 3)) aNil)) fPow) aNil) fInt) (aVal (mC (.int 1000000007)) aNil)) fMod) (aAt 1 aNil)) fMod))))))
def m__law_below : MF := defF 2 (pinF [true, true]) [.gone, .gone, .gone] (b__law_below)
def b__law_pick : MS := (sRet (mOp (aAt 1 (aVal (mOp (aAt 0 (aVal (mOp (aAt 1 aNil) fLen) aNil)) m__law_below) aNil)) fIx))
def m__law_pick : MF := defF 2 (pinF [true, true]) [] (b__law_pick)
def t1_is_word : MC := (mBl (mOp (aAt 1 (aVal (mOp (aVal (mC (.str c_LETTERS)) (aVal (mC (.str c_FIGURES)) aNil)) fAdd) aNil)) fNotIn))
def e2_is_word : M := (mNm 1)
def b_is_word : MS := (sCons (sIf (mOr (mNot (mTru (mOp (aAt 0 (aVal (mC (.ty "str")) aNil)) fIsi))) (mOr (mBl (mOp (aAt 0 (aVal (mC (.str "")) aNil)) fEq)) (mBl (mOp (aVal (mOp (aAt 0 (aVal (mC (.int 0)) aNil)) fIx) (aVal (mC (.str c_LETTERS)) aNil)) fNotIn)))) (sRet (mC (.bl false))) sNil) (sRet (mOp (aVal (mLc [1] (iOf itemsT (mNm 0)) (gNm 1) (t1_is_word) (e2_is_word)) (aVal (mOp aNil fLst) aNil)) fEq)))
def m_is_word : MF := defF 1 (pinF [true]) [.gone] (b_is_word)
def b_is_name : MS := (sRet (mAndV (mOp (aAt 0 aNil) m_is_word) (mOp (aVal (mOp (aAt 0 aNil) fLen) (aVal (mC (.int 8)) aNil)) fLe)))
def m_is_name : MF := defF 1 (pinF [true]) [] (b_is_name)
def e1__law_copied (r : MF) : M := (mFz (mOp (aVal (mNm 2) (aVal (mFz (mOp (aVal (mOp (aAt 0 (aAt 2 aNil)) fIx) aNil) r)) aNil)) fTup))
def e2__law_copied (r : MF) : M := (mFz (mOp (aAt 3 aNil) r))
def b__law_copied (r : MF) : MS := (sCons (sIf (mTru (mOp (aAt 0 (aVal (mC (.ty "dict")) aNil)) fIsi)) (sRet (mOp (aVal (mLc [2] (iOf itemsT (mNm 0)) (gNm 2) cT (e1__law_copied r)) aNil) fDict)) sNil) (sCons (sIf (mNot (mTru (mOp (aAt 0 (aVal (mOp (aVal (mC (.ty "list")) (aVal (mC (.ty "tuple")) aNil)) fTup) aNil)) fIsi))) (sRet (mNm 0)) sNil) (sCons (sSet 1 (mLc [3] (iOf itemsT (mNm 0)) (gNm 3) cT (e2__law_copied r))) (sRet (mIf (mTru (mOp (aAt 0 (aVal (mC (.ty "list")) aNil)) fIsi)) (mMv 1) (mOp (aAt 1 aNil) fTuple))))))
def m__law_copied : Nat → MF
  | 0 => fun _ => none
  | d + 1 => defF 1 (pinF [true]) [.gone, .gone, .gone] (b__law_copied (m__law_copied d))
def e1__law_same (r : MF) : M := (mFz (mOp (aAt 2 (aAt 3 aNil)) r))
def b__law_same (r : MF) : MS := (sCons (sIf (mTru (mOp (aAt 1 (aVal (mOp (aVal (mC (.ty "list")) (aVal (mC (.ty "tuple")) aNil)) fTup) aNil)) fIsi)) (sCons (sIf (mOr (mBl (mOp (aVal (mOp (aAt 0 (aVal (mC (.ty "list")) aNil)) fIsi) (aVal (mOp (aAt 1 (aVal (mC (.ty "list")) aNil)) fIsi) aNil)) fNe)) (mBl (mOp (aVal (mOp (aAt 0 (aVal (mC (.ty "tuple")) aNil)) fIsi) (aVal (mOp (aAt 1 (aVal (mC (.ty "tuple")) aNil)) fIsi) aNil)) fNe))) (sRet (mC (.bl false))) sNil) (sRet (mAndV (mOp (aVal (mOp (aAt 0 aNil) fLen) (aVal (mOp (aAt 1 aNil) fLen) aNil)) fEq) (mOp (aVal (mLc [2, 3] (iZip (mNm 0) (mNm 1)) (gTup 2 (gsCons (gNm 2) (gsCons (gNm 3) gsNil))) cT (e1__law_same r)) aNil) fAll)))) sNil) (sCons (sIf (mTru (mOp (aAt 1 (aVal (mC (.ty "dict")) aNil)) fIsi)) (sRet (mAndV (mOp (aAt 0 (aVal (mC (.ty "dict")) aNil)) fIsi) (mOp (aVal (mOp (aAt 0 aNil) fItems) (aVal (mOp (aAt 1 aNil) fItems) aNil)) r))) sNil) (sCons (sIf (mTru (mOp (aAt 1 (aVal (mC (.ty "int")) aNil)) fIsi)) (sRet (mAndV (mOp (aAt 0 (aVal (mC (.ty "int")) aNil)) fIsi) (mAndV (mOp (aVal (mOp (aAt 0 (aVal (mC (.ty "bool")) aNil)) fIsi) (aVal (mOp (aAt 1 (aVal (mC (.ty "bool")) aNil)) fIsi) aNil)) fEq) (mOp (aAt 0 (aAt 1 aNil)) fEq)))) sNil) (sCons (sIf (mBl (mOp (aAt 1 (aVal (mC .non) aNil)) fIs)) (sRet (mOp (aAt 0 (aVal (mC .non) aNil)) fIs)) sNil) (sCons (sIf (mTru (mOp (aAt 1 (aVal (mC (.ty "str")) aNil)) fIsi)) (sRet (mAndV (mOp (aAt 0 (aVal (mC (.ty "str")) aNil)) fIsi) (mOp (aAt 0 (aAt 1 aNil)) fEq))) sNil) (sRet (mAndV (mNotV (mOp (aAt 0 (aVal (mOp (aVal (mC (.ty "int")) (aVal (mC (.ty "str")) (aVal (mC (.ty "list")) (aVal (mC (.ty "tuple")) (aVal (mC (.ty "dict")) aNil))))) fTup) aNil)) fIsi)) (mOp (aAt 0 (aAt 1 aNil)) fEq))))))))
def m__law_same : Nat → MF
  | 0 => fun _ => none
  | d + 1 => defF 2 (pinF [true, true]) [.gone, .gone] (b__law_same (m__law_same d))
def b__law_cwords : MS := (sRet (mStrs ["hands", "deed", "program", "state", "end", "from", "on", "go", "claim", "closed", "same", "tells", "never"]))
def m__law_cwords : MF := defF 0 (pinF []) [] (b__law_cwords)
def e1_law : M := (mFz (mOp (aAt 1 (aVal (mOp (aAt 2 aNil) fList) aNil)) m__law_pick))
def b2_law : MS := (sCons (sSet 9 (mOp (aAt 8 aNil) (m__law_copied 12))) (sIf (mOr (mBl (mOp (aVal (mOp (aAt 8 aNil) m_is_name) (aVal (mC (.bl false)) aNil)) fIsNot)) (mNot (mTru (mOp (aAt 8 (aAt 9 aNil)) (m__law_same 12))))) (sRet (mC (.bl false))) sNil))
def b3_law : MS := (sCons (sSet 4 (mOp (aVal (mOp (aAt 1 (aVal (mOp (aVal (mOp0 m__law_cletters) aNil) fList) aNil)) m__law_pick) (aVal (mBm (rVal "str" (mC (.str ""))) (aVal (mLc [10] (iRng1 (mOp (aAt 1 (aVal (mC (.int 8)) aNil)) m__law_below)) (gNm 10) cT (e1_law)) aNil) fJoin) aNil)) fAdd)) (sCons (sIf (mOr (mBl (mOp (aVal (mOp (aAt 4 aNil) m_is_name) (aVal (mC (.bl true)) aNil)) fIsNot)) (mBl (mOp (aVal (mOp (aAt 4 aNil) m_is_name) (aVal (mC (.bl true)) aNil)) fIsNot))) (sRet (mC (.bl false))) sNil) (sCons (sPar 5 6 (aVal (mOp (aAt 1 (aVal (mOp (aAt 4 aNil) fLen) aNil)) m__law_below) (aVal (mOp (aAt 1 (aVal (mStrs ["A", "_", " ", "\n", "-", "\t", "Z", "."]) aNil)) m__law_pick) aNil))) (sCons (sSet 7 (mOp (aVal (mFz (mOp (aVal (mOp (aVal (mOp (aAt 4 (aAt 5 aNil)) fSl01) (aAt 6 aNil)) fAdd) (aVal (mOp (aAt 4 (aVal (mOp (aAt 5 (aVal (mC (.int 1)) aNil)) fAdd) aNil)) fSl10) aNil)) fAdd)) (aVal (mFz (mOp (aVal (mC (.str "7")) (aVal (mOp (aAt 4 (aVal (mC (.int 7)) aNil)) fSl01) aNil)) fAdd)) (aVal (mFz (mOp (aVal (mOp (aVal (mOp (aAt 4 (aVal (mC (.str "a1b2c3d4")) aNil)) fAdd) (aVal (mOp (aVal (mC (.int 9)) (aVal (mOp (aAt 1 (aVal (mC (.int 3)) aNil)) m__law_below) aNil)) fAdd) aNil)) fSl01) (aVal (mC (.str "x")) aNil)) fAdd)) (aVal (mC (.str "")) (aVal (mFz (mOp (aVal (mC (.str " ")) (aVal (mOp (aAt 4 (aVal (mC (.int 7)) aNil)) fSl01) aNil)) fAdd)) aNil))))) fLst)) (sCons (sSet 7 (mOp (aAt 7 (aVal (mOp (aVal (mFz (mOp (aVal (mNm 4) aNil) fLst)) (aVal (mFz (mOp (aVal (mNm 4) aNil) fTup)) (aVal (mC .non) (aVal (mC (.int 5)) (aVal (mC (.bl true)) (aVal (mFz (mD1 (mNm 4) (mC (.int 1)))) (aVal (mOp (aAt 4 aNil) fLen) aNil))))))) fLst) aNil)) fAdd)) (sFor (iOf itemsT (mNm 7)) (gNm 8) (b2_law)))))))
def t4_law : MC := (mBl (mOp (aVal (mOp (aAt 4 aNil) m_is_name) (aVal (mC (.bl true)) aNil)) fIsNot))
def e5_law : M := (mNm 4)
def b_law : MS := (sCons (sAsg (mOp (aVal (mOp (aAt 0 aNil) m__law_start) (aVal (mOp (aVal (mOp0 m__law_cletters) (aVal (mC (.str "0123456789")) aNil)) fAdd) aNil)) fTup) (gTup 2 (gsCons (gNm 1) (gsCons (gNm 2) gsNil)))) (sCons (sFor (iRng1 (mC (.int 14))) (gNm 3) (b3_law)) (sRet (mAndV (mOp (aVal (mLc [4] (iOf itemsT (mOp0 m__law_cwords)) (gNm 4) (t4_law) (e5_law)) (aVal (mOp aNil fLst) aNil)) fEq) (mAndV (mOp (aVal (mOp (aVal (mC (.str "a2345678")) aNil) m_is_name) (aVal (mC (.bl true)) aNil)) fIs) (mOp (aVal (mOp (aVal (mC (.str "a23456789")) aNil) m_is_name) (aVal (mC (.bl false)) aNil)) fIs))))))
def m_law : MF := defF 1 (pinF [true]) [.gone, .gone, .gone, .gone, .gone, .gone, .gone, .gone, .gone, .gone] (b_law)
structure Lib (K : PySem.W.Frag) (mg : Str → Option Value) where
  z_all : mg "all" = none
  z_bool : mg "bool" = none
  z_dict : mg "dict" = none
  z_int : mg "int" = none
  z_isinstance : mg "isinstance" = none
  z_len : mg "len" = none
  z_list : mg "list" = none
  z_range : mg "range" = none
  z_str : mg "str" = none
  z_tuple : mg "tuple" = none
  z_zip : mg "zip" = none
  tk_FIGURES : Tok
  g_FIGURES : mg "FIGURES" = some (.str c_FIGURES tk_FIGURES)
  tk_LETTERS : Tok
  g_LETTERS : mg "LETTERS" = some (.str c_LETTERS tk_LETTERS)
  f__law_start : Addr
  d__law_start : FuncData
  F__law_start : Fun K "_law_start" "_law_start" s__law_start f__law_start d__law_start
  b__law_start : Binds K d__law_start ["script"] []
  g__law_start : mg "_law_start" = some (.ref f__law_start)
  f__law_cletters : Addr
  d__law_cletters : FuncData
  F__law_cletters : Fun K "_law_cletters" "_law_cletters" s__law_cletters f__law_cletters d__law_cletters
  b__law_cletters : Binds K d__law_cletters [] []
  g__law_cletters : mg "_law_cletters" = some (.ref f__law_cletters)
  f__law_below : Addr
  d__law_below : FuncData
  F__law_below : Fun K "_law_below" "_law_below" s__law_below f__law_below d__law_below
  b__law_below : Binds K d__law_below ["stream", "many"] []
  g__law_below : mg "_law_below" = some (.ref f__law_below)
  f__law_pick : Addr
  d__law_pick : FuncData
  F__law_pick : Fun K "_law_pick" "_law_pick" s__law_pick f__law_pick d__law_pick
  b__law_pick : Binds K d__law_pick ["stream", "some"] []
  g__law_pick : mg "_law_pick" = some (.ref f__law_pick)
  f_is_word : Addr
  d_is_word : FuncData
  F_is_word : Fun K "is_word" "is_word" s_is_word f_is_word d_is_word
  b_is_word : Binds K d_is_word ["thing"] []
  g_is_word : mg "is_word" = some (.ref f_is_word)
  f_is_name : Addr
  d_is_name : FuncData
  F_is_name : Fun K "is_name" "is_name" s_is_name f_is_name d_is_name
  b_is_name : Binds K d_is_name ["thing"] []
  g_is_name : mg "is_name" = some (.ref f_is_name)
  kb_is_name : KBinds K d_is_name ["thing"] ["thing"] (fun us ws => us ++ ws) (fun vs zs => vs ++ zs)
  f__law_copied : Addr
  d__law_copied : FuncData
  F__law_copied : Fun K "_law_copied" "_law_copied" s__law_copied f__law_copied d__law_copied
  b__law_copied : Binds K d__law_copied ["thing"] []
  g__law_copied : mg "_law_copied" = some (.ref f__law_copied)
  f__law_same : Addr
  d__law_same : FuncData
  F__law_same : Fun K "_law_same" "_law_same" s__law_same f__law_same d__law_same
  b__law_same : Binds K d__law_same ["found", "due"] []
  g__law_same : mg "_law_same" = some (.ref f__law_same)
  f__law_cwords : Addr
  d__law_cwords : FuncData
  F__law_cwords : Fun K "_law_cwords" "_law_cwords" s__law_cwords f__law_cwords d__law_cwords
  b__law_cwords : Binds K d__law_cwords [] []
  g__law_cwords : mg "_law_cwords" = some (.ref f__law_cwords)
  f_law : Addr
  d_law : FuncData
  F_law : Fun K "law" "law" s_law f_law d_law
  b_law : Binds K d_law ["script"] []
  g_law : mg "law" = some (.ref f_law)
section
variable {Pg : Program} {w : World} {K : PySem.W.Frag} {mg : Str → Option Value} {base : Heap}
theorem sc__law_start : FnScope ["script"] ["script"] (defScope s__law_start) := ⟨rfl, rfl, rfl, by decide +kernel, rfl, by decide +kernel, by decide +kernel⟩
theorem ok__law_start (L : Lib K mg) : FnOk Pg w K mg base CX0 1 L.f__law_start L.d__law_start ["script"] (lift K (bM (m__law_start))) :=
  def_ok L.F__law_start sc__law_start (pinF [true]) 1 [] (fun cdv A outer s H E hr => by
    have nd := sc__law_start.nd
    exact (ts_one (ts_ret (tr_lst (paU (paU (paU (paU pa0)))) (ta_val (tr_callTy (id := "list") L.z_list (by decide +kernel) (paU pa0) (ta_at 0 ta_nil) (to_list rfl)) (ta_val tr_int (ta_val tr_int (ta_val tr_int ta_nil)))) to_lst))))
theorem sc__law_cletters : FnScope [] [] (defScope s__law_cletters) := ⟨rfl, rfl, rfl, by decide +kernel, rfl, by decide +kernel, by decide +kernel⟩
theorem ok__law_cletters (L : Lib K mg) : FnOk Pg w K mg base CX0 1 L.f__law_cletters L.d__law_cletters [] (lift K (bM (m__law_cletters))) :=
  def_ok L.F__law_cletters sc__law_cletters (pinF []) 0 [] (fun cdv A outer s H E hr => by
    have nd := sc__law_cletters.nd
    exact (ts_one (ts_ret tr_str)))
theorem sc__law_below : FnScope ["stream", "many", "cell", "digit", "mixed"] ["stream", "many"] (defScope s__law_below) := ⟨rfl, rfl, rfl, by decide +kernel, rfl, by decide +kernel, by decide +kernel⟩
theorem ok__law_below (L : Lib K mg) : FnOk Pg w K mg base CX0 1 L.f__law_below L.d__law_below ["stream", "many"] (lift K (bM (m__law_below))) :=
  def_ok L.F__law_below sc__law_below (pinF [true, true]) 2 [.gone, .gone, .gone] (fun cdv A outer s H E hr => by
    have nd := sc__law_below.nd
    exact (by
        refine ts_cons (ts_sub (ta_val (tr_fz (tr_bin (ta_val (tr_ix (ta_at 0 (ta_val tr_int ta_nil)) (to_ix (hu_of hr))) (ta_val tr_int ta_nil)) to_add)) (ta_at 0 (ta_val tr_int ta_nil))) to_st) ?_
        refine ts_cons (ts_while (tt_W (tw_and (tt_cmp (ta_val (tr_ix (ta_at 0 (ta_val tr_int ta_nil)) (to_ix (hu_of hr))) (ta_val tr_int ta_nil)) (to_eq hr.units)) (tw_and1 (tt_cmpS 0 tr_int (ta_val (tr_fz (tr_lst pa0 ta_nil to_lst)) ta_nil) (to_ne hr.units))))) (by
          refine ts_cons (ts_set 2 (tr_sub 0 PySem.F.plainAttrs_list PySem.F.slot_list_pop PySem.F.type_list_pop (paU pa0) tr_int (ta_val tr_int ta_nil) to_popAt)) ?_
          refine ts_cons (ts_sub (ta_val (tr_bin (ta_val (tr_callTy (id := "int") L.z_int (by decide +kernel) (paU pa0) (ta_val (tr_bin (ta_val (tr_bin (ta_val (tr_bin (ta_val (tr_ix (ta_at 0 (ta_val tr_int ta_nil)) (to_ix (hu_of hr))) (ta_val tr_int ta_nil)) to_mul) (ta_at 2 ta_nil)) to_add) (ta_val tr_int ta_nil)) to_add) ta_nil) to_int) (ta_val tr_int ta_nil)) to_mod) (ta_at 0 (ta_val tr_int ta_nil))) to_st) ?_
          exact (ts_one (ts_sub (ta_val (tr_fz (tr_if (tt_cmp (ta_at 2 (ta_val (tr_bin (ta_val tr_int (ta_val tr_int ta_nil)) to_pow) ta_nil)) to_ge) (tr_nm 2) tr_int)) (ta_at 0 (ta_val tr_int ta_nil))) to_st)))) ?_
        refine ts_cons (ts_if (tt_cmp (ta_val (tr_ix (ta_at 0 (ta_val tr_int ta_nil)) (to_ix (hu_of hr))) (ta_val tr_int ta_nil)) to_gt) (by
          refine ts_cons (ts_set 3 (tr_bin (ta_val (tr_callTy (id := "int") L.z_int (by decide +kernel) (paU pa0) (ta_val (tr_ix (ta_at 0 (ta_val tr_int ta_nil)) (to_ix (hu_of hr))) ta_nil) to_int) (ta_at 1 ta_nil)) to_mod)) ?_
          refine ts_cons (ts_sub (ta_val (tr_bin (ta_val (tr_ix (ta_at 0 (ta_val tr_int ta_nil)) (to_ix (hu_of hr))) (ta_at 1 ta_nil)) to_div) (ta_at 0 (ta_val tr_int ta_nil))) to_st) ?_
          exact (ts_one (ts_ret (tr_mv 3)))) ts_nil) ?_
        refine ts_cons (ts_set 4 (tr_bin (ta_val (tr_callTy (id := "int") L.z_int (by decide +kernel) (paU pa0) (ta_val (tr_bin (ta_val (tr_bin (ta_val (tr_bin (ta_val (tr_ix (ta_at 0 (ta_val tr_int ta_nil)) (to_ix (hu_of hr))) (ta_val (tr_bin (ta_val tr_int (ta_val (tr_ix (ta_at 0 (ta_val tr_int ta_nil)) (to_ix (hu_of hr))) ta_nil)) to_mul) ta_nil)) to_add) (ta_val tr_int ta_nil)) to_add) (ta_val tr_int ta_nil)) to_pow) ta_nil) to_int) (ta_val tr_int ta_nil)) to_mod)) ?_
        exact (ts_one (ts_ret (tr_bin (ta_val (tr_bin (ta_val (tr_callTy (id := "int") L.z_int (by decide +kernel) (paU pa0) (ta_val (tr_bin (ta_val (tr_bin (ta_val (tr_bin (ta_val (tr_bin (ta_at 4 (ta_val tr_int ta_nil)) to_mul) (ta_val (tr_bin (ta_val tr_int (ta_val (tr_ix (ta_at 0 (ta_val tr_int ta_nil)) (to_ix (hu_of hr))) ta_nil)) to_mul) ta_nil)) to_add) (ta_val tr_int ta_nil)) to_add) (ta_val tr_int ta_nil)) to_pow) ta_nil) to_int) (ta_val tr_int ta_nil)) to_mod) (ta_at 1 ta_nil)) to_mod)))))
theorem sc__law_pick : FnScope ["stream", "some"] ["stream", "some"] (defScope s__law_pick) := ⟨rfl, rfl, rfl, by decide +kernel, rfl, by decide +kernel, by decide +kernel⟩
theorem ok__law_pick (L : Lib K mg) : FnOk Pg w K mg base CX0 2 L.f__law_pick L.d__law_pick ["stream", "some"] (lift K (bM (m__law_pick))) :=
  def_ok L.F__law_pick sc__law_pick (pinF [true, true]) 2 [] (fun cdv A outer s H E hr => by
    have nd := sc__law_pick.nd
    exact (ts_one (ts_ret (tr_ix (ta_at 1 (ta_val (tr_call (ok__law_below L) (hr.mono (by decide)) L.g__law_below L.F__law_below.kp L.b__law_below (paU (paU pa0)) (ta_at 0 (ta_val (tr_callB (id := "len") L.z_len (by decide +kernel) (paU pa0) (ta_at 1 ta_nil) to_len) ta_nil))) ta_nil)) (to_ix (hu_of hr))))))
theorem sc_is_word : FnScope ["thing", "sign"] ["thing"] (defScope s_is_word) := ⟨rfl, rfl, rfl, by decide +kernel, rfl, by decide +kernel, by decide +kernel⟩
theorem ok_is_word (L : Lib K mg) : FnOk Pg w K mg base CX0 1 L.f_is_word L.d_is_word ["thing"] (lift K (bM (m_is_word))) :=
  def_ok L.F_is_word sc_is_word (pinF [true]) 1 [.gone] (fun cdv A outer s H E hr => by
    have nd := sc_is_word.nd
    exact (by
        refine ts_cons (ts_if (tt_W (tw_or (tt_not (tt_val (tr_callB (id := "isinstance") L.z_isinstance (by decide +kernel) (paU (paU pa0)) (ta_at 0 (ta_val (tr_ty (n := "str") L.z_str (by decide +kernel)) ta_nil)) to_isi))) (tw_or (tt_cmp (ta_at 0 (ta_val tr_str ta_nil)) (to_eq hr.units)) (tw_or1 (tt_cmp (ta_val (tr_ix (ta_at 0 (ta_val tr_int ta_nil)) (to_ix (hu_of hr))) (ta_val (tr_glob (v := .str c_LETTERS) L.g_LETTERS ⟨_, rfl⟩) ta_nil)) (to_notIn (hu65 hr))))))) (ts_one (ts_ret tr_bl)) ts_nil) ?_
        exact (ts_one (ts_ret (tr_cmp (ta_val (tr_lc [("sign", 1)] (ti_any (tr_nm 0)) (fun _ => (tg_nm 1)) (fun _ => (tc_one (tt_cmp (ta_at 1 (ta_val (tr_bin (ta_val (tr_glob (v := .str c_LETTERS) L.g_LETTERS ⟨_, rfl⟩) (ta_val (tr_glob (v := .str c_FIGURES) L.g_FIGURES ⟨_, rfl⟩) ta_nil)) to_add) ta_nil)) (to_notIn (hu65 hr))))) (fun _ => (tr_nm 1)) (blkOk_by (N := ["thing", "sign"]) (sc := defScope s_is_word) (by decide +kernel))) (ta_val (tr_lst pa0 ta_nil to_lst) ta_nil)) (to_eq hr.units))))))
theorem sc_is_name : FnScope ["thing"] ["thing"] (defScope s_is_name) := ⟨rfl, rfl, rfl, by decide +kernel, rfl, by decide +kernel, by decide +kernel⟩
theorem ok_is_name (L : Lib K mg) : FnOk Pg w K mg base CX0 2 L.f_is_name L.d_is_name ["thing"] (lift K (bM (m_is_name))) :=
  def_ok L.F_is_name sc_is_name (pinF [true]) 1 [] (fun cdv A outer s H E hr => by
    have nd := sc_is_name.nd
    exact (ts_one (ts_ret (tr_and (tr_call (ok_is_word L) (hr.mono (by decide)) L.g_is_word L.F_is_word.kp L.b_is_word (paU pa0) (ta_at 0 ta_nil)) (tr_one (tr_cmp (ta_val (tr_callB (id := "len") L.z_len (by decide +kernel) (paU pa0) (ta_at 0 ta_nil) to_len) (ta_val tr_int ta_nil)) to_le))))))
theorem sc__law_copied : FnScope ["thing", "found", "key", "part"] ["thing"] (defScope s__law_copied) := ⟨rfl, rfl, rfl, by decide +kernel, rfl, by decide +kernel, by decide +kernel⟩
theorem ok__law_copied (L : Lib K mg) : ∀ d : Nat, FnOk Pg w K mg base CX0 (1 + d) L.f__law_copied L.d__law_copied ["thing"] (lift K (bM (m__law_copied d))) := by
  intro d
  induction d with
  | zero => exact def_none L.F__law_copied sc__law_copied (by decide)
  | succ d ih =>
    show FnOk _ _ _ _ _ _ _ _ _ _ (lift K (bM (defF 1 (pinF [true]) [.gone, .gone, .gone] (b__law_copied (m__law_copied d)))))
    exact def_ok L.F__law_copied sc__law_copied (pinF [true]) 1 [.gone, .gone, .gone] (fun cdv A outer s H E hr => by
    have nd := sc__law_copied.nd
    exact (by
        refine ts_cons (ts_if (tt_val (tr_callB (id := "isinstance") L.z_isinstance (by decide +kernel) (paU (paU pa0)) (ta_at 0 (ta_val (tr_ty (n := "dict") L.z_dict (by decide +kernel)) ta_nil)) to_isi)) (ts_one (ts_ret (tr_callTy (id := "dict") L.z_dict (by decide +kernel) (paU pa0) (ta_val (tr_lc [("key", 2)] (ti_any (tr_nm 0)) (fun _ => (tg_nm 2)) (fun _ => tc_nil) (fun _ => (tr_fz (tr_tup (paU (paU pa0)) (ta_val (tr_nm 2) (ta_val (tr_fz (tr_call ih hr L.g__law_copied L.F__law_copied.kp L.b__law_copied (paU pa0) (ta_val (tr_ix (ta_at 0 (ta_at 2 ta_nil)) (to_ix (hu_of hr))) ta_nil))) ta_nil)) to_tup))) (blkOk_by (N := ["thing", "found", "key", "part"]) (sc := defScope s__law_copied) (by decide +kernel))) ta_nil) (to_dict rfl)))) ts_nil) ?_
        refine ts_cons (ts_if (tt_not (tt_val (tr_callB (id := "isinstance") L.z_isinstance (by decide +kernel) (paU (paU pa0)) (ta_at 0 (ta_val (tr_tup (paU (paU pa0)) (ta_val (tr_ty (n := "list") L.z_list (by decide +kernel)) (ta_val (tr_ty (n := "tuple") L.z_tuple (by decide +kernel)) ta_nil)) to_tup) ta_nil)) to_isi))) (ts_one (ts_ret (tr_nm 0))) ts_nil) ?_
        refine ts_cons (ts_setLc 1 [("part", 3)] (ti_any (tr_nm 0)) (fun _ => (tg_nm 3)) (fun _ => tc_nil) (fun _ => (tr_fz (tr_call ih hr L.g__law_copied L.F__law_copied.kp L.b__law_copied (paU pa0) (ta_at 3 ta_nil)))) (blkOk_by (N := ["thing", "found", "key", "part"]) (sc := defScope s__law_copied) (by decide +kernel))) ?_
        exact (ts_one (ts_ret (tr_if (tt_val (tr_callB (id := "isinstance") L.z_isinstance (by decide +kernel) (paU (paU pa0)) (ta_at 0 (ta_val (tr_ty (n := "list") L.z_list (by decide +kernel)) ta_nil)) to_isi)) (tr_mv 1) (tr_callTy (id := "tuple") L.z_tuple (by decide +kernel) (paU pa0) (ta_at 1 ta_nil) to_tuple))))))
theorem sc__law_same : FnScope ["found", "due", "x", "y"] ["found", "due"] (defScope s__law_same) := ⟨rfl, rfl, rfl, by decide +kernel, rfl, by decide +kernel, by decide +kernel⟩
theorem ok__law_same (L : Lib K mg) : ∀ d : Nat, FnOk Pg w K mg base CX0 (1 + d) L.f__law_same L.d__law_same ["found", "due"] (lift K (bM (m__law_same d))) := by
  intro d
  induction d with
  | zero => exact def_none L.F__law_same sc__law_same (by decide)
  | succ d ih =>
    show FnOk _ _ _ _ _ _ _ _ _ _ (lift K (bM (defF 2 (pinF [true, true]) [.gone, .gone] (b__law_same (m__law_same d)))))
    exact def_ok L.F__law_same sc__law_same (pinF [true, true]) 2 [.gone, .gone] (fun cdv A outer s H E hr => by
    have nd := sc__law_same.nd
    exact (by
        refine ts_cons (ts_if (tt_val (tr_callB (id := "isinstance") L.z_isinstance (by decide +kernel) (paU (paU pa0)) (ta_at 1 (ta_val (tr_tup (paU (paU pa0)) (ta_val (tr_ty (n := "list") L.z_list (by decide +kernel)) (ta_val (tr_ty (n := "tuple") L.z_tuple (by decide +kernel)) ta_nil)) to_tup) ta_nil)) to_isi)) (by
          refine ts_cons (ts_if (tt_W (tw_or (tt_cmp (ta_val (tr_callB (id := "isinstance") L.z_isinstance (by decide +kernel) (paU (paU pa0)) (ta_at 0 (ta_val (tr_ty (n := "list") L.z_list (by decide +kernel)) ta_nil)) to_isi) (ta_val (tr_callB (id := "isinstance") L.z_isinstance (by decide +kernel) (paU (paU pa0)) (ta_at 1 (ta_val (tr_ty (n := "list") L.z_list (by decide +kernel)) ta_nil)) to_isi) ta_nil)) (to_ne hr.units)) (tw_or1 (tt_cmp (ta_val (tr_callB (id := "isinstance") L.z_isinstance (by decide +kernel) (paU (paU pa0)) (ta_at 0 (ta_val (tr_ty (n := "tuple") L.z_tuple (by decide +kernel)) ta_nil)) to_isi) (ta_val (tr_callB (id := "isinstance") L.z_isinstance (by decide +kernel) (paU (paU pa0)) (ta_at 1 (ta_val (tr_ty (n := "tuple") L.z_tuple (by decide +kernel)) ta_nil)) to_isi) ta_nil)) (to_ne hr.units))))) (ts_one (ts_ret tr_bl)) ts_nil) ?_
          exact (ts_one (ts_ret (tr_and (tr_cmp (ta_val (tr_callB (id := "len") L.z_len (by decide +kernel) (paU pa0) (ta_at 0 ta_nil) to_len) (ta_val (tr_callB (id := "len") L.z_len (by decide +kernel) (paU pa0) (ta_at 1 ta_nil) to_len) ta_nil)) (to_eq hr.units)) (tr_one (tr_callB (id := "all") L.z_all (by decide +kernel) (paU pa0) (ta_val (tr_lc [("x", 2), ("y", 3)] (ti_zip L.z_zip (tr_nm 0) (tr_nm 1)) (fun _ => (tg_tup (n := 2) (tgs_cons (tg_nm 2) (tgs_cons (tg_nm 3) tgs_nil)))) (fun _ => tc_nil) (fun _ => (tr_fz (tr_call ih hr L.g__law_same L.F__law_same.kp L.b__law_same (paU (paU pa0)) (ta_at 2 (ta_at 3 ta_nil))))) (blkOk_by (N := ["found", "due", "x", "y"]) (sc := defScope s__law_same) (by decide +kernel))) ta_nil) (to_all rfl))))))) ts_nil) ?_
        refine ts_cons (ts_if (tt_val (tr_callB (id := "isinstance") L.z_isinstance (by decide +kernel) (paU (paU pa0)) (ta_at 1 (ta_val (tr_ty (n := "dict") L.z_dict (by decide +kernel)) ta_nil)) to_isi)) (ts_one (ts_ret (tr_and (tr_callB (id := "isinstance") L.z_isinstance (by decide +kernel) (paU (paU pa0)) (ta_at 0 (ta_val (tr_ty (n := "dict") L.z_dict (by decide +kernel)) ta_nil)) to_isi) (tr_one (tr_call ih hr L.g__law_same L.F__law_same.kp L.b__law_same (paU (paU pa0)) (ta_val (tr_listItems L.z_list (ta_at 0 ta_nil) to_items) (ta_val (tr_listItems L.z_list (ta_at 1 ta_nil) to_items) ta_nil))))))) ts_nil) ?_
        refine ts_cons (ts_if (tt_val (tr_callB (id := "isinstance") L.z_isinstance (by decide +kernel) (paU (paU pa0)) (ta_at 1 (ta_val (tr_ty (n := "int") L.z_int (by decide +kernel)) ta_nil)) to_isi)) (ts_one (ts_ret (tr_and (tr_callB (id := "isinstance") L.z_isinstance (by decide +kernel) (paU (paU pa0)) (ta_at 0 (ta_val (tr_ty (n := "int") L.z_int (by decide +kernel)) ta_nil)) to_isi) (tr_and (tr_cmp (ta_val (tr_callB (id := "isinstance") L.z_isinstance (by decide +kernel) (paU (paU pa0)) (ta_at 0 (ta_val (tr_ty (n := "bool") L.z_bool (by decide +kernel)) ta_nil)) to_isi) (ta_val (tr_callB (id := "isinstance") L.z_isinstance (by decide +kernel) (paU (paU pa0)) (ta_at 1 (ta_val (tr_ty (n := "bool") L.z_bool (by decide +kernel)) ta_nil)) to_isi) ta_nil)) (to_eq hr.units)) (tr_one (tr_cmp (ta_at 0 (ta_at 1 ta_nil)) (to_eq hr.units))))))) ts_nil) ?_
        refine ts_cons (ts_if (tt_cmp (ta_at 1 (ta_val tr_non ta_nil)) to_is) (ts_one (ts_ret (tr_cmp (ta_at 0 (ta_val tr_non ta_nil)) to_is))) ts_nil) ?_
        refine ts_cons (ts_if (tt_val (tr_callB (id := "isinstance") L.z_isinstance (by decide +kernel) (paU (paU pa0)) (ta_at 1 (ta_val (tr_ty (n := "str") L.z_str (by decide +kernel)) ta_nil)) to_isi)) (ts_one (ts_ret (tr_and (tr_callB (id := "isinstance") L.z_isinstance (by decide +kernel) (paU (paU pa0)) (ta_at 0 (ta_val (tr_ty (n := "str") L.z_str (by decide +kernel)) ta_nil)) to_isi) (tr_one (tr_cmp (ta_at 0 (ta_at 1 ta_nil)) (to_eq hr.units)))))) ts_nil) ?_
        exact (ts_one (ts_ret (tr_and (tr_not (tr_callB (id := "isinstance") L.z_isinstance (by decide +kernel) (paU (paU pa0)) (ta_at 0 (ta_val (tr_tup (paU (paU (paU (paU (paU pa0))))) (ta_val (tr_ty (n := "int") L.z_int (by decide +kernel)) (ta_val (tr_ty (n := "str") L.z_str (by decide +kernel)) (ta_val (tr_ty (n := "list") L.z_list (by decide +kernel)) (ta_val (tr_ty (n := "tuple") L.z_tuple (by decide +kernel)) (ta_val (tr_ty (n := "dict") L.z_dict (by decide +kernel)) ta_nil))))) to_tup) ta_nil)) to_isi)) (tr_one (tr_cmp (ta_at 0 (ta_at 1 ta_nil)) (to_eq hr.units))))))))
theorem sc__law_cwords : FnScope [] [] (defScope s__law_cwords) := ⟨rfl, rfl, rfl, by decide +kernel, rfl, by decide +kernel, by decide +kernel⟩
theorem ok__law_cwords (L : Lib K mg) : FnOk Pg w K mg base CX0 1 L.f__law_cwords L.d__law_cwords [] (lift K (bM (m__law_cwords))) :=
  def_ok L.F__law_cwords sc__law_cwords (pinF []) 0 [] (fun cdv A outer s H E hr => by
    have nd := sc__law_cwords.nd
    exact (ts_one (ts_ret (tr_lstS ["hands", "deed", "program", "state", "end", "from", "on", "go", "claim", "closed", "same", "tells", "never"] (by decide +kernel)))))
theorem sc_law : FnScope ["script", "stream", "small", "turn", "word", "at", "sign", "wrong", "thing", "kept", "look"] ["script"] (defScope s_law) := ⟨rfl, rfl, rfl, by decide +kernel, rfl, by decide +kernel, by decide +kernel⟩
theorem ok_law (L : Lib K mg) : FnOk Pg w K mg base CX0 14 L.f_law L.d_law ["script"] (lift K (bM (m_law))) :=
  def_ok L.F_law sc_law (pinF [true]) 1 [.gone, .gone, .gone, .gone, .gone, .gone, .gone, .gone, .gone, .gone] (fun cdv A outer s H E hr => by
    have nd := sc_law.nd
    exact (by
        refine ts_cons (ts_asg (tr_tup (paU (paU pa0)) (ta_val (tr_call (ok__law_start L) (hr.mono (by decide)) L.g__law_start L.F__law_start.kp L.b__law_start (paU pa0) (ta_at 0 ta_nil)) (ta_val (tr_bin (ta_val (tr_call0 (ok__law_cletters L) (hr.mono (by decide)) L.g__law_cletters L.F__law_cletters.kp L.b__law_cletters) (ta_val tr_str ta_nil)) to_add) ta_nil)) to_tup) (tg_tup (n := 2) (tgs_cons (tg_nm 1) (tgs_cons (tg_nm 2) tgs_nil)))) ?_
        refine ts_cons (ts_for (ti_rng1 L.z_range tr_int) (tg_nm 3) (by
          refine ts_cons (ts_set 4 (tr_bin (ta_val (tr_call (ok__law_pick L) (hr.mono (by decide)) L.g__law_pick L.F__law_pick.kp L.b__law_pick (paU (paU pa0)) (ta_at 1 (ta_val (tr_callTy (id := "list") L.z_list (by decide +kernel) (paU pa0) (ta_val (tr_call0 (ok__law_cletters L) (hr.mono (by decide)) L.g__law_cletters L.F__law_cletters.kp L.b__law_cletters) ta_nil) (to_list rfl)) ta_nil))) (ta_val (tr_bm PySem.F.plainAttrs_str PySem.F.slot_str_join PySem.F.type_str_join (paU pa0) (trr_val tr_str) (ta_val (tr_lc [("look", 10)] (ti_rng1 L.z_range (tr_call (ok__law_below L) (hr.mono (by decide)) L.g__law_below L.F__law_below.kp L.b__law_below (paU (paU pa0)) (ta_at 1 (ta_val tr_int ta_nil)))) (fun _ => (tg_nm 10)) (fun _ => tc_nil) (fun _ => (tr_fz (tr_call (ok__law_pick L) (hr.mono (by decide)) L.g__law_pick L.F__law_pick.kp L.b__law_pick (paU (paU pa0)) (ta_at 1 (ta_val (tr_callTy (id := "list") L.z_list (by decide +kernel) (paU pa0) (ta_at 2 ta_nil) (to_list rfl)) ta_nil))))) (blkOk_by (N := ["script", "stream", "small", "turn", "word", "at", "sign", "wrong", "thing", "kept", "look"]) (sc := defScope s_law) (by decide +kernel))) ta_nil) to_join) ta_nil)) to_add)) ?_
          refine ts_cons (ts_if (tt_W (tw_or (tt_cmp (ta_val (tr_call (ok_is_name L) (hr.mono (by decide)) L.g_is_name L.F_is_name.kp L.b_is_name (paU pa0) (ta_at 4 ta_nil)) (ta_val tr_bl ta_nil)) to_isNot) (tw_or1 (tt_cmp (ta_val (tr_callK1 (ok_is_name L) (hr.mono (by decide)) L.g_is_name L.F_is_name.kp L.kb_is_name (ta_at 4 ta_nil)) (ta_val tr_bl ta_nil)) to_isNot)))) (ts_one (ts_ret tr_bl)) ts_nil) ?_
          refine ts_cons (ts_par 5 6 (paU (paU pa0)) (ta_val (tr_call (ok__law_below L) (hr.mono (by decide)) L.g__law_below L.F__law_below.kp L.b__law_below (paU (paU pa0)) (ta_at 1 (ta_val (tr_callB (id := "len") L.z_len (by decide +kernel) (paU pa0) (ta_at 4 ta_nil) to_len) ta_nil))) (ta_val (tr_call (ok__law_pick L) (hr.mono (by decide)) L.g__law_pick L.F__law_pick.kp L.b__law_pick (paU (paU pa0)) (ta_at 1 (ta_val (tr_lstS ["A", "_", " ", "\n", "-", "\t", "Z", "."] (by decide +kernel)) ta_nil))) ta_nil))) ?_
          refine ts_cons (ts_set 7 (tr_lst (paU (paU (paU (paU (paU pa0))))) (ta_val (tr_fz (tr_bin (ta_val (tr_bin (ta_val (tr_sl01 (ta_at 4 (ta_at 5 ta_nil)) to_sl01) (ta_at 6 ta_nil)) to_add) (ta_val (tr_sl10 (ta_at 4 (ta_val (tr_bin (ta_at 5 (ta_val tr_int ta_nil)) to_add) ta_nil)) to_sl10) ta_nil)) to_add)) (ta_val (tr_fz (tr_bin (ta_val tr_str (ta_val (tr_sl01 (ta_at 4 (ta_val tr_int ta_nil)) to_sl01) ta_nil)) to_add)) (ta_val (tr_fz (tr_bin (ta_val (tr_sl01 (ta_val (tr_bin (ta_at 4 (ta_val tr_str ta_nil)) to_add) (ta_val (tr_bin (ta_val tr_int (ta_val (tr_call (ok__law_below L) (hr.mono (by decide)) L.g__law_below L.F__law_below.kp L.b__law_below (paU (paU pa0)) (ta_at 1 (ta_val tr_int ta_nil))) ta_nil)) to_add) ta_nil)) to_sl01) (ta_val tr_str ta_nil)) to_add)) (ta_val tr_str (ta_val (tr_fz (tr_bin (ta_val tr_str (ta_val (tr_sl01 (ta_at 4 (ta_val tr_int ta_nil)) to_sl01) ta_nil)) to_add)) ta_nil))))) to_lst)) ?_
          refine ts_cons (ts_set 7 (tr_bin (ta_at 7 (ta_val (tr_lst (paU (paU (paU (paU (paU (paU (paU pa0))))))) (ta_val (tr_fz (tr_lst (paU pa0) (ta_val (tr_nm 4) ta_nil) to_lst)) (ta_val (tr_fz (tr_tup (paU pa0) (ta_val (tr_nm 4) ta_nil) to_tup)) (ta_val tr_non (ta_val tr_int (ta_val tr_bl (ta_val (tr_fz (tr_d1 (tr_nm 4) tr_int)) (ta_val (tr_callB (id := "len") L.z_len (by decide +kernel) (paU pa0) (ta_at 4 ta_nil) to_len) ta_nil))))))) to_lst) ta_nil)) to_add)) ?_
          exact (ts_one (ts_for (ti_any (tr_nm 7)) (tg_nm 8) (by
            refine ts_cons (ts_set 9 (tr_call (ok__law_copied L 12) (hr.mono (by decide)) L.g__law_copied L.F__law_copied.kp L.b__law_copied (paU pa0) (ta_at 8 ta_nil))) ?_
            exact (ts_one (ts_if (tt_W (tw_or (tt_cmp (ta_val (tr_call (ok_is_name L) (hr.mono (by decide)) L.g_is_name L.F_is_name.kp L.b_is_name (paU pa0) (ta_at 8 ta_nil)) (ta_val tr_bl ta_nil)) to_isNot) (tw_or1 (tt_not (tt_val (tr_call (ok__law_same L 12) (hr.mono (by decide)) L.g__law_same L.F__law_same.kp L.b__law_same (paU (paU pa0)) (ta_at 8 (ta_at 9 ta_nil)))))))) (ts_one (ts_ret tr_bl)) ts_nil))))))) ?_
        exact (ts_one (ts_ret (tr_and (tr_cmp (ta_val (tr_lc [("word", 4)] (ti_any (tr_call0 (ok__law_cwords L) (hr.mono (by decide)) L.g__law_cwords L.F__law_cwords.kp L.b__law_cwords)) (fun _ => (tg_nm 4)) (fun _ => (tc_one (tt_cmp (ta_val (tr_call (ok_is_name L) (hr.mono (by decide)) L.g_is_name L.F_is_name.kp L.b_is_name (paU pa0) (ta_at 4 ta_nil)) (ta_val tr_bl ta_nil)) to_isNot))) (fun _ => (tr_nm 4)) (blkOk_by (N := ["script", "stream", "small", "turn", "word", "at", "sign", "wrong", "thing", "kept", "look"]) (sc := defScope s_law) (by decide +kernel))) (ta_val (tr_lst pa0 ta_nil to_lst) ta_nil)) (to_eq hr.units)) (tr_and (tr_cmp (ta_val (tr_call (ok_is_name L) (hr.mono (by decide)) L.g_is_name L.F_is_name.kp L.b_is_name (paU pa0) (ta_val tr_str ta_nil)) (ta_val tr_bl ta_nil)) to_is) (tr_one (tr_cmp (ta_val (tr_call (ok_is_name L) (hr.mono (by decide)) L.g_is_name L.F_is_name.kp L.b_is_name (paU pa0) (ta_val tr_str ta_nil)) (ta_val tr_bl ta_nil)) to_is))))))))
end
theorem start_ok (ns : List Int) (h : ns.length ≤ 63) : ∃ s, m__law_start [.ro (ns.map V.int)] = some (stT s, [.ro (ns.map V.int)]) ∧ SOk 0 s := by
  refine ⟨⟨ns, 0, 0, 43⟩, ?_, Int.le_refl 0, Int.le_refl 0, Int.le_refl 0, (by decide : (0 : Int) ≤ 43), (by decide : (43 : Int) < 2147483647), h⟩
  unfold m__law_start b__law_start defF
  walk_at "ev"
  rfl
theorem below_loop (cells : List Int) (cur cnt mix many : Int) (t2 : T) (hc : 0 ≤ cur) (hm0 : 0 ≤ mix) (hm1 : mix < 2147483647) (hl : cells.length ≤ 63) :
    Hs (l3__law_below [strmT cells cur cnt mix, T.int many, t2, .gone, .gone]) fun o ρ => o = .nx ∧ ∃ cells cur mix t2, 0 ≤ cur ∧ 0 ≤ mix ∧ mix < 2147483647 ∧ cells.length ≤ 63 ∧ ρ = [strmT cells cur cnt mix, T.int many, t2, .gone, .gone] := by
  refine sWhile_hs (α := List Int × Int × Int) (fun a ρ => 0 ≤ a.2.1 ∧ 0 ≤ a.2.2 ∧ a.2.2 < 2147483647 ∧ a.1.length ≤ 63 ∧ ∃ t2, ρ = [strmT a.1 a.2.1 cnt a.2.2, T.int many, t2, .gone, .gone]) (fun a => a.1.length) (cells, cur, mix) ⟨hc, hm0, hm1, hl, t2, rfl⟩ (by show cells.length < _; omega) ?_
  rintro ⟨cells, cur, mix⟩ ρ ⟨hc, hm0, hm1, hl, t2, rfl⟩
  dsimp only at hc hm0 hm1 hl ⊢
  unfold t1__law_below
  walk_at "ev"
  split
  · refine .some ?_
    cases cells with
    | nil => exact ⟨_, _, _, _, hc, hm0, hm1, hl, rfl⟩
    | cons c cs =>
      have hl' : cs.length + 1 ≤ 63 := hl
      rw [if_pos (by simp)]
      unfold b2__law_below
      walk_at "run"
      by_cases hb : (10 : Int) ^ (18 : Int).toNat ≤ c
      · rw [if_pos hb]
        walk_at "run"
        exact .some ⟨(cs, c, _), Nat.lt_succ_self _, Int.le_trans (by decide) hb, Int.emod_nonneg _ (by decide), Int.emod_lt_of_pos _ (by decide), by show cs.length ≤ 63; omega, _, rfl⟩
      · rw [if_neg hb]
        walk_at "run"
        exact .some ⟨(cs, 0, _), Nat.lt_succ_self _, Int.le_refl _, Int.emod_nonneg _ (by decide), Int.emod_lt_of_pos _ (by decide), by show cs.length ≤ 63; omega, _, rfl⟩
  · exact .some ⟨_, _, _, _, hc, hm0, hm1, hl, rfl⟩
theorem below_ok {n : Nat} {s : SS} (hS : SOk n s) {many : Int} (h1 : 1 ≤ many) (h2 : many < 1073741824) (hn : n < 1000000000) :
    ∃ (d : Int) (s' : SS), m__law_below [stT s, T.int many] = some (T.int d, [stT s', T.int many]) ∧ 0 ≤ d ∧ d < many ∧ SOk (n + 1) s' := by
  obtain ⟨cells, cur, cnt, mix⟩ := s
  obtain ⟨hc, hn0, hn1, hm0, hm1, hl⟩ := hS
  dsimp only at hc hn0 hn1 hm0 hm1 hl
  unfold m__law_below b__law_below defF stT
  walk_at "ev"
  obtain ⟨o, ρ, e, rfl, cells, cur, mix, t2, hc, hm0, hm1, hl, rfl⟩ := below_loop cells cur (cnt + 1) mix many .gone hc hm0 hm1 hl
  rw [e]
  walk_at "ev"
  by_cases hz : 0 < cur
  · simp only [if_pos hz]
    walk_at "run"
    exact ⟨_, ⟨cells, cur / many, cnt + 1, mix⟩, rfl, Int.emod_nonneg _ (by omega), Int.emod_lt_of_pos _ (by omega), Int.ediv_nonneg hc (by omega), by show 0 ≤ cnt + 1; omega, by show cnt + 1 ≤ ((n + 1 : Nat) : Int); omega, hm0, hm1, hl⟩
  · simp only [if_neg hz]
    walk_at "run"
    generalize hg : (mix + 9049 * (cnt + 1) + 130073) ^ (5 : Int).toNat = g
    have g1 := Int.emod_nonneg g (show (2147483629 : Int) ≠ 0 by decide)
    have g2 := Int.emod_lt_of_pos g (show (0 : Int) < 2147483629 by decide)
    walk_at "run"
    exact ⟨_, ⟨cells, cur, cnt + 1, mix⟩, rfl, Int.emod_nonneg _ (by omega), Int.emod_lt_of_pos _ (by omega), hc, by show 0 ≤ cnt + 1; omega, by show cnt + 1 ≤ ((n + 1 : Nat) : Int); omega, hm0, hm1, hl⟩
/-- the same with a number from 0 on -/
theorem belowN {n : Nat} {s : SS} (hS : SOk n s) {many : Nat} (h1 : 1 ≤ many) (h2 : many < 1073741824) (hn : n < 1000000000) :
    ∃ (d : Nat) (s' : SS), m__law_below [stT s, T.int many] = some (T.int d, [stT s', T.int many]) ∧ d < many ∧ SOk (n + 1) s' := by
  obtain ⟨d, s', e, d0, d1, h⟩ := below_ok hS (many := many) (by omega) (by omega) hn
  obtain ⟨j, rfl⟩ : ∃ j : Nat, d = (j : Int) := ⟨d.toNat, by omega⟩
  exact ⟨j, s', e, by omega, h⟩
theorem pick_ok {n : Nat} {s : SS} (hS : SOk n s) {o : Bool} {xs : List T} (hz : fzLB xs = true) (h1 : xs ≠ []) (h2 : xs.length < 1073741824) (hn : n < 1000000000) :
    ∃ (j : Nat) (t : T) (s' : SS), xs[j]? = some t ∧ m__law_pick [stT s, .lst o xs] = some (t, [stT s', .lst o xs]) ∧ SOk (n + 1) s' := by
  have hp : 1 ≤ xs.length := by
    cases xs with
    | nil => exact absurd rfl h1
    | cons _ _ => exact Nat.succ_pos _
  obtain ⟨j, s', e, hj, hS'⟩ := belowN hS hp h2 hn
  refine ⟨j, xs[j], s', List.getElem?_eq_getElem hj, ?_, hS'⟩
  unfold m__law_pick b__law_pick defF
  have hz2 : fzB xs[j] = true := fzB_iff.mpr (fzL_get (fzLB_iff.mp hz) (List.getElem?_eq_getElem hj))
  walk_at "run"
  rw [e]
  walk_at "run"
  rw [ List.getElem?_eq_getElem hj]
  walk_at "ev"
  rw [hz2]
  walk_at "run"

def isWordS (z : Str) : Bool := match z.cps.toList with
  | [] => false
  | c :: cs => decide (c ∈ c_LETTERS.cps.toList) && decide ((c :: cs).filter (fun d => !decide (d ∈ (c_LETTERS ++ c_FIGURES).cps.toList)) = [])
def isNameS (z : Str) : Bool := isWordS z && decide (z.length ≤ 8)
theorem str_nil : ∀ {z : Str}, z.cps.toList = [] → z = ""
  | ⟨⟨l⟩⟩, h => by
    have : l = [] := h
    subst this
    rfl
/-- a text of signs, not too long -/
def TxOk (z : Str) : Prop := z.length ≤ 16777216 ∧ ∀ c ∈ z.cps.toList, c < 0x110000
theorem sign_ok {c : Nat} (h : c < 0x110000) : StrOk ⟨#[c]⟩ := by
  unfold StrOk PyData.strOk
  simpa using h
theorem word_lc (z : Str) (a : T) : lcF [1] (DL.gNm 1) t1_is_word e2_is_word (sgnT z) [a, .gone] = some (((z.cps.toList.filter fun d => !decide (d ∈ (c_LETTERS ++ c_FIGURES).cps.toList)).map fun c => (⟨#[c]⟩ : Str)).map T.str, [a, .gone]) := by
  rw [List.map_map]
  refine lc_filter (fun c => T.str ⟨#[c]⟩) (fun d => !decide (d ∈ (c_LETTERS ++ c_FIGURES).cps.toList)) (fun c => T.str ⟨#[c]⟩) z.cps.toList fun c _ => ?_
  refine ⟨[a, T.str ⟨#[c]⟩], [a, T.str ⟨#[c]⟩], by walk_at "ev", ?_, ?_⟩
  · unfold t1_is_word
    walk_at "run"
  · by_cases h : c ∈ (c_LETTERS ++ c_FIGURES).cps.toList
    · simp only [h, decide_true, Bool.not_true, Bool.false_eq_true, if_false]
      rfl
    · simp only [h, decide_false, Bool.not_false, if_true]
      exact ⟨[a, T.str ⟨#[c]⟩], by unfold e2_is_word; walk_at "ev", rfl⟩
theorem word_str {z : Str} (h : TxOk z) : m_is_word [T.str z] = some (T.bl (isWordS z), [T.str z]) := by
  unfold m_is_word b_is_word defF
  have hs : szB z.length = true := decide_eq_true h.1
  walk_at "ev"
  by_cases he : z = ""
  · subst he
    walk_at "ev"
    rfl
  · obtain ⟨c, cs, ec⟩ : ∃ c cs, z.cps.toList = c :: cs := by
      cases e : z.cps.toList with
      | nil => exact absurd (str_nil e) he
      | cons c cs => exact ⟨c, cs, rfl⟩
    rw [if_neg he, show decide (z.length ≤ 16777216) = true from hs, ec]
    walk_at "run"
    by_cases hc : c ∈ c_LETTERS.cps.toList
    · simp only [hc, decide_true, Bool.not_true, Bool.false_eq_true, if_false]
      walk_at "run"
      rw [show decide (z.cps.size ≤ 16777216) = true from decide_eq_true h.1]
      walk_at "run"
      rw [word_lc]
      walk_at "run"
      rw [eqD_strsN _ _ fun x hx => by
        obtain ⟨d, hd, rfl⟩ := List.mem_map.mp hx
        exact sign_ok (h.2 d (List.mem_filter.mp hd).1)]
      walk_at "run"
      have e : isWordS z = decide (List.map (fun c => (⟨#[c]⟩ : Str)) (List.filter (fun d => !decide (d ∈ (c_LETTERS ++ c_FIGURES).cps.toList)) z.cps.toList) = []) := by
        unfold isWordS
        rw [ec]
        simp only [hc, decide_true, Bool.true_and, List.map_eq_nil_iff]
      rw [e]
    · simp only [hc, decide_false, Bool.not_false, if_true]
      walk_at "run"
      have e : isWordS z = false := by
        unfold isWordS
        rw [ec]
        simp [hc]
      rw [e]
/-- no text -/
def NoStr (t : T) : Prop := ∃ k, kindT t = some k ∧ kitB k "str" = some false
theorem NoStr.ng {t : T} (h : NoStr t) : ng t = some t := by
  obtain ⟨k, h, _⟩ := h
  cases t <;> first | rfl | cases h
theorem word_no {t : T} (h : NoStr t) : m_is_word [t] = some (T.bl false, [t]) := by
  have hn := h.ng
  obtain ⟨k, h1, h2⟩ := h
  unfold m_is_word b_is_word defF
  walk_at "ev"
  rw [hn]
  walk_at "ev"
  rw [h1]
  walk_at "ev"
  rw [h2]
  walk_at "ev"
theorem name_str {z : Str} (h : TxOk z) : m_is_name [T.str z] = some (T.bl (isNameS z), [T.str z]) := by
  unfold m_is_name b_is_name defF isNameS
  walk_at "ev"
  rw [word_str h]
  walk_at "ev"
  cases isWordS z with
  | false => walk_at "ev"
  | true =>
    walk_at "ev"
    rw [show decide (z.length ≤ 16777216) = true from decide_eq_true h.1]
    walk_at "ev"
    rw [show decide ((z.length : Int) ≤ 8) = decide (z.length ≤ 8) from decide_eq_decide.mpr (by omega)]
theorem name_no {t : T} (h : NoStr t) : m_is_name [t] = some (T.bl false, [t]) := by
  unfold m_is_name b_is_name defF
  have hn := h.ng
  walk_at "ev"
  rw [hn]
  walk_at "ev"
  rw [word_no h]
  walk_at "ev"

/-- data of at most this depth -/
def Dat : Nat → T → Prop
  | _, .v .non => True
  | _, .v (.bl _) => True
  | _, .v (.int _) => True
  | _, .v (.str _) => True
  | n + 1, .lst _ xs => ∀ x ∈ xs, Dat n x
  | n + 1, .tup xs => ∀ x ∈ xs, Dat n x
  | n + 3, .dK _ ks xs => (fzLB xs = true ∧ decide (ks.length = xs.length) = true ∧ decide ks.Nodup = true) ∧ ∀ x ∈ xs, Dat n x
  | _, _ => False
theorem dat_fzL {n : Nat} (ih : ∀ t, Dat n t → Dat n (fz t)) : ∀ {xs : List T}, (∀ x ∈ xs, Dat n x) → ∀ x ∈ fzL xs, Dat n x
  | [], _, x, h => by rw [fzL_Nil] at h; cases h
  | y :: ys, h, x, hx => by
    rw [fzL_Cons] at hx
    rcases List.mem_cons.mp hx with rfl | hx
    · exact ih _ (h y List.mem_cons_self)
    · exact dat_fzL ih (fun z hz => h z (List.mem_cons_of_mem _ hz)) x hx
theorem dat_fz : ∀ (n : Nat) (t : T), Dat n t → Dat n (fz t)
  | n, .v x, h => h
  | 0, .lst _ _, h => by unfold Dat at h; exact h.elim
  | 0, .tup _, h => by unfold Dat at h; exact h.elim
  | n + 1, .lst o xs, h => by
    rw [fz_Lst]; unfold Dat at h ⊢
    exact dat_fzL (dat_fz n) h
  | n + 1, .tup xs, h => by
    rw [fz_Tup]; unfold Dat at h ⊢
    exact dat_fzL (dat_fz n) h
  | n + 3, .dK o ks xs, h => by
    rw [fz_DK]; unfold Dat at h ⊢
    have e : fzL xs = xs := fzL_of (fzLB_ok h.1.1)
    rw [e]
    exact h
  | 0, .dK _ _ _, h => by unfold Dat at h; exact h.elim
  | 1, .dK _ _ _, h => by unfold Dat at h; exact h.elim
  | 2, .dK _ _ _, h => by unfold Dat at h; exact h.elim
  | n, .gone, h => by cases n <;> (unfold Dat at h; exact h.elim)
  | n, .hole, h => by cases n <;> (unfold Dat at h; exact h.elim)
  | n, .ro _, h => by cases n <;> (unfold Dat at h; exact h.elim)
  | n, .dT _ _ _, h => by cases n <;> (unfold Dat at h; exact h.elim)
  | n, .ins _ _ _ _, h => by cases n <;> (unfold Dat at h; exact h.elim)
theorem dat_pairs {n : Nat} : ∀ {ks : List Key} {xs : List T}, (∀ x ∈ xs, Dat n x) → ∀ t ∈ List.zipWith pairT ks xs, Dat (n + 1) t
  | [], _, _, t, ht => by rw [List.zipWith_nil_left] at ht; cases ht
  | _ :: _, [], _, t, ht => by rw [List.zipWith_nil_right] at ht; cases ht
  | k :: ks, x :: xs, h, t, ht => by
    rw [List.zipWith_cons_cons] at ht
    rcases List.mem_cons.mp ht with rfl | ht
    · intro y hy
      rcases List.mem_cons.mp hy with rfl | hy
      · cases k <;> (unfold Dat keyT kV; first | trivial | (cases n <;> trivial))
      · rcases List.mem_cons.mp hy with rfl | hy
        · exact h _ List.mem_cons_self
        · cases hy
    · exact dat_pairs (fun y hy => h y (List.mem_cons_of_mem _ hy)) t ht
theorem zip_self : ∀ xs : List T, zipT xs xs = xs.map fun x => T.tup [x, x]
  | [] => rfl
  | x :: xs => by
    show T.tup [x, x] :: zipT xs xs = _
    rw [zip_self xs, List.map_cons]
theorem all_true {α : Type} (xs : List α) : blsL (xs.map fun _ => T.v (V.bl true)) = some (List.replicate xs.length true) := by
  induction xs with
  | nil => rfl
  | cons x xs ih => rw [List.map_cons, blsL, ih]; rfl
theorem all_rep (n : Nat) : (List.replicate n true).all id = true := by simp
theorem dat_ng : ∀ {n : Nat} {t : T}, Dat n t → ng t = some t
  | _, .v _, _ => rfl
  | _, .lst _ _, _ => rfl
  | _, .tup _, _ => rfl
  | _, .dK _ _ _, _ => rfl
  | n, .gone, h => by cases n <;> (unfold Dat at h; exact h.elim)
  | n, .hole, h => by cases n <;> (unfold Dat at h; exact h.elim)
  | n, .ro _, h => rfl
  | n, .dT _ _ _, h => rfl
  | n, .ins _ _ _ _, h => rfl
theorem fzL_len : ∀ xs : List T, (fzL xs).length = xs.length
  | [] => by rw [fzL_Nil]
  | x :: xs => by rw [fzL_Cons, List.length_cons, fzL_len xs, List.length_cons]
theorem mem_fzL' : ∀ {xs : List T} {z : T}, z ∈ fzL xs → fz z = z
  | [], z, h => by rw [fzL_Nil] at h; cases h
  | x :: xs, z, h => by
    rw [fzL_Cons] at h
    rcases List.mem_cons.mp h with rfl | h
    · exact fz_Fz2 x
    · exact mem_fzL' h
/-- the comprehension in it -/
theorem same_lc {r : MF} {n : Nat} (zs : List T) (hz : ∀ z ∈ zs, Dat n z ∧ fz z = z) (ih : ∀ z, Dat n z → ∃ t' u', r [z, z] = some (T.bl true, [t', u'])) (a b : T) :
    lcF [2, 3] (DL.gTup 2 (gsCons (gNm 2) (gsCons (gNm 3) gsNil))) cT (e1__law_same r) (zs.map fun x => T.tup [x, x]) [a, b, .gone, .gone] = some (zs.map fun _ => T.v (V.bl true), [a, b, .gone, .gone]) := by
  refine lc_map (fun x => T.tup [x, x]) (fun _ => T.v (V.bl true)) zs fun z hm => ?_
  obtain ⟨hd, hf⟩ := hz z hm
  obtain ⟨t', u', e⟩ := ih z hd
  refine ⟨[a, b, z, z], [a, b, z, z], [a, b, t', u'], ?_, rfl, ?_, rfl⟩
  · walk_at "ev"
  · unfold e1__law_same
    walk_at "ev"
    rw [dat_ng hd]
    walk_at "ev"
    rw [e]
    walk_at "ev"
/-- both are the same -/
theorem same_ok : ∀ (d n : Nat) (t u : T), n < d → fz t = fz u → Dat n t → Dat n u → ∃ t' u', m__law_same d [t, u] = some (T.bl true, [t', u']) ∧ fz t' = fz t ∧ fz u' = fz u ∧ (t' = t ∨ t' = fz t) ∧ (u' = u ∨ u' = fz u)
  | 0, _, _, _, hd, _, _, _ => absurd hd (Nat.not_lt_zero _)
  | d + 1, n, .v x, u, hd, h, ht, hu => by
    obtain rfl : u = .v x := by
      cases u with
      | v y => exact h.symm
      | _ => first | (unfold fz at h; cases h) | cases h
    unfold m__law_same b__law_same defF
    cases x with
    | non => walk_at "run"; exact ⟨_, _, rfl, rfl, rfl, .inl rfl, .inl rfl⟩
    | bl b => walk_at "run"; exact ⟨_, _, rfl, rfl, rfl, .inl rfl, .inl rfl⟩
    | int i => walk_at "run"; exact ⟨_, _, rfl, rfl, rfl, .inl rfl, .inl rfl⟩
    | str z => walk_at "run"; exact ⟨_, _, rfl, rfl, rfl, .inl rfl, .inl rfl⟩
    | _ => cases n <;> (unfold Dat at ht; exact ht.elim)
  | d + 1, n, .lst o xs, u, hd, h, ht, hu => by
    rw [fz_Lst] at h
    obtain ⟨o2, ys, rfl, hxy⟩ : ∃ o2 ys, u = .lst o2 ys ∧ fzL xs = fzL ys := by
      cases u with
      | lst o2 ys => rw [fz_Lst] at h; exact ⟨_, _, rfl, (T.lst.inj h).2⟩
      | _ => first | (unfold fz at h; cases h) | cases h
    cases n with
    | zero => unfold Dat at ht; exact ht.elim
    | succ n =>
    unfold m__law_same b__law_same defF
    walk_at "run"
    have hz : ∀ z ∈ fzL xs, Dat n z ∧ fz z = z := fun z hm => ⟨dat_fzL (dat_fz n) (by unfold Dat at ht; exact ht) z hm, mem_fzL' hm⟩
    have hl : (xs.length : Int) = ys.length := by rw [← fzL_len xs, hxy, fzL_len]
    rw [← hxy, zip_self, if_pos hl, same_lc _ hz fun z hd' => let ⟨a, b, e, _⟩ := same_ok d n z z (by omega) rfl hd' hd'; ⟨a, b, e⟩]
    walk_at "ev"
    rw [all_true]
    walk_at "ev"
    rw [all_rep]
    exact ⟨_, _, rfl, by walk_at "ev", by walk_at "ev", .inr rfl, .inr rfl⟩
  | d + 1, n, .tup xs, u, hd, h, ht, hu => by
    rw [fz_Tup] at h
    obtain ⟨ys, rfl, hxy⟩ : ∃ ys, u = .tup ys ∧ fzL xs = fzL ys := by
      cases u with
      | tup ys => rw [fz_Tup] at h; exact ⟨_, rfl, T.tup.inj h⟩
      | _ => first | (unfold fz at h; cases h) | cases h
    cases n with
    | zero => unfold Dat at ht; exact ht.elim
    | succ n =>
    unfold m__law_same b__law_same defF
    walk_at "run"
    have hz : ∀ z ∈ fzL xs, Dat n z ∧ fz z = z := fun z hm => ⟨dat_fzL (dat_fz n) (by unfold Dat at ht; exact ht) z hm, mem_fzL' hm⟩
    have hl : (xs.length : Int) = ys.length := by rw [← fzL_len xs, hxy, fzL_len]
    rw [← hxy, zip_self, if_pos hl, same_lc _ hz fun z hd' => let ⟨a, b, e, _⟩ := same_ok d n z z (by omega) rfl hd' hd'; ⟨a, b, e⟩]
    walk_at "ev"
    rw [all_true]
    walk_at "ev"
    rw [all_rep]
    exact ⟨_, _, rfl, by walk_at "ev", by walk_at "ev", .inr rfl, .inr rfl⟩
  | d + 1, n, .dK o ks xs, u, hd, h, ht, hu => by
    rw [fz_DK] at h
    obtain ⟨o2, ys, rfl, hxy⟩ : ∃ o2 ys, u = .dK o2 ks ys ∧ fzL xs = fzL ys := by
      cases u with
      | dK o2 ks2 ys => rw [fz_DK] at h; obtain ⟨_, h1, h2⟩ := T.dK.inj h; subst h1; exact ⟨_, _, rfl, h2⟩
      | _ => first | (unfold fz at h; cases h) | cases h
    match n, hd, ht, hu with
    | 0, _, ht, _ => unfold Dat at ht; exact ht.elim
    | 1, _, ht, _ => unfold Dat at ht; exact ht.elim
    | 2, _, ht, _ => unfold Dat at ht; exact ht.elim
    | n + 3, hd, ht, hu =>
      unfold Dat at ht hu
      obtain ⟨⟨hz, hl, hn⟩, hx⟩ := ht
      obtain ⟨⟨hz2, hl2, hn2⟩, hx2⟩ := hu
      rw [fzL_of (fzLB_ok hz), fzL_of (fzLB_ok hz2)] at hxy
      subst hxy
      unfold m__law_same b__law_same defF
      walk_at "run"
      have hdp : Dat (n + 2) (.lst true (List.zipWith pairT ks xs)) := by unfold Dat; exact dat_pairs hx
      obtain ⟨t', u', e, _⟩ := same_ok d (n + 2) (.lst true (List.zipWith pairT ks xs)) (.lst true (List.zipWith pairT ks xs)) (by omega) rfl hdp hdp
      rw [hz, hl, hn]
      walk_at "run"
      rw [hz, hl, hn]
      walk_at "run"
      rw [e]
      walk_at "run"
      exact ⟨_, _, rfl, by walk_at "ev", by walk_at "ev", .inl rfl, .inl rfl⟩
  | d + 1, n, .gone, u, hd, h, ht, hu => by cases n <;> (unfold Dat at ht; exact ht.elim)
  | d + 1, n, .hole, u, hd, h, ht, hu => by cases n <;> (unfold Dat at ht; exact ht.elim)
  | d + 1, n, .ro _, u, hd, h, ht, hu => by cases n <;> (unfold Dat at ht; exact ht.elim)
  | d + 1, n, .dT _ _ _, u, hd, h, ht, hu => by cases n <;> (unfold Dat at ht; exact ht.elim)
  | d + 1, n, .ins _ _ _ _, u, hd, h, ht, hu => by cases n <;> (unfold Dat at ht; exact ht.elim)

theorem same_still {d n : Nat} {t u : T} (hn : n < d) (h : fz t = fz u) (ht : Dat n t) (hu : Dat n u) (zt : fz t = t) : ∃ u', m__law_same d [t, u] = some (T.bl true, [t, u']) ∧ fz u' = fz u := by
  obtain ⟨t', u', e, h1, h2, h3, h4⟩ := same_ok d n t u hn h ht hu
  rcases h3 with rfl | rfl
  · exact ⟨_, e, h2⟩
  · rw [zt] at e
    exact ⟨_, e, h2⟩

theorem copied_lc {r : MF} {n : Nat} (zs : List T) (hz : ∀ z ∈ zs, Dat n z ∧ fz z = z) (ih : ∀ z, Dat n z → ∃ u, r [z] = some (u, [fz z]) ∧ fz u = fz z) (a : T) :
    lcF [3] (DL.gNm 3) cT (e2__law_copied r) zs [a, .gone, .gone, .gone] = some (zs, [a, .gone, .gone, .gone]) := by
  have h := lc_map (ws := [3]) (g := DL.gNm 3) (c := cT) (e := e2__law_copied r) (fun x : T => x) (fun x => x) (ρ := [a, .gone, .gone, .gone]) zs fun z hm => ?_
  · rw [List.map_id'] at h; exact h
  · obtain ⟨hd, hf⟩ := hz z hm
    obtain ⟨u, e, h1⟩ := ih z hd
    refine ⟨[a, .gone, .gone, z], [a, .gone, .gone, z], [a, .gone, .gone, fz z], by walk_at "ev", rfl, ?_, rfl⟩
    unfold e2__law_copied
    walk_at "ev"
    rw [dat_ng hd]
    walk_at "ev"
    rw [e]
    walk_at "ev"
    rw [h1, hf]
theorem prL_zip : ∀ (ks : List Key) (xs : List T), ks.length = xs.length → prL (List.zipWith pairT ks xs) = some (ks, xs)
  | [], [], _ => rfl
  | k :: ks, x :: xs, h => by
    rw [List.zipWith_cons_cons]
    show (keyOf (keyT k)).bd (fun k => (prL (List.zipWith pairT ks xs)).bd fun p => some (k :: p.1, x :: p.2)) = _
    rw [keyOf_keyT, prL_zip ks xs (Nat.succ.inj h)]
    rfl
def valOf (ks : List Key) (xs : List T) (k : Key) : T := ((ks.findIdx? fun x => decide (x = k)).bind fun j => xs[j]?).getD .gone
theorem find_nodup {ks : List Key} {k : Key} {j : Nat} (hn : ks.Nodup) (h : ks[j]? = some k) : (ks.findIdx? fun x => decide (x = k)) = some j := by
  obtain ⟨hl, he⟩ := List.getElem?_eq_some_iff.mp h
  refine List.findIdx?_eq_some_iff_getElem.mpr ⟨hl, by simp [he], fun i hi => ?_⟩
  simp only [decide_eq_true_eq]
  intro c
  exact (List.pairwise_iff_getElem.mp hn) i j (by omega) hl hi (c.trans he.symm)
theorem map_valOf {ks : List Key} {xs : List T} (hn : ks.Nodup) (hl : ks.length = xs.length) : ks.map (fun k => pairT k (valOf ks xs k)) = List.zipWith pairT ks xs := by
  apply List.ext_getElem?
  intro i
  rw [List.getElem?_map, List.getElem?_zipWith]
  cases e : ks[i]? with
  | none => rfl
  | some k =>
    have hi := (List.getElem?_eq_some_iff.mp e).1
    have e2 : xs[i]? = some xs[i] := List.getElem?_eq_getElem (by omega)
    rw [e2]
    show some (pairT k (valOf ks xs k)) = some (pairT k xs[i])
    unfold valOf
    rw [find_nodup hn e, Option.bind_some, e2]
    rfl
theorem copied_dlc {r : MF} {n : Nat} (ks : List Key) (xs : List T) (hn : ks.Nodup) (hl : ks.length = xs.length) (hz : fzLB xs = true) (hx : ∀ z ∈ xs, Dat n z) (ih : ∀ z, Dat n z → ∃ u, r [z] = some (u, [fz z]) ∧ fz u = fz z) :
    lcF [2] (DL.gNm 2) cT (e1__law_copied r) (ks.map keyT) [.dK false ks xs, .gone, .gone, .gone] = some (List.zipWith pairT ks xs, [.dK false ks xs, .gone, .gone, .gone]) := by
  rw [← map_valOf hn hl]
  refine lc_map keyT (fun k => pairT k (valOf ks xs k)) ks fun k hk => ?_
  obtain ⟨j, hj, he⟩ := List.getElem_of_mem hk
  have e1 : ks[j]? = some k := by rw [List.getElem?_eq_getElem hj, he]
  have e2 : xs[j]? = some xs[j] := List.getElem?_eq_getElem (by omega)
  have ev : valOf ks xs k = xs[j] := by
    unfold valOf
    rw [find_nodup hn e1, Option.bind_some, e2]
    rfl
  have hm : xs[j] ∈ xs := List.getElem_mem _
  have hf : Fz xs[j] := mem_fzL (fzLB_ok hz) _ hm
  obtain ⟨u, e3, h1⟩ := ih xs[j] (hx _ hm)
  refine ⟨[.dK false ks xs, .gone, keyT k, .gone], [.dK false ks xs, .gone, keyT k, .gone], [.dK false ks xs, .gone, keyT k, .gone], by walk_at "ev", rfl, ?_, rfl⟩
  have nk : ng (keyT k) = some (keyT k) := by cases k <;> rfl
  have fk : fz (keyT k) = keyT k := by cases k <;> rfl
  unfold e1__law_copied
  walk_at "ev"
  rw [nk]
  walk_at "ev"
  rw [fk, nk]
  walk_at "ev"
  rw [find_nodup hn e1]
  walk_at "ev"
  rw [e2]
  walk_at "ev"
  rw [Fz_B hf]
  walk_at "ev"
  rw [e3]
  walk_at "run"
  rw [h1, fz_of hf, fk, ev]
  rfl
/-- a copy, the same -/
theorem copied_ok : ∀ (d n : Nat) (t : T), n < d → Dat n t → ∃ u, m__law_copied d [t] = some (u, [fz t]) ∧ fz u = fz t ∧ Dat n u
  | 0, _, _, hd, _ => absurd hd (Nat.not_lt_zero _)
  | d + 1, n, .v x, hd, ht => by
    unfold m__law_copied b__law_copied defF
    cases x with
    | non => walk_at "run"; exact ⟨_, rfl, rfl, ht⟩
    | bl b => walk_at "run"; exact ⟨_, rfl, rfl, ht⟩
    | int i => walk_at "run"; exact ⟨_, rfl, rfl, ht⟩
    | str z => walk_at "run"; exact ⟨_, rfl, rfl, ht⟩
    | _ => cases n <;> (unfold Dat at ht; exact ht.elim)
  | d + 1, n, .lst o xs, hd, ht => by
    cases n with
    | zero => unfold Dat at ht; exact ht.elim
    | succ n =>
    unfold m__law_copied b__law_copied defF
    walk_at "run"
    have hz : ∀ z ∈ fzL xs, Dat n z ∧ fz z = z := fun z hm => ⟨dat_fzL (dat_fz n) (by unfold Dat at ht; exact ht) z hm, mem_fzL' hm⟩
    rw [copied_lc _ hz fun z hd' => let ⟨u, e, h, _⟩ := copied_ok d n z (by omega) hd'; ⟨u, e, h⟩]
    walk_at "run"
    exact ⟨_, rfl, by walk_at "ev", (by unfold Dat; exact dat_fzL (dat_fz n) (by unfold Dat at ht; exact ht))⟩
  | d + 1, n, .tup xs, hd, ht => by
    cases n with
    | zero => unfold Dat at ht; exact ht.elim
    | succ n =>
    unfold m__law_copied b__law_copied defF
    walk_at "run"
    have hz : ∀ z ∈ fzL xs, Dat n z ∧ fz z = z := fun z hm => ⟨dat_fzL (dat_fz n) (by unfold Dat at ht; exact ht) z hm, mem_fzL' hm⟩
    rw [copied_lc _ hz fun z hd' => let ⟨u, e, h, _⟩ := copied_ok d n z (by omega) hd'; ⟨u, e, h⟩]
    walk_at "run"
    exact ⟨_, rfl, by walk_at "ev", (by unfold Dat; exact dat_fzL (dat_fz n) (by unfold Dat at ht; exact ht))⟩
  | d + 1, n, .dK o ks xs, hd, ht => by
    match n, hd, ht with
    | 0, _, ht => unfold Dat at ht; exact ht.elim
    | 1, _, ht => unfold Dat at ht; exact ht.elim
    | 2, _, ht => unfold Dat at ht; exact ht.elim
    | n + 3, hd, ht =>
      unfold Dat at ht
      obtain ⟨⟨hz, hl, hn⟩, hx⟩ := ht
      have hl' := of_decide_eq_true hl
      unfold m__law_copied b__law_copied defF
      walk_at "run"
      rw [fzL_of (fzLB_ok hz), copied_dlc ks xs (of_decide_eq_true hn) hl' hz hx fun z hd' => let ⟨u, e, h, _⟩ := copied_ok d n z (by omega) hd'; ⟨u, e, h⟩]
      walk_at "run"
      rw [prL_zip ks xs hl']
      walk_at "run"
      rw [hz, hn]
      walk_at "run"
      exact ⟨.dK true ks xs, rfl, by rw [fz_DK, fzL_of (fzLB_ok hz)], by unfold Dat; exact ⟨⟨hz, hl, hn⟩, hx⟩⟩
  | d + 1, n, .gone, hd, ht => by cases n <;> (unfold Dat at ht; exact ht.elim)
  | d + 1, n, .hole, hd, ht => by cases n <;> (unfold Dat at ht; exact ht.elim)
  | d + 1, n, .ro _, hd, ht => by cases n <;> (unfold Dat at ht; exact ht.elim)
  | d + 1, n, .dT _ _ _, hd, ht => by cases n <;> (unfold Dat at ht; exact ht.elim)
  | d + 1, n, .ins _ _ _ _, hd, ht => by cases n <;> (unfold Dat at ht; exact ht.elim)

theorem cletters_ok : m__law_cletters [] = some (T.str c_LETTERS, []) := by
  unfold m__law_cletters b__law_cletters defF
  walk_at "run"
  rfl
theorem cwords_ok : m__law_cwords [] = some (.lst true ((["hands", "deed", "program", "state", "end", "from", "on", "go", "claim", "closed", "same", "tells", "never"] : List Str).map T.str), []) := by
  unfold m__law_cwords b__law_cwords defF
  walk_at "run"
/-- the signs of words -/
def wsig : List Nat := cl (c_LETTERS ++ c_FIGURES)
theorem wsig_eq : (c_LETTERS ++ c_FIGURES).cps.toList = wsig := rfl
theorem wsig_lt : ∀ c ∈ wsig, c < 128 := by decide +kernel
theorem let_w : ∀ c ∈ cl c_LETTERS, c ∈ wsig := by decide +kernel
/-- told a name -/
structure Nm (z : Str) : Prop where
  h : ∃ c cs, cl z = c :: cs ∧ c ∈ cl c_LETTERS ∧ ∀ d ∈ cs, d ∈ wsig
  l : z.length ≤ 8
theorem Nm.all {z : Str} (h : Nm z) : ∀ c ∈ cl z, c ∈ wsig := by
  obtain ⟨c, cs, e, h1, h2⟩ := h.h
  intro d hd
  rw [e] at hd
  rcases List.mem_cons.mp hd with rfl | hd
  · exact let_w _ h1
  · exact h2 d hd
theorem Nm.pos {z : Str} (h : Nm z) : 0 < z.length := by
  obtain ⟨c, cs, e, _⟩ := h.h
  rw [cl_len, e]
  exact Nat.succ_pos _
theorem Nm.is {z : Str} (h : Nm z) : isNameS z = true := by
  have hall := h.all
  obtain ⟨c, cs, e, h1, h2⟩ := h.h
  unfold isNameS isWordS
  rw [show z.cps.toList = c :: cs from e]
  dsimp only
  rw [decide_eq_true h1, decide_eq_true h.l, List.filter_eq_nil_iff.mpr fun d hd => by
    have := hall d (by rw [e]; exact hd)
    rw [wsig_eq]
    simp [this]]
  rfl
theorem Nm.tx {z : Str} (h : Nm z) : TxOk z := ⟨by have := h.l; omega, fun c hc => by have := wsig_lt c (h.all c hc); omega⟩
/-- told no name -/
theorem no_len {z : Str} (h : 8 < z.length) : isNameS z = false := by
  unfold isNameS
  rw [decide_eq_false (by omega), Bool.and_false]
theorem no_sign {z : Str} {d : Nat} (h : d ∈ cl z) (hd : d ∉ wsig) : isNameS z = false := by
  unfold isNameS isWordS
  cases e : z.cps.toList with
  | nil => rfl
  | cons c cs =>
    have : ¬ List.filter (fun d => !decide (d ∈ (c_LETTERS ++ c_FIGURES).cps.toList)) (c :: cs) = [] := by
      rw [List.filter_eq_nil_iff]
      intro k
      have := k d (by rw [← e]; exact h)
      rw [wsig_eq] at this
      simp [hd] at this
    dsimp only
    rw [decide_eq_false this, Bool.and_false, Bool.false_and]
theorem no_head {z : Str} {c : Nat} {cs : List Nat} (e : cl z = c :: cs) (hc : c ∉ cl c_LETTERS) : isNameS z = false := by
  unfold isNameS isWordS
  rw [show z.cps.toList = c :: cs from e]
  dsimp only
  rw [decide_eq_false hc, Bool.false_and, Bool.false_and]
/-- what is asked -/
structure Wrong (t : T) : Prop where
  d : Dat 5 t
  f : fz t = t
  n : m_is_name [t] = some (T.bl false, [t])
theorem wrong_str {z : Str} (h : TxOk z) (hn : isNameS z = false) : Wrong (T.str z) := ⟨by unfold Dat; trivial, rfl, by rw [name_str h, hn]⟩
theorem inner_ok (thing : T) (hw : Wrong thing) (s0 s1 s2 s3 s4 s5 s6 s7 s9 s10 : T) :
    ∃ a b, b2_law [s0, s1, s2, s3, s4, s5, s6, s7, thing, s9, s10] = some (.nx, [s0, s1, s2, s3, s4, s5, s6, s7, a, b, s10]) := by
  obtain ⟨hd, hf, hn⟩ := hw
  unfold b2_law
  obtain ⟨u, e, h1, hu⟩ := copied_ok 12 5 thing (by omega) hd
  obtain ⟨u', e2, h2⟩ := same_still (d := 12) (n := 5) (t := thing) (u := u) (by omega) h1.symm hd hu hf
  walk_at "ev"
  rw [dat_ng hd]
  walk_at "ev"
  rw [e]
  walk_at "ev"
  rw [hf, dat_ng hd]
  walk_at "ev"
  rw [hn]
  walk_at "ev"
  rw [dat_ng hd, dat_ng hu]
  walk_at "ev"
  rw [e2]
  walk_at "ev"
  exact ⟨_, _, rfl⟩
theorem inner_for : ∀ (ts : List T) (s0 s1 s2 s3 s4 s5 s6 s7 s8 s9 s10 : T), (∀ t ∈ ts, Wrong t) → ∃ a b, forF (DL.gNm 8) b2_law ts [s0, s1, s2, s3, s4, s5, s6, s7, s8, s9, s10] = some (.nx, [s0, s1, s2, s3, s4, s5, s6, s7, a, b, s10])
  | [], s0, s1, s2, s3, s4, s5, s6, s7, s8, s9, s10, _ => ⟨s8, s9, rfl⟩
  | t :: ts, s0, s1, s2, s3, s4, s5, s6, s7, s8, s9, s10, h => by
    obtain ⟨a, b, e⟩ := inner_ok t (h t List.mem_cons_self) s0 s1 s2 s3 s4 s5 s6 s7 s9 s10
    obtain ⟨a2, b2, e2⟩ := inner_for ts s0 s1 s2 s3 s4 s5 s6 s7 a b s10 fun u hu => h u (List.mem_cons_of_mem _ hu)
    refine ⟨a2, b2, ?_⟩
    rw [forF_cons]
    walk_at "ev"
    rw [e]
    walk_at "ev"
    exact e2
theorem pick_sign {n : Nat} {s : SS} (hS : SOk n s) {o : Bool} {z : Str} (h1 : cl z ≠ []) (h2 : (cl z).length < 1073741824) (hn : n < 1000000000) :
    ∃ c ∈ cl z, ∃ s' : SS, m__law_pick [stT s, .lst o (sgnT z)] = some (T.str ⟨#[c]⟩, [stT s', .lst o (sgnT z)]) ∧ SOk (n + 1) s' := by
  have e0 : sgnT z = (cl z).map fun c => T.str ⟨#[c]⟩ := rfl
  obtain ⟨j, t, s', e, e2, h⟩ := pick_ok hS (o := o) (xs := sgnT z) (by rw [e0]; exact fzLB_Map _ (fun _ => rfl) _) (by rw [e0]; simpa using h1) (by rw [e0, List.length_map]; exact h2) hn
  rw [e0, List.getElem?_map] at e
  cases hc : (cl z)[j]? with
  | none => rw [hc] at e; cases e
  | some c =>
    rw [hc] at e
    cases e
    exact ⟨c, List.mem_of_getElem? hc, s', e2, h⟩
/-- the drawn signs -/
theorem signs_lc (small : Str) (hs : cl small = wsig) (s0 t3 t4 t5 t6 t7 t8 t9 : T) (k : Nat) {n : Nat} {s : SS} (hS : SOk n s) (hn : n + k < 1000000000) :
    ∃ (zs : List Str) (s' : SS), lcF [10] (DL.gNm 10) cT e1_law (rngT 0 k) [s0, stT s, T.str small, t3, t4, t5, t6, t7, t8, t9, .gone] = some (zs.map T.str, [s0, stT s', T.str small, t3, t4, t5, t6, t7, t8, t9, .gone]) ∧ zs.length = k ∧ (∀ z ∈ zs, ∃ c ∈ wsig, cl z = [c]) ∧ SOk (n + k) s' := by
  let E : List T → List T → List T → Prop := fun ts acc ρ => ∃ (zs : List Str) (s' : SS) (i : Nat), i + ts.length = k ∧ acc = zs.map T.str ∧ zs.length = i ∧ ρ = [s0, stT s', T.str small, t3, t4, t5, t6, t7, t8, t9, .gone] ∧ (∀ z ∈ zs, ∃ c ∈ wsig, cl z = [c]) ∧ SOk (n + i) s'
  have step : ∀ t ts acc ρ, E (t :: ts) acc ρ → ∃ r, DL.gNm 10 t ρ = some r ∧ Hs (cT r) fun k r2 => if k then Hs (e1_law r2) fun y r3 => E ts (acc ++ [y]) (wipeT r3 [10]) else E ts acc (wipeT r2 [10]) := by
    rintro t ts acc ρ ⟨zs, s1, i, h1, rfl, h3, rfl, h5, h6⟩
    rw [List.length_cons] at h1
    obtain ⟨c, hc, s2, e2, hS2⟩ := pick_sign (o := true) (z := small) h6 (by rw [hs]; decide +kernel) (by rw [hs]; decide +kernel) (by omega)
    refine ⟨[s0, stT s1, T.str small, t3, t4, t5, t6, t7, t8, t9, t], by walk_at "ev", true, _, rfl, ?_⟩
    refine iteT ?_
    refine ⟨T.str ⟨#[c]⟩, [s0, stT s2, T.str small, t3, t4, t5, t6, t7, t8, t9, t], ?_, zs ++ [⟨#[c]⟩], s2, i + 1, by omega, by simp, by simp [h3], rfl, ?_, hS2⟩
    · unfold e1_law
      have hz : szB small.cps.size = true := by
        have : small.cps.size = 36 := by
          show small.length = 36
          rw [cl_len, hs]
          decide +kernel
        rw [this]
        rfl
      rw [szB_eq] at hz
      walk_at "ev"
      rw [hz]
      walk_at "ev"
      rw [e2]
      walk_at "ev"
    · intro z hz
      rcases List.mem_append.mp hz with hz | hz
      · exact h5 z hz
      · rw [List.mem_singleton.mp hz]
        exact ⟨c, by rw [← hs]; exact hc, rfl⟩
  obtain ⟨ys, ρ', e, zs, s', i, h1, h2, h3, h4, h5, h6⟩ := lc_hs (ws := [10]) (g := DL.gNm 10) (c := cT) (e := e1_law) E step (rngT 0 k) [] _ ⟨[], s, 0, by rw [rngT_length]; omega, rfl, rfl, rfl, fun _ h => absurd h List.not_mem_nil, hS⟩
  rw [List.nil_append] at h2
  subst h2 h4
  rw [List.length_nil] at h1
  exact ⟨zs, s', e, by omega, h5, by rw [show k = i by omega]; exact h6⟩
theorem flat_signs : ∀ zs : List Str, (∀ z ∈ zs, ∃ c ∈ wsig, cl z = [c]) → (zs.map cl).flatten.length = zs.length ∧ ∀ c ∈ (zs.map cl).flatten, c ∈ wsig
  | [], _ => ⟨rfl, fun c h => by cases h⟩
  | z :: zs, h => by
    obtain ⟨h1, h2⟩ := flat_signs zs fun y hy => h y (List.mem_cons_of_mem _ hy)
    obtain ⟨c, hc, e⟩ := h z List.mem_cons_self
    rw [List.map_cons, List.flatten_cons, e]
    refine ⟨by simp [h1], fun d hd => ?_⟩
    rcases List.mem_append.mp hd with hd | hd
    · rw [List.mem_singleton.mp hd]; exact hc
    · exact h2 d hd
theorem sum_len : ∀ zs : List Str, (∀ z ∈ zs, ∃ c ∈ wsig, cl z = [c]) → (zs.map (·.length)).sum = zs.length
  | [], _ => rfl
  | z :: zs, h => by
    obtain ⟨c, hc, e⟩ := h z List.mem_cons_self
    rw [List.map_cons, List.sum_cons, sum_len zs fun y hy => h y (List.mem_cons_of_mem _ hy), cl_len, e, List.length_cons, List.length_cons, List.length_nil]
    omega
theorem allLt_app {a b : Str} (ha : ∀ c ∈ cl a, c < 0x110000) (hb : ∀ c ∈ cl b, c < 0x110000) : ∀ c ∈ cl (a ++ b), c < 0x110000 := by
  intro c hc
  rw [cl_app] at hc
  rcases List.mem_append.mp hc with h | h
  · exact ha c h
  · exact hb c h
theorem allLt_to {a : Str} {n : Nat} (ha : ∀ c ∈ cl a, c < 0x110000) : ∀ c ∈ cl (cutS a none (some (n : Int))), c < 0x110000 := by
  intro c hc
  rw [cl_to] at hc
  exact ha c (List.mem_of_mem_take hc)
theorem allLt_from {a : Str} {n : Nat} (ha : ∀ c ∈ cl a, c < 0x110000) : ∀ c ∈ cl (cutS a (some (n : Int)) none), c < 0x110000 := by
  intro c hc
  rw [cl_from] at hc
  exact ha c (List.mem_of_mem_drop hc)
theorem len_to (a : Str) (n : Nat) : (cutS a none (some (n : Int))).length = min n a.length := by rw [cl_len, cl_to, List.length_take, ← cl_len]
theorem len_from (a : Str) (n : Nat) : (cutS a (some (n : Int)) none).length = a.length - n := by rw [cl_len, cl_from, List.length_drop, ← cl_len]
def sgl : List Str := ["A", "_", " ", "\n", "-", "\t", "Z", "."]
theorem sgl_ok : ∀ g ∈ sgl, g.length = 1 ∧ (∃ d ∈ cl g, d ∉ wsig) ∧ ∀ d ∈ cl g, d < 0x110000 := by decide +kernel
theorem tx_of {z : Str} (h : z.length ≤ 100) (h2 : ∀ c ∈ cl z, c < 0x110000) : TxOk z := ⟨by omega, h2⟩
theorem wrong1 {word sg : Str} (hw : Nm word) (hg : sg ∈ sgl) (i j : Nat) : Wrong (T.str (cutS word none (some (i : Int)) ++ sg ++ cutS word (some (j : Int)) none)) := by
  obtain ⟨g1, ⟨d, g2, g3⟩, g4⟩ := sgl_ok sg hg
  have hl := hw.l
  refine wrong_str (tx_of ?_ (allLt_app (allLt_app (allLt_to hw.tx.2) g4) (allLt_from hw.tx.2))) (no_sign (d := d) ?_ g3)
  · rw [len_app, len_app, len_to, len_from]
    omega
  · rw [cl_app, cl_app]
    exact List.mem_append_left _ (List.mem_append_right _ g2)
theorem wrong2 {word : Str} (hw : Nm word) (p : Str) (hp : p.length = 1) (hp2 : ∀ c ∈ cl p, c < 0x110000) (hp3 : ∀ c ∈ cl p, c ∉ cl c_LETTERS) : Wrong (T.str (p ++ cutS word none (some 7))) := by
  have hl := hw.l
  refine wrong_str (tx_of ?_ (allLt_app hp2 (allLt_to (n := 7) hw.tx.2))) ?_
  · rw [len_app, show (some (7 : Int)) = some ((7 : Nat) : Int) from rfl, len_to]
    omega
  · rw [cl_len] at hp
    match e : cl p, hp with
    | [c], _ => exact no_head (c := c) (cs := cl (cutS word none (some 7))) (by rw [cl_app, e]; rfl) (hp3 c (by rw [e]; exact List.mem_cons_self))
theorem wrong3 {word : Str} (hw : Nm word) (d : Nat) (hd : d < 3) : Wrong (T.str (cutS (word ++ "a1b2c3d4") none (some (9 + (d : Int))) ++ "x")) := by
  have hl := hw.l
  have hp := hw.pos
  have e : (some (9 + (d : Int))) = some ((9 + d : Nat) : Int) := by congr 1
  have q1 : ("a1b2c3d4" : Str).length = 8 := by decide +kernel
  have q2 : ("x" : Str).length = 1 := by decide +kernel
  have hlen : (cutS (word ++ "a1b2c3d4") none (some (9 + (d : Int))) ++ "x").length = min (9 + d) (word.length + 8) + 1 := by
    rw [len_app, e, len_to, len_app, q1, q2]
  refine wrong_str (tx_of ?_ (allLt_app ?_ (by decide +kernel))) (no_len ?_)
  · rw [hlen]; omega
  · rw [e]
    exact allLt_to (allLt_app hw.tx.2 (by decide +kernel))
  · rw [hlen]; omega
theorem wrong_no {t : T} (hd : Dat 5 t) (hf : fz t = t) {k : String} (hk : kindT t = some k) (hk2 : kitB k "str" = some false) : Wrong t := ⟨hd, hf, name_no ⟨k, hk, hk2⟩⟩
theorem outer_ok (small : Str) (hs : cl small = wsig) (s0 t3 t4 t5 t6 t7 t8 t9 : T) {n : Nat} {s : SS} (hS : SOk n s) (hn : n + 20 < 1000000000) :
    ∃ (s' : SS) (u4 u5 u6 u7 u8 u9 : T), b3_law [s0, stT s, T.str small, t3, t4, t5, t6, t7, t8, t9, .gone] = some (.nx, [s0, stT s', T.str small, t3, u4, u5, u6, u7, u8, u9, .gone]) ∧ SOk (n + 20) s' := by
  obtain ⟨c, hc, s1, e1, hS1⟩ := pick_sign (o := true) (z := c_LETTERS) hS (by decide +kernel) (by decide +kernel) (by omega)
  obtain ⟨k, s2, e2, hk, hS2⟩ := belowN hS1 (many := 8) (by omega) (by omega) (by omega)
  obtain ⟨zs, s3, e3, hzl, hzs, hS3⟩ := signs_lc small hs s0 t3 t4 t5 t6 t7 t8 t9 k hS2 (by omega)
  have hw : Nm (⟨#[c]⟩ ++ Txt.join "" zs) := by
    obtain ⟨f1, f2⟩ := flat_signs zs hzs
    refine ⟨⟨c, (zs.map cl).flatten, ?_, hc, f2⟩, ?_⟩
    · rw [cl_app, cl_join0]
      rfl
    · rw [cl_len, cl_app, cl_join0, List.length_append, f1]
      show 1 + zs.length ≤ 8
      omega
  have hj := sum_len zs hzs
  unfold b3_law
  walk_at "ev"
  rw [cletters_ok]
  walk_at "ev"
  rw [show decide (c_LETTERS.cps.size ≤ 16777216) = true by decide +kernel]
  walk_at "ev"
  rw [e1]
  walk_at "ev"
  rw [show (8 : Int) = ((8 : Nat) : Int) from rfl, e2]
  walk_at "ev"
  walk_at "gd"
  walk_at "ev"
  rw [e3]
  walk_at "ev"
  rw [gd_of (decide_eq_true (by rw [hj]; show zs.length + zs.length * 0 ≤ 16777216; omega))]
  walk_at "ev"
  rw [gd_of (decide_eq_true (by rw [← len_app]; have := hw.l; omega))]
  generalize hword : (⟨#[c]⟩ ++ Txt.join "" zs : Str) = word at *
  walk_at "ev"
  rw [name_str hw.tx, hw.is]
  walk_at "ev"
  rw [name_str hw.tx, hw.is]
  walk_at "ev"
  have hpos := hw.pos
  obtain ⟨at_, s4, e4, hat, hS4⟩ := belowN hS3 (many := word.length) (by omega) (by have := hw.l; omega) (by omega)
  have hws : decide (word.length ≤ 16777216) = true := decide_eq_true (by have := hw.l; omega)
  rw [hws]
  walk_at "ev"
  rw [e4]
  walk_at "ev"
  obtain ⟨j, t, s5, e5, e6, hS5⟩ := pick_ok hS4 (o := true) (xs := sgl.map T.str) (fzLB_str _) (by decide) (by decide) (by omega)
  obtain ⟨sg, hsg, rfl⟩ : ∃ sg ∈ sgl, t = T.str sg := by
    rw [List.getElem?_map] at e5
    cases e : sgl[j]? with
    | none => rw [e] at e5; cases e5
    | some g => rw [e] at e5; cases e5; exact ⟨g, List.mem_of_getElem? e, rfl⟩
  have e6' := e6
  unfold sgl at e6'
  simp only [List.map_cons, List.map_nil] at e6'
  rw [e6']
  walk_at "ev"
  obtain ⟨g1, _, _⟩ := sgl_ok sg hsg
  have hl := hw.l
  have e7 : ((at_ : Int) + 1) = ((at_ + 1 : Nat) : Int) := rfl
  have q7 : (some (7 : Int)) = some ((7 : Nat) : Int) := rfl
  have l1 := len_to word at_
  have l2 := len_from word (at_ + 1)
  have l3 := len_to word 7
  rw [← e7] at l2
  rw [← q7] at l3
  have k1 : ("7" : Str).length = 1 := by decide +kernel
  have k2 : (" " : Str).length = 1 := by decide +kernel
  have k3 : ("a1b2c3d4" : Str).length = 8 := by decide +kernel
  have k4 : ("x" : Str).length = 1 := by decide +kernel
  have l4 := len_app (cutS word none (some (at_ : Int))) sg
  have l5 := len_app word "a1b2c3d4"
  obtain ⟨d, s6, e8, hd, hS6⟩ := belowN hS5 (many := 3) (by omega) (by omega) (by omega)
  have l6 := len_to (word ++ "a1b2c3d4") (9 + d)
  rw [show (((9 + d : Nat) : Int)) = 9 + (d : Int) from rfl] at l6
  rw [hws]
  walk_at "run"
  rw [show (3 : Int) = ((3 : Nat) : Int) from rfl, e8]
  walk_at "run"
  obtain ⟨a, b, e9⟩ := inner_for [T.str (cutS word none (some (at_ : Int)) ++ sg ++ cutS word (some ((at_ : Int) + 1)) none), T.str ("7" ++ cutS word none (some 7)), T.str (cutS (word ++ "a1b2c3d4") none (some (9 + (d : Int))) ++ "x"), T.str "", T.str (" " ++ cutS word none (some 7)),
    .lst false [T.str word], .tup [T.str word], T.non, T.int 5, T.bl true, .dK false [.inr word] [T.int 1], T.int word.length]
    s0 (stT s6) (T.str small) t3 (T.str word) (T.int at_) (T.str sg) (.lst false [T.str (cutS word none (some (at_ : Int)) ++ sg ++ cutS word (some ((at_ : Int) + 1)) none), T.str ("7" ++ cutS word none (some 7)), T.str (cutS (word ++ "a1b2c3d4") none (some (9 + (d : Int))) ++ "x"), T.str "", T.str (" " ++ cutS word none (some 7)),
    .lst false [T.str word], .tup [T.str word], T.non, T.int 5, T.bl true, .dK false [.inr word] [T.int 1], T.int word.length]) t8 t9 .gone (by
      intro t ht
      simp only [List.mem_cons, List.not_mem_nil, or_false] at ht
      rcases ht with rfl | rfl | rfl | rfl | rfl | rfl | rfl | rfl | rfl | rfl | rfl | rfl
      · exact wrong1 hw hsg at_ (at_ + 1)
      · exact wrong2 hw "7" k1 (by decide +kernel) (by decide +kernel)
      · exact wrong3 hw d hd
      · exact wrong_str (tx_of (by decide +kernel) (by decide +kernel)) rfl
      · exact wrong2 hw " " k2 (by decide +kernel) (by decide +kernel)
      · exact wrong_no (by unfold Dat; intro x hx; rw [List.mem_singleton.mp hx]; trivial) (by walk_at "ev") rfl (by walk_at "ev")
      · exact wrong_no (by unfold Dat; intro x hx; rw [List.mem_singleton.mp hx]; trivial) (by walk_at "ev") rfl (by walk_at "ev")
      · exact wrong_no (by unfold Dat; trivial) rfl rfl (by walk_at "ev")
      · exact wrong_no (by unfold Dat; trivial) rfl rfl (by walk_at "ev")
      · exact wrong_no (by unfold Dat; trivial) rfl rfl (by walk_at "ev")
      · exact wrong_no (by unfold Dat; exact ⟨⟨rfl, rfl, decide_eq_true (List.pairwise_singleton _ _)⟩, fun x hx => by rw [List.mem_singleton.mp hx]; trivial⟩) (by walk_at "ev") rfl (by walk_at "ev")
      · exact wrong_no (by unfold Dat; trivial) rfl rfl (by walk_at "ev"))
  exact ⟨s6, _, _, _, _, a, b, e9, hS6.mono (by omega)⟩
theorem turns_ok (small : Str) (hs : cl small = wsig) (s0 : T) {s : SS} (hS : SOk 0 s) :
    Hs (forF (DL.gNm 3) b3_law (rngT 0 14) [s0, stT s, T.str small, .gone, .gone, .gone, .gone, .gone, .gone, .gone, .gone]) fun o ρ => o = .nx ∧ ∃ (s' : SS) (u3 u4 u5 u6 u7 u8 u9 : T), ρ = [s0, stT s', T.str small, u3, u4, u5, u6, u7, u8, u9, .gone] := by
  refine for_map (fun i : Nat => T.int (0 + (i : Nat))) (List.range 14) (fun i ρ => ∃ (s' : SS) (u3 u4 u5 u6 u7 u8 u9 : T), ρ = [s0, stT s', T.str small, u3, u4, u5, u6, u7, u8, u9, .gone] ∧ SOk (i * 20) s') _ (fun ρ h => ?_) (fun i x ρ hx h => ?_) ⟨s, .gone, .gone, .gone, .gone, .gone, .gone, .gone, rfl, hS⟩
  · obtain ⟨s', u3, u4, u5, u6, u7, u8, u9, h, _⟩ := h
    exact ⟨rfl, s', u3, u4, u5, u6, u7, u8, u9, h⟩
  · obtain ⟨s', u3, u4, u5, u6, u7, u8, u9, rfl, hS⟩ := h
    have hi : i < 14 := by
      have := (List.getElem?_eq_some_iff.mp hx).1
      simpa using this
    obtain ⟨s2, v4, v5, v6, v7, v8, v9, e, hS2⟩ := outer_ok small hs s0 (T.int (0 + (x : Nat))) u4 u5 u6 u7 u8 u9 hS (by omega)
    exact ⟨_, rfl, .nx, _, e, s2, _, v4, v5, v6, v7, v8, v9, rfl, by rw [show (i + 1) * 20 = i * 20 + 20 by omega]; exact hS2⟩
theorem end_lc (s0 s1 s2 s3 s5 s6 s7 s8 s9 s10 : T) : lcF [4] (DL.gNm 4) t4_law e5_law ((["hands", "deed", "program", "state", "end", "from", "on", "go", "claim", "closed", "same", "tells", "never"] : List Str).map T.str) [s0, s1, s2, s3, .gone, s5, s6, s7, s8, s9, s10] = some ([], [s0, s1, s2, s3, .gone, s5, s6, s7, s8, s9, s10]) := by
  have h := lc_filter (ws := [4]) (g := DL.gNm 4) (c := t4_law) (e := e5_law) T.str (fun _ => false) T.str (ρ := [s0, s1, s2, s3, .gone, s5, s6, s7, s8, s9, s10]) ["hands", "deed", "program", "state", "end", "from", "on", "go", "claim", "closed", "same", "tells", "never"] fun z hz => ?_
  · simpa using h
  · have hx : ∀ z ∈ (["hands", "deed", "program", "state", "end", "from", "on", "go", "claim", "closed", "same", "tells", "never"] : List Str), z.length ≤ 16777216 ∧ (∀ c ∈ z.cps.toList, c < 0x110000) ∧ isNameS z = true := by decide +kernel
    obtain ⟨h1, h2, h3⟩ := hx z hz
    refine ⟨[s0, s1, s2, s3, T.str z, s5, s6, s7, s8, s9, s10], [s0, s1, s2, s3, T.str z, s5, s6, s7, s8, s9, s10], by walk_at "ev", ?_, rfl⟩
    unfold t4_law
    walk_at "ev"
    rw [name_str ⟨h1, h2⟩, h3]
    walk_at "ev"
theorem law_main (ns : List Int) (h : ns.length ≤ 63) : ∃ ρ, m_law [.ro (ns.map V.int)] = some (T.bl true, ρ) := by
  obtain ⟨s, e0, hS⟩ := start_ok ns h
  unfold m_law b_law defF
  walk_at "ev"
  rw [e0]
  walk_at "ev"
  rw [cletters_ok]
  walk_at "ev"
  rw [gd_of (by decide +kernel)]
  walk_at "ev"
  obtain ⟨o, ρ, e, rfl, s', u3, u4, u5, u6, u7, u8, u9, rfl⟩ := turns_ok (c_LETTERS ++ c_FIGURES) rfl (.ro (ns.map V.int)) hS
  rw [show (c_FIGURES) = "0123456789" from rfl] at e
  walk_at "gd"
  walk_at "ev"
  rw [show Int.toNat 14 = 14 from rfl, e]
  walk_at "ev"
  rw [cwords_ok]
  walk_at "ev"
  have e2 := end_lc (.ro (ns.map V.int)) (stT s') (T.str (c_LETTERS ++ "0123456789")) u3 u5 u6 u7 u8 u9 .gone
  simp only [List.map_cons, List.map_nil] at e2
  rw [e2]
  walk_at "ev"
  rw [show eqD (.lst true []) (.lst true []) = some true from eqD_strsN (xs := []) true true fun x hx => absurd hx List.not_mem_nil]
  walk_at "ev"
  rw [name_str (tx_of (by decide +kernel) (by decide +kernel)), show isNameS "a2345678" = true by decide +kernel]
  walk_at "ev"
  rw [name_str (tx_of (by decide +kernel) (by decide +kernel)), show isNameS "a23456789" = false by decide +kernel]
  walk_at "ev"
  exact ⟨_, rfl⟩

theorem all_mk {l : PySem.W.OpenLaw} {w : World} {K : PySem.W.Frag} {h : Heap} {mg : Str → Option Value} {fa : Addr} (X : K.In h) (G : h.Ns mainGlobals mg) (hfa : mg "law" = some (.ref fa))
    {f__law_start : Addr} {od__law_start an__law_start : Option Addr} {sl__law_start : Array (Option Value)} {oc__law_start kV__law_start dc__law_start pm__law_start cd__law_start ct__law_start : Value}
    {f__law_cletters : Addr} {od__law_cletters an__law_cletters : Option Addr} {sl__law_cletters : Array (Option Value)} {oc__law_cletters kV__law_cletters dc__law_cletters pm__law_cletters cd__law_cletters ct__law_cletters : Value}
    {f__law_below : Addr} {od__law_below an__law_below : Option Addr} {sl__law_below : Array (Option Value)} {oc__law_below kV__law_below dc__law_below pm__law_below cd__law_below ct__law_below : Value}
    {f__law_pick : Addr} {od__law_pick an__law_pick : Option Addr} {sl__law_pick : Array (Option Value)} {oc__law_pick kV__law_pick dc__law_pick pm__law_pick cd__law_pick ct__law_pick : Value}
    {f_is_word : Addr} {od_is_word an_is_word : Option Addr} {sl_is_word : Array (Option Value)} {oc_is_word kV_is_word dc_is_word pm_is_word cd_is_word ct_is_word : Value}
    {f_is_name : Addr} {od_is_name an_is_name : Option Addr} {sl_is_name : Array (Option Value)} {oc_is_name kV_is_name dc_is_name pm_is_name cd_is_name ct_is_name : Value}
    {f__law_copied : Addr} {od__law_copied an__law_copied : Option Addr} {sl__law_copied : Array (Option Value)} {oc__law_copied kV__law_copied dc__law_copied pm__law_copied cd__law_copied ct__law_copied : Value}
    {f__law_same : Addr} {od__law_same an__law_same : Option Addr} {sl__law_same : Array (Option Value)} {oc__law_same kV__law_same dc__law_same pm__law_same cd__law_same ct__law_same : Value}
    {f__law_cwords : Addr} {od__law_cwords an__law_cwords : Option Addr} {sl__law_cwords : Array (Option Value)} {oc__law_cwords kV__law_cwords dc__law_cwords pm__law_cwords cd__law_cwords ct__law_cwords : Value}
    {f_law : Addr} {od_law an_law : Option Addr} {sl_law : Array (Option Value)} {oc_law kV_law dc_law pm_law cd_law ct_law : Value}
    {tk_FIGURES : Tok}
    {tk_LETTERS : Tok}
    (a__law_start : PySem.W.nsIn K mainGlobals "_law_start" = some (some (.ref f__law_start)))
    (l__law_start : K.lookup f__law_start = some ⟨oc__law_start, od__law_start, .func (PySem.W.fnOf "_law_start" "_law_start" (defArgs s__law_start) (defBody s__law_start) (defScope s__law_start) .none kV__law_start dc__law_start pm__law_start an__law_start cd__law_start ct__law_start), sl__law_start⟩)
    (c__law_start : PySem.W.codeIn K cd__law_start "_law_start" = true)
    (k__law_start : PySem.W.keepIn K (.ref f__law_start) = true)
    (a__law_cletters : PySem.W.nsIn K mainGlobals "_law_cletters" = some (some (.ref f__law_cletters)))
    (l__law_cletters : K.lookup f__law_cletters = some ⟨oc__law_cletters, od__law_cletters, .func (PySem.W.fnOf "_law_cletters" "_law_cletters" (defArgs s__law_cletters) (defBody s__law_cletters) (defScope s__law_cletters) .none kV__law_cletters dc__law_cletters pm__law_cletters an__law_cletters cd__law_cletters ct__law_cletters), sl__law_cletters⟩)
    (c__law_cletters : PySem.W.codeIn K cd__law_cletters "_law_cletters" = true)
    (k__law_cletters : PySem.W.keepIn K (.ref f__law_cletters) = true)
    (a__law_below : PySem.W.nsIn K mainGlobals "_law_below" = some (some (.ref f__law_below)))
    (l__law_below : K.lookup f__law_below = some ⟨oc__law_below, od__law_below, .func (PySem.W.fnOf "_law_below" "_law_below" (defArgs s__law_below) (defBody s__law_below) (defScope s__law_below) .none kV__law_below dc__law_below pm__law_below an__law_below cd__law_below ct__law_below), sl__law_below⟩)
    (c__law_below : PySem.W.codeIn K cd__law_below "_law_below" = true)
    (k__law_below : PySem.W.keepIn K (.ref f__law_below) = true)
    (a__law_pick : PySem.W.nsIn K mainGlobals "_law_pick" = some (some (.ref f__law_pick)))
    (l__law_pick : K.lookup f__law_pick = some ⟨oc__law_pick, od__law_pick, .func (PySem.W.fnOf "_law_pick" "_law_pick" (defArgs s__law_pick) (defBody s__law_pick) (defScope s__law_pick) .none kV__law_pick dc__law_pick pm__law_pick an__law_pick cd__law_pick ct__law_pick), sl__law_pick⟩)
    (c__law_pick : PySem.W.codeIn K cd__law_pick "_law_pick" = true)
    (k__law_pick : PySem.W.keepIn K (.ref f__law_pick) = true)
    (a_is_word : PySem.W.nsIn K mainGlobals "is_word" = some (some (.ref f_is_word)))
    (l_is_word : K.lookup f_is_word = some ⟨oc_is_word, od_is_word, .func (PySem.W.fnOf "is_word" "is_word" (defArgs s_is_word) (defBody s_is_word) (defScope s_is_word) .none kV_is_word dc_is_word pm_is_word an_is_word cd_is_word ct_is_word), sl_is_word⟩)
    (c_is_word : PySem.W.codeIn K cd_is_word "is_word" = true)
    (k_is_word : PySem.W.keepIn K (.ref f_is_word) = true)
    (a_is_name : PySem.W.nsIn K mainGlobals "is_name" = some (some (.ref f_is_name)))
    (l_is_name : K.lookup f_is_name = some ⟨oc_is_name, od_is_name, .func (PySem.W.fnOf "is_name" "is_name" (defArgs s_is_name) (defBody s_is_name) (defScope s_is_name) .none kV_is_name dc_is_name pm_is_name an_is_name cd_is_name ct_is_name), sl_is_name⟩)
    (c_is_name : PySem.W.codeIn K cd_is_name "is_name" = true)
    (k_is_name : PySem.W.keepIn K (.ref f_is_name) = true)
    (a__law_copied : PySem.W.nsIn K mainGlobals "_law_copied" = some (some (.ref f__law_copied)))
    (l__law_copied : K.lookup f__law_copied = some ⟨oc__law_copied, od__law_copied, .func (PySem.W.fnOf "_law_copied" "_law_copied" (defArgs s__law_copied) (defBody s__law_copied) (defScope s__law_copied) .none kV__law_copied dc__law_copied pm__law_copied an__law_copied cd__law_copied ct__law_copied), sl__law_copied⟩)
    (c__law_copied : PySem.W.codeIn K cd__law_copied "_law_copied" = true)
    (k__law_copied : PySem.W.keepIn K (.ref f__law_copied) = true)
    (a__law_same : PySem.W.nsIn K mainGlobals "_law_same" = some (some (.ref f__law_same)))
    (l__law_same : K.lookup f__law_same = some ⟨oc__law_same, od__law_same, .func (PySem.W.fnOf "_law_same" "_law_same" (defArgs s__law_same) (defBody s__law_same) (defScope s__law_same) .none kV__law_same dc__law_same pm__law_same an__law_same cd__law_same ct__law_same), sl__law_same⟩)
    (c__law_same : PySem.W.codeIn K cd__law_same "_law_same" = true)
    (k__law_same : PySem.W.keepIn K (.ref f__law_same) = true)
    (a__law_cwords : PySem.W.nsIn K mainGlobals "_law_cwords" = some (some (.ref f__law_cwords)))
    (l__law_cwords : K.lookup f__law_cwords = some ⟨oc__law_cwords, od__law_cwords, .func (PySem.W.fnOf "_law_cwords" "_law_cwords" (defArgs s__law_cwords) (defBody s__law_cwords) (defScope s__law_cwords) .none kV__law_cwords dc__law_cwords pm__law_cwords an__law_cwords cd__law_cwords ct__law_cwords), sl__law_cwords⟩)
    (c__law_cwords : PySem.W.codeIn K cd__law_cwords "_law_cwords" = true)
    (k__law_cwords : PySem.W.keepIn K (.ref f__law_cwords) = true)
    (a_law : PySem.W.nsIn K mainGlobals "law" = some (some (.ref f_law)))
    (l_law : K.lookup f_law = some ⟨oc_law, od_law, .func (PySem.W.fnOf "law" "law" (defArgs s_law) (defBody s_law) (defScope s_law) .none kV_law dc_law pm_law an_law cd_law ct_law), sl_law⟩)
    (c_law : PySem.W.codeIn K cd_law "law" = true)
    (k_law : PySem.W.keepIn K (.ref f_law) = true)
    (z_all : PySem.W.nsIn K mainGlobals "all" = some none)
    (z_bool : PySem.W.nsIn K mainGlobals "bool" = some none)
    (z_dict : PySem.W.nsIn K mainGlobals "dict" = some none)
    (z_int : PySem.W.nsIn K mainGlobals "int" = some none)
    (z_isinstance : PySem.W.nsIn K mainGlobals "isinstance" = some none)
    (z_len : PySem.W.nsIn K mainGlobals "len" = some none)
    (z_list : PySem.W.nsIn K mainGlobals "list" = some none)
    (z_range : PySem.W.nsIn K mainGlobals "range" = some none)
    (z_str : PySem.W.nsIn K mainGlobals "str" = some none)
    (z_tuple : PySem.W.nsIn K mainGlobals "tuple" = some none)
    (z_zip : PySem.W.nsIn K mainGlobals "zip" = some none)
    (g_FIGURES : PySem.W.nsIn K mainGlobals "FIGURES" = some (some (.str c_FIGURES tk_FIGURES)))
    (g_LETTERS : PySem.W.nsIn K mainGlobals "LETTERS" = some (some (.str c_LETTERS tk_LETTERS)))
    : ∃ fd : FuncData, (∀ (s : Shared) (v : Value), BindsTo s fd ⟨[v], []⟩ [("script", v)]) ∧ ∀ base : Heap, K.In base → base.Ns mainGlobals mg → FnOk l.prog w K mg base CX0 14 fa fd ["script"] (spLaw K) := by
  have e := hfa.symm.trans (PySem.W.mg_of X G a_law)
  cases e
  have F__law_start := fun_mk (st := s__law_start) l__law_start c__law_start k__law_start
  have b__law_start := F__law_start.binds (ps := ["script"]) fun _ _ _ _ _ _ us hl => match us, hl with | [_], _ => rfl
  have F__law_cletters := fun_mk (st := s__law_cletters) l__law_cletters c__law_cletters k__law_cletters
  have b__law_cletters := F__law_cletters.binds (ps := []) fun _ _ _ _ _ _ us hl => match us, hl with | [], _ => rfl
  have F__law_below := fun_mk (st := s__law_below) l__law_below c__law_below k__law_below
  have b__law_below := F__law_below.binds (ps := ["stream", "many"]) fun _ _ _ _ _ _ us hl => match us, hl with | [_, _], _ => rfl
  have F__law_pick := fun_mk (st := s__law_pick) l__law_pick c__law_pick k__law_pick
  have b__law_pick := F__law_pick.binds (ps := ["stream", "some"]) fun _ _ _ _ _ _ us hl => match us, hl with | [_, _], _ => rfl
  have F_is_word := fun_mk (st := s_is_word) l_is_word c_is_word k_is_word
  have b_is_word := F_is_word.binds (ps := ["thing"]) fun _ _ _ _ _ _ us hl => match us, hl with | [_], _ => rfl
  have F_is_name := fun_mk (st := s_is_name) l_is_name c_is_name k_is_name
  have b_is_name := F_is_name.binds (ps := ["thing"]) fun _ _ _ _ _ _ us hl => match us, hl with | [_], _ => rfl
  have F__law_copied := fun_mk (st := s__law_copied) l__law_copied c__law_copied k__law_copied
  have b__law_copied := F__law_copied.binds (ps := ["thing"]) fun _ _ _ _ _ _ us hl => match us, hl with | [_], _ => rfl
  have F__law_same := fun_mk (st := s__law_same) l__law_same c__law_same k__law_same
  have b__law_same := F__law_same.binds (ps := ["found", "due"]) fun _ _ _ _ _ _ us hl => match us, hl with | [_, _], _ => rfl
  have F__law_cwords := fun_mk (st := s__law_cwords) l__law_cwords c__law_cwords k__law_cwords
  have b__law_cwords := F__law_cwords.binds (ps := []) fun _ _ _ _ _ _ us hl => match us, hl with | [], _ => rfl
  have F_law := fun_mk (st := s_law) l_law c_law k_law
  have b_law := F_law.binds (ps := ["script"]) fun _ _ _ _ _ _ us hl => match us, hl with | [_], _ => rfl
  refine ⟨PySem.W.fnOf "law" "law" (defArgs s_law) (defBody s_law) (defScope s_law) .none kV_law dc_law pm_law an_law cd_law ct_law, fun s v => .of_eq rfl, fun base _ _ => ?_⟩
  let L : Lib K mg := {
    z_all := PySem.W.mg_none_of X G z_all
    z_bool := PySem.W.mg_none_of X G z_bool
    z_dict := PySem.W.mg_none_of X G z_dict
    z_int := PySem.W.mg_none_of X G z_int
    z_isinstance := PySem.W.mg_none_of X G z_isinstance
    z_len := PySem.W.mg_none_of X G z_len
    z_list := PySem.W.mg_none_of X G z_list
    z_range := PySem.W.mg_none_of X G z_range
    z_str := PySem.W.mg_none_of X G z_str
    z_tuple := PySem.W.mg_none_of X G z_tuple
    z_zip := PySem.W.mg_none_of X G z_zip
    tk_FIGURES := tk_FIGURES
    g_FIGURES := PySem.W.mg_of X G g_FIGURES
    tk_LETTERS := tk_LETTERS
    g_LETTERS := PySem.W.mg_of X G g_LETTERS
    f__law_start := f__law_start
    d__law_start := PySem.W.fnOf "_law_start" "_law_start" (defArgs s__law_start) (defBody s__law_start) (defScope s__law_start) .none kV__law_start dc__law_start pm__law_start an__law_start cd__law_start ct__law_start
    F__law_start := F__law_start
    b__law_start := b__law_start
    g__law_start := PySem.W.mg_of X G a__law_start
    f__law_cletters := f__law_cletters
    d__law_cletters := PySem.W.fnOf "_law_cletters" "_law_cletters" (defArgs s__law_cletters) (defBody s__law_cletters) (defScope s__law_cletters) .none kV__law_cletters dc__law_cletters pm__law_cletters an__law_cletters cd__law_cletters ct__law_cletters
    F__law_cletters := F__law_cletters
    b__law_cletters := b__law_cletters
    g__law_cletters := PySem.W.mg_of X G a__law_cletters
    f__law_below := f__law_below
    d__law_below := PySem.W.fnOf "_law_below" "_law_below" (defArgs s__law_below) (defBody s__law_below) (defScope s__law_below) .none kV__law_below dc__law_below pm__law_below an__law_below cd__law_below ct__law_below
    F__law_below := F__law_below
    b__law_below := b__law_below
    g__law_below := PySem.W.mg_of X G a__law_below
    f__law_pick := f__law_pick
    d__law_pick := PySem.W.fnOf "_law_pick" "_law_pick" (defArgs s__law_pick) (defBody s__law_pick) (defScope s__law_pick) .none kV__law_pick dc__law_pick pm__law_pick an__law_pick cd__law_pick ct__law_pick
    F__law_pick := F__law_pick
    b__law_pick := b__law_pick
    g__law_pick := PySem.W.mg_of X G a__law_pick
    f_is_word := f_is_word
    d_is_word := PySem.W.fnOf "is_word" "is_word" (defArgs s_is_word) (defBody s_is_word) (defScope s_is_word) .none kV_is_word dc_is_word pm_is_word an_is_word cd_is_word ct_is_word
    F_is_word := F_is_word
    b_is_word := b_is_word
    g_is_word := PySem.W.mg_of X G a_is_word
    f_is_name := f_is_name
    d_is_name := PySem.W.fnOf "is_name" "is_name" (defArgs s_is_name) (defBody s_is_name) (defScope s_is_name) .none kV_is_name dc_is_name pm_is_name an_is_name cd_is_name ct_is_name
    F_is_name := F_is_name
    b_is_name := b_is_name
    g_is_name := PySem.W.mg_of X G a_is_name
    kb_is_name := kbinds1 F_is_name fun _ _ _ _ _ _ _ => ⟨rfl, rfl⟩
    f__law_copied := f__law_copied
    d__law_copied := PySem.W.fnOf "_law_copied" "_law_copied" (defArgs s__law_copied) (defBody s__law_copied) (defScope s__law_copied) .none kV__law_copied dc__law_copied pm__law_copied an__law_copied cd__law_copied ct__law_copied
    F__law_copied := F__law_copied
    b__law_copied := b__law_copied
    g__law_copied := PySem.W.mg_of X G a__law_copied
    f__law_same := f__law_same
    d__law_same := PySem.W.fnOf "_law_same" "_law_same" (defArgs s__law_same) (defBody s__law_same) (defScope s__law_same) .none kV__law_same dc__law_same pm__law_same an__law_same cd__law_same ct__law_same
    F__law_same := F__law_same
    b__law_same := b__law_same
    g__law_same := PySem.W.mg_of X G a__law_same
    f__law_cwords := f__law_cwords
    d__law_cwords := PySem.W.fnOf "_law_cwords" "_law_cwords" (defArgs s__law_cwords) (defBody s__law_cwords) (defScope s__law_cwords) .none kV__law_cwords dc__law_cwords pm__law_cwords an__law_cwords cd__law_cwords ct__law_cwords
    F__law_cwords := F__law_cwords
    b__law_cwords := b__law_cwords
    g__law_cwords := PySem.W.mg_of X G a__law_cwords
    f_law := fa
    d_law := PySem.W.fnOf "law" "law" (defArgs s_law) (defBody s_law) (defScope s_law) .none kV_law dc_law pm_law an_law cd_law ct_law
    F_law := F_law
    b_law := b_law
    g_law := PySem.W.mg_of X G a_law }
  exact law_fn (ok_law L) (law_main)
end LW
open PySem PySem.W PyProof.Rows
set_option maxRecDepth 100000 in
set_option maxHeartbeats 0 in
theorem PySem.Challenge.cw_mingleddeeds_k01_names_told_from_others_holds : PySem.Challenge.rw_mingleddeeds_k01_names_told_from_others.Holds := by
  w_on; o_law; k_head; (case hw => w_witness2)
  k_fill
  refine L2.walk_of (l := PySem.Challenge.rw_mingleddeeds_k01_names_told_from_others) (n := 63) (k := 14) (x := "script") (CX := fun _ => L2.CX0) (sp := fun w => DL.spLaw _) rfl (by decide) rfl ⟨rfl, by decide, by decide⟩ (fun w h Y => PySem.W.kIn_of Y) ?F (fun _ _ a ns hl _ hS => ⟨a, ns, rfl, hS, hl, fun _ => rfl⟩) (fun _ _ _ _ _ h => h)
  case F =>
    intro w mg fa h KX G hmg
    refine' LW.all_mk KX G hmg ?a__law_start ?l__law_start ?c__law_start ?k__law_start ?a__law_cletters ?l__law_cletters ?c__law_cletters ?k__law_cletters ?a__law_below ?l__law_below ?c__law_below ?k__law_below ?a__law_pick ?l__law_pick ?c__law_pick ?k__law_pick ?a_is_word ?l_is_word ?c_is_word ?k_is_word ?a_is_name ?l_is_name ?c_is_name ?k_is_name ?a__law_copied ?l__law_copied ?c__law_copied ?k__law_copied ?a__law_same ?l__law_same ?c__law_same ?k__law_same ?a__law_cwords ?l__law_cwords ?c__law_cwords ?k__law_cwords ?a_law ?l_law ?c_law ?k_law ?z_all ?z_bool ?z_dict ?z_int ?z_isinstance ?z_len ?z_list ?z_range ?z_str ?z_tuple ?z_zip ?g_FIGURES ?g_LETTERS
    (case a__law_start => k_is)
    (case l__law_start => k_is)
    (case c__law_start => k_is)
    (case k__law_start => k_is)
    (case a__law_cletters => k_is)
    (case l__law_cletters => k_is)
    (case c__law_cletters => k_is)
    (case k__law_cletters => k_is)
    (case a__law_below => k_is)
    (case l__law_below => k_is)
    (case c__law_below => k_is)
    (case k__law_below => k_is)
    (case a__law_pick => k_is)
    (case l__law_pick => k_is)
    (case c__law_pick => k_is)
    (case k__law_pick => k_is)
    (case a_is_word => k_is)
    (case l_is_word => k_is)
    (case c_is_word => k_is)
    (case k_is_word => k_is)
    (case a_is_name => k_is)
    (case l_is_name => k_is)
    (case c_is_name => k_is)
    (case k_is_name => k_is)
    (case a__law_copied => k_is)
    (case l__law_copied => k_is)
    (case c__law_copied => k_is)
    (case k__law_copied => k_is)
    (case a__law_same => k_is)
    (case l__law_same => k_is)
    (case c__law_same => k_is)
    (case k__law_same => k_is)
    (case a__law_cwords => k_is)
    (case l__law_cwords => k_is)
    (case c__law_cwords => k_is)
    (case k__law_cwords => k_is)
    (case a_law => k_is)
    (case l_law => k_is)
    (case c_law => k_is)
    (case k_law => k_is)
    (case z_all => k_is)
    (case z_bool => k_is)
    (case z_dict => k_is)
    (case z_int => k_is)
    (case z_isinstance => k_is)
    (case z_len => k_is)
    (case z_list => k_is)
    (case z_range => k_is)
    (case z_str => k_is)
    (case z_tuple => k_is)
    (case z_zip => k_is)
    (case g_FIGURES => k_is)
    (case g_LETTERS => k_is)
