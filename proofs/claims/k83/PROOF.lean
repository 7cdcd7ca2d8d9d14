import PyProof.Rows.All
import Wide.All
import OpenK.AllK
import Wide.FinOn
import HandS.ForMost
import HandS.ForExc
import HandS.Wide
import HandS.IsInst
import HandS.Zip
import HandS.StrMore
import HandS.SortInts
import HandS.Gcd
import HandS.Lambda
import HandS.Conv
import HandS.RaiseMore
import HandS.TupAny
import HandS.TupLe
import HandS.TupMul
import KE.KTupSum
import KE.KRevSl
import KE.GoesEnum
import HandS.HeadEnd
import HandS.Replace
import HandS.Style
import HandS.SortOrd
import HandS.Defaults
import HandS.HeadHook1
import HandS.HeadHook2
import HandS.Head0
import HandS.Head1
import HandS.Head2
import HandS.Head3
import PySem.Challenge.RW_countrealm_k83_whole_steps_of_slopes
set_option Elab.async false
set_option linter.all false
set_option maxRecDepth 100000
set_option maxHeartbeats 0
set_option autoImplicit false
/-! TLa: values as trees over the abstract heap: T, the store of owned objects, what represents what. -/
namespace TL
open PySem PySem.Spec PyProof.Rows L2

/-- a value as a tree; loc: an owned (still changing) object; scr: the script -/
inductive T where
  | non | bl (b : Bool) | int (i : Int) | str (x : Str)
  | tup (ts : List T) | lst (ts : List T) | loc (a : Addr) | scr (ns : List Int) | fn (n : Nat)
/-- an owned object's content -/
inductive Cell where
  | lst (ts : List T)
  | cup
abbrev Store := Addr → Option Cell
def upS (M : Store) (a : Addr) (c : Cell) : Store := fun b => if b = a then some c else M b
def unS (M : Store) (a : Addr) : Store := fun b => if b = a then none else M b
theorem upS_same {M : Store} {a : Addr} {c : Cell} : upS M a c a = some c := by unfold upS; rw [if_pos rfl]
theorem upS_ne {M : Store} {a b : Addr} {c : Cell} (h : b ≠ a) : upS M a c b = M b := by unfold upS; rw [if_neg h]
theorem unS_same {M : Store} {a : Addr} : unS M a a = none := by unfold unS; rw [if_pos rfl]
theorem unS_ne {M : Store} {a b : Addr} (h : b ≠ a) : unS M a b = M b := by unfold unS; rw [if_neg h]
theorem upS_upS {M : Store} {a : Addr} {c d : Cell} : upS (upS M a c) a d = upS M a d := by
  funext b; unfold upS; split <;> rfl
/-- less is owned -/
def Sub (M M' : Store) : Prop := ∀ a c, M a = some c → M' a = some c
theorem Sub.refl (M : Store) : Sub M M := fun _ _ h => h
theorem Sub.trans {M M' M'' : Store} (a : Sub M M') (b : Sub M' M'') : Sub M M'' := fun c x h => b c x (a c x h)
theorem Sub.up {M : Store} {a : Addr} {c : Cell} (h : M a = none) : Sub M (upS M a c) := fun b x e => by
  have : b ≠ a := fun z => by rw [z, h] at e; cases e
  rw [upS_ne this]; exact e
theorem Sub.up2 {M M' : Store} {a : Addr} {c : Cell} (s : Sub M M') (h : M a = none) : Sub M (upS M' a c) := fun b x e => by
  have : b ≠ a := fun z => by rw [z, h] at e; cases e
  rw [upS_ne this]; exact s b x e

/-- the script: an object known to the end, or one of the module's own -/
def ScrAt (K : PySem.W.Frag) (H : Hp) (a : Addr) (ns : List Int) : Prop := (∃ o, H a = some (.frz o (.lst (ns.map V.int)))) ∨
  ∃ (o : Obj) (its : Array Value) (n : Nat), K.lookup a = some o ∧ o.cls = .type "list" ∧ o.dict = none ∧ o.data = .seq its n ∧ its.size ≤ sizeLine ∧ Vals (ns.map V.int) its.toList
theorem ScrAt.sq {K : PySem.W.Frag} {H : Hp} {a : Addr} {ns : List Int} (h : ScrAt K H a ns) : SqL K H a (ns.map V.int) := by
  rcases h with ⟨o, h⟩ | h
  · exact .inl (.inr ⟨o, h⟩)
  · exact .inr h

section
variable (K : PySem.W.Frag) (B : Addr → Prop) (M : Store) (H : Hp)
mutual
def Rep : V → T → Prop
  | v, .non => v = .non
  | v, .bl b => v = .bl b
  | v, .int i => v = .int i
  | v, .str x => v = .str x
  | v, .tup ts => ∃ a vs, v = .ref a ∧ SqT K H a vs ∧ Reps vs ts
  | v, .lst ts => ∃ a vs, v = .ref a ∧ H a = some (.lst vs) ∧ M a = none ∧ ¬ B a ∧ Reps vs ts
  | v, .loc a => v = .ref a
  | v, .scr ns => ∃ a, v = .ref a ∧ ScrAt K H a ns
  | _, .fn _ => False
def Reps : List V → List T → Prop
  | [], [] => True
  | v :: vs, t :: ts => Rep v t ∧ Reps vs ts
  | _, _ => False
end
end

/-- an owned object is as its cell says -/
def CellAt (K : PySem.W.Frag) (B : Addr → Prop) (M : Store) (H : Hp) (a : Addr) : Cell → Prop
  | .lst ts => ∃ vs, H a = some (.lst vs) ∧ Reps K B M H vs ts
  | .cup => ∃ i j : Int, H a = some (.lst [.int i, .int j]) ∧ 0 ≤ j ∧ j < 4294967296
structure Rp (K : PySem.W.Frag) (B : Addr → Prop) (M : Store) (H : Hp) : Prop where
  cell : ∀ a c, M a = some c → CellAt K B M H a c
  busy : ∀ a, B a → M a = none ∧ ∃ vs, H a = some (.lst vs)
/-- what is not owned stays -/
def Kept (M : Store) (H : Hp) (M' : Store) (H' : Hp) : Prop := ∀ a x, H a = some x → M a = none → H' a = some x ∧ M' a = none
/-- .. what is not busy either; it is not busy behind -/
def Mv (B : Addr → Prop) (M : Store) (H : Hp) (B' : Addr → Prop) (M' : Store) (H' : Hp) : Prop := ∀ a x, H a = some x → M a = none → ¬ B a → H' a = some x ∧ M' a = none ∧ ¬ B' a
structure After (K : PySem.W.Frag) (B : Addr → Prop) (M : Store) (H : Hp) (M' : Store) (H' : Hp) : Prop where
  rp : Rp K B M' H'
  kept : Kept M H M' H'

section
variable {K : PySem.W.Frag} {B B' : Addr → Prop} {M M' M'' : Store} {H H' H'' : Hp}
theorem CellAt.lst {a : Addr} {c : Cell} (h : CellAt K B M H a c) : ∃ vs, H a = some (.lst vs) := by
  cases c with
  | lst ts => obtain ⟨vs, e, _⟩ := h; exact ⟨vs, e⟩
  | cup => obtain ⟨i, j, e, _⟩ := h; exact ⟨_, e⟩
theorem Rp.nolist (R : Rp K B M H) {a : Addr} {o : HO} (e : H a = some o) (n : ∀ vs, o ≠ .lst vs) : M a = none ∧ ¬ B a := by
  refine ⟨?_, fun b => ?_⟩
  · cases q : M a with
    | none => rfl
    | some c =>
      obtain ⟨vs, e'⟩ := (R.cell a c q).lst
      rw [e] at e'
      exact absurd (Option.some.inj e') (n vs)
  · obtain ⟨_, vs, e'⟩ := R.busy a b
    rw [e] at e'
    exact absurd (Option.some.inj e') (n vs)
theorem SqT.mv (R : Rp K B M H) (m : Mv B M H B' M' H') {a : Addr} {vs : List V} (h : SqT K H a vs) : SqT K H' a vs := by
  rcases h with (h | ⟨o, h⟩) | h
  · obtain ⟨n, b⟩ := R.nolist h (fun vs z => by cases z)
    exact .inl (.inl (m a _ h n b).1)
  · obtain ⟨n, b⟩ := R.nolist h (fun vs z => by cases z)
    exact .inl (.inr ⟨o, (m a _ h n b).1⟩)
  · exact .inr h
theorem ScrAt.mv (R : Rp K B M H) (m : Mv B M H B' M' H') {a : Addr} {ns : List Int} (h : ScrAt K H a ns) : ScrAt K H' a ns := by
  rcases h with ⟨o, h⟩ | h
  · obtain ⟨n, b⟩ := R.nolist h (fun vs z => by cases z)
    exact .inl ⟨o, (m a _ h n b).1⟩
  · exact .inr h
mutual
theorem Rep.mv (R : Rp K B M H) (m : Mv B M H B' M' H') : ∀ (t : T) (v : V), Rep K B M H v t → Rep K B' M' H' v t
  | .non, v, h => by unfold Rep at h ⊢; exact h
  | .bl _, v, h => by unfold Rep at h ⊢; exact h
  | .int _, v, h => by unfold Rep at h ⊢; exact h
  | .str _, v, h => by unfold Rep at h ⊢; exact h
  | .tup ts, v, h => by
    unfold Rep at h ⊢
    obtain ⟨a, vs, e, s, r⟩ := h
    exact ⟨a, vs, e, SqT.mv R m s, Reps.mv R m ts vs r⟩
  | .lst ts, v, h => by
    unfold Rep at h ⊢
    obtain ⟨a, vs, e, s, n, b, r⟩ := h
    obtain ⟨s', n', b'⟩ := m a _ s n b
    exact ⟨a, vs, e, s', n', b', Reps.mv R m ts vs r⟩
  | .loc _, v, h => by unfold Rep at h ⊢; exact h
  | .scr ns, v, h => by
    unfold Rep at h ⊢
    obtain ⟨a, e, s⟩ := h
    exact ⟨a, e, ScrAt.mv R m s⟩
  | .fn _, v, h => by unfold Rep at h; exact h.elim
theorem Reps.mv (R : Rp K B M H) (m : Mv B M H B' M' H') : ∀ (ts : List T) (vs : List V), Reps K B M H vs ts → Reps K B' M' H' vs ts
  | [], [], _ => by unfold Reps; trivial
  | [], _ :: _, h => by unfold Reps at h; exact h.elim
  | _ :: _, [], h => by unfold Reps at h; exact h.elim
  | t :: ts, v :: vs, h => by
    unfold Reps at h ⊢
    exact ⟨Rep.mv R m t v h.1, Reps.mv R m ts vs h.2⟩
end
theorem Reps.length : ∀ {ts : List T} {vs : List V}, Reps K B M H vs ts → vs.length = ts.length
  | [], [], _ => rfl
  | [], _ :: _, h => by unfold Reps at h; exact h.elim
  | _ :: _, [], h => by unfold Reps at h; exact h.elim
  | t :: ts, v :: vs, h => by
    unfold Reps at h
    rw [List.length_cons, List.length_cons, Reps.length h.2]
theorem Reps.get : ∀ {ts : List T} {vs : List V} {i : Nat} {t : T}, Reps K B M H vs ts → ts[i]? = some t → ∃ v, vs[i]? = some v ∧ Rep K B M H v t
  | [], _, _, _, _, e => by simp at e
  | _ :: _, [], _, _, h, _ => by unfold Reps at h; exact h.elim
  | t :: ts, v :: vs, 0, t', h, e => by
    unfold Reps at h
    simp at e; subst e
    exact ⟨v, rfl, h.1⟩
  | t :: ts, v :: vs, i + 1, t', h, e => by
    unfold Reps at h
    obtain ⟨w, e1, r⟩ := Reps.get (i := i) h.2 (by simpa using e)
    exact ⟨w, by simpa using e1, r⟩
theorem Reps.append : ∀ {ts us : List T} {vs ws : List V}, Reps K B M H vs ts → Reps K B M H ws us → Reps K B M H (vs ++ ws) (ts ++ us)
  | [], _, [], _, _, h => h
  | [], _, _ :: _, _, h, _ => by unfold Reps at h; exact h.elim
  | _ :: _, _, [], _, h, _ => by unfold Reps at h; exact h.elim
  | t :: ts, us, v :: vs, ws, h, h' => by
    unfold Reps at h
    show Reps K B M H (v :: (vs ++ ws)) (t :: (ts ++ us))
    unfold Reps
    exact ⟨h.1, Reps.append h.2 h'⟩
theorem Reps.one {v : V} {t : T} (h : Rep K B M H v t) : Reps K B M H [v] [t] := by
  unfold Reps; exact ⟨h, by unfold Reps; trivial⟩
theorem Reps.cons {v : V} {t : T} {vs : List V} {ts : List T} (h : Rep K B M H v t) (h' : Reps K B M H vs ts) : Reps K B M H (v :: vs) (t :: ts) := by
  unfold Reps; exact ⟨h, h'⟩
theorem Reps.nil : Reps K B M H [] [] := by unfold Reps; trivial
theorem Reps.drop : ∀ {ts : List T} {vs : List V} (n : Nat), Reps K B M H vs ts → Reps K B M H (vs.drop n) (ts.drop n)
  | _, _, 0, h => h
  | [], [], _ + 1, _ => by simpa using Reps.nil
  | [], _ :: _, _ + 1, h => by unfold Reps at h; exact h.elim
  | _ :: _, [], _ + 1, h => by unfold Reps at h; exact h.elim
  | t :: ts, v :: vs, n + 1, h => by
    unfold Reps at h
    exact Reps.drop n h.2
theorem Reps.take : ∀ {ts : List T} {vs : List V} (n : Nat), Reps K B M H vs ts → Reps K B M H (vs.take n) (ts.take n)
  | _, _, 0, h => by simpa using Reps.nil
  | [], [], _ + 1, _ => by simpa using Reps.nil
  | [], _ :: _, _ + 1, h => by unfold Reps at h; exact h.elim
  | _ :: _, [], _ + 1, h => by unfold Reps at h; exact h.elim
  | t :: ts, v :: vs, n + 1, h => by
    unfold Reps at h
    exact Reps.cons h.1 (Reps.take n h.2)
theorem Reps.set {v : V} {t : T} (r : Rep K B M H v t) : ∀ {ts : List T} {vs : List V} (n : Nat), Reps K B M H vs ts → Reps K B M H (vs.set n v) (ts.set n t)
  | [], [], _, _ => by simpa using Reps.nil
  | [], _ :: _, _, h => by unfold Reps at h; exact h.elim
  | _ :: _, [], _, h => by unfold Reps at h; exact h.elim
  | t :: ts, v :: vs, 0, h => by
    unfold Reps at h
    exact Reps.cons r h.2
  | t :: ts, v :: vs, n + 1, h => by
    unfold Reps at h
    exact Reps.cons h.1 (Reps.set r n h.2)
theorem Reps.reverse : ∀ {ts : List T} {vs : List V}, Reps K B M H vs ts → Reps K B M H vs.reverse ts.reverse
  | [], [], _ => by simpa using Reps.nil
  | [], _ :: _, h => by unfold Reps at h; exact h.elim
  | _ :: _, [], h => by unfold Reps at h; exact h.elim
  | t :: ts, v :: vs, h => by
    unfold Reps at h
    rw [List.reverse_cons, List.reverse_cons]
    exact Reps.append (Reps.reverse h.2) (Reps.one h.1)
theorem Reps.ints : ∀ {ns : List Int} {vs : List V}, Reps K B M H vs (ns.map T.int) → vs = ns.map V.int
  | [], [], _ => rfl
  | [], _ :: _, h => by simp only [List.map_nil] at h; unfold Reps at h; exact h.elim
  | _ :: _, [], h => by simp only [List.map_cons] at h; unfold Reps at h; exact h.elim
  | n :: ns, v :: vs, h => by
    simp only [List.map_cons] at h
    unfold Reps at h
    obtain ⟨h1, h2⟩ := h
    unfold Rep at h1
    rw [h1, Reps.ints h2]; rfl
theorem Reps.of_ints : ∀ {ns : List Int}, Reps K B M H (ns.map V.int) (ns.map T.int)
  | [] => Reps.nil
  | n :: ns => by
    simp only [List.map_cons]
    exact Reps.cons (by unfold Rep; rfl) Reps.of_ints
theorem Reps.bools : ∀ {bs : List Bool} {vs : List V}, Reps K B M H vs (bs.map T.bl) → vs = bs.map V.bl
  | [], [], _ => rfl
  | [], _ :: _, h => by simp only [List.map_nil] at h; unfold Reps at h; exact h.elim
  | _ :: _, [], h => by simp only [List.map_cons] at h; unfold Reps at h; exact h.elim
  | n :: ns, v :: vs, h => by
    simp only [List.map_cons] at h
    unfold Reps at h
    obtain ⟨h1, h2⟩ := h
    unfold Rep at h1
    rw [h1, Reps.bools h2]; rfl
theorem Reps.strs : ∀ {xs : List Str} {vs : List V}, Reps K B M H vs (xs.map T.str) → vs = xs.map V.str
  | [], [], _ => rfl
  | [], _ :: _, h => by simp only [List.map_nil] at h; unfold Reps at h; exact h.elim
  | _ :: _, [], h => by simp only [List.map_cons] at h; unfold Reps at h; exact h.elim
  | n :: ns, v :: vs, h => by
    simp only [List.map_cons] at h
    unfold Reps at h
    obtain ⟨h1, h2⟩ := h
    unfold Rep at h1
    rw [h1, Reps.strs h2]; rfl

/-! ### steps -/
theorem Kept.refl : Kept M H M H := fun _ _ h n => ⟨h, n⟩
theorem Kept.trans (a : Kept M H M' H') (b : Kept M' H' M'' H'') : Kept M H M'' H'' := fun c x h n => let ⟨h1, n1⟩ := a c x h n; b c x h1 n1
theorem Kept.mv (k : Kept M H M' H') : Mv B M H B M' H' := fun a x h n b => ⟨(k a x h n).1, (k a x h n).2, b⟩
theorem After.refl (R : Rp K B M H) : After K B M H M H := ⟨R, Kept.refl⟩
theorem After.trans (a : After K B M H M' H') (b : After K B M' H' M'' H'') : After K B M H M'' H'' := ⟨b.rp, a.kept.trans b.kept⟩
theorem Rep.after (R : Rp K B M H) (a : After K B M H M' H') {v : V} {t : T} (h : Rep K B M H v t) : Rep K B M' H' v t := Rep.mv R a.kept.mv t v h
theorem Reps.after (R : Rp K B M H) (a : After K B M H M' H') {vs : List V} {ts : List T} (h : Reps K B M H vs ts) : Reps K B M' H' vs ts := Reps.mv R a.kept.mv ts vs h
theorem CellAt.mv (R : Rp K B M H) (m : Mv B M H B' M' H') {a : Addr} {c : Cell} (h : CellAt K B M H a c) (e : H' a = H a) : CellAt K B' M' H' a c := by
  cases c with
  | lst ts => obtain ⟨vs, q, r⟩ := h; exact ⟨vs, e.trans q, Reps.mv R m ts vs r⟩
  | cup => obtain ⟨i, j, q, r⟩ := h; exact ⟨i, j, e.trans q, r⟩
/-- a new object, not owned -/
theorem After.laid (R : Rp K B M H) {p : Addr} {o : HO} (hp : H p = none) : After K B M H M (upd H p o) := by
  have k : Kept M H M (upd H p o) := fun a x h n => ⟨by rw [upd_ne (ne_of_none h hp)]; exact h, n⟩
  refine ⟨⟨fun a c h => ?_, fun a b => ?_⟩, k⟩
  · have q := R.cell a c h
    obtain ⟨vs, e⟩ := q.lst
    exact q.mv R k.mv (by rw [upd_ne (ne_of_none e hp)])
  · obtain ⟨n, vs, e⟩ := R.busy a b
    exact ⟨n, vs, by rw [upd_ne (ne_of_none e hp)]; exact e⟩
theorem Rp.new (R : Rp K B M H) {p : Addr} (hp : H p = none) : M p = none ∧ ¬ B p := by
  refine ⟨?_, fun b => ?_⟩
  · cases q : M p with
    | none => rfl
    | some c =>
      obtain ⟨vs, e⟩ := (R.cell p c q).lst
      rw [hp] at e; cases e
  · obtain ⟨_, vs, e⟩ := R.busy p b
    rw [hp] at e; cases e
/-- an owned object is written: H' differs at p alone, M' has the cell c there -/
theorem After.write (R : Rp K B M H) {p : Addr} {o : HO} {c : Cell} (own : M p ≠ none) (new : CellAt K B (upS M p c) (upd H p o) p c) : After K B M H (upS M p c) (upd H p o) := by
  have k : Kept M H (upS M p c) (upd H p o) := fun a x h n => by
    have hne : a ≠ p := fun z => own (z ▸ n)
    rw [upd_ne hne, upS_ne hne]; exact ⟨h, n⟩
  refine ⟨⟨fun a d h => ?_, fun a b => ?_⟩, k⟩
  · by_cases e : a = p
    · subst e
      rw [upS_same] at h
      obtain rfl := Option.some.inj h
      exact new
    · rw [upS_ne e] at h
      exact (R.cell a d h).mv R k.mv (upd_ne e)
  · obtain ⟨n, vs, e⟩ := R.busy a b
    exact ⟨(k a _ e n).2, vs, (k a _ e n).1⟩
/-- a new object, owned -/
theorem After.laidS (R : Rp K B M H) {p : Addr} {o : HO} {c : Cell} (hp : H p = none) (new : CellAt K B (upS M p c) (upd H p o) p c) : After K B M H (upS M p c) (upd H p o) := by
  have k : Kept M H (upS M p c) (upd H p o) := fun a x h n => by
    have hne : a ≠ p := ne_of_none h hp
    rw [upd_ne hne, upS_ne hne]; exact ⟨h, n⟩
  refine ⟨⟨fun a d h => ?_, fun a b => ?_⟩, k⟩
  · by_cases e : a = p
    · subst e
      rw [upS_same] at h
      obtain rfl := Option.some.inj h
      exact new
    · rw [upS_ne e] at h
      exact (R.cell a d h).mv R k.mv (upd_ne e)
  · obtain ⟨n, vs, e⟩ := R.busy a b
    exact ⟨(k a _ e n).2, vs, (k a _ e n).1⟩
theorem new_mv (R : Rp K B M H) {p : Addr} {o : HO} {c : Cell} (hp : H p = none) : Mv B M H B (upS M p c) (upd H p o) := fun a x h n b => by
  have hne : a ≠ p := ne_of_none h hp
  rw [upd_ne hne, upS_ne hne]; exact ⟨h, n, b⟩
theorem write_mv {p : Addr} {o : HO} {c : Cell} (own : M p ≠ none) : Mv B M H B (upS M p c) (upd H p o) := fun a x h n b => by
  have hne : a ≠ p := fun z => own (z ▸ n)
  rw [upd_ne hne, upS_ne hne]; exact ⟨h, n, b⟩
/-- fewer are owned -/
theorem After.less (R : Rp K B M H) (s : Sub M' M) : After K B M H M' H := by
  have k : Kept M H M' H := fun a x h n => ⟨h, by
    cases q : M' a with
    | none => rfl
    | some c => have := s a c q; rw [n] at this; cases this⟩
  refine ⟨⟨fun a c h => (R.cell a c (s a c h)).mv R k.mv rfl, fun a b => ?_⟩, k⟩
  obtain ⟨n, vs, e⟩ := R.busy a b
  exact ⟨(k a _ e n).2, vs, e⟩
theorem Sub.un {a : Addr} : Sub (unS M a) M := fun b c h => by
  by_cases e : b = a
  · subst e; rw [unS_same] at h; cases h
  · rw [unS_ne e] at h; exact h
/-- an owned list is owned no longer: what it holds is a value -/
theorem Rep.freeze (R : Rp K B M H) {a : Addr} {ts : List T} (h : M a = some (.lst ts)) : Rep K B (unS M a) H (.ref a) (.lst ts) := by
  obtain ⟨vs, e, r⟩ := R.cell a _ h
  have af := After.less R (Sub.un (M := M) (a := a))
  unfold Rep
  refine ⟨a, vs, rfl, e, unS_same, fun b => ?_, r.after R af⟩
  obtain ⟨n, _⟩ := R.busy a b
  rw [h] at n; cases n
end
end TL

/-! TLb: readings over trees, and their lifts to readings over the abstract heap. -/
namespace TL
open PySem PySem.Spec PyProof.Rows L2

abbrev St2 := List (Option T)
/-- an exception over trees: the class's number -/
abbrev X2 := Nat
abbrev K2 := T → Store → Prop
abbrev EK := X2 → Store → Prop
abbrev TE2 := St2 → Store → K2 → EK → Prop
abbrev TT2 := St2 → Store → (Bool → Store → Prop) → EK → Prop
abbrev TA2 := St2 → Store → (List T → Store → Prop) → EK → Prop
structure Ends2 where
  nx : St2 → Store → Prop
  rt : K2
  bk : St2 → Store → Prop := fun _ _ => False
  ct : St2 → Store → Prop := fun _ _ => False
  ex : X2 → St2 → Store → Prop := fun _ _ _ => False
abbrev TS2 := Ends2 → St2 → Store → Prop
/-- both ways of a test -/
def Br (b : Bool) (t e : Prop) : Prop := (b = true → t) ∧ (b = false → e)
theorem Br.tt {t e : Prop} (h : t) : Br true t e := ⟨fun _ => h, fun z => nomatch z⟩
theorem Br.ff {t e : Prop} (h : e) : Br false t e := ⟨fun z => (nomatch z), fun _ => h⟩
theorem Br.of {b : Bool} {t e : Prop} (h : Br b t e) : if b = true then t else e := by
  cases b with
  | true => exact h.1 rfl
  | false => exact h.2 rfl
/-- what an exception is: its class's value -/
structure XRep (cls : Nat → Value) (x : X2) (c : Value) (d : Option Addr) : Prop where
  c : c = cls x
  d : d = none

section
variable (K : PySem.W.Frag) (B : Addr → Prop) (M : Store) (H : Hp)
structure EnvOk (ρ : St2) (σ : L2.St) : Prop where
  len : ρ.length = σ.length
  at_ : ∀ (i : Nat) (t : T), ρ[i]? = some (some t) → ∃ v, σ[i]? = some (some v) ∧ Rep K B M H v t
end
structure Now (K : PySem.W.Frag) (B : Addr → Prop) (ρ : St2) (M : Store) (σ : L2.St) (H : Hp) : Prop where
  rp : Rp K B M H
  env : EnvOk K B M H ρ σ
section
variable {K : PySem.W.Frag} {B B' : Addr → Prop} {M M' : Store} {H H' : Hp} {ρ ρ' : St2} {σ σ' : L2.St}
theorem EnvOk.mv (R : Rp K B M H) (m : Mv B M H B' M' H') (e : EnvOk K B M H ρ σ) : EnvOk K B' M' H' ρ σ := ⟨e.len, fun i t h => by
  obtain ⟨v, h1, r⟩ := e.at_ i t h
  exact ⟨v, h1, Rep.mv R m t v r⟩⟩
theorem Now.after (n : Now K B ρ M σ H) (a : After K B M H M' H') : Now K B ρ M' σ H' := ⟨a.rp, n.env.mv n.rp a.kept.mv⟩
theorem EnvOk.set (e : EnvOk K B M H ρ σ) {v : V} {t : T} (r : Rep K B M H v t) (i : Nat) : EnvOk K B M H (ρ.set i (some t)) (σ.set i (some v)) := by
  refine ⟨by simp [e.len], fun j u h => ?_⟩
  by_cases hj : i = j
  · subst hj
    by_cases hl : i < ρ.length
    · rw [List.getElem?_set_self hl] at h
      obtain rfl := Option.some.inj (Option.some.inj h)
      exact ⟨v, List.getElem?_set_self (by rw [← e.len]; exact hl), r⟩
    · rw [List.getElem?_eq_none (by simpa using hl)] at h; cases h
  · rw [List.getElem?_set_ne hj] at h ⊢
    exact e.at_ j u h
theorem EnvOk.forget (e : EnvOk K B M H ρ σ) (i : Nat) : EnvOk K B M H (ρ.set i none) (σ.set i none) := by
  refine ⟨by simp [e.len], fun j u h => ?_⟩
  by_cases hj : i = j
  · subst hj
    by_cases hl : i < ρ.length
    · rw [List.getElem?_set_self hl] at h; cases h
    · rw [List.getElem?_eq_none (by simpa using hl)] at h; cases h
  · rw [List.getElem?_set_ne hj] at h ⊢
    exact e.at_ j u h
end

/-! ### the lifts -/
section
variable (cls : Nat → Value) (K : PySem.W.Frag) (W : WX)
/-- how exceptions go on -/
def ExOk (B : Addr → Prop) (M : Store) (H : Hp) (σ : L2.St) (E : EK) : Prop := ∀ x M2 c d H2, E x M2 → After K B M H M2 H2 → XRep cls x c d → W c d σ H2
def lE (f : TE2) : TE := fun σ H Q => ∃ B ρ M Q2 E, Now K B ρ M σ H ∧ f ρ M Q2 E ∧ (∀ t M2 v H2, Q2 t M2 → After K B M H M2 H2 → Rep K B M2 H2 v t → Q v H2) ∧ ExOk cls K W B M H σ E
def lT (f : TT2) : TT := fun σ H Q => ∃ B ρ M Q2 E, Now K B ρ M σ H ∧ f ρ M Q2 E ∧ (∀ b M2 H2, Q2 b M2 → After K B M H M2 H2 → Q b H2) ∧ ExOk cls K W B M H σ E
def lA (f : TA2) : TA := fun σ H Q => ∃ B ρ M Q2 E, Now K B ρ M σ H ∧ f ρ M Q2 E ∧ (∀ ts M2 vs H2, Q2 ts M2 → After K B M H M2 H2 → Reps K B M2 H2 vs ts → Q vs H2) ∧ ExOk cls K W B M H σ E
structure EndsOk (D2 : Ends2) (D : Ends) (B : Addr → Prop) (M : Store) (H : Hp) : Prop where
  nx : ∀ ρ' M' σ' H', D2.nx ρ' M' → After K B M H M' H' → EnvOk K B M' H' ρ' σ' → D.nx σ' H'
  rt : ∀ t M' v H', D2.rt t M' → After K B M H M' H' → Rep K B M' H' v t → D.rt v H'
  bk : ∀ ρ' M' σ' H', D2.bk ρ' M' → After K B M H M' H' → EnvOk K B M' H' ρ' σ' → D.bk σ' H'
  ct : ∀ ρ' M' σ' H', D2.ct ρ' M' → After K B M H M' H' → EnvOk K B M' H' ρ' σ' → D.ct σ' H'
  ex : ∀ x ρ' M' c d σ' H', D2.ex x ρ' M' → After K B M H M' H' → EnvOk K B M' H' ρ' σ' → XRep cls x c d → W c d σ' H'
def lS (f : TS2) : TS := fun D σ H => ∃ B ρ M D2, Now K B ρ M σ H ∧ f D2 ρ M ∧ EndsOk cls K W D2 D B M H
end
section
variable {cls : Nat → Value} {K : PySem.W.Frag} {W : WX} {B : Addr → Prop} {M M' : Store} {H H' : Hp} {ρ : St2} {σ : L2.St} {D2 : Ends2} {D : Ends} {E : EK}
theorem ExOk.after (e : ExOk cls K W B M H σ E) (a : After K B M H M' H') : ExOk cls K W B M' H' σ E := fun x M2 c d H2 h af xr => e x M2 c d H2 h (a.trans af) xr
theorem EndsOk.after (e : EndsOk cls K W D2 D B M H) (a : After K B M H M' H') : EndsOk cls K W D2 D B M' H' :=
  ⟨fun ρ' M2 σ' H2 h af => e.nx ρ' M2 σ' H2 h (a.trans af), fun t M2 v H2 h af => e.rt t M2 v H2 h (a.trans af), fun ρ' M2 σ' H2 h af => e.bk ρ' M2 σ' H2 h (a.trans af),
    fun ρ' M2 σ' H2 h af => e.ct ρ' M2 σ' H2 h (a.trans af), fun x ρ' M2 c d σ' H2 h af => e.ex x ρ' M2 c d σ' H2 h (a.trans af)⟩
/-- an expression's exceptions within a statement -/
theorem EndsOk.exOk (e : EndsOk cls K W D2 D B M H) (n : Now K B ρ M σ H) : ExOk cls K W B M H σ (fun x M2 => D2.ex x ρ M2) := fun x M2 c d H2 h af xr => e.ex x ρ M2 c d σ H2 h af (n.after af).env xr
end

/-! ### rules weakened -/
theorem _root_.L2.PE.to {X : Cx} {e : Expr} {t t' : TE} (h : PE X e t) (w : ∀ σ H Q, t' σ H Q → t σ H Q) : PE X e t' := ⟨fun pins s σ H Q I q => h.run pins s σ H Q I (w σ H Q q)⟩
theorem _root_.L2.PT.to {X : Cx} {e : Expr} {t t' : TT} (h : PT X e t) (w : ∀ σ H Q, t' σ H Q → t σ H Q) : PT X e t' := ⟨fun pins s σ H Q I q => h.run pins s σ H Q I (w σ H Q q)⟩
theorem _root_.L2.PA.to {X : Cx} {es : List Expr} {t t' : TA} (h : PA X es t) (w : ∀ σ H Q, t' σ H Q → t σ H Q) : PA X es t' := ⟨fun pos pins s σ H Q I q => h.run pos pins s σ H Q I (w σ H Q q)⟩
theorem _root_.L2.PS.to {X : Cx} {st : Stmt} {t t' : TS} (h : PS X st t) (w : ∀ D σ H, t' D σ H → t D σ H) : PS X st t' := ⟨fun pins s σ H D I q => h.run pins s σ H D I (w D σ H q)⟩
theorem _root_.L2.PSs.to {X : Cx} {st : List Stmt} {t t' : TS} (h : PSs X st t) (w : ∀ D σ H, t' D σ H → t D σ H) : PSs X st t' := ⟨fun pins s σ H D I q => h.run pins s σ H D I (w D σ H q)⟩

/-! ### operators by values -/
abbrev Op2 := T → T → Store → K2 → Prop
/-- a two-place operator by trees, lifted -/
def lO (K : PySem.W.Frag) (r : Op2) : R2 := fun x y H Q => ∃ B M Q2 a b, Rp K B M H ∧ Rep K B M H x a ∧ Rep K B M H y b ∧ r a b M Q2 ∧ ∀ t M2 v H2, Q2 t M2 → After K B M H M2 H2 → Rep K B M2 H2 v t → Q v H2
def tO (r : Op2) (fa fb : TE2) : TE2 := fun ρ M Q E => fa ρ M (fun x M1 => fb ρ M1 (fun y M2 => r x y M2 Q) E) E
abbrev Op1 := T → Store → K2 → Prop
def lO1 (K : PySem.W.Frag) (r : Op1) : V → Hp → VK → Prop := fun x H Q => ∃ B M Q2 a, Rp K B M H ∧ Rep K B M H x a ∧ r a M Q2 ∧ ∀ t M2 v H2, Q2 t M2 → After K B M H M2 H2 → Rep K B M2 H2 v t → Q v H2
def tO1 (r : Op1) (fa : TE2) : TE2 := fun ρ M Q E => fa ρ M (fun x M1 => r x M1 Q) E
abbrev OpN := List T → Store → K2 → Prop
def lON (K : PySem.W.Frag) (r : OpN) : List V → Hp → VK → Prop := fun xs H Q => ∃ B M Q2 as, Rp K B M H ∧ Reps K B M H xs as ∧ r as M Q2 ∧ ∀ t M2 v H2, Q2 t M2 → After K B M H M2 H2 → Rep K B M2 H2 v t → Q v H2
def tON (r : OpN) (fa : TA2) : TE2 := fun ρ M Q E => fa ρ M (fun xs M1 => r xs M1 Q) E
abbrev OpM := T → List T → Store → K2 → Prop
def lOM (K : PySem.W.Frag) (r : OpM) : V → List V → Hp → VK → Prop := fun x xs H Q => ∃ B M Q2 a as, Rp K B M H ∧ Rep K B M H x a ∧ Reps K B M H xs as ∧ r a as M Q2 ∧ ∀ t M2 v H2, Q2 t M2 → After K B M H M2 H2 → Rep K B M2 H2 v t → Q v H2
section
variable {X : Cx} {cls : Nat → Value} {W : WX} {a b c : Expr} {es : List Expr} {fa fb fc : TE2} {pos : Pos}
theorem se_op {op : Operator} {r : Op2} (ho : OpR X (binaryOp op) (lO X.K r)) (ha : PE X a (lE cls X.K W fa)) (hb : PE X b (lE cls X.K W fb)) : PE X (.BinOp a op b pos) (lE cls X.K W (tO r fa fb)) := by
  refine (pe_op ho ha hb).to fun σ H Q ⟨B, ρ, M, Q2, E, n, f, cQ, cE⟩ => ?_
  refine ⟨B, ρ, M, _, E, n, f, fun x M1 v H1 hq af rx => ⟨B, ρ, M1, _, E, n.after af, hq, fun y M2 u H2 hq2 af2 ry => ?_, cE.after af⟩, cE⟩
  exact ⟨B, M2, Q2, x, y, af2.rp, rx.after af.rp af2, ry, hq2, fun t M3 w H3 q af3 r3 => cQ t M3 w H3 q (af.trans (af2.trans af3)) r3⟩
theorem se_cmp {op : CmpOp} {r : Op2} (ho : OpR X (compareOp op) (lO X.K r)) (ha : PE X a (lE cls X.K W fa)) (hb : PE X b (lE cls X.K W fb)) (hm : behindInMarks op b = false) : PE X (.Compare a [op] [b] pos) (lE cls X.K W (tO r fa fb)) := by
  refine (pe_cmpR ho ha hb hm).to fun σ H Q ⟨B, ρ, M, Q2, E, n, f, cQ, cE⟩ => ?_
  refine ⟨B, ρ, M, _, E, n, f, fun x M1 v H1 hq af rx => ⟨B, ρ, M1, _, E, n.after af, hq, fun y M2 u H2 hq2 af2 ry => ?_, cE.after af⟩, cE⟩
  exact ⟨B, M2, Q2, x, y, af2.rp, rx.after af.rp af2, ry, hq2, fun t M3 w H3 q af3 r3 => cQ t M3 w H3 q (af.trans (af2.trans af3)) r3⟩
/-- a value as a test: it is a bool -/
def tB2 (f : TE2) : TT2 := fun ρ M Q E => f ρ M (fun t M1 => match t with | .bl b => Q b M1 | _ => False) E
theorem rep_bl {K : PySem.W.Frag} {B : Addr → Prop} {M : Store} {H : Hp} {v : V} {b : Bool} (h : Rep K B M H v (.bl b)) : v = .bl b := by unfold Rep at h; exact h
theorem rep_int {K : PySem.W.Frag} {B : Addr → Prop} {M : Store} {H : Hp} {v : V} {b : Int} (h : Rep K B M H v (.int b)) : v = .int b := by unfold Rep at h; exact h
theorem rep_str {K : PySem.W.Frag} {B : Addr → Prop} {M : Store} {H : Hp} {v : V} {b : Str} (h : Rep K B M H v (.str b)) : v = .str b := by unfold Rep at h; exact h
theorem rep_non {K : PySem.W.Frag} {B : Addr → Prop} {M : Store} {H : Hp} {v : V} (h : Rep K B M H v .non) : v = .non := by unfold Rep at h; exact h
theorem st_cmp {op : CmpOp} {r : Op2} (ho : OpR X (compareOp op) (lO X.K r)) (ha : PE X a (lE cls X.K W fa)) (hb : PE X b (lE cls X.K W fb)) (hm : behindInMarks op b = false) : PT X (.Compare a [op] [b] pos) (lT cls X.K W (tB2 (tO r fa fb))) := by
  refine (pt_cmpR ho ha hb hm).to fun σ H Q ⟨B, ρ, M, Q2, E, n, f, cQ, cE⟩ => ?_
  refine ⟨B, ρ, M, _, E, n, f, fun x M1 v H1 hq af rx => ⟨B, ρ, M1, _, E, n.after af, hq, fun y M2 u H2 hq2 af2 ry => ?_, cE.after af⟩, cE⟩
  refine ⟨B, M2, _, x, y, af2.rp, rx.after af.rp af2, ry, hq2, fun t M3 w H3 q af3 r3 => ?_⟩
  cases t with
  | bl k => exact ⟨k, rep_bl r3, cQ k M3 H3 q (af.trans (af2.trans af3))⟩
  | _ => exact q.elim
/-- two comparisons in a row, the middle once -/
def tCh (r r' : Op2) (fa fb fc : TE2) : TE2 := fun ρ M Q E => fa ρ M (fun x M1 => fb ρ M1 (fun y M2 => r x y M2 fun z M3 => match z with
  | .bl k => Br k (fc ρ M3 (fun u M4 => r' y u M4 Q) E) (Q (.bl false) M3)
  | _ => False) E) E
theorem ch_read {r r' : Op2} {σ : L2.St} {H : Hp} {Q : VK} {B : Addr → Prop} {ρ : St2} {M : Store} {Q2 : K2} {E : EK} (n : Now X.K B ρ M σ H) (f : tCh r r' fa fb fc ρ M Q2 E)
    (cQ : ∀ t M2 v H2, Q2 t M2 → After X.K B M H M2 H2 → Rep X.K B M2 H2 v t → Q v H2) (cE : ExOk cls X.K W B M H σ E) : tChain (lO X.K r) (lO X.K r') (lE cls X.K W fa) (lE cls X.K W fb) (lE cls X.K W fc) σ H Q := by
  refine ⟨B, ρ, M, _, E, n, f, fun x M1 v H1 hq af rx => ⟨B, ρ, M1, _, E, n.after af, hq, fun y M2 u H2 hq2 af2 ry => ?_, cE.after af⟩, cE⟩
  refine ⟨B, M2, _, x, y, af2.rp, rx.after af.rp af2, ry, hq2, fun t M3 w H3 q af3 r3 => ?_⟩
  cases t with
  | bl k =>
    refine ⟨k, rep_bl r3, ?_⟩
    have a3 := af.trans (af2.trans af3)
    have q' : Br k (fc ρ M3 (fun u M4 => r' y u M4 Q2) E) (Q2 (.bl false) M3) := q
    cases k with
    | true =>
      rw [if_pos rfl]
      refine ⟨B, ρ, M3, _, E, n.after a3, q'.1 rfl, fun z M4 v4 H4 hq4 af4 r4 => ?_, cE.after a3⟩
      exact ⟨B, M4, Q2, y, z, af4.rp, (ry.after af2.rp af3).after af3.rp af4, r4, hq4, fun t M5 w5 H5 q5 af5 r5 => cQ t M5 w5 H5 q5 (a3.trans (af4.trans af5)) r5⟩
    | false =>
      rw [if_neg Bool.false_ne_true]
      exact cQ _ M3 _ H3 (q'.2 rfl) a3 (by unfold Rep; rfl)
  | _ => exact q.elim
theorem se_ch {op op' : CmpOp} {r r' : Op2} (ho : OpR X (compareOp op) (lO X.K r)) (ho' : OpR X (compareOp op') (lO X.K r')) (ha : PE X a (lE cls X.K W fa)) (hb : PE X b (lE cls X.K W fb)) (hc : PE X c (lE cls X.K W fc))
    (h1 : behindInMarks op b = false) (h2 : behindInMarks op' c = false) : PE X (.Compare a [op, op'] [b, c] pos) (lE cls X.K W (tCh r r' fa fb fc)) := by
  refine PE.to (t := tChain (lO X.K r) (lO X.K r') (lE cls X.K W fa) (lE cls X.K W fb) (lE cls X.K W fc)) ?_ fun σ H Q ⟨B, ρ, M, Q2, E, n, f, cQ, cE⟩ => ch_read n f cQ cE
  exact pe_chain ho ho' ha hb hc h2
theorem st_ch {op op' : CmpOp} {r r' : Op2} (ho : OpR X (compareOp op) (lO X.K r)) (ho' : OpR X (compareOp op') (lO X.K r')) (ha : PE X a (lE cls X.K W fa)) (hb : PE X b (lE cls X.K W fb)) (hc : PE X c (lE cls X.K W fc))
    (h1 : behindInMarks op b = false) (h2 : behindInMarks op' c = false) : PT X (.Compare a [op, op'] [b, c] pos) (lT cls X.K W (tB2 (tCh r r' fa fb fc))) := by
  refine PT.to (t := tTest (tChain (lO X.K r) (lO X.K r') (lE cls X.K W fa) (lE cls X.K W fb) (lE cls X.K W fc))) ?_ fun σ H Q ⟨B, ρ, M, Q2, E, n, f, cQ, cE⟩ => ?_
  · exact pt_chain ho ho' ha hb hc h2
  · refine ch_read n f (fun t M2 v H2 q af r => ?_) cE
    cases t with
    | bl k => exact ⟨k, rep_bl r, cQ k M2 H2 q af⟩
    | _ => exact q.elim
theorem se_un {op : UnaryOp} {r : Op1} (ho : UnR X (unaryOp op) (lO1 X.K r)) (ha : PE X a (lE cls X.K W fa)) : PE X (.UnaryOp op a pos) (lE cls X.K W (tO1 r fa)) := by
  refine (pe_un ho ha).to fun σ H Q ⟨B, ρ, M, Q2, E, n, f, cQ, cE⟩ => ?_
  refine ⟨B, ρ, M, _, E, n, f, fun x M1 v H1 hq af rx => ?_, cE⟩
  exact ⟨B, M1, Q2, x, af.rp, rx, hq, fun t M3 w H3 q af3 r3 => cQ t M3 w H3 q (af.trans af3) r3⟩
theorem se_ix {r : Op2} (hr : IxR X (lO X.K r)) (ha : PE X a (lE cls X.K W fa)) (hb : PE X b (lE cls X.K W fb)) (hs : PlainIx b) : PE X (.Subscript a b pos) (lE cls X.K W (tO r fa fb)) := by
  refine (pe_ix hr ha hb hs).to fun σ H Q ⟨B, ρ, M, Q2, E, n, f, cQ, cE⟩ => ?_
  refine ⟨B, ρ, M, _, E, n, f, fun x M1 v H1 hq af rx => ⟨B, ρ, M1, _, E, n.after af, hq, fun y M2 u H2 hq2 af2 ry => ?_, cE.after af⟩, cE⟩
  exact ⟨B, M2, Q2, x, y, af2.rp, rx.after af.rp af2, ry, hq2, fun t M3 w H3 q af3 r3 => cQ t M3 w H3 q (af.trans (af2.trans af3)) r3⟩

/-! ### arguments -/
def tA0 : TA2 := fun _ M Q _ => Q [] M
def tA1 (fa : TE2) (fs : TA2) : TA2 := fun ρ M Q E => fa ρ M (fun x M1 => fs ρ M1 (fun xs M2 => Q (x :: xs) M2) E) E
theorem sa_nil : PA X [] (lA cls X.K W tA0) := PA.to pa_nil fun σ H Q ⟨B, ρ, M, Q2, E, n, f, cQ, cE⟩ => cQ [] M [] H f (After.refl n.rp) Reps.nil
theorem sa_cons {fs : TA2} (ha : PE X a (lE cls X.K W fa)) (hs : PA X es (lA cls X.K W fs)) (hst : starEach (a :: es) X.env = (false, eval a X.env) :: starEach es X.env) : PA X (a :: es) (lA cls X.K W (tA1 fa fs)) := by
  refine (pa_cons ha hs hst).to fun σ H Q ⟨B, ρ, M, Q2, E, n, f, cQ, cE⟩ => ?_
  refine ⟨B, ρ, M, _, E, n, f, fun x M1 v H1 hq af rx => ⟨B, ρ, M1, _, E, n.after af, hq, fun xs M2 vs H2 hq2 af2 rs => ?_, cE.after af⟩, cE⟩
  exact cQ (x :: xs) M2 (v :: vs) H2 hq2 (af.trans af2) (Reps.cons (rx.after af.rp af2) rs)
/-- a written tuple -/
def tTu (fs : TA2) : TE2 := fun ρ M Q E => fs ρ M (fun xs M1 => xs.length ≤ sizeLine ∧ Q (.tup xs) M1) E
theorem se_tup {fs : TA2} {k : Nat} (hs : PA X es (lA cls X.K W fs)) : PE X (.Tuple es k pos) (lE cls X.K W (tTu fs)) := by
  refine (pe_tup hs).to fun σ H Q ⟨B, ρ, M, Q2, E, n, f, cQ, cE⟩ => ?_
  refine ⟨B, ρ, M, _, E, n, f, fun xs M1 vs H1 hq af rs => ⟨by rw [rs.length]; exact hq.1, fun p hp => ?_⟩, cE⟩
  have af2 := After.laid af.rp (o := .tup vs) hp
  refine cQ _ M1 _ _ hq.2 (af.trans af2) ?_
  unfold Rep
  exact ⟨p, vs, rfl, SqT.of upd_same, rs.after af.rp af2⟩
/-- how a new list is held: as a value, owned, owned as a pair of numbers that are not told -/
inductive Mu where
  | val | own | cup
def newL (m : Mu) (ts : List T) (M : Store) (Q : K2) : Prop := match m with
  | .val => Q (.lst ts) M
  | .own => ∀ p, M p = none → Q (.loc p) (upS M p (.lst ts))
  | .cup => ∃ i j : Int, ts = [.int i, .int j] ∧ 0 ≤ j ∧ j < 4294967296 ∧ ∀ p, M p = none → Q (.loc p) (upS M p .cup)
theorem newL_ok {K : PySem.W.Frag} {B : Addr → Prop} {M : Store} {H : Hp} {m : Mu} {ts : List T} {vs : List V} {Q2 : K2} {Q : VK} (R : Rp K B M H) (rs : Reps K B M H vs ts) (h : newL m ts M Q2)
    (cQ : ∀ t M2 v H2, Q2 t M2 → After K B M H M2 H2 → Rep K B M2 H2 v t → Q v H2) {p : Addr} (hp : H p = none) : Q (.ref p) (upd H p (.lst vs)) := by
  obtain ⟨n1, n2⟩ := R.new hp
  cases m with
  | val =>
    have af := After.laid R (o := .lst vs) hp
    refine cQ _ M _ _ h af ?_
    unfold Rep
    exact ⟨p, vs, rfl, upd_same, n1, n2, rs.after R af⟩
  | own =>
    have mv := new_mv (o := .lst vs) (c := .lst ts) R hp
    have af := After.laidS R (o := .lst vs) (c := .lst ts) hp ⟨vs, upd_same, Reps.mv R mv ts vs rs⟩
    refine cQ _ _ _ _ (h p n1) af ?_
    unfold Rep; rfl
  | cup =>
    obtain ⟨i, j, rfl, h0, h1, q⟩ := h
    have e : vs = [.int i, .int j] := Reps.ints (ns := [i, j]) rs
    subst e
    have af := After.laidS R (o := .lst [.int i, .int j]) (c := .cup) hp ⟨i, j, upd_same, h0, h1⟩
    refine cQ _ _ _ _ (q p n1) af ?_
    unfold Rep; rfl
def tLi (m : Mu) (fs : TA2) : TE2 := fun ρ M Q E => fs ρ M (fun xs M1 => xs.length ≤ sizeLine ∧ newL m xs M1 Q) E
theorem se_lst {fs : TA2} {m : Mu} (hs : PA X es (lA cls X.K W fs)) : PE X (.List es pos) (lE cls X.K W (tLi m fs)) := by
  refine (pe_lst hs).to fun σ H Q ⟨B, ρ, M, Q2, E, n, f, cQ, cE⟩ => ?_
  refine ⟨B, ρ, M, _, E, n, f, fun xs M1 vs H1 hq af rs => ⟨by rw [rs.length]; exact hq.1, fun p hp => ?_⟩, cE⟩
  exact newL_ok af.rp rs hq.2 (fun t M2 v H2 q a r => cQ t M2 v H2 q (af.trans a) r) hp
end
end TL

/-! TLc: statements, targets, loops, comprehensions over trees. -/
namespace TL
open PySem PySem.Spec PyProof.Rows L2

section
variable {X : Cx} {cls : Nat → Value} {W : WX} {a b c e : Expr} {es : List Expr} {st : Stmt} {sts : List Stmt} {fa fb fc : TE2} {f g : TS2} {ft : TT2} {pos : Pos}
def sNext : TS2 := fun D ρ M => D.nx ρ M
def sSeq (f g : TS2) : TS2 := fun D ρ M => f { D with nx := g D } ρ M
theorem ss_nil : PSs X [] (lS cls X.K W sNext) := pss_nil.to fun D σ H ⟨B, ρ, M, D2, n, q, e⟩ => e.nx ρ M σ H q (After.refl n.rp) n.env
theorem ss_cons (h1 : PS X st (lS cls X.K W f)) (h2 : PSs X sts (lS cls X.K W g)) : PSs X (st :: sts) (lS cls X.K W (sSeq f g)) :=
  (pss_cons h1 h2).to fun D σ H ⟨B, ρ, M, D2, n, q, e⟩ => ⟨B, ρ, M, _, n, q, ⟨fun ρ' M' σ' H' q' af ev => ⟨B, ρ', M', D2, ⟨af.rp, ev⟩, q', e.after af⟩, e.rt, e.bk, e.ct, e.ex⟩⟩
def sPass : TS2 := fun D ρ M => D.nx ρ M
def sBrk : TS2 := fun D ρ M => D.bk ρ M
def sCnt : TS2 := fun D ρ M => D.ct ρ M
theorem s_pass : PS X (.Pass pos) (lS cls X.K W sPass) := ps_pass.to fun D σ H ⟨B, ρ, M, D2, n, q, e⟩ => e.nx ρ M σ H q (After.refl n.rp) n.env
theorem s_brk : PS X (.Break pos) (lS cls X.K W sBrk) := ps_break.to fun D σ H ⟨B, ρ, M, D2, n, q, e⟩ => e.bk ρ M σ H q (After.refl n.rp) n.env
theorem s_cnt : PS X (.Continue pos) (lS cls X.K W sCnt) := ps_continue.to fun D σ H ⟨B, ρ, M, D2, n, q, e⟩ => e.ct ρ M σ H q (After.refl n.rp) n.env
def sExpr (fa : TE2) : TS2 := fun D ρ M => fa ρ M (fun _ M1 => D.nx ρ M1) fun x M1 => D.ex x ρ M1
theorem s_expr (he : PE X e (lE cls X.K W fa)) (hs : swapsWith e none pos.line X.env = pure false) : PS X (.Expr e pos) (lS cls X.K W (sExpr fa)) :=
  (ps_expr he hs).to fun D σ H ⟨B, ρ, M, D2, n, q, e⟩ => ⟨B, ρ, M, _, _, n, q, fun t M2 v H2 q2 af r => e.nx ρ M2 σ H2 q2 af (n.after af).env, e.exOk n⟩
def sRet (fa : TE2) : TS2 := fun D ρ M => fa ρ M D.rt fun x M1 => D.ex x ρ M1
theorem s_ret (he : PE X e (lE cls X.K W fa)) : PS X (.Return (some e) pos) (lS cls X.K W (sRet fa)) :=
  (ps_ret he).to fun D σ H ⟨B, ρ, M, D2, n, q, e⟩ => ⟨B, ρ, M, _, _, n, q, fun t M2 v H2 q2 af r => e.rt t M2 v H2 q2 af r, e.exOk n⟩
def sRet0 : TS2 := fun D ρ M => D.rt .non M
theorem s_ret0 : PS X (.Return none pos) (lS cls X.K W sRet0) := ps_retN.to fun D σ H ⟨B, ρ, M, D2, n, q, e⟩ => e.rt .non M .non H q (After.refl n.rp) (by unfold Rep; rfl)
def sIf (t : TT2) (f g : TS2) : TS2 := fun D ρ M => t ρ M (fun b M1 => Br b (f D ρ M1) (g D ρ M1)) fun x M1 => D.ex x ρ M1
theorem s_if {sa sb : List Stmt} (hc : PT X c (lT cls X.K W ft)) (ha : PSs X sa (lS cls X.K W f)) (hb : PSs X sb (lS cls X.K W g)) : PS X (.If c sa sb pos) (lS cls X.K W (sIf ft f g)) := by
  refine (ps_if hc ha hb).to fun D σ H ⟨B, ρ, M, D2, n, q, e⟩ => ⟨B, ρ, M, _, _, n, q, fun b M2 H2 q2 af => ?_, e.exOk n⟩
  have q2 : Br b (f D2 ρ M2) (g D2 ρ M2) := q2
  cases b with
  | true => dsimp only; rw [if_pos rfl]; exact ⟨B, ρ, M2, D2, n.after af, q2.1 rfl, e.after af⟩
  | false => dsimp only; rw [if_neg Bool.false_ne_true]; exact ⟨B, ρ, M2, D2, n.after af, q2.2 rfl, e.after af⟩
/-- while: an invariant with a measure -/
def sWhile (t : TT2) (f : TS2) : TS2 := fun D ρ M => ∃ V : Nat → St2 → Store → Prop, (∃ m, V m ρ M) ∧ ∀ m ρ M, V m ρ M →
  t ρ M (fun b M1 => Br b (f { D with nx := fun ρ' M' => ∃ m', m' < m ∧ V m' ρ' M', ct := fun ρ' M' => ∃ m', m' < m ∧ V m' ρ' M', bk := D.nx } ρ M1) (D.nx ρ M1)) fun x M1 => D.ex x ρ M1
theorem s_while {sb : List Stmt} (hp : PassesOwn (model X.prog X.w) X.A X.env X.xe) (hc : PT X c (lT cls X.K W ft)) (hb : PSs X sb (lS cls X.K W f)) : PS X (.While c sb [] pos) (lS cls X.K W (sWhile ft f)) := by
  refine (ps_while hp hc hb).to fun D σ H ⟨B, ρ, M, D2, n, ⟨V, ⟨m0, v0⟩, turn⟩, e⟩ => ?_
  refine ⟨fun m σ' H' => ∃ ρ' M', After X.K B M H M' H' ∧ EnvOk X.K B M' H' ρ' σ' ∧ V m ρ' M', ⟨m0, ρ, M, After.refl n.rp, n.env, v0⟩, ?_⟩
  rintro m σ1 H1 ⟨ρ1, M1, af1, ev1, v1⟩
  have n1 : Now X.K B ρ1 M1 σ1 H1 := ⟨af1.rp, ev1⟩
  have e1 := e.after af1
  refine ⟨B, ρ1, M1, _, _, n1, turn m ρ1 M1 v1, fun b M2 H2 q2 af2 => ?_, e1.exOk n1⟩
  have q2 : Br b _ _ := q2
  cases b with
  | true =>
    dsimp only
    rw [if_pos rfl]
    refine ⟨fun σ' H' => ∃ m', m' < m ∧ ∃ ρ' M', After X.K B M H M' H' ∧ EnvOk X.K B M' H' ρ' σ' ∧ V m' ρ' M', fun σ' H' h => h, ?_⟩
    have again : ∀ ρ' M' σ' H', (∃ m', m' < m ∧ V m' ρ' M') → After X.K B M2 H2 M' H' → EnvOk X.K B M' H' ρ' σ' → ∃ m', m' < m ∧ ∃ ρ' M', After X.K B M H M' H' ∧ EnvOk X.K B M' H' ρ' σ' ∧ V m' ρ' M' :=
      fun ρ' M' σ' H' ⟨m', hm, v'⟩ af ev => ⟨m', hm, ρ', M', (af1.trans af2).trans af, ev, v'⟩
    have e2 := e1.after af2
    exact ⟨B, ρ1, M2, _, n1.after af2, q2.1 rfl, ⟨again, e2.rt, e2.nx, again, e2.ex⟩⟩
  | false =>
    dsimp only
    rw [if_neg Bool.false_ne_true]
    exact e1.nx ρ1 M2 σ1 H2 (q2.2 rfl) af2 (n1.after af2).env

/-! ### targets -/
def Agree (sl : List Nat) (σ σ' : L2.St) : Prop := σ'.length = σ.length ∧ ∀ i, i ∉ sl → σ'[i]? = σ[i]?
theorem Agree.refl {sl : List Nat} {σ : L2.St} : Agree sl σ σ := ⟨rfl, fun _ _ => rfl⟩
theorem Agree.trans {sl : List Nat} {σ σ' σ'' : L2.St} (a : Agree sl σ σ') (b : Agree sl σ' σ'') : Agree sl σ σ'' := ⟨b.1.trans a.1, fun i h => (b.2 i h).trans (a.2 i h)⟩
theorem Agree.more {sl sl' : List Nat} {σ σ' : L2.St} (a : Agree sl σ σ') (h : ∀ i ∈ sl, i ∈ sl') : Agree sl' σ σ' := ⟨a.1, fun i k => a.2 i fun z => k (h i z)⟩
abbrev TG2 := T → St2 → Store → (St2 → Store → Prop) → Prop
abbrev TGs2 := List T → St2 → Store → (St2 → Store → Prop) → Prop
def lG (K : PySem.W.Frag) (g : TG2) (sl : List Nat) : TG := fun v σ H Q => ∃ B ρ M t Q2, Now K B ρ M σ H ∧ Rep K B M H v t ∧ g t ρ M Q2 ∧ ∀ ρ' M' σ' H', Q2 ρ' M' → After K B M H M' H' → EnvOk K B M' H' ρ' σ' → Agree sl σ σ' → Q σ' H'
def lGs (K : PySem.W.Frag) (g : TGs2) (sl : List Nat) : TGs := fun vs σ H Q => ∃ B ρ M ts Q2, Now K B ρ M σ H ∧ Reps K B M H vs ts ∧ g ts ρ M Q2 ∧ ∀ ρ' M' σ' H', Q2 ρ' M' → After K B M H M' H' → EnvOk K B M' H' ρ' σ' → Agree sl σ σ' → Q σ' H'
theorem _root_.L2.PG.to {X : Cx} {e : Expr} {t t' : TG} (h : PG X e t) (w : ∀ v σ H Q, t' v σ H Q → t v σ H Q) : PG X e t' := ⟨fun pins s σ H v u Q I r q => h.run pins s σ H v u Q I r (w v σ H Q q)⟩
theorem _root_.L2.PGs.to {X : Cx} {es : List Expr} {t t' : TGs} (h : PGs X es t) (w : ∀ v σ H Q, t' v σ H Q → t v σ H Q) : PGs X es t' := ⟨fun pins s σ H v u Q I r q => h.run pins s σ H v u Q I r (w v σ H Q q)⟩
def gSl (i : Nat) : TG2 := fun t ρ M Q => Q (ρ.set i (some t)) M
theorem g_slot {i : Nat} {x : Str} (hN : X.N.Nodup) (hi : X.N[i]? = some x) (hx : Loc X.env.scope x) (hf : X.fn x = true ∨ X.env.scope.names.lookup x = some .local) : PG X (.Name x pos) (lG X.K (gSl i) [i]) :=
  (pg_name hN hi hx hf).to fun v σ H Q ⟨B, ρ, M, t, Q2, n, r, q, cQ⟩ => cQ _ M _ H q (After.refl n.rp) (n.env.set r i) ⟨by simp, fun j h => by
    have : i ≠ j := fun z => h (by simp [z])
    exact List.getElem?_set_ne this⟩
def gsNil : TGs2 := fun ts ρ M Q => ts = [] ∧ Q ρ M
def gsCons (g : TG2) (gs : TGs2) : TGs2 := fun ts ρ M Q => match ts with
  | [] => False
  | t :: ts => g t ρ M fun ρ1 M1 => gs ts ρ1 M1 Q
theorem gs_nil {sl : List Nat} : PGs X [] (lGs X.K gsNil sl) := pgs_nil.to fun vs σ H Q ⟨B, ρ, M, ts, Q2, n, r, ⟨e, q⟩, cQ⟩ => by
  subst e
  cases vs with
  | nil => exact ⟨rfl, cQ ρ M σ H q (After.refl n.rp) n.env Agree.refl⟩
  | cons _ _ => unfold Reps at r; exact r.elim
theorem gs_cons {g : TG2} {gs : TGs2} {s1 s2 sl : List Nat} (h1 : PG X e (lG X.K g s1)) (h2 : PGs X es (lGs X.K gs s2)) (i1 : ∀ i ∈ s1, i ∈ sl) (i2 : ∀ i ∈ s2, i ∈ sl)
    (hs : (assignEach (e :: es) X.env).map (·.2) = assign e X.env :: (assignEach es X.env).map (·.2)) : PGs X (e :: es) (lGs X.K (gsCons g gs) sl) :=
  (pgs_cons h1 h2 hs).to fun vs σ H Q ⟨B, ρ, M, ts, Q2, n, r, q, cQ⟩ => by
    cases ts with
    | nil => exact q.elim
    | cons t ts =>
      cases vs with
      | nil => unfold Reps at r; exact r.elim
      | cons v vs =>
        unfold Reps at r
        refine ⟨v, vs, rfl, B, ρ, M, t, _, n, r.1, q, fun ρ1 M1 σ1 H1 q1 af1 ev1 ag1 => ?_⟩
        exact ⟨B, ρ1, M1, ts, Q2, ⟨af1.rp, ev1⟩, r.2.after n.rp af1, q1, fun ρ' M' σ' H' q2 af2 ev2 ag2 => cQ ρ' M' σ' H' q2 (af1.trans af2) ev2 ((ag1.more i1).trans (ag2.more i2))⟩
/-- (a, b, ..) = a tuple; k: how many -/
def gTu (k : Nat) (gs : TGs2) : TG2 := fun t ρ M Q => match t with
  | .tup ts => ts.length = k ∧ gs ts ρ M Q
  | _ => False
theorem g_tup {k j : Nat} {gs : TGs2} {sl : List Nat} (hc : X.calm = true) (h : PGs X es (lGs X.K gs sl)) (hn : (assignEach es X.env).length = k) (hst : (assignEach es X.env).findIdx? (·.1) = none) : PG X (.Tuple es j pos) (lG X.K (gTu k gs) sl) :=
  (pg_tup hc h hn hst).to fun v σ H Q ⟨B, ρ, M, t, Q2, n, r, q, cQ⟩ => by
    cases t with
    | tup ts =>
      unfold Rep at r
      obtain ⟨a, vs, e, s, rs⟩ := r
      exact ⟨a, vs, e, s, by rw [rs.length]; exact q.1, B, ρ, M, ts, Q2, n, rs, q.2, cQ⟩
    | _ => exact q.elim
/-- o[i] = v by values -/
abbrev Op3 := T → T → T → Store → (Store → Prop) → Prop
def lSet (K : PySem.W.Frag) (r : Op3) : TSet := fun o i v H Q => ∃ B M Q2 a b c, Rp K B M H ∧ Rep K B M H o a ∧ Rep K B M H i b ∧ Rep K B M H v c ∧ r a b c M Q2 ∧ ∀ M2 H2, Q2 M2 → After K B M H M2 H2 → Q H2
def gSb (r : Op3) (fo fi : TE2) : TG2 := fun t ρ M Q => fo ρ M (fun o M1 => fi ρ M1 (fun i M2 => r o i t M2 fun M3 => Q ρ M3) fun _ _ => False) fun _ _ => False
theorem g_sub {o i : Expr} {r : Op3} {fo fi : TE2} {sl : List Nat} (ho : PE X o (lE cls X.K W fo)) (hi : PE X i (lE cls X.K W fi)) (hs : PSet X (lSet X.K r))
    (ha : ∀ v, assign (.Subscript o i pos) X.env v = (do
      let ov ← holding [v] (eval o X.env)
      let iv ← holding [v, ov] (eval i X.env)
      standAt pos
      holding [v, ov, iv] (setItem ov iv v)
      release [v, ov, iv] [])) : PG X (.Subscript o i pos) (lG X.K (gSb r fo fi) sl) :=
  (pg_sub ho hi hs ha).to fun v σ H Q ⟨B, ρ, M, t, Q2, n, rv, q, cQ⟩ => by
    have no : ∀ M H, ExOk cls X.K W B M H σ fun _ _ => False := fun _ _ _ _ _ _ _ z => z.elim
    refine ⟨B, ρ, M, _, _, n, q, fun x M1 ov H1 q1 af1 r1 => ⟨B, ρ, M1, _, _, n.after af1, q1, fun y M2 iv H2 q2 af2 r2 => ?_, no _ _⟩, no _ _⟩
    have a2 := af1.trans af2
    exact ⟨B, M2, _, x, y, t, a2.rp, r1.after af1.rp af2, r2, rv.after n.rp a2, q2, fun M3 H3 q3 af3 => cQ ρ M3 σ H3 q3 (a2.trans af3) (n.after (a2.trans af3)).env Agree.refl⟩
/-- target = value -/
def sAsg (fa : TE2) (g : TG2) : TS2 := fun D ρ M => fa ρ M (fun t M1 => g t ρ M1 D.nx) fun x M1 => D.ex x ρ M1
theorem asg_read {K : PySem.W.Frag} {g : TG2} {sl : List Nat} {D : Ends} {σ : L2.St} {H : Hp} (h : lS cls K W (sAsg fa g) D σ H) : tAsg (lE cls K W fa) (lG K g sl) D σ H := by
  obtain ⟨B, ρ, M, D2, n, q, e⟩ := h
  refine ⟨B, ρ, M, _, _, n, q, fun t M2 v H2 q2 af r => ?_, e.exOk n⟩
  exact ⟨B, ρ, M2, t, D2.nx, n.after af, r, q2, fun ρ' M' σ' H' q3 af3 ev ag => e.nx ρ' M' σ' H' q3 (af.trans af3) ev⟩
theorem s_asg {tg : Expr} {g : TG2} {sl : List Nat} (he : PE X e (lE cls X.K W fa)) (hg : PG X tg (lG X.K g sl)) (hs : swapsWithSole [tg] e pos.line X.env = pure false) (hw : swappedStores [tg] e X.env = pure none)
    (h1 : (assignEach [tg] X.env).map (·.2) = [assign tg X.env]) : PS X (.Assign [tg] e pos) (lS cls X.K W (sAsg fa g)) := (ps_asg he hg hs hw h1).to fun D σ H h => asg_read h
/-- name op= e, by values -/
def lIp (K : PySem.W.Frag) (r : Op2) : TIp := lO K r
def sAug (i : Nat) (r : Op2) (fa : TE2) : TS2 := fun D ρ M => ∃ x, ρ[i]? = some (some x) ∧ fa ρ M (fun y M1 => r x y M1 fun z M2 => D.nx (ρ.set i (some z)) M2) fun x M1 => D.ex x ρ M1
theorem s_aug {i : Nat} {x : Str} {op : Operator} {r : Op2} {p2 : Pos} (hN : X.N.Nodup) (hi : X.N[i]? = some x) (hx : Loc X.env.scope x) (he : PE X e (lE cls X.K W fa)) (ho : PIp X op (lIp X.K r)) (hf : X.fn x = true ∨ X.env.scope.names.lookup x = some .local) :
    PS X (.AugAssign (.Name x p2) op e pos) (lS cls X.K W (sAug i r fa)) := by
  refine (ps_aug hN hi hx he ho hf).to fun D σ H ⟨B, ρ, M, D2, n, ⟨t, et, q⟩, e⟩ => ?_
  obtain ⟨v, ev, rv⟩ := n.env.at_ i t et
  refine ⟨v, ev, B, ρ, M, _, _, n, q, fun y M1 u H1 q1 af1 r1 => ?_, e.exOk n⟩
  exact ⟨B, M1, _, t, y, af1.rp, rv.after n.rp af1, r1, q1, fun z M2 w H2 q2 af2 r2 => e.nx _ M2 _ H2 q2 (af1.trans af2) (((n.after af1).after af2).env.set r2 i)⟩

/-! ### what a loop walks: its items are told ahead -/
def ItOk (K : PySem.W.Frag) (B : Addr → Prop) (J : It) (ts : List T) (M : Store) (H : Hp) : Prop := ∀ B' M' H', Rp K B' M' H' → Mv B M H B' M' H' →
  (∀ (i : Nat) (t : T), ts[i]? = some t → J.go i H' ∧ ∀ x H2, J.yld i H' x H2 → After K B' M' H' M' H2 ∧ Rep K B' M' H2 x t) ∧ J.stop ts.length H'
abbrev TI2 := St2 → Store → (List T → Store → Prop) → EK → Prop
def lI (cls : Nat → Value) (K : PySem.W.Frag) (W : WX) (f : TI2) : TI := fun σ H R => ∃ B ρ M Q2 E, Now K B ρ M σ H ∧ f ρ M Q2 E ∧ (∀ ts M2 J H2, Q2 ts M2 → After K B M H M2 H2 → ItOk K B J ts M2 H2 → R J H2) ∧ ExOk cls K W B M H σ E
theorem _root_.L2.PI.to {X : Cx} {tg e : Expr} {t t' : TI} (h : PI X tg e t) (w : ∀ σ H R, t' σ H R → t σ H R) : PI X tg e t' := ⟨fun pins s σ H R I q => h.run pins s σ H R I (w σ H R q)⟩
def forL (g : TG2) (f : TS2) (D : Ends2) : List T → St2 → Store → Prop
  | [], ρ, M => D.nx ρ M
  | t :: ts, ρ, M => g t ρ M fun ρ1 M1 => f { D with nx := forL g f D ts, ct := forL g f D ts, bk := D.nx } ρ1 M1
def sFor (fi : TI2) (g : TG2) (f : TS2) : TS2 := fun D ρ M => fi ρ M (fun ts M1 => forL g f D ts ρ M1) fun x M1 => D.ex x ρ M1
theorem s_for {tg iter : Expr} {sb : List Stmt} {fi : TI2} {g : TG2} {sl : List Nat} (hp : PassesOwn (model X.prog X.w) X.A X.env X.xe) (hc : X.calm = true) (hi : PI X tg iter (lI cls X.K W fi)) (hg : PG X tg (lG X.K g sl)) (hb : PSs X sb (lS cls X.K W f))
    (hs : ∀ x, foldedSetIterable iter X.env x = pure x) : PS X (.For tg iter sb [] pos) (lS cls X.K W (sFor fi g f)) := by
  refine (ps_for hp hc hi hg hb hs).to fun D σ H ⟨B, ρ, M, D2, n, q, e⟩ => ?_
  refine ⟨B, ρ, M, _, _, n, q, fun ts M1 J H1 q1 af1 it => ?_, e.exOk n⟩
  refine ⟨fun i m σ' H' => m = ts.length - i ∧ i ≤ ts.length ∧ ∃ ρ' M', After X.K B M1 H1 M' H' ∧ EnvOk X.K B M' H' ρ' σ' ∧ forL g f D2 (ts.drop i) ρ' M',
    ⟨ts.length, by simp, Nat.zero_le _, ρ, M1, After.refl af1.rp, (n.after af1).env, q1⟩, ?_⟩
  rintro i m σ2 H2 ⟨rfl, hi, ρ2, M2, af2, ev2, q2⟩
  have e2 := (e.after af1).after af2
  obtain ⟨ok, stop⟩ := it B M2 H2 af2.rp af2.kept.mv
  by_cases hlt : i < ts.length
  · have et : ts[i]? = some ts[i] := List.getElem?_eq_getElem hlt
    obtain ⟨go, step⟩ := ok i ts[i] et
    refine .inr ⟨go, fun σ' H' => i + 1 ≤ ts.length ∧ ∃ ρ' M', After X.K B M1 H1 M' H' ∧ EnvOk X.K B M' H' ρ' σ' ∧ forL g f D2 (ts.drop (i + 1)) ρ' M', fun σ' H' h => ⟨_, by omega, rfl, h.1, h.2⟩, fun x H3 y => ?_⟩
    obtain ⟨af3, rx⟩ := step x H3 y
    rw [List.drop_eq_getElem_cons hlt] at q2
    have n3 : Now X.K B ρ2 M2 σ2 H3 := ⟨af3.rp, ev2.mv af2.rp af3.kept.mv⟩
    refine ⟨B, ρ2, M2, ts[i], _, n3, rx, q2, fun ρ4 M4 σ4 H4 q4 af4 ev4 ag4 => ?_⟩
    have a4 := af3.trans af4
    have e4 := e2.after a4
    have again : ∀ ρ' M' σ' H', forL g f D2 (ts.drop (i + 1)) ρ' M' → After X.K B M4 H4 M' H' → EnvOk X.K B M' H' ρ' σ' → i + 1 ≤ ts.length ∧ ∃ ρ' M', After X.K B M1 H1 M' H' ∧ EnvOk X.K B M' H' ρ' σ' ∧ forL g f D2 (ts.drop (i + 1)) ρ' M' :=
      fun ρ' M' σ' H' h af ev => ⟨hlt, ρ', M', (af2.trans a4).trans af, ev, h⟩
    exact ⟨B, ρ4, M4, _, ⟨af4.rp, ev4⟩, q4, ⟨again, e4.rt, e4.nx, again, e4.ex⟩⟩
  · have ei : i = ts.length := by omega
    subst ei
    rw [List.drop_length] at q2
    exact .inl ⟨stop, e2.nx ρ2 M2 σ2 H2 q2 (After.refl af2.rp) ev2⟩

/-! ### comprehensions -/
def wipe2 (ρ : St2) : List Nat → St2
  | [] => ρ
  | v :: vs => (wipe2 ρ vs).set v none
theorem EnvOk.wipe {K : PySem.W.Frag} {B : Addr → Prop} {M : Store} {H : Hp} {ρ : St2} {σ : L2.St} (e : EnvOk K B M H ρ σ) : ∀ vs : List Nat, EnvOk K B M H (wipe2 ρ vs) (wipe σ vs)
  | [] => e
  | v :: vs => by
    unfold wipe2 L2.wipe
    exact (EnvOk.wipe e vs).forget v
theorem wipe_at {σ : L2.St} : ∀ (vs : List Nat) (i : Nat), (wipe σ vs)[i]? = if i ∈ vs ∧ i < σ.length then some none else σ[i]?
  | [], i => by simp [wipe]
  | v :: vs, i => by
    unfold wipe
    by_cases hv : v = i
    · subst hv
      by_cases hl : v < σ.length
      · rw [List.getElem?_set_self (by rw [wipe_length]; exact hl), if_pos ⟨List.mem_cons_self, hl⟩]
      · rw [List.getElem?_eq_none (by rw [List.length_set, wipe_length]; omega), if_neg (fun z => hl z.2), List.getElem?_eq_none (by omega)]
    · rw [List.getElem?_set_ne hv, wipe_at vs i]
      have : (i ∈ v :: vs) ↔ i ∈ vs := by simp [List.mem_cons, Ne.symm hv]
      simp only [this]
theorem wipe_agree {σ σ' : L2.St} {vs : List Nat} (a : Agree vs (wipe σ vs) σ') : wipe σ' vs = wipe σ vs := by
  refine List.ext_getElem? fun i => ?_
  have hl : σ'.length = σ.length := by rw [a.1, wipe_length]
  rw [wipe_at, hl]
  by_cases hi : i ∈ vs
  · by_cases h2 : i < σ.length
    · rw [if_pos ⟨hi, h2⟩, wipe_at, if_pos ⟨hi, h2⟩]
    · rw [if_neg (fun z => h2 z.2), List.getElem?_eq_none (by omega), List.getElem?_eq_none (by rw [wipe_length]; omega)]
  · rw [if_neg (fun z => hi z.1), a.2 i hi]
def noE : EK := fun _ _ => False
def compL (g : TG2) (tt : TT2) (te : TE2) (ρ : St2) (Q : List T → Store → Prop) : List T → List T → Store → Prop
  | [], acc, M => Q acc M
  | t :: ts, acc, M => g t ρ M fun ρ1 M1 => tt ρ1 M1 (fun b M2 => Br b (te ρ1 M2 (fun y M3 => compL g tt te ρ Q ts (acc ++ [y]) M3) noE) (compL g tt te ρ Q ts acc M2)) noE
def tComp (m : Mu) (fi : TI2) (g : TG2) (tt : TT2) (te : TE2) (vs : List Nat) : TE2 := fun ρ M Q E => fi ρ M (fun ts M1 => ts.length ≤ sizeLine ∧ compL g tt te (wipe2 ρ vs) (fun acc M2 => newL m acc M2 Q) ts [] M1) E
/-- the busy list at D -/
abbrev Bz (B : Addr → Prop) (D : Addr) : Addr → Prop := fun a => B a ∨ a = D
abbrev no4 : WX := fun _ _ _ _ => False
def tYes2 : TT2 := fun _ M Q _ => Q true M
theorem _root_.L2.PTs.to {X : Cx} {es : List Expr} {t t' : TT} (h : PTs X es t) (w : ∀ σ H Q, t' σ H Q → t σ H Q) : PTs X es t' := ⟨fun pins s σ H Q I q => h.run pins s σ H Q I (w σ H Q q)⟩
theorem comp_read {K : PySem.W.Frag} {m : Mu} {fi : TI2} {g : TG2} {tt : TT2} {te : TE2} {vs sl : List Nat} (hsl : ∀ i ∈ sl, i ∈ vs) {σ : L2.St} {H : Hp} {Q : VK} (h : lE cls K W (tComp m fi g tt te vs) σ H Q) :
    tLc (lI cls K W fi) (lG K g sl) (lT cls K no4 tt) (lE cls K no4 te) vs σ H Q := by
  obtain ⟨B, ρ, M, Q2, E, n, q, cQ, cE⟩ := h
  refine ⟨B, ρ, M, _, E, n, q, fun ts M1 J H1 q1 af1 it => ?_, cE⟩
  obtain ⟨hz, q1⟩ := q1
  intro D hD
  obtain ⟨nM, nB⟩ := af1.rp.new hD
  have hD1 : ∀ {a : Addr} {x : HO}, H1 a = some x → a ≠ D := fun h => ne_of_none h hD
  -- the world within: D is busy
  have mv0 : Mv B M1 H1 (Bz B D) M1 (upd H1 D (.lst [])) := fun a x h n b => ⟨by rw [upd_ne (hD1 h)]; exact h, n, fun z => z.elim b (hD1 h)⟩
  have rp0 : Rp K (Bz B D) M1 (upd H1 D (.lst [])) := by
    refine ⟨fun a c h => ?_, fun a b => ?_⟩
    · have z := af1.rp.cell a c h
      obtain ⟨vs, e⟩ := z.lst
      exact z.mv af1.rp mv0 (upd_ne (hD1 e))
    · rcases b with b | rfl
      · obtain ⟨z, vs, e⟩ := af1.rp.busy a b
        exact ⟨z, vs, by rw [upd_ne (hD1 e)]; exact e⟩
      · exact ⟨nM, _, upd_same⟩
  have n1 := n.after af1
  have cE0 : ∀ {M : Store} {H : Hp} {σ : L2.St}, ExOk cls K no4 (Bz B D) M H σ noE := fun _ _ _ _ _ z => z.elim
  refine ⟨fun i m' H' => m' = ts.length - i ∧ i ≤ ts.length ∧ ∃ acc ws M', Rp K (Bz B D) M' H' ∧ H' D = some (.lst ws) ∧ Reps K (Bz B D) M' H' ws acc ∧ acc.length ≤ i ∧ Mv B M1 H1 (Bz B D) M' H' ∧ Kept M1 H1 M' H' ∧ compL g tt te (wipe2 ρ vs) (fun acc M2 => newL m acc M2 Q2) (ts.drop i) acc M',
    ⟨ts.length, by simp, Nat.zero_le _, [], [], M1, rp0, upd_same, Reps.nil, Nat.zero_le _, mv0, fun a x h n => ⟨by rw [upd_ne (hD1 h)]; exact h, n⟩, q1⟩, ?_⟩
  rintro i m' H2 ⟨rfl, hi, acc, ws, M2, rp2, eD, rs, hacc, mv2, kp2, q2⟩
  obtain ⟨ok, stop⟩ := it (Bz B D) M2 H2 rp2 mv2
  by_cases hlt : i < ts.length
  · have et : ts[i]? = some ts[i] := List.getElem?_eq_getElem hlt
    obtain ⟨go, step⟩ := ok i ts[i] et
    rw [List.drop_eq_getElem_cons hlt] at q2
    refine .inr ⟨go, fun H' => ∃ acc ws M', Rp K (Bz B D) M' H' ∧ H' D = some (.lst ws) ∧ Reps K (Bz B D) M' H' ws acc ∧ acc.length ≤ i + 1 ∧ Mv B M1 H1 (Bz B D) M' H' ∧ Kept M1 H1 M' H' ∧ compL g tt te (wipe2 ρ vs) (fun acc M2 => newL m acc M2 Q2) (ts.drop (i + 1)) acc M',
      fun H' h => ⟨_, by omega, rfl, hlt, h⟩, fun x H3 y => ?_⟩
    obtain ⟨af3, rx⟩ := step x H3 y
    have ev3 : EnvOk K (Bz B D) M2 H3 (wipe2 ρ vs) (wipe σ vs) := ((n1.env.mv n1.rp mv2).mv rp2 af3.kept.mv).wipe vs
    refine ⟨Bz B D, wipe2 ρ vs, M2, ts[i], _, ⟨af3.rp, ev3⟩, rx, q2, fun ρ4 M4 σ4 H4 q4 af4 ev4 ag4 => ⟨wipe_agree (ag4.more hsl), ?_⟩⟩
    refine ⟨Bz B D, ρ4, M4, _, noE, ⟨af4.rp, ev4⟩, q4, fun b M5 H5 q5 af5 => ?_, cE0⟩
    have a5 := (af3.trans af4).trans af5
    have nD : M2 D = none := (rp2.busy D (.inr rfl)).1
    have mvk : ∀ {M' : Store} {H' : Hp}, Kept M2 H2 M' H' → Mv B M1 H1 (Bz B D) M' H' := fun k a x h n b => ⟨(k a x (kp2 a x h n).1 (kp2 a x h n).2).1, (k a x (kp2 a x h n).1 (kp2 a x h n).2).2, fun z => z.elim b (hD1 h)⟩
    have q5 : Br b _ _ := q5
    cases b with
    | true =>
      dsimp only
      rw [if_pos rfl]
      refine ⟨Bz B D, ρ4, M5, _, noE, ⟨af5.rp, ev4.mv af4.rp af5.kept.mv⟩, q5.1 rfl, fun t6 M6 v6 H6 q6 af6 r6 => ?_, cE0⟩
      have a6 := a5.trans af6
      obtain ⟨eD6, nD6⟩ := a6.kept D _ eD nD
      have rs6 : Reps K (Bz B D) M6 H6 ws acc := rs.after rp2 a6
      refine ⟨ws, eD6, by rw [rs.length]; exact Nat.lt_of_le_of_lt hacc (Nat.lt_of_lt_of_le hlt hz), acc ++ [t6], ws ++ [v6], M6, ?_⟩
      -- D is written
      have mv6 : Mv (Bz B D) M6 H6 (Bz B D) M6 (upd H6 D (.lst (ws ++ [v6]))) := fun a x h n b => ⟨by rw [upd_ne (fun z => b (.inr z))]; exact h, n, b⟩
      refine ⟨⟨fun a c h => ?_, fun a b => ?_⟩, upd_same, Reps.mv a6.rp mv6 _ _ (rs6.append (Reps.one r6)), by simp; omega, fun a x h n b => ?_, fun a x h n => ?_, q6⟩
      · have hne : a ≠ D := fun z => by rw [z, nD6] at h; cases h
        exact (a6.rp.cell a c h).mv a6.rp mv6 (upd_ne hne)
      · by_cases hne : a = D
        · subst hne; exact ⟨nD6, _, upd_same⟩
        · obtain ⟨z, vs', e⟩ := a6.rp.busy a b
          exact ⟨z, vs', by rw [upd_ne hne]; exact e⟩
      · obtain ⟨h1, h2, h3⟩ := mvk a6.kept a x h n b
        exact ⟨by rw [upd_ne (hD1 h)]; exact h1, h2, h3⟩
      · have k1 := kp2 a x h n
        have k2 := a6.kept a x k1.1 k1.2
        exact ⟨by rw [upd_ne (hD1 h)]; exact k2.1, k2.2⟩
    | false =>
      dsimp only
      rw [if_neg Bool.false_ne_true]
      obtain ⟨eD5, nD5⟩ := a5.kept D _ eD nD
      exact ⟨acc, ws, M5, a5.rp, eD5, rs.after rp2 a5, Nat.le_succ_of_le hacc, mvk a5.kept, kp2.trans a5.kept, q5.2 rfl⟩
  · have ei : i = ts.length := by omega
    subst ei
    rw [List.drop_length] at q2
    refine .inl ⟨stop, ?_⟩
    -- D is made
    have q2 : newL m acc M2 Q2 := q2
    have nD : M2 D = none := (rp2.busy D (.inr rfl)).1
    have mvo : Mv (Bz B D) M2 H2 B M2 H2 := fun a x h n b => ⟨h, n, fun z => b (.inl z)⟩
    have rpB : Rp K B M2 H2 := ⟨fun a c h => (rp2.cell a c h).mv rp2 mvo rfl, fun a b => rp2.busy a (.inl b)⟩
    have af : After K B M1 H1 M2 H2 := ⟨rpB, kp2⟩
    have rsB : Reps K B M2 H2 ws acc := Reps.mv rp2 mvo _ _ rs
    have aft := af1.trans af
    cases m with
    | val =>
      refine cQ _ M2 _ _ q2 aft ?_
      unfold Rep
      exact ⟨D, ws, rfl, eD, nD, nB, rsB⟩
    | own =>
      have k3 : Kept M1 H1 (upS M2 D (.lst acc)) H2 := fun a x h n => ⟨(kp2 a x h n).1, by rw [upS_ne (hD1 h)]; exact (kp2 a x h n).2⟩
      have mv3 : Mv (Bz B D) M2 H2 B (upS M2 D (.lst acc)) H2 := fun a x h n b => ⟨h, by rw [upS_ne (fun z => b (.inr z))]; exact n, fun z => b (.inl z)⟩
      refine cQ _ _ _ _ (q2 D nD) (af1.trans ⟨⟨fun a c h => ?_, fun a b => ?_⟩, k3⟩) (by unfold Rep; rfl)
      · by_cases hne : a = D
        · subst hne
          rw [upS_same] at h
          obtain rfl := Option.some.inj h
          exact ⟨ws, eD, Reps.mv rp2 mv3 _ _ rs⟩
        · rw [upS_ne hne] at h
          exact (rp2.cell a c h).mv rp2 mv3 rfl
      · obtain ⟨z, vs', e⟩ := rp2.busy a (.inl b)
        exact ⟨by rw [upS_ne (fun z => nB (by rw [← z]; exact b))]; exact z, vs', e⟩
    | cup =>
      obtain ⟨i, j, rfl, h0, h1, q2⟩ := q2
      have e : ws = [.int i, .int j] := Reps.ints (ns := [i, j]) rs
      subst e
      have k3 : Kept M1 H1 (upS M2 D .cup) H2 := fun a x h n => ⟨(kp2 a x h n).1, by rw [upS_ne (hD1 h)]; exact (kp2 a x h n).2⟩
      have mv3 : Mv (Bz B D) M2 H2 B (upS M2 D .cup) H2 := fun a x h n b => ⟨h, by rw [upS_ne (fun z => b (.inr z))]; exact n, fun z => b (.inl z)⟩
      refine cQ _ _ _ _ (q2 D nD) (af1.trans ⟨⟨fun a c h => ?_, fun a b => ?_⟩, k3⟩) (by unfold Rep; rfl)
      · by_cases hne : a = D
        · subst hne
          rw [upS_same] at h
          obtain rfl := Option.some.inj h
          exact ⟨i, j, eD, h0, h1⟩
        · rw [upS_ne hne] at h
          exact (rp2.cell a c h).mv rp2 mv3 rfl
      · obtain ⟨z, vs', e⟩ := rp2.busy a (.inl b)
        exact ⟨by rw [upS_ne (fun z => nB (by rw [← z]; exact b))]; exact z, vs', e⟩
end
end TL

/-! TLd: operators, comparisons, built-ins over trees. -/
namespace TL
open PySem PySem.Spec PyProof.Rows L2

/-! ### a sequence's content -/
def lsOf (M : Store) : T → Option (List T)
  | .lst ts => some ts
  | .loc a => match M a with
    | some (.lst ts) => some ts
    | _ => none
  | _ => none
def sqOf (M : Store) : T → Option (List T)
  | .lst ts => some ts
  | .tup ts => some ts
  | .scr ns => some (ns.map T.int)
  | .loc a => match M a with
    | some (.lst ts) => some ts
    | _ => none
  | _ => none
section
variable {K : PySem.W.Frag} {B : Addr → Prop} {M M' : Store} {H H' : Hp}
theorem loc_at (R : Rp K B M H) {a : Addr} {ts : List T} (e : M a = some (.lst ts)) : ∃ vs, H a = some (.lst vs) ∧ Reps K B M H vs ts := R.cell a _ e
theorem lsOf_ok (R : Rp K B M H) {v : V} {t : T} {ts : List T} (r : Rep K B M H v t) (e : lsOf M t = some ts) : ∃ a vs, v = .ref a ∧ H a = some (.lst vs) ∧ Reps K B M H vs ts := by
  cases t with
  | lst us =>
    cases e
    unfold Rep at r
    obtain ⟨a, vs, e1, e2, _, _, rs⟩ := r
    exact ⟨a, vs, e1, e2, rs⟩
  | loc a =>
    unfold Rep at r
    unfold lsOf at e
    dsimp only at e
    split at e
    · rename_i us h
      cases e
      obtain ⟨vs, e2, rs⟩ := loc_at R h
      exact ⟨a, vs, r, e2, rs⟩
    · cases e
  | _ => cases e
theorem sqOf_ok (R : Rp K B M H) {v : V} {t : T} {ts : List T} (r : Rep K B M H v t) (e : sqOf M t = some ts) : ∃ a vs, v = .ref a ∧ (SqL K H a vs ∨ SqT K H a vs) ∧ Reps K B M H vs ts := by
  cases t with
  | lst us =>
    cases e
    unfold Rep at r
    obtain ⟨a, vs, e1, e2, _, _, rs⟩ := r
    exact ⟨a, vs, e1, .inl (SqL.of e2), rs⟩
  | tup us =>
    cases e
    unfold Rep at r
    obtain ⟨a, vs, e1, e2, rs⟩ := r
    exact ⟨a, vs, e1, .inr e2, rs⟩
  | scr ns =>
    cases e
    unfold Rep at r
    obtain ⟨a, e1, e2⟩ := r
    exact ⟨a, _, e1, .inl e2.sq, Reps.of_ints⟩
  | loc a =>
    unfold Rep at r
    unfold sqOf at e
    dsimp only at e
    split at e
    · rename_i us h
      cases e
      obtain ⟨vs, e2, rs⟩ := loc_at R h
      exact ⟨a, vs, r, .inl (SqL.of e2), rs⟩
    · cases e
  | _ => cases e
theorem rep_tup {v : V} {ts : List T} (r : Rep K B M H v (.tup ts)) : ∃ a vs, v = .ref a ∧ SqT K H a vs ∧ Reps K B M H vs ts := by unfold Rep at r; exact r
theorem rep_loc {v : V} {a : Addr} (r : Rep K B M H v (.loc a)) : v = .ref a := by unfold Rep at r; exact r
theorem Rep.int {i : Int} : Rep K B M H (.int i) (.int i) := by unfold Rep; rfl
theorem Rep.bl {b : Bool} : Rep K B M H (.bl b) (.bl b) := by unfold Rep; rfl
theorem Rep.str {x : Str} : Rep K B M H (.str x) (.str x) := by unfold Rep; rfl
theorem Rep.non : Rep K B M H .non .non := by unfold Rep; rfl
/-- a tuple that is new or not -/
theorem Rep.tupNew (R : Rp K B M H) {p : Addr} {vs : List V} {ts : List T} (rs : Reps K B M H vs ts) (hp : H p = none) : After K B M H M (upd H p (.tup vs)) ∧ Rep K B M (upd H p (.tup vs)) (.ref p) (.tup ts) := by
  have af := After.laid R (o := .tup vs) hp
  refine ⟨af, ?_⟩
  unfold Rep
  exact ⟨p, vs, rfl, SqT.of upd_same, rs.after R af⟩
theorem Rep.tupOld {p : Addr} {vs : List V} {ts : List T} (rs : Reps K B M H vs ts) (h : SqT K H p vs) : Rep K B M H (.ref p) (.tup ts) := by
  unfold Rep
  exact ⟨p, vs, rfl, h, rs⟩
end

/-! ### plain data -/
mutual
def okT : Nat → T → Bool
  | _, .non => true
  | _, .bl _ => true
  | _, .int _ => true
  | _, .str x => PyData.strOk x
  | n + 1, .tup ts => okTs n ts
  | n + 1, .lst ts => okTs n ts
  | _, _ => false
def okTs : Nat → List T → Bool
  | _, [] => true
  | n, t :: ts => okT n t && okTs n ts
end
mutual
def dat : T → PyData
  | .non => .none
  | .bl b => .bool b
  | .int i => .int i
  | .str x => .str x
  | .tup ts => .tuple (dats ts)
  | .lst ts => .list (dats ts)
  | _ => .none
def dats : List T → List PyData
  | [] => []
  | t :: ts => dat t :: dats ts
end
mutual
def eqT : T → T → Bool
  | .non, u => match u with
    | .non => true
    | _ => false
  | .bl a, u => match u with
    | .bl b => a == b
    | .int j => decide ((if a then 1 else 0) = j)
    | _ => false
  | .int i, u => match u with
    | .bl b => decide (i = (if b then 1 else 0))
    | .int j => decide (i = j)
    | _ => false
  | .str x, u => match u with
    | .str y => decide (x = y)
    | _ => false
  | .tup ts, u => match u with
    | .tup us => eqTs ts us
    | _ => false
  | .lst ts, u => match u with
    | .lst us => eqTs ts us
    | _ => false
  | _, _ => false
def eqTs : List T → List T → Bool
  | [], us => match us with
    | [] => true
    | _ :: _ => false
  | t :: ts, us => match us with
    | [] => false
    | u :: us => eqT t u && eqTs ts us
end
theorem beq_dec {α : Type} [DecidableEq α] (a b : α) : (a == b) = decide (a = b) := rfl
mutual
theorem eqv_dat : ∀ (a b : T) (n m : Nat), okT n a = true → okT m b = true → PyData.eqv (dat a) (dat b) = eqT a b
  | .non, b, n, m, _, hb => by cases b <;> simp_all [dat, eqT, PyData.eqv, okT]
  | .bl x, b, n, m, _, hb => by cases b <;> simp_all [dat, eqT, PyData.eqv, okT, beq_dec]
  | .int x, b, n, m, _, hb => by cases b <;> simp_all [dat, eqT, PyData.eqv, okT, beq_dec]
  | .str x, b, n, m, _, hb => by cases b <;> simp_all [dat, eqT, PyData.eqv, okT, beq_dec]
  | .tup ts, b, n, m, ha, hb => by
    cases n with
    | zero => simp [okT] at ha
    | succ n =>
      cases b with
      | tup us =>
        cases m with
        | zero => simp [okT] at hb
        | succ m =>
          simp only [okT] at ha hb
          simp only [dat, eqT, PyData.eqv]
          exact eqv_dats ts us n m ha hb
      | _ => simp_all [dat, eqT, PyData.eqv, okT]
  | .lst ts, b, n, m, ha, hb => by
    cases n with
    | zero => simp [okT] at ha
    | succ n =>
      cases b with
      | lst us =>
        cases m with
        | zero => simp [okT] at hb
        | succ m =>
          simp only [okT] at ha hb
          simp only [dat, eqT, PyData.eqv]
          exact eqv_dats ts us n m ha hb
      | _ => simp_all [dat, eqT, PyData.eqv, okT]
  | .loc _, b, n, m, ha, _ => by simp [okT] at ha
  | .scr _, b, n, m, ha, _ => by simp [okT] at ha
  | .fn _, b, n, m, ha, _ => by simp [okT] at ha
theorem eqv_dats : ∀ (as bs : List T) (n m : Nat), okTs n as = true → okTs m bs = true → PyData.eqvAll (dats as) (dats bs) = eqTs as bs
  | [], bs, n, m, _, _ => by cases bs <;> simp [dats, eqTs, PyData.eqvAll]
  | a :: as, [], n, m, _, _ => by simp [dats, eqTs, PyData.eqvAll]
  | a :: as, b :: bs, n, m, ha, hb => by
    simp only [okTs, Bool.and_eq_true] at ha hb
    simp only [dats, eqTs, PyData.eqvAll]
    rw [eqv_dat a b n m ha.1 hb.1, eqv_dats as bs n m ha.2 hb.2]
end
mutual
theorem ok_dat : ∀ (t : T) (n : Nat), okT n t = true → (dat t).canLay0 = true ∧ (dat t).depth ≤ n
  | .non, n, _ => by simp [dat, PyData.canLay0, PyData.depth]
  | .bl _, n, _ => by simp [dat, PyData.canLay0, PyData.depth]
  | .int _, n, _ => by simp [dat, PyData.canLay0, PyData.depth]
  | .str x, n, h => by
    have h' : PyData.strOk x = true := by cases n <;> simpa [okT] using h
    simp [dat, PyData.canLay0, PyData.depth, h']
  | .tup ts, 0, h => by simp [okT] at h
  | .tup ts, n + 1, h => by
    simp only [okT] at h
    obtain ⟨h1, h2⟩ := ok_dats ts n h
    simp only [dat, PyData.canLay0, PyData.depth]
    exact ⟨h1, by omega⟩
  | .lst ts, 0, h => by simp [okT] at h
  | .lst ts, n + 1, h => by
    simp only [okT] at h
    obtain ⟨h1, h2⟩ := ok_dats ts n h
    simp only [dat, PyData.canLay0, PyData.depth]
    exact ⟨h1, by omega⟩
  | .loc _, n, h => by simp [okT] at h
  | .scr _, n, h => by simp [okT] at h
  | .fn _, n, h => by simp [okT] at h
theorem ok_dats : ∀ (ts : List T) (n : Nat), okTs n ts = true → PyData.canLayAll0 (dats ts) = true ∧ PyData.depthAll (dats ts) ≤ n
  | [], n, _ => by simp [dats, PyData.canLayAll0, PyData.depthAll]
  | t :: ts, n, h => by
    simp only [okTs, Bool.and_eq_true] at h
    obtain ⟨h1, h2⟩ := ok_dat t n h.1
    obtain ⟨h3, h4⟩ := ok_dats ts n h.2
    simp only [dats, PyData.canLayAll0, PyData.depthAll, h1, h3, Bool.and_self, true_and]
    omega
end
theorem ok_shaped {t : T} {n : Nat} (h : okT n t = true) (hn : n ≤ 64) : SeqAt.shaped (dat t) = true := by
  obtain ⟨h1, h2⟩ := ok_dat t n h
  unfold SeqAt.shaped
  rw [h1, decide_eq_true (show (dat t).depth ≤ 64 by omega)]
  rfl
section
variable {K : PySem.W.Frag} {B : Addr → Prop} {M : Store} {H : Hp}
mutual
theorem rep_dat : ∀ (t : T) (n : Nat) (v : V), okT n t = true → Rep K B M H v t → Dp K H v (dat t)
  | .non, n, v, _, r => by rw [rep_non r]; unfold dat; exact .non
  | .bl b, n, v, _, r => by rw [rep_bl r]; unfold dat; exact .bl b
  | .int i, n, v, _, r => by rw [rep_int r]; unfold dat; exact .int i
  | .str x, n, v, _, r => by rw [rep_str r]; unfold dat; exact .str x
  | .tup ts, 0, v, h, _ => by simp [okT] at h
  | .tup ts, n + 1, v, h, r => by
    simp only [okT] at h
    unfold Rep at r
    obtain ⟨a, vs, rfl, s, rs⟩ := r
    unfold dat
    exact .tup s (rep_dats ts n vs h rs)
  | .lst ts, 0, v, h, _ => by simp [okT] at h
  | .lst ts, n + 1, v, h, r => by
    simp only [okT] at h
    unfold Rep at r
    obtain ⟨a, vs, rfl, s, _, _, rs⟩ := r
    unfold dat
    exact .lst (SqL.of s) (rep_dats ts n vs h rs)
  | .loc _, n, v, h, _ => by simp [okT] at h
  | .scr _, n, v, h, _ => by simp [okT] at h
  | .fn _, n, v, h, _ => by simp [okT] at h
theorem rep_dats : ∀ (ts : List T) (n : Nat) (vs : List V), okTs n ts = true → Reps K B M H vs ts → DpAll K H vs (dats ts)
  | [], n, [], _, _ => by unfold dats; exact .nil
  | [], n, _ :: _, _, r => by unfold Reps at r; exact r.elim
  | _ :: _, n, [], _, r => by unfold Reps at r; exact r.elim
  | t :: ts, n, v :: vs, h, r => by
    simp only [okTs, Bool.and_eq_true] at h
    unfold Reps at r
    unfold dats
    exact .cons (rep_dat t n v h.1 r.1) (rep_dats ts n vs h.2 r.2)
end
end
/-- an owned list seen as a value -/
def der (M : Store) : T → T
  | .loc a => match M a with
    | some (.lst ts) => .lst ts
    | _ => .loc a
  | t => t
theorem rep_der {K : PySem.W.Frag} {B : Addr → Prop} {M : Store} {H : Hp} (R : Rp K B M H) {v : V} {t : T} {n : Nat} (r : Rep K B M H v t) (h : okT n (der M t) = true) : Dp K H v (dat (der M t)) := by
  cases t with
  | loc a =>
    unfold der at h ⊢
    dsimp only at h ⊢
    split at h
    · rename_i ts e
      obtain ⟨vs, e2, rs⟩ := loc_at R e
      rw [rep_loc r]
      cases n with
      | zero => simp [okT] at h
      | succ n =>
        simp only [okT] at h
        unfold dat
        exact .lst (SqL.of e2) (rep_dats ts n vs h rs)
    · simp [okT] at h
  | _ => exact rep_dat _ n v h r

/-! ### operators -/
/-- two whole numbers may be multiplied: one is below 2 ^ 64, or both are not too great -/
def MulOk (i j : Int) : Prop := (-(2 ^ 64) < i ∧ i < 2 ^ 64) ∨ (-(2 ^ 64) < j ∧ j < 2 ^ 64) ∨ i.natAbs.log2 + j.natAbs.log2 < 1000000
def addS (m : Mu) : Op2 := fun x y M Q => match x with
  | .int i => match y with
    | .int j => Q (.int (i + j)) M
    | _ => False
  | .str a => match y with
    | .str b => a.length + b.length ≤ sizeLine ∧ Q (.str (a ++ b)) M
    | _ => False
  | .tup xs => match y with
    | .tup ys => xs.length + ys.length ≤ sizeLine ∧ Q (.tup (xs ++ ys)) M
    | _ => False
  | x => match lsOf M x with
    | some xs => match lsOf M y with
      | some ys => xs.length + ys.length ≤ sizeLine ∧ newL m (xs ++ ys) M Q
      | none => False
    | none => False
def subS : Op2 := fun x y M Q => match x, y with
  | .int i, .int j => Q (.int (i - j)) M
  | _, _ => False
def mulS (m : Mu) : Op2 := fun x y M Q => match y with
  | .int k => match x with
    | .int i => MulOk i k ∧ Q (.int (i * k)) M
    | .tup xs => (xs ≠ [] ∧ 2 ≤ k ∧ k ≤ 1000 ∧ xs.length ≤ 1000) ∧ Q (.tup (List.replicate k.toNat xs).flatten) M
    | .str a => (-(2 ^ 62) < k ∧ k < 2 ^ 62 ∧ a.length ≤ sizeLine ∧ a.length * k.toNat ≤ 16777216) ∧ Q (.str ⟨(List.replicate k.toNat a.cps.toList).flatten.toArray⟩) M
    | x => match lsOf M x with
      | some xs => (-(2 ^ 63) ≤ k ∧ k < 2 ^ 63 ∧ xs.length * k.toNat ≤ sizeLine) ∧ newL m (List.replicate k.toNat xs).flatten M Q
      | none => False
  | _ => False
def PosOk (j : Int) : Prop := 0 < j ∧ j.natAbs.log2 < 9000
def divS : Op2 := fun x y M Q => match x, y with
  | .int i, .int j => PosOk j ∧ Q (.int (i / j)) M
  | _, _ => False
def modS : Op2 := fun x y M Q => match x, y with
  | .int i, .int j => 0 < j ∧ Q (.int (i % j)) M
  | _, _ => False
def powS : Op2 := fun x y M Q => match x, y with
  | .int i, .int j => (0 ≤ j ∧ j ≤ 1000000 ∧ i.natAbs < 2 ^ 64) ∧ Q (.int (i ^ j.toNat)) M
  | _, _ => False
section
variable {X : Cx}
theorem o_add {m : Mu} : OpR X (binaryOp .Add) (lO X.K (addS m)) := by
  intro pins s σ H x y v u Q I rx ry ⟨B, M, Q2, a, b, R, ra, rb, q, cQ⟩
  have lists : ∀ (xs ys : List T), lsOf M a = some xs → lsOf M b = some ys → xs.length + ys.length ≤ sizeLine → newL m (xs ++ ys) M Q2 → wpAny (model X.prog X.w) X.A (binaryOp .Add v u) (EP X pins σ Q) X.xe s := by
    intro xs ys e1 e2 hz hn
    obtain ⟨p, vs, rfl, h1, r1⟩ := lsOf_ok R ra e1
    obtain ⟨p2, ws, rfl, h2, r2⟩ := lsOf_ok R rb e2
    exact op_cat pins s σ H _ _ v u Q I rx ry ⟨p, p2, vs, ws, rfl, rfl, h1, h2, by rw [r1.length, r2.length]; exact hz, fun p hp => newL_ok R (r1.append r2) hn cQ hp⟩
  cases a with
  | int i =>
    cases b with
    | int j =>
      obtain rfl := rep_int ra; obtain rfl := rep_int rb
      exact op_add pins s σ H _ _ v u Q I rx ry ⟨i, j, rfl, rfl, cQ _ M _ H q (After.refl R) Rep.int⟩
    | _ => exact q.elim
  | str i =>
    cases b with
    | str j =>
      obtain rfl := rep_str ra; obtain rfl := rep_str rb
      exact op_add_str pins s σ H _ _ v u Q I rx ry ⟨i, j, rfl, rfl, q.1, cQ _ M _ H q.2 (After.refl R) Rep.str⟩
    | _ => exact q.elim
  | tup xs =>
    cases b with
    | tup ys =>
      obtain ⟨p, vs, rfl, h1, r1⟩ := rep_tup ra
      obtain ⟨p2, ws, rfl, h2, r2⟩ := rep_tup rb
      refine op_catA pins s σ H _ _ v u Q I rx ry ⟨p, p2, vs, ws, rfl, rfl, h1, h2, by rw [r1.length, r2.length]; exact q.1, fun e => ?_, fun _ e => ?_, fun _ _ p hp => ?_⟩
      · subst e
        have e1 : xs = [] := List.length_eq_zero_iff.mp (by rw [← r1.length]; rfl)
        subst e1
        exact cQ _ M _ H q.2 (After.refl R) (Rep.tupOld r2 h2)
      · subst e
        have e1 : ys = [] := List.length_eq_zero_iff.mp (by rw [← r2.length]; rfl)
        subst e1
        exact cQ _ M _ H q.2 (After.refl R) (by rw [List.append_nil]; exact Rep.tupOld r1 h1)
      · obtain ⟨af, r3⟩ := Rep.tupNew R (r1.append r2) hp
        exact cQ _ M _ _ q.2 af r3
    | _ => exact q.elim
  | lst xs =>
    have q : (match lsOf M b with | some ys => xs.length + ys.length ≤ sizeLine ∧ newL m (xs ++ ys) M Q2 | none => False) := q
    cases e : lsOf M b with
    | none => rw [e] at q; exact q.elim
    | some ys => rw [e] at q; exact lists xs ys rfl e q.1 q.2
  | loc p =>
    have q : (match lsOf M (.loc p) with | some xs => (match lsOf M b with | some ys => xs.length + ys.length ≤ sizeLine ∧ newL m (xs ++ ys) M Q2 | none => False) | none => False) := q
    cases e0 : lsOf M (.loc p) with
    | none => rw [e0] at q; exact q.elim
    | some xs =>
      rw [e0] at q
      cases e : lsOf M b with
      | none => rw [e] at q; exact q.elim
      | some ys => rw [e] at q; exact lists xs ys e0 e q.1 q.2
  | non => exact q.elim
  | bl _ => exact q.elim
  | scr _ => exact q.elim
  | fn _ => exact q.elim
theorem ints2 {K : PySem.W.Frag} {B : Addr → Prop} {M : Store} {H : Hp} {a b : T} {G : Int → Int → Prop} (q : match a, b with | .int i, .int j => G i j | _, _ => False) {x y : V} (ra : Rep K B M H x a) (rb : Rep K B M H y b) :
    ∃ i j, x = .int i ∧ y = .int j ∧ G i j := by
  cases a with
  | int i =>
    cases b with
    | int j => exact ⟨i, j, rep_int ra, rep_int rb, q⟩
    | _ => exact q.elim
  | _ => exact q.elim
theorem o_sub : OpR X (binaryOp .Sub) (lO X.K subS) := by
  intro pins s σ H x y v u Q I rx ry ⟨B, M, Q2, a, b, R, ra, rb, q, cQ⟩
  obtain ⟨i, j, rfl, rfl, q⟩ := ints2 (G := fun i j => Q2 (.int (i - j)) M) q ra rb
  exact op_sub pins s σ H _ _ v u Q I rx ry ⟨i, j, rfl, rfl, cQ _ M _ H q (After.refl R) Rep.int⟩
theorem o_div : OpR X (binaryOp .FloorDiv) (lO X.K divS) := by
  intro pins s σ H x y v u Q I rx ry ⟨B, M, Q2, a, b, R, ra, rb, q, cQ⟩
  obtain ⟨i, j, rfl, rfl, q⟩ := ints2 (G := fun i j => PosOk j ∧ Q2 (.int (i / j)) M) q ra rb
  exact op_fdivW pins s σ H _ _ v u Q I rx ry ⟨i, j, rfl, rfl, q.1, cQ _ M _ H q.2 (After.refl R) Rep.int⟩
theorem o_mod : OpR X (binaryOp .Mod) (lO X.K modS) := by
  intro pins s σ H x y v u Q I rx ry ⟨B, M, Q2, a, b, R, ra, rb, q, cQ⟩
  obtain ⟨i, j, rfl, rfl, q⟩ := ints2 (G := fun i j => 0 < j ∧ Q2 (.int (i % j)) M) q ra rb
  exact op_mod pins s σ H _ _ v u Q I rx ry ⟨i, j, rfl, rfl, q.1, cQ _ M _ H q.2 (After.refl R) Rep.int⟩
theorem o_pow : OpR X (binaryOp .Pow) (lO X.K powS) := by
  intro pins s σ H x y v u Q I rx ry ⟨B, M, Q2, a, b, R, ra, rb, q, cQ⟩
  obtain ⟨i, j, rfl, rfl, q⟩ := ints2 (G := fun i j => (0 ≤ j ∧ j ≤ 1000000 ∧ i.natAbs < 2 ^ 64) ∧ Q2 (.int (i ^ j.toNat)) M) q ra rb
  exact op_pow pins s σ H _ _ v u Q I rx ry ⟨i, j, rfl, rfl, q.1, cQ _ M _ H q.2 (After.refl R) Rep.int⟩
theorem cps_fold (a : Array Nat) : ∀ n : Nat, (List.replicate n a).foldl (· ++ ·) #[] = (List.replicate n a.toList).flatten.toArray := by
  have h : ∀ (n : Nat) (z : Array Nat), (List.replicate n a).foldl (· ++ ·) z = z ++ (List.replicate n a.toList).flatten.toArray := by
    intro n
    induction n with
    | zero => intro z; simp
    | succ n ih =>
      intro z
      rw [List.replicate_succ, List.foldl_cons, ih, List.replicate_succ, List.flatten_cons]
      apply Array.ext'
      simp [List.append_assoc]
  intro n
  rw [h]
  simp
theorem o_mul {m : Mu} : OpR X (binaryOp .Mult) (lO X.K (mulS m)) := by
  intro pins s σ H x y v u Q I rx ry ⟨B, M, Q2, a, b, R, ra, rb, q, cQ⟩
  cases b with
  | int k =>
    obtain rfl := rep_int rb
    have lists : ∀ (xs : List T), lsOf M a = some xs → (-(2 ^ 63) ≤ k ∧ k < 2 ^ 63 ∧ xs.length * k.toNat ≤ sizeLine) ∧ newL m (List.replicate k.toNat xs).flatten M Q2 → wpAny (model X.prog X.w) X.A (binaryOp .Mult v u) (EP X pins σ Q) X.xe s := by
      intro xs e1 ⟨⟨h1, h2, h3⟩, hn⟩
      obtain ⟨p, vs, rfl, h4, r1⟩ := lsOf_ok R ra e1
      have rr : ∀ n : Nat, Reps X.K B M H (List.replicate n vs).flatten (List.replicate n xs).flatten := fun n => by
        induction n with
        | zero => exact Reps.nil
        | succ n ih =>
          rw [List.replicate_succ, List.replicate_succ, List.flatten_cons, List.flatten_cons]
          exact r1.append ih
      exact op_rep pins s σ H _ _ v u Q I rx ry ⟨p, k, vs, rfl, rfl, h4, h1, h2, by rw [r1.length]; exact h3, fun p hp => newL_ok R (rr _) hn cQ hp⟩
    cases a with
    | int i =>
      obtain rfl := rep_int ra
      obtain ⟨h, q⟩ := q
      rcases h with h | h | h
      · exact op_mul pins s σ H _ _ v u Q I rx ry ⟨i, k, rfl, rfl, .inl h, cQ _ M _ H q (After.refl R) Rep.int⟩
      · exact op_mul pins s σ H _ _ v u Q I rx ry ⟨i, k, rfl, rfl, .inr h, cQ _ M _ H q (After.refl R) Rep.int⟩
      · exact op_mulW pins s σ H _ _ v u Q I rx ry ⟨i, k, rfl, rfl, h, cQ _ M _ H q (After.refl R) Rep.int⟩
    | tup xs =>
      obtain ⟨p, vs, rfl, h1, r1⟩ := rep_tup ra
      obtain ⟨⟨q1, q2, q3, q4⟩, q⟩ := q
      have rr : ∀ n : Nat, Reps X.K B M H (List.replicate n vs).flatten (List.replicate n xs).flatten := fun n => by
        induction n with
        | zero => exact Reps.nil
        | succ n ih =>
          rw [List.replicate_succ, List.replicate_succ, List.flatten_cons, List.flatten_cons]
          exact r1.append ih
      refine op_repT pins s σ H _ _ v u Q I rx ry ⟨p, k, vs, rfl, rfl, h1, fun e => ?_, q2, q3, by rw [r1.length]; exact q4, fun p hp => ?_⟩
      · subst e
        exact q1 (List.length_eq_zero_iff.mp (by rw [← r1.length]; rfl))
      · obtain ⟨af, r3⟩ := Rep.tupNew R (rr k.toNat) hp
        exact cQ _ M _ _ q af r3
    | str z =>
      obtain rfl := rep_str ra
      obtain ⟨t, rfl⟩ := rx
      obtain ⟨t', rfl⟩ := ry
      obtain ⟨⟨q1, q2, q3, q4⟩, q⟩ := q
      have fin : ∀ (w : Str) (tk : Tok) (n : Nat), w = ⟨(List.replicate k.toNat z.cps.toList).flatten.toArray⟩ → EP X pins σ Q (.str w tk) { s with toks := n } := fun w tk n e => by
        subst e
        exact ⟨.str _, H, I.tok _, ⟨_, rfl⟩, cQ _ M _ H q (After.refl R) Rep.str⟩
      refine P.mul_str ?_ (fun h1 _ h2 => ?_) (fun h1 _ => ?_) ?_
      · rw [decide_eq_false (show ¬ k < -(2 ^ 63 : Int) by omega), decide_eq_false (show ¬ k ≥ 2 ^ 63 by omega)]; rfl
      · have hz : z.length * k.toNat ≤ 16777216 := q4
        have : ((z.length : Int)) * k ≤ 16777216 := by
          have e : k = ((k.toNat : Nat) : Int) := by omega
          rw [e, ← Int.natCast_mul]
          exact Int.ofNat_le.mpr hz
        have h3 : (2 ^ 63 - 1) / k + 1 ≤ (z.length : Int) := by omega
        have h4 : ((2 ^ 63 - 1) / k + 1) * k ≤ (z.length : Int) * k := Int.mul_le_mul_of_nonneg_right h3 (by omega)
        have h5 := Int.lt_ediv_add_one_mul_self (2 ^ 63 - 1) (show 0 < k by omega)
        omega
      · unfold Builtin.Str.tooLong
        exact decide_eq_false (by show ¬ z.length * k.toNat > sizeLine; unfold sizeLine; omega)
      · by_cases h1 : k < 1
        · rw [if_pos h1]
          refine ⟨by decide, fin _ _ _ ?_⟩
          have : k.toNat = 0 := by omega
          rw [this]; rfl
        · rw [if_neg h1]
          by_cases h2 : (k == 1 || z.length == 0) = true
          · rw [if_pos h2]
            show EP X pins σ Q (.str z t) s
            have e : z = ⟨(List.replicate k.toNat z.cps.toList).flatten.toArray⟩ := by
              rcases Bool.or_eq_true_iff.mp h2 with h | h
              · have : k = 1 := eq_of_beq h
                subst this
                cases z; simp
              · have hz : z.length = 0 := eq_of_beq h
                obtain ⟨c⟩ := z
                have hc : c = #[] := Array.eq_empty_of_size_eq_zero hz
                subst hc
                simp
            have := fin z t s.toks e
            exact this
          · rw [if_neg h2]
            refine ⟨?_, fin _ _ _ ?_⟩
            · show (Str.length ⟨(List.replicate k.toNat z.cps).foldl (· ++ ·) #[]⟩) ≤ sizeLine
              rw [cps_fold]
              show (List.replicate k.toNat z.cps.toList).flatten.toArray.size ≤ sizeLine
              rw [List.size_toArray, List.length_flatten]
              simp only [List.map_replicate, List.sum_replicate_nat]
              have : z.length = z.cps.toList.length := by simp [Str.length]
              rw [← this, Nat.mul_comm]
              exact q4
            · rw [cps_fold]
    | lst xs => exact lists xs rfl q
    | loc p =>
      have q : (match lsOf M (.loc p) with | some xs => (-(2 ^ 63) ≤ k ∧ k < 2 ^ 63 ∧ xs.length * k.toNat ≤ sizeLine) ∧ newL m (List.replicate k.toNat xs).flatten M Q2 | none => False) := q
      cases e0 : lsOf M (.loc p) with
      | none => rw [e0] at q; exact q.elim
      | some xs => rw [e0] at q; exact lists xs e0 q
    | non => exact q.elim
    | bl _ => exact q.elim
    | scr _ => exact q.elim
    | fn _ => exact q.elim
  | _ => exact q.elim
/-- -a -/
def negS : Op1 := fun x M Q => match x with
  | .int i => Q (.int (-i)) M
  | _ => False
theorem o_neg : UnR X (unaryOp .USub) (lO1 X.K negS) := by
  intro pins s σ H x v Q I rx ⟨B, M, Q2, a, R, ra, q, cQ⟩
  cases a with
  | int i =>
    obtain rfl := rep_int ra
    exact un_neg pins s σ H _ v Q I rx ⟨i, rfl, cQ _ M _ H q (After.refl R) Rep.int⟩
  | _ => exact q.elim
end
end TL

/-! TLe: comparisons, truth, places, slices, calls of built-ins over trees. -/
namespace TL
open PySem PySem.Spec PyProof.Rows L2

/-- may these be compared with ==: texts, or data that is not too deep -/
def okEq (a b : T) : Bool := match a, b with
  | .str _, .str _ => true
  | a, b => okT 60 a && okT 60 b
def eqS : Op2 := fun x y M Q => okEq (der M x) (der M y) = true ∧ Q (.bl (eqT (der M x) (der M y))) M
def neS : Op2 := fun x y M Q => okEq (der M x) (der M y) = true ∧ Q (.bl (!eqT (der M x) (der M y))) M
def cmpS (p : Int → Int → Bool) : Op2 := fun x y M Q => match x, y with
  | .int i, .int j => Q (.bl (p i j)) M
  | _, _ => False
/-- is: None, or two bools -/
def isS (neg : Bool) : Op2 := fun x y M Q => match y with
  | .non => match x with
    | .non => Q (.bl (!neg)) M
    | .bl _ => Q (.bl neg) M
    | .int _ => Q (.bl neg) M
    | .str _ => Q (.bl neg) M
    | .tup _ => Q (.bl neg) M
    | .lst _ => Q (.bl neg) M
    | .loc _ => Q (.bl neg) M
    | _ => False
  | .bl b => match x with
    | .bl a => Q (.bl (if neg then !decide (a = b) else decide (a = b))) M
    | _ => False
  | _ => False
def flatT : T → Bool
  | .non => true
  | .bl _ => true
  | .int _ => true
  | .str _ => true
  | _ => false
def inS (neg : Bool) : Op2 := fun x y M Q => match sqOf M y with
  | some ys => flatT x = true ∧ ys.all flatT = true ∧ Q (.bl (if neg then !ys.any fun t => eqT t x else ys.any fun t => eqT t x)) M
  | none => match x, y with
    | .str a, .str b => Q (.bl (if neg then (Builtin.Str.occurrences b a 0 b.length 1).isEmpty else !(Builtin.Str.occurrences b a 0 b.length 1).isEmpty)) M
    | _, _ => False
section
variable {X : Cx}
theorem okEq_cases {a b : T} (h : okEq a b = true) : (∃ x y, a = .str x ∧ b = .str y) ∨ (okT 60 a = true ∧ okT 60 b = true) := by
  unfold okEq at h
  split at h
  · exact .inl ⟨_, _, rfl, rfl⟩
  · exact .inr (Bool.and_eq_true_iff.mp h)
theorem der_str {M : Store} {t : T} {x : Str} (h : der M t = .str x) : t = .str x := by
  cases t with
  | loc a =>
    unfold der at h
    dsimp only at h
    split at h <;> cases h
  | str y => exact h
  | _ => cases h
theorem o_eq (hu : X.A.units + 64 < cLine) : OpR X (compareOp .Eq) (lO X.K eqS) := by
  intro pins s σ H x y v u Q I rx ry ⟨B, M, Q2, a, b, R, ra, rb, ⟨ok, q⟩, cQ⟩
  rcases okEq_cases ok with ⟨z, w, ea, eb⟩ | ⟨ok1, ok2⟩
  · rw [ea, eb] at q
    obtain rfl := der_str ea
    obtain rfl := der_str eb
    obtain rfl := rep_str ra
    obtain rfl := rep_str rb
    refine op_eq pins s σ H _ _ v u Q I rx ry ⟨rfl, ?_⟩
    have e : eqT (.str z) (.str w) = decide (V.str z = V.str w) := by
      show decide (z = w) = _
      exact decide_eq_decide.mpr ⟨fun e => by rw [e], fun e => V.str.inj e⟩
    rw [← e]
    exact cQ _ M _ H q (After.refl R) Rep.bl
  · refine op_eqD hu pins s σ H x y v u Q I rx ry ⟨_, _, rep_der R ra ok1, rep_der R rb ok2, ok_shaped ok1 (by decide), ok_shaped ok2 (by decide), ?_⟩
    rw [eqv_dat _ _ 60 60 ok1 ok2]
    exact cQ _ M _ H q (After.refl R) Rep.bl
theorem o_ne (hu : X.A.units + 64 < cLine) : OpR X (compareOp .NotEq) (lO X.K neS) := by
  intro pins s σ H x y v u Q I rx ry ⟨B, M, Q2, a, b, R, ra, rb, ⟨ok, q⟩, cQ⟩
  rcases okEq_cases ok with ⟨z, w, ea, eb⟩ | ⟨ok1, ok2⟩
  · rw [ea, eb] at q
    obtain rfl := der_str ea
    obtain rfl := der_str eb
    obtain rfl := rep_str ra
    obtain rfl := rep_str rb
    refine op_ne pins s σ H _ _ v u Q I rx ry ⟨rfl, ?_⟩
    have e : eqT (.str z) (.str w) = decide (V.str z = V.str w) := by
      show decide (z = w) = _
      exact decide_eq_decide.mpr ⟨fun e => by rw [e], fun e => V.str.inj e⟩
    rw [← e]
    exact cQ _ M _ H q (After.refl R) Rep.bl
  · refine op_neD hu pins s σ H x y v u Q I rx ry ⟨_, _, rep_der R ra ok1, rep_der R rb ok2, ok_shaped ok1 (by decide), ok_shaped ok2 (by decide), ?_⟩
    rw [eqv_dat _ _ 60 60 ok1 ok2]
    exact cQ _ M _ H q (After.refl R) Rep.bl
theorem o_lt : OpR X (compareOp .Lt) (lO X.K (cmpS fun i j => decide (i < j))) := by
  intro pins s σ H x y v u Q I rx ry ⟨B, M, Q2, a, b, R, ra, rb, q, cQ⟩
  obtain ⟨i, j, rfl, rfl, q⟩ := ints2 (G := fun i j => Q2 (.bl (decide (i < j))) M) q ra rb
  exact op_lt pins s σ H _ _ v u Q I rx ry ⟨i, j, rfl, rfl, cQ _ M _ H q (After.refl R) Rep.bl⟩
theorem o_le : OpR X (compareOp .LtE) (lO X.K (cmpS fun i j => decide (i ≤ j))) := by
  intro pins s σ H x y v u Q I rx ry ⟨B, M, Q2, a, b, R, ra, rb, q, cQ⟩
  obtain ⟨i, j, rfl, rfl, q⟩ := ints2 (G := fun i j => Q2 (.bl (decide (i ≤ j))) M) q ra rb
  exact op_le pins s σ H _ _ v u Q I rx ry ⟨i, j, rfl, rfl, cQ _ M _ H q (After.refl R) Rep.bl⟩
theorem o_gt : OpR X (compareOp .Gt) (lO X.K (cmpS fun i j => decide (j < i))) := by
  intro pins s σ H x y v u Q I rx ry ⟨B, M, Q2, a, b, R, ra, rb, q, cQ⟩
  obtain ⟨i, j, rfl, rfl, q⟩ := ints2 (G := fun i j => Q2 (.bl (decide (j < i))) M) q ra rb
  exact op_gt pins s σ H _ _ v u Q I rx ry ⟨i, j, rfl, rfl, cQ _ M _ H q (After.refl R) Rep.bl⟩
theorem o_ge : OpR X (compareOp .GtE) (lO X.K (cmpS fun i j => decide (j ≤ i))) := by
  intro pins s σ H x y v u Q I rx ry ⟨B, M, Q2, a, b, R, ra, rb, q, cQ⟩
  obtain ⟨i, j, rfl, rfl, q⟩ := ints2 (G := fun i j => Q2 (.bl (decide (j ≤ i))) M) q ra rb
  exact op_ge pins s σ H _ _ v u Q I rx ry ⟨i, j, rfl, rfl, cQ _ M _ H q (After.refl R) Rep.bl⟩
theorem isN_read {neg : Bool} {B : Addr → Prop} {M : Store} {H : Hp} {x : V} {a : T} {Q2 : K2} {Q : VK} (R : Rp X.K B M H) (ra : Rep X.K B M H x a) (q : isS neg a .non M Q2)
    (cQ : ∀ t M2 v H2, Q2 t M2 → After X.K B M H M2 H2 → Rep X.K B M2 H2 v t → Q v H2) : Q (.bl (if neg then !decide (x = .non) else decide (x = .non))) H := by
  have no : ∀ a : Addr, decide (V.ref a = V.non) = false := fun a => decide_eq_false (fun z => nomatch z)
  have fin : ∀ b : Bool, Q2 (.bl b) M → Q (.bl b) H := fun b h => cQ _ M _ H h (After.refl R) Rep.bl
  cases a with
  | non => obtain rfl := rep_non ra; exact fin _ (by cases neg <;> exact q)
  | bl b => obtain rfl := rep_bl ra; exact fin _ (by cases neg <;> exact q)
  | int b => obtain rfl := rep_int ra; exact fin _ (by cases neg <;> exact q)
  | str b => obtain rfl := rep_str ra; exact fin _ (by cases neg <;> exact q)
  | tup ts => obtain ⟨p, vs, rfl, _⟩ := rep_tup ra; rw [no]; exact fin _ (by cases neg <;> exact q)
  | lst ts => unfold Rep at ra; obtain ⟨p, vs, rfl, _⟩ := ra; rw [no]; exact fin _ (by cases neg <;> exact q)
  | loc p => obtain rfl := rep_loc ra; rw [no]; exact fin _ (by cases neg <;> exact q)
  | scr _ => exact q.elim
  | fn _ => exact q.elim
theorem o_is : OpR X (compareOp .Is) (lO X.K (isS false)) := by
  intro pins s σ H x y v u Q I rx ry ⟨B, M, Q2, a, b, R, ra, rb, q, cQ⟩
  cases b with
  | non =>
    obtain rfl := rep_non rb
    exact op_isN pins s σ H _ _ v u Q I rx ry ⟨rfl, isN_read R ra q cQ⟩
  | bl b =>
    obtain rfl := rep_bl rb
    cases a with
    | bl a =>
      obtain rfl := rep_bl ra
      exact op_is_bl pins s σ H _ _ v u Q I rx ry ⟨a, b, rfl, rfl, cQ _ M _ H q (After.refl R) Rep.bl⟩
    | _ => exact q.elim
  | _ => exact q.elim
theorem o_isnot : OpR X (compareOp .IsNot) (lO X.K (isS true)) := by
  intro pins s σ H x y v u Q I rx ry ⟨B, M, Q2, a, b, R, ra, rb, q, cQ⟩
  cases b with
  | non =>
    obtain rfl := rep_non rb
    exact op_notN pins s σ H _ _ v u Q I rx ry ⟨rfl, isN_read R ra q cQ⟩
  | bl b =>
    obtain rfl := rep_bl rb
    cases a with
    | bl a =>
      obtain rfl := rep_bl ra
      exact op_isnot_bl pins s σ H _ _ v u Q I rx ry ⟨a, b, rfl, rfl, cQ _ M _ H q (After.refl R) Rep.bl⟩
    | _ => exact q.elim
  | _ => exact q.elim
theorem flat_rep {B : Addr → Prop} {M : Store} {H : Hp} {v : V} {t : T} (r : Rep X.K B M H v t) (h : flatT t = true) : flatV v = true := by
  cases t with
  | non => obtain rfl := rep_non r; rfl
  | bl b => obtain rfl := rep_bl r; rfl
  | int b => obtain rfl := rep_int r; rfl
  | str b => obtain rfl := rep_str r; rfl
  | _ => cases h
theorem flat_eq {B : Addr → Prop} {M : Store} {H : Hp} {v w : V} {t u : T} (r : Rep X.K B M H v t) (r2 : Rep X.K B M H w u) (h : flatT t = true) (h2 : flatT u = true) : eqV v w = eqT t u := by
  cases t with
  | non =>
    obtain rfl := rep_non r
    cases u with
    | non => obtain rfl := rep_non r2; rfl
    | bl b => obtain rfl := rep_bl r2; rfl
    | int b => obtain rfl := rep_int r2; rfl
    | str b => obtain rfl := rep_str r2; rfl
    | _ => cases h2
  | bl a =>
    obtain rfl := rep_bl r
    cases u with
    | non => obtain rfl := rep_non r2; rfl
    | bl b => obtain rfl := rep_bl r2; first | rfl | (cases a <;> cases b <;> rfl)
    | int b => obtain rfl := rep_int r2; first | rfl | (cases a <;> simp [eqV, eqT, beq_dec])
    | str b => obtain rfl := rep_str r2; rfl
    | _ => cases h2
  | int a =>
    obtain rfl := rep_int r
    cases u with
    | non => obtain rfl := rep_non r2; rfl
    | bl b => obtain rfl := rep_bl r2; first | rfl | (cases b <;> simp [eqV, eqT, beq_dec])
    | int b => obtain rfl := rep_int r2; first | rfl | simp [eqV, eqT, beq_dec]
    | str b => obtain rfl := rep_str r2; rfl
    | _ => cases h2
  | str a =>
    obtain rfl := rep_str r
    cases u with
    | non => obtain rfl := rep_non r2; rfl
    | bl b => obtain rfl := rep_bl r2; rfl
    | int b => obtain rfl := rep_int r2; rfl
    | str b => obtain rfl := rep_str r2; first | rfl | simp [eqV, eqT, beq_dec]
    | _ => cases h2
  | _ => cases h
theorem flats {B : Addr → Prop} {M : Store} {H : Hp} {w : V} {u : T} (r2 : Rep X.K B M H w u) (h2 : flatT u = true) : ∀ {ts : List T} {vs : List V}, Reps X.K B M H vs ts → ts.all flatT = true →
    vs.all flatV = true ∧ inV w vs = ts.any fun t => eqT t u
  | [], [], _, _ => ⟨rfl, rfl⟩
  | [], _ :: _, r, _ => by unfold Reps at r; exact r.elim
  | _ :: _, [], r, _ => by unfold Reps at r; exact r.elim
  | t :: ts, v :: vs, r, h => by
    unfold Reps at r
    rw [List.all_cons, Bool.and_eq_true] at h
    obtain ⟨h3, h4⟩ := flats r2 h2 r.2 h.2
    refine ⟨by rw [List.all_cons, flat_rep r.1 h.1, h3]; rfl, ?_⟩
    unfold inV at h4 ⊢
    rw [List.any_cons, List.any_cons, h4, flat_eq r.1 r2 h.1 h2]
theorem in_read {neg : Bool} {B : Addr → Prop} {M : Store} {H : Hp} {x y : V} {a b : T} {Q2 : K2} {Q : VK} {ys : List T} (R : Rp X.K B M H) (ra : Rep X.K B M H x a) (rb : Rep X.K B M H y b) (e : sqOf M b = some ys) (q : inS neg a b M Q2)
    (cQ : ∀ t M2 v H2, Q2 t M2 → After X.K B M H M2 H2 → Rep X.K B M2 H2 v t → Q v H2) : rIn X.K neg x y H Q := by
  unfold inS at q
  rw [e] at q
  obtain ⟨f1, f2, q⟩ := q
  obtain ⟨p, vs, rfl, hp, rs⟩ := sqOf_ok R rb e
  obtain ⟨h3, h4⟩ := flats ra f1 rs f2
  refine ⟨p, vs, rfl, hp, flat_rep ra f1, h3, ?_⟩
  rw [h4]
  exact cQ _ M _ H q (After.refl R) Rep.bl
theorem in_none {neg : Bool} {M : Store} {a b : T} {Q2 : K2} (e : sqOf M b = none) (q : inS neg a b M Q2) : ∃ x y, a = .str x ∧ b = .str y ∧ Q2 (.bl (if neg then (Builtin.Str.occurrences y x 0 y.length 1).isEmpty else !(Builtin.Str.occurrences y x 0 y.length 1).isEmpty)) M := by
  unfold inS at q
  rw [e] at q
  cases a with
  | str x =>
    cases b with
    | str y => exact ⟨x, y, rfl, rfl, q⟩
    | _ => exact q.elim
  | _ => exact q.elim
theorem o_in : OpR X (compareOp .In) (lO X.K (inS false)) := by
  intro pins s σ H x y v u Q I rx ry ⟨B, M, Q2, a, b, R, ra, rb, q, cQ⟩
  cases e : sqOf M b with
  | some ys => exact op_in_seq pins s σ H _ _ v u Q I rx ry (in_read R ra rb e q cQ)
  | none =>
    obtain ⟨z, w, rfl, rfl, q⟩ := in_none e q
    obtain rfl := rep_str ra
    obtain rfl := rep_str rb
    exact op_in_str pins s σ H _ _ v u Q I rx ry ⟨z, w, rfl, rfl, cQ _ M _ H q (After.refl R) Rep.bl⟩
theorem o_notin : OpR X (compareOp .NotIn) (lO X.K (inS true)) := by
  intro pins s σ H x y v u Q I rx ry ⟨B, M, Q2, a, b, R, ra, rb, q, cQ⟩
  cases e : sqOf M b with
  | some ys => exact op_notIn_seq pins s σ H _ _ v u Q I rx ry (in_read R ra rb e q cQ)
  | none =>
    obtain ⟨z, w, rfl, rfl, q⟩ := in_none e q
    obtain rfl := rep_str ra
    obtain rfl := rep_str rb
    exact op_notIn_str pins s σ H _ _ v u Q I rx ry ⟨z, w, rfl, rfl, by rw [Bool.not_not]; exact cQ _ M _ H q (After.refl R) Rep.bl⟩

/-! ### truth -/
def truT (M : Store) : T → Option Bool
  | .non => some false
  | .bl b => some b
  | .int i => some (i != 0)
  | .tup ts => some (!ts.isEmpty)
  | .lst ts => some (!ts.isEmpty)
  | .loc a => match M a with
    | some (.lst ts) => some (!ts.isEmpty)
    | _ => none
  | _ => none
def tTr (f : TE2) : TT2 := fun ρ M Q E => f ρ M (fun t M1 => match truT M1 t with
  | some b => Q b M1
  | none => False) E
theorem reps_empty {K : PySem.W.Frag} {B : Addr → Prop} {M : Store} {H : Hp} {ts : List T} {vs : List V} (r : Reps K B M H vs ts) : vs.isEmpty = ts.isEmpty := by
  cases ts with
  | nil => cases vs with
    | nil => rfl
    | cons _ _ => unfold Reps at r; exact r.elim
  | cons _ _ => cases vs with
    | nil => unfold Reps at r; exact r.elim
    | cons _ _ => rfl
theorem tru_rep {K : PySem.W.Frag} {B : Addr → Prop} {M : Store} {H : Hp} (R : Rp K B M H) {v : V} {t : T} {b : Bool} (r : Rep K B M H v t) (e : truT M t = some b) : TruV K v H b := by
  cases t with
  | non => obtain rfl := rep_non r; cases e; rfl
  | bl _ => obtain rfl := rep_bl r; cases e; rfl
  | int _ => obtain rfl := rep_int r; cases e; rfl
  | tup ts =>
    obtain ⟨p, vs, rfl, h, rs⟩ := rep_tup r
    cases e
    exact .inr (.inl ⟨vs, h, by rw [reps_empty rs]⟩)
  | lst ts =>
    cases e
    obtain ⟨p, vs, rfl, h, rs⟩ := lsOf_ok R r rfl
    exact .inl ⟨vs, SqL.of h, by rw [reps_empty rs]⟩
  | loc a =>
    unfold truT at e
    dsimp only at e
    split at e
    · rename_i ts h
      cases e
      obtain ⟨vs, e2, rs⟩ := loc_at R h
      obtain rfl := rep_loc r
      exact .inl ⟨vs, SqL.of e2, by rw [reps_empty rs]⟩
    · cases e
  | _ => cases e
theorem st_tr {cls : Nat → Value} {W : WX} {a : Expr} {fa : TE2} (ha : PE X a (lE cls X.K W fa)) (he : ∀ whole, isTrue a X.env whole = (do let v ← whole; standAt a.pos; holding [v] (truthy v))) : PT X a (lT cls X.K W (tTr fa)) := by
  refine (pt_truth ha he).to fun σ H Q ⟨B, ρ, M, Q2, E, n, f, cQ, cE⟩ => ?_
  refine ⟨B, ρ, M, _, E, n, f, fun t M1 v H1 q af r => ?_, cE⟩
  cases e : truT M1 t with
  | none => rw [e] at q; exact q.elim
  | some b =>
    rw [e] at q
    exact ⟨b, tru_rep af.rp r e, cQ b M1 H1 q af⟩

/-! ### places and slices -/
theorem atI_reps {K : PySem.W.Frag} {B : Addr → Prop} {M : Store} {H : Hp} {ts : List T} {vs : List V} {i : Int} {t : T} (r : Reps K B M H vs ts) (e : atI ts i = some t) : ∃ v, atI vs i = some v ∧ Rep K B M H v t := by
  unfold atI at e ⊢
  rw [r.length]
  cases q : ixN ts.length i with
  | none => rw [q] at e; cases e
  | some j =>
    rw [q] at e
    exact r.get e
/-- x[i]: a place of a list, a tuple, a text; of a pair that is not told any number -/
def ixS : Op2 := fun x y M Q => match y with
  | .int i => match x with
    | .str z => z.length ≤ sizeLine ∧ ∃ c, atI z.cps.toList i = some c ∧ Q (.str ⟨#[c]⟩) M
    | .tup ts => ∃ t, atI ts i = some t ∧ Q t M
    | .lst ts => ∃ t, atI ts i = some t ∧ Q t M
    | .loc a => match M a with
      | some (.lst ts) => ∃ t, atI ts i = some t ∧ Q t M
      | some .cup => (i = 0 ∧ ∀ n : Int, Q (.int n) M) ∨ (i = 1 ∧ ∀ n : Int, 0 ≤ n → n < 4294967296 → Q (.int n) M)
      | none => False
    | _ => False
  | _ => False
/-- one rule for all places -/
theorem i_ix : IxR X (lO X.K ixS) := by
  intro value slice pins s σ H x y v u Q I rx ry ⟨B, M, Q2, a, b, R, ra, rb, q, cQ⟩ hs
  cases b with
  | int i =>
    obtain rfl := rep_int rb
    have seqL : ∀ (p : Addr) (vs : List V) (ts : List T), SqL X.K H p vs → Reps X.K B M H vs ts → x = .ref p → (∃ t, atI ts i = some t ∧ Q2 t M) → rIxL X.K x (.int i) H Q := fun p vs ts h rs e ⟨t, et, qt⟩ => by
      obtain ⟨w, ew, rw'⟩ := atI_reps rs et
      exact ⟨p, vs, i, w, e, rfl, h, ew, cQ t M w H qt (After.refl R) rw'⟩
    cases a with
    | str z =>
      obtain rfl := rep_str ra
      obtain ⟨hz, c, ec, q⟩ := q
      exact ix_str value slice pins s σ H _ _ v u Q I rx ry ⟨z, i, c, rfl, rfl, hz, ec, cQ _ M _ H q (After.refl R) Rep.str⟩ hs
    | tup ts =>
      obtain ⟨p, vs, rfl, h1, rs⟩ := rep_tup ra
      obtain ⟨t, et, qt⟩ := q
      obtain ⟨w, ew, rw'⟩ := atI_reps rs et
      exact ix_tup value slice pins s σ H _ _ v u Q I rx ry ⟨p, vs, i, w, rfl, rfl, h1, ew, cQ t M w H qt (After.refl R) rw'⟩ hs
    | lst ts =>
      obtain ⟨p, vs, e, h1, rs⟩ := lsOf_ok R ra rfl
      exact ix_list value slice pins s σ H _ _ v u Q I rx ry (seqL p vs ts (SqL.of h1) rs e q) hs
    | loc p =>
      have e := rep_loc ra
      have q : (match M p with | some (.lst ts) => ∃ t, atI ts i = some t ∧ Q2 t M | some .cup => (i = 0 ∧ ∀ n : Int, Q2 (.int n) M) ∨ (i = 1 ∧ ∀ n : Int, 0 ≤ n → n < 4294967296 → Q2 (.int n) M) | none => False) := q
      cases em : M p with
      | none => rw [em] at q; exact q.elim
      | some c =>
        rw [em] at q
        cases c with
        | lst ts =>
          obtain ⟨vs, e2, rs⟩ := loc_at R em
          exact ix_list value slice pins s σ H _ _ v u Q I rx ry (seqL p vs ts (SqL.of e2) rs e q) hs
        | cup =>
          obtain ⟨m, n, e2, h0, h1⟩ := R.cell p _ em
          rcases q with ⟨rfl, q0⟩ | ⟨rfl, q0⟩
          · exact ix_list value slice pins s σ H _ _ v u Q I rx ry ⟨p, _, 0, .int m, e, rfl, SqL.of e2, rfl, cQ _ M _ H (q0 m) (After.refl R) Rep.int⟩ hs
          · exact ix_list value slice pins s σ H _ _ v u Q I rx ry ⟨p, _, 1, .int n, e, rfl, SqL.of e2, rfl, cQ _ M _ H (q0 n h0 h1) (After.refl R) Rep.int⟩ hs
    | _ => exact q.elim
  | _ => exact q.elim
/-- a part of a slice -/
abbrev TO2 := St2 → Store → (Option Int → Store → Prop) → EK → Prop
def lP (cls : Nat → Value) (K : PySem.W.Frag) (W : WX) (f : TO2) : TO := fun σ H Q => ∃ B ρ M Q2 E, Now K B ρ M σ H ∧ f ρ M Q2 E ∧ (∀ o M2 H2, Q2 o M2 → After K B M H M2 H2 → Q o H2) ∧ ExOk cls K W B M H σ E
theorem _root_.L2.PO.to {X : Cx} {e : Option Expr} {t t' : TO} (h : PO X e t) (w : ∀ σ H Q, t' σ H Q → t σ H Q) : PO X e t' := ⟨fun pins s σ H Q I q => h.run pins s σ H Q I (w σ H Q q)⟩
def tP0 : TO2 := fun _ M Q _ => Q none M
def tP1 (f : TE2) : TO2 := fun ρ M Q E => f ρ M (fun t M1 => match t with
  | .int i => Q (some i) M1
  | _ => False) E
theorem sp_none {cls : Nat → Value} {W : WX} : PO X none (lP cls X.K W tP0) := PO.to (t := tNoPart) po_none fun σ H Q ⟨B, ρ, M, Q2, E, n, f, cQ, cE⟩ => cQ none M H f (After.refl n.rp)
theorem sp_some {cls : Nat → Value} {W : WX} {e : Expr} {f : TE2} (h : PE X e (lE cls X.K W f)) : PO X (some e) (lP cls X.K W (tP1 f)) := (po_some h).to fun σ H Q ⟨B, ρ, M, Q2, E, n, f, cQ, cE⟩ => by
  refine ⟨B, ρ, M, _, E, n, f, fun t M1 v H1 q af r => ?_, cE⟩
  cases t with
  | int i => exact ⟨i, rep_int r, cQ _ M1 H1 q af⟩
  | _ => exact q.elim
def cutT {α : Type} (ts : List α) (lo hi : Option Int) : List α := (ts.drop (HT.sIx ts.length 0 lo)).take (HT.sIx ts.length ts.length hi - HT.sIx ts.length 0 lo)
theorem reps_cut {K : PySem.W.Frag} {B : Addr → Prop} {M : Store} {H : Hp} {ts : List T} {vs : List V} (r : Reps K B M H vs ts) (lo hi : Option Int) : Reps K B M H (cutV vs lo hi) (cutT ts lo hi) := by
  unfold cutV cutT
  rw [r.length]
  exact (r.drop _).take _
theorem cut_whole {α : Type} {ts : List α} {lo hi : Option Int} (h : HT.sIx ts.length 0 lo = 0 ∧ HT.sIx ts.length ts.length hi = ts.length) : cutT ts lo hi = ts := by
  unfold cutT
  rw [h.1, h.2, List.drop_zero, Nat.sub_zero, List.take_length]
def slS (m : Mu) (x : T) (lo hi : Option Int) (M : Store) (Q : K2) : Prop := match x with
  | .str z => z.length ≤ sizeLine ∧ Q (.str ⟨(cutT z.cps.toList lo hi).toArray⟩) M
  | .tup ts => Q (.tup (cutT ts lo hi)) M
  | x => match lsOf M x with
    | some ts => newL m (cutT ts lo hi) M Q
    | none => False
def lSl (K : PySem.W.Frag) (m : Mu) : V → Option Int → Option Int → Hp → VK → Prop := fun x lo hi H Q => ∃ B M Q2 a, Rp K B M H ∧ Rep K B M H x a ∧ slS m a lo hi M Q2 ∧ ∀ t M2 v H2, Q2 t M2 → After K B M H M2 H2 → Rep K B M2 H2 v t → Q v H2
theorem l_sl {m : Mu} : SlR X (lSl X.K m) := by
  intro pins s σ H x v vl vu lo hi sl Q I rx hs pl pu ⟨B, M, Q2, a, R, ra, q, cQ⟩
  have lists : ∀ ts : List T, lsOf M a = some ts → newL m (cutT ts lo hi) M Q2 → ∃ T id, typeLookup (Value.type T) (Str.ofString "__getitem__") = pure (some (Value.builtin id)) ∧ s.TypeIs v T ∧ wpAny (model X.prog X.w) X.A (getItem v (Value.ref sl)) (EP X pins σ Q) X.xe s := fun ts e hn => by
    obtain ⟨p, vs, rfl, h1, rs⟩ := lsOf_ok R ra e
    exact sl_list pins s σ H _ v vl vu lo hi sl Q I rx hs pl pu ⟨p, vs, rfl, SqL.of h1, fun p hp => newL_ok R (reps_cut rs lo hi) hn cQ hp⟩
  cases a with
  | str z =>
    obtain rfl := rep_str ra
    refine sl_str pins s σ H _ v vl vu lo hi sl Q I rx hs pl pu ⟨z, rfl, q.1, ?_⟩
    have e : cutS z lo hi = ⟨(cutT z.cps.toList lo hi).toArray⟩ := by
      unfold cutS cutT
      simp [Str.length]
    rw [e]
    exact cQ _ M _ H q.2 (After.refl R) Rep.str
  | tup ts =>
    obtain ⟨p, vs, rfl, h1, rs⟩ := rep_tup ra
    refine sl_tupA pins s σ H _ v vl vu lo hi sl Q I rx hs pl pu ⟨p, vs, rfl, h1, fun hw => ?_, fun _ p hp => ?_⟩
    · have q : Q2 (.tup (cutT ts lo hi)) M := q
      rw [cut_whole (by rw [rs.length] at hw; exact hw)] at q
      exact cQ _ M _ H q (After.refl R) (Rep.tupOld rs h1)
    · obtain ⟨af, r3⟩ := Rep.tupNew R (reps_cut rs lo hi) hp
      exact cQ _ M _ _ q af r3
  | lst ts => exact lists ts rfl q
  | loc p =>
    have q : (match lsOf M (.loc p) with | some ts => newL m (cutT ts lo hi) M Q2 | none => False) := q
    cases e0 : lsOf M (.loc p) with
    | none => rw [e0] at q; exact q.elim
    | some xs => rw [e0] at q; exact lists xs e0 q
  | non => exact q.elim
  | bl _ => exact q.elim
  | int _ => exact q.elim
  | scr _ => exact q.elim
  | fn _ => exact q.elim
def tSl2 (m : Mu) (f : TE2) (fl fh : TO2) : TE2 := fun ρ M Q E => f ρ M (fun x M1 => fl ρ M1 (fun lo M2 => fh ρ M2 (fun hi M3 => slS m x lo hi M3 Q) E) E) E
theorem se_slice {cls : Nat → Value} {W : WX} {e : Expr} {lo hi : Option Expr} {p2 pos : Pos} {m : Mu} {f : TE2} {fl fh : TO2} (he : PE X e (lE cls X.K W f)) (hl : PO X lo (lP cls X.K W fl)) (hh : PO X hi (lP cls X.K W fh)) :
    PE X (.Subscript e (.Slice lo hi none p2) pos) (lE cls X.K W (tSl2 m f fl fh)) := by
  refine (pe_slice (l_sl (m := m)) he hl hh).to fun σ H Q ⟨B, ρ, M, Q2, E, n, f, cQ, cE⟩ => ?_
  refine ⟨B, ρ, M, _, E, n, f, fun x M1 v H1 q1 af1 rx => ⟨B, ρ, M1, _, E, n.after af1, q1, fun l M2 H2 q2 af2 => ⟨B, ρ, M2, _, E, (n.after af1).after af2, q2, fun h M3 H3 q3 af3 => ?_, (cE.after af1).after af2⟩, cE.after af1⟩, cE⟩
  have a23 := af2.trans af3
  exact ⟨B, M3, Q2, x, af3.rp, rx.after af1.rp a23, q3, fun t M4 w H4 q4 af4 r4 => cQ t M4 w H4 q4 (af1.trans (a23.trans af4)) r4⟩
end
end TL

/-! TLf: what loops walk; calls of built-ins and of their methods over trees. -/
namespace TL
open PySem PySem.Spec PyProof.Rows L2 RZ

/-! ### enumerate of a tuple -/
section
variable {prog : Program} {w : World} {A : Around} {E : Value → Shared → Prop} {s : Shared}
abbrev enObj (n : Nat) : Obj := { cls := .type "enumerate", data := .fields #[.none, .bool false, .ref n, rawInt 0, .none, .none] }
set_option maxHeartbeats 4000000 in
theorem en_meets {v : Value} {o : Obj} {Hd : Heap → Prop} (B : Begins v o Hd) : Meets (Builtin.«enumerate.__new__» ⟨[.type "enumerate", v], []⟩) (fun _ R z => Hd z.heap ∧
    R (.ok (.ret (.ref (z.heap.push o).objs.size))) { z with heap := (z.heap.push o).push (enObj z.heap.objs.size) }) := .of_wp fun prog w A R z hz => by
  obtain ⟨hp, g, d, tk, os⟩ := z
  obtain ⟨k1, k2⟩ := hz
  have isE := sub_enumerate
  have goOn : ∀ {A' : Around} {E : Value → Shared → Prop} {Q : Value → Shared → Prop}, Q (.ref hp.objs.size) ⟨hp.push o, g, d, tk, os⟩ → wpAny (model prog w) A' (pyIter v) Q E ⟨hp, g, d, tk, os⟩ := fun q => B.iter prog w _ _ ⟨hp, g, d, tk, os⟩ _ k1 q
  wp_walk using goOn
  refine wpAny_stack_any fun st => wpAny_pure ?_
  split
  · rename_i c _ _ _ _ _
    cases (c == Value.type "enumerate") <;> (wp_walk using goOn; exact ⟨_, rfl, k2⟩)
  · (wp_walk using goOn; exact ⟨_, rfl, k2⟩)
theorem en_call {v : Value} {o : Obj} {Hd : Heap → Prop} {Q : Value → Shared → Prop} (B : Begins v o Hd) (h1 : Hd s.heap)
    (go : ∀ g, IsEnum g (s.heap.objs.size + 1) s.heap.objs.size 0 .none → g.get? s.heap.objs.size = some o → (∀ b u, s.heap.get? b = some u → g.get? b = some u) → Q (.ref (s.heap.objs.size + 1)) { s with heap := g }) :
    wpAny (model prog w) A (call (.type "enumerate") [v]) Q E s := by
  refine callType_new F.called_enumerate (by decide) (F.typeCall_enumerate_1 _) (F.newCall_enumerate_1 _) (fun z => F.args_object_init_2 z _) F.entry_enumerate_new (en_meets B) ⟨h1, ?_⟩
  have sz : (s.heap.push o).objs.size = s.heap.objs.size + 1 := Heap.size_push ..
  have at1 := Heap.get?_push_size (s.heap.push o) (o := enObj s.heap.objs.size) rfl
  rw [sz] at at1
  show _ ∧ _
  rw [sz]
  exact ⟨⟨_, at1, rfl⟩, go _ at1 (Heap.get?_push_of_some _ (Heap.get?_push_size _ B.free)) fun b u e => Heap.get?_push_of_some _ (Heap.get?_push_of_some _ e)⟩
end
/-- the tuple at a, each item in a new pair -/
def IteT (K : PySem.W.Frag) (a : Addr) : It where
  go := fun i H => ∃ (xs : List V) (x : V), SqT K H a xs ∧ xs[i]? = some x
  yld := fun i H v H' => ∃ p x, v = .ref p ∧ H p = none ∧ H' = upd H p (.tup [.int (i : Nat), x]) ∧ ∀ xs, SqT K H a xs → xs[i]? = some x
  stop := fun i H => ∃ xs : List V, SqT K H a xs ∧ xs.length = i
theorem turn_enT {P : Program} {w : World} {K : PySem.W.Frag} {elts : List Expr} {kk : Nat} {tpos : Pos} (a e it : Addr) :
    Turn P w K (.Tuple elts kk tpos) (IteT K a) [e, it] e fun i h => (∃ old, IsEnum h e it ((i : Nat) : Int) old) ∧ h.IsTupleIter it a i ∧ e ≠ it where
  mem := List.mem_cons_self
  obj := by
    rintro i h ⟨⟨old, q1⟩, ⟨o, q2, _, q3⟩, _⟩ b hb
    rcases List.mem_cons.mp hb with rfl | hb
    · exact ⟨_, q1, fun v z => nomatch z⟩
    · obtain rfl := List.mem_singleton.mp hb
      exact ⟨o, q2, fun v z => by rw [q3] at z; cases z⟩
  keep := by
    rintro i h h' ⟨⟨old, q1⟩, q2, q3⟩ k
    exact ⟨⟨old, k e List.mem_cons_self _ q1⟩, q2.at fun o z => k it (by simp) o z, q3⟩
  item := by
    intro X hP hw hK hc i pins s σ H E I hf st hg
    subst hP hw hK
    obtain ⟨⟨old, q1⟩, q2, q3⟩ := st
    obtain ⟨xs, x, hq, hx⟩ := hg
    obtain ⟨its, rv, tp, hz⟩ := I.tuple hq
    obtain ⟨u, hu, ru⟩ := rv.get hx
    have le : e < s.heap.objs.size := Heap.lt_size q1
    have li : it < s.heap.objs.size := by obtain ⟨_, z, _⟩ := q2; exact Heap.lt_size z
    have nae : a ≠ e := fun z => by
      obtain ⟨o, z1, z2, _⟩ := tp
      rw [z, q1] at z1; cases z1
      have z3 : Value.type "enumerate" = Value.type "tuple" := z2
      simp at z3
    have nai : a ≠ it := fun z => by
      obtain ⟨o, z1, z2, _⟩ := tp
      obtain ⟨o', z3, z4, _⟩ := q2
      rw [z, z3] at z1; cases z1; rw [z4] at z2
      simp at z2
    have D := Draws.tuple (prog := X.prog) (w := X.w) (A := X.A.in1) (I.ok.hd hc) it a nai its.toArray
    have hi : i < its.toArray.size := by simpa using (List.getElem?_eq_some_iff.mp hu).1
    refine wpAny_pyNext_enum_itemD D q1 ⟨q2, tp⟩ hi q3 (by simp [Ne.symm nae, q3]) fun y g tk hy out st2 hT hsz hk => ?_
    have ey : y = u := by
      have z1 : its.toArray[i]? = some y := hy
      rw [List.getElem?_toArray, hu] at z1
      exact (Option.some.inj z1).symm
    subst ey
    refine ⟨_, rfl, wpAny_letOwnedTupleGo_enum (s := { s with heap := g, toks := tk + 1 }) out fun g2 e2 sb => ?_⟩
    have hT2 : g2.get? s.heap.objs.size = some { cls := .type "tuple", data := .seq #[.int i tk, y] } := (sb.2 _ (Nat.ne_of_gt le)).trans hT
    have new : ObjOk X.prog X.w (upd H s.heap.objs.size (.tup [.int (i : Nat), x])) g2 s.heap.objs.size (.tup [.int (i : Nat), x]) :=
      ⟨by show 2 ≤ sizeLine; decide, [.int i tk, y], .cons ⟨_, rfl⟩ (.cons ru .nil), ⟨_, hT2, rfl, _, rfl⟩⟩
    have kp : ∀ b o, b ∉ [e, it] → s.heap.get? b = some o → g2.get? b = some o := fun b o hb z => by
      have n1 : b ≠ e := fun q => hb (by simp [q])
      have n2 : b ≠ it := fun q => hb (by simp [q])
      exact (sb.2 b n1).trans (hk b o n1 n2 z)
    have I1 := I.turnedNew (t' := tk + 1) kp hf (Nat.le_refl _) new
    refine ⟨.ref s.heap.objs.size, _, I1, rfl, ⟨_, x, rfl, I.hok.fresh (Nat.le_refl _), rfl, fun ys hy => by rw [I.tuple_inj hy hq]; exact hx⟩, ⟨⟨y, ?_⟩, st2.1.at fun o z => (sb.2 it (Ne.symm q3)).trans z, q3⟩, fun b hb => ?_⟩
    · rw [show ((i + 1 : Nat) : Int) = (i : Int) + 1 by omega]
      exact e2
    · have lt : b < s.heap.objs.size := by
        rcases List.mem_cons.mp hb with rfl | hb
        · exact le
        · obtain rfl := List.mem_singleton.mp hb
          exact li
      rw [upd_ne (Nat.ne_of_lt lt)]
      exact (hf b hb).1
  done := by
    intro X hP hw hK hc i pins s σ H E I hf st hg
    subst hP hw hK
    obtain ⟨⟨old, q1⟩, q2, q3⟩ := st
    obtain ⟨xs, hq, hx⟩ := hg
    obtain ⟨its, rv, tp, hz⟩ := I.tuple hq
    have nai : a ≠ it := fun z => by
      obtain ⟨o, z1, z2, _⟩ := tp
      obtain ⟨o', z3, z4, _⟩ := q2
      rw [z, z3] at z1; cases z1; rw [z4] at z2
      simp at z2
    have D := Draws.tuple (prog := X.prog) (w := X.w) (A := X.A.in1) (I.ok.hd hc) it a nai its.toArray
    have en : its.toArray.size = i := by rw [List.size_toArray, ← rv.length]; exact hx
    obtain ⟨f0, f1, f2, f3, f4, f5⟩ := hf it (by simp)
    refine wpAny_pyNext_enum_endD D q1 (by rw [en]; exact ⟨q2, tp⟩) fun g eb => ⟨rfl, I.turned (t' := s.toks) (fun b o hb z => eb b o hb z) f0 f1 f3 f4 f5⟩
  self := fun A i s Q E st h => by
    obtain ⟨⟨_, q1⟩, _⟩ := st
    exact wpAny_pyIter_enum q1 h
def iEnT (K : PySem.W.Frag) (ta : TA) : TI := fun σ H R => ta σ H fun vs H1 => ∃ a xs, vs = [.ref a] ∧ SqT K H1 a xs ∧ R (IteT K a) H1
theorem pi_enT {X : Cx} {e : Expr} {ta : TA} {p pos tpos : Pos} {elts : List Expr} {kk : Nat} (hg : Gl X "enumerate") (hm : X.mg "enumerate" = none) (ha : PA X [e] ta) (hs : starEach [e] X.env = [(false, eval e X.env)]) :
    PI X (.Tuple elts kk tpos) (.Call (.Name "enumerate" p) [e] [] pos) (iEnT X.K ta) := by
  refine ⟨fun pins s σ H R I h => Call_ (ld_blt I hg hm boot_enumerate (PyProof.Rows.callWith_type1 (thn (ha.run pos pins s σ H _ I h) fun us s1 ⟨vs, H1, I1, r1, a, xs, ev, hq, q⟩ => ?_) hs rfl))⟩
  subst ev
  obtain ⟨u, rfl, ru⟩ := Vals.one r1
  cases ru
  obtain ⟨its, rv, tp, hz⟩ := I1.tuple hq
  refine en_call (begins_tuple a its.toArray) tp fun g he hit hk => wpAny_pyIter_enum he ?_
  have I2 : Inv X pins σ H1 { s1 with heap := g } := I1.kept (t' := s1.toks) hk
  refine ⟨s1.heap.objs.size + 1, [s1.heap.objs.size + 1, s1.heap.objs.size], _, _, H1, rfl, I2, turn_enT a _ _, ⟨⟨.none, he⟩, ⟨_, hit, rfl, rfl⟩, Nat.succ_ne_self _⟩, fun b hb => ?_, q⟩
  have hle : s1.heap.objs.size ≤ b := by
    rcases List.mem_cons.mp hb with rfl | hb
    · exact Nat.le_succ _
    · obtain rfl := List.mem_singleton.mp hb
      exact Nat.le_refl _
  exact I1.fpOk hle (I1.hok.fresh hle)

/-! ### iterables over trees -/
/-- a sequence that is a value (or text) -/
def itemsOf : T → Option (List T)
  | .tup ts => some ts
  | .lst ts => some ts
  | .scr ns => some (ns.map T.int)
  | .str x => some (x.cps.toList.map fun c => T.str ⟨#[c]⟩)
  | _ => none
section
variable {K : PySem.W.Frag} {B : Addr → Prop} {M : Store} {H : Hp}
theorem it_list {a : Addr} {vs : List V} {ts : List T} (R : Rp K B M H) (h : H a = some (.lst vs)) (n : M a = none) (b : ¬ B a) (rs : Reps K B M H vs ts) : ItOk K B (Itl K a) ts M H := fun B' M' H' R' m => by
  have h' : SqL K H' a vs := SqL.of (m a _ h n b).1
  have rs' := Reps.mv R m ts vs rs
  refine ⟨fun i t et => ?_, ⟨vs, h', Nat.le_of_eq rs.length⟩⟩
  obtain ⟨v, ev, rv⟩ := rs'.get et
  refine ⟨⟨vs, v, h', ev⟩, fun x H2 y => ?_⟩
  obtain ⟨e1, e2⟩ := y
  subst e1
  have : x = v := Option.some.inj ((e2 vs h').symm.trans ev)
  subst this
  exact ⟨After.refl R', rv⟩
theorem it_scr {a : Addr} {ns : List Int} (R : Rp K B M H) (h : ScrAt K H a ns) : ItOk K B (Itl K a) (ns.map T.int) M H := fun B' M' H' R' m => by
  have h' : SqL K H' a (ns.map V.int) := (ScrAt.mv R m h).sq
  have rs' : Reps K B' M' H' (ns.map V.int) (ns.map T.int) := Reps.of_ints
  refine ⟨fun i t et => ?_, ⟨_, h', by simp⟩⟩
  obtain ⟨v, ev, rv⟩ := rs'.get et
  refine ⟨⟨_, v, h', ev⟩, fun x H2 y => ?_⟩
  obtain ⟨e1, e2⟩ := y
  subst e1
  have : x = v := Option.some.inj ((e2 _ h').symm.trans ev)
  subst this
  exact ⟨After.refl R', rv⟩
theorem it_tup {a : Addr} {vs : List V} {ts : List T} (R : Rp K B M H) (h : SqT K H a vs) (rs : Reps K B M H vs ts) : ItOk K B (Itt K a) ts M H := fun B' M' H' R' m => by
  have h' : SqT K H' a vs := SqT.mv R m h
  have rs' := Reps.mv R m ts vs rs
  refine ⟨fun i t et => ?_, ⟨vs, h', Nat.le_of_eq rs.length⟩⟩
  obtain ⟨v, ev, rv⟩ := rs'.get et
  refine ⟨⟨vs, v, h', ev⟩, fun x H2 y => ?_⟩
  obtain ⟨e1, e2⟩ := y
  subst e1
  have : x = v := Option.some.inj ((e2 vs h').symm.trans ev)
  subst this
  exact ⟨After.refl R', rv⟩
theorem it_range {lo : Int} {n : Nat} : ItOk K B (Itr lo n) ((List.range n).map fun i => T.int (lo + (i : Nat))) M H := fun B' M' H' R' m => by
  refine ⟨fun i t et => ?_, by show n ≤ _; simp⟩
  rw [List.getElem?_map] at et
  have hi : i < n := by
    by_cases h : i < n
    · exact h
    · rw [List.getElem?_eq_none (by simp; omega)] at et; cases et
  rw [List.getElem?_range hi] at et
  obtain rfl := Option.some.inj et
  refine ⟨hi, fun x H2 y => ?_⟩
  obtain ⟨e1, e2⟩ := y
  subst e1; subst e2
  exact ⟨After.refl R', Rep.int⟩
theorem it_str {x : Str} : ItOk K B (Its x) (x.cps.toList.map fun c => T.str ⟨#[c]⟩) M H := fun B' M' H' R' m => by
  refine ⟨fun i t et => ?_, by show x.cps.size ≤ _; simp⟩
  rw [List.getElem?_map] at et
  have hi : i < x.cps.size := by
    by_cases h : i < x.cps.size
    · exact h
    · rw [List.getElem?_eq_none (by simpa using h)] at et; cases et
  rw [Array.getElem?_toList] at et
  refine ⟨hi, fun v H2 y => ?_⟩
  obtain ⟨e1, c, e2, e3⟩ := y
  subst e1; subst e3
  rw [e2] at et
  obtain rfl := Option.some.inj et
  exact ⟨After.refl R', Rep.str⟩
def enumT (ts : List T) : List T := ts.zipIdx.map fun p => T.tup [.int (p.2 : Nat), p.1]
theorem enumT_get {ts : List T} {i : Nat} {t : T} (e : (enumT ts)[i]? = some t) : ∃ u, ts[i]? = some u ∧ t = .tup [.int (i : Nat), u] := by
  unfold enumT at e
  rw [List.getElem?_map, List.getElem?_zipIdx] at e
  cases q : ts[i]? with
  | none => rw [q] at e; cases e
  | some u =>
    rw [q] at e
    obtain rfl := Option.some.inj e
    refine ⟨u, rfl, ?_⟩
    simp
theorem pair_new {p : Addr} {x y : V} {t u : T} (R : Rp K B M H) (hp : H p = none) (r1 : Rep K B M H x t) (r2 : Rep K B M H y u) :
    After K B M H M (upd H p (.tup [x, y])) ∧ Rep K B M (upd H p (.tup [x, y])) (.ref p) (.tup [t, u]) := Rep.tupNew R (Reps.cons r1 (Reps.cons r2 Reps.nil)) hp
theorem it_enL {a : Addr} {vs : List V} {ts : List T} (R : Rp K B M H) (h : H a = some (.lst vs)) (n : M a = none) (b : ¬ B a) (rs : Reps K B M H vs ts) : ItOk K B (Ite K a) (enumT ts) M H := fun B' M' H' R' m => by
  have h' : SqL K H' a vs := SqL.of (m a _ h n b).1
  have rs' := Reps.mv R m ts vs rs
  refine ⟨fun i t et => ?_, ⟨vs, h', by rw [rs.length]; simp [enumT]⟩⟩
  obtain ⟨u, eu, rfl⟩ := enumT_get et
  obtain ⟨v, ev, rv⟩ := rs'.get eu
  refine ⟨⟨vs, v, h', ev⟩, fun x H2 y => ?_⟩
  obtain ⟨p, z, rfl, hp, rfl, e2⟩ := y
  have : z = v := Option.some.inj ((e2 vs h').symm.trans ev)
  subst this
  exact pair_new R' hp Rep.int rv
theorem it_enT {a : Addr} {vs : List V} {ts : List T} (R : Rp K B M H) (h : SqT K H a vs) (rs : Reps K B M H vs ts) : ItOk K B (IteT K a) (enumT ts) M H := fun B' M' H' R' m => by
  have h' : SqT K H' a vs := SqT.mv R m h
  have rs' := Reps.mv R m ts vs rs
  refine ⟨fun i t et => ?_, ⟨vs, h', by rw [rs.length]; simp [enumT]⟩⟩
  obtain ⟨u, eu, rfl⟩ := enumT_get et
  obtain ⟨v, ev, rv⟩ := rs'.get eu
  refine ⟨⟨vs, v, h', ev⟩, fun x H2 y => ?_⟩
  obtain ⟨p, z, rfl, hp, rfl, e2⟩ := y
  have : z = v := Option.some.inj ((e2 vs h').symm.trans ev)
  subst this
  exact pair_new R' hp Rep.int rv
def zipT (ts us : List T) : List T := List.zipWith (fun t u => T.tup [t, u]) ts us
theorem zipT_get {ts us : List T} {i : Nat} {t : T} (e : (zipT ts us)[i]? = some t) : ∃ x y, ts[i]? = some x ∧ us[i]? = some y ∧ t = .tup [x, y] := by
  unfold zipT at e
  rw [List.getElem?_zipWith] at e
  cases q : ts[i]? with
  | none => rw [q] at e; cases e
  | some x =>
    cases q2 : us[i]? with
    | none => rw [q, q2] at e; cases e
    | some y =>
      rw [q, q2] at e
      obtain rfl := Option.some.inj e
      exact ⟨x, y, rfl, rfl, rfl⟩
theorem it_zipL {a b : Addr} {vs ws : List V} {ts us : List T} (R : Rp K B M H) (h : H a = some (.lst vs)) (n : M a = none) (nb : ¬ B a) (rs : Reps K B M H vs ts) (h2 : H b = some (.lst ws)) (n2 : M b = none) (nb2 : ¬ B b) (rs2 : Reps K B M H ws us) :
    ItOk K B (Itz K a b) (zipT ts us) M H := fun B' M' H' R' m => by
  have h' : SqL K H' a vs := SqL.of (m a _ h n nb).1
  have h2' : SqL K H' b ws := SqL.of (m b _ h2 n2 nb2).1
  have rs' := Reps.mv R m ts vs rs
  have rs2' := Reps.mv R m us ws rs2
  refine ⟨fun i t et => ?_, ⟨vs, ws, h', h2', by rw [rs.length, rs2.length]; simp only [zipT, List.length_zipWith]; omega⟩⟩
  obtain ⟨x, y, ex, ey, rfl⟩ := zipT_get et
  obtain ⟨v, ev, rv⟩ := rs'.get ex
  obtain ⟨u, eu, ru⟩ := rs2'.get ey
  refine ⟨⟨vs, ws, v, u, h', h2', ev, eu⟩, fun z H2 yl => ?_⟩
  obtain ⟨p, z1, z2, rfl, hp, rfl, e1, e2⟩ := yl
  have q1 : z1 = v := Option.some.inj ((e1 vs h').symm.trans ev)
  have q2 : z2 = u := Option.some.inj ((e2 ws h2').symm.trans eu)
  subst q1 q2
  exact pair_new R' hp rv ru
theorem it_zipT {a b : Addr} {vs ws : List V} {ts us : List T} (R : Rp K B M H) (h : SqT K H a vs) (rs : Reps K B M H vs ts) (h2 : SqT K H b ws) (rs2 : Reps K B M H ws us) :
    ItOk K B (ItzT K a b) (zipT ts us) M H := fun B' M' H' R' m => by
  have h' : SqT K H' a vs := SqT.mv R m h
  have h2' : SqT K H' b ws := SqT.mv R m h2
  have rs' := Reps.mv R m ts vs rs
  have rs2' := Reps.mv R m us ws rs2
  refine ⟨fun i t et => ?_, ⟨vs, ws, h', h2', by rw [rs.length, rs2.length]; simp only [zipT, List.length_zipWith]; omega⟩⟩
  obtain ⟨x, y, ex, ey, rfl⟩ := zipT_get et
  obtain ⟨v, ev, rv⟩ := rs'.get ex
  obtain ⟨u, eu, ru⟩ := rs2'.get ey
  refine ⟨⟨vs, ws, v, u, h', h2', ev, eu⟩, fun z H2 yl => ?_⟩
  obtain ⟨p, z1, z2, rfl, hp, rfl, e1, e2⟩ := yl
  have q1 : z1 = v := Option.some.inj ((e1 vs h').symm.trans ev)
  have q2 : z2 = u := Option.some.inj ((e2 ws h2').symm.trans eu)
  subst q1 q2
  exact pair_new R' hp rv ru
end
/-- kinds of iterables -/
def tItL (f : TE2) : TI2 := fun ρ M Q E => f ρ M (fun t M1 => match t with
  | .lst ts => Q ts M1
  | .scr ns => Q (ns.map T.int) M1
  | _ => False) E
def tItT (f : TE2) : TI2 := fun ρ M Q E => f ρ M (fun t M1 => match t with
  | .tup ts => Q ts M1
  | _ => False) E
def tItS (f : TE2) : TI2 := fun ρ M Q E => f ρ M (fun t M1 => match t with
  | .str x => Q (x.cps.toList.map fun c => T.str ⟨#[c]⟩) M1
  | _ => False) E
def rangeT (lo : Int) (n : Nat) : List T := (List.range n).map fun i => T.int (lo + (i : Nat))
def tItR1 (fs : TA2) : TI2 := fun ρ M Q E => fs ρ M (fun as M1 => match as with
  | [.int j] => (-(2 ^ 62) ≤ j ∧ j < 2 ^ 62) ∧ Q (rangeT 0 j.toNat) M1
  | _ => False) E
def tItR2 (fs : TA2) : TI2 := fun ρ M Q E => fs ρ M (fun as M1 => match as with
  | [.int i, .int j] => (-(2 ^ 62) ≤ i ∧ i < 2 ^ 62 ∧ -(2 ^ 62) ≤ j ∧ j < 2 ^ 62) ∧ Q (rangeT i (j - i).toNat) M1
  | _ => False) E
def tItEL (fs : TA2) : TI2 := fun ρ M Q E => fs ρ M (fun as M1 => match as with
  | [.lst ts] => Q (enumT ts) M1
  | _ => False) E
def tItET (fs : TA2) : TI2 := fun ρ M Q E => fs ρ M (fun as M1 => match as with
  | [.tup ts] => Q (enumT ts) M1
  | _ => False) E
def tItZ (fs : TA2) : TI2 := fun ρ M Q E => fs ρ M (fun as M1 => match as with
  | [.lst ts, .lst us] => Q (zipT ts us) M1
  | [.tup ts, .tup us] => Q (zipT ts us) M1
  | _ => False) E
section
variable {X : Cx} {cls : Nat → Value} {W : WX} {tg e e2 : Expr} {f : TE2} {fs : TA2} {p pos tpos : Pos} {elts : List Expr} {kk : Nat}
theorem ii_list (h : PE X e (lE cls X.K W f)) : PI X tg e (lI cls X.K W (tItL f)) := (pi_list h).to fun σ H R ⟨B, ρ, M, Q2, E, n, q, cQ, cE⟩ => by
  refine ⟨B, ρ, M, _, E, n, q, fun t M1 v H1 q1 af r => ?_, cE⟩
  cases t with
  | lst ts =>
    unfold Rep at r
    obtain ⟨a, vs, rfl, h1, h2, h3, rs⟩ := r
    exact ⟨a, rfl, ⟨vs, SqL.of h1⟩, cQ ts M1 _ H1 q1 af (it_list af.rp h1 h2 h3 rs)⟩
  | scr ns =>
    unfold Rep at r
    obtain ⟨a, rfl, h1⟩ := r
    exact ⟨a, rfl, ⟨_, h1.sq⟩, cQ _ M1 _ H1 q1 af (it_scr af.rp h1)⟩
  | _ => exact q1.elim
theorem ii_tup (h : PE X e (lE cls X.K W f)) : PI X tg e (lI cls X.K W (tItT f)) := (pi_tup h).to fun σ H R ⟨B, ρ, M, Q2, E, n, q, cQ, cE⟩ => by
  refine ⟨B, ρ, M, _, E, n, q, fun t M1 v H1 q1 af r => ?_, cE⟩
  cases t with
  | tup ts =>
    obtain ⟨a, vs, rfl, h1, rs⟩ := rep_tup r
    exact ⟨a, rfl, ⟨vs, h1⟩, cQ ts M1 _ H1 q1 af (it_tup af.rp h1 rs)⟩
  | _ => exact q1.elim
theorem ii_str (h : PE X e (lE cls X.K W f)) : PI X tg e (lI cls X.K W (tItS f)) := (pi_str h).to fun σ H R ⟨B, ρ, M, Q2, E, n, q, cQ, cE⟩ => by
  refine ⟨B, ρ, M, _, E, n, q, fun t M1 v H1 q1 af r => ?_, cE⟩
  cases t with
  | str x => exact ⟨x, rep_str r, cQ _ M1 _ H1 q1 af it_str⟩
  | _ => exact q1.elim
theorem one_int {as : List T} {G : Int → Prop} (q : match as with | [.int j] => G j | _ => False) {K : PySem.W.Frag} {B : Addr → Prop} {M : Store} {H : Hp} {vs : List V} (r : Reps K B M H vs as) : ∃ j, vs = [.int j] ∧ G j := by
  match as, q, r with
  | [.int j], q, r => exact ⟨j, Reps.ints (ns := [j]) r, q⟩
theorem two_ints {as : List T} {G : Int → Int → Prop} (q : match as with | [.int i, .int j] => G i j | _ => False) {K : PySem.W.Frag} {B : Addr → Prop} {M : Store} {H : Hp} {vs : List V} (r : Reps K B M H vs as) : ∃ i j, vs = [.int i, .int j] ∧ G i j := by
  match as, q, r with
  | [.int i, .int j], q, r => exact ⟨i, j, Reps.ints (ns := [i, j]) r, q⟩
theorem ii_r1 (hg : Gl X "range") (hm : X.mg "range" = none) (h : PA X [e] (lA cls X.K W fs)) (hs : starEach [e] X.env = [(false, eval e X.env)]) : PI X tg (.Call (.Name "range" p) [e] [] pos) (lI cls X.K W (tItR1 fs)) :=
  (pi_range1 hg hm h hs).to fun σ H R ⟨B, ρ, M, Q2, E, n, q, cQ, cE⟩ => ⟨B, ρ, M, _, E, n, q, fun as M1 vs H1 q1 af r => by
    obtain ⟨j, rfl, ⟨h1, h2⟩, q2⟩ := one_int (G := fun j => (-(2 ^ 62) ≤ j ∧ j < 2 ^ 62) ∧ Q2 (rangeT 0 j.toNat) M1) q1 r
    exact ⟨j, rfl, h1, h2, cQ _ M1 _ H1 q2 af it_range⟩, cE⟩
theorem ii_r2 (hg : Gl X "range") (hm : X.mg "range" = none) (h : PA X [e, e2] (lA cls X.K W fs)) (hs : starEach [e, e2] X.env = [(false, eval e X.env), (false, eval e2 X.env)]) (hs2 : starEach [e2] X.env = [(false, eval e2 X.env)]) :
    PI X tg (.Call (.Name "range" p) [e, e2] [] pos) (lI cls X.K W (tItR2 fs)) :=
  (pi_range2 hg hm h hs hs2).to fun σ H R ⟨B, ρ, M, Q2, E, n, q, cQ, cE⟩ => ⟨B, ρ, M, _, E, n, q, fun as M1 vs H1 q1 af r => by
    obtain ⟨i, j, rfl, hb, q2⟩ := two_ints (G := fun i j => (-(2 ^ 62) ≤ i ∧ i < 2 ^ 62 ∧ -(2 ^ 62) ≤ j ∧ j < 2 ^ 62) ∧ Q2 (rangeT i (j - i).toNat) M1) q1 r
    exact ⟨i, j, rfl, hb, cQ _ M1 _ H1 q2 af it_range⟩, cE⟩
theorem one_lst {as : List T} {G : List T → Prop} (q : match as with | [.lst ts] => G ts | _ => False) {K : PySem.W.Frag} {B : Addr → Prop} {M : Store} {H : Hp} {vs : List V} (r : Reps K B M H vs as) :
    ∃ a ws ts, vs = [.ref a] ∧ H a = some (.lst ws) ∧ M a = none ∧ ¬ B a ∧ Reps K B M H ws ts ∧ G ts := by
  match as, vs, q, r with
  | [.lst ts], [v], q, r =>
    unfold Reps at r
    obtain ⟨r1, _⟩ := r
    unfold Rep at r1
    obtain ⟨a, ws, rfl, h1, h2, h3, rs⟩ := r1
    exact ⟨a, ws, ts, rfl, h1, h2, h3, rs, q⟩
  | [.lst ts], [], q, r => unfold Reps at r; exact r.elim
  | [.lst ts], _ :: _ :: _, q, r => unfold Reps at r; obtain ⟨_, r2⟩ := r; unfold Reps at r2; exact r2.elim
theorem one_tup {as : List T} {G : List T → Prop} (q : match as with | [.tup ts] => G ts | _ => False) {K : PySem.W.Frag} {B : Addr → Prop} {M : Store} {H : Hp} {vs : List V} (r : Reps K B M H vs as) :
    ∃ a ws ts, vs = [.ref a] ∧ SqT K H a ws ∧ Reps K B M H ws ts ∧ G ts := by
  match as, vs, q, r with
  | [.tup ts], [v], q, r =>
    unfold Reps at r
    obtain ⟨a, ws, rfl, h1, rs⟩ := rep_tup r.1
    exact ⟨a, ws, ts, rfl, h1, rs, q⟩
  | [.tup ts], [], q, r => unfold Reps at r; exact r.elim
  | [.tup ts], _ :: _ :: _, q, r => unfold Reps at r; obtain ⟨_, r2⟩ := r; unfold Reps at r2; exact r2.elim
theorem ii_enL (hg : Gl X "enumerate") (hm : X.mg "enumerate" = none) (h : PA X [e] (lA cls X.K W fs)) (hs : starEach [e] X.env = [(false, eval e X.env)]) : PI X (.Tuple elts kk tpos) (.Call (.Name "enumerate" p) [e] [] pos) (lI cls X.K W (tItEL fs)) :=
  (pi_enum hg hm h hs).to fun σ H R ⟨B, ρ, M, Q2, E, n, q, cQ, cE⟩ => ⟨B, ρ, M, _, E, n, q, fun as M1 vs H1 q1 af r => by
    obtain ⟨a, ws, ts, rfl, h1, h2, h3, rs, q2⟩ := one_lst (G := fun ts => Q2 (enumT ts) M1) q1 r
    exact ⟨a, ws, rfl, SqL.of h1, cQ _ M1 _ H1 q2 af (it_enL af.rp h1 h2 h3 rs)⟩, cE⟩
theorem ii_enT (hg : Gl X "enumerate") (hm : X.mg "enumerate" = none) (h : PA X [e] (lA cls X.K W fs)) (hs : starEach [e] X.env = [(false, eval e X.env)]) : PI X (.Tuple elts kk tpos) (.Call (.Name "enumerate" p) [e] [] pos) (lI cls X.K W (tItET fs)) :=
  (pi_enT hg hm h hs).to fun σ H R ⟨B, ρ, M, Q2, E, n, q, cQ, cE⟩ => ⟨B, ρ, M, _, E, n, q, fun as M1 vs H1 q1 af r => by
    obtain ⟨a, ws, ts, rfl, h1, rs, q2⟩ := one_tup (G := fun ts => Q2 (enumT ts) M1) q1 r
    exact ⟨a, ws, rfl, h1, cQ _ M1 _ H1 q2 af (it_enT af.rp h1 rs)⟩, cE⟩
theorem ii_zip (hg : Gl X "zip") (hm : X.mg "zip" = none) (h : PA X [e, e2] (lA cls X.K W fs)) (hs : starEach [e, e2] X.env = (false, eval e X.env) :: starEach [e2] X.env) (hpl : (backTo pos (starEach [e2] X.env)).any (·.1) = false) :
    PI X (.Tuple elts kk tpos) (.Call (.Name "zip" p) [e, e2] [] pos) (lI cls X.K W (tItZ fs)) :=
  (pi_zipA hg hm h hs hpl).to fun σ H R ⟨B, ρ, M, Q2, E, n, q, cQ, cE⟩ => ⟨B, ρ, M, _, E, n, q, fun as M1 vs H1 q1 af r => by
    match as, vs, q1, r with
    | [.lst ts, .lst us], [v, u], q1, r =>
      unfold Reps at r
      obtain ⟨r1, r⟩ := r
      unfold Reps at r
      obtain ⟨r2, _⟩ := r
      unfold Rep at r1 r2
      obtain ⟨a, vs, rfl, h1, h2, h3, rs⟩ := r1
      obtain ⟨b, ws, rfl, k1, k2, k3, rs2⟩ := r2
      exact ⟨a, b, vs, ws, rfl, .inl ⟨SqL.of h1, SqL.of k1, cQ _ M1 _ H1 q1 af (it_zipL af.rp h1 h2 h3 rs k1 k2 k3 rs2)⟩⟩
    | [.tup ts, .tup us], [v, u], q1, r =>
      unfold Reps at r
      obtain ⟨r1, r⟩ := r
      unfold Reps at r
      obtain ⟨r2, _⟩ := r
      obtain ⟨a, vs, rfl, h1, rs⟩ := rep_tup r1
      obtain ⟨b, ws, rfl, k1, rs2⟩ := rep_tup r2
      exact ⟨a, b, vs, ws, rfl, .inr ⟨h1, k1, cQ _ M1 _ H1 q1 af (it_zipT af.rp h1 rs k1 rs2)⟩⟩
    | [.lst _, .lst _], [], _, r => unfold Reps at r; exact r.elim
    | [.tup _, .tup _], [], _, r => unfold Reps at r; exact r.elim
    | [.lst _, .lst _], [_], _, r => unfold Reps at r; obtain ⟨_, r⟩ := r; unfold Reps at r; exact r.elim
    | [.tup _, .tup _], [_], _, r => unfold Reps at r; obtain ⟨_, r⟩ := r; unfold Reps at r; exact r.elim
    | [.lst _, .lst _], _ :: _ :: _ :: _, _, r => unfold Reps at r; obtain ⟨_, r⟩ := r; unfold Reps at r; obtain ⟨_, r⟩ := r; unfold Reps at r; exact r.elim
    | [.tup _, .tup _], _ :: _ :: _ :: _, _, r => unfold Reps at r; obtain ⟨_, r⟩ := r; unfold Reps at r; obtain ⟨_, r⟩ := r; unfold Reps at r; exact r.elim, cE⟩
end
end TL

/-! TLg: calls of built-ins, methods, stores to places over trees. -/
namespace TL
open PySem PySem.Spec PyProof.Rows L2 RZ

section
variable {X : Cx} {cls : Nat → Value} {W : WX} {e o : Expr} {es : List Expr} {f : TE2} {fs : TA2} {x : Str} {p pos apos cpos : Pos} {r : OpN} {rm : OpM} {id T0 : String}
theorem on_read {R : List V → Hp → VK → Prop} (hR : ∀ vs H Q, lON X.K r vs H Q → R vs H Q) {σ : L2.St} {H : Hp} {Q : VK} (h : lE cls X.K W (tON r fs) σ H Q) : tCB R (lA cls X.K W fs) σ H Q := by
  obtain ⟨B, ρ, M, Q2, E, n, q, cQ, cE⟩ := h
  refine ⟨B, ρ, M, _, E, n, q, fun as M1 vs H1 q1 af rs => hR _ _ _ ?_, cE⟩
  exact ⟨B, M1, Q2, as, af.rp, rs, q1, fun t M2 v H2 q2 af2 r2 => cQ t M2 v H2 q2 (af.trans af2) r2⟩
theorem se_blt (hc : CallR X (.builtin id) (lON X.K r)) (hg : Gl X x) (hm : X.mg x = none) (hv : bootBuiltins x = some (.builtin id)) (ha : PA X (e :: es) (lA cls X.K W fs)) (hn : x ≠ "__name__") (hdb : (x == ("__debug__" : Str)) = false)
    (he : starEach (e :: es) X.env = (false, eval e X.env) :: starEach es X.env) (hpl : (backTo pos (starEach es X.env)).any (·.1) = false) : PE X (.Call (.Name x p) (e :: es) [] pos) (lE cls X.K W (tON r fs)) :=
  (pe_callB hc hg hm hv ha hn hdb he hpl).to fun σ H Q h => on_read (fun _ _ _ z => z) h
theorem se_bty (hc : CallR X (.type id) (lON X.K r)) (hg : Gl X x) (hm : X.mg x = none) (hv : bootBuiltins x = some (.type id)) (ha : PA X (e :: es) (lA cls X.K W fs)) (hn : x ≠ "__name__") (hdb : (x == ("__debug__" : Str)) = false)
    (he : starEach (e :: es) X.env = (false, eval e X.env) :: starEach es X.env) (hpl : (backTo pos (starEach es X.env)).any (·.1) = false) : PE X (.Call (.Name x p) (e :: es) [] pos) (lE cls X.K W (tON r fs)) :=
  (pe_callTy hc hg hm hv ha hn hdb he hpl).to fun σ H Q h => on_read (fun _ _ _ z => z) h
theorem se_bfun (hc : CallR X (.builtin id) (lON X.K r)) (hg : Gl X x) (hm : X.mg x = some (.builtin id)) (ha : PA X (e :: es) (lA cls X.K W fs)) (hdb : (x == ("__debug__" : Str)) = false)
    (he : starEach (e :: es) X.env = (false, eval e X.env) :: starEach es X.env) (hpl : (backTo pos (starEach es X.env)).any (·.1) = false) : PE X (.Call (.Name x p) (e :: es) [] pos) (lE cls X.K W (tON r fs)) :=
  (pe_callBfun hc hg hm ha hdb he hpl).to fun σ H Q h => on_read (fun _ _ _ z => z) h

/-! ### what they do -/
def intsOf : List T → Option (List Int)
  | [] => some []
  | .int i :: ts => match intsOf ts with
    | some ns => some (i :: ns)
    | none => none
  | _ :: _ => none
def boolsOf : List T → Option (List Bool)
  | [] => some []
  | .bl i :: ts => match boolsOf ts with
    | some ns => some (i :: ns)
    | none => none
  | _ :: _ => none
def strsOf : List T → Option (List Str)
  | [] => some []
  | .str i :: ts => match strsOf ts with
    | some ns => some (i :: ns)
    | none => none
  | _ :: _ => none
theorem intsOf_eq : ∀ {ts : List T} {ns : List Int}, intsOf ts = some ns → ts = ns.map T.int
  | [], ns, h => by cases h; rfl
  | t :: ts, ns, h => by
    cases t with
    | int i =>
      unfold intsOf at h
      cases q : intsOf ts with
      | none => rw [q] at h; cases h
      | some ms => rw [q] at h; cases h; rw [intsOf_eq q]; rfl
    | _ => cases h
theorem boolsOf_eq : ∀ {ts : List T} {ns : List Bool}, boolsOf ts = some ns → ts = ns.map T.bl
  | [], ns, h => by cases h; rfl
  | t :: ts, ns, h => by
    cases t with
    | bl i =>
      unfold boolsOf at h
      cases q : boolsOf ts with
      | none => rw [q] at h; cases h
      | some ms => rw [q] at h; cases h; rw [boolsOf_eq q]; rfl
    | _ => cases h
theorem strsOf_eq : ∀ {ts : List T} {ns : List Str}, strsOf ts = some ns → ts = ns.map T.str
  | [], ns, h => by cases h; rfl
  | t :: ts, ns, h => by
    cases t with
    | str i =>
      unfold strsOf at h
      cases q : strsOf ts with
      | none => rw [q] at h; cases h
      | some ms => rw [q] at h; cases h; rw [strsOf_eq q]; rfl
    | _ => cases h
theorem intsOf_map : ∀ ns : List Int, intsOf (ns.map T.int) = some ns
  | [] => rfl
  | n :: ns => by
    show (match intsOf (ns.map T.int) with | some ms => some (n :: ms) | none => none) = _
    rw [intsOf_map ns]
theorem boolsOf_map : ∀ ns : List Bool, boolsOf (ns.map T.bl) = some ns
  | [] => rfl
  | n :: ns => by
    show (match boolsOf (ns.map T.bl) with | some ms => some (n :: ms) | none => none) = _
    rw [boolsOf_map ns]
theorem strsOf_map : ∀ ns : List Str, strsOf (ns.map T.str) = some ns
  | [] => rfl
  | n :: ns => by
    show (match strsOf (ns.map T.str) with | some ms => some (n :: ms) | none => none) = _
    rw [strsOf_map ns]
def lenS : OpN := fun as M Q => match as with
  | [t] => match t with
    | .str z => z.length ≤ sizeLine ∧ Q (.int z.length) M
    | t => match sqOf M t with
      | some ts => Q (.int ts.length) M
      | none => False
  | _ => False
def absS : OpN := fun as M Q => match as with
  | [.int i] => Q (.int (if i < 0 then -i else i)) M
  | _ => False
/-- a list of whole numbers' least, greatest one -/
def lsMin : List Int → Int
  | [] => 0
  | [a] => a
  | a :: b :: r => min a (lsMin (b :: r))
def lsMax : List Int → Int
  | [] => 0
  | [a] => a
  | a :: b :: r => max a (lsMax (b :: r))
theorem lsMin_le : ∀ {ns : List Int} {m : Int}, m ∈ ns → lsMin ns ≤ m
  | [a], m, h => by simp at h; subst h; exact Int.le_refl _
  | a :: b :: r, m, h => by
    show min a (lsMin (b :: r)) ≤ m
    rcases List.mem_cons.mp h with e | h
    · omega
    · have := lsMin_le h; omega
theorem lsMin_mem : ∀ {ns : List Int}, ns ≠ [] → lsMin ns ∈ ns
  | [a], _ => by simp [lsMin]
  | a :: b :: r, _ => by
    have := lsMin_mem (ns := b :: r) (by simp)
    show min a (lsMin (b :: r)) ∈ a :: b :: r
    rcases Int.le_total a (lsMin (b :: r)) with h | h
    · rw [Int.min_eq_left h]; exact List.mem_cons_self
    · rw [Int.min_eq_right h]; exact List.mem_cons_of_mem _ this
theorem le_lsMax : ∀ {ns : List Int} {m : Int}, m ∈ ns → m ≤ lsMax ns
  | [a], m, h => by simp at h; subst h; exact Int.le_refl _
  | a :: b :: r, m, h => by
    show m ≤ max a (lsMax (b :: r))
    rcases List.mem_cons.mp h with e | h
    · omega
    · have := le_lsMax h; omega
theorem lsMax_mem : ∀ {ns : List Int}, ns ≠ [] → lsMax ns ∈ ns
  | [a], _ => by simp [lsMax]
  | a :: b :: r, _ => by
    have := lsMax_mem (ns := b :: r) (by simp)
    show max a (lsMax (b :: r)) ∈ a :: b :: r
    rcases Int.le_total a (lsMax (b :: r)) with h | h
    · rw [Int.max_eq_right h]; exact List.mem_cons_of_mem _ this
    · rw [Int.max_eq_left h]; exact List.mem_cons_self
def minS : OpN := fun as M Q => match as with
  | [.int i, .int j] => Q (.int (if j < i then j else i)) M
  | [t] => match lsOf M t with
    | some ts => match intsOf ts with
      | some ns => ns ≠ [] ∧ Q (.int (lsMin ns)) M
      | none => False
    | none => False
  | _ => False
def maxS : OpN := fun as M Q => match as with
  | [.int i, .int j] => Q (.int (if j > i then j else i)) M
  | [t] => match lsOf M t with
    | some ts => match intsOf ts with
      | some ns => ns ≠ [] ∧ Q (.int (lsMax ns)) M
      | none => False
    | none => False
  | _ => False
def sumS : OpN := fun as M Q => match as with
  | [t] => match sqOf M t with
    | some ts => match intsOf ts with
      | some ns => Q (.int ns.sum) M
      | none => False
    | none => False
  | _ => False
def allS : OpN := fun as M Q => match as with
  | [t] => match lsOf M t with
    | some ts => match boolsOf ts with
      | some bs => Q (.bl (bs.all _root_.id)) M
      | none => False
    | none => False
  | _ => False
def anyS : OpN := fun as M Q => match as with
  | [t] => match lsOf M t with
    | some ts => match boolsOf ts with
      | some bs => Q (.bl (bs.any _root_.id)) M
      | none => False
    | none => False
  | _ => False
def intS : OpN := fun as M Q => match as with
  | [.int i] => Q (.int i) M
  | [.bl b] => Q (.int (if b then 1 else 0)) M
  | _ => False
def tupS : OpN := fun as M Q => match as with
  | [t] => match sqOf M t with
    | some ts => Q (.tup ts) M
    | none => False
  | _ => False
def listS (m : Mu) : OpN := fun as M Q => match as with
  | [t] => match sqOf M t with
    | some ts => newL m ts M Q
    | none => False
  | _ => False
/-- the whole numbers, rising -/
def isort (ns : List Int) : List Int := ns.mergeSort (fun a b => decide (a ≤ b))
def sortS (m : Mu) : OpN := fun as M Q => match as with
  | [t] => match lsOf M t with
    | some ts => match intsOf ts with
      | some ns => newL m ((isort ns).map T.int) M Q
      | none => False
    | none => False
  | _ => False
def gcdS : OpN := fun as M Q => match as with
  | [.int i, .int j] => Q (.int ((Nat.gcd i.natAbs j.natAbs : Nat) : Int)) M
  | _ => False
def reprS : OpN := fun as M Q => match as with
  | [t] => (okT 60 (der M t) = true ∧ (dat (der M t)).showable = true ∧ (dat (der M t)).shown.length ≤ sizeLine) ∧ Q (.str (dat (der M t)).shown) M
  | _ => False
end
theorem reps1 {K : PySem.W.Frag} {B : Addr → Prop} {M : Store} {H : Hp} {vs : List V} {t : T} (r : Reps K B M H vs [t]) : ∃ v, vs = [v] ∧ Rep K B M H v t := by
  match vs, r with
  | [v], r => unfold Reps at r; exact ⟨v, rfl, r.1⟩
  | [], r => unfold Reps at r; exact r.elim
  | _ :: _ :: _, r => unfold Reps at r; obtain ⟨_, r⟩ := r; unfold Reps at r; exact r.elim
theorem reps2 {K : PySem.W.Frag} {B : Addr → Prop} {M : Store} {H : Hp} {vs : List V} {t u : T} (r : Reps K B M H vs [t, u]) : ∃ v w, vs = [v, w] ∧ Rep K B M H v t ∧ Rep K B M H w u := by
  match vs, r with
  | v :: vs, r =>
    unfold Reps at r
    obtain ⟨w, rfl, r2⟩ := reps1 r.2
    exact ⟨v, w, rfl, r.1, r2⟩
  | [], r => unfold Reps at r; exact r.elim
theorem sorted_uniq : ∀ {xs ys : List Int}, xs.Perm ys → xs.Pairwise (· ≤ ·) → ys.Pairwise (· ≤ ·) → xs = ys := fun p h1 h2 => p.eq_of_pairwise (fun _ _ _ _ h h' => Int.le_antisymm h h') h1 h2
theorem isort_perm (ns : List Int) : (isort ns).Perm ns := List.mergeSort_perm _ _
theorem isort_sorted (ns : List Int) : (isort ns).Pairwise (· ≤ ·) := by
  have h := List.pairwise_mergeSort (le := fun a b : Int => decide (a ≤ b)) (fun a b c h1 h2 => by simp at *; omega) (fun a b => by simp; omega) ns
  exact h.imp fun h => by simpa using h
theorem isort_eq {ns ms : List Int} (p : ms.Perm ns) (h : ms.Pairwise (· ≤ ·)) : ms = isort ns := sorted_uniq (p.trans (isort_perm ns).symm) h (isort_sorted ns)
section
variable {X : Cx}
theorem c_len : CallR X (.builtin "len") (lON X.K lenS) := by
  intro pins s σ H vs us Q I rv ⟨B, M, Q2, as, R, rs, q, cQ⟩
  match as, rs, q with
  | [t], rs, q =>
    obtain ⟨v, rfl, r⟩ := reps1 rs
    have sq : ∀ ts, sqOf M t = some ts → Q2 (.int ts.length) M → wpAny (model X.prog X.w) X.A (call (.builtin "len") us) (EP X pins σ Q) X.xe s := fun ts e q => by
      obtain ⟨a, ws, rfl, h, rs'⟩ := sqOf_ok R r e
      exact call_len_seq pins s σ H _ us Q I rv ⟨a, ws, rfl, h, by rw [rs'.length]; exact cQ _ M _ H q (After.refl R) Rep.int⟩
    cases t with
    | str z =>
      obtain rfl := rep_str r
      exact call_len_str pins s σ H _ us Q I rv ⟨z, rfl, q.1, cQ _ M _ H q.2 (After.refl R) Rep.int⟩
    | tup ts => exact sq ts rfl q
    | lst ts => exact sq ts rfl q
    | scr ns => exact sq _ rfl q
    | loc a =>
      have q : (match sqOf M (.loc a) with | some ts => Q2 (.int ts.length) M | none => False) := q
      cases e : sqOf M (.loc a) with
      | none => rw [e] at q; exact q.elim
      | some ts => rw [e] at q; exact sq ts e q
    | non => exact q.elim
    | bl _ => exact q.elim
    | int _ => exact q.elim
    | fn _ => exact q.elim
theorem c_abs : CallR X (.builtin "abs") (lON X.K absS) := by
  intro pins s σ H vs us Q I rv ⟨B, M, Q2, as, R, rs, q, cQ⟩
  match as, rs, q with
  | [.int i], rs, q =>
    obtain ⟨v, rfl, r⟩ := reps1 rs
    obtain rfl := rep_int r
    exact call_abs pins s σ H _ us Q I rv ⟨i, rfl, cQ _ M _ H q (After.refl R) Rep.int⟩
/-- a list of whole numbers -/
theorem ls_ints {K : PySem.W.Frag} {B : Addr → Prop} {M : Store} {H : Hp} (R : Rp K B M H) {v : V} {t : T} (r : Rep K B M H v t) {G : List Int → Prop} (q : match lsOf M t with | some ts => (match intsOf ts with | some ns => G ns | none => False) | none => False) :
    ∃ a ns, v = .ref a ∧ SqL K H a (ns.map V.int) ∧ G ns := by
  cases e : lsOf M t with
  | none => rw [e] at q; exact q.elim
  | some ts =>
    rw [e] at q
    dsimp only at q
    cases e2 : intsOf ts with
    | none => rw [e2] at q; exact q.elim
    | some ns =>
      rw [e2] at q
      obtain ⟨a, vs, rfl, h, rs⟩ := lsOf_ok R r e
      rw [intsOf_eq e2] at rs
      rw [rs.ints] at h
      exact ⟨a, ns, rfl, SqL.of h, q⟩
theorem ls_bools {K : PySem.W.Frag} {B : Addr → Prop} {M : Store} {H : Hp} (R : Rp K B M H) {v : V} {t : T} (r : Rep K B M H v t) {G : List Bool → Prop} (q : match lsOf M t with | some ts => (match boolsOf ts with | some ns => G ns | none => False) | none => False) :
    ∃ a ns, v = .ref a ∧ SqL K H a (ns.map V.bl) ∧ G ns := by
  cases e : lsOf M t with
  | none => rw [e] at q; exact q.elim
  | some ts =>
    rw [e] at q
    dsimp only at q
    cases e2 : boolsOf ts with
    | none => rw [e2] at q; exact q.elim
    | some ns =>
      rw [e2] at q
      obtain ⟨a, vs, rfl, h, rs⟩ := lsOf_ok R r e
      rw [boolsOf_eq e2] at rs
      rw [rs.bools] at h
      exact ⟨a, ns, rfl, SqL.of h, q⟩
theorem c_min (hc : X.calm = true) : CallR X (.builtin "min") (lON X.K minS) := by
  intro pins s σ H vs us Q I rv ⟨B, M, Q2, as, R, rs, q, cQ⟩
  match as, rs, q with
  | [.int i, .int j], rs, q =>
    obtain ⟨v, w, rfl, r1, r2⟩ := reps2 rs
    obtain rfl := rep_int r1
    obtain rfl := rep_int r2
    exact call_min2 hc pins s σ H _ us Q I rv ⟨i, j, rfl, cQ _ M _ H q (After.refl R) Rep.int⟩
  | [t], rs, q =>
    obtain ⟨v, rfl, r⟩ := reps1 rs
    have q : match lsOf M t with | some ts => (match intsOf ts with | some ns => ns ≠ [] ∧ Q2 (.int (lsMin ns)) M | none => False) | none => False := by
      cases t <;> exact q
    obtain ⟨a, ns, rfl, h, hne, q⟩ := ls_ints R r (G := fun ns => ns ≠ [] ∧ Q2 (.int (lsMin ns)) M) q
    refine cr_min hc pins s σ H _ us Q I rv ⟨a, ns, rfl, h, List.length_pos_iff.mpr hne, fun m hm hle => ?_⟩
    have e : m = lsMin ns := Int.le_antisymm (hle _ (lsMin_mem hne)) (lsMin_le hm)
    rw [e]
    exact cQ _ M _ H q (After.refl R) Rep.int
theorem c_max (hc : X.calm = true) : CallR X (.builtin "max") (lON X.K maxS) := by
  intro pins s σ H vs us Q I rv ⟨B, M, Q2, as, R, rs, q, cQ⟩
  match as, rs, q with
  | [.int i, .int j], rs, q =>
    obtain ⟨v, w, rfl, r1, r2⟩ := reps2 rs
    obtain rfl := rep_int r1
    obtain rfl := rep_int r2
    exact call_max2 hc pins s σ H _ us Q I rv ⟨i, j, rfl, cQ _ M _ H q (After.refl R) Rep.int⟩
  | [t], rs, q =>
    obtain ⟨v, rfl, r⟩ := reps1 rs
    have q : match lsOf M t with | some ts => (match intsOf ts with | some ns => ns ≠ [] ∧ Q2 (.int (lsMax ns)) M | none => False) | none => False := by
      cases t <;> exact q
    obtain ⟨a, ns, rfl, h, hne, q⟩ := ls_ints R r (G := fun ns => ns ≠ [] ∧ Q2 (.int (lsMax ns)) M) q
    refine cr_max hc pins s σ H _ us Q I rv ⟨a, ns, rfl, h, List.length_pos_iff.mpr hne, fun m hm hle => ?_⟩
    have e : m = lsMax ns := Int.le_antisymm (le_lsMax hm) (hle _ (lsMax_mem hne))
    rw [e]
    exact cQ _ M _ H q (After.refl R) Rep.int
theorem sum_tup (hc : X.calm = true) {pins : List (Addr × Obj)} {s : Shared} {σ : L2.St} {H : Hp} {a : Addr} {ns : List Int} {Q : VK} (I : Inv X pins σ H s) (h : SqT X.K H a (ns.map V.int)) (q : Q (.int ns.sum) H) :
    wpAny (model X.prog X.w) X.A (call (.builtin "sum") [.ref a]) (EP X pins σ Q) X.xe s := by
  obtain ⟨its, rv, tp, hz⟩ := I.tuple h
  have hi := rv.ints
  obtain ⟨xs, ex⟩ := hi.allInts.items
  have tp3 := tp
  rw [ex] at tp3
  refine PySem.W.ktm_sumG (I.ok.hd hc) tp3 fun g tk t' hk => ⟨.int _, H, I.kept hk, ⟨t', ?_⟩, q⟩
  have hn : numsOf its = ns := hi.numsOf
  have e2 : numsOf (intItems xs).toList = ns := by rw [← ex]; exact hn
  rw [nums_intItems] at e2
  rw [preSum_eq, List.take_of_length_le (by simp), e2]
theorem c_sum (hc : X.calm = true) : CallR X (.builtin "sum") (lON X.K sumS) := by
  intro pins s σ H vs us Q I rv ⟨B, M, Q2, as, R, rs, q, cQ⟩
  match as, rs, q with
  | [t], rs, q =>
    obtain ⟨v, rfl, r⟩ := reps1 rs
    have q : (match sqOf M t with | some ts => (match intsOf ts with | some ns => Q2 (.int ns.sum) M | none => False) | none => False) := q
    cases e : sqOf M t with
    | none => rw [e] at q; exact q.elim
    | some ts =>
      rw [e] at q
      dsimp only at q
      cases e2 : intsOf ts with
      | none => rw [e2] at q; exact q.elim
      | some ns =>
        rw [e2] at q
        obtain ⟨a, ws, rfl, h, rs'⟩ := sqOf_ok R r e
        rw [intsOf_eq e2] at rs'
        rw [rs'.ints] at h
        rcases h with h | h
        · exact cr_sum hc pins s σ H _ us Q I rv ⟨a, ns, rfl, h, cQ _ M _ H q (After.refl R) Rep.int⟩
        · rw [Vals.ref1 rv]
          exact sum_tup hc I h (cQ _ M _ H q (After.refl R) Rep.int)
theorem c_all (hc : X.calm = true) : CallR X (.builtin "all") (lON X.K allS) := by
  intro pins s σ H vs us Q I rv ⟨B, M, Q2, as, R, rs, q, cQ⟩
  match as, rs, q with
  | [t], rs, q =>
    obtain ⟨v, rfl, r⟩ := reps1 rs
    obtain ⟨a, bs, rfl, h, q⟩ := ls_bools R r (G := fun bs => Q2 (.bl (bs.all id)) M) q
    exact cr_all hc pins s σ H _ us Q I rv ⟨a, bs, rfl, h, cQ _ M _ H q (After.refl R) Rep.bl⟩
theorem c_any (hc : X.calm = true) : CallR X (.builtin "any") (lON X.K anyS) := by
  intro pins s σ H vs us Q I rv ⟨B, M, Q2, as, R, rs, q, cQ⟩
  match as, rs, q with
  | [t], rs, q =>
    obtain ⟨v, rfl, r⟩ := reps1 rs
    obtain ⟨a, bs, rfl, h, q⟩ := ls_bools R r (G := fun bs => Q2 (.bl (bs.any id)) M) q
    exact cr_any hc pins s σ H _ us Q I rv ⟨a, bs, rfl, h, cQ _ M _ H q (After.refl R) Rep.bl⟩
theorem c_int : CallR X (.type "int") (lON X.K intS) := by
  intro pins s σ H vs us Q I rv ⟨B, M, Q2, as, R, rs, q, cQ⟩
  match as, rs, q with
  | [.int i], rs, q =>
    obtain ⟨v, rfl, r⟩ := reps1 rs
    obtain rfl := rep_int r
    exact call_int1 pins s σ H _ us Q I rv (.inl ⟨i, rfl, cQ _ M _ H q (After.refl R) Rep.int⟩)
  | [.bl i], rs, q =>
    obtain ⟨v, rfl, r⟩ := reps1 rs
    obtain rfl := rep_bl r
    exact call_int1 pins s σ H _ us Q I rv (.inr ⟨i, rfl, cQ _ M _ H q (After.refl R) Rep.int⟩)
theorem c_tup : CallR X (.type "tuple") (lON X.K tupS) := by
  intro pins s σ H vs us Q I rv ⟨B, M, Q2, as, R, rs, q, cQ⟩
  match as, rs, q with
  | [t], rs, q =>
    obtain ⟨v, rfl, r⟩ := reps1 rs
    have q : (match sqOf M t with | some ts => Q2 (.tup ts) M | none => False) := q
    cases e : sqOf M t with
    | none => rw [e] at q; exact q.elim
    | some ts =>
      rw [e] at q
      obtain ⟨a, ws, rfl, h, rs'⟩ := sqOf_ok R r e
      refine call_tuple_of pins s σ H _ us Q I rv ⟨a, ws, rfl, ?_⟩
      rcases h with h | h
      · refine .inl ⟨h, fun l hl => ?_⟩
        obtain ⟨af, r3⟩ := Rep.tupNew R rs' hl
        exact cQ _ M _ _ q af r3
      · exact .inr ⟨h, cQ _ M _ H q (After.refl R) (Rep.tupOld rs' h)⟩
theorem c_list {m : Mu} : CallR X (.type "list") (lON X.K (listS m)) := by
  intro pins s σ H vs us Q I rv ⟨B, M, Q2, as, R, rs, q, cQ⟩
  match as, rs, q with
  | [t], rs, q =>
    obtain ⟨v, rfl, r⟩ := reps1 rs
    have q : (match sqOf M t with | some ts => newL m ts M Q2 | none => False) := q
    cases e : sqOf M t with
    | none => rw [e] at q; exact q.elim
    | some ts =>
      rw [e] at q
      obtain ⟨a, ws, rfl, h, rs'⟩ := sqOf_ok R r e
      exact call_list_of pins s σ H _ us Q I rv ⟨a, ws, rfl, h, fun l hl => newL_ok R rs' q cQ hl⟩
theorem c_sorted {m : Mu} : CallR X (.builtin "sorted") (lON X.K (sortS m)) := by
  intro pins s σ H vs us Q I rv ⟨B, M, Q2, as, R, rs, q, cQ⟩
  match as, rs, q with
  | [t], rs, q =>
    obtain ⟨v, rfl, r⟩ := reps1 rs
    obtain ⟨a, ns, rfl, h, q⟩ := ls_ints R r (G := fun ns => newL m ((isort ns).map T.int) M Q2) q
    refine cr_sortedI pins s σ H _ us Q I rv ⟨a, ns, rfl, h, fun ms p pm srt hp => ?_⟩
    rw [isort_eq pm srt]
    exact newL_ok R Reps.of_ints q cQ hp
theorem c_gcd : CallR X (.builtin "math.gcd") (lON X.K gcdS) := by
  intro pins s σ H vs us Q I rv ⟨B, M, Q2, as, R, rs, q, cQ⟩
  match as, rs, q with
  | [.int i, .int j], rs, q =>
    obtain ⟨v, w, rfl, r1, r2⟩ := reps2 rs
    obtain rfl := rep_int r1
    obtain rfl := rep_int r2
    exact cr_gcd pins s σ H _ us Q I rv ⟨i, j, rfl, cQ _ M _ H q (After.refl R) Rep.int⟩
theorem Inv.told {pins : List (Addr × Obj)} {σ : L2.St} {H : Hp} {s : Shared} {h' : Heap} {tk : Nat} (I : Inv X pins σ H s) (k : ∀ b o, s.heap.get? b = some o → h'.get? b = some o) : Inv X pins σ H { s with heap := h', toks := tk } := I.kept k
theorem c_repr (hg : X.A.guards = some []) (hu : X.A.units + 70 < cLine) : CallR X (.builtin "repr") (lON X.K reprS) := by
  intro pins s σ H vs us Q I rv ⟨B, M, Q2, as, R, rs, q, cQ⟩
  match as, rs, q with
  | [t], rs, q =>
    obtain ⟨v, rfl, r⟩ := reps1 rs
    obtain ⟨⟨ok, sh, sz⟩, q⟩ := q
    obtain ⟨u, rfl, ru⟩ := vals1 rv
    have dp := rep_der R r ok
    obtain ⟨ads, rd⟩ := Dp.reads I _ v u dp ru
    have hd := PyData.hasDict_of_canLay _ (ok_dat _ _ ok).1
    have dep := (ok_dat _ _ ok).2
    have fin : ∀ (h' : Heap) (tk' : Tok) (tk : Nat), (∀ b o, s.heap.get? b = some o → h'.get? b = some o) → EP X pins σ Q (.str (dat (der M t)).shown tk') { s with heap := h', toks := tk } := fun h' tk' tk hk =>
      ⟨.str _, H, I.kept hk, ⟨_, rfl⟩, cQ _ M _ H q (After.refl R) Rep.str⟩
    generalize hD : dat (der M t) = D at *
    cases rd with
    | none => exact P.repr_of_none (by have := fin s.heap s.toks (s.toks + 1) (fun _ _ e => e); simp only [PyData.shown] at this; exact this)
    | bool b => exact P.repr_of_bool (by have := fin s.heap s.toks (s.toks + 1) (fun _ _ e => e); simp only [PyData.shown] at this; exact this)
    | int i tk => exact P.repr_of_int (by simpa [PyData.showable] using sh) (by have := fin s.heap s.toks (s.toks + 1) (fun _ _ e => e); simp only [PyData.shown] at this; exact this)
    | str x tk => exact P.repr_of_str (by have := fin s.heap s.toks (s.toks + 1) (fun _ _ e => e); simp only [PyData.shown] at this; exact this) (by simpa only [PyData.shown] using sz)
    | list h1 h2 h3 h4 => exact repr_of_reads' (.list h1 h2 h3 h4) sh (PyData.noDict_hsm hd) hg (by omega) (fun _ _ e => e) (fun h' u tk hk => fin h' u tk hk) sz
    | tuple h1 h2 h3 h4 => exact repr_of_reads' (.tuple h1 h2 h3 h4) sh (PyData.noDict_hsm hd) hg (by omega) (fun _ _ e => e) (fun h' u tk hk => fin h' u tk hk) sz
    | dict h1 h2 h3 h4 h5 => simp [PyData.hasDict] at hd
end
end TL

/-! TLh: contracts of defs over trees; calls; a law's end. The guards of what runs around are known to be none (repr asks it). -/
namespace TL
open PySem PySem.Spec PyProof.Rows L2

/-- a def's promise where no guard stands around -/
structure FnG (P : Program) (w : World) (K : PySem.W.Frag) (mg : Str → Option Value) (base : Heap) (k : Nat) (f : Addr) (fd : FuncData) (ps : List Str) (sp : Sp) : Prop where
  len : ∀ vs H Q E, sp vs H Q E → vs.length = ps.length
  run : ∀ (A : Around) (outer : List Env) (s : Shared) (H : Hp) (args : Args) (us : List Value) (vs : List V) (Q : VK) (E : XK), Room k A → A.guards = some [] → Env0 P w K mg base A outer s H → BindsTo s fd args (ps.zip us) → Vals vs us →
    sp vs H Q E → codeAny (model P w) A (.call (.ref f) args) (CR (L2.CX P w) outer P w H s Q E) s
section
variable {P : Program} {w : World} {K : PySem.W.Frag} {mg : Str → Option Value} {base : Heap} {k j : Nat} {f : Addr} {fd : FuncData} {ps N : List Str} {sp sp' : Sp}
theorem FnG.mono (F : FnG P w K mg base j f fd ps sp) (h : j ≤ k) : FnG P w K mg base k f fd ps sp :=
  ⟨F.len, fun A outer s H args us vs Q E hr => F.run A outer s H args us vs Q E (hr.mono h)⟩
theorem FnG.imp (F : FnG P w K mg base k f fd ps sp) (h : ∀ vs H Q E, sp' vs H Q E → sp vs H Q E) : FnG P w K mg base k f fd ps sp' :=
  ⟨fun vs H Q E q => F.len vs H Q E (h _ _ _ _ q), fun A outer s H args us vs Q E hr hg he hb hv hs => F.run A outer s H args us vs Q E hr hg he hb hv (h _ _ _ _ hs)⟩
/-- a def by its body -/
theorem fnG_of {name qual : Str} {params : Arguments} {body : List Stmt} {scope : Scope} {dV kV doc pm cdv ct oc : Value} {an od : Option Addr} {osl : Array (Option Value)}
    (lk : K.lookup f = some ⟨oc, od, .func (PySem.W.fnOf name qual params body scope dV kV doc pm an cdv ct), osl⟩) (hcd : PySem.W.codeIn K cdv qual = true) (S : FnScope N ps scope) (len : ∀ vs H Q E, sp vs H Q E → vs.length = ps.length)
    (hb : ∀ (A : Around) (outer : List Env) (s : Shared) (H : Hp) (vs : List V) (Q : VK) (E : XK), Room k (A.deeper (envOfC qual scope s.heap.objs.size f cdv)) → A.guards = some [] → sp vs H Q E →
      ∃ t, PSs (cxOf (L2.CX P w) P w K mg base N qual scope f cdv A outer s H E) body t ∧ t { nx := fun _ H' => Q .non H', rt := Q } (L2.start N vs) H) :
    FnG P w K mg base (k + 1) f (PySem.W.fnOf name qual params body scope dV kV doc pm an cdv ct) ps sp := by
  refine ⟨len, ?_⟩
  intro A outer s H args us vs Q E hr hg e0 hbd r hsp
  have lim : s.heap.NoLimit := e0.mod.nolimit.keeps fun b o q => (e0.bs b o q).1
  have KX : K.In s.heap := e0.mod.kin.keeps fun b o q => (e0.bs b o q).1
  have kinds : ∀ y ∈ ps.zip us, scope.names.lookup y.1 = some .local ∨ (scope.names.lookup y.1 = some .cell ∧ ((cellsFrom (s.heap.objs.size + 1) scope.names []).lookup y.1).isSome = true) := by
    rintro ⟨n, v⟩ hy
    rcases S.par n (List.of_mem_zip hy).1 with q | q
    · exact .inl q
    · exact .inr ⟨q, PySem.W.cellsFrom_some _ _ _ (.inl q)⟩
  refine codeAny_call_function hr.depth (KX _ _ lk) rfl S.co S.gen rfl (PySem.W.codeRec_of KX hcd) (hbd _ _ _ _ (wpAny_newFunctionEnv_cells S.kind kinds fun env he s1 x => ?_))
  subst he
  refine ⟨lim.keeps x.toInCall.keep, codeAny_func ?_⟩
  obtain ⟨t, ht, hq⟩ := hb A outer s H vs Q E (hr.deeper _) hg hsp
  have I := inv_start (CX := L2.CX P w) (E := E) S hr.hd e0 (len _ _ _ _ hsp) r x
  refine wpAny_mono (ht.run [] s1 (L2.start N vs) H _ I hq) (fun fl s' hs => ?_) fun e s' hs => hs
  match fl, hs with
  | .ret u, ⟨v, σ', H', J, rv, q⟩ => exact ⟨v, H', J.os, J.bare, J.base, J.hok, rv, q⟩
  | .next, ⟨σ', H', J, q⟩ => exact ⟨V.non, H', J.os, J.bare, J.base, J.hok, rfl, q⟩
  | .brk, ⟨_, _, _, q⟩ => exact q.elim
  | .cont, ⟨_, _, _, q⟩ => exact q.elim
end
section
variable {X : Cx} {k : Nat} {f : Addr} {fd : FuncData} {ps : List Str} {sp : Sp} {W : WX} {x : Str} {p pos : Pos} {e : Expr} {es : List Expr} {t : TA}
theorem runG {pins : List (Addr × Obj)} {σ : L2.St} {H : Hp} {s : Shared} {Q : VK} {us : List Value} {vs : List V} (F : FnG X.prog X.w X.K X.mg X.base k f fd ps sp) (hr : Room k X.A) (hgd : X.A.guards = some []) (hb : Binds X.K fd ps []) (tk : Takes X W)
    (I : Inv X pins σ H s) (r : Vals vs us) (h : sp vs H Q (WE W σ)) : wpAny (model X.prog X.w) X.A (call (.ref f) us) (EP X pins σ Q) X.xe s := by
  have hl : (us ++ []).length = ps.length := by rw [List.append_nil, ← r.length]; exact F.len _ _ _ _ h
  have bd := hb s us I.kIn hl
  rw [List.append_nil] at bd
  refine wpAny_call (codeAny_mono (F.run X.A X.stack s H ⟨us, []⟩ us vs Q (WE W σ) hr hgd I.env0 bd r h) fun z s' hq => ?_)
  match z, hq with
  | .error e, hq => exact passAt tk σ pins H s e s' I hq
  | .ok (.ret u), hq => exact I.after hq
  | .ok .next, hq => exact False.elim hq
  | .ok .brk, hq => exact False.elim hq
  | .ok .cont, hq => exact False.elim hq
theorem pe_callG (F : FnG X.prog X.w X.K X.mg X.base k f fd ps sp) (hr : Room k X.A) (hgd : X.A.guards = some []) (hg : Gl X x) (hm : X.mg x = some (.ref f)) (hk : PySem.W.keepIn X.K (.ref f) = true) (hb : Binds X.K fd ps []) (tk : Takes X W)
    (ha : PA X (e :: es) t) (hdb : (x == ("__debug__" : Str)) = false) (he : starEach (e :: es) X.env = (false, eval e X.env) :: starEach es X.env) (hpl : (backTo pos (starEach es X.env)).any (·.1) = false) : PE X (.Call (.Name x p) (e :: es) [] pos) (tCallS sp (WE W) t) :=
  ⟨fun pins s σ H Q I h => wpAny_Call_Name_kw (ld_glob I hg hm (PySem.W.callWith_K (h₀ := X.base) I.ok.mod.kin hk (thn (ha.run pos pins s σ H _ I h) fun us s1 ⟨vs, H1, I1, r, q⟩ => ⟨I1.kIn, runG F hr hgd hb tk I1 r q⟩) he hpl) hdb)⟩
theorem pe_callG0 (F : FnG X.prog X.w X.K X.mg X.base k f fd ps sp) (hr : Room k X.A) (hgd : X.A.guards = some []) (hg : Gl X x) (hm : X.mg x = some (.ref f)) (hk : PySem.W.keepIn X.K (.ref f) = true) (hb : Binds X.K fd ps []) (tk : Takes X W)
    (hdb : (x == ("__debug__" : Str)) = false) : PE X (.Call (.Name x p) [] [] pos) (tCallS sp (WE W) tNil) :=
  ⟨fun pins s σ H Q I h => wpAny_Call_Name_kw (ld_glob I hg hm (PySem.W.callWith_K0 I.kIn hk (runG (us := []) F hr hgd hb tk I .nil h)) hdb)⟩
end

/-! ### contracts over trees -/
abbrev Ct := List T → Store → K2 → EK → Prop
def spOf (cls : Nat → Value) (K : PySem.W.Frag) (c : Ct) : Sp := fun vs H Q E => ∃ B M Q2 E2 ts, Rp K B M H ∧ Reps K B M H vs ts ∧ c ts M Q2 E2 ∧ (∀ t M2 v H2, Q2 t M2 → After K B M H M2 H2 → Rep K B M2 H2 v t → Q v H2) ∧
  ∀ x M2 cv d H2, E2 x M2 → After K B M H M2 H2 → XRep cls x cv d → E cv d H2
def tCl (c : Ct) (fs : TA2) : TE2 := fun ρ M Q E => fs ρ M (fun ts M1 => c ts M1 Q E) E
section
variable {X : Cx} {cls : Nat → Value} {k : Nat} {f : Addr} {fd : FuncData} {ps : List Str} {c : Ct} {W : WX} {x : Str} {p pos : Pos} {e : Expr} {es : List Expr} {fs : TA2}
theorem cl_read {σ : L2.St} {H : Hp} {Q : VK} (h : lE cls X.K W (tCl c fs) σ H Q) : tCallS (spOf cls X.K c) (WE W) (lA cls X.K W fs) σ H Q := by
  obtain ⟨B, ρ, M, Q2, E, n, q, cQ, cE⟩ := h
  refine ⟨B, ρ, M, _, E, n, q, fun ts M1 vs H1 q1 af rs => ?_, cE⟩
  exact ⟨B, M1, Q2, E, ts, af.rp, rs, q1, fun t M2 v H2 q2 af2 r2 => cQ t M2 v H2 q2 (af.trans af2) r2, fun x M2 cv d H2 e2 af2 xr => cE x M2 cv d H2 e2 (af.trans af2) xr⟩
theorem se_call (F : FnG X.prog X.w X.K X.mg X.base k f fd ps (spOf cls X.K c)) (hr : Room k X.A) (hgd : X.A.guards = some []) (hg : Gl X x) (hm : X.mg x = some (.ref f)) (hk : PySem.W.keepIn X.K (.ref f) = true) (hb : Binds X.K fd ps []) (tk : Takes X W)
    (ha : PA X (e :: es) (lA cls X.K W fs)) (hdb : (x == ("__debug__" : Str)) = false) (he : starEach (e :: es) X.env = (false, eval e X.env) :: starEach es X.env) (hpl : (backTo pos (starEach es X.env)).any (·.1) = false) :
    PE X (.Call (.Name x p) (e :: es) [] pos) (lE cls X.K W (tCl c fs)) := (pe_callG F hr hgd hg hm hk hb tk ha hdb he hpl).to fun σ H Q h => cl_read h
theorem se_call0 (F : FnG X.prog X.w X.K X.mg X.base k f fd ps (spOf cls X.K c)) (hr : Room k X.A) (hgd : X.A.guards = some []) (hg : Gl X x) (hm : X.mg x = some (.ref f)) (hk : PySem.W.keepIn X.K (.ref f) = true) (hb : Binds X.K fd ps []) (tk : Takes X W)
    (hdb : (x == ("__debug__" : Str)) = false) : PE X (.Call (.Name x p) [] [] pos) (lE cls X.K W (tCl c tA0)) :=
  (pe_callG0 F hr hgd hg hm hk hb tk hdb).to fun σ H Q h => by
    have h2 := cl_read h
    obtain ⟨B, ρ, M, Q2, E, n, q, cQ, cE⟩ := h2
    exact cQ [] M [] H q (After.refl n.rp) Reps.nil
/-- what a def's body is to reach: less may be owned behind it -/
def rtEnds (Q : K2) (E : EK) : Ends2 where
  nx := fun _ M => ∃ M', Sub M' M ∧ Q .non M'
  rt := fun t M => ∃ M', Sub M' M ∧ Q t M'
  ex := fun x _ M => ∃ M', Sub M' M ∧ E x M'
def start2 (N : List Str) (ts : List T) : St2 := ts.map some ++ List.replicate (N.length - ts.length) none
theorem env_start {K : PySem.W.Frag} {B : Addr → Prop} {M : Store} {H : Hp} {N : List Str} {vs : List V} {ts : List T} (r : Reps K B M H vs ts) : EnvOk K B M H (start2 N ts) (L2.start N vs) := by
  refine ⟨by unfold start2 L2.start; simp [r.length], fun i t h => ?_⟩
  unfold start2 at h
  unfold L2.start
  by_cases hi : i < ts.length
  · rw [List.getElem?_append_left (by simpa using hi), List.getElem?_map] at h
    cases e : ts[i]? with
    | none => rw [e] at h; cases h
    | some u =>
      rw [e] at h
      obtain rfl := Option.some.inj (Option.some.inj h)
      obtain ⟨v, ev, rv⟩ := r.get e
      refine ⟨v, ?_, rv⟩
      rw [List.getElem?_append_left (by rw [List.length_map, r.length]; exact hi), List.getElem?_map, ev]
      rfl
  · rw [List.getElem?_append_right (by simpa using hi), List.getElem?_replicate] at h
    split at h <;> cases h
theorem Rep.less {K : PySem.W.Frag} {B : Addr → Prop} {M M' : Store} {H : Hp} {v : V} {t : T} (R : Rp K B M H) (s : Sub M' M) (r : Rep K B M H v t) : Rep K B M' H v t := r.after R (After.less R s)
/-- a body's reading from the contract's proof -/
theorem body_read {K : PySem.W.Frag} {g : TS2} {N : List Str} {vs : List V} {H : Hp} {Q : VK} {E : XK} (h : spOf cls K c vs H Q E) (pf : ∀ ts M Q2 E2, c ts M Q2 E2 → g (rtEnds Q2 E2) (start2 N ts) M) :
    lS cls K (fun cv d _ H2 => E cv d H2) g { nx := fun _ H' => Q .non H', rt := Q } (L2.start N vs) H := by
  obtain ⟨B, M, Q2, E2, ts, R, rs, hc, cQ, cE⟩ := h
  refine ⟨B, start2 N ts, M, rtEnds Q2 E2, ⟨R, env_start rs⟩, pf ts M Q2 E2 hc, ⟨fun ρ' M' σ' H' ⟨M2, s, q⟩ af ev => ?_, fun t M' v H' ⟨M2, s, q⟩ af r => ?_, fun _ _ _ _ z => z.elim, fun _ _ _ _ z => z.elim, fun x ρ' M' cv d σ' H' ⟨M2, s, q⟩ af ev xr => ?_⟩⟩
  · exact cQ .non M2 .non H' q (af.trans (After.less af.rp s)) (by unfold Rep; rfl)
  · exact cQ t M2 v H' q (af.trans (After.less af.rp s)) (r.less af.rp s)
  · exact cE x M2 cv d H' q (af.trans (After.less af.rp s)) xr
end

/-! ### a law's end -/
theorem end_call {P : Program} {w : World} {K : PySem.W.Frag} {mg mb : Str → Option Value} {k : Nat} {fa a : Addr} {fd : FuncData} {x : Str} {sp : Sp} {s₁ : Shared} {vs : List Value} {ns : List Int}
    (KX : K.In s₁.heap) (hns : s₁.heap.Ns mainGlobals mg) (hb : s₁.heap.Ns builtinsNs mb) (hbb : ∀ x : Str, x ≠ "__name__" → mb x = bootBuiltins x) (hlim : s₁.heap.NoLimit) (hg : s₁.gens = #[])
    (ha : s₁.heap.get? a = some { cls := .type "list", data := .seq vs.toArray }) (hi : IntsAre vs ns) (hl : ns.length ≤ sizeLine) (hr : Room k callerA) (F : ∀ base : Heap, K.In base → base.Ns mainGlobals mg → FnG P w K mg base k fa fd [x] sp)
    (hbind : ∀ (s : Shared) (u : Value), BindsTo s fd ⟨[u], []⟩ [(x, u)]) (hsp : ∀ H : Hp, Only H → SqL K H a (ns.map V.int) → sp [.ref a] H (fun v _ => v = .bl true) fun _ _ _ => False) :
    codeAny (model P w) callerA (.call (.ref fa) ⟨[.ref a], []⟩) (fun r s' => r = .ok (.ret (.bool true)) ∧ OldK s₁.heap s'.heap ∧ s'.os = s₁.os ∧ AllBare s'.gens) s₁ := by
  have lenV := hi.length
  have rv := vals_ints hi
  have key : ∀ H : Hp, Only H → SqL K H a (ns.map V.int) → HOk P w H s₁.heap → (∀ b, H b ≠ none → b = a) → (H a ≠ none → K.lookup a = none) →
      codeAny (model P w) callerA (.call (.ref fa) ⟨[.ref a], []⟩) (fun r s' => r = .ok (.ret (.bool true)) ∧ OldK s₁.heap s'.heap ∧ s'.os = s₁.os ∧ AllBare s'.gens) s₁ := by
    intro H hO hS hok hA hK
    have isA : ∀ {b : Addr} {u : HO}, H b = some u → b = a := fun {b u} q => hA b (by rw [q]; exact fun z => nomatch z)
    have unt : ∀ {b : Addr} {o : Obj} {es : Array DictEntry} {ep : Nat}, s₁.heap.get? b = some o → o.data = .dict es ep → H b = none := by
      intro b o es ep e d
      cases q : H b with
      | none => rfl
      | some u =>
        have eb := isA q
        subst eb
        rw [ha] at e
        cases e
        exact nomatch (show Data.seq vs.toArray 0 = Data.dict es ep from d)
    have nsH : ∀ {b : Addr} {m : Str → Option Value}, s₁.heap.Ns b m → (hidT s₁.heap H).Ns b m := fun {b m} ⟨o, es, ep, e, d, r⟩ => ⟨o, es, ep, hidT_get e (unt e d), d, r⟩
    have kH : K.In (hidT s₁.heap H) := fun b o e => hidT_get (KX b o e) (by
      cases q : H b with
      | none => rfl
      | some u =>
        have eb := isA q
        subst eb
        rw [hK (by rw [q]; exact fun z => nomatch z)] at e
        cases e)
    obtain ⟨mc, l1, l2⟩ := hlim
    have e0 : Env0 P w K mg (hidT s₁.heap H) callerA [] s₁ H :=
      ⟨rfl, ⟨kH, nsH hns, ⟨mb, nsH hb, hbb⟩, ⟨mc, nsH l1, l2⟩⟩, fun b o e => of_hidT e, Nat.le_of_eq (hidT_size _ _), trivial, fun b z => (nomatch (show b ∈ ([] : List Addr) from z)), hok, .of_eq hg⟩
    refine codeAny_mono ((F _ kH (nsH hns)).run callerA [] s₁ H ⟨[.ref a], []⟩ [.ref a] [.ref a] _ _ hr rfl e0 (hbind s₁ (.ref a)) (.cons rfl .nil) (hsp H hO hS)) fun r s' h => ?_
    match r, h with
    | .error e, ⟨_, _, _, _, _, _, _, _, _, _, _, _, z⟩ => exact z.elim
    | .ok .next, z => exact False.elim z
    | .ok .brk, z => exact False.elim z
    | .ok .cont, z => exact False.elim z
    | .ok (.ret u), ⟨v, H', os, bare, un, hok', r', (q : v = .bl true)⟩ =>
      subst q
      obtain rfl : u = Value.bool true := r'
      refine ⟨rfl, OldK.of_keep fun b o e => ?_, os, bare⟩
      rcases hO b with q | ⟨ob, xs, z⟩
      · exact un.keep b o e q (fun z => nomatch (show b ∈ ([] : List Addr) from z)) (fun z => nomatch z)
      · obtain ⟨e1, _⟩ := hok b _ z
        obtain ⟨e2, _⟩ := hok' b _ (un.frzs b ob _ z)
        rw [e] at e1
        cases e1
        exact e2
  cases hk : K.lookup a with
  | some o =>
    have e := KX a o hk
    rw [ha] at e
    cases e
    exact key (fun _ => none) (fun _ => .inl rfl) (.inr ⟨_, vs.toArray, _, hk, rfl, rfl, rfl, by rw [List.size_toArray, lenV]; exact hl, by simpa using rv⟩) (fun b u z => nomatch (show (none : Option HO) = some u from z)) (fun b z => absurd rfl z) fun z => absurd rfl z
  | none =>
    have tr : ∀ {b : Addr} {u : HO}, (if b = a then some (HO.frz { cls := .type "list", data := .seq vs.toArray } (.lst (ns.map V.int))) else none) = some u → b = a ∧ HO.frz { cls := .type "list", data := .seq vs.toArray } (.lst (ns.map V.int)) = u := fun {b u} z => by
      by_cases hb : b = a
      · rw [if_pos hb] at z; exact ⟨hb, Option.some.inj z⟩
      · rw [if_neg hb] at z; cases z
    refine key (fun b => if b = a then some (.frz { cls := .type "list", data := .seq vs.toArray } (.lst (ns.map V.int))) else none) (fun b => ?_) (.inl (.inr ⟨{ cls := .type "list", data := .seq vs.toArray }, if_pos rfl⟩)) (fun b u z => ?_) (fun b z => ?_) fun _ => hk
    · by_cases hb : b = a
      · exact .inr ⟨_, _, if_pos hb⟩
      · exact .inl (if_neg hb)
    · obtain ⟨rfl, rfl⟩ := tr z
      exact ⟨ha, by rw [List.length_map]; exact hl, vs, _, rv, ha⟩
    · by_cases hb : b = a
      · exact hb
      · exact absurd (if_neg hb) z
/-- what k_head (or head_any) leaves, from the law's contract -/
theorem endG {l : PySem.W.OpenLaw} {n k : Nat} {q : Program} {loose : List Str} {XP : (Str → Option Value) → Heap → Prop} {YP : World → Heap → Prop} {d : DefRec} {x : Str} (hn : l.most = some n) (hn2 : n ≤ sizeLine) (hdf : d.params.defaults = []) (hr : Room k callerA)
    (F : ∀ (w : World) (mg : Str → Option Value) (fa : Addr) (h : Heap), YP w h → h.Ns mainGlobals mg → mg d.name = some (.ref fa) → ∃ (K : PySem.W.Frag) (fd : FuncData) (sp : Sp), K.In h ∧ (∀ (s : Shared) (u : Value), BindsTo s fd ⟨[u], []⟩ [(x, u)]) ∧
      (∀ (H : Hp) (a : Addr) (ns : List Int), ns.length ≤ n → Only H → SqL K H a (ns.map V.int) → sp [.ref a] H (fun v _ => v = .bl true) fun _ _ _ => False) ∧ ∀ base : Heap, K.In base → base.Ns mainGlobals mg → FnG l.prog w K mg base k fa fd [x] sp) :
    PySem.W.WalkO q loose XP YP l.row.toRowW d [] (fun f vs => PySem.call f vs) := by
  refine Att.attach_call hn hdf fun w s₀ s₁ mg mb fa o pm cd doc a vs ns G Y ho hd hcd hmg hobj hints hlen hg => ?_
  obtain ⟨K, fd, sp, KX, hb, hsp, hF⟩ := F w mg fa _ Y G.T.g hmg
  exact end_call KX G.T.g G.T.b G.T.builtins G.T.nolimit hg hobj hints (Nat.le_trans hlen hn2) hr hF hb fun H hO hS => hsp H a ns hlen hO hS
/-- the law's contract: at any script the answer is True -/
def lawCt : Ct := fun ts M Q _ => ∃ ns : List Int, ts = [.scr ns] ∧ ns.length ≤ 63 ∧ ∀ M', Q (.bl true) M'
theorem law_sp {cls : Nat → Value} {K : PySem.W.Frag} {H : Hp} {a : Addr} {ns : List Int} (hl : ns.length ≤ 63) (hO : Only H) (hS : SqL K H a (ns.map V.int)) : spOf cls K lawCt [.ref a] H (fun v _ => v = .bl true) fun _ _ _ => False := by
  refine ⟨fun _ => False, fun _ => none, fun t _ => t = .bl true, fun _ _ => False, [.scr ns], ⟨fun _ _ z => (nomatch z), fun _ z => False.elim z⟩, ?_, ⟨ns, rfl, hl, fun _ => rfl⟩, fun t M2 v H2 e af r => ?_, fun _ _ _ _ _ z => False.elim z⟩
  · refine Reps.one ?_
    unfold Rep
    refine ⟨a, rfl, ?_⟩
    rcases hS with (h | ⟨o, h⟩) | h
    · rcases hO a with z | ⟨o, xs, z⟩ <;> rw [h] at z <;> cases z
    · exact .inl ⟨o, h⟩
    · exact .inr h
  · subst e
    exact rep_bl r
end TL

/-! TLi: methods, stores to places, exchanged stores, and, or, not, isinstance over trees. -/
namespace TL
open PySem PySem.Spec PyProof.Rows L2

section
variable {X : Cx} {cls : Nat → Value} {W : WX} {e o a b c : Expr} {es : List Expr} {f fa fb : TE2} {fs : TA2} {x : Str} {p pos apos cpos : Pos}
/-! ### a list's methods -/
def appS : OpM := fun x as M Q => match x with
  | .loc a => match M a with
    | some (.lst ts) => match as with
      | [t] => ts.length < sizeLine ∧ Q .non (upS M a (.lst (ts ++ [t])))
      | _ => False
    | _ => False
  | _ => False
def tMe (r : OpM) (fo : TE2) (fs : TA2) : TE2 := fun ρ M Q E => fo ρ M (fun x M1 => fs ρ M1 (fun as M2 => r x as M2 Q) E) E
theorem loc_list {K : PySem.W.Frag} {B : Addr → Prop} {M : Store} {H : Hp} (R : Rp K B M H) {a : Addr} {ts : List T} (h : M a = some (.lst ts)) : tyV K "list" (.ref a) H := by
  obtain ⟨vs, e, _⟩ := loc_at R h
  exact .inl ⟨rfl, vs, SqL.of e⟩
/-- lists' methods: the receiver is a list, as seen before the arguments -/
def isLs (M : Store) (t : T) : Prop := ∃ ts, lsOf M t = some ts
def tMeL (r : OpM) (fo : TE2) (fs : TA2) : TE2 := fun ρ M Q E => fo ρ M (fun x M1 => isLs M1 x ∧ fs ρ M1 (fun as M2 => r x as M2 Q) E) E
theorem isLs_ty {K : PySem.W.Frag} {B : Addr → Prop} {M : Store} {H : Hp} (R : Rp K B M H) {v : V} {t : T} (r : Rep K B M H v t) (h : isLs M t) : tyV K "list" v H := by
  obtain ⟨ts, h⟩ := h
  obtain ⟨a, vs, rfl, e, _⟩ := lsOf_ok R r h
  exact .inl ⟨rfl, vs, SqL.of e⟩
theorem se_meL {name : Str} {id : String} {r : OpM} (slot : Slot "list" name id) (hty : typeOf (.builtin id) = pure (.type "method_descriptor")) (hm : MtR X id (lOM X.K r)) (ho : PE X o (lE cls X.K W f)) (ha : PA X (e :: es) (lA cls X.K W fs))
    (hbase : attributeBase o name X.env (eval o X.env) = eval o X.env)
    (hfew : ((backTo cpos (starEach (e :: es) X.env)).all (fun x => !x.1) && (backToKw cpos (keywordEach [] X.env)).all (fun x => x.1.isSome) && decide ((e :: es).length + ([] : List Keyword).length + (if ([] : List Keyword).isEmpty then 0 else 1) < 30)) = true)
    (hline : (apos.endLine == cpos.line) = true) (hs : starEach (e :: es) X.env = (false, eval e X.env) :: starEach es X.env) (hplain : (backTo cpos (starEach es X.env)).any (·.1) = false) :
    PE X (.Call (.Attribute o name apos) (e :: es) [] cpos) (lE cls X.K W (tMeL r f fs)) := by
  refine (pe_bm PySem.F.plainAttrs_list slot hty hm ho ha hbase hfew hline hs hplain).to fun σ H Q ⟨B, ρ, M, Q2, E, n, q, cQ, cE⟩ => ?_
  refine ⟨B, ρ, M, _, E, n, q, fun x M1 v H1 q1 af1 rx => ⟨isLs_ty af1.rp rx q1.1, B, ρ, M1, _, E, n.after af1, q1.2, fun as M2 vs H2 q2 af2 rs => ?_, cE.after af1⟩, cE⟩
  exact ⟨B, M2, Q2, x, as, af2.rp, rx.after af1.rp af2, rs, q2, fun t M3 w H3 q3 af3 r3 => cQ t M3 w H3 q3 (af1.trans (af2.trans af3)) r3⟩
def isSt (t : T) : Prop := ∃ z, t = .str z
def tMeS (r : OpM) (fo : TE2) (fs : TA2) : TE2 := fun ρ M Q E => fo ρ M (fun x M1 => isSt x ∧ fs ρ M1 (fun as M2 => r x as M2 Q) E) E
theorem se_meS {name : Str} {id : String} {r : OpM} (slot : Slot "str" name id) (hty : typeOf (.builtin id) = pure (.type "method_descriptor")) (hm : MtR X id (lOM X.K r)) (ho : PE X o (lE cls X.K W f)) (ha : PA X (e :: es) (lA cls X.K W fs))
    (hbase : attributeBase o name X.env (eval o X.env) = eval o X.env)
    (hfew : ((backTo cpos (starEach (e :: es) X.env)).all (fun x => !x.1) && (backToKw cpos (keywordEach [] X.env)).all (fun x => x.1.isSome) && decide ((e :: es).length + ([] : List Keyword).length + (if ([] : List Keyword).isEmpty then 0 else 1) < 30)) = true)
    (hline : (apos.endLine == cpos.line) = true) (hs : starEach (e :: es) X.env = (false, eval e X.env) :: starEach es X.env) (hplain : (backTo cpos (starEach es X.env)).any (·.1) = false) :
    PE X (.Call (.Attribute o name apos) (e :: es) [] cpos) (lE cls X.K W (tMeS r f fs)) := by
  refine (pe_bm PySem.F.plainAttrs_str slot hty hm ho ha hbase hfew hline hs hplain).to fun σ H Q ⟨B, ρ, M, Q2, E, n, q, cQ, cE⟩ => ?_
  refine ⟨B, ρ, M, _, E, n, q, fun x M1 v H1 q1 af1 rx => ⟨?_, B, ρ, M1, _, E, n.after af1, q1.2, fun as M2 vs H2 q2 af2 rs => ?_, cE.after af1⟩, cE⟩
  · obtain ⟨⟨z, rfl⟩, _⟩ := q1
    obtain rfl := rep_str rx
    exact rfl
  · exact ⟨B, M2, Q2, x, as, af2.rp, rx.after af1.rp af2, rs, q2, fun t M3 w H3 q3 af3 r3 => cQ t M3 w H3 q3 (af1.trans (af2.trans af3)) r3⟩
theorem m_append : MtR X "list.append" (lOM X.K appS) := by
  intro pins s σ H x xs v us Q I rx rxs ⟨B, M, Q2, a, as, R, ra, rs, q, cQ⟩
  cases a with
  | loc p =>
    unfold appS at q
    dsimp only at q
    cases em : M p with
    | none => rw [em] at q; exact q.elim
    | some cc =>
      rw [em] at q
      cases cc with
      | cup => exact q.elim
      | lst ts =>
        cases as with
        | nil => exact q.elim
        | cons t r =>
          cases r with
          | cons _ _ => exact q.elim
          | nil =>
            obtain ⟨y, rfl, ry⟩ := reps1 rs
            obtain rfl := rep_loc ra
            obtain ⟨vs, e2, r2⟩ := loc_at R em
            have own : M p ≠ none := by rw [em]; exact fun z => nomatch z
            refine mt_append pins s σ H _ _ v us Q I rx rxs ⟨p, vs, y, rfl, rfl, e2, by rw [r2.length]; exact q.1, ?_⟩
            have mv := write_mv (H := H) (B := B) (o := .lst (vs ++ [y])) (c := .lst (ts ++ [t])) own
            exact cQ _ _ _ _ q.2 (After.write R own ⟨_, upd_same, Reps.mv R mv _ _ (r2.append (Reps.one ry))⟩) Rep.non
  | _ => exact q.elim
def popS : OpM := fun x as M Q => match x with
  | .loc a => match M a with
    | some (.lst ts) => match as with
      | [] => match ts.getLast? with
        | some t => Q t (upS M a (.lst ts.dropLast))
        | none => False
      | _ => False
    | _ => False
  | _ => False
def joinS : OpM := fun x as M Q => match x with
  | .str z => match as with
    | [t] => match sqOf M t with
      | some ts => match strsOf ts with
        | some ys => (ys.map (·.length)).sum + ys.length * z.length ≤ 16777216 ∧ Q (.str (Txt.join z ys)) M
        | none => False
      | none => False
    | _ => False
  | _ => False
theorem m_join : MtR X "str.join" (lOM X.K joinS) := by
  intro pins s σ H x xs v us Q I rx rxs ⟨B, M, Q2, a, as, R, ra, rs, q, cQ⟩
  cases a with
  | str z =>
    match as, rs, q with
    | [t], rs, q =>
      obtain ⟨y, rfl, ry⟩ := reps1 rs
      obtain rfl := rep_str ra
      have q : (match sqOf M t with | some ts => (match strsOf ts with | some ys => (ys.map (·.length)).sum + ys.length * z.length ≤ 16777216 ∧ Q2 (.str (Txt.join z ys)) M | none => False) | none => False) := q
      cases e : sqOf M t with
      | none => rw [e] at q; exact q.elim
      | some ts =>
        rw [e] at q
        dsimp only at q
        cases e2 : strsOf ts with
        | none => rw [e2] at q; exact q.elim
        | some ys =>
          rw [e2] at q
          obtain ⟨p, ws, rfl, h, r2⟩ := sqOf_ok R ry e
          rw [strsOf_eq e2] at r2
          rw [r2.strs] at h
          exact mt_join pins s σ H _ _ v us Q I rx rxs ⟨z, p, ys, rfl, rfl, h, q.1, cQ _ M _ H q.2 (After.refl R) Rep.str⟩
  | _ => exact q.elim
/-- s.index(t), where t stands in s -/
def sixS : OpM := fun x as M Q => match x with
  | .str z => match as with
    | [.str w] => match Builtin.Str.occurrences z w 0 z.length 1 with
      | i :: _ => Q (.int (i : Nat)) M
      | [] => False
    | _ => False
  | _ => False
theorem m_six : MtR X "str.index" (lOM X.K sixS) := by
  intro pins s σ H x xs v us Q I rx rxs ⟨B, M, Q2, a, as, R, ra, rs, q, cQ⟩
  cases a with
  | str z =>
    cases as with
    | nil => exact q.elim
    | cons t ts =>
      cases ts with
      | cons _ _ => cases t <;> exact q.elim
      | nil =>
        cases t with
        | str w =>
          obtain ⟨y, rfl, ry⟩ := reps1 rs
          obtain rfl := rep_str ra
          obtain rfl := rep_str ry
          have q : (match Builtin.Str.occurrences z w 0 z.length 1 with | i :: _ => Q2 (.int (i : Nat)) M | [] => False) := q
          cases e : Builtin.Str.occurrences z w 0 z.length 1 with
          | nil => rw [e] at q; exact q.elim
          | cons i r =>
            rw [e] at q
            exact mt_sindex pins s σ H _ _ v us Q I rx rxs ⟨z, w, i, r, rfl, rfl, e, cQ _ M _ H q (After.refl R) Rep.int⟩
        | _ => exact q.elim
  | _ => exact q.elim

/-! ### o[i] = v -/
def setS : Op3 := fun o i v M Q => match o with
  | .loc a => match i with
    | .int k => match M a with
      | some (.lst ts) => ∃ j, ixN ts.length k = some j ∧ Q (upS M a (.lst (ts.set j v)))
      | some .cup => (k = 0 ∧ ∃ n, v = .int n ∧ Q M) ∨ (k = 1 ∧ ∃ n, v = .int n ∧ 0 ≤ n ∧ n < 4294967296 ∧ Q M)
      | none => False
    | _ => False
  | _ => False
theorem upS_id {M : Store} {a : Addr} {c : Cell} (h : M a = some c) : upS M a c = M := by
  funext b
  by_cases e : b = a
  · subst e; rw [upS_same, h]
  · rw [upS_ne e]
theorem p_set : PSet X (lSet X.K setS) := by
  intro pins s σ H o i v ov iv u Q I ro ri rv ⟨B, M, Q2, a, b, c, R, ra, rb, rc, q, cQ⟩
  cases a with
  | loc p =>
   cases b with
   | int k =>
    obtain rfl := rep_loc ra
    obtain rfl := rep_int rb
    have q : (match M p with | some (.lst ts) => ∃ j, ixN ts.length k = some j ∧ Q2 (upS M p (.lst (ts.set j c))) | some .cup => (k = 0 ∧ ∃ n, c = .int n ∧ Q2 M) ∨ (k = 1 ∧ ∃ n, c = .int n ∧ 0 ≤ n ∧ n < 4294967296 ∧ Q2 M) | none => False) := q
    cases em : M p with
    | none => rw [em] at q; exact q.elim
    | some cc =>
      rw [em] at q
      have own : M p ≠ none := by rw [em]; exact fun z => nomatch z
      cases cc with
      | lst ts =>
        obtain ⟨j, ej, q⟩ := q
        obtain ⟨vs, e2, r2⟩ := loc_at R em
        have mv := write_mv (H := H) (B := B) (o := .lst (vs.set j v)) (c := .lst (ts.set j c)) own
        refine set_list pins s σ H _ _ v ov iv u Q I ro ri rv ⟨p, vs, k, j, rfl, rfl, e2, by rw [r2.length]; exact ej, ?_⟩
        exact cQ _ _ q (After.write R own ⟨_, upd_same, Reps.mv R mv _ _ (Reps.set rc j r2)⟩)
      | cup =>
        obtain ⟨m, n, e2, h0, h1⟩ := R.cell p _ em
        rcases q with ⟨rfl, z, rfl, q0⟩ | ⟨rfl, z, rfl, k0, k1, q0⟩
        · obtain rfl := rep_int rc
          refine set_list pins s σ H _ _ _ ov iv u Q I ro ri rv ⟨p, _, 0, 0, rfl, rfl, e2, rfl, ?_⟩
          have w := After.write R own (o := .lst [.int z, .int n]) (c := .cup) ⟨z, n, upd_same, h0, h1⟩
          rw [upS_id em] at w
          exact cQ _ _ q0 w
        · obtain rfl := rep_int rc
          refine set_list pins s σ H _ _ _ ov iv u Q I ro ri rv ⟨p, _, 1, 1, rfl, rfl, e2, rfl, ?_⟩
          have w := After.write R own (o := .lst [.int m, .int z]) (c := .cup) ⟨m, z, upd_same, k0, k1⟩
          rw [upS_id em] at w
          exact cQ _ _ q0 w
   | _ => exact q.elim
  | _ => exact q.elim

/-! ### and, or, not, if else -/
def tAn (fa fb : TE2) : TE2 := fun ρ M Q E => fa ρ M (fun t M1 => match t with
  | .bl k => Br k (fb ρ M1 Q E) (Q (.bl false) M1)
  | _ => False) E
def tOr2 (fa fb : TE2) : TE2 := fun ρ M Q E => fa ρ M (fun t M1 => match t with
  | .bl k => Br k (Q (.bl true) M1) (fb ρ M1 Q E)
  | _ => False) E
theorem se_and (ha : PE X a (lE cls X.K W fa)) (hb : PE X (.BoolOp .And (b :: es) pos) (lE cls X.K W fb)) : PE X (.BoolOp .And (a :: b :: es) pos) (lE cls X.K W (tAn fa fb)) := by
  refine (pe_and ha hb).to fun σ H Q ⟨B, ρ, M, Q2, E, n, q, cQ, cE⟩ => ⟨B, ρ, M, _, E, n, q, fun t M1 v H1 q1 af r => ?_, cE⟩
  cases t with
  | bl k =>
    refine ⟨k, rep_bl r, ?_⟩
    have q1 : Br k _ _ := q1
    cases k with
    | true => rw [if_pos rfl]; exact ⟨B, ρ, M1, Q2, E, n.after af, q1.1 rfl, fun t M2 w H2 q2 af2 r2 => cQ t M2 w H2 q2 (af.trans af2) r2, cE.after af⟩
    | false => rw [if_neg Bool.false_ne_true]; exact cQ _ M1 _ H1 (q1.2 rfl) af Rep.bl
  | _ => exact q1.elim
theorem se_or (ha : PE X a (lE cls X.K W fa)) (hb : PE X (.BoolOp .Or (b :: es) pos) (lE cls X.K W fb)) : PE X (.BoolOp .Or (a :: b :: es) pos) (lE cls X.K W (tOr2 fa fb)) := by
  refine (pe_or ha hb).to fun σ H Q ⟨B, ρ, M, Q2, E, n, q, cQ, cE⟩ => ⟨B, ρ, M, _, E, n, q, fun t M1 v H1 q1 af r => ?_, cE⟩
  cases t with
  | bl k =>
    refine ⟨k, rep_bl r, ?_⟩
    have q1 : Br k _ _ := q1
    cases k with
    | false => rw [if_neg Bool.false_ne_true]; exact ⟨B, ρ, M1, Q2, E, n.after af, q1.2 rfl, fun t M2 w H2 q2 af2 r2 => cQ t M2 w H2 q2 (af.trans af2) r2, cE.after af⟩
    | true => rw [if_pos rfl]; exact cQ _ M1 _ H1 (q1.1 rfl) af Rep.bl
  | _ => exact q1.elim
theorem se_bo1 {op : BoolOp} (ha : PE X a (lE cls X.K W fa)) : PE X (.BoolOp op [a] pos) (lE cls X.K W fa) := pe_one ha
def tNo (fa : TE2) : TE2 := fun ρ M Q E => fa ρ M (fun t M1 => match t with
  | .bl k => Q (.bl (!k)) M1
  | _ => False) E
theorem se_not (ha : PE X a (lE cls X.K W fa)) : PE X (.UnaryOp .Not a pos) (lE cls X.K W (tNo fa)) := by
  refine (pe_not ha).to fun σ H Q ⟨B, ρ, M, Q2, E, n, q, cQ, cE⟩ => ⟨B, ρ, M, _, E, n, q, fun t M1 v H1 q1 af r => ?_, cE⟩
  cases t with
  | bl k => exact ⟨k, rep_bl r, cQ _ M1 _ H1 q1 af Rep.bl⟩
  | _ => exact q1.elim
def tIe (ft : TT2) (fa fb : TE2) : TE2 := fun ρ M Q E => ft ρ M (fun k M1 => Br k (fa ρ M1 Q E) (fb ρ M1 Q E)) E
theorem se_ite {ft : TT2} (hc : PT X c (lT cls X.K W ft)) (ha : PE X a (lE cls X.K W fa)) (hb : PE X b (lE cls X.K W fb)) : PE X (.IfExp c a b pos) (lE cls X.K W (tIe ft fa fb)) := by
  refine (pe_ifExp hc ha hb).to fun σ H Q ⟨B, ρ, M, Q2, E, n, q, cQ, cE⟩ => ⟨B, ρ, M, _, E, n, q, fun k M1 H1 q1 af => ?_, cE⟩
  have q1 : Br k _ _ := q1
  cases k with
  | true => dsimp only; rw [if_pos rfl]; exact ⟨B, ρ, M1, Q2, E, n.after af, q1.1 rfl, fun t M2 w H2 q2 af2 r2 => cQ t M2 w H2 q2 (af.trans af2) r2, cE.after af⟩
  | false => dsimp only; rw [if_neg Bool.false_ne_true]; exact ⟨B, ρ, M1, Q2, E, n.after af, q1.2 rfl, fun t M2 w H2 q2 af2 r2 => cQ t M2 w H2 q2 (af.trans af2) r2, cE.after af⟩
/-- as tests -/
def tAnT (fa fb : TT2) : TT2 := fun ρ M Q E => fa ρ M (fun k M1 => Br k (fb ρ M1 Q E) (Q false M1)) E
def tOrT (fa fb : TT2) : TT2 := fun ρ M Q E => fa ρ M (fun k M1 => Br k (Q true M1) (fb ρ M1 Q E)) E
def tNoT (fa : TT2) : TT2 := fun ρ M Q E => fa ρ M (fun k M1 => Q (!k) M1) E
theorem _root_.L2.PW.to {X : Cx} {e : Expr} {t t' : TT} (h : PW X e t) (w : ∀ σ H Q, t' σ H Q → t σ H Q) : PW X e t' := ⟨fun wh pins s σ H Q I q => h.run wh pins s σ H Q I (w σ H Q q)⟩
theorem sw_and {ta tb : TT2} (ha : PT X a (lT cls X.K W ta)) (hb : PW X (.BoolOp .And (b :: es) pos) (lT cls X.K W tb)) : PW X (.BoolOp .And (a :: b :: es) pos) (lT cls X.K W (tAnT ta tb)) := by
  refine (pw_and ha hb).to fun σ H Q ⟨B, ρ, M, Q2, E, n, q, cQ, cE⟩ => ⟨B, ρ, M, _, E, n, q, fun k M1 H1 q1 af => ?_, cE⟩
  have q1 : Br k _ _ := q1
  cases k with
  | true => dsimp only; rw [if_pos rfl]; exact ⟨B, ρ, M1, Q2, E, n.after af, q1.1 rfl, fun t M2 H2 q2 af2 => cQ t M2 H2 q2 (af.trans af2), cE.after af⟩
  | false => dsimp only; rw [if_neg Bool.false_ne_true]; exact cQ _ M1 H1 (q1.2 rfl) af
theorem sw_or {ta tb : TT2} (ha : PT X a (lT cls X.K W ta)) (hb : PW X (.BoolOp .Or (b :: es) pos) (lT cls X.K W tb)) : PW X (.BoolOp .Or (a :: b :: es) pos) (lT cls X.K W (tOrT ta tb)) := by
  refine (pw_or ha hb).to fun σ H Q ⟨B, ρ, M, Q2, E, n, q, cQ, cE⟩ => ⟨B, ρ, M, _, E, n, q, fun k M1 H1 q1 af => ?_, cE⟩
  have q1 : Br k _ _ := q1
  cases k with
  | false => dsimp only; rw [if_neg Bool.false_ne_true]; exact ⟨B, ρ, M1, Q2, E, n.after af, q1.2 rfl, fun t M2 H2 q2 af2 => cQ t M2 H2 q2 (af.trans af2), cE.after af⟩
  | true => dsimp only; rw [if_pos rfl]; exact cQ _ M1 H1 (q1.1 rfl) af
theorem st_not {ta : TT2} (ha : PT X a (lT cls X.K W ta)) : PT X (.UnaryOp .Not a pos) (lT cls X.K W (tNoT ta)) := by
  refine (pt_not ha).to fun σ H Q ⟨B, ρ, M, Q2, E, n, q, cQ, cE⟩ => ⟨B, ρ, M, _, E, n, q, fun k M1 H1 q1 af => cQ _ M1 H1 q1 af, cE⟩

end
end TL

/-! TLj: names, constants, isinstance, freezing over trees. -/
namespace TL
open PySem PySem.Spec PyProof.Rows L2

section
variable {X : Cx} {cls : Nat → Value} {W : WX} {e o a b c : Expr} {es : List Expr} {f fa fb : TE2} {fs : TA2} {x : Str} {p pos apos cpos : Pos}
/-! ### names, constants -/
def tSlot (i : Nat) : TE2 := fun ρ M Q _ => match ρ[i]? with
  | some (some t) => Q t M
  | _ => False
theorem se_slot {i : Nat} (hN : X.N[i]? = some x) (hv : Vis X.env.scope x) (hd : (x == ("__debug__" : Str)) = false) (hcd : (x == ("__classdict__" : Str)) = false) : PE X (.Name x pos) (lE cls X.K W (tSlot i)) := by
  refine (pe_var hN hv hd hcd).to fun σ H Q ⟨B, ρ, M, Q2, E, n, q, cQ, cE⟩ => ?_
  unfold tSlot at q
  split at q
  · rename_i t e
    obtain ⟨v, ev, rv⟩ := n.env.at_ i t e
    exact ⟨v, ev, cQ t M v H q (After.refl n.rp) rv⟩
  · exact q.elim
def conT : Const → Option T
  | .none => some .non
  | .bool b => some (.bl b)
  | .int i => some (.int i)
  | .str x => some (.str x)
  | _ => none
def tCon (c : Const) : TE2 := fun _ M Q _ => match conT c with
  | some t => Q t M
  | none => False
theorem se_con {c : Const} {j : Nat} : PE X (.Constant c j pos) (lE cls X.K W (tCon c)) := by
  have fin : ∀ {t : T} {v : V}, conT c = some t → (∀ B M H, Rep X.K B M H v t) → ∀ σ H Q, lE cls X.K W (tCon c) σ H Q → tC v σ H Q := fun {t v} e r σ H Q ⟨B, ρ, M, Q2, E, n, q, cQ, cE⟩ => by
    unfold tCon at q
    rw [e] at q
    exact cQ t M v H q (After.refl n.rp) (r _ _ _)
  have no : conT c = none → PE X (.Constant c j pos) (lE cls X.K W (tCon c)) := fun e => ⟨fun pins s σ H Q I ⟨B, ρ, M, Q2, E, n, q, cQ, cE⟩ => by
    unfold tCon at q
    rw [e] at q
    exact q.elim⟩
  cases c with
  | none => exact pe_non.to (fin (v := .non) rfl fun _ _ _ => Rep.non)
  | bool b => exact pe_bl.to (fin rfl fun _ _ _ => Rep.bl)
  | int i => exact pe_int.to (fin rfl fun _ _ _ => Rep.int)
  | str z => exact pe_str.to (fin rfl fun _ _ _ => Rep.str)
  | float _ => exact no rfl
  | complex _ _ => exact no rfl
  | bytes _ => exact no rfl
  | ellipsis => exact no rfl
/-- a module's constant: a whole number, a bool, a text -/
def scalV : T → Option V
  | .non => some .non
  | .bl b => some (.bl b)
  | .int i => some (.int i)
  | .str z => some (.str z)
  | _ => none
def tGlo (t : Option T) : TE2 := fun _ M Q _ => match t with
  | some t => Q t M
  | none => False
theorem se_glo {t : T} {v : V} {u : Value} (hv : scalV t = some v) (hg : Gl X x) (hm : X.mg x = some u) (r : RelV v u) (hd : (x == ("__debug__" : Str)) = false) : PE X (.Name x pos) (lE cls X.K W (tGlo (some t))) :=
  (pe_glob hg hm r hd).to fun σ H Q ⟨B, ρ, M, Q2, E, n, q, cQ, cE⟩ => cQ t M v H q (After.refl n.rp) (by cases t <;> cases hv <;> (unfold Rep; rfl))

/-! ### isinstance -/
inductive Ty where
  | int | bool | tuple | list | str
def Ty.nm : Ty → String
  | .int => "int"
  | .bool => "bool"
  | .tuple => "tuple"
  | .list => "list"
  | .str => "str"
def Ty.isL : Ty → Bool
  | .list => true
  | _ => false
def isiT (ty : Ty) : T → Option Bool
  | .non => some false
  | .bl _ => some (match ty with | .int => true | .bool => true | _ => false)
  | .int _ => some (match ty with | .int => true | _ => false)
  | .str _ => some (match ty with | .str => true | _ => false)
  | .tup _ => some (match ty with | .tuple => true | _ => false)
  | .lst _ => some ty.isL
  | _ => none
def tIsi (ty : Ty) (fa : TE2) : TE2 := fun ρ M Q E => fa ρ M (fun t M1 => match isiT ty t with
  | some k => Q (.bl k) M1
  | none => match t with
    | .loc a => match M1 a with
      | some _ => Q (.bl ty.isL) M1
      | none => False
    | _ => False) E
theorem kit_all (ty : Ty) : kitB "NoneType" ty.nm = some false ∧ kitB "bool" ty.nm = some (match ty with | .int => true | .bool => true | _ => false) ∧ kitB "int" ty.nm = some (match ty with | .int => true | _ => false) ∧ kitB "str" ty.nm = some (match ty with | .str => true | _ => false) ∧
    kitB "tuple" ty.nm = some (match ty with | .tuple => true | _ => false) ∧ kitB "list" ty.nm = some ty.isL := by
  cases ty <;> decide +kernel
theorem se_isi {ty : Ty} {xt : Str} {pt p1 : Pos} (hg : Gl X "isinstance") (hm : X.mg "isinstance" = none) (hgt : Gl X xt) (hmt : X.mg xt = none) (hbt : bootBuiltins xt = some (.type ty.nm)) (hnt : xt ≠ "__name__") (hdt : (xt == ("__debug__" : Str)) = false)
    (ha : PE X a (lE cls X.K W fa)) (hs : starEach [a, .Name xt pt] X.env = (false, eval a X.env) :: starEach [.Name xt pt] X.env) : PE X (.Call (.Name "isinstance" p1) [a, .Name xt pt] [] pos) (lE cls X.K W (tIsi ty fa)) := by
  have h2 : PE X (.Name xt pt) (tC (.ty ty.nm)) := pe_bltn hgt hmt hbt rfl hnt hdt
  have hpl : (backTo pos (starEach [.Name xt pt] X.env)).any (·.1) = false := rfl
  refine (pe_callB call_isi hg hm (by decide +kernel) (pa_cons ha (pa_cons h2 pa_nil) hs) (by decide) (by decide) hs hpl).to fun σ H Q ⟨B, ρ, M, Q2, E, n, q, cQ, cE⟩ => ?_
  refine ⟨B, ρ, M, _, E, n, q, fun t M1 v H1 q1 af r => ?_, cE⟩
  show rIsi X.K [v, .ty ty.nm] H1 Q
  obtain ⟨k1, k2, k3, k4, k5, k6⟩ := kit_all ty
  have fin : ∀ (tn : String) (k : Bool), TyX X.K H1 v (.type tn) → kitB tn ty.nm = some k → Q2 (.bl k) M1 → rIsi X.K [v, .ty ty.nm] H1 Q := fun tn k hx hk hq =>
    ⟨v, .ty ty.nm, .type tn, .type ty.nm, k, rfl, .ty _, hx, kit_ty hk, cQ _ M1 _ H1 hq af Rep.bl⟩
  cases t with
  | non => obtain rfl := rep_non r; exact fin "NoneType" _ (.base .non) k1 q1
  | bl z => obtain rfl := rep_bl r; exact fin "bool" _ (.base (.bl z)) k2 q1
  | int z => obtain rfl := rep_int r; exact fin "int" _ (.base (.int z)) k3 q1
  | str z => obtain rfl := rep_str r; exact fin "str" _ (.base (.str z)) k4 q1
  | tup ts =>
    obtain ⟨p, vs, rfl, h, rs⟩ := rep_tup r
    have hx : TyX X.K H1 (.ref p) (.type "tuple") := by
      rcases h with (h | ⟨o, h⟩) | ⟨o, its, m, h, hc, _⟩
      · exact .base (.tup h)
      · exact .fTuple h
      · exact .kTuple h hc
    exact fin "tuple" _ hx k5 q1
  | lst ts =>
    obtain ⟨p, vs, rfl, h, rs⟩ := lsOf_ok af.rp r rfl
    exact fin "list" _ (.base (.lst h)) k6 q1
  | loc p =>
    have q1 : (match M1 p with | some _ => Q2 (.bl ty.isL) M1 | none => False) := q1
    cases em : M1 p with
    | none => rw [em] at q1; exact q1.elim
    | some cc =>
      rw [em] at q1
      obtain rfl := rep_loc r
      obtain ⟨vs, e2⟩ := (af.rp.cell p cc em).lst
      exact fin "list" _ (.base (.lst e2)) k6 q1
  | scr _ => exact q1.elim
  | fn _ => exact q1.elim
/-- what is owned becomes a value -/
def tFrz (fa : TE2) : TE2 := fun ρ M Q E => fa ρ M (fun t M1 => match t with
  | .loc a => match M1 a with
    | some (.lst ts) => Q (.lst ts) (unS M1 a)
    | _ => False
  | _ => False) E
theorem se_frz (ha : PE X a (lE cls X.K W fa)) : PE X a (lE cls X.K W (tFrz fa)) := by
  refine ha.to fun σ H Q ⟨B, ρ, M, Q2, E, n, q, cQ, cE⟩ => ⟨B, ρ, M, _, E, n, q, fun t M1 v H1 q1 af r => ?_, cE⟩
  cases t with
  | loc p =>
    have q1 : (match M1 p with | some (.lst ts) => Q2 (.lst ts) (unS M1 p) | _ => False) := q1
    cases em : M1 p with
    | none => rw [em] at q1; exact q1.elim
    | some cc =>
      rw [em] at q1
      cases cc with
      | cup => exact q1.elim
      | lst ts =>
        obtain rfl := rep_loc r
        exact cQ _ _ _ H1 q1 (af.trans (After.less af.rp Sub.un)) (Rep.freeze af.rp em)
  | _ => exact q1.elim
def sFrz (i : Nat) : TS2 := fun D ρ M => match ρ[i]? with
  | some (some (.loc a)) => match M a with
    | some (.lst ts) => D.nx (ρ.set i (some (.lst ts))) (unS M a)
    | _ => False
  | _ => False
theorem set_same {α : Type} : ∀ {l : List α} {i : Nat} {a : α}, l[i]? = some a → l.set i a = l
  | [], _, _, h => by simp at h
  | x :: l, 0, a, h => by simp at h; subst h; rfl
  | x :: l, i + 1, a, h => by
    simp at h
    rw [List.set_cons_succ, set_same (by simpa using h)]
theorem ss_frz {i : Nat} {sts : List Stmt} {g : TS2} (h : PSs X sts (lS cls X.K W g)) : PSs X sts (lS cls X.K W (sSeq (sFrz i) g)) := by
  refine h.to fun D σ H ⟨B, ρ, M, D2, n, q, e⟩ => ?_
  have q : (match ρ[i]? with | some (some (.loc a)) => (match M a with | some (.lst ts) => g D2 (ρ.set i (some (.lst ts))) (unS M a) | _ => False) | _ => False) := q
  split at q
  · rename_i a ea
    split at q
    · rename_i ts em
      have af := After.less n.rp (Sub.un (M := M) (a := a))
      obtain ⟨v, ev, rv⟩ := n.env.at_ i _ ea
      obtain rfl := rep_loc rv
      have ev2 := (n.after af).env.set (Rep.freeze n.rp em) i
      rw [set_same ev] at ev2
      exact ⟨B, _, _, D2, ⟨af.rp, ev2⟩, q, e.after af⟩
    · exact q.elim
  · exact q.elim
end
end TL

/-! TLjj: tuples backwards, sorted of a tuple, enumerate of either. -/
namespace TL
open PySem PySem.Spec PyProof.Rows L2 RZ
theorem fm_congr {α β : Type} {f g : α → Option β} : ∀ {l : List α}, (∀ x ∈ l, f x = g x) → l.filterMap f = l.filterMap g
  | [], _ => rfl
  | x :: l, h => by rw [List.filterMap_cons, List.filterMap_cons, h x List.mem_cons_self, fm_congr fun y hy => h y (List.mem_cons_of_mem _ hy)]

section
variable {P : Program} {w : World} {A : Around} {E : Value → Shared → Prop} {z : Shared}
/-- the places of t[::-1] -/
theorem back_at (n : Nat) : Builtin.Slice.sliceAdjust none none (-1) (n : Int) = ((n : Int) - 1, -1) ∧ Builtin.Slice.slicePlaces ((n : Int) - 1) (-1) (-1) = n := by
  refine ⟨rfl, ?_⟩
  unfold Builtin.Slice.slicePlaces
  rw [if_neg (by decide)]
  by_cases h : ((n : Int) - 1) > -1
  · rw [if_pos h, show (-(-1) : Int) = 1 by decide, Int.ediv_one]; omega
  · rw [if_neg h]; have : n = 0 := by omega
    rw [this]; rfl
theorem back_pick (xs : Array Value) : ((List.range xs.size).filterMap fun (m : Nat) => xs[(((xs.size : Int) - 1) + (m : Int) * (-1)).toNat]?) = xs.toList.reverse := by
  have e : (List.range xs.size).filterMap (fun (m : Nat) => xs[(((xs.size : Int) - 1) + (m : Int) * (-1)).toNat]?) = (List.range xs.size).filterMap ((fun i => xs[i]?) ∘ fun k => xs.size - 1 - k) := by
    refine fm_congr fun m hm => ?_
    have := List.mem_range.mp hm
    have e3 : (((xs.size : Int) - 1) + (m : Int) * (-1)).toNat = xs.size - 1 - m := by omega
    show xs[(((xs.size : Int) - 1) + (m : Int) * (-1)).toNat]? = xs[xs.size - 1 - m]?
    rw [e3]
  rw [e, ← List.filterMap_map, PySem.W.krv_range, List.filterMap_reverse, PySem.W.krv_all]
theorem back_tup {t c : Addr} {xs : Array Value} {va vb vc : Value} {Q : Value → Shared → Prop} (ht : IsTup z.heap t xs) (hc : z.heap.IsSliceOf c va vb vc) (pa : IsPart va none) (pb : IsPart vb none) (pc : IsPart vc (some (-1))) (hz : xs.size ≤ sizeLine)
    (q : Q (.ref z.heap.objs.size) { z with heap := z.heap.push { cls := .type "tuple", data := .seq xs.toList.reverse.toArray } }) : wpAny (model P w) A (getItem (.ref t) (.ref c)) Q E z := by
  have room : sizeOk (.seq xs.toList.reverse.toArray) := by show xs.toList.reverse.toArray.size ≤ sizeLine; simpa using hz
  obtain ⟨oc, h1, h2, h3⟩ := id hc
  have tc : z.TypeIs (.ref c) "slice" := ⟨oc, h1, h2⟩
  unfold getItem
  try with_reducible refine wpAny_holding ?_
  first | refine wpAny_bind (wpAny_pure ?_) | skip
  refine wpAny_bind (wpAny_sequenceKey ht.typeIs (by decide) ?_); refine wpAny_bind (wpAny_callSpecial?_slot (name := Str.ofString "__getitem__") ht.typeIs PyProof.Rows.slot_tuple_getitem (wpAny_call_entry PyProof.Rows.slot_tuple_getitem ht.typeIs entry_tuple_getitem ?_ (args_tuple_getitem _ _)))
  show wpAny _ _ (Builtin.Tuple.tupleItemsOf (.ref t) >>= _) _ _ z
  refine wpAny_bind (tupleItemsOf_ ht ?_); refine wpAny_bind (wpAny_typeOf tc ?_)
  rw [if_pos (by decide)]
  have app : ∀ {A' : Around} {R : Int × Int × Nat → Shared → Prop}, R ((xs.size : Int) - 1, -1, xs.size) z → wpAny (model P w) A' (Builtin.Slice.sliceApplied (.ref c) (pure (xs.size : Int))) R E z := fun {A' R} r => by
    unfold Builtin.Slice.sliceApplied Builtin.Slice.sliceFields
    refine wpAny_bind (wpAny_bind (wpAny_field h1 h3 (x := va) rfl (wpAny_bind (wpAny_field h1 h3 (x := vb) rfl (wpAny_bind (wpAny_field h1 h3 (x := vc) rfl (wpAny_pure (wpAny_bind (HT.slicePart_ pc ?_)))))))))
    show wpAny _ _ (if ((-1 : Int) == 0) = true then _ else _) _ _ z
    rw [if_neg (by decide)]
    refine wpAny_bind (HT.slicePart_ pa (wpAny_bind (HT.slicePart_ pb (wpAny_bind (wpAny_pure ?_)))))
    show wpAny _ _ (match Builtin.Slice.sliceAdjust none none (-1) (xs.size : Int) with | (lo, hi) => pure (lo, (-1 : Int), Builtin.Slice.slicePlaces lo hi (-1))) _ _ z
    rw [(back_at xs.size).1]
    show wpAny _ _ (pure (((xs.size : Int) - 1), (-1 : Int), Builtin.Slice.slicePlaces ((xs.size : Int) - 1) (-1) (-1))) _ _ z
    rw [(back_at xs.size).2]
    exact wpAny_pure r
  refine wpAny_bind (app ?_)
  have no : ¬ ((((xs.size : Int) - 1) == 0 && (-1 : Int) == 1 && xs.size == xs.size) = true) := by simp
  show wpAny _ _ (if (((xs.size : Int) - 1) == 0 && (-1 : Int) == 1 && xs.size == xs.size) = true then _ else _) _ _ z
  rw [if_neg no, back_pick]
  first
    | exact wpAny_bind (m := Builtin.Tuple.tupleExact _) (wpAny_newObj_type (wpAny_pure ⟨_, rfl, wpAny_pure q⟩) room)
    | exact wpAny_bind (m := Builtin.Tuple.tupleExact _) (wpAny_newObj_type (wpAny_bind (wpAny_pure (wpAny_pure ⟨_, rfl, wpAny_pure q⟩))) room)
    | exact wpAny_bind (wpAny_bind (m := Builtin.Tuple.tupleExact _) (wpAny_newObj_type (wpAny_pure (wpAny_pure ⟨_, rfl, wpAny_pure q⟩)) room))
    | exact wpAny_bind (wpAny_bind (m := Builtin.Tuple.tupleExact _) (wpAny_newObj_type (wpAny_pure ⟨_, rfl, wpAny_pure q⟩) room))
end

section
variable {X : Cx} {cls : Nat → Value} {W : WX}
/-- x[::-1] by values -/
def revV (K : PySem.W.Frag) (te : TE) : TE := fun σ H Q => te σ H fun x H1 => ∃ a xs, x = .ref a ∧ ((SqL K H1 a xs ∧ ∀ p, H1 p = none → Q (.ref p) (upd H1 p (.lst xs.reverse))) ∨ (SqT K H1 a xs ∧ ∀ p, H1 p = none → Q (.ref p) (upd H1 p (.tup xs.reverse))))
theorem pe_rev {e : Expr} {te : TE} {k : Nat} {p1 p2 p3 pos : Pos} (he : PE X e te) : PE X (.Subscript e (.Slice none none (some (.UnaryOp .USub (.Constant (.int 1) k p1) p2)) p3) pos) (revV X.K te) := by
  refine ⟨fun pn z σ H Q I h => Subscript_ (thn (he.run pn z σ H _ I h) fun v z1 ⟨x, H1, I1, r1, a, xs, ex, q⟩ => ?_)⟩
  subst ex
  cases r1
  have step : PO X (some (.UnaryOp .USub (.Constant (.int 1) k p1) p2)) (tPart (tUn (rU fun i => .int (-i)) (tC (.int 1)))) := po_some (pe_un un_neg pe_int)
  refine wpAny_Slice (thn (po_none.run pn z1 σ H1 (fun o G => o = none ∧ G = H1) I1 ⟨rfl, rfl⟩) fun vl z2 ⟨l, G2, I2, pl, e1, e2⟩ => ?_)
  subst e1 e2
  refine thn (po_none.run pn z2 σ G2 (fun o G => o = none ∧ G = G2) I2 ⟨rfl, rfl⟩) fun vu z3 ⟨u, G3, I3, pu, e1, e2⟩ => ?_
  subst e1 e2
  refine thn (step.run pn z3 σ G3 (fun o G => o = some (-1) ∧ G = G3) I3 ⟨1, rfl, -1, rfl, rfl, rfl⟩) fun vs z4 ⟨o, G4, I4, ps, e1, e2⟩ => ?_
  subst e1 e2
  have J : Inv X pn σ G4 { z4 with heap := z4.heap.push { cls := .type "slice", data := .fields #[vl, vu, vs] } } := I4.kept (t' := z4.toks) fun b ob q => Heap.get?_push_of_some _ q
  show wpAny (model X.prog X.w) X.A (subscriptTail e (.Slice none none (some (.UnaryOp .USub (.Constant (.int 1) k p1) p2)) p3) (.ref a) (.ref z4.heap.objs.size)) (EP X pn σ Q) X.xe { z4 with heap := z4.heap.push { cls := .type "slice", data := .fields #[vl, vu, vs] } }
  rcases q with ⟨hx, q⟩ | ⟨hx, q⟩
  · obtain ⟨ys, r, ht, hz⟩ := J.list hx
    have hl := r.length
    refine tail_any (ops := [.ref a, .ref z4.heap.objs.size]) ht.isList.typeIs (PySem.slot_list_getitem.lookup) (wpAny_getItem_list_slice ht.isList (Heap.IsSliceOf.new _ vl vu vs) pl pu ps (by decide) ?_ (by rw [List.size_toArray]; omega)) (by with_unfolding_all rfl)
    rw [PySem.W.krv_pick]
    exact ⟨.ref _, _, J.laid (t' := z4.toks) (o := .lst xs.reverse) (fun b ob q => Heap.get?_push_of_some _ q) (Nat.le_refl _) ⟨by rw [List.length_reverse]; exact hz, _, 0, r.reverse, Heap.get?_push_size _ rfl⟩, rfl, q _ (J.hok.fresh (Nat.le_refl _))⟩
  · obtain ⟨ys, r, ht, hz⟩ := J.tuple hx
    have hl := r.length
    refine tail_any (ops := [.ref a, .ref z4.heap.objs.size]) ht.typeIs PyProof.Rows.slot_tuple_getitem.lookup (back_tup ht (Heap.IsSliceOf.new _ vl vu vs) pl pu ps (by rw [List.size_toArray]; omega) ?_) (by with_unfolding_all rfl)
    exact ⟨.ref _, _, J.laid (t' := z4.toks) (o := .tup xs.reverse) (fun b ob q => Heap.get?_push_of_some _ q) (Nat.le_refl _) ⟨by rw [List.length_reverse]; exact hz, _, r.reverse, IsTup.new _ _⟩, rfl, q _ (J.hok.fresh (Nat.le_refl _))⟩
/-- x[::-1] over trees -/
def tRev (m : Mu) (f : TE2) : TE2 := fun ρ M Q E => f ρ M (fun x M1 => match x with
  | .tup ts => Q (.tup ts.reverse) M1
  | x => match lsOf M1 x with
    | some ts => newL m ts.reverse M1 Q
    | none => False) E
theorem se_rev {e : Expr} {m : Mu} {f : TE2} {k : Nat} {p1 p2 p3 pos : Pos} (he : PE X e (lE cls X.K W f)) : PE X (.Subscript e (.Slice none none (some (.UnaryOp .USub (.Constant (.int 1) k p1) p2)) p3) pos) (lE cls X.K W (tRev m f)) := by
  refine (pe_rev he).to fun σ H Q ⟨B, ρ, M, Q2, E, n, q, cQ, cE⟩ => ⟨B, ρ, M, _, E, n, q, fun t M1 v H1 q1 af r => ?_, cE⟩
  have lists : ∀ ts, lsOf M1 t = some ts → newL m ts.reverse M1 Q2 → ∃ a xs, v = .ref a ∧ ((SqL X.K H1 a xs ∧ ∀ p, H1 p = none → Q (.ref p) (upd H1 p (.lst xs.reverse))) ∨ (SqT X.K H1 a xs ∧ ∀ p, H1 p = none → Q (.ref p) (upd H1 p (.tup xs.reverse)))) := fun ts e q2 => by
    obtain ⟨a, vs, rfl, h, rs⟩ := lsOf_ok af.rp r e
    exact ⟨a, vs, rfl, .inl ⟨SqL.of h, fun p hp => newL_ok af.rp rs.reverse q2 (fun t M2 v H2 q3 af3 r3 => cQ t M2 v H2 q3 (af.trans af3) r3) hp⟩⟩
  cases t with
  | tup ts =>
    obtain ⟨a, vs, rfl, h, rs⟩ := rep_tup r
    refine ⟨a, vs, rfl, .inr ⟨h, fun p hp => ?_⟩⟩
    obtain ⟨af2, r2⟩ := Rep.tupNew af.rp rs.reverse hp
    exact cQ _ M1 _ _ q1 (af.trans af2) r2
  | lst ts => exact lists ts rfl q1
  | loc p =>
    have q1 : (match lsOf M1 (.loc p) with | some ts => newL m ts.reverse M1 Q2 | none => False) := q1
    cases e0 : lsOf M1 (.loc p) with
    | none => rw [e0] at q1; exact q1.elim
    | some xs => rw [e0] at q1; exact lists xs e0 q1
  | non => exact q1.elim
  | bl _ => exact q1.elim
  | int _ => exact q1.elim
  | str _ => exact q1.elim
  | scr _ => exact q1.elim
  | fn _ => exact q1.elim

/-! ### enumerate of either -/
def iEnE (K : PySem.W.Frag) (ta : TA) : TI := fun σ H R => ta σ H fun vs H1 => ∃ a xs, vs = [.ref a] ∧ ((SqL K H1 a xs ∧ R (Ite K a) H1) ∨ (SqT K H1 a xs ∧ R (IteT K a) H1))
theorem pi_enE {e : Expr} {ta : TA} {p pos tp : Pos} {el : List Expr} {k2 : Nat} (hg : Gl X "enumerate") (hm : X.mg "enumerate" = none) (ha : PA X [e] ta) (hs : starEach [e] X.env = [(false, eval e X.env)]) :
    PI X (.Tuple el k2 tp) (.Call (.Name "enumerate" p) [e] [] pos) (iEnE X.K ta) := by
  refine ⟨fun pn z σ H R I h => Call_ (ld_blt I hg hm boot_enumerate (PyProof.Rows.callWith_type1 (thn (ha.run pos pn z σ H _ I h) fun us z1 ⟨vs, G, J, r1, a, xs, ev, q⟩ => ?_) hs rfl))⟩
  subst ev
  obtain ⟨u, rfl, ru⟩ := Vals.one r1
  cases ru
  have old : ∀ b ∈ [z1.heap.objs.size + 1, z1.heap.objs.size], z1.heap.objs.size ≤ b := fun b hb => by
    rcases List.mem_cons.mp hb with rfl | hb
    · exact Nat.le_succ _
    · rw [List.mem_singleton.mp hb]; exact Nat.le_refl _
  rcases q with ⟨hq, q⟩ | ⟨hq, q⟩
  · obtain ⟨ys, rv, tl, hz⟩ := J.list hq
    exact call_enumerate_list tl.isList fun g he hit hsz hk => wpAny_pyIter_enum he ⟨z1.heap.objs.size + 1, [z1.heap.objs.size + 1, z1.heap.objs.size], _, _, G, rfl, J.kept (h' := g) (t' := z1.toks) hk, turn_enum a (z1.heap.objs.size + 1) z1.heap.objs.size, ⟨⟨.none, he⟩, hit, Nat.succ_ne_self _⟩, fun b hb => J.fpOk (old b hb) (J.hok.fresh (old b hb)), q⟩
  · obtain ⟨ys, rv, tl, hz⟩ := J.tuple hq
    exact en_call (begins_tuple a ys.toArray) tl fun g he hit hk => wpAny_pyIter_enum he ⟨z1.heap.objs.size + 1, [z1.heap.objs.size + 1, z1.heap.objs.size], _, _, G, rfl, J.kept (h' := g) (t' := z1.toks) hk, turn_enT a _ _, ⟨⟨.none, he⟩, ⟨_, hit, rfl, rfl⟩, Nat.succ_ne_self _⟩, fun b hb => J.fpOk (old b hb) (J.hok.fresh (old b hb)), q⟩
def tItE (fs : TA2) : TI2 := fun ρ M Q E => fs ρ M (fun as M1 => match as with
  | [.lst ts] => Q (enumT ts) M1
  | [.tup ts] => Q (enumT ts) M1
  | _ => False) E
theorem ii_enE {e : Expr} {fs : TA2} {p pos tp : Pos} {el : List Expr} {k2 : Nat} (hg : Gl X "enumerate") (hm : X.mg "enumerate" = none) (h : PA X [e] (lA cls X.K W fs)) (hs : starEach [e] X.env = [(false, eval e X.env)]) :
    PI X (.Tuple el k2 tp) (.Call (.Name "enumerate" p) [e] [] pos) (lI cls X.K W (tItE fs)) :=
  (pi_enE hg hm h hs).to fun σ H R ⟨B, ρ, M, Q2, E, n, q, cQ, cE⟩ => ⟨B, ρ, M, _, E, n, q, fun as M1 vs H1 q1 af r => by
    match as, r, q1 with
    | [.lst ts], r, q1 =>
      obtain ⟨v, rfl, rr⟩ := reps1 r
      unfold Rep at rr
      obtain ⟨a, ws, rfl, h1, h2, h3, rs⟩ := rr
      exact ⟨a, ws, rfl, .inl ⟨SqL.of h1, cQ _ M1 _ H1 q1 af (it_enL af.rp h1 h2 h3 rs)⟩⟩
    | [.tup ts], r, q1 =>
      obtain ⟨v, rfl, rr⟩ := reps1 r
      obtain ⟨a, ws, rfl, h1, rs⟩ := rep_tup rr
      exact ⟨a, ws, rfl, .inr ⟨h1, cQ _ M1 _ H1 q1 af (it_enT af.rp h1 rs)⟩⟩, cE⟩
/-! ### walking a sequence of any kind -/
def iAny (K : PySem.W.Frag) (te : TE) : TI := fun σ H R => te σ H fun v G => (∃ a xs, v = .ref a ∧ SqL K G a xs ∧ R (Itl K a) G) ∨ (∃ a xs, v = .ref a ∧ SqT K G a xs ∧ R (Itt K a) G) ∨ ∃ x, v = .str x ∧ R (Its x) G
theorem pi_any {tg e : Expr} {te : TE} (he : PE X e te) : PI X tg e (iAny X.K te) := by
  refine ⟨fun pn z σ H R I h => thn (he.run pn z σ H _ I h) fun u z1 ⟨v, G, J, rv, q⟩ => ?_⟩
  rcases q with ⟨a, xs, rfl, hq, q⟩ | ⟨a, xs, rfl, hq, q⟩ | ⟨x, rfl, q⟩
  · cases rv
    obtain ⟨ys, rs, tl, hz⟩ := J.list hq
    exact wpAny_pyIter_list tl.isList (pi_one (tk := z1.toks) J _ (turn_list a _) ⟨_, Heap.get?_push_size _ rfl, rfl, rfl⟩ q)
  · cases rv
    obtain ⟨ys, rs, tl, hz⟩ := J.tuple hq
    exact wpAny_pyIter_tuple (show z1.heap.IsTuple a ys.toArray from tl) (pi_one (tk := z1.toks) J _ (turn_tuple a _) ⟨_, Heap.get?_push_size _ rfl, rfl, rfl⟩ q)
  · obtain ⟨t, rfl⟩ := rv
    cases hb : x.cps.all (· < 128) with
    | false => exact wpAny_pyIter_wide hb (pi_one (tk := z1.toks) J _ (turn_str _ x t "str_iterator" (.inr rfl)) ⟨_, Heap.get?_push_size _ rfl, rfl, rfl⟩ q)
    | true => exact wpAny_pyIter_ascii hb (pi_one (tk := z1.toks) J _ (turn_str _ x t "str_ascii_iterator" (.inl rfl)) ⟨_, Heap.get?_push_size _ rfl, rfl, rfl⟩ q)
def tItA (f : TE2) : TI2 := fun ρ M Q E => f ρ M (fun t M1 => match itemsOf t with
  | some ts => Q ts M1
  | none => False) E
theorem ii_any {tg e : Expr} {f : TE2} (h : PE X e (lE cls X.K W f)) : PI X tg e (lI cls X.K W (tItA f)) := (pi_any h).to fun σ H R ⟨B, ρ, M, Q2, E, n, q, cQ, cE⟩ => ⟨B, ρ, M, _, E, n, q, fun t M1 v H1 q1 af r => by
  cases t with
  | tup ts =>
    obtain ⟨a, ws, rfl, h1, rs⟩ := rep_tup r
    exact .inr (.inl ⟨a, ws, rfl, h1, cQ ts M1 _ H1 q1 af (it_tup af.rp h1 rs)⟩)
  | lst ts =>
    unfold Rep at r
    obtain ⟨a, ws, rfl, h1, h2, h3, rs⟩ := r
    exact .inl ⟨a, ws, rfl, SqL.of h1, cQ ts M1 _ H1 q1 af (it_list af.rp h1 h2 h3 rs)⟩
  | scr ns =>
    unfold Rep at r
    obtain ⟨a, rfl, h1⟩ := r
    exact .inl ⟨a, _, rfl, h1.sq, cQ _ M1 _ H1 q1 af (it_scr af.rp h1)⟩
  | str x =>
    obtain rfl := rep_str r
    exact .inr (.inr ⟨x, rfl, cQ _ M1 _ H1 q1 af it_str⟩)
  | non => exact q1.elim
  | bl _ => exact q1.elim
  | int _ => exact q1.elim
  | loc _ => exact q1.elim
  | fn _ => exact q1.elim, cE⟩
end
end TL

/-! TLjk: sorted of a tuple of whole numbers. -/
namespace TL
open PySem PySem.Spec PyProof.Rows L2 RZ
section
variable {P : Program} {w : World} {A : Around} {E : Value → Shared → Prop} {z : Shared}
/-- a tuple's items, gathered in a new list -/
theorem gather_tup {t : Addr} {xs : List Value} {Q : List Value → Shared → Prop} (ht : IsTup z.heap t xs.toArray) (room : xs.length ≤ sizeLine)
    (q : Q xs { z with heap := (z.heap.push (seqObj "list" #[] 0)).update z.heap.objs.size (Obj.mapSeq (· ++ xs.toArray)) }) : wpAny (model P w) A (collect (.ref t)) Q E z := by
  obtain ⟨ob, g1, g2, g3, g4⟩ := id ht
  have fresh : (z.heap.push (seqObj "list" #[] 0)).get? z.heap.objs.size = some (seqObj "list" #[] 0) := Heap.get?_push_size _ rfl
  unfold collect
  refine wpAny_bind (wpAny_runValue (codeAny_builtin entry_proto_collect' ?_))
  show wpAny _ _ (do again (.builtin "list.__iadd__" ⟨[← newList [], .ref t], []⟩)) _ _ z
  refine wpAny_bind (wpAny_newList (wpAny_pure ⟨Code.quiet_builtin _ (by decide +kernel), codeAny_builtin entry_list_iadd' ?_⟩))
  show wpAny _ _ (Builtin.List.listExtendWith (.ref z.heap.objs.size) (.ref t) (.ref z.heap.objs.size)) _ _ { z with heap := z.heap.push (seqObj "list" #[] 0) }
  unfold Builtin.List.listExtendWith
  have g1' : (z.heap.push (seqObj "list" #[] 0)).get? t = some ob := Heap.get?_push_of_some _ g1
  refine wpAny_bind (wpAny_typeOf (T := "tuple") ⟨ob, g1', g2⟩ ?_)
  rw [if_pos (by have e : (Value.type "tuple" == Value.type "tuple") = true := by rfl
                 rw [e]; simp)]
  refine wpAny_bind (listItems_at g1' g4 (wpAny_bind (listItems_at (xs := #[]) (n := 0) fresh rfl ?_)))
  rw [if_neg (by simp)]
  refine wpAny_bind (listUpdate_at (xs := #[]) (n := 0) fresh rfl (wpAny_pure ?_) (Nat.zero_le _) (by show (#[] ++ xs.toArray).size ≤ sizeLine + 1; simp only [Array.size_append, List.size_toArray, List.length_nil]; omega))
  show wpAny (model P w) A (do
      let o ← load z.heap.objs.size
      match o.data with
      | .seq ys _ => pure ys.toList
      | _ => unsupported "internal:collect") Q E { z with heap := (z.heap.push (seqObj "list" #[] 0)).update z.heap.objs.size (Obj.mapSeq (· ++ xs.toArray)) }
  refine wpAny_bind (wpAny_load (get?_update_seq fresh _) ?_)
  show wpAny _ _ (pure ((#[] : Array Value) ++ xs.toArray).toList) Q E _
  have e : ((#[] : Array Value) ++ xs.toArray).toList = xs := by simp
  rw [e]
  exact wpAny_pure q
open SrtO in
theorem sorted_tup {t : Addr} {xs : List Value} {lt : Value → Value → Bool} {Q : Value → Shared → Prop} (O : Swo lt) (ht : IsTup z.heap t xs.toArray) (room : xs.length ≤ sizeLine)
    (hS : 2 ≤ xs.length → ∀ (g : Heap) (a : Addr), g.get? a = some (seqObj "list" xs.toArray 0) → (∀ b o, z.heap.get? b = some o → b ≠ a ∧ g.get? b = some o) → SortableO P w A.in1.in1 { z with heap := g } a xs lt)
    (q : ∀ out : List Value, Srtd lt out → Stb lt out xs → Q (.ref (z.heap.objs.size + 1)) { z with heap := sortedAll z.heap xs out.toArray }) : wpAny (model P w) A (call (.builtin "sorted") [.ref t]) Q E z := by
  refine Calls.call_function_entry kind_sorted plain_sorted entry_sorted (args_sorted1 _) ?_
  unfold Builtin.«sorted»
  refine wpAny_bind (m := checkCount "sorted" 1 1 _) (wpAny_pure ?_)
  refine wpAny_bind (gather_tup ht room (wpAny_bind (wpAny_newList ?_ room)))
  generalize hg : (z.heap.push (seqObj "list" #[] 0)).update z.heap.objs.size (Obj.mapSeq (· ++ xs.toArray)) = g
  have sz : g.objs.size = z.heap.objs.size + 1 := by rw [← hg, Heap.size_update, size_push']
  have top : (g.push (seqObj "list" xs.toArray 0)).get? (z.heap.objs.size + 1) = some (seqObj "list" xs.toArray 0) := by rw [← sz]; exact Heap.get?_push_size _ rfl
  have old : ∀ b o, z.heap.get? b = some o → b ≠ z.heap.objs.size + 1 ∧ (g.push (seqObj "list" xs.toArray 0)).get? b = some o := fun b o e => by
    have lt : b < z.heap.objs.size := Heap.lt_size e
    refine ⟨Nat.ne_of_lt (Nat.lt_succ_of_lt lt), Heap.get?_push_of_some _ ?_⟩
    rw [← hg, Heap.get?_update_ne _ _ _ _ (Nat.ne_of_lt lt)]
    exact Heap.get?_push_of_some _ e
  show wpAny _ _ _ _ _ { z with heap := g.push (seqObj "list" xs.toArray 0) }
  rw [sz]
  refine wpAny_bind (wpAny_holding (wpAny_call_entry slot_list_sort ⟨_, top, rfl⟩ entry_list_sort (list_sort_ord O top room (fun h2 => hS h2 _ _ top old) fun out s1 s2 => ⟨_, rfl, wpAny_pure ⟨_, rfl, ?_⟩⟩) (args_list_sort _)))
  subst hg
  exact q out s1 s2
end
section
variable {X : Cx}
def rSrtT (K : PySem.W.Frag) : List V → Hp → VK → Prop := fun vs H Q => ∃ (a : Addr) (ns : List Int), vs = [V.ref a] ∧ SqT K H a (ns.map V.int) ∧ ∀ (ms : List Int) (p : Addr), ms.Perm ns → ms.Pairwise (· ≤ ·) → H p = none → Q (.ref p) (upd H p (.lst (ms.map V.int)))
theorem cr_srtT : CallR X (.builtin "sorted") (rSrtT X.K) := by
  intro pn z σ H vs us Q I r ⟨a, ns, e, hs, q⟩
  subst e
  obtain ⟨ys, rv, ht, hz⟩ := I.tuple hs
  rw [Vals.ref1 r]
  have hi := rv.ints
  refine sorted_tup SrtO.swo_int ht (by rw [← rv.length]; exact hz) (fun h2 g a' _ _ => SrtO.ints_sortable hi h2) fun out h1 h2 => ?_
  obtain ⟨k1, k2, k3⟩ := SrtO.ints_out hi h1 h2
  obtain ⟨ep, he⟩ := PyProof.Rows.sortedAll_at z.heap ys out.toArray
  have room : ((out.map SrtO.iv).map V.int).length ≤ sizeLine := by
    rw [List.length_map, k2.length_eq]; rw [List.length_map] at hz; exact hz
  exact ⟨.ref _, upd H (z.heap.objs.size + 1) (.lst ((out.map SrtO.iv).map V.int)), I.laid (t' := z.toks) (fun _ _ => PyProof.Rows.sortedAll_old) (Nat.le_succ _) ⟨room, out, ep, vals_of_ints k1, he⟩, rfl, q _ _ k2 k3 (I.hok.fresh (Nat.le_succ _))⟩
def sortE (m : Mu) : OpN := fun as M Q => match as with
  | [.tup ts] => match intsOf ts with
    | some ns => newL m ((isort ns).map T.int) M Q
    | none => False
  | as => sortS m as M Q
theorem c_sortE {m : Mu} : CallR X (.builtin "sorted") (lON X.K (sortE m)) := by
  intro pn z σ H vs us Q I rv ⟨B, M, Q2, as, R, rs, q, cQ⟩
  by_cases h : ∃ ts, as = [.tup ts]
  · obtain ⟨ts, rfl⟩ := h
    obtain ⟨v, rfl, r⟩ := reps1 rs
    obtain ⟨a, ws, rfl, h, rs'⟩ := rep_tup r
    have q1 : (match intsOf ts with | some ns => newL m ((isort ns).map T.int) M Q2 | none => False) := q
    clear q
    cases e : intsOf ts with
    | none => rw [e] at q1; exact q1.elim
    | some ns =>
      rw [e] at q1
      have q2 : newL m ((isort ns).map T.int) M Q2 := q1
      obtain rfl := intsOf_eq e
      obtain rfl := Reps.ints rs'
      refine cr_srtT pn z σ H _ us Q I rv ⟨a, ns, rfl, h, fun ms p pm srt hp => ?_⟩
      rw [isort_eq pm srt]
      exact newL_ok R Reps.of_ints q2 cQ hp
  · refine c_sorted (m := m) pn z σ H vs us Q I rv ⟨B, M, Q2, as, R, rs, ?_, cQ⟩
    unfold sortE at q
    split at q
    · exact absurd ⟨_, rfl⟩ h
    · exact q
end
end TL

/-! TLk: the syntax as small trees; what they mean; the check that a tree is the syntax; soundness. -/
namespace TL
open PySem PySem.Spec PyProof.Rows L2

def bkS (sc : Scope) : ScopeKind := if sc.kind.isAnnotationScope then .function else sc.kind
def swC (sc : Scope) (y : Str) (py pos : Pos) (scope : Scope) : Bool := bkS sc == .function && sc.names.lookup y == some .local && py.line == pos.line && !(scope.names.any fun (n, k) => n == y && (k == .local || k == .cell))
theorem swC_eq {env : Env} {elt : Expr} {gs : List Comprehension} {scope : Scope} {pos py : Pos} {y : Str} {l : Nat} : swapsWith (.ListComp elt gs scope pos) (some (.Name y py)) l env = pure (swC env.scope y py pos scope) := rfl
def notComp : Expr → Bool
  | .ListComp .. | .SetComp .. | .DictComp .. => false
  | _ => true
theorem sw_off {e : Expr} {t : Option Expr} {l : Nat} {env : Env} (h : notComp e = true) : swapsWith e t l env = pure false := by
  cases e <;> first | rfl | (cases h)
def isStar : Expr → Bool
  | .Starred .. => true
  | _ => false
def swNames (sc : Scope) (ts : List Expr) (line : Nat) : List Str := ts.filterMap fun
    | .Name id pos => if sc.names.lookup id == some .local && pos.line == line then some id else none
    | _ => none
def swS (sc : Scope) (ts vs : List Expr) : Option (Option (List Str)) :=
  if !(ts.length == 2 || ts.length == 3) || vs.length != ts.length || bkS sc != .function then some none
  else if vs.any isStar then some none
  else if (swNames sc ts ((ts.head?.map (·.pos.line)).getD 0)).length != ts.length || (swNames sc ts ((ts.head?.map (·.pos.line)).getD 0)).eraseDups.length != (swNames sc ts ((ts.head?.map (·.pos.line)).getD 0)).length then some none
  else if vs.all (foldedForSure 8) then some none
  else if vs.all (constantsAlone 8) then none
  else some (some (swNames sc ts ((ts.head?.map (·.pos.line)).getD 0)))
theorem swS_eq {env : Env} {ts vs : List Expr} {k k2 : Nat} {p p2 : Pos} {r : Option (List Str)} (h : swS env.scope ts vs = some r) : swappedStores [.Tuple ts k p] (.Tuple vs k2 p2) env = pure r := by
  unfold swS at h
  unfold swappedStores
  show (if (!(ts.length == 2 || ts.length == 3) || vs.length != ts.length || bkS env.scope != .function) = true then pure none
    else if vs.any isStar = true then pure none
    else if ((swNames env.scope ts ((ts.head?.map (·.pos.line)).getD 0)).length != ts.length || (swNames env.scope ts ((ts.head?.map (·.pos.line)).getD 0)).eraseDups.length != (swNames env.scope ts ((ts.head?.map (·.pos.line)).getD 0)).length) = true then pure none
    else if vs.all (foldedForSure 8) = true then pure none
    else if vs.all (constantsAlone 8) = true then (do unsupported "assign.tuple-of-constant-expressions:order-of-the-stores"; pure (some (swNames env.scope ts ((ts.head?.map (·.pos.line)).getD 0))))
    else pure (some (swNames env.scope ts ((ts.head?.map (·.pos.line)).getD 0))) : Sem (Option (List Str))) = pure r
  by_cases c1 : (!(ts.length == 2 || ts.length == 3) || vs.length != ts.length || bkS env.scope != .function) = true
  · rw [if_pos c1] at h ⊢; cases h; rfl
  rw [if_neg c1] at h ⊢
  by_cases c2 : (vs.any isStar) = true
  · rw [if_pos c2] at h ⊢; cases h; rfl
  rw [if_neg c2] at h ⊢
  generalize swNames env.scope ts ((ts.head?.map (·.pos.line)).getD 0) = nm at h ⊢
  by_cases c3 : (nm.length != ts.length || nm.eraseDups.length != nm.length) = true
  · rw [if_pos c3] at h ⊢; cases h; rfl
  rw [if_neg c3] at h ⊢
  by_cases c4 : (vs.all (foldedForSure 8)) = true
  · rw [if_pos c4] at h ⊢; cases h; rfl
  rw [if_neg c4] at h ⊢
  by_cases c5 : (vs.all (constantsAlone 8)) = true
  · rw [if_pos c5] at h; cases h
  rw [if_neg c5] at h ⊢
  cases h; rfl
theorem swNone {t v : Expr} {env : Env} (h : (match t, v with | .Tuple .., .Tuple .. => false | .List .., .Tuple .. => false | _, _ => true) = true) : swappedStores [t] v env = pure none := by
  cases v <;> first | rfl | (cases t <;> first | rfl | (cases h))
theorem isTrue_def {a : Expr} {env : Env} (h : (match a with | .UnaryOp .Not _ _ | .BoolOp .. | .IfExp .. | .Compare .. => false | _ => true) = true) : ∀ whole, isTrue a env whole = (do let v ← whole; standAt a.pos; holding [v] (truthy v)) := by
  cases a with
  | UnaryOp o x p => cases o <;> first | (intro w; rfl) | (cases h)
  | BoolOp _ _ _ => cases h
  | IfExp _ _ _ _ => cases h
  | Compare _ _ _ _ => cases h
  | _ => intro w; rfl
theorem star_cons {e : Expr} {es : List Expr} {env : Env} (h : isStar e = false) : starEach (e :: es) env = (false, eval e env) :: starEach es env := by
  cases e <;> first | rfl | (cases h)
theorem star_none {es : List Expr} {env : Env} {pos : Pos} (h : es.any isStar = false) : (backTo pos (starEach es env)).any (·.1) = false := by
  induction es with
  | nil => rfl
  | cons e es ih =>
    simp only [List.any_cons, Bool.or_eq_false_iff] at h
    rw [star_cons h.1]
    show (false || _) = false
    exact ih h.2
theorem asg_cons {e : Expr} {es : List Expr} {env : Env} (h : isStar e = false) : assignEach (e :: es) env = (false, assign e env) :: assignEach es env := by
  cases e <;> first | rfl | (cases h)
theorem asg_len {es : List Expr} {env : Env} : (assignEach es env).length = es.length := by
  induction es with
  | nil => rfl
  | cons e es ih => cases e <;> simp [assignEach, ih]
theorem asg_star {es : List Expr} {env : Env} (h : es.any isStar = false) : (assignEach es env).findIdx? (·.1) = none := by
  induction es with
  | nil => rfl
  | cons e es ih =>
    simp only [List.any_cons, Bool.or_eq_false_iff] at h
    rw [asg_cons h.1, List.findIdx?_cons]
    simp [ih h.2]
def baseB : Expr → Bool
  | .Call (.Name id _) [] [] _ => id != "super"
  | _ => true
theorem base_ok {o : Expr} {name : Str} {env : Env} (h : baseB o = true) : attributeBase o name env (eval o env) = eval o env := by
  unfold attributeBase
  split
  · have h : (_ != _) = true := h
    simp only [h, Bool.true_or, if_true]
  · rfl
def plainB : Expr → Bool
  | .Slice .. => false
  | _ => true
theorem plain_ok {b : Expr} (h : plainB b = true) : PlainIx b := by
  intro o i
  cases b <;> first | rfl | (cases h)
theorem fold_ok {e : Expr} {env : Env} (h : (match e with | .Set .. => false | _ => true) = true) : ∀ x, foldedSetIterable e env x = pure x := by
  intro x
  cases e <;> first | rfl | (cases h)
theorem few_ok {es : List Expr} {env : Env} {cpos : Pos} (h : es.any isStar = false) (hl : es.length < 29) : ((backTo cpos (starEach es env)).all (fun x => !x.1) && (backToKw cpos (keywordEach [] env)).all (fun x => x.1.isSome) && decide (es.length + ([] : List Keyword).length + (if ([] : List Keyword).isEmpty then 0 else 1) < 30)) = true := by
  have h2 : (backTo cpos (starEach es env)).all (fun x => !x.1) = true := by
    induction es with
    | nil => rfl
    | cons e es ih =>
      simp only [List.any_cons, Bool.or_eq_false_iff] at h
      rw [star_cons h.1]
      show (true && _) = true
      rw [Bool.true_and]
      exact ih h.2 (by simp at hl; omega)
  rw [h2]
  simp [keywordEach, backToKw]
  omega

/-! ### the small trees -/
inductive OpK where
  | add (m : Mu) | sub | mul (m : Mu) | div | mod | pow
inductive CmK where
  | eq | ne | lt | le | gt | ge | is | isn | isin | nin
inductive BfK where
  | len | abs | min | max | sum | all | any | int | tup | list (m : Mu) | sorted (m : Mu) | repr | gcd
inductive MfK where
  | app | join | index
mutual
inductive E where
  | slot (i : Nat) | con (c : Const) | glo (i : Nat)
  | op (k : OpK) (a b : E) | neg (a : E)
  | cmp (k : CmK) (a b : E) | chn (k l : CmK) (a b c : E)
  | bn (w : Bool) (a b : E) | b1 (a : E) | not (a : E) | ite (c a b : E)
  | ix (a b : E) | sl (m : Mu) (a : E) (lo hi : O) | rev (m : Mu) (a : E)
  | tup (es : Es) | lst (m : Mu) (es : Es)
  | bf (k : BfK) (es : Es) | isi (ty : Ty) (a : E) | me (k : MfK) (o : E) (es : Es)
  | call (i : Nat) (es : Es)
  | comp (m : Mu) (i : I) (g : G) (e : E) (own : List (Str × Nat))
  | compIf (m : Mu) (i : I) (g : G) (c e : E) (own : List (Str × Nat))
  | frz (a : E)
inductive O where
  | none | some (e : E)
inductive Es where
  | nil | cons (e : E) (es : Es)
inductive I where
  | it (e : E) | r1 (e : E) | r2 (a b : E) | en (e : E) | zip (a b : E)
inductive G where
  | slot (i : Nat) | tup (gs : Gs) | sub (o i : E)
inductive Gs where
  | nil | cons (g : G) (gs : Gs)
end
mutual
inductive S where
  | pass | brk | cnt | expr (e : E) | ret (e : E) | ret0 | iff (c : E) (a b : Ss) | whl (c : E) (b : Ss) | fr (i : I) (g : G) (b : Ss)
  | asg (g : G) (e : E) | par (is : List Nat) (es : Es) | setC (i : Nat) (e : E) | never
inductive Ss where
  | nil | cons (s : S) (ss : Ss) | frz (i : Nat) (ss : Ss)
end

def Gs.len : Gs → Nat
  | .nil => 0
  | .cons _ gs => gs.len + 1

/-! ### what they mean -/
structure Gam where
  con : Nat → Ct
  glo : Nat → Option T
def opS : OpK → Op2
  | .add m => addS m
  | .sub => subS
  | .mul m => mulS m
  | .div => divS
  | .mod => modS
  | .pow => powS
def cmS : CmK → Op2
  | .eq => eqS
  | .ne => neS
  | .lt => cmpS fun i j => decide (i < j)
  | .le => cmpS fun i j => decide (i ≤ j)
  | .gt => cmpS fun i j => decide (j < i)
  | .ge => cmpS fun i j => decide (j ≤ i)
  | .is => isS false
  | .isn => isS true
  | .isin => inS false
  | .nin => inS true
def bfS : BfK → OpN
  | .len => lenS
  | .abs => absS
  | .min => minS
  | .max => maxS
  | .sum => sumS
  | .all => allS
  | .any => anyS
  | .int => intS
  | .tup => tupS
  | .list m => listS m
  | .sorted m => sortE m
  | .repr => reprS
  | .gcd => gcdS
def meS : MfK → TE2 → TA2 → TE2
  | .app => tMeL appS
  | .join => tMeS joinS
  | .index => tMeS sixS
mutual
def dE (Γ : Gam) : E → TE2
  | .slot i => tSlot i
  | .con c => tCon c
  | .glo i => tGlo (Γ.glo i)
  | .op k a b => tO (opS k) (dE Γ a) (dE Γ b)
  | .neg a => tO1 negS (dE Γ a)
  | .cmp k a b => tO (cmS k) (dE Γ a) (dE Γ b)
  | .chn k l a b c => tCh (cmS k) (cmS l) (dE Γ a) (dE Γ b) (dE Γ c)
  | .bn w a b => bif w then tAn (dE Γ a) (dE Γ b) else tOr2 (dE Γ a) (dE Γ b)
  | .b1 a => dE Γ a
  | .not a => tNo (dE Γ a)
  | .ite c a b => tIe (dT Γ c) (dE Γ a) (dE Γ b)
  | .ix a b => tO ixS (dE Γ a) (dE Γ b)
  | .sl m a lo hi => tSl2 m (dE Γ a) (dO Γ lo) (dO Γ hi)
  | .rev m a => tRev m (dE Γ a)
  | .tup es => tTu (dEs Γ es)
  | .lst m es => tLi m (dEs Γ es)
  | .bf k es => tON (bfS k) (dEs Γ es)
  | .isi ty a => tIsi ty (dE Γ a)
  | .me k o es => meS k (dE Γ o) (dEs Γ es)
  | .call i es => tCl (Γ.con i) (dEs Γ es)
  | .comp m i g e own => tComp m (dI Γ i) (dG Γ g) tYes2 (dE Γ e) (own.map (·.2))
  | .compIf m i g c e own => tComp m (dI Γ i) (dG Γ g) (dT Γ c) (dE Γ e) (own.map (·.2))
  | .frz a => tFrz (dE Γ a)
def dT (Γ : Gam) : E → TT2
  | .cmp k a b => tB2 (tO (cmS k) (dE Γ a) (dE Γ b))
  | .chn k l a b c => tB2 (tCh (cmS k) (cmS l) (dE Γ a) (dE Γ b) (dE Γ c))
  | .bn w a b => bif w then tAnT (dT Γ a) (dT Γ b) else tOrT (dT Γ a) (dT Γ b)
  | .b1 a => dT Γ a
  | .not a => tNoT (dT Γ a)
  | .slot i => tTr (tSlot i)
  | .con c => tTr (tCon c)
  | .glo i => tTr (tGlo (Γ.glo i))
  | .ix a b => tTr (tO ixS (dE Γ a) (dE Γ b))
  | .bf k es => tTr (tON (bfS k) (dEs Γ es))
  | .isi ty a => tTr (tIsi ty (dE Γ a))
  | .call i es => tTr (tCl (Γ.con i) (dEs Γ es))
  | .op k a b => tTr (tO (opS k) (dE Γ a) (dE Γ b))
  | _ => fun _ _ _ _ => False
def dO (Γ : Gam) : O → TO2
  | .none => tP0
  | .some e => tP1 (dE Γ e)
def dEs (Γ : Gam) : Es → TA2
  | .nil => tA0
  | .cons e es => tA1 (dE Γ e) (dEs Γ es)
def dI (Γ : Gam) : I → TI2
  | .it e => tItA (dE Γ e)
  | .r1 e => tItR1 (tA1 (dE Γ e) tA0)
  | .r2 a b => tItR2 (tA1 (dE Γ a) (tA1 (dE Γ b) tA0))
  | .en e => tItE (tA1 (dE Γ e) tA0)
  | .zip a b => tItZ (tA1 (dE Γ a) (tA1 (dE Γ b) tA0))
def dG (Γ : Gam) : G → TG2
  | .slot i => gSl i
  | .tup gs => gTu gs.len (dGs Γ gs)
  | .sub o i => gSb setS (dE Γ o) (dE Γ i)
def dGs (Γ : Gam) : Gs → TGs2
  | .nil => gsNil
  | .cons g gs => gsCons (dG Γ g) (dGs Γ gs)
end
end TL

/-! TLl: the check that a small tree is the syntax; soundness. -/
namespace TL
open PySem PySem.Spec PyProof.Rows L2

/-- the names of a frame -/
structure Nm where
  N : List Str
  sc : Scope
  fn : Option Scope
/-- .. of the program: defs by their numbers (those below lim may be called), constants, builtins that are not shadowed -/
structure Pg where
  lim : Nat
  fns : List Str
  glo : List Str
  blt : List Str
  gcd : Bool
def Nm.fnB (n : Nm) (x : Str) : Bool := match n.fn with
  | none => true
  | some sc => sc.names.lookup x == some .cell
def Nm.blk (n : Nm) (scope : Scope) : Nm := ⟨n.N, relS scope n.sc, some scope⟩
def nmB (x : Str) : Bool := !(x == ("__debug__" : Str)) && !(x == ("__classdict__" : Str))
def visB (n : Nm) (x : Str) : Bool := match n.sc.names.lookup x with
  | some .local => true
  | some .cell => true
  | some .free => true
  | _ => false
def locB (n : Nm) (x : Str) : Bool := match n.sc.names.lookup x with
  | some .local => true
  | some .cell => n.fnB x
  | _ => false
def glB (n : Nm) (x : Str) : Bool := n.sc.names.lookup x == some .globalImplicit
def bltB (p : Pg) (n : Nm) (x : Str) : Bool := glB n x && p.blt.contains x
def opB : OpK → Operator → Bool
  | .add _, .Add => true
  | .sub, .Sub => true
  | .mul _, .Mult => true
  | .div, .FloorDiv => true
  | .mod, .Mod => true
  | .pow, .Pow => true
  | _, _ => false
def cmB : CmK → CmpOp → Bool
  | .eq, .Eq => true
  | .ne, .NotEq => true
  | .lt, .Lt => true
  | .le, .LtE => true
  | .gt, .Gt => true
  | .ge, .GtE => true
  | .is, .Is => true
  | .isn, .IsNot => true
  | .isin, .In => true
  | .nin, .NotIn => true
  | _, _ => false
def boB : Bool → BoolOp → Bool
  | true, .And => true
  | false, .Or => true
  | _, _ => false
def bfN : BfK → Str
  | .len => "len"
  | .abs => "abs"
  | .min => "min"
  | .max => "max"
  | .sum => "sum"
  | .all => "all"
  | .any => "any"
  | .int => "int"
  | .tup => "tuple"
  | .list _ => "list"
  | .sorted _ => "sorted"
  | .repr => "repr"
  | .gcd => "gcd"
def bfB (p : Pg) (n : Nm) (k : BfK) (x : Str) : Bool := match k with
  | .gcd => p.gcd && x == "gcd" && glB n x
  | k => x == bfN k && bltB p n x
def meN : MfK → Str
  | .app => "append"
  | .join => "join"
  | .index => "index"
def tyN : Ty → Str
  | .int => "int"
  | .bool => "bool"
  | .tuple => "tuple"
  | .list => "list"
  | .str => "str"
def tstB : Expr → Bool
  | .UnaryOp .Not _ _ | .BoolOp .. | .IfExp .. | .Compare .. => false
  | _ => true
def isBO : Expr → Bool
  | .BoolOp .. => true
  | _ => false
def notSet : Expr → Bool
  | .Set .. => false
  | _ => true
def notTT : Expr → Expr → Bool
  | .Tuple .., .Tuple .. => false
  | .List .., .Tuple .. => false
  | _, _ => true
mutual
/-- the slots that a target writes -/
def gS : G → List Nat
  | .slot i => [i]
  | .tup gs => gSs gs
  | .sub _ _ => []
def gSs : Gs → List Nat
  | .nil => []
  | .cons g gs => gS g ++ gSs gs
end
def gsl (g : G) (vs : List Nat) : Bool := (gS g).all fun i => decide (i ∈ vs)
mutual
def chkE (p : Pg) (n : Nm) : E → Expr → Bool
  | .slot i, x => match x with
    | .Name s _ => n.N[i]? == some s && visB n s && nmB s
    | _ => false
  | .con c, x => match x with
    | .Constant d _ _ => c == d
    | _ => false
  | .glo i, x => match x with
    | .Name s _ => p.glo[i]? == some s && glB n s && nmB s
    | _ => false
  | .op k a b, x => match x with
    | .BinOp y o z _ => opB k o && chkE p n a y && chkE p n b z
    | _ => false
  | .neg a, x => match x with
    | .UnaryOp .USub y _ => chkE p n a y
    | _ => false
  | .cmp k a b, x => match x with
    | .Compare y [o] [z] _ => cmB k o && !behindInMarks o z && chkE p n a y && chkE p n b z
    | _ => false
  | .chn k l a b c, x => match x with
    | .Compare y [o, q] [z, u] _ => cmB k o && cmB l q && !behindInMarks o z && !behindInMarks q u && chkE p n a y && chkE p n b z && chkE p n c u
    | _ => false
  | .bn w a b, x => match x with
    | .BoolOp o (y :: z :: zs) q => boB w o && chkE p n a y && chkE p n b (.BoolOp o (z :: zs) q)
    | _ => false
  | .b1 a, x => match x with
    | .BoolOp o [y] q => chkE p n a y
    | _ => false
  | .not a, x => match x with
    | .UnaryOp .Not y _ => chkE p n a y
    | _ => false
  | .ite c a b, x => match x with
    | .IfExp u y z _ => chkT p n c u && chkE p n a y && chkE p n b z
    | _ => false
  | .ix a b, x => match x with
    | .Subscript y z _ => plainB z && chkE p n a y && chkE p n b z
    | _ => false
  | .sl m a lo hi, x => match x with
    | .Subscript y (.Slice l h none _) _ => chkE p n a y && chkO p n lo l && chkO p n hi h
    | _ => false
  | .rev _ a, x => match x with
    | .Subscript y (.Slice none none (some (.UnaryOp .USub (.Constant (.int i) _ _) _)) _) _ => i == 1 && chkE p n a y
    | _ => false
  | .tup es, x => match x with
    | .Tuple ys _ _ => chkEs p n es ys
    | _ => false
  | .lst _ es, x => match x with
    | .List ys _ => chkEs p n es ys
    | _ => false
  | .bf k es, x => match x with
    | .Call (.Name s _) (y :: ys) [] _ => bfB p n k s && chkEs p n es (y :: ys)
    | _ => false
  | .isi ty a, x => match x with
    | .Call (.Name s _) [y, .Name t _] [] _ => s == "isinstance" && bltB p n "isinstance" && t == tyN ty && bltB p n t && !isStar y && chkE p n a y
    | _ => false
  | .me k o es, x => match x with
    | .Call (.Attribute y s q) (z :: zs) [] r => s == meN k && baseB y && q.endLine == r.line && decide ((z :: zs).length < 29) && chkE p n o y && chkEs p n es (z :: zs)
    | _ => false
  | .call i es, x => match x with
    | .Call (.Name s _) ys [] _ => decide (i < p.lim) && p.fns[i]? == some s && glB n s && nmB s && chkEs p n es ys
    | _ => false
  | .comp m i g e own, x => match x with
    | .ListComp y [⟨tg, it, [], 0⟩] scope _ => notSet it && blkC n.N n.sc scope own && gsl g (own.map (·.2)) && chkI p n i tg it && chkG p (n.blk scope) g tg && chkE p (n.blk scope) e y
    | _ => false
  | .compIf m i g c e own, x => match x with
    | .ListComp y [⟨tg, it, [z], 0⟩] scope _ => notSet it && blkC n.N n.sc scope own && gsl g (own.map (·.2)) && chkI p n i tg it && chkG p (n.blk scope) g tg && chkT p (n.blk scope) c z && chkE p (n.blk scope) e y
    | _ => false
  | .frz a, x => chkE p n a x
def chkT (p : Pg) (n : Nm) : E → Expr → Bool
  | .cmp k a b, x => match x with
    | .Compare y [o] [z] _ => cmB k o && !behindInMarks o z && chkE p n a y && chkE p n b z
    | _ => false
  | .chn k l a b c, x => match x with
    | .Compare y [o, q] [z, u] _ => cmB k o && cmB l q && !behindInMarks o z && !behindInMarks q u && chkE p n a y && chkE p n b z && chkE p n c u
    | _ => false
  | .bn w a b, x => match x with
    | .BoolOp o (y :: z :: zs) q => boB w o && chkT p n a y && chkT p n b (.BoolOp o (z :: zs) q)
    | _ => false
  | .b1 a, x => match x with
    | .BoolOp o [y] q => chkT p n a y
    | _ => false
  | .not a, x => match x with
    | .UnaryOp .Not y _ => chkT p n a y
    | _ => false
  | .slot i, x => tstB x && (match x with
    | .Name s _ => n.N[i]? == some s && visB n s && nmB s
    | _ => false)
  | .con c, x => tstB x && (match x with
    | .Constant d _ _ => c == d
    | _ => false)
  | .glo i, x => tstB x && (match x with
    | .Name s _ => p.glo[i]? == some s && glB n s && nmB s
    | _ => false)
  | .ix a b, x => tstB x && (match x with
    | .Subscript y z _ => plainB z && chkE p n a y && chkE p n b z
    | _ => false)
  | .bf k es, x => tstB x && (match x with
    | .Call (.Name s _) (y :: ys) [] _ => bfB p n k s && chkEs p n es (y :: ys)
    | _ => false)
  | .isi ty a, x => tstB x && (match x with
    | .Call (.Name s _) [y, .Name t _] [] _ => s == "isinstance" && bltB p n "isinstance" && t == tyN ty && bltB p n t && !isStar y && chkE p n a y
    | _ => false)
  | .call i es, x => tstB x && (match x with
    | .Call (.Name s _) ys [] _ => decide (i < p.lim) && p.fns[i]? == some s && glB n s && nmB s && chkEs p n es ys
    | _ => false)
  | .op k a b, x => tstB x && (match x with
    | .BinOp y o z _ => opB k o && chkE p n a y && chkE p n b z
    | _ => false)
  | _, _ => false
def chkO (p : Pg) (n : Nm) : O → Option Expr → Bool
  | .none, x => match x with
    | none => true
    | _ => false
  | .some e, x => match x with
    | some y => chkE p n e y
    | _ => false
def chkEs (p : Pg) (n : Nm) : Es → List Expr → Bool
  | .nil, xs => match xs with
    | [] => true
    | _ => false
  | .cons e es, xs => match xs with
    | y :: ys => !isStar y && chkE p n e y && chkEs p n es ys
    | _ => false
def chkI (p : Pg) (n : Nm) : I → Expr → Expr → Bool
  | .it e, _, x => chkE p n e x
  | .r1 e, _, x => match x with
    | .Call (.Name s _) [y] [] _ => s == "range" && bltB p n "range" && !isStar y && chkE p n e y
    | _ => false
  | .r2 a b, _, x => match x with
    | .Call (.Name s _) [y, z] [] _ => s == "range" && bltB p n "range" && !isStar y && !isStar z && chkE p n a y && chkE p n b z
    | _ => false
  | .en e, t, x => match t, x with
    | .Tuple .., .Call (.Name s _) [y] [] _ => s == "enumerate" && bltB p n "enumerate" && !isStar y && chkE p n e y
    | _, _ => false
  | .zip a b, t, x => match t, x with
    | .Tuple .., .Call (.Name s _) [y, z] [] _ => s == "zip" && bltB p n "zip" && !isStar y && !isStar z && chkE p n a y && chkE p n b z
    | _, _ => false
def chkG (p : Pg) (n : Nm) : G → Expr → Bool
  | .slot i, x => match x with
    | .Name s _ => n.N[i]? == some s && locB n s
    | _ => false
  | .tup gs, x => match x with
    | .Tuple ys _ _ => chkGs p n gs ys && decide (ys.length = gs.len)
    | _ => false
  | .sub o i, x => match x with
    | .Subscript y z _ => plainB z && chkE p n o y && chkE p n i z
    | _ => false
def chkGs (p : Pg) (n : Nm) : Gs → List Expr → Bool
  | .nil, xs => match xs with
    | [] => true
    | _ => false
  | .cons g gs, xs => match xs with
    | y :: ys => !isStar y && chkG p n g y && chkGs p n gs ys
    | _ => false
end
end TL

/-! TLm: soundness of expressions. -/
namespace TL
open PySem PySem.Spec PyProof.Rows L2

/-- a def that may be called: it keeps its contract -/
def FnAt (cls : Nat → Value) (X : Cx) (c : Ct) (x : Str) : Prop := ∃ (f : Addr) (k : Nat) (fd : FuncData) (ps : List Str), X.mg x = some (.ref f) ∧ PySem.W.keepIn X.K (.ref f) = true ∧ FnG X.prog X.w X.K X.mg X.base k f fd ps (spOf cls X.K c) ∧ Room k X.A ∧ Binds X.K fd ps []
structure OkX (X : Cx) (cls : Nat → Value) (W : WX) (Γ : Gam) (p : Pg) (n : Nm) : Prop where
  N : X.N = n.N
  nd : X.N.Nodup
  sc : X.env.scope = n.sc
  fn : ∀ x, n.fnB x = true → X.fn x = true
  calm : X.calm = true
  gd : X.A.guards = some []
  un : X.A.units + 70 < cLine
  tk : Takes X W
  blt : ∀ x, p.blt.contains x = true → X.mg x = none
  fns : ∀ (i : Nat) (x : Str), i < p.lim → p.fns[i]? = some x → FnAt cls X (Γ.con i) x
  glo : ∀ (i : Nat) (x : Str) (t : T), p.glo[i]? = some x → Γ.glo i = some t → ∃ v u, scalV t = some v ∧ X.mg x = some u ∧ RelV v u
  gcd : p.gcd = true → X.mg "gcd" = some (.builtin "math.gcd")
section
variable {X : Cx} {cls : Nat → Value} {W : WX} {Γ : Gam} {p : Pg} {n : Nm}
theorem OkX.blk (o : OkX X cls W Γ p n) (scope : Scope) (s : Shared) (H : Hp) (C : Addr) (cl : List (Str × Addr)) (fp : List Addr) : OkX (X.blk s H scope (compEnvC scope cl C X.env) fp) cls no4 Γ p (n.blk scope) where
  N := o.N
  nd := o.nd
  sc := by
    show relS scope X.env.scope = relS scope n.sc
    rw [o.sc]
  fn := fun x h => h
  calm := o.calm
  gd := o.gd
  un := o.un
  tk := takes0
  blt := o.blt
  fns := o.fns
  glo := o.glo
  gcd := o.gcd
theorem OkX.gl (o : OkX X cls W Γ p n) {x : Str} (h : glB n x = true) : Gl X x := by
  unfold glB at h
  show X.env.scope.names.lookup x = _
  rw [o.sc]
  exact eq_of_beq h
theorem OkX.bltn (o : OkX X cls W Γ p n) {x : Str} (h : bltB p n x = true) : Gl X x ∧ X.mg x = none := by
  unfold bltB at h
  rw [Bool.and_eq_true] at h
  exact ⟨o.gl h.1, o.blt x h.2⟩
theorem OkX.vis (o : OkX X cls W Γ p n) {x : Str} (h : visB n x = true) : Vis X.env.scope x := by
  unfold visB at h
  unfold Vis
  rw [o.sc]
  split at h <;> first | (cases h; done) | skip
  · exact .inl (by assumption)
  · exact .inr (.inl (by assumption))
  · exact .inr (.inr (by assumption))
theorem OkX.loc (o : OkX X cls W Γ p n) {x : Str} (h : locB n x = true) : L2.Loc X.env.scope x ∧ (X.fn x = true ∨ X.env.scope.names.lookup x = some .local) := by
  unfold locB at h
  unfold L2.Loc
  rw [o.sc]
  split at h
  · rename_i e; exact ⟨.inl e, .inr e⟩
  · rename_i e; exact ⟨.inr e, .inl (o.fn x h)⟩
  · cases h
theorem OkX.slot (o : OkX X cls W Γ p n) {i : Nat} {x : Str} (h : (n.N[i]? == some x) = true) : X.N[i]? = some x := by
  rw [o.N]; exact eq_of_beq h
theorem nm_ok {x : Str} (h : nmB x = true) : (x == ("__debug__" : Str)) = false ∧ (x == ("__classdict__" : Str)) = false := by
  unfold nmB at h
  rw [Bool.and_eq_true, Bool.not_eq_true', Bool.not_eq_true'] at h
  exact h
theorem o_ok (o : OkX X cls W Γ p n) {k : OpK} {op : Operator} (h : opB k op = true) : OpR X (binaryOp op) (lO X.K (opS k)) := by
  cases k <;> cases op <;> first | (cases h; done) | exact o_add | exact o_sub | exact o_mul | exact o_div | exact o_mod | exact o_pow
theorem cm_ok (o : OkX X cls W Γ p n) {k : CmK} {op : CmpOp} (h : cmB k op = true) : OpR X (compareOp op) (lO X.K (cmS k)) := by
  have hu : X.A.units + 64 < cLine := by have := o.un; omega
  cases k <;> cases op <;> first | (cases h; done) | exact o_eq hu | exact o_ne hu | exact o_lt | exact o_le | exact o_gt | exact o_ge | exact o_is | exact o_isnot | exact o_in | exact o_notin
theorem not_t {b : Bool} (h : (!b) = true) : b = false := by cases b <;> first | rfl | cases h
theorem bf_ok (o : OkX X cls W Γ p n) {k : BfK} {x : Str} {q pos : Pos} {e : Expr} {es : List Expr} {fs : TA2} (h : bfB p n k x = true) (ha : PA X (e :: es) (lA cls X.K W fs)) (hs : (e :: es).any isStar = false) :
    PE X (.Call (.Name x q) (e :: es) [] pos) (lE cls X.K W (tON (bfS k) fs)) := by
  have h1 : isStar e = false ∧ es.any isStar = false := by simpa [List.any_cons, Bool.or_eq_false_iff] using hs
  have he := star_cons (env := X.env) (es := es) h1.1
  have hpl := star_none (env := X.env) (pos := pos) h1.2
  cases k with
  | gcd =>
    have h : (p.gcd && x == "gcd" && glB n x) = true := h
    simp only [Bool.and_eq_true, beq_iff_eq] at h
    obtain ⟨⟨g, rfl⟩, gl⟩ := h
    exact se_bfun c_gcd (o.gl gl) (o.gcd g) ha (by decide +kernel) he hpl
  | len =>
    obtain ⟨z, gl⟩ := Bool.and_eq_true_iff.mp h
    obtain rfl := eq_of_beq z
    exact se_blt c_len (o.bltn gl).1 (o.bltn gl).2 (by decide +kernel) ha (by decide +kernel) (by decide +kernel) he hpl
  | abs =>
    obtain ⟨z, gl⟩ := Bool.and_eq_true_iff.mp h
    obtain rfl := eq_of_beq z
    exact se_blt c_abs (o.bltn gl).1 (o.bltn gl).2 (by decide +kernel) ha (by decide +kernel) (by decide +kernel) he hpl
  | min =>
    obtain ⟨z, gl⟩ := Bool.and_eq_true_iff.mp h
    obtain rfl := eq_of_beq z
    exact se_blt (c_min o.calm) (o.bltn gl).1 (o.bltn gl).2 (by decide +kernel) ha (by decide +kernel) (by decide +kernel) he hpl
  | max =>
    obtain ⟨z, gl⟩ := Bool.and_eq_true_iff.mp h
    obtain rfl := eq_of_beq z
    exact se_blt (c_max o.calm) (o.bltn gl).1 (o.bltn gl).2 (by decide +kernel) ha (by decide +kernel) (by decide +kernel) he hpl
  | sum =>
    obtain ⟨z, gl⟩ := Bool.and_eq_true_iff.mp h
    obtain rfl := eq_of_beq z
    exact se_blt (c_sum o.calm) (o.bltn gl).1 (o.bltn gl).2 (by decide +kernel) ha (by decide +kernel) (by decide +kernel) he hpl
  | all =>
    obtain ⟨z, gl⟩ := Bool.and_eq_true_iff.mp h
    obtain rfl := eq_of_beq z
    exact se_blt (c_all o.calm) (o.bltn gl).1 (o.bltn gl).2 (by decide +kernel) ha (by decide +kernel) (by decide +kernel) he hpl
  | any =>
    obtain ⟨z, gl⟩ := Bool.and_eq_true_iff.mp h
    obtain rfl := eq_of_beq z
    exact se_blt (c_any o.calm) (o.bltn gl).1 (o.bltn gl).2 (by decide +kernel) ha (by decide +kernel) (by decide +kernel) he hpl
  | int =>
    obtain ⟨z, gl⟩ := Bool.and_eq_true_iff.mp h
    obtain rfl := eq_of_beq z
    exact se_bty c_int (o.bltn gl).1 (o.bltn gl).2 (by decide +kernel) ha (by decide +kernel) (by decide +kernel) he hpl
  | tup =>
    obtain ⟨z, gl⟩ := Bool.and_eq_true_iff.mp h
    obtain rfl := eq_of_beq z
    exact se_bty c_tup (o.bltn gl).1 (o.bltn gl).2 (by decide +kernel) ha (by decide +kernel) (by decide +kernel) he hpl
  | list m =>
    obtain ⟨z, gl⟩ := Bool.and_eq_true_iff.mp h
    obtain rfl := eq_of_beq z
    exact se_bty c_list (x := "list") (o.bltn gl).1 (o.bltn gl).2 (by decide +kernel) ha (by decide +kernel) (by decide +kernel) he hpl
  | sorted m =>
    obtain ⟨z, gl⟩ := Bool.and_eq_true_iff.mp h
    obtain rfl := eq_of_beq z
    exact se_blt c_sortE (x := "sorted") (o.bltn gl).1 (o.bltn gl).2 (by decide +kernel) ha (by decide +kernel) (by decide +kernel) he hpl
  | repr =>
    obtain ⟨z, gl⟩ := Bool.and_eq_true_iff.mp h
    obtain rfl := eq_of_beq z
    exact se_blt (c_repr o.gd o.un) (o.bltn gl).1 (o.bltn gl).2 (by decide +kernel) ha (by decide +kernel) (by decide +kernel) he hpl
theorem me_ok (o : OkX X cls W Γ p n) {k : MfK} {y z : Expr} {zs : List Expr} {s : Str} {q r : Pos} {f : TE2} {fs : TA2} (h : (s == meN k) = true) (hb : baseB y = true) (hl : (q.endLine == r.line) = true) (hn : (z :: zs).length < 29)
    (ho : PE X y (lE cls X.K W f)) (ha : PA X (z :: zs) (lA cls X.K W fs)) (hs : (z :: zs).any isStar = false) : PE X (.Call (.Attribute y s q) (z :: zs) [] r) (lE cls X.K W (meS k f fs)) := by
  have h1 : isStar z = false ∧ zs.any isStar = false := by simpa [List.any_cons, Bool.or_eq_false_iff] using hs
  obtain rfl := eq_of_beq h
  cases k with
  | app => exact se_meL (r := appS) PySem.F.slot_list_append rfl m_append ho ha (base_ok hb) (few_ok hs hn) hl (star_cons h1.1) (star_none h1.2)
  | join => exact se_meS (r := joinS) PySem.F.slot_str_join rfl m_join ho ha (base_ok hb) (few_ok hs hn) hl (star_cons h1.1) (star_none h1.2)
  | index => exact se_meS (r := sixS) PySem.F.slot_str_index rfl m_six ho ha (base_ok hb) (few_ok hs hn) hl (star_cons h1.1) (star_none h1.2)
end
end TL

/-! TLn: soundness of expressions, targets, walks. -/
namespace TL
open PySem PySem.Spec PyProof.Rows L2

section
variable {cls : Nat → Value} {Γ : Gam} {p : Pg}
theorem asg1 {e : Expr} {env : Env} (h : isStar e = false) : (assignEach [e] env).map (·.2) = [assign e env] := by
  rw [asg_cons h]; rfl
theorem chk_stars {n : Nm} : ∀ {es : Es} {xs : List Expr}, chkEs p n es xs = true → xs.any isStar = false
  | .nil, xs, h => by
    unfold chkEs at h
    split at h
    · rfl
    · cases h
  | .cons e es, xs, h => by
    unfold chkEs at h
    split at h
    · simp only [Bool.and_eq_true] at h
      obtain ⟨⟨h1, h2⟩, h3⟩ := h
      rw [List.any_cons, not_t h1, chk_stars h3]
      rfl
    · cases h
theorem chk_gstars {n : Nm} : ∀ {es : Gs} {xs : List Expr}, chkGs p n es xs = true → xs.any isStar = false
  | .nil, xs, h => by
    unfold chkGs at h
    split at h
    · rfl
    · cases h
  | .cons e es, xs, h => by
    unfold chkGs at h
    split at h
    · simp only [Bool.and_eq_true] at h
      obtain ⟨⟨h1, h2⟩, h3⟩ := h
      rw [List.any_cons, not_t h1, chk_gstars h3]
      rfl
    · cases h
theorem bn_pw {X : Cx} {W : WX} {w : Bool} {op : BoolOp} {y z : Expr} {zs : List Expr} {q : Pos} {ta tb : TT2} (hw : boB w op = true) (ha : PT X y (lT cls X.K W ta)) (hb : PW X (.BoolOp op (z :: zs) q) (lT cls X.K W tb)) :
    PW X (.BoolOp op (y :: z :: zs) q) (lT cls X.K W (bif w then tAnT ta tb else tOrT ta tb)) := by
  cases w <;> cases op <;> first | (cases hw; done) | exact sw_and ha hb | exact sw_or ha hb
theorem bn_pe {X : Cx} {W : WX} {w : Bool} {op : BoolOp} {y z : Expr} {zs : List Expr} {q : Pos} {ta tb : TE2} (hw : boB w op = true) (ha : PE X y (lE cls X.K W ta)) (hb : PE X (.BoolOp op (z :: zs) q) (lE cls X.K W tb)) :
    PE X (.BoolOp op (y :: z :: zs) q) (lE cls X.K W (bif w then tAn ta tb else tOr2 ta tb)) := by
  cases w <;> cases op <;> first | (cases hw; done) | exact se_and ha hb | exact se_or ha hb
theorem pw1 {X : Cx} {op : BoolOp} {y : Expr} {q : Pos} {t : TT} (ha : PT X y t) : PW X (.BoolOp op [y] q) t := by
  cases op with
  | And => exact pw_and1 ha
  | Or => exact pw_or1 ha
theorem call_ok {X : Cx} {W : WX} {n : Nm} (o : OkX X cls W Γ p n) {i : Nat} {s : Str} {ys : List Expr} {q pos : Pos} {es : Es} (hi : i < p.lim) (hx : p.fns[i]? = some s) (hg : glB n s = true) (hn : nmB s = true) (hc : chkEs p n es ys = true) (ha : PA X ys (lA cls X.K W (dEs Γ es))) :
    PE X (.Call (.Name s q) ys [] pos) (lE cls X.K W (tCl (Γ.con i) (dEs Γ es))) := by
  obtain ⟨f, k, fd, ps, hm, hk, F, hr, hb⟩ := o.fns i s hi hx
  have hs := chk_stars hc
  cases es with
  | nil =>
    unfold chkEs at hc
    split at hc
    · have e : dEs Γ .nil = tA0 := rfl
      rw [e]
      exact se_call0 F hr o.gd (o.gl hg) hm hk hb o.tk (nm_ok hn).1
    · cases hc
  | cons e es =>
    unfold chkEs at hc
    split at hc
    · have h1 := hs
      rw [List.any_cons, Bool.or_eq_false_iff] at h1
      exact se_call F hr o.gd (o.gl hg) hm hk hb o.tk ha (nm_ok hn).1 (star_cons h1.1) (star_none h1.2)
    · cases hc
theorem ty_ok {X : Cx} {W : WX} {n : Nm} (o : OkX X cls W Γ p n) {ty : Ty} {y : Expr} {q q2 pos : Pos} {f : TE2} (h1 : bltB p n "isinstance" = true) (h2 : bltB p n (tyN ty) = true) (hy : isStar y = false) (ha : PE X y (lE cls X.K W f)) :
    PE X (.Call (.Name "isinstance" q) [y, .Name (tyN ty) q2] [] pos) (lE cls X.K W (tIsi ty f)) := by
  obtain ⟨g1, m1⟩ := o.bltn h1
  obtain ⟨g2, m2⟩ := o.bltn h2
  have hs := star_cons (env := X.env) (es := [.Name (tyN ty) q2]) hy
  cases ty <;> exact se_isi g1 m1 g2 m2 (by decide +kernel) (by decide +kernel) (by decide +kernel) ha hs
theorem scal_rep {t : T} {v : V} (h : scalV t = some v) : True := trivial
theorem glo_ok {X : Cx} {W : WX} {n : Nm} (o : OkX X cls W Γ p n) {i : Nat} {s : Str} {q : Pos} (hx : p.glo[i]? = some s) (hg : glB n s = true) (hn : nmB s = true) : PE X (.Name s q) (lE cls X.K W (tGlo (Γ.glo i))) := by
  cases e : Γ.glo i with
  | none => exact ⟨fun pins s σ H Q I ⟨B, ρ, M, Q2, E, n, q, cQ, cE⟩ => False.elim q⟩
  | some t =>
    obtain ⟨v, u, h1, h2, h3⟩ := o.glo i s t hx e
    exact se_glo h1 (o.gl hg) h2 h3 (nm_ok hn).1
theorem asg_sub {o i : Expr} {env : Env} {pos : Pos} (h : plainB i = true) : ∀ v, assign (.Subscript o i pos) env v = (do
      let ov ← holding [v] (eval o env)
      let iv ← holding [v, ov] (eval i env)
      standAt pos
      holding [v, ov, iv] (setItem ov iv v)
      release [v, ov, iv] []) := by
  intro v
  cases i <;> first | rfl | (cases h; done)
mutual
theorem sE : ∀ (e : E) {X : Cx} {W : WX} {n : Nm} (o : OkX X cls W Γ p n) {x : Expr}, chkE p n e x = true → PE X x (lE cls X.K W (dE Γ e))
  | .slot i, X, W, n, o, x, h => by
    unfold chkE at h
    split at h
    · simp only [Bool.and_eq_true] at h
      exact se_slot (o.slot h.1.1) (o.vis h.1.2) (nm_ok h.2).1 (nm_ok h.2).2
    · cases h
  | .con c, X, W, n, o, x, h => by
    unfold chkE at h
    split at h
    · obtain rfl := eq_of_beq h
      exact se_con
    · cases h
  | .glo i, X, W, n, o, x, h => by
    unfold chkE at h
    split at h
    · simp only [Bool.and_eq_true] at h
      exact glo_ok o (eq_of_beq h.1.1) h.1.2 h.2
    · cases h
  | .op k a b, X, W, n, o, x, h => by
    unfold chkE at h
    split at h
    · simp only [Bool.and_eq_true] at h
      exact se_op (o_ok o h.1.1) (sE a o h.1.2) (sE b o h.2)
    · cases h
  | .neg a, X, W, n, o, x, h => by
    unfold chkE at h
    split at h
    · exact se_un o_neg (sE a o h)
    · cases h
  | .cmp k a b, X, W, n, o, x, h => by
    unfold chkE at h
    split at h
    · simp only [Bool.and_eq_true] at h
      exact se_cmp (cm_ok o h.1.1.1) (sE a o h.1.2) (sE b o h.2) (not_t h.1.1.2)
    · cases h
  | .chn k l a b c, X, W, n, o, x, h => by
    unfold chkE at h
    split at h
    · simp only [Bool.and_eq_true] at h
      obtain ⟨⟨⟨⟨⟨⟨h1, h2⟩, h3⟩, h4⟩, h5⟩, h6⟩, h7⟩ := h
      exact se_ch (cm_ok o h1) (cm_ok o h2) (sE a o h5) (sE b o h6) (sE c o h7) (not_t h3) (not_t h4)
    · cases h
  | .bn w a b, X, W, n, o, x, h => by
    unfold chkE at h
    split at h
    · simp only [Bool.and_eq_true] at h
      exact bn_pe h.1.1 (sE a o h.1.2) (sE b o h.2)
    · cases h
  | .b1 a, X, W, n, o, x, h => by
    unfold chkE at h
    split at h
    · exact se_bo1 (sE a o h)
    · cases h
  | .not a, X, W, n, o, x, h => by
    unfold chkE at h
    split at h
    · exact se_not (sE a o h)
    · cases h
  | .ite c a b, X, W, n, o, x, h => by
    unfold chkE at h
    split at h
    · simp only [Bool.and_eq_true] at h
      exact se_ite (sT c o h.1.1) (sE a o h.1.2) (sE b o h.2)
    · cases h
  | .ix a b, X, W, n, o, x, h => by
    unfold chkE at h
    split at h
    · simp only [Bool.and_eq_true] at h
      exact se_ix i_ix (sE a o h.1.2) (sE b o h.2) (plain_ok h.1.1)
    · cases h
  | .sl m a lo hi, X, W, n, o, x, h => by
    unfold chkE at h
    split at h
    · simp only [Bool.and_eq_true] at h
      exact se_slice (sE a o h.1.1) (sO lo o h.1.2) (sO hi o h.2)
    · cases h
  | .rev m a, X, W, n, o, x, h => by
    unfold chkE at h
    split at h
    · rw [Bool.and_eq_true] at h
      obtain rfl := eq_of_beq h.1
      exact se_rev (sE a o h.2)
    · cases h
  | .tup es, X, W, n, o, x, h => by
    unfold chkE at h
    split at h
    · exact se_tup (sEs es o h)
    · cases h
  | .lst m es, X, W, n, o, x, h => by
    unfold chkE at h
    split at h
    · exact se_lst (sEs es o h)
    · cases h
  | .bf k es, X, W, n, o, x, h => by
    unfold chkE at h
    split at h
    · simp only [Bool.and_eq_true] at h
      exact bf_ok o h.1 (sEs es o h.2) (chk_stars h.2)
    · cases h
  | .isi ty a, X, W, n, o, x, h => by
    unfold chkE at h
    split at h
    · simp only [Bool.and_eq_true] at h
      obtain ⟨⟨⟨⟨⟨h1, h2⟩, h3⟩, h4⟩, h5⟩, h6⟩ := h
      obtain rfl := eq_of_beq h1
      obtain rfl := eq_of_beq h3
      exact ty_ok o h2 h4 (not_t h5) (sE a o h6)
    · cases h
  | .me k a es, X, W, n, o, x, h => by
    unfold chkE at h
    split at h
    · simp only [Bool.and_eq_true] at h
      obtain ⟨⟨⟨⟨⟨h1, h2⟩, h3⟩, h4⟩, h5⟩, h6⟩ := h
      exact me_ok h1 h2 h3 (of_decide_eq_true h4) (sE a o h5) (sEs es o h6) (chk_stars h6) (o := o)
    · cases h
  | .call i es, X, W, n, o, x, h => by
    unfold chkE at h
    split at h
    · simp only [Bool.and_eq_true] at h
      obtain ⟨⟨⟨⟨h1, h2⟩, h3⟩, h4⟩, h5⟩ := h
      exact call_ok o (of_decide_eq_true h1) (eq_of_beq h2) h3 h4 h5 (sEs es o h5)
    · cases h
  | .comp m i g e own, X, W, n, o, x, h => by
    unfold chkE at h
    split at h
    · simp only [Bool.and_eq_true] at h
      obtain ⟨⟨⟨⟨⟨h1, h2⟩, h3⟩, h4⟩, h5⟩, h6⟩ := h
      rw [← o.N, ← o.sc] at h2
      refine (pe_lc (wi := lI cls X.K W (dI Γ i)) (g := lG X.K (dG Γ g) (gS g)) (tt := lT cls X.K no4 tYes2) (te := lE cls X.K no4 (dE Γ e)) o.calm o.nd (sI i o h4) (blkOk_by h2) (fun s H C cl fp => sG g (o.blk _ s H C cl fp) h5) (fun s H C cl fp => (pts_nil.to fun σ H Q ⟨B, ρ, M, Q2, E, nw, f, cQ, cE⟩ => cQ true M H f (After.refl nw.rp))) (fun s H C cl fp => sE e (o.blk _ s H C cl fp) h6) (fold_ok h1)).to ?_
      exact fun σ H Q h => comp_read (tt := tYes2) (fun i hi => of_decide_eq_true (List.all_eq_true.mp h3 i hi)) h
    · cases h
  | .compIf m i g c e own, X, W, n, o, x, h => by
    unfold chkE at h
    split at h
    · simp only [Bool.and_eq_true] at h
      obtain ⟨⟨⟨⟨⟨⟨h1, h2⟩, h3⟩, h4⟩, h5⟩, h7⟩, h6⟩ := h
      rw [← o.N, ← o.sc] at h2
      refine (pe_lc (wi := lI cls X.K W (dI Γ i)) (g := lG X.K (dG Γ g) (gS g)) (tt := lT cls X.K no4 (dT Γ c)) (te := lE cls X.K no4 (dE Γ e)) o.calm o.nd (sI i o h4) (blkOk_by h2) (fun s H C cl fp => sG g (o.blk _ s H C cl fp) h5) (fun s H C cl fp => pts_one (sT c (o.blk _ s H C cl fp) h7)) (fun s H C cl fp => sE e (o.blk _ s H C cl fp) h6) (fold_ok h1)).to ?_
      exact fun σ H Q h => comp_read (fun i hi => of_decide_eq_true (List.all_eq_true.mp h3 i hi)) h
    · cases h
  | .frz a, X, W, n, o, x, h => by
    unfold chkE at h
    exact se_frz (sE a o h)
theorem sT : ∀ (e : E) {X : Cx} {W : WX} {n : Nm} (o : OkX X cls W Γ p n) {x : Expr}, chkT p n e x = true → PT X x (lT cls X.K W (dT Γ e))
  | .cmp k a b, X, W, n, o, x, h => by
    unfold chkT at h
    split at h
    · simp only [Bool.and_eq_true] at h
      exact st_cmp (cm_ok o h.1.1.1) (sE a o h.1.2) (sE b o h.2) (not_t h.1.1.2)
    · cases h
  | .chn k l a b c, X, W, n, o, x, h => by
    unfold chkT at h
    split at h
    · simp only [Bool.and_eq_true] at h
      obtain ⟨⟨⟨⟨⟨⟨h1, h2⟩, h3⟩, h4⟩, h5⟩, h6⟩, h7⟩ := h
      exact st_ch (cm_ok o h1) (cm_ok o h2) (sE a o h5) (sE b o h6) (sE c o h7) (not_t h3) (not_t h4)
    · cases h
  | .bn w a b, X, W, n, o, x, h => by
    unfold chkT at h
    split at h
    · simp only [Bool.and_eq_true] at h
      exact (bn_pw h.1.1 (sT a o h.1.2) (sW b o h.2 rfl)).pt
    · cases h
  | .b1 a, X, W, n, o, x, h => by
    unfold chkT at h
    split at h
    · exact (pw1 (sT a o h)).pt
    · cases h
  | .not a, X, W, n, o, x, h => by
    unfold chkT at h
    split at h
    · exact st_not (sT a o h)
    · cases h
  | .slot i, X, W, n, o, x, h => by
    have h : (tstB x && chkE p n (.slot i) x) = true := h
    rw [Bool.and_eq_true] at h
    exact st_tr (sE (.slot i) o h.2) (isTrue_def h.1)
  | .con c, X, W, n, o, x, h => by
    have h : (tstB x && chkE p n (.con c) x) = true := h
    rw [Bool.and_eq_true] at h
    exact st_tr (sE (.con c) o h.2) (isTrue_def h.1)
  | .glo i, X, W, n, o, x, h => by
    have h : (tstB x && chkE p n (.glo i) x) = true := h
    rw [Bool.and_eq_true] at h
    exact st_tr (sE (.glo i) o h.2) (isTrue_def h.1)
  | .ix a b, X, W, n, o, x, h => by
    unfold chkT at h
    rw [Bool.and_eq_true] at h
    obtain ⟨h0, h⟩ := h
    split at h
    · simp only [Bool.and_eq_true] at h
      exact st_tr (se_ix i_ix (sE a o h.1.2) (sE b o h.2) (plain_ok h.1.1)) (isTrue_def h0)
    · cases h
  | .bf k es, X, W, n, o, x, h => by
    unfold chkT at h
    rw [Bool.and_eq_true] at h
    obtain ⟨h0, h⟩ := h
    split at h
    · simp only [Bool.and_eq_true] at h
      exact st_tr (bf_ok o h.1 (sEs es o h.2) (chk_stars h.2)) (isTrue_def h0)
    · cases h
  | .isi ty a, X, W, n, o, x, h => by
    unfold chkT at h
    rw [Bool.and_eq_true] at h
    obtain ⟨h0, h⟩ := h
    split at h
    · simp only [Bool.and_eq_true] at h
      obtain ⟨⟨⟨⟨⟨h1, h2⟩, h3⟩, h4⟩, h5⟩, h6⟩ := h
      obtain rfl := eq_of_beq h1
      obtain rfl := eq_of_beq h3
      exact st_tr (ty_ok o h2 h4 (not_t h5) (sE a o h6)) (isTrue_def h0)
    · cases h
  | .call i es, X, W, n, o, x, h => by
    unfold chkT at h
    rw [Bool.and_eq_true] at h
    obtain ⟨h0, h⟩ := h
    split at h
    · simp only [Bool.and_eq_true] at h
      obtain ⟨⟨⟨⟨h1, h2⟩, h3⟩, h4⟩, h5⟩ := h
      exact st_tr (call_ok o (of_decide_eq_true h1) (eq_of_beq h2) h3 h4 h5 (sEs es o h5)) (isTrue_def h0)
    · cases h
  | .op k a b, X, W, n, o, x, h => by
    unfold chkT at h
    rw [Bool.and_eq_true] at h
    obtain ⟨h0, h⟩ := h
    split at h
    · simp only [Bool.and_eq_true] at h
      exact st_tr (se_op (o_ok o h.1.1) (sE a o h.1.2) (sE b o h.2)) (isTrue_def h0)
    · cases h
  | .neg _, X, W, n, o, x, h => by unfold chkT at h; cases h
  | .ite _ _ _, X, W, n, o, x, h => by unfold chkT at h; cases h
  | .sl _ _ _ _, X, W, n, o, x, h => by unfold chkT at h; cases h
  | .rev _ _, X, W, n, o, x, h => by unfold chkT at h; cases h
  | .tup _, X, W, n, o, x, h => by unfold chkT at h; cases h
  | .lst _ _, X, W, n, o, x, h => by unfold chkT at h; cases h
  | .me _ _ _, X, W, n, o, x, h => by unfold chkT at h; cases h
  | .comp _ _ _ _ _, X, W, n, o, x, h => by unfold chkT at h; cases h
  | .compIf _ _ _ _ _ _, X, W, n, o, x, h => by unfold chkT at h; cases h
  | .frz _, X, W, n, o, x, h => by unfold chkT at h; cases h
theorem sW : ∀ (e : E) {X : Cx} {W : WX} {n : Nm} (o : OkX X cls W Γ p n) {x : Expr}, chkT p n e x = true → isBO x = true → PW X x (lT cls X.K W (dT Γ e))
  | .bn w a b, X, W, n, o, x, h, _ => by
    unfold chkT at h
    split at h
    · simp only [Bool.and_eq_true] at h
      exact bn_pw h.1.1 (sT a o h.1.2) (sW b o h.2 rfl)
    · cases h
  | .b1 a, X, W, n, o, x, h, _ => by
    unfold chkT at h
    split at h
    · exact pw1 (sT a o h)
    · cases h
  | .cmp k a b, X, W, n, o, x, h, hb => by cases x <;> first | (cases hb; done) | (unfold chkT at h; cases h)
  | .chn k l a b c, X, W, n, o, x, h, hb => by cases x <;> first | (cases hb; done) | (unfold chkT at h; cases h)
  | .not a, X, W, n, o, x, h, hb => by cases x <;> first | (cases hb; done) | (unfold chkT at h; cases h)
  | .slot i, X, W, n, o, x, h, hb => by cases x <;> first | (cases hb; done) | (unfold chkT at h; cases h)
  | .con c, X, W, n, o, x, h, hb => by cases x <;> first | (cases hb; done) | (unfold chkT at h; cases h)
  | .glo i, X, W, n, o, x, h, hb => by cases x <;> first | (cases hb; done) | (unfold chkT at h; cases h)
  | .ix a b, X, W, n, o, x, h, hb => by cases x <;> first | (cases hb; done) | (unfold chkT at h; cases h)
  | .bf k es, X, W, n, o, x, h, hb => by cases x <;> first | (cases hb; done) | (unfold chkT at h; cases h)
  | .isi ty a, X, W, n, o, x, h, hb => by cases x <;> first | (cases hb; done) | (unfold chkT at h; cases h)
  | .call i es, X, W, n, o, x, h, hb => by cases x <;> first | (cases hb; done) | (unfold chkT at h; cases h)
  | .op k a b, X, W, n, o, x, h, hb => by cases x <;> first | (cases hb; done) | (unfold chkT at h; cases h)
  | .neg _, X, W, n, o, x, h, _ => by unfold chkT at h; cases h
  | .ite _ _ _, X, W, n, o, x, h, _ => by unfold chkT at h; cases h
  | .sl _ _ _ _, X, W, n, o, x, h, _ => by unfold chkT at h; cases h
  | .rev _ _, X, W, n, o, x, h, _ => by unfold chkT at h; cases h
  | .tup _, X, W, n, o, x, h, _ => by unfold chkT at h; cases h
  | .lst _ _, X, W, n, o, x, h, _ => by unfold chkT at h; cases h
  | .me _ _ _, X, W, n, o, x, h, _ => by unfold chkT at h; cases h
  | .comp _ _ _ _ _, X, W, n, o, x, h, _ => by unfold chkT at h; cases h
  | .compIf _ _ _ _ _ _, X, W, n, o, x, h, _ => by unfold chkT at h; cases h
  | .frz _, X, W, n, o, x, h, _ => by unfold chkT at h; cases h
theorem sO : ∀ (e : O) {X : Cx} {W : WX} {n : Nm} (o : OkX X cls W Γ p n) {x : Option Expr}, chkO p n e x = true → PO X x (lP cls X.K W (dO Γ e))
  | .none, X, W, n, o, x, h => by
    unfold chkO at h
    split at h
    · exact sp_none
    · cases h
  | .some e, X, W, n, o, x, h => by
    unfold chkO at h
    split at h
    · exact sp_some (sE e o h)
    · cases h
theorem sEs : ∀ (e : Es) {X : Cx} {W : WX} {n : Nm} (o : OkX X cls W Γ p n) {x : List Expr}, chkEs p n e x = true → PA X x (lA cls X.K W (dEs Γ e))
  | .nil, X, W, n, o, x, h => by
    unfold chkEs at h
    split at h
    · exact sa_nil
    · cases h
  | .cons e es, X, W, n, o, x, h => by
    unfold chkEs at h
    split at h
    · simp only [Bool.and_eq_true] at h
      exact sa_cons (sE e o h.1.2) (sEs es o h.2) (star_cons (not_t h.1.1))
    · cases h
theorem sI : ∀ (e : I) {X : Cx} {W : WX} {n : Nm} (o : OkX X cls W Γ p n) {t x : Expr}, chkI p n e t x = true → PI X t x (lI cls X.K W (dI Γ e))
  | .it e, X, W, n, o, t, x, h => by
    unfold chkI at h
    exact ii_any (sE e o h)
  | .r1 e, X, W, n, o, t, x, h => by
    unfold chkI at h
    split at h
    · simp only [Bool.and_eq_true] at h
      obtain ⟨⟨⟨h1, h2⟩, h3⟩, h4⟩ := h
      obtain rfl := eq_of_beq h1
      have s1 := star_cons (env := X.env) (es := []) (not_t h3)
      exact ii_r1 (o.bltn h2).1 (o.bltn h2).2 (sa_cons (sE e o h4) sa_nil s1) s1
    · cases h
  | .r2 a b, X, W, n, o, t, x, h => by
    unfold chkI at h
    split at h
    · simp only [Bool.and_eq_true] at h
      obtain ⟨⟨⟨⟨⟨h1, h2⟩, h3⟩, h4⟩, h5⟩, h6⟩ := h
      obtain rfl := eq_of_beq h1
      rename_i y z q
      have s2 := star_cons (env := X.env) (es := []) (not_t h4)
      have s1 := star_cons (env := X.env) (es := [z]) (not_t h3)
      exact ii_r2 (o.bltn h2).1 (o.bltn h2).2 (sa_cons (sE a o h5) (sa_cons (sE b o h6) sa_nil s2) s1) (s1.trans (by rw [s2]; rfl)) s2
    · cases h
  | .en e, X, W, n, o, t, x, h => by
    unfold chkI at h
    split at h
    · simp only [Bool.and_eq_true] at h
      obtain ⟨⟨⟨h1, h2⟩, h3⟩, h4⟩ := h
      obtain rfl := eq_of_beq h1
      have s1 := star_cons (env := X.env) (es := []) (not_t h3)
      exact ii_enE (o.bltn h2).1 (o.bltn h2).2 (sa_cons (sE e o h4) sa_nil s1) s1
    · cases h
  | .zip a b, X, W, n, o, t, x, h => by
    unfold chkI at h
    split at h
    · simp only [Bool.and_eq_true] at h
      obtain ⟨⟨⟨⟨⟨h1, h2⟩, h3⟩, h4⟩, h5⟩, h6⟩ := h
      obtain rfl := eq_of_beq h1
      rename_i y z q
      have s2 := star_cons (env := X.env) (es := []) (not_t h4)
      have s1 := star_cons (env := X.env) (es := [z]) (not_t h3)
      exact ii_zip (o.bltn h2).1 (o.bltn h2).2 (sa_cons (sE a o h5) (sa_cons (sE b o h6) sa_nil s2) s1) s1 (star_none (by rw [List.any_cons, not_t h4]; rfl))
    · cases h
theorem sG : ∀ (e : G) {X : Cx} {W : WX} {n : Nm} (o : OkX X cls W Γ p n) {x : Expr}, chkG p n e x = true → PG X x (lG X.K (dG Γ e) (gS e))
  | .slot i, X, W, n, o, x, h => by
    unfold chkG at h
    split at h
    · simp only [Bool.and_eq_true] at h
      exact g_slot o.nd (o.slot h.1) (o.loc h.2).1 (o.loc h.2).2
    · cases h
  | .tup gs, X, W, n, o, x, h => by
    unfold chkG at h
    split at h
    · simp only [Bool.and_eq_true] at h
      exact g_tup o.calm (sGs gs o h.1) (by rw [asg_len]; exact of_decide_eq_true h.2) (asg_star (chk_gstars h.1))
    · cases h
  | .sub a i, X, W, n, o, x, h => by
    unfold chkG at h
    split at h
    · simp only [Bool.and_eq_true] at h
      exact g_sub (sE a o h.1.2) (sE i o h.2) p_set (asg_sub h.1.1)
    · cases h
theorem sGs : ∀ (e : Gs) {X : Cx} {W : WX} {n : Nm} (o : OkX X cls W Γ p n) {x : List Expr}, chkGs p n e x = true → PGs X x (lGs X.K (dGs Γ e) (gSs e))
  | .nil, X, W, n, o, x, h => by
    unfold chkGs at h
    split at h
    · exact gs_nil
    · cases h
  | .cons g gs, X, W, n, o, x, h => by
    unfold chkGs at h
    split at h
    · simp only [Bool.and_eq_true] at h
      exact gs_cons (sG g o h.1.2) (sGs gs o h.2) (fun i hi => List.mem_append_left _ hi) (fun i hi => List.mem_append_right _ hi) (by rw [asg_cons (not_t h.1.1)]; rfl)
    · cases h
end
end
end TL

/-! TLo: statements: meaning, check, soundness; a def. -/
namespace TL
open PySem PySem.Spec PyProof.Rows L2

def sNever : TS2 := fun _ _ _ => False
/-- a, b = x, y: stored from the right -/
def sPar (is : List Nat) (fs : TA2) : TS2 := fun D ρ M => fs ρ M (fun xs M1 => xs.length = is.length ∧ D.nx ((is.zip xs).foldl (fun r q => r.set q.1 (some q.2)) ρ) M1) fun x M1 => D.ex x ρ M1
mutual
def dS (Γ : Gam) : S → TS2
  | .pass => sPass
  | .brk => sBrk
  | .cnt => sCnt
  | .expr e => sExpr (dE Γ e)
  | .ret e => sRet (dE Γ e)
  | .ret0 => sRet0
  | .iff c a b => sIf (dT Γ c) (dSs Γ a) (dSs Γ b)
  | .whl c b => sWhile (dT Γ c) (dSs Γ b)
  | .fr i g b => sFor (dI Γ i) (dG Γ g) (dSs Γ b)
  | .asg g e => sAsg (dE Γ e) (dG Γ g)
  | .par is es => sPar is (dEs Γ es)
  | .setC i e => sAsg (dE Γ e) (gSl i)
  | .never => sNever
def dSs (Γ : Gam) : Ss → TS2
  | .nil => sNext
  | .cons s ss => sSeq (dS Γ s) (dSs Γ ss)
  | .frz i ss => sSeq (sFrz i) (dSs Γ ss)
end
def locsB (n : Nm) (x : Str) : Bool := n.sc.names.lookup x == some .local
def swAsgB (n : Nm) (t v : Expr) : Bool := notComp v || (match t, v with
  | .Name y py, .ListComp _ _ scope pos => !swC n.sc y py pos scope
  | .Tuple .., _ => true
  | .Subscript .., _ => true
  | _, _ => false)
def swStB (n : Nm) (t v : Expr) : Bool := notTT t v || (match t, v with
  | .Tuple ts _ _, .Tuple vs _ _ => swS n.sc ts vs == some none
  | _, _ => false)
mutual
def chkS (p : Pg) (n : Nm) : S → Stmt → Bool
  | .pass, x => match x with
    | .Pass _ => true
    | _ => false
  | .brk, x => match x with
    | .Break _ => true
    | _ => false
  | .cnt, x => match x with
    | .Continue _ => true
    | _ => false
  | .expr e, x => match x with
    | .Expr y _ => notComp y && chkE p n e y
    | _ => false
  | .ret e, x => match x with
    | .Return (some y) _ => chkE p n e y
    | _ => false
  | .ret0, x => match x with
    | .Return none _ => true
    | _ => false
  | .iff c a b, x => match x with
    | .If y u v _ => chkT p n c y && chkSs p n a u && chkSs p n b v
    | _ => false
  | .whl c b, x => match x with
    | .While y u [] _ => chkT p n c y && chkSs p n b u
    | _ => false
  | .fr i g b, x => match x with
    | .For t y u [] _ => notSet y && chkI p n i t y && chkG p n g t && chkSs p n b u
    | _ => false
  | .asg g e, x => match x with
    | .Assign [t] y _ => !isStar t && swAsgB n t y && swStB n t y && chkG p n g t && chkE p n e y
    | _ => false
  | .par is es, x => match x with
    | .Assign [.Tuple [.Name a p1, .Name b p2] k p3] (.Tuple [y, z] k2 p4) _ => (match is with
      | [i, j] => decide (i ≠ j) && n.N[i]? == some a && n.N[j]? == some b && locsB n a && locsB n b && swS n.sc [.Name a p1, .Name b p2] [y, z] == some (some [a, b]) && chkEs p n es [y, z]
      | _ => false)
    | .Assign [.Tuple [.Name a p1, .Name b p2, .Name c p5] k p3] (.Tuple [y, z, u] k2 p4) _ => (match is with
      | [i, j, l] => decide (i ≠ j) && decide (i ≠ l) && decide (j ≠ l) && n.N[i]? == some a && n.N[j]? == some b && n.N[l]? == some c && locsB n a && locsB n b && locsB n c && swS n.sc [.Name a p1, .Name b p2, .Name c p5] [y, z, u] == some (some [a, b, c]) && chkEs p n es [y, z, u]
      | _ => false)
    | _ => false
  | .setC i e, x => match x with
    | .Assign [.Name y py] (.ListComp elt gs scope pos) _ => n.N[i]? == some y && locsB n y && swC n.sc y py pos scope && (match e, gs with
      | .comp m ii g e own, [⟨tg, it, [], 0⟩] => notSet it && blkC n.N n.sc scope own && gsl g (own.map (·.2)) && chkI p n ii tg it && chkG p (n.blk scope) g tg && chkE p (n.blk scope) e elt
      | .compIf m ii g c e own, [⟨tg, it, [z], 0⟩] => notSet it && blkC n.N n.sc scope own && gsl g (own.map (·.2)) && chkI p n ii tg it && chkG p (n.blk scope) g tg && chkT p (n.blk scope) c z && chkE p (n.blk scope) e elt
      | _, _ => false)
    | _ => false
  | .never, _ => true
def chkSs (p : Pg) (n : Nm) : Ss → List Stmt → Bool
  | .nil, xs => match xs with
    | [] => true
    | _ => false
  | .cons s ss, xs => match xs with
    | y :: ys => chkS p n s y && chkSs p n ss ys
    | _ => false
  | .frz _ ss, xs => chkSs p n ss xs
end
section
variable {cls : Nat → Value} {Γ : Gam} {p : Pg} {X : Cx} {W : WX} {n : Nm}
theorem OkX.sl (o : OkX X cls W Γ p n) {x : Str} (h : locsB n x = true) : X.env.scope.names.lookup x = some .local := by
  rw [o.sc]; exact eq_of_beq h
theorem par2 (o : OkX X cls W Γ p n) {i j : Nat} {x y : Str} {a b : Expr} {fs : TA2} {px py pt pos : Pos} {kt k2 : Nat} {pt2 : Pos} (hi : X.N[i]? = some x) (hj : X.N[j]? = some y) (hij : i ≠ j) (hx : locsB n x = true) (hy : locsB n y = true)
    (ha : PA X [a, b] (lA cls X.K W fs)) (hw : (swS n.sc [.Name x px, .Name y py] [a, b] == some (some [x, y])) = true) : PS X (.Assign [.Tuple [.Name x px, .Name y py] kt pt] (.Tuple [a, b] k2 pt2) pos) (lS cls X.K W (sPar [i, j] fs)) := by
  have e := eq_of_beq hw
  rw [← o.sc] at e
  refine (ps_par o.calm o.nd hi hj hij (o.sl hx) (o.sl hy) ha (swS_eq e)).to fun D σ H ⟨B, ρ, M, D2, n, q, e⟩ => ⟨B, ρ, M, _, _, n, q, fun xs M1 vs H1 q1 af rs => ?_, e.exOk n⟩
  obtain ⟨hl, q1⟩ := q1
  match xs, vs, hl, rs, q1 with
  | [x, y], [v, u], _, rs, q1 =>
    unfold Reps at rs
    obtain ⟨r1, rs⟩ := rs
    unfold Reps at rs
    obtain ⟨r2, _⟩ := rs
    exact ⟨v, u, rfl, e.nx _ M1 _ H1 q1 af (((n.after af).env.set r1 i).set r2 j)⟩
  | [_, _], [], _, rs, _ => unfold Reps at rs; exact rs.elim
  | [_, _], [_], _, rs, _ => have := rs.length; simp at this
  | [_, _], _ :: _ :: _ :: _, _, rs, _ => have := rs.length; simp at this
theorem par3 (o : OkX X cls W Γ p n) {i j l : Nat} {x y z : Str} {a b c : Expr} {fs : TA2} {px py pz pt pos : Pos} {kt k2 : Nat} {pt2 : Pos} (hi : X.N[i]? = some x) (hj : X.N[j]? = some y) (hl : X.N[l]? = some z) (hij : i ≠ j) (hil : i ≠ l) (hjl : j ≠ l)
    (hx : locsB n x = true) (hy : locsB n y = true) (hz : locsB n z = true)
    (ha : PA X [a, b, c] (lA cls X.K W fs)) (hw : (swS n.sc [.Name x px, .Name y py, .Name z pz] [a, b, c] == some (some [x, y, z])) = true) :
    PS X (.Assign [.Tuple [.Name x px, .Name y py, .Name z pz] kt pt] (.Tuple [a, b, c] k2 pt2) pos) (lS cls X.K W (sPar [i, j, l] fs)) := by
  have e := eq_of_beq hw
  rw [← o.sc] at e
  refine (ps_par3 o.calm o.nd hi hj hl hij hil hjl (o.sl hx) (o.sl hy) (o.sl hz) ha (swS_eq e)).to fun D σ H ⟨B, ρ, M, D2, n, q, e⟩ => ⟨B, ρ, M, _, _, n, q, fun xs M1 vs H1 q1 af rs => ?_, e.exOk n⟩
  obtain ⟨hl, q1⟩ := q1
  match xs, vs, hl, rs, q1 with
  | [x, y, z], [v, u, w], _, rs, q1 =>
    unfold Reps at rs
    obtain ⟨r1, rs⟩ := rs
    unfold Reps at rs
    obtain ⟨r2, rs⟩ := rs
    unfold Reps at rs
    obtain ⟨r3, _⟩ := rs
    exact ⟨v, u, w, rfl, e.nx _ M1 _ H1 q1 af ((((n.after af).env.set r1 i).set r2 j).set r3 l)⟩
  | [_, _, _], [], _, rs, _ => unfold Reps at rs; exact rs.elim
  | [_, _, _], [_], _, rs, _ => have := rs.length; simp at this
  | [_, _, _], [_, _], _, rs, _ => have := rs.length; simp at this
  | [_, _, _], _ :: _ :: _ :: _ :: _, _, rs, _ => have := rs.length; simp at this
theorem gsl_read {K : PySem.W.Frag} {i : Nat} {v : V} {σ : L2.St} {H : Hp} {Q : L2.St → Hp → Prop} (h : lG K (gSl i) [i] v σ H Q) : gName i v σ H Q := by
  obtain ⟨B, ρ, M, t, Q2, n, r, q, cQ⟩ := h
  exact cQ _ M _ H q (After.refl n.rp) (n.env.set r i) ⟨by simp, fun j h => by
    have : i ≠ j := fun z => h (by simp [z])
    exact List.getElem?_set_ne this⟩
theorem sw_ok {t v : Expr} {l : Nat} (o : OkX X cls W Γ p n) (h : swAsgB n t v = true) : swapsWithSole [t] v l X.env = pure false := by
  show swapsWith v (some t) l X.env = pure false
  unfold swAsgB at h
  rw [Bool.or_eq_true] at h
  rcases h with h | h
  · exact sw_off h
  · split at h
    · rw [swC_eq, o.sc, not_t h]
    · cases v <;> rfl
    · cases v <;> rfl
    · cases h
theorem swst_ok {t v : Expr} (o : OkX X cls W Γ p n) (h : swStB n t v = true) : swappedStores [t] v X.env = pure none := by
  unfold swStB at h
  rw [Bool.or_eq_true] at h
  rcases h with h | h
  · exact swNone (by unfold notTT at h; exact h)
  · split at h
    · have e := eq_of_beq h
      rw [← o.sc] at e
      exact swS_eq e
    · cases h
mutual
theorem sS (hp : PassesOwn (model X.prog X.w) X.A X.env X.xe) (o : OkX X cls W Γ p n) : ∀ (s : S) {x : Stmt}, chkS p n s x = true → PS X x (lS cls X.K W (dS Γ s))
  | .pass, x, h => by
    unfold chkS at h
    split at h
    · exact s_pass
    · cases h
  | .brk, x, h => by
    unfold chkS at h
    split at h
    · exact s_brk
    · cases h
  | .cnt, x, h => by
    unfold chkS at h
    split at h
    · exact s_cnt
    · cases h
  | .expr e, x, h => by
    unfold chkS at h
    split at h
    · rw [Bool.and_eq_true] at h
      exact s_expr (sE e o h.2) (sw_off h.1)
    · cases h
  | .ret e, x, h => by
    unfold chkS at h
    split at h
    · exact s_ret (sE e o h)
    · cases h
  | .ret0, x, h => by
    unfold chkS at h
    split at h
    · exact s_ret0
    · cases h
  | .iff c a b, x, h => by
    unfold chkS at h
    split at h
    · simp only [Bool.and_eq_true] at h
      exact s_if (sT c o h.1.1) (sSs hp o a h.1.2) (sSs hp o b h.2)
    · cases h
  | .whl c b, x, h => by
    unfold chkS at h
    split at h
    · simp only [Bool.and_eq_true] at h
      exact s_while hp (sT c o h.1) (sSs hp o b h.2)
    · cases h
  | .fr i g b, x, h => by
    unfold chkS at h
    split at h
    · simp only [Bool.and_eq_true] at h
      obtain ⟨⟨⟨h1, h2⟩, h3⟩, h4⟩ := h
      exact s_for hp o.calm (sI i o h2) (sG g o h3) (sSs hp o b h4) (fold_ok h1)
    · cases h
  | .asg g e, x, h => by
    unfold chkS at h
    split at h
    · simp only [Bool.and_eq_true] at h
      obtain ⟨⟨⟨⟨h1, h2⟩, h3⟩, h4⟩, h5⟩ := h
      exact s_asg (sE e o h5) (sG g o h4) (sw_ok o h2) (swst_ok o h3) (asg1 (not_t h1))
    · cases h
  | .par is es, x, h => by
    unfold chkS at h
    split at h
    · split at h
      · simp only [Bool.and_eq_true] at h
        obtain ⟨⟨⟨⟨⟨⟨h1, h2⟩, h3⟩, h4⟩, h5⟩, h6⟩, h7⟩ := h
        exact par2 o (o.slot h2) (o.slot h3) (of_decide_eq_true h1) h4 h5 (sEs es o h7) h6
      · cases h
    · split at h
      · simp only [Bool.and_eq_true] at h
        obtain ⟨⟨⟨⟨⟨⟨⟨⟨⟨⟨h1, h2⟩, h3⟩, h4⟩, h5⟩, h6⟩, h7⟩, h8⟩, h9⟩, h10⟩, h11⟩ := h
        exact par3 o (o.slot h4) (o.slot h5) (o.slot h6) (of_decide_eq_true h1) (of_decide_eq_true h2) (of_decide_eq_true h3) h7 h8 h9 (sEs es o h11) h10
      · cases h
    · cases h
  | .setC i e, x, h => by
    unfold chkS at h
    split at h
    · simp only [Bool.and_eq_true] at h
      obtain ⟨⟨⟨k1, k2⟩, k3⟩, h⟩ := h
      rw [← o.sc] at k3
      have ksw : ∀ {elt : Expr} {gs : List Comprehension} {scope : Scope} {pos py : Pos} {y : Str} {l : Nat}, swC X.env.scope y py pos scope = true → swapsWith (.ListComp elt gs scope pos) (some (.Name y py)) l X.env = pure true := fun h => by rw [swC_eq, h]
      split at h
      · rename_i m ii g e own tg it
        simp only [Bool.and_eq_true] at h
        obtain ⟨⟨⟨⟨⟨h1, h2⟩, h3⟩, h4⟩, h5⟩, h6⟩ := h
        rw [← o.N, ← o.sc] at h2
        refine (ps_setLc (wi := lI cls X.K W (dI Γ ii)) (g := lG X.K (dG Γ g) (gS g)) (tt := lT cls X.K no4 tYes2) (te := lE cls X.K no4 (dE Γ e)) o.calm o.nd (o.slot k1) (o.sl k2) (ksw k3) (sI ii o h4) (blkOk_by h2) (fun s H C cl fp => sG g (o.blk _ s H C cl fp) h5) (fun s H C cl fp => (pts_nil.to fun σ H Q ⟨B, ρ, M, Q2, E, nw, f, cQ, cE⟩ => cQ true M H f (After.refl nw.rp))) (fun s H C cl fp => sE e (o.blk _ s H C cl fp) h6) (fold_ok h1)).to fun D σ H h => ?_
        have h' := asg_read (g := gSl i) (sl := [i]) h
        have h2 := comp_read (tt := tYes2) (sl := gS g) (fun i hi => of_decide_eq_true (List.all_eq_true.mp h3 i hi)) h'
        obtain ⟨B, ρ, M, D2, n, q, e⟩ := h
        exact comp_read (tt := tYes2) (sl := gS g) (fun i hi => of_decide_eq_true (List.all_eq_true.mp h3 i hi)) ⟨B, ρ, M, _, _, n, q, fun t M2 v H2 q2 af r => gsl_read ⟨B, ρ, M2, t, D2.nx, n.after af, r, q2, fun ρ' M' σ' H' q3 af3 ev ag => e.nx ρ' M' σ' H' q3 (af.trans af3) ev⟩, e.exOk n⟩
      · rename_i m ii g c e own tg it z
        simp only [Bool.and_eq_true] at h
        obtain ⟨⟨⟨⟨⟨⟨h1, h2⟩, h3⟩, h4⟩, h5⟩, h7⟩, h6⟩ := h
        rw [← o.N, ← o.sc] at h2
        refine (ps_setLc (wi := lI cls X.K W (dI Γ ii)) (g := lG X.K (dG Γ g) (gS g)) (tt := lT cls X.K no4 (dT Γ c)) (te := lE cls X.K no4 (dE Γ e)) o.calm o.nd (o.slot k1) (o.sl k2) (ksw k3) (sI ii o h4) (blkOk_by h2) (fun s H C cl fp => sG g (o.blk _ s H C cl fp) h5) (fun s H C cl fp => pts_one (sT c (o.blk _ s H C cl fp) h7)) (fun s H C cl fp => sE e (o.blk _ s H C cl fp) h6) (fold_ok h1)).to fun D σ H h => ?_
        obtain ⟨B, ρ, M, D2, n, q, e⟩ := h
        exact comp_read (sl := gS g) (fun i hi => of_decide_eq_true (List.all_eq_true.mp h3 i hi)) ⟨B, ρ, M, _, _, n, q, fun t M2 v H2 q2 af r => gsl_read ⟨B, ρ, M2, t, D2.nx, n.after af, r, q2, fun ρ' M' σ' H' q3 af3 ev ag => e.nx ρ' M' σ' H' q3 (af.trans af3) ev⟩, e.exOk n⟩
      · cases h
    · cases h
  | .never, x, h => ⟨fun pins s σ H D I ⟨B, ρ, M, D2, n, q, e⟩ => False.elim q⟩
theorem sSs (hp : PassesOwn (model X.prog X.w) X.A X.env X.xe) (o : OkX X cls W Γ p n) : ∀ (ss : Ss) {x : List Stmt}, chkSs p n ss x = true → PSs X x (lS cls X.K W (dSs Γ ss))
  | .nil, x, h => by
    unfold chkSs at h
    split at h
    · exact ss_nil
    · cases h
  | .cons s ss, x, h => by
    unfold chkSs at h
    split at h
    · rw [Bool.and_eq_true] at h
      exact ss_cons (sS hp o s h.1) (sSs hp o ss h.2)
    · cases h
  | .frz i ss, x, h => by
    unfold chkSs at h
    exact ss_frz (sSs hp o ss h)
end
end
end TL

/-! TLp: a program's defs, one after another. -/
namespace TL
open PySem PySem.Spec PyProof.Rows L2

def fnScB (N ps : List Str) (sc : Scope) : Bool := sc.kind == .function && !sc.isCoroutine && !sc.isGenerator && decide N.Nodup && N.take ps.length == ps &&
  (ps.all fun x => match sc.names.lookup x with
    | some .local => true
    | some .cell => true
    | _ => false) && (sc.names.all fun y => !(y.2 == .free))
theorem fnSc_ok {N ps : List Str} {sc : Scope} (h : fnScB N ps sc = true) : FnScope N ps sc := by
  unfold fnScB at h
  simp only [Bool.and_eq_true, Bool.not_eq_true', List.all_eq_true] at h
  obtain ⟨⟨⟨⟨⟨⟨h1, h2⟩, h3⟩, h4⟩, h5⟩, h6⟩, h7⟩ := h
  refine ⟨eq_of_beq h1, h2, h3, of_decide_eq_true h4, eq_of_beq h5, fun x hx => ?_, fun y hy e => ?_⟩
  · have q := h6 x hx
    split at q <;> first | (cases q; done) | skip
    · exact .inl (by assumption)
    · exact .inr (by assumption)
  · have q := h7 y hy
    rw [e] at q
    cases q
section
variable {P : Program} {w : World} {K : PySem.W.Frag} {mg : Str → Option Value} {base : Heap} {cls : Nat → Value} {Γ : Gam} {p : Pg} {k : Nat}
structure PgOk (K : PySem.W.Frag) (mg : Str → Option Value) (Γ : Gam) (p : Pg) : Prop where
  blt : ∀ x, p.blt.contains x = true → mg x = none
  glo : ∀ (i : Nat) (x : Str) (t : T), p.glo[i]? = some x → Γ.glo i = some t → ∃ v u, scalV t = some v ∧ mg x = some u ∧ RelV v u
  gcd : p.gcd = true → mg "gcd" = some (.builtin "math.gcd")
/-- the defs below number k keep their contracts -/
def Below (P : Program) (w : World) (K : PySem.W.Frag) (mg : Str → Option Value) (base : Heap) (cls : Nat → Value) (Γ : Gam) (p : Pg) (k : Nat) : Prop :=
  ∀ (i : Nat) (x : Str), i < k → p.fns[i]? = some x → ∃ (f : Addr) (fd : FuncData) (ps : List Str), mg x = some (.ref f) ∧ PySem.W.keepIn K (.ref f) = true ∧ FnG P w K mg base k f fd ps (spOf cls K (Γ.con i)) ∧ Binds K fd ps []
theorem def_ok {x qual : Str} {params : Arguments} {body : List Stmt} {scope : Scope} {dvs : List V} {kws : List (Str × V)} {f : Addr} {fd : FuncData} {N ps : List Str} {c : Ct} {ss : Ss} (F : FunD K x qual params body scope dvs kws f fd) (S : fnScB N ps scope = true)
    (G : PgOk K mg Γ p) (b : Below P w K mg base cls Γ p k) (hlen : ∀ ts M Q E, c ts M Q E → ts.length = ps.length) (chk : chkSs { p with lim := k } ⟨N, scope, none⟩ ss body = true)
    (pf : ∀ ts M Q E, c ts M Q E → dSs Γ ss (rtEnds Q E) (start2 N ts) M) : FnG P w K mg base (k + 1) f fd ps (spOf cls K c) := by
  obtain ⟨oc, od, dV, kV, doc, pm, an, cdv, ct, osl, rfl, lk, hcd, _, _⟩ := F.ex
  have S := fnSc_ok S
  refine fnG_of (N := N) lk hcd S (fun vs H Q E ⟨B, M, Q2, E2, ts, R, rs, hc, _⟩ => by rw [rs.length]; exact hlen _ _ _ _ hc) fun A outer s H vs Q E hr hgd hsp => ?_
  have o : OkX (cxOf (L2.CX P w) P w K mg base N qual scope f cdv A outer s H E) cls (fun cv d _ H2 => E cv d H2) Γ { p with lim := k } ⟨N, scope, none⟩ := {
    N := rfl
    nd := S.nd
    sc := rfl
    fn := fun _ _ => rfl
    calm := rfl
    gd := hgd
    un := by have := hr.un; show (A.deeper _).units + 70 < cLine; omega
    tk := takes_of rfl rfl rfl rfl
    blt := G.blt
    fns := fun i x hi hx => by
      obtain ⟨f, fd, ps, h1, h2, h3, h4⟩ := b i x hi hx
      exact ⟨f, k, fd, ps, h1, h2, h3, hr, h4⟩
    glo := G.glo
    gcd := G.gcd }
  exact ⟨_, sSs (passes_of rfl) o ss chk, body_read hsp pf⟩
theorem below_zero : Below P w K mg base cls Γ p 0 := fun i _ h => absurd h (Nat.not_lt_zero i)
theorem below_step {x qual : Str} {params : Arguments} {body : List Stmt} {scope : Scope} {f : Addr} {fd : FuncData} {N ps : List Str} {ss : Ss} (b : Below P w K mg base cls Γ p k) (hx : p.fns[k]? = some x) (hm : mg x = some (.ref f))
    (F : FunD K x qual params body scope [] [] f fd) (S : fnScB N ps scope = true) (G : PgOk K mg Γ p)
    (hb : ∀ (kV doc pm : Value) (an : Option Addr) (cdv ct : Value) (us : List Value), us.length = ps.length → bindArgs (PySem.W.fnOf x qual params body scope .none kV doc pm an cdv ct) ⟨us, []⟩ = pure (ps.zip us))
    (hlen : ∀ ts M Q E, Γ.con k ts M Q E → ts.length = ps.length) (chk : chkSs { p with lim := k } ⟨N, scope, none⟩ ss body = true)
    (pf : ∀ ts M Q E, Γ.con k ts M Q E → dSs Γ ss (rtEnds Q E) (start2 N ts) M) : Below P w K mg base cls Γ p (k + 1) := fun i y hi hy => by
  by_cases h : i = k
  · subst h
    rw [hx] at hy
    obtain rfl := Option.some.inj hy
    exact ⟨f, fd, ps, hm, F.kp, def_ok F S G b hlen chk pf, F.bindsN hb⟩
  · obtain ⟨f, fd, ps, h1, h2, h3, h4⟩ := b i y (by omega) hy
    exact ⟨f, fd, ps, h1, h2, h3.mono (Nat.le_succ k), h4⟩
end
end TL

/-! TLq: help for the plain proofs. -/
namespace TL
open PySem PySem.Spec PyProof.Rows L2

theorem Br_iff {b : Bool} {t e : Prop} : Br b t e ↔ (if b = true then t else e) := by
  cases b <;> simp [Br]
theorem rt_ok {Q : K2} {E : EK} {t : T} {M : Store} (h : Q t M) : (rtEnds Q E).rt t M := ⟨M, TL.Sub.refl M, h⟩
theorem nx_ok {Q : K2} {E : EK} {ρ : St2} {M : Store} (h : Q .non M) : (rtEnds Q E).nx ρ M := ⟨M, TL.Sub.refl M, h⟩
theorem rt_sub {Q : K2} {E : EK} {t : T} {M M' : Store} (s : TL.Sub M' M) (h : Q t M') : (rtEnds Q E).rt t M := ⟨M', s, h⟩
theorem atI_nat {α : Type} {xs : List α} {i : Nat} : atI xs (i : Int) = xs[i]? := by
  unfold atI ixN
  by_cases h : i < xs.length
  · simp [h]
  · simp [h]
theorem atI_of {α : Type} {xs : List α} {i : Int} (h : 0 ≤ i) : atI xs i = xs[i.toNat]? := by
  obtain ⟨k, rfl⟩ := Int.eq_ofNat_of_zero_le h
  exact atI_nat
theorem atI_0 {α : Type} {xs : List α} : atI xs 0 = xs[0]? := atI_nat (i := 0)
theorem atI_1 {α : Type} {xs : List α} : atI xs 1 = xs[1]? := atI_nat (i := 1)
theorem atI_2 {α : Type} {xs : List α} : atI xs 2 = xs[2]? := atI_nat (i := 2)
theorem atI_3 {α : Type} {xs : List α} : atI xs 3 = xs[3]? := atI_nat (i := 3)
theorem atI_4 {α : Type} {xs : List α} : atI xs 4 = xs[4]? := atI_nat (i := 4)
theorem atI_last {α : Type} {xs : List α} : atI xs (-1) = xs.getLast? := by
  unfold atI ixN
  cases xs with
  | nil => rfl
  | cons x r =>
    rw [List.getLast?_eq_getElem?, if_neg (by decide), if_pos (by simp only [List.length_cons]; omega)]
    have e : (-1 + (((x :: r).length : Nat) : Int)).toNat = (x :: r).length - 1 := by simp only [List.length_cons]; omega
    rw [e]
    rfl
theorem pos_ok {m : Int} (h0 : 0 < m) (h1 : m < 2 ^ 64) : PosOk m := ⟨h0, by
  have h3 : m.natAbs ≠ 0 := by omega
  have h2 : m.natAbs < 2 ^ 64 := by omega
  have := (Nat.log2_lt h3).mpr h2
  omega⟩
theorem mul_l {i j : Int} (h : -(2 ^ 64) < i) (h2 : i < 2 ^ 64) : MulOk i j := .inl ⟨h, h2⟩
theorem mul_r {i j : Int} (h : -(2 ^ 64) < j) (h2 : j < 2 ^ 64) : MulOk i j := .inr (.inl ⟨h, h2⟩)
/-! ### slices -/
theorem cut_to {α : Type} {xs : List α} {k : Int} (h : 0 ≤ k) : cutT xs none (some k) = xs.take k.toNat := by
  unfold cutT
  have e : HT.sIx xs.length xs.length (some k) = min k.toNat xs.length := by
    show (if k < 0 then _ else _) = _
    rw [if_neg (by omega)]
  have e0 : HT.sIx xs.length 0 none = 0 := rfl
  rw [e, e0, List.drop_zero, Nat.sub_zero]
  by_cases hl : k.toNat ≤ xs.length
  · rw [Nat.min_eq_left hl]
  · rw [Nat.min_eq_right (by omega), List.take_length, List.take_of_length_le (by omega)]
theorem cut_from {α : Type} {xs : List α} {k : Int} (h : 0 ≤ k) : cutT xs (some k) none = xs.drop k.toNat := by
  unfold cutT
  have e : HT.sIx xs.length 0 (some k) = min k.toNat xs.length := by
    show (if k < 0 then _ else _) = _
    rw [if_neg (by omega)]
  have e0 : HT.sIx xs.length xs.length none = xs.length := rfl
  rw [e, e0]
  by_cases hl : k.toNat ≤ xs.length
  · rw [Nat.min_eq_left hl, List.take_of_length_le (by rw [List.length_drop]; exact Nat.le_refl _)]
  · rw [Nat.min_eq_right (by omega), Nat.sub_self, List.take_zero, List.drop_of_length_le (by omega)]
theorem cut_init {α : Type} {xs : List α} : cutT xs none (some (-1)) = xs.dropLast := by
  unfold cutT
  have e : HT.sIx xs.length xs.length (some (-1)) = xs.length - 1 := by
    have e1 : HT.sIx xs.length xs.length (some (-1)) = (-1 + (xs.length : Int)).toNat := rfl
    rw [e1]
    omega
  have e0 : HT.sIx xs.length 0 none = 0 := rfl
  rw [e, e0, List.drop_zero, Nat.sub_zero, List.dropLast_eq_take]
/-! ### data -/
mutual
def okR : Nat → T → Bool
  | _, .non => true
  | _, .bl _ => true
  | _, .int i => decide (i.natAbs < 2 ^ 64)
  | n + 1, .tup ts => okRs n ts
  | n + 1, .lst ts => okRs n ts
  | _, _ => false
def okRs : Nat → List T → Bool
  | _, [] => true
  | n, t :: ts => okR n t && okRs n ts
end
mutual
def sz : T → Nat
  | .int _ => 64
  | .tup ts => szs ts
  | .lst ts => szs ts
  | _ => 0
def szs : List T → Nat
  | [] => 0
  | t :: ts => sz t + 1 + szs ts
end
mutual
theorem okR_T : ∀ (t : T) (n : Nat), okR n t = true → okT n t = true
  | .non, n, h => by simp [okT]
  | .bl _, n, h => by simp [okT]
  | .int _, n, h => by simp [okT]
  | .tup ts, n, h => by
    cases n with
    | zero => simp [okR] at h
    | succ n => simp only [okR] at h; simp only [okT]; exact okRs_T ts n h
  | .lst ts, n, h => by
    cases n with
    | zero => simp [okR] at h
    | succ n => simp only [okR] at h; simp only [okT]; exact okRs_T ts n h
  | .str _, n, h => by simp [okR] at h
  | .loc _, n, h => by simp [okR] at h
  | .scr _, n, h => by simp [okR] at h
  | .fn _, n, h => by simp [okR] at h
theorem okRs_T : ∀ (ts : List T) (n : Nat), okRs n ts = true → okTs n ts = true
  | [], n, h => by simp [okTs]
  | t :: ts, n, h => by
    simp only [okRs, Bool.and_eq_true] at h
    simp only [okTs, Bool.and_eq_true]
    exact ⟨okR_T t n h.1, okRs_T ts n h.2⟩
end
theorem int_shown {i : Int} (h : i.natAbs < 2 ^ 64) : (PyData.shown (.int i)).length ≤ 66 := by
  have e : PyData.shown (.int i) = Str.ofString (toString i) := by simp only [PyData.shown]
  rw [e, PySem.ofString_length]
  have l : i.natAbs.log2 < 64 := by
    by_cases h3 : i.natAbs = 0
    · rw [h3]; decide
    · exact (Nat.log2_lt h3).mpr h
  have := int_text_length_le (a := i) (k := 64) (by decide) l
  omega
mutual
theorem okR_show : ∀ (t : T) (n : Nat), okR n t = true → (dat t).showable = true ∧ (dat t).leavesShort 66 = true ∧ (dat t).weight ≤ sz t
  | .non, n, h => by simp [dat, PyData.showable, PyData.leavesShort, PyData.weight]
  | .bl _, n, h => by simp [dat, PyData.showable, PyData.leavesShort, PyData.weight]
  | .int i, n, h => by
    have h : i.natAbs < 2 ^ 64 := by simpa [okR] using h
    have l : i.natAbs.log2 < 64 := by
      by_cases h3 : i.natAbs = 0
      · rw [h3]; decide
      · exact (Nat.log2_lt h3).mpr h
    refine ⟨?_, ?_, ?_⟩
    · simp only [dat, PyData.showable, decide_eq_true_eq]; omega
    · simp only [dat, PyData.leavesShort, decide_eq_true_eq]; exact int_shown h
    · simp only [dat, PyData.weight, sz]
      split <;> omega
  | .tup ts, n, h => by
    cases n with
    | zero => simp [okR] at h
    | succ n =>
      simp only [okR] at h
      obtain ⟨a, b, c⟩ := okRs_show ts n h
      simp only [dat, PyData.showable, PyData.leavesShort, PyData.weight, sz]
      exact ⟨a, b, c⟩
  | .lst ts, n, h => by
    cases n with
    | zero => simp [okR] at h
    | succ n =>
      simp only [okR] at h
      obtain ⟨a, b, c⟩ := okRs_show ts n h
      simp only [dat, PyData.showable, PyData.leavesShort, PyData.weight, sz]
      exact ⟨a, b, c⟩
  | .str _, n, h => by simp [okR] at h
  | .loc _, n, h => by simp [okR] at h
  | .scr _, n, h => by simp [okR] at h
  | .fn _, n, h => by simp [okR] at h
theorem okRs_show : ∀ (ts : List T) (n : Nat), okRs n ts = true → PyData.showableAll (dats ts) = true ∧ PyData.leavesShortAll 66 (dats ts) = true ∧ PyData.weightAll (dats ts) ≤ szs ts
  | [], n, h => by simp [dats, PyData.showableAll, PyData.leavesShortAll, PyData.weightAll]
  | t :: ts, n, h => by
    simp only [okRs, Bool.and_eq_true] at h
    obtain ⟨a, b, c⟩ := okR_show t n h.1
    obtain ⟨a2, b2, c2⟩ := okRs_show ts n h.2
    simp only [dats, PyData.showableAll, PyData.leavesShortAll, PyData.weightAll, szs, Bool.and_eq_true]
    exact ⟨⟨a, a2⟩, ⟨b, b2⟩, by omega⟩
end
/-- what repr asks -/
theorem repr_ok {t : T} (h : okR 60 t = true) (hz : sz t ≤ 240000) : okT 60 t = true ∧ (dat t).showable = true ∧ (dat t).shown.length ≤ sizeLine := by
  obtain ⟨a, b, c⟩ := okR_show t 60 h
  refine ⟨okR_T t 60 h, a, ?_⟩
  have := PyData.shown_le 66 (by decide) _ b
  have e : sizeLine = 16777216 := rfl
  rw [e]
  omega
mutual
theorem eqT_refl : ∀ (t : T) (n : Nat), okT n t = true → eqT t t = true
  | .non, n, h => by simp [eqT]
  | .bl _, n, h => by simp [eqT]
  | .int _, n, h => by simp [eqT]
  | .str _, n, h => by simp [eqT]
  | .tup ts, n, h => by
    cases n with
    | zero => simp [okT] at h
    | succ n => simp only [okT] at h; simp only [eqT]; exact eqTs_refl ts n h
  | .lst ts, n, h => by
    cases n with
    | zero => simp [okT] at h
    | succ n => simp only [okT] at h; simp only [eqT]; exact eqTs_refl ts n h
  | .loc _, n, h => by simp [okT] at h
  | .scr _, n, h => by simp [okT] at h
  | .fn _, n, h => by simp [okT] at h
theorem eqTs_refl : ∀ (ts : List T) (n : Nat), okTs n ts = true → eqTs ts ts = true
  | [], n, h => by simp [eqTs]
  | t :: ts, n, h => by
    simp only [okTs, Bool.and_eq_true] at h
    simp only [eqTs, Bool.and_eq_true]
    exact ⟨eqT_refl t n h.1, eqTs_refl ts n h.2⟩
end
theorem eqS_int {M : Store} {Q : K2} {i j : Int} : eqS (.int i) (.int j) M Q ↔ Q (.bl (decide (i = j))) M := by
  unfold eqS; simp [der, okEq, okT, TL.eqT]
theorem neS_int {M : Store} {Q : K2} {i j : Int} : neS (.int i) (.int j) M Q ↔ Q (.bl (!decide (i = j))) M := by
  unfold neS; simp [der, okEq, okT, TL.eqT]
theorem eqS_str {M : Store} {Q : K2} {i j : Str} : eqS (.str i) (.str j) M Q ↔ Q (.bl (decide (i = j))) M := by
  unfold eqS; simp [der, okEq, TL.eqT]
theorem neS_str {M : Store} {Q : K2} {i j : Str} : neS (.str i) (.str j) M Q ↔ Q (.bl (!decide (i = j))) M := by
  unfold neS; simp [der, okEq, TL.eqT]
theorem eqS_same {M : Store} {Q : K2} {t : T} (h : okT 60 (der M t) = true) (q : Q (.bl true) M) : eqS t t M Q := by
  unfold eqS
  rw [eqT_refl _ 60 h]
  refine ⟨?_, q⟩
  unfold okEq
  split
  · rfl
  · rw [h]; rfl
theorem neS_same {M : Store} {Q : K2} {t : T} (h : okT 60 (der M t) = true) (q : Q (.bl false) M) : neS t t M Q := by
  unfold neS
  rw [eqT_refl _ 60 h]
  refine ⟨?_, q⟩
  unfold okEq
  split
  · rfl
  · rw [h]; rfl
theorem isLs_own {M : Store} {p : Addr} {ts : List T} : isLs (upS M p (.lst ts)) (.loc p) ↔ True := iff_true_intro ⟨ts, by simp [lsOf, upS_same]⟩
theorem okRs_all {n : Nat} : ∀ {ts : List T}, (∀ t ∈ ts, okR n t = true) → okRs n ts = true
  | [], _ => by simp [okRs]
  | t :: ts, h => by
    simp only [okRs, Bool.and_eq_true]
    exact ⟨h t List.mem_cons_self, okRs_all fun u hu => h u (List.mem_cons_of_mem _ hu)⟩
theorem okTs_all {n : Nat} : ∀ {ts : List T}, (∀ t ∈ ts, okT n t = true) → okTs n ts = true
  | [], _ => by simp [okTs]
  | t :: ts, h => by
    simp only [okTs, Bool.and_eq_true]
    exact ⟨h t List.mem_cons_self, okTs_all fun u hu => h u (List.mem_cons_of_mem _ hu)⟩
theorem szs_le {k : Nat} : ∀ {ts : List T}, (∀ t ∈ ts, sz t ≤ k) → szs ts ≤ ts.length * (k + 1)
  | [], _ => by simp [szs]
  | t :: ts, h => by
    have h1 := h t List.mem_cons_self
    have h2 := szs_le fun u hu => h u (List.mem_cons_of_mem _ hu)
    simp only [szs, List.length_cons, Nat.add_mul]
    omega
/-! ### comprehensions, loops -/
theorem compL_map {g : TG2} {te : TE2} {ρ : St2} {Q : List T → Store → Prop} {M : Store} (f : T → T) : ∀ (ts acc : List T), (∀ t ∈ ts, ∀ k : K2, k (f t) M → g t ρ M fun ρ1 M1 => te ρ1 M1 k noE) → Q (acc ++ ts.map f) M → compL g tYes2 te ρ Q ts acc M
  | [], acc, _, q => by
    unfold compL
    simpa using q
  | t :: ts, acc, h, q => by
    unfold compL
    have h1 := h t List.mem_cons_self (fun y M3 => compL g tYes2 te ρ Q ts (acc ++ [y]) M3) (compL_map f ts (acc ++ [f t]) (fun u hu => h u (List.mem_cons_of_mem _ hu)) (by simpa using q))
    have e : (fun ρ1 M1 => tYes2 ρ1 M1 (fun b M2 => Br b (te ρ1 M2 (fun y M3 => compL g tYes2 te ρ Q ts (acc ++ [y]) M3) noE) (compL g tYes2 te ρ Q ts acc M2)) noE) = fun ρ1 M1 => te ρ1 M1 (fun y M3 => compL g tYes2 te ρ Q ts (acc ++ [y]) M3) noE := by
      funext ρ1 M1
      show Br true (te ρ1 M1 (fun y M3 => compL g tYes2 te ρ Q ts (acc ++ [y]) M3) noE) _ = _
      exact propext (Br_iff.trans (by rw [if_pos rfl]))
    rw [e]
    exact h1
/-- with a test: the items that pass, as they are mapped -/
theorem compL_filter {g : TG2} {tt : TT2} {te : TE2} {ρ : St2} {Q : List T → Store → Prop} {M : Store} (b : T → Bool) (f : T → T) : ∀ (ts acc : List T),
    (∀ t ∈ ts, ∀ (k : K2) (k2 : Store → Prop), (b t = true → k (f t) M) → (b t = false → k2 M) → g t ρ M fun ρ1 M1 => tt ρ1 M1 (fun c M2 => Br c (te ρ1 M2 k noE) (k2 M2)) noE) → Q (acc ++ (ts.filter b).map f) M → compL g tt te ρ Q ts acc M
  | [], acc, _, q => by
    unfold compL
    simpa using q
  | t :: ts, acc, h, q => by
    unfold compL
    refine h t List.mem_cons_self (fun y M3 => compL g tt te ρ Q ts (acc ++ [y]) M3) (fun M2 => compL g tt te ρ Q ts acc M2) (fun e => ?_) (fun e => ?_)
    · refine compL_filter b f ts (acc ++ [f t]) (fun u hu => h u (List.mem_cons_of_mem _ hu)) ?_
      rw [List.filter_cons, if_pos e] at q
      simpa using q
    · refine compL_filter b f ts acc (fun u hu => h u (List.mem_cons_of_mem _ hu)) ?_
      rw [List.filter_cons, if_neg (by rw [e]; exact Bool.false_ne_true)] at q
      exact q
theorem rangeT_zero {lo : Int} : rangeT lo 0 = [] := rfl
theorem rangeT_succ {lo : Int} {n : Nat} : rangeT lo (n + 1) = .int lo :: rangeT (lo + 1) n := by
  unfold rangeT
  rw [List.range_succ_eq_map, List.map_cons, List.map_map]
  congr 1
  · simp
  · refine List.map_congr_left fun i _ => ?_
    show T.int (lo + ((i + 1 : Nat) : Int)) = T.int (lo + 1 + (i : Nat))
    congr 1
    omega
theorem rangeT_len {lo : Int} {n : Nat} : (rangeT lo n).length = n := by unfold rangeT; simp
theorem rangeT_mem {lo : Int} {n : Nat} {t : T} (h : t ∈ rangeT lo n) : ∃ i : Nat, i < n ∧ t = .int (lo + (i : Nat)) := by
  obtain ⟨i, hi, rfl⟩ := List.mem_map.mp h
  exact ⟨i, List.mem_range.mp hi, rfl⟩
/-- items that are not told but by P -/
theorem compL_any {g : TG2} {te : TE2} {ρ : St2} {Q : List T → Store → Prop} {M : Store} (P : T → Prop) : ∀ (ts acc : List T), (∀ t ∈ ts, ∀ k : K2, (∀ y, P y → k y M) → g t ρ M fun ρ1 M1 => te ρ1 M1 k noE) → (∀ ys : List T, ys.length = ts.length → (∀ y ∈ ys, P y) → Q (acc ++ ys) M) → compL g tYes2 te ρ Q ts acc M
  | [], acc, _, q => by
    unfold compL
    have := q [] rfl (fun y hy => by cases hy)
    simpa using this
  | t :: ts, acc, h, q => by
    unfold compL
    have h1 := h t List.mem_cons_self (fun y M3 => compL g tYes2 te ρ Q ts (acc ++ [y]) M3) fun y hy => compL_any P ts (acc ++ [y]) (fun u hu => h u (List.mem_cons_of_mem _ hu)) fun ys hl hp => by
      have := q (y :: ys) (by rw [List.length_cons, List.length_cons, hl]) fun z hz => by
        rcases List.mem_cons.mp hz with rfl | hz
        · exact hy
        · exact hp z hz
      simpa using this
    have e : (fun ρ1 M1 => tYes2 ρ1 M1 (fun b M2 => Br b (te ρ1 M2 (fun y M3 => compL g tYes2 te ρ Q ts (acc ++ [y]) M3) noE) (compL g tYes2 te ρ Q ts acc M2)) noE) = fun ρ1 M1 => te ρ1 M1 (fun y M3 => compL g tYes2 te ρ Q ts (acc ++ [y]) M3) noE := by
      funext ρ1 M1
      show Br true (te ρ1 M1 (fun y M3 => compL g tYes2 te ρ Q ts (acc ++ [y]) M3) noE) _ = _
      exact propext (Br_iff.trans (by rw [if_pos rfl]))
    rw [e]
    exact h1
theorem eqTs_ints : ∀ (r s : List Int), eqTs (r.map T.int) (s.map T.int) = decide (r = s)
  | [], [] => rfl
  | [], _ :: _ => rfl
  | _ :: _, [] => rfl
  | a :: r, b :: s => by
    show (TL.eqT (.int a) (.int b) && eqTs (r.map T.int) (s.map T.int)) = _
    rw [eqTs_ints r s]
    show (decide (a = b) && decide (r = s)) = decide (a :: r = b :: s)
    by_cases h : a = b
    · subst h; simp
    · simp [h]
theorem okT_ints {n : Nat} (r : List Int) : okTs n (r.map T.int) = true := okTs_all fun t ht => by
  obtain ⟨m, _, rfl⟩ := List.mem_map.mp ht
  simp [okT]
theorem okT_itup {n : Nat} (r : List Int) : okT (n + 1) (.tup (r.map T.int)) = true := by
  simp only [okT]; exact okT_ints r
theorem eqS_itup {M : Store} {Q : K2} {r s : List Int} : eqS (.tup (r.map T.int)) (.tup (s.map T.int)) M Q ↔ Q (.bl (decide (r = s))) M := by
  unfold eqS
  have e : okEq (der M (.tup (r.map T.int))) (der M (.tup (s.map T.int))) = true := by
    have o1 : okT 60 (.tup (r.map T.int)) = true := okT_itup (n := 59) r
    have o2 : okT 60 (.tup (s.map T.int)) = true := okT_itup (n := 59) s
    show (okT 60 (.tup (r.map T.int)) && okT 60 (.tup (s.map T.int))) = true
    rw [o1, o2]; rfl
  have e2 : TL.eqT (der M (.tup (r.map T.int))) (der M (.tup (s.map T.int))) = decide (r = s) := by
    show TL.eqT (.tup _) (.tup _) = _
    simp only [TL.eqT]
    exact eqTs_ints r s
  rw [e, e2]
  simp
theorem neS_itup {M : Store} {Q : K2} {r s : List Int} : neS (.tup (r.map T.int)) (.tup (s.map T.int)) M Q ↔ Q (.bl (!decide (r = s))) M := by
  unfold neS
  have e : okEq (der M (.tup (r.map T.int))) (der M (.tup (s.map T.int))) = true := by
    have o1 : okT 60 (.tup (r.map T.int)) = true := okT_itup (n := 59) r
    have o2 : okT 60 (.tup (s.map T.int)) = true := okT_itup (n := 59) s
    show (okT 60 (.tup (r.map T.int)) && okT 60 (.tup (s.map T.int))) = true
    rw [o1, o2]; rfl
  have e2 : TL.eqT (der M (.tup (r.map T.int))) (der M (.tup (s.map T.int))) = decide (r = s) := by
    show TL.eqT (.tup _) (.tup _) = _
    simp only [TL.eqT]
    exact eqTs_ints r s
  rw [e, e2]
  simp
end TL

/-! TLr: what is seen of the opened program: defs, facts, names that stand for builtins. -/
namespace TL
open PySem PySem.Spec PyProof.Rows L2

def bltsB (bs : List (Str × String)) (K : PySem.W.Frag) : Bool := bs.all fun q => He.eqO (PySem.W.nsIn K mainGlobals q.1) (some (some (.builtin q.2)))
def obsG (n : Nat) (fa : List He.Fa) (fn : List He.DefD) (bs : List (Str × String)) (g : Addr → Option Obj) : Bool × He.AlD := (bltsB bs (He.frG g (He.asD g n)), He.obsD fa fn (He.frG g (He.asD g n)))
def hookG (n : Nat) (fa : List He.Fa) (fn : List He.DefD) (bs : List (Str × String)) : PySem.W.Hook where
  α := Bool × He.AlD
  obs := fun z => obsG n fa fn bs z.heap.get?
  val := fun _ => (true, He.valD fn)
  says := fun _ h => ∃ K : PySem.W.Frag, K.In h ∧ bltsB bs K = true ∧ He.SaysD fa fn K
  of := fun _ _ e => ⟨_, He.frG_in, congrArg (fun z : Bool × He.AlD => z.1) e, congrArg (fun z : Bool × He.AlD => z.2) e⟩
  keeps := fun _ _ _ ⟨K, hK, b, c⟩ k => ⟨K, PySem.W.Frag.In.keeps hK k, b, c⟩
theorem obsG_eq {n : Nat} {fa : List He.Fa} {fn : List He.DefD} {bs : List (Str × String)} {g : Addr → Option Obj} {z : Shared} (h : ∀ a, g a = z.heap.get? a) : obsG n fa fn bs g = (hookG n fa fn bs).obs z := by
  rw [funext h] <;> rfl
theorem blt_ok {bs : List (Str × String)} {K : PySem.W.Frag} {h : Heap} {mg : Str → Option Value} (X : K.In h) (G : h.Ns mainGlobals mg) (c : bltsB bs K = true) {q : Str × String} (hq : q ∈ bs) : mg q.1 = some (.builtin q.2) :=
  PySem.W.mg_of X G (He.eqO_ok (List.all_eq_true.mp c q hq))
theorem fact_of {fa : List He.Fa} {fn : List He.DefD} {K : PySem.W.Frag} (c : He.SaysD fa fn K) {f : He.Fa} (hf : f ∈ fa) : f.ok K = true := by
  obtain ⟨i, hi⟩ := List.mem_iff_getElem?.mp hf
  exact c.fact i hi
end TL

/-! M83: runs of steps, slopes, bounds, quotients: plain whole numbers. -/
namespace M83
abbrev P2 := Int × Int
/-- the slope of runs; true: the first run steps up -/
def vS : Bool → List Int → P2
  | _, [] => (1, 1)
  | true, m :: r => ((vS false r).1 + m * (vS false r).2, (vS false r).2)
  | false, m :: r => ((vS true r).1, (vS true r).2 + m * (vS true r).1)
def Tl (r : List Int) : Prop := ∀ m ∈ r, 1 ≤ m
/-- runs that steps_in may give -/
def Ru : List Int → Prop
  | [] => True
  | m :: r => 0 ≤ m ∧ Tl r ∧ (m = 0 → r ≠ [])
theorem Tl.cons {m : Int} {r : List Int} (h : Tl (m :: r)) : 1 ≤ m ∧ Tl r := ⟨h m List.mem_cons_self, fun k hk => h k (List.mem_cons_of_mem _ hk)⟩
theorem Tl.ru {r : List Int} (h : Tl r) : Ru r := by
  cases r with
  | nil => trivial
  | cons m r => exact ⟨by have := h.cons.1; omega, h.cons.2, fun z => by have := h.cons.1; omega⟩
def Nn (r : List Int) : Prop := ∀ m ∈ r, 0 ≤ m
theorem Tl.nn {r : List Int} (h : Tl r) : Nn r := fun m hm => by have := h m hm; omega
theorem Ru.nn {r : List Int} (h : Ru r) : Nn r := by
  cases r with
  | nil => intro m hm; cases hm
  | cons m r =>
    intro k hk
    rcases List.mem_cons.mp hk with rfl | hk
    · exact h.1
    · exact h.2.1.nn k hk
theorem Nn.cons {m : Int} {r : List Int} (h : Nn (m :: r)) : 0 ≤ m ∧ Nn r := ⟨h m List.mem_cons_self, fun k hk => h k (List.mem_cons_of_mem _ hk)⟩
theorem vS_pos : ∀ (r : List Int) (e : Bool), Nn r → 1 ≤ (vS e r).1 ∧ 1 ≤ (vS e r).2
  | [], _, _ => ⟨Int.le_refl _, Int.le_refl _⟩
  | m :: r, true, h => by
    obtain ⟨a, b⟩ := vS_pos r false h.cons.2
    refine ⟨?_, b⟩
    show 1 ≤ (vS false r).1 + m * (vS false r).2
    have := Int.mul_nonneg h.cons.1 (by omega : 0 ≤ (vS false r).2)
    omega
  | m :: r, false, h => by
    obtain ⟨a, b⟩ := vS_pos r true h.cons.2
    refine ⟨a, ?_⟩
    show 1 ≤ (vS true r).2 + m * (vS true r).1
    have := Int.mul_nonneg h.cons.1 (by omega : 0 ≤ (vS true r).1)
    omega
theorem one_le_mul {a b : Int} (ha : 1 ≤ a) (hb : 0 ≤ b) : b ≤ a * b := by
  have : 1 * b ≤ a * b := Int.mul_le_mul_of_nonneg_right ha hb
  omega
/-- the side that the first run lies on is the greater one -/
theorem vS_ord : ∀ (r : List Int), Tl r → (vS true r).2 ≤ (vS true r).1 ∧ (vS false r).1 ≤ (vS false r).2 ∧ (r ≠ [] → (vS true r).2 < (vS true r).1 ∧ (vS false r).1 < (vS false r).2)
  | [], _ => ⟨Int.le_refl _, Int.le_refl _, fun z => absurd rfl z⟩
  | m :: r, h => by
    obtain ⟨a, b⟩ := vS_pos r false h.cons.2.nn
    obtain ⟨c, d⟩ := vS_pos r true h.cons.2.nn
    have h1 := one_le_mul h.cons.1 (by omega : 0 ≤ (vS false r).2)
    have h2 := one_le_mul h.cons.1 (by omega : 0 ≤ (vS true r).1)
    have e1 : (vS true (m :: r)) = ((vS false r).1 + m * (vS false r).2, (vS false r).2) := rfl
    have e2 : (vS false (m :: r)) = ((vS true r).1, (vS true r).2 + m * (vS true r).1) := rfl
    rw [e1, e2]
    dsimp only
    refine ⟨by omega, by omega, fun _ => ⟨by omega, by omega⟩⟩
theorem gcd_add_mul (a b m : Int) : Int.gcd (a + m * b) b = Int.gcd a b := by
  rw [Int.mul_comm m b]
  exact Int.gcd_add_mul_left_left b a m
theorem vS_gcd : ∀ (r : List Int) (e : Bool), Int.gcd (vS e r).1 (vS e r).2 = 1
  | [], e => by cases e <;> rfl
  | m :: r, true => by
    show Int.gcd ((vS false r).1 + m * (vS false r).2) (vS false r).2 = 1
    rw [gcd_add_mul]; exact vS_gcd r false
  | m :: r, false => by
    show Int.gcd (vS true r).1 ((vS true r).2 + m * (vS true r).1) = 1
    rw [Int.gcd_comm, gcd_add_mul, Int.gcd_comm]; exact vS_gcd r true
/-- one turn of steps_in, upward: the run comes back -/
theorem step_up {m : Int} {r : List Int} (h : Tl r) : ((vS true (m :: r)).1 - 1) / (vS true (m :: r)).2 = m ∧ (vS true (m :: r)).1 - m * (vS true (m :: r)).2 = (vS false r).1 := by
  obtain ⟨a, b⟩ := vS_pos r false h.nn
  have o := (vS_ord r h).2.1
  show ((vS false r).1 + m * (vS false r).2 - 1) / (vS false r).2 = m ∧ (vS false r).1 + m * (vS false r).2 - m * (vS false r).2 = (vS false r).1
  refine ⟨?_, by omega⟩
  rw [show (vS false r).1 + m * (vS false r).2 - 1 = ((vS false r).1 - 1) + m * (vS false r).2 by omega, Int.add_mul_ediv_right _ _ (by omega), Int.ediv_eq_zero_of_lt (by omega) (by omega)]
  omega
theorem step_dn {m : Int} {r : List Int} (h : Tl r) : ((vS false (m :: r)).2 - 1) / (vS false (m :: r)).1 = m ∧ (vS false (m :: r)).2 - m * (vS false (m :: r)).1 = (vS true r).2 := by
  obtain ⟨a, b⟩ := vS_pos r true h.nn
  have o := (vS_ord r h).1
  show ((vS true r).2 + m * (vS true r).1 - 1) / (vS true r).1 = m ∧ (vS true r).2 + m * (vS true r).1 - m * (vS true r).1 = (vS true r).2
  refine ⟨?_, by omega⟩
  rw [show (vS true r).2 + m * (vS true r).1 - 1 = ((vS true r).2 - 1) + m * (vS true r).1 by omega, Int.add_mul_ediv_right _ _ (by omega), Int.ediv_eq_zero_of_lt (by omega) (by omega)]
  omega
/-- the end of the steps is (1, 1) alone -/
theorem vS_ne {r : List Int} (h : Ru r) (hr : r ≠ []) : (vS true r).1 ≠ (vS true r).2 := by
  cases r with
  | nil => exact absurd rfl hr
  | cons m r =>
    obtain ⟨h0, h1, h2⟩ := h
    obtain ⟨a, b⟩ := vS_pos r false h1.nn
    have e1 : (vS true (m :: r)) = ((vS false r).1 + m * (vS false r).2, (vS false r).2) := rfl
    rw [e1]
    dsimp only
    by_cases hm : m = 0
    · have := ((vS_ord r h1).2.2 (h2 hm)).2
      rw [hm]
      omega
    · have := one_le_mul (by omega : 1 ≤ m) (by omega : 0 ≤ (vS false r).2)
      omega
theorem vS_ne' {r : List Int} (h : Tl r) (hr : r ≠ []) (e : Bool) : (vS e r).1 ≠ (vS e r).2 := by
  have := (vS_ord r h).2.2 hr
  cases e <;> omega

/-! ### bounds -/
def bnd : Bool → P2 → P2 → List Int → P2 × P2
  | _, l, h, [] => (l, h)
  | true, l, h, m :: r => bnd false (l.1 + m * h.1, l.2 + m * h.2) h r
  | false, l, h, m :: r => bnd true l (h.1 + m * l.1, h.2 + m * l.2) r
theorem bnd_mid : ∀ (r : List Int) (e : Bool) (l h : P2), (bnd e l h r).1.1 + (bnd e l h r).2.1 = (vS e r).1 * h.1 + (vS e r).2 * l.1 ∧ (bnd e l h r).1.2 + (bnd e l h r).2.2 = (vS e r).1 * h.2 + (vS e r).2 * l.2
  | [], e, l, h => by
    show l.1 + h.1 = 1 * h.1 + 1 * l.1 ∧ l.2 + h.2 = 1 * h.2 + 1 * l.2
    omega
  | m :: r, true, l, h => by
    obtain ⟨a, b⟩ := bnd_mid r false (l.1 + m * h.1, l.2 + m * h.2) h
    refine ⟨a.trans ?_, b.trans ?_⟩
    · show (vS false r).1 * h.1 + (vS false r).2 * (l.1 + m * h.1) = ((vS false r).1 + m * (vS false r).2) * h.1 + (vS false r).2 * l.1
      rw [Int.mul_add, Int.add_mul, Int.mul_comm m (vS false r).2, Int.mul_assoc]
      omega
    · show (vS false r).1 * h.2 + (vS false r).2 * (l.2 + m * h.2) = ((vS false r).1 + m * (vS false r).2) * h.2 + (vS false r).2 * l.2
      rw [Int.mul_add, Int.add_mul, Int.mul_comm m (vS false r).2, Int.mul_assoc]
      omega
  | m :: r, false, l, h => by
    obtain ⟨a, b⟩ := bnd_mid r true l (h.1 + m * l.1, h.2 + m * l.2)
    refine ⟨a.trans ?_, b.trans ?_⟩
    · show (vS true r).1 * (h.1 + m * l.1) + (vS true r).2 * l.1 = (vS true r).1 * h.1 + ((vS true r).2 + m * (vS true r).1) * l.1
      rw [Int.mul_add, Int.add_mul, Int.mul_comm m (vS true r).1, Int.mul_assoc]
      omega
    · show (vS true r).1 * (h.2 + m * l.2) + (vS true r).2 * l.2 = (vS true r).1 * h.2 + ((vS true r).2 + m * (vS true r).1) * l.2
      rw [Int.mul_add, Int.add_mul, Int.mul_comm m (vS true r).1, Int.mul_assoc]
      omega
def L0 : P2 := (0, 1)
def H0 : P2 := (1, 0)
theorem mid0 (r : List Int) : (bnd true L0 H0 r).1.1 + (bnd true L0 H0 r).2.1 = (vS true r).1 ∧ (bnd true L0 H0 r).1.2 + (bnd true L0 H0 r).2.2 = (vS true r).2 := by
  obtain ⟨a, b⟩ := bnd_mid r true L0 H0
  rw [a, b]
  simp [L0, H0]
theorem bnd_det : ∀ (r : List Int) (e : Bool) (l h : P2), (bnd e l h r).2.1 * (bnd e l h r).1.2 - (bnd e l h r).1.1 * (bnd e l h r).2.2 = h.1 * l.2 - l.1 * h.2
  | [], e, l, h => rfl
  | m :: r, true, l, h => by
    refine (bnd_det r false (l.1 + m * h.1, l.2 + m * h.2) h).trans ?_
    show h.1 * (l.2 + m * h.2) - (l.1 + m * h.1) * h.2 = _
    rw [Int.mul_add, Int.add_mul, show h.1 * (m * h.2) = m * h.1 * h.2 by rw [← Int.mul_assoc, Int.mul_comm h.1 m]]
    omega
  | m :: r, false, l, h => by
    refine (bnd_det r true l (h.1 + m * l.1, h.2 + m * l.2)).trans ?_
    show (h.1 + m * l.1) * l.2 - l.1 * (h.2 + m * l.2) = _
    rw [Int.mul_add, Int.add_mul, show l.1 * (m * l.2) = m * l.1 * l.2 by rw [← Int.mul_assoc, Int.mul_comm l.1 m]]
    omega
theorem det0 (r : List Int) : (bnd true L0 H0 r).2.1 * (bnd true L0 H0 r).1.2 - (bnd true L0 H0 r).1.1 * (bnd true L0 H0 r).2.2 = 1 := (bnd_det r true L0 H0).trans (by decide)
/-- runs behind one another -/
def flip : Nat → Bool → Bool
  | 0, e => e
  | n + 1, e => flip n (!e)
theorem bnd_app : ∀ (r s : List Int) (e : Bool) (l h : P2), bnd e l h (r ++ s) = bnd (flip r.length e) (bnd e l h r).1 (bnd e l h r).2 s
  | [], s, e, l, h => rfl
  | m :: r, s, true, l, h => bnd_app r s false _ _
  | m :: r, s, false, l, h => bnd_app r s true _ _
end M83

/-! M83b: quotients, convergents; letters; order. -/
namespace M83

/-! ### sizes -/
def fb : Nat → Int
  | 0 => 0
  | 1 => 1
  | n + 2 => fb n + fb (n + 1)
theorem fb_nn : ∀ n, 0 ≤ fb n ∧ 0 ≤ fb (n + 1)
  | 0 => by decide
  | n + 1 => by
    obtain ⟨a, b⟩ := fb_nn n
    refine ⟨b, ?_⟩
    show 0 ≤ fb n + fb (n + 1)
    omega
theorem fb_mono : ∀ n, fb n ≤ fb (n + 1)
  | 0 => by decide
  | n + 1 => by
    show fb (n + 1) ≤ fb n + fb (n + 1)
    have := (fb_nn n).1
    omega
theorem fb_le {i j : Nat} (h : i ≤ j) : fb i ≤ fb j := by
  induction h with
  | refl => exact Int.le_refl _
  | step _ ih => exact Int.le_trans ih (fb_mono _)
theorem vS_fb : ∀ (r : List Int), Tl r → fb (r.length + 2) ≤ (vS true r).1 ∧ fb (r.length + 1) ≤ (vS true r).2 ∧ fb (r.length + 1) ≤ (vS false r).1 ∧ fb (r.length + 2) ≤ (vS false r).2
  | [], _ => by decide
  | m :: r, h => by
    obtain ⟨a, b, c, d⟩ := vS_fb r h.cons.2
    obtain ⟨p1, p2⟩ := vS_pos r false h.cons.2.nn
    obtain ⟨p3, p4⟩ := vS_pos r true h.cons.2.nn
    have h1 := one_le_mul h.cons.1 (by omega : 0 ≤ (vS false r).2)
    have h2 := one_le_mul h.cons.1 (by omega : 0 ≤ (vS true r).1)
    have e1 : (vS true (m :: r)) = ((vS false r).1 + m * (vS false r).2, (vS false r).2) := rfl
    have e2 : (vS false (m :: r)) = ((vS true r).1, (vS true r).2 + m * (vS true r).1) := rfl
    rw [e1, e2, List.length_cons]
    dsimp only
    have e3 : fb (r.length + 1 + 2) = fb (r.length + 1) + fb (r.length + 1 + 1) := rfl
    have e4 : fb (r.length + 2) = fb (r.length + 1 + 1) := rfl
    rw [e4] at a d
    rw [e3]
    omega
theorem fb99 : (1000000000000000000 : Int) < fb 99 := by decide +kernel

theorem ru_len {r : List Int} (h : Ru r) (hb : (vS true r).2 ≤ 1000000000000000000) : r.length ≤ 98 := by
  cases r with
  | nil => simp
  | cons m r =>
    obtain ⟨_, _, _, d⟩ := vS_fb r h.2.1
    have e : (vS true (m :: r)).2 = (vS false r).2 := rfl
    rw [e] at hb
    by_cases hl : r.length ≤ 97
    · rw [List.length_cons]; omega
    · have h1 : fb 99 ≤ fb (r.length + 2) := fb_le (by omega)
      have := fb99
      omega
theorem el_le {B : Int} : ∀ (r : List Int) (e : Bool), Nn r → (vS e r).1 ≤ B → (vS e r).2 ≤ B → ∀ m ∈ r, m ≤ B
  | [], _, _, _, _, m, hm => by cases hm
  | k :: r, true, h, h1, h2, m, hm => by
    obtain ⟨a, b⟩ := vS_pos r false h.cons.2
    have e1 : (vS true (k :: r)) = ((vS false r).1 + k * (vS false r).2, (vS false r).2) := rfl
    rw [e1] at h1 h2
    dsimp only at h1 h2
    have h3 : k * 1 ≤ k * (vS false r).2 := Int.mul_le_mul_of_nonneg_left b h.cons.1
    have h4 := Int.mul_nonneg h.cons.1 (by omega : 0 ≤ (vS false r).2)
    rcases List.mem_cons.mp hm with rfl | hm
    · omega
    · exact el_le r false h.cons.2 (by omega) h2 m hm
  | k :: r, false, h, h1, h2, m, hm => by
    obtain ⟨a, b⟩ := vS_pos r true h.cons.2
    have e1 : (vS false (k :: r)) = ((vS true r).1, (vS true r).2 + k * (vS true r).1) := rfl
    rw [e1] at h1 h2
    dsimp only at h1 h2
    have h3 : k * 1 ≤ k * (vS true r).1 := Int.mul_le_mul_of_nonneg_left a h.cons.1
    have h4 := Int.mul_nonneg h.cons.1 (by omega : 0 ≤ (vS true r).1)
    rcases List.mem_cons.mp hm with rfl | hm
    · omega
    · exact el_le r true h.cons.2 h1 (by omega) m hm
theorem vS_le : ∀ (r : List Int) (e : Bool), Nn r → (∀ m ∈ r, m ≤ 7) → (vS e r).1 ≤ 8 ^ r.length ∧ (vS e r).2 ≤ 8 ^ r.length
  | [], e, _, _ => by cases e <;> decide
  | k :: r, true, h, h7 => by
    obtain ⟨a, b⟩ := vS_le r false h.cons.2 fun m hm => h7 m (List.mem_cons_of_mem _ hm)
    obtain ⟨c, d⟩ := vS_pos r false h.cons.2
    have e1 : (vS true (k :: r)) = ((vS false r).1 + k * (vS false r).2, (vS false r).2) := rfl
    rw [e1, List.length_cons, Int.pow_succ]
    dsimp only
    have h1 : k * (vS false r).2 ≤ 7 * (vS false r).2 := Int.mul_le_mul_of_nonneg_right (h7 k List.mem_cons_self) (by omega)
    omega
  | k :: r, false, h, h7 => by
    obtain ⟨a, b⟩ := vS_le r true h.cons.2 fun m hm => h7 m (List.mem_cons_of_mem _ hm)
    obtain ⟨c, d⟩ := vS_pos r true h.cons.2
    have e1 : (vS false (k :: r)) = ((vS true r).1, (vS true r).2 + k * (vS true r).1) := rfl
    rw [e1, List.length_cons, Int.pow_succ]
    dsimp only
    have h1 : k * (vS true r).1 ≤ 7 * (vS true r).1 := Int.mul_le_mul_of_nonneg_right (h7 k List.mem_cons_self) (by omega)
    omega

/-! ### letters -/
def pth : Bool → List Int → List Bool
  | _, [] => []
  | e, m :: r => List.replicate m.toNat e ++ pth (!e) r
def lv : List Bool → P2
  | [] => (1, 1)
  | true :: p => ((lv p).1 + (lv p).2, (lv p).2)
  | false :: p => ((lv p).1, (lv p).1 + (lv p).2)
theorem lv_pos : ∀ p, 1 ≤ (lv p).1 ∧ 1 ≤ (lv p).2
  | [] => by decide
  | true :: p => by
    obtain ⟨a, b⟩ := lv_pos p
    exact ⟨by show 1 ≤ (lv p).1 + (lv p).2; omega, b⟩
  | false :: p => by
    obtain ⟨a, b⟩ := lv_pos p
    exact ⟨a, by show 1 ≤ (lv p).1 + (lv p).2; omega⟩
theorem lv_up (p : List Bool) : ∀ k : Nat, lv (List.replicate k true ++ p) = ((lv p).1 + (k : Int) * (lv p).2, (lv p).2)
  | 0 => by simp
  | k + 1 => by
    rw [List.replicate_succ, List.cons_append]
    show ((lv (List.replicate k true ++ p)).1 + (lv (List.replicate k true ++ p)).2, (lv (List.replicate k true ++ p)).2) = _
    rw [lv_up p k]
    dsimp only
    rw [show ((k + 1 : Nat) : Int) = (k : Int) + 1 by omega, Int.add_mul]
    congr 1
    omega
theorem lv_dn (p : List Bool) : ∀ k : Nat, lv (List.replicate k false ++ p) = ((lv p).1, (lv p).2 + (k : Int) * (lv p).1)
  | 0 => by simp
  | k + 1 => by
    rw [List.replicate_succ, List.cons_append]
    show ((lv (List.replicate k false ++ p)).1, (lv (List.replicate k false ++ p)).1 + (lv (List.replicate k false ++ p)).2) = _
    rw [lv_dn p k]
    dsimp only
    rw [show ((k + 1 : Nat) : Int) = (k : Int) + 1 by omega, Int.add_mul]
    congr 1
    omega
theorem vS_lv : ∀ (r : List Int) (e : Bool), Nn r → vS e r = lv (pth e r)
  | [], e, _ => by cases e <;> rfl
  | m :: r, true, h => by
    show ((vS false r).1 + m * (vS false r).2, (vS false r).2) = lv (List.replicate m.toNat true ++ pth false r)
    rw [lv_up, vS_lv r false h.cons.2, Int.toNat_of_nonneg h.cons.1]
  | m :: r, false, h => by
    show ((vS true r).1, (vS true r).2 + m * (vS true r).1) = lv (List.replicate m.toNat false ++ pth true r)
    rw [lv_dn, vS_lv r true h.cons.2, Int.toNat_of_nonneg h.cons.1]
/-- the bounds by letters -/
def lb : P2 → P2 → List Bool → P2 × P2
  | l, h, [] => (l, h)
  | l, h, true :: p => lb (l.1 + h.1, l.2 + h.2) h p
  | l, h, false :: p => lb l (h.1 + l.1, h.2 + l.2) p
theorem lb_mid : ∀ (p : List Bool) (l h : P2), (lb l h p).1.1 + (lb l h p).2.1 = (lv p).1 * h.1 + (lv p).2 * l.1 ∧ (lb l h p).1.2 + (lb l h p).2.2 = (lv p).1 * h.2 + (lv p).2 * l.2
  | [], l, h => by
    show l.1 + h.1 = 1 * h.1 + 1 * l.1 ∧ l.2 + h.2 = 1 * h.2 + 1 * l.2
    omega
  | true :: p, l, h => by
    obtain ⟨a, b⟩ := lb_mid p (l.1 + h.1, l.2 + h.2) h
    refine ⟨a.trans ?_, b.trans ?_⟩
    · show (lv p).1 * h.1 + (lv p).2 * (l.1 + h.1) = ((lv p).1 + (lv p).2) * h.1 + (lv p).2 * l.1
      rw [Int.mul_add, Int.add_mul]; omega
    · show (lv p).1 * h.2 + (lv p).2 * (l.2 + h.2) = ((lv p).1 + (lv p).2) * h.2 + (lv p).2 * l.2
      rw [Int.mul_add, Int.add_mul]; omega
  | false :: p, l, h => by
    obtain ⟨a, b⟩ := lb_mid p l (h.1 + l.1, h.2 + l.2)
    refine ⟨a.trans ?_, b.trans ?_⟩
    · show (lv p).1 * (h.1 + l.1) + (lv p).2 * l.1 = (lv p).1 * h.1 + ((lv p).1 + (lv p).2) * l.1
      rw [Int.mul_add, Int.add_mul]; omega
    · show (lv p).1 * (h.2 + l.2) + (lv p).2 * l.2 = (lv p).1 * h.2 + ((lv p).1 + (lv p).2) * l.2
      rw [Int.mul_add, Int.add_mul]; omega
theorem lb0 (p : List Bool) : (lb L0 H0 p).1.1 + (lb L0 H0 p).2.1 = (lv p).1 ∧ (lb L0 H0 p).1.2 + (lb L0 H0 p).2.2 = (lv p).2 := by
  obtain ⟨a, b⟩ := lb_mid p L0 H0
  rw [a, b]
  simp [L0, H0]

/-! ### what two paths share -/
def lcp : List Bool → List Bool → List Bool
  | a :: p, b :: q => if a = b then a :: lcp p q else []
  | _, _ => []
def mins : List Int → List Int → List Int
  | a :: r, b :: s => if a = b then a :: mins r s else [if b < a then b else a]
  | _, _ => []
theorem lcp_nil (p : List Bool) : lcp p [] = [] := by cases p <;> rfl
theorem lcp_comm : ∀ p q, lcp p q = lcp q p
  | [], q => by cases q <;> rfl
  | a :: p, [] => rfl
  | a :: p, b :: q => by
    unfold lcp
    by_cases h : a = b
    · subst h; rw [if_pos rfl, if_pos rfl, lcp_comm p q]
    · rw [if_neg h, if_neg (fun z => h z.symm)]
theorem lcp_rep (e : Bool) (p q : List Bool) : ∀ k : Nat, lcp (List.replicate k e ++ p) (List.replicate k e ++ q) = List.replicate k e ++ lcp p q
  | 0 => rfl
  | k + 1 => by
    rw [List.replicate_succ, List.cons_append, List.cons_append, List.cons_append]
    show (if e = e then e :: lcp _ _ else []) = _
    rw [if_pos rfl, lcp_rep e p q k]
/-- runs ahead: positive behind the first -/
def Hd : List Int → Prop
  | [] => True
  | m :: r => 0 ≤ m ∧ Tl r
theorem Ru.hd {r : List Int} (h : Ru r) : Hd r := by
  cases r with
  | nil => trivial
  | cons m r => exact ⟨h.1, h.2.1⟩
theorem Tl.hd {r : List Int} (h : Tl r) : Hd r := h.ru.hd
theorem lcp_turn {e : Bool} {r : List Int} (h : Tl r) (p : List Bool) : lcp (pth (!e) r) (e :: p) = [] := by
  cases r with
  | nil => rfl
  | cons m r =>
    have h1 := h.cons.1
    obtain ⟨k, hk⟩ : ∃ k, m.toNat = k + 1 := ⟨m.toNat - 1, by omega⟩
    show lcp (List.replicate m.toNat (!e) ++ _) _ = []
    rw [hk, List.replicate_succ, List.cons_append]
    show (if (!e) = e then _ else []) = []
    rw [if_neg (by cases e <;> decide)]
theorem lcp_less {e : Bool} {a b : Int} {r s : List Int} (ha : 0 ≤ a) (hab : a < b) (hr : Tl r) : lcp (pth e (a :: r)) (pth e (b :: s)) = pth e [a] := by
  show lcp (List.replicate a.toNat e ++ pth (!e) r) (List.replicate b.toNat e ++ pth (!e) s) = List.replicate a.toNat e ++ []
  obtain ⟨k, hk⟩ : ∃ k, b.toNat = a.toNat + (k + 1) := ⟨b.toNat - a.toNat - 1, by omega⟩
  rw [hk, ← List.replicate_append_replicate, List.append_assoc, lcp_rep, List.replicate_succ, List.cons_append, lcp_turn hr]
theorem lcp_pth : ∀ (r s : List Int) (e : Bool), Hd r → Hd s → lcp (pth e r) (pth e s) = pth e (mins r s)
  | [], s, e, _, _ => by
    show lcp [] _ = _
    cases s <;> (cases h : pth e _ <;> rfl)
  | a :: r, [], e, _, _ => by
    show lcp _ [] = []
    exact lcp_nil _
  | a :: r, b :: s, e, h1, h2 => by
    unfold mins
    by_cases h : a = b
    · subst h
      rw [if_pos rfl]
      show lcp (List.replicate a.toNat e ++ pth (!e) r) (List.replicate a.toNat e ++ pth (!e) s) = List.replicate a.toNat e ++ pth (!e) (mins r s)
      rw [lcp_rep, lcp_pth r s (!e) h1.2.hd h2.2.hd]
    · rw [if_neg h]
      by_cases hb : b < a
      · rw [if_pos hb, lcp_comm]
        exact lcp_less h2.1 hb h2.2
      · rw [if_neg hb]
        exact lcp_less h1.1 (by omega) h1.2
theorem mins_nn : ∀ (r s : List Int), Nn r → Nn s → Nn (mins r s)
  | [], _, _, _ => fun m hm => by cases hm
  | _ :: _, [], _, _ => fun m hm => by cases hm
  | a :: r, b :: s, h1, h2 => by
    unfold mins
    split
    · intro m hm
      rcases List.mem_cons.mp hm with rfl | hm
      · exact h1.cons.1
      · exact mins_nn r s h1.cons.2 h2.cons.2 m hm
    · intro m hm
      have e := List.mem_singleton.mp hm
      have := h1.cons.1
      have := h2.cons.1
      rw [e]
      split <;> assumption
theorem mins_comm : ∀ (r s : List Int), mins r s = mins s r
  | [], s => by cases s <;> rfl
  | a :: r, [] => rfl
  | a :: r, b :: s => by
    unfold mins
    by_cases h : a = b
    · subst h; rw [if_pos rfl, if_pos rfl, mins_comm r s]
    · rw [if_neg h, if_neg (fun z : b = a => h z.symm)]
      by_cases h2 : b < a
      · rw [if_pos h2, if_neg (by omega)]
      · rw [if_neg h2, if_pos (by omega)]
/-- the letter behind: down 0, none 1, up 2 -/
def code (p : List Bool) (k : Nat) : Int := match p[k]? with
  | none => 1
  | some true => 2
  | some false => 0
def cross (a b : P2) : Int := a.1 * b.2 - b.1 * a.2
theorem cross_up (a b : P2) : cross (a.1 + a.2, a.2) (b.1 + b.2, b.2) = cross a b := by
  unfold cross
  dsimp only
  rw [Int.add_mul, Int.add_mul, Int.mul_comm b.2 a.2]
  omega
theorem cross_dn (a b : P2) : cross (a.1, a.1 + a.2) (b.1, b.1 + b.2) = cross a b := by
  unfold cross
  dsimp only
  rw [Int.mul_add, Int.mul_add, Int.mul_comm b.1 a.1]
  omega
theorem order : ∀ (p q : List Bool), (code p (lcp p q).length < code q (lcp p q).length ↔ cross (lv p) (lv q) < 0) ∧ (code p (lcp p q).length = code q (lcp p q).length ↔ cross (lv p) (lv q) = 0)
  | [], [] => by decide
  | [], true :: q => by
    obtain ⟨a, b⟩ := lv_pos q
    have e : cross (lv []) (lv (true :: q)) = 1 * (lv q).2 - ((lv q).1 + (lv q).2) * 1 := rfl
    have c : code [] (lcp [] (true :: q)).length = 1 ∧ code (true :: q) (lcp [] (true :: q)).length = 2 := ⟨rfl, rfl⟩
    rw [e, c.1, c.2]
    omega
  | [], false :: q => by
    obtain ⟨a, b⟩ := lv_pos q
    have e : cross (lv []) (lv (false :: q)) = 1 * ((lv q).1 + (lv q).2) - (lv q).1 * 1 := rfl
    have c : code [] (lcp [] (false :: q)).length = 1 ∧ code (false :: q) (lcp [] (false :: q)).length = 0 := ⟨rfl, rfl⟩
    rw [e, c.1, c.2]
    omega
  | true :: p, [] => by
    obtain ⟨a, b⟩ := lv_pos p
    have e : cross (lv (true :: p)) (lv []) = ((lv p).1 + (lv p).2) * 1 - 1 * (lv p).2 := rfl
    have c : code [] (lcp (true :: p) []).length = 1 ∧ code (true :: p) (lcp (true :: p) []).length = 2 := ⟨rfl, rfl⟩
    rw [e, c.1, c.2]
    omega
  | false :: p, [] => by
    obtain ⟨a, b⟩ := lv_pos p
    have e : cross (lv (false :: p)) (lv []) = (lv p).1 * 1 - 1 * ((lv p).1 + (lv p).2) := rfl
    have c : code [] (lcp (false :: p) []).length = 1 ∧ code (false :: p) (lcp (false :: p) []).length = 0 := ⟨rfl, rfl⟩
    rw [e, c.1, c.2]
    omega
  | true :: p, true :: q => by
    have ih := order p q
    have e : cross (lv (true :: p)) (lv (true :: q)) = cross (lv p) (lv q) := cross_up _ _
    have l : lcp (true :: p) (true :: q) = true :: lcp p q := rfl
    rw [e, l]
    exact ih
  | false :: p, false :: q => by
    have ih := order p q
    have e : cross (lv (false :: p)) (lv (false :: q)) = cross (lv p) (lv q) := cross_dn _ _
    have l : lcp (false :: p) (false :: q) = false :: lcp p q := rfl
    rw [e, l]
    exact ih
  | true :: p, false :: q => by
    obtain ⟨a, b⟩ := lv_pos p
    obtain ⟨c, d⟩ := lv_pos q
    have e : cross (lv (true :: p)) (lv (false :: q)) = ((lv p).1 + (lv p).2) * ((lv q).1 + (lv q).2) - (lv q).1 * (lv p).2 := rfl
    have k : code (true :: p) (lcp (true :: p) (false :: q)).length = 2 ∧ code (false :: q) (lcp (true :: p) (false :: q)).length = 0 := ⟨rfl, rfl⟩
    rw [e, k.1, k.2, Int.add_mul, Int.mul_add, Int.mul_add, Int.mul_comm (lv q).1 (lv p).2]
    have h1 := Int.mul_pos (by omega : 0 < (lv p).1) (by omega : 0 < (lv q).1)
    have h2 := Int.mul_pos (by omega : 0 < (lv p).1) (by omega : 0 < (lv q).2)
    have h3 := Int.mul_pos (by omega : 0 < (lv p).2) (by omega : 0 < (lv q).2)
    omega
  | false :: p, true :: q => by
    obtain ⟨a, b⟩ := lv_pos p
    obtain ⟨c, d⟩ := lv_pos q
    have e : cross (lv (false :: p)) (lv (true :: q)) = (lv p).1 * (lv q).2 - ((lv q).1 + (lv q).2) * ((lv p).1 + (lv p).2) := rfl
    have k : code (false :: p) (lcp (false :: p) (true :: q)).length = 0 ∧ code (true :: q) (lcp (false :: p) (true :: q)).length = 2 := ⟨rfl, rfl⟩
    rw [e, k.1, k.2, Int.add_mul, Int.mul_add, Int.mul_add, Int.mul_comm (lv q).2 (lv p).1]
    have h1 := Int.mul_pos (by omega : 0 < (lv q).1) (by omega : 0 < (lv p).1)
    have h2 := Int.mul_pos (by omega : 0 < (lv q).1) (by omega : 0 < (lv p).2)
    have h3 := Int.mul_pos (by omega : 0 < (lv q).2) (by omega : 0 < (lv p).2)
    omega
end M83

/-! M83c: quotients, convergents; the next one down. -/
namespace M83

/-! ### quotients -/
def cf (a b : Int) : List Int := if h : b ≤ 0 then [] else (a / b) :: cf b (a % b)
termination_by b.toNat
decreasing_by
  have h1 := Int.emod_nonneg a (by omega : b ≠ 0)
  have h2 := Int.emod_lt_of_pos a (by omega : 0 < b)
  omega
theorem cf_zero {a b : Int} (h : b ≤ 0) : cf a b = [] := by unfold cf; rw [dif_pos h]
theorem cf_pos {a b : Int} (h : 0 < b) : cf a b = (a / b) :: cf b (a % b) := by rw [cf, dif_neg (by omega)]
/-- the quotients' value, from behind -/
def cv : List Int → P2
  | [] => (1, 0)
  | q :: r => (q * (cv r).1 + (cv r).2, (cv r).1)
/-- the runs by the quotients -/
def dec : List Int → List Int
  | [] => []
  | [q] => if 1 < q then [q - 1] else []
  | q :: p :: r => q :: dec (p :: r)
theorem gcd_emod {a b : Int} (hb : 0 < b) : Int.gcd b (a % b) = Int.gcd a b := by
  rw [Int.gcd_comm, Int.emod_def, show a - b * (a / b) = a + (-(a / b)) * b by rw [Int.neg_mul, Int.mul_comm]; omega, gcd_add_mul]
theorem vS_swap : ∀ (r : List Int), vS false r = ((vS true r).2, (vS true r).1)
  | [] => rfl
  | m :: r => by
    show ((vS true r).1, (vS true r).2 + m * (vS true r).1) = ((vS false r).2, (vS false r).1 + m * (vS false r).2)
    rw [vS_swap r]
theorem cf_ne {a b : Int} (h : 0 < b) : cf a b ≠ [] := by rw [cf_pos h]; exact List.cons_ne_nil _ _
theorem dec_cons {q : Int} {r : List Int} (h : r ≠ []) : dec (q :: r) = q :: dec r := by
  cases r with
  | nil => exact absurd rfl h
  | cons p r => rfl
theorem gcd_one {a b : Int} (hb : 0 < b) (g : Int.gcd a b = 1) (h : a % b = 0) : b = 1 := by
  rw [← gcd_emod hb, h, Int.gcd_zero_right] at g
  omega
/-- b > c: the quotients of b, c -/
theorem dec_cf : ∀ (n : Nat) (a b : Int), b.toNat ≤ n → 0 < b → b < a → Int.gcd a b = 1 → vS true (dec (cf a b)) = (a, b) ∧ Tl (dec (cf a b)) ∧ dec (cf a b) ≠ [] ∧ Tl (cf a b) ∧ ∃ q, (cf a b).getLast? = some q ∧ 2 ≤ q
  | 0, a, b, hn, hb, _, _ => by omega
  | n + 1, a, b, hn, hb, hab, g => by
    have m0 := Int.emod_nonneg a (by omega : b ≠ 0)
    have m1 := Int.emod_lt_of_pos a hb
    have dv : b * (a / b) + a % b = a := Int.mul_ediv_add_emod a b
    rw [cf_pos hb]
    by_cases hc : a % b = 0
    · have h1 := gcd_one hb g hc
      subst h1
      rw [hc, cf_zero (Int.le_refl _), Int.ediv_one]
      have e : dec [a] = [a - 1] := by show (if 1 < a then [a - 1] else []) = _; rw [if_pos hab]
      rw [e]
      refine ⟨?_, fun m hm => ?_, List.cons_ne_nil _ _, fun m hm => ?_, a, rfl, by omega⟩
      · show ((1 : Int) + (a - 1) * 1, (1 : Int)) = (a, 1)
        congr 1
        omega
      · have := List.mem_singleton.mp hm; omega
      · have := List.mem_singleton.mp hm; omega
    · have g2 : Int.gcd b (a % b) = 1 := by rw [gcd_emod hb]; exact g
      obtain ⟨i1, i2, i3, i4, q, i5, i6⟩ := dec_cf n b (a % b) (by omega) (by omega) m1 g2
      have ne : cf b (a % b) ≠ [] := cf_ne (by omega)
      have q1 : 1 ≤ a / b := by
        rw [Int.le_ediv_iff_mul_le hb]; omega
      rw [dec_cons ne]
      refine ⟨?_, fun m hm => ?_, List.cons_ne_nil _ _, fun m hm => ?_, q, ?_, i6⟩
      · show ((vS false (dec (cf b (a % b)))).1 + a / b * (vS false (dec (cf b (a % b)))).2, (vS false (dec (cf b (a % b)))).2) = (a, b)
        rw [vS_swap, i1]
        dsimp only
        congr 1
        rw [Int.mul_comm]
        omega
      · rcases List.mem_cons.mp hm with rfl | hm
        · exact q1
        · exact i2 m hm
      · rcases List.mem_cons.mp hm with rfl | hm
        · exact q1
        · exact i4 m hm
      · rw [List.getLast?_cons, i5]; rfl
/-- for all -/
theorem cf_all {a b : Int} (ha : 1 ≤ a) (hb : 1 ≤ b) (g : Int.gcd a b = 1) : vS true (dec (cf a b)) = (a, b) ∧ Ru (dec (cf a b)) ∧ (∃ q r, cf a b = q :: r ∧ 0 ≤ q ∧ Tl r) ∧ ((cf a b) = [1] ∨ ∃ q, (cf a b).getLast? = some q ∧ 2 ≤ q) := by
  by_cases h1 : b < a
  · obtain ⟨i1, i2, i3, i4, q, i5, i6⟩ := dec_cf b.toNat a b (Nat.le_refl _) (by omega) h1 g
    refine ⟨i1, i2.ru, ?_, .inr ⟨q, i5, i6⟩⟩
    cases e : cf a b with
    | nil => exact absurd e (cf_ne (by omega))
    | cons q r =>
      rw [e] at i4
      exact ⟨q, r, rfl, by have := i4.cons.1; omega, i4.cons.2⟩
  · by_cases h2 : a = b
    · subst h2
      have : a = 1 := by rw [Int.gcd_self] at g; omega
      subst this
      have e : cf 1 1 = [1] := by
        rw [cf_pos (by decide), cf_zero (by decide)]; rfl
      rw [e]
      exact ⟨rfl, trivial, ⟨1, [], rfl, by decide, fun m hm => by cases hm⟩, .inl rfl⟩
    · have hm : a % b = a := Int.emod_eq_of_lt (by omega) (by omega)
      have hq : a / b = 0 := Int.ediv_eq_zero_of_lt (by omega) (by omega)
      have g2 : Int.gcd b a = 1 := by rw [Int.gcd_comm]; exact g
      obtain ⟨i1, i2, i3, i4, q, i5, i6⟩ := dec_cf a.toNat b a (Nat.le_refl _) (by omega) (by omega) g2
      have ne : cf b a ≠ [] := cf_ne (by omega)
      rw [cf_pos (by omega : 0 < b), hm, hq, dec_cons ne]
      refine ⟨?_, ⟨by decide, i2, fun _ => i3⟩, ⟨0, _, rfl, by decide, i4⟩, .inr ⟨q, ?_, i6⟩⟩
      · show ((vS false (dec (cf b a))).1 + 0 * (vS false (dec (cf b a))).2, (vS false (dec (cf b a))).2) = (a, b)
        rw [vS_swap, i1]
        dsimp only
        congr 1
        omega
      · rw [List.getLast?_cons, i5]; rfl
theorem cv_cf : ∀ (n : Nat) (a b : Int), b.toNat ≤ n → 0 ≤ a → 0 ≤ b → cv (cf a b) = (a / (Int.gcd a b : Nat), b / (Int.gcd a b : Nat)) ∨ (a = 0 ∧ b = 0)
  | n, a, b, hn, ha, hb => by
    by_cases h : b = 0
    · subst h
      by_cases h0 : a = 0
      · exact .inr ⟨h0, rfl⟩
      · left
        rw [cf_zero (Int.le_refl _), Int.gcd_zero_right, Int.zero_ediv, Int.natAbs_of_nonneg ha, Int.ediv_self h0]
        rfl
    · match n with
      | 0 => omega
      | n + 1 =>
        left
        have m0 := Int.emod_nonneg a h
        have m1 := Int.emod_lt_of_pos a (by omega : 0 < b)
        have dv : b * (a / b) + a % b = a := Int.mul_ediv_add_emod a b
        rw [cf_pos (by omega)]
        rcases cv_cf n b (a % b) (by omega) hb m0 with ih | ⟨z, _⟩
        · show (a / b * (cv (cf b (a % b))).1 + (cv (cf b (a % b))).2, (cv (cf b (a % b))).1) = _
          rw [ih, gcd_emod (by omega)]
          dsimp only
          congr 1
          have d1 : ((Int.gcd a b : Nat) : Int) ∣ b := Int.gcd_dvd_right ..
          have d2 : ((Int.gcd a b : Nat) : Int) ∣ a := Int.gcd_dvd_left ..
          have d3 : ((Int.gcd a b : Nat) : Int) ∣ a % b := by
            rw [Int.emod_def]; exact Int.dvd_sub d2 (Int.dvd_trans d1 (Int.dvd_mul_right _ _))
          obtain ⟨x, hx⟩ := d1
          obtain ⟨y, hy⟩ := d3
          have gp : ((Int.gcd a b : Nat) : Int) ≠ 0 := by
            have := Int.gcd_pos_of_ne_zero_right a h
            omega
          have e1 : b / (Int.gcd a b : Nat) = x := Int.ediv_eq_of_eq_mul_right gp hx
          have e2 : a % b / (Int.gcd a b : Nat) = y := Int.ediv_eq_of_eq_mul_right gp hy
          rw [e1, e2]
          have e3 : a = ((Int.gcd a b : Nat) : Int) * (a / b * x + y) := by
            rw [Int.mul_add, ← hy, ← Int.mul_assoc, Int.mul_comm _ (a / b), Int.mul_assoc, ← hx, Int.mul_comm (a / b) b]
            exact dv.symm
          have e4 : a / (Int.gcd a b : Nat) = a / b * x + y := by
            exact Int.ediv_eq_of_eq_mul_right gp e3
          rw [e4]
        · omega
theorem cv_one {a b : Int} (ha : 1 ≤ a) (hb : 1 ≤ b) (g : Int.gcd a b = 1) : cv (cf a b) = (a, b) := by
  rcases cv_cf b.toNat a b (Nat.le_refl _) (by omega) (by omega) with h | ⟨z, _⟩
  · rw [h, g]
    simp
  · omega
/-! ### convergents -/
theorem cv_mono : ∀ (r : List Int) (k : Nat), Tl r → k < r.length → 0 ≤ (cv (r.take k)).1 ∧ 0 ≤ (cv (r.take k)).2 ∧ 1 ≤ (cv (r.take (k + 1))).1 ∧ (cv (r.take k)).1 ≤ (cv (r.take (k + 1))).1 ∧ (cv (r.take k)).2 ≤ (cv (r.take (k + 1))).2
  | [], k, _, h => by simp at h
  | q :: r, 0, h, _ => by
    have e : cv ((q :: r).take (0 + 1)) = (q * 1 + 0, 1) := by simp [cv]
    rw [e]
    have := h.cons.1
    show 0 ≤ (1 : Int) ∧ 0 ≤ (0 : Int) ∧ _
    dsimp only
    show _ ∧ _ ∧ _ ∧ (1 : Int) ≤ _ ∧ (0 : Int) ≤ _
    omega
  | q :: r, k + 1, h, hk => by
    obtain ⟨a, b, c, d, e⟩ := cv_mono r k h.cons.2 (by simpa using hk)
    have e1 : cv ((q :: r).take (k + 1)) = (q * (cv (r.take k)).1 + (cv (r.take k)).2, (cv (r.take k)).1) := rfl
    have e2 : cv ((q :: r).take (k + 1 + 1)) = (q * (cv (r.take (k + 1))).1 + (cv (r.take (k + 1))).2, (cv (r.take (k + 1))).1) := rfl
    rw [e1, e2]
    dsimp only
    have q1 := h.cons.1
    have h1 := Int.mul_nonneg (by omega : 0 ≤ q) a
    have h2 : q * (cv (r.take k)).1 ≤ q * (cv (r.take (k + 1))).1 := Int.mul_le_mul_of_nonneg_left d (by omega)
    have h3 := one_le_mul q1 (by omega : 0 ≤ (cv (r.take (k + 1))).1)
    omega
/-- where the quotients are cut: the rest is x, y -/
theorem cv_cut : ∀ (k n : Nat) (a b : Int), b.toNat ≤ n → 0 ≤ a → 0 < b → k < (cf a b).length → ∃ x y s : Int, 0 ≤ y ∧ y < x ∧ (s = 1 ∨ s = -1) ∧
    a = x * (cv ((cf a b).take (k + 1))).1 + y * (cv ((cf a b).take k)).1 ∧ b = x * (cv ((cf a b).take (k + 1))).2 + y * (cv ((cf a b).take k)).2 ∧
    (cv ((cf a b).take (k + 1))).1 * (cv ((cf a b).take k)).2 - (cv ((cf a b).take k)).1 * (cv ((cf a b).take (k + 1))).2 = s
  | 0, n, a, b, hn, ha, hb, hk => by
    have m0 := Int.emod_nonneg a (by omega : b ≠ 0)
    have m1 := Int.emod_lt_of_pos a hb
    have dv : b * (a / b) + a % b = a := Int.mul_ediv_add_emod a b
    have e : cv ((cf a b).take (0 + 1)) = (a / b, 1) := by
      rw [cf_pos hb]
      show (a / b * 1 + 0, (1 : Int)) = _
      congr 1
      omega
    rw [e]
    refine ⟨b, a % b, -1, m0, m1, .inr rfl, ?_, ?_, ?_⟩
    · show a = b * (a / b) + a % b * 1
      omega
    · show b = b * 1 + a % b * 0
      omega
    · show a / b * 0 - 1 * 1 = -1
      omega
  | k + 1, n, a, b, hn, ha, hb, hk => by
    have m0 := Int.emod_nonneg a (by omega : b ≠ 0)
    have m1 := Int.emod_lt_of_pos a hb
    have dv : b * (a / b) + a % b = a := Int.mul_ediv_add_emod a b
    rw [cf_pos hb] at hk ⊢
    have hk' : k < (cf b (a % b)).length := by simpa using hk
    have hc : 0 < a % b := by
      by_cases h : a % b ≤ 0
      · rw [cf_zero h] at hk'; simp at hk'
      · omega
    match n with
    | 0 => omega
    | n + 1 =>
      obtain ⟨x, y, s, h1, h2, h3, h4, h5, h6⟩ := cv_cut k n b (a % b) (by omega) (by omega) hc hk'
      refine ⟨x, y, -s, h1, h2, by omega, ?_, ?_, ?_⟩
      · show a = x * (a / b * (cv ((cf b (a % b)).take (k + 1))).1 + (cv ((cf b (a % b)).take (k + 1))).2) + y * (a / b * (cv ((cf b (a % b)).take k)).1 + (cv ((cf b (a % b)).take k)).2)
        generalize (cv ((cf b (a % b)).take (k + 1))) = P at h4 h5 ⊢
        generalize (cv ((cf b (a % b)).take k)) = R at h4 h5 ⊢
        have e1 : b * (a / b) = (x * P.1 + y * R.1) * (a / b) := by rw [← h4]
        rw [Int.mul_add, Int.mul_add, ← Int.mul_assoc, ← Int.mul_assoc, Int.mul_comm x (a / b), Int.mul_comm y (a / b), Int.mul_assoc, Int.mul_assoc]
        rw [Int.add_mul, Int.mul_comm (x * P.1), Int.mul_comm (y * R.1)] at e1
        omega
      · exact h4
      · show (a / b * (cv ((cf b (a % b)).take (k + 1))).1 + (cv ((cf b (a % b)).take (k + 1))).2) * (cv ((cf b (a % b)).take k)).1 - (a / b * (cv ((cf b (a % b)).take k)).1 + (cv ((cf b (a % b)).take k)).2) * (cv ((cf b (a % b)).take (k + 1))).1 = -s
        generalize (cv ((cf b (a % b)).take (k + 1))) = P at h6 ⊢
        generalize (cv ((cf b (a % b)).take k)) = R at h6 ⊢
        rw [Int.add_mul, Int.add_mul, Int.mul_assoc, Int.mul_assoc, Int.mul_comm R.1 P.1, Int.mul_comm P.2 R.1, Int.mul_comm R.2 P.1]
        omega
/-- forward -/
def fw : P2 → P2 → List Int → List P2
  | _, _, [] => []
  | A, H, q :: r => (A.1 + q * H.1, A.2 + q * H.2) :: fw H (A.1 + q * H.1, A.2 + q * H.2) r
theorem fw_length : ∀ (r : List Int) (A H : P2), (fw A H r).length = r.length
  | [], _, _ => rfl
  | q :: r, A, H => by show (fw _ _ r).length + 1 = r.length + 1; rw [fw_length r]
theorem fw_at : ∀ (r : List Int) (A H : P2) (k : Nat), k < r.length → (fw A H r)[k]? = some ((cv (r.take (k + 1))).1 * H.1 + (cv (r.take (k + 1))).2 * A.1, (cv (r.take (k + 1))).1 * H.2 + (cv (r.take (k + 1))).2 * A.2)
  | [], _, _, k, h => by simp at h
  | q :: r, A, H, 0, _ => by
    show some (A.1 + q * H.1, A.2 + q * H.2) = some ((q * 1 + 0) * H.1 + 1 * A.1, (q * 1 + 0) * H.2 + 1 * A.2)
    congr 2
    · rw [Int.mul_one, Int.add_zero, Int.one_mul]; omega
    · rw [Int.mul_one, Int.add_zero, Int.one_mul]; omega
  | q :: r, A, H, k + 1, h => by
    show (fw H (A.1 + q * H.1, A.2 + q * H.2) r)[k]? = _
    rw [fw_at r _ _ k (by simpa using h)]
    show some _ = some ((q * (cv (r.take (k + 1))).1 + (cv (r.take (k + 1))).2) * H.1 + (cv (r.take (k + 1))).1 * A.1, (q * (cv (r.take (k + 1))).1 + (cv (r.take (k + 1))).2) * H.2 + (cv (r.take (k + 1))).1 * A.2)
    generalize cv (r.take (k + 1)) = P
    dsimp only
    congr 2
    · rw [Int.mul_add, Int.add_mul, Int.mul_comm q P.1, Int.mul_assoc]; omega
    · rw [Int.mul_add, Int.add_mul, Int.mul_comm q P.1, Int.mul_assoc]; omega
theorem fw0 {r : List Int} {k : Nat} (h : k < r.length) : (fw L0 H0 r)[k]? = some (cv (r.take (k + 1))) := by
  rw [fw_at r _ _ k h]
  simp [L0, H0]
/-! ### the next one down -/
def ndn (r : List Int) : List Int := if r = [] then [0, 1] else if r.length % 2 = 0 then r.dropLast ++ [r.getLast?.getD 0 + 1] else r ++ [1]
theorem flip_even : ∀ (n : Nat) (e : Bool), flip n e = if n % 2 = 0 then e else !e
  | 0, _ => rfl
  | n + 1, e => by
    show flip n (!e) = _
    rw [flip_even n]
    by_cases h : n % 2 = 0
    · rw [if_pos h, if_neg (by omega)]
    · rw [if_neg h, if_pos (by omega)]; cases e <;> rfl
theorem tl_app {r s : List Int} (h : Tl r) (h2 : Tl s) : Tl (r ++ s) := fun m hm => by
  rcases List.mem_append.mp hm with hm | hm
  · exact h m hm
  · exact h2 m hm
theorem ndn_ok {r : List Int} (h : Ru r) : Ru (ndn r) ∧ (vS true (ndn r)).1 = (bnd true L0 H0 r).1.1 + (vS true r).1 ∧ (vS true (ndn r)).2 = (bnd true L0 H0 r).1.2 + (vS true r).2 := by
  unfold ndn
  by_cases h0 : r = []
  · subst h0
    rw [if_pos rfl]
    exact ⟨⟨by decide, fun m hm => by have := List.mem_singleton.mp hm; omega, fun _ => List.cons_ne_nil _ _⟩, by decide, by decide⟩
  · rw [if_neg h0]
    obtain ⟨m, t, rfl⟩ := List.exists_cons_of_ne_nil h0
    have mid := mid0 (m :: t)
    by_cases he : (m :: t).length % 2 = 0
    · rw [if_pos he]
      obtain ⟨s, k, e⟩ : ∃ s k, t = s ++ [k] := by
        rcases List.eq_nil_or_concat t with z | ⟨s, k, z⟩
        · subst z; simp at he
        · exact ⟨s, k, by simpa using z⟩
      subst e
      have hk : (m :: (s ++ [k])) = (m :: s) ++ [k] := rfl
      have e1 : (m :: (s ++ [k])).dropLast = m :: s := by rw [hk, List.dropLast_concat]
      have e2 : (m :: (s ++ [k])).getLast?.getD 0 = k := by rw [hk, List.getLast?_concat]; rfl
      rw [e1, e2]
      have odd : (m :: s).length % 2 = 1 := by
        rw [hk, List.length_append] at he
        simp at he ⊢
        omega
      have fl : flip (m :: s).length true = false := by rw [flip_even, if_neg (by omega)]; rfl
      have k1 : 1 ≤ k := h.2.1 k (by simp)
      have mid2 := mid0 ((m :: s) ++ [k + 1])
      rw [bnd_app, fl] at mid2
      rw [hk] at mid ⊢
      rw [bnd_app, fl] at mid ⊢
      generalize bnd true L0 H0 (m :: s) = P at mid mid2 ⊢
      have b1 : bnd false P.1 P.2 [k + 1] = (P.1, (P.2.1 + (k + 1) * P.1.1, P.2.2 + (k + 1) * P.1.2)) := rfl
      have b2 : bnd false P.1 P.2 [k] = (P.1, (P.2.1 + k * P.1.1, P.2.2 + k * P.1.2)) := rfl
      rw [b1] at mid2
      rw [b2] at mid ⊢
      dsimp only at mid mid2 ⊢
      rw [Int.add_mul, Int.add_mul] at mid2
      refine ⟨⟨h.1, tl_app (fun x hx => h.2.1 x (by simp [hx])) fun x hx => by have := List.mem_singleton.mp hx; omega, fun _ z => by simp at z⟩, by omega, by omega⟩
    · rw [if_neg he]
      have fl : flip (m :: t).length true = false := by rw [flip_even, if_neg he]; rfl
      have mid2 := mid0 ((m :: t) ++ [1])
      rw [bnd_app, fl] at mid2
      generalize bnd true L0 H0 (m :: t) = P at mid mid2 ⊢
      have b1 : bnd false P.1 P.2 [1] = (P.1, (P.2.1 + 1 * P.1.1, P.2.2 + 1 * P.1.2)) := rfl
      rw [b1] at mid2
      dsimp only at mid mid2 ⊢
      refine ⟨⟨h.1, tl_app h.2.1 fun x hx => by have := List.mem_singleton.mp hx; omega, fun _ z => by simp at z⟩, by omega, by omega⟩
end M83

/-! M83d: sizes; the convergents' nearness. -/
namespace M83
theorem cf_le {B : Int} : ∀ (n : Nat) (a b : Int), b.toNat ≤ n → 0 ≤ a → a ≤ B → b ≤ B → ∀ q ∈ cf a b, 0 ≤ q ∧ q ≤ B
  | n, a, b, hn, h0, ha, hb, q, hq => by
    by_cases h : b ≤ 0
    · rw [cf_zero h] at hq; cases hq
    · match n with
      | 0 => omega
      | n + 1 =>
        have m0 := Int.emod_nonneg a (by omega : b ≠ 0)
        have m1 := Int.emod_lt_of_pos a (by omega : 0 < b)
        rw [cf_pos (by omega)] at hq
        rcases List.mem_cons.mp hq with rfl | hq
        · have h1 : a / b ≤ a := Int.ediv_le_self _ h0
          exact ⟨Int.ediv_nonneg h0 (by omega), by omega⟩
        · exact cf_le n b (a % b) (by omega) (by omega) hb (by omega) q hq
theorem dec_last : ∀ (R : List Int) (z : Int), R.getLast? = some z → 1 < z → dec R = R.dropLast ++ [z - 1]
  | [], z, h, _ => by simp at h
  | [q], z, h, hz => by
    have : q = z := by simpa using h
    subst this
    show (if 1 < q then [q - 1] else []) = _
    rw [if_pos hz]; rfl
  | q :: p :: r, z, h, hz => by
    have h2 : (p :: r).getLast? = some z := by simpa [List.getLast?_cons] using h
    show q :: dec (p :: r) = q :: (p :: r).dropLast ++ [z - 1]
    rw [dec_last (p :: r) z h2 hz]; rfl
theorem dec_facts : ∀ (R : List Int), (R = [1] ∨ ∃ q, R.getLast? = some q ∧ 2 ≤ q) → (dec R).sum = R.sum - 1 ∧ R.length ≤ (dec R).length + 1
  | R, .inl h => by subst h; decide
  | R, .inr ⟨q, h, h2⟩ => by
    rw [dec_last R q h (by omega)]
    have ne : R ≠ [] := fun z => by rw [z] at h; simp at h
    have e : R = R.dropLast ++ [q] := by
      have := List.dropLast_concat_getLast ne
      rw [List.getLast?_eq_some_getLast ne] at h
      rw [← Option.some.inj h]
      exact this.symm
    have e2 : R.sum = R.dropLast.sum + q := by
      conv => lhs; rw [e]
      simp
    have e3 : R.length = R.dropLast.length + 1 := by
      conv => lhs; rw [e]
      simp
    constructor
    · rw [e2]; simp; omega
    · rw [List.length_append]; simp; omega
theorem bnd_nn : ∀ (r : List Int) (e : Bool) (l h : P2), Nn r → 0 ≤ l.1 → 0 ≤ l.2 → 0 ≤ h.1 → 0 ≤ h.2 → 0 ≤ (bnd e l h r).1.1 ∧ 0 ≤ (bnd e l h r).1.2 ∧ 0 ≤ (bnd e l h r).2.1 ∧ 0 ≤ (bnd e l h r).2.2
  | [], e, l, h, _, a, b, c, d => by cases e <;> exact ⟨a, b, c, d⟩
  | m :: r, true, l, h, n, a, b, c, d => bnd_nn r false _ h n.cons.2 (Int.add_nonneg a (Int.mul_nonneg n.cons.1 c)) (Int.add_nonneg b (Int.mul_nonneg n.cons.1 d)) c d
  | m :: r, false, l, h, n, a, b, c, d => bnd_nn r true l _ n.cons.2 a b (Int.add_nonneg c (Int.mul_nonneg n.cons.1 a)) (Int.add_nonneg d (Int.mul_nonneg n.cons.1 b))
theorem bnd0_nn {r : List Int} (h : Nn r) : 0 ≤ (bnd true L0 H0 r).1.1 ∧ 0 ≤ (bnd true L0 H0 r).1.2 ∧ 0 ≤ (bnd true L0 H0 r).2.1 ∧ 0 ≤ (bnd true L0 H0 r).2.2 := bnd_nn r true L0 H0 h (by decide) (by decide) (by decide) (by decide)
theorem cv_nn : ∀ (r : List Int), Nn r → 0 ≤ (cv r).1 ∧ 0 ≤ (cv r).2
  | [], _ => by decide
  | q :: r, h => by
    obtain ⟨a, b⟩ := cv_nn r h.cons.2
    exact ⟨Int.add_nonneg (Int.mul_nonneg h.cons.1 a) b, a⟩
theorem nn_take {r : List Int} (h : Nn r) (k : Nat) : Nn (r.take k) := fun m hm => h m (List.mem_of_mem_take hm)
/-- a convergent and the one ahead -/
structure Near (a b : Int) (A H : P2) : Prop where
  A1 : 0 ≤ A.1
  A2 : 0 ≤ A.2
  H1 : 0 ≤ H.1
  H2 : 0 ≤ H.2
  lA : A.1 ≤ a ∧ A.2 ≤ b ∨ A = (1, 0)
  lH1 : H.1 ≤ a
  lH2 : H.2 ≤ b
theorem cv_near {a b : Int} (ha : 1 ≤ a) (hb : 1 ≤ b) (g : Int.gcd a b = 1) {k : Nat} (hk : k < (cf a b).length) : 0 ≤ (cv ((cf a b).take (k + 1))).1 ∧ 0 ≤ (cv ((cf a b).take (k + 1))).2 ∧ (cv ((cf a b).take (k + 1))).1 ≤ a ∧ (cv ((cf a b).take (k + 1))).2 ≤ b := by
  obtain ⟨_, _, ⟨q, r, e, hq, hr⟩, _⟩ := cf_all ha hb g
  have nn : Nn (cf a b) := by
    rw [e]
    intro m hm
    rcases List.mem_cons.mp hm with rfl | hm
    · exact hq
    · exact hr.nn m hm
  obtain ⟨h1, h2⟩ := cv_nn _ (nn_take nn (k + 1))
  obtain ⟨h3, h4⟩ := cv_nn _ (nn_take nn k)
  obtain ⟨x, y, s, y0, yx, _, ea, eb, _⟩ := cv_cut k b.toNat a b (Nat.le_refl _) (by omega) (by omega) hk
  refine ⟨h1, h2, ?_, ?_⟩
  · have := one_le_mul (by omega : 1 ≤ x) h1
    have := Int.mul_nonneg y0 h3
    omega
  · have := one_le_mul (by omega : 1 ≤ x) h2
    have := Int.mul_nonneg y0 h4
    omega
/-- nearer and nearer, from both sides in turn -/
theorem nearer {a b : Int} (ha : 1 ≤ a) (hb : 1 ≤ b) (g : Int.gcd a b = 1) {k : Nat} (hk : k + 1 < (cf a b).length) : ∃ x y s : Int, 0 ≤ y ∧ y < x ∧ x ≤ b ∧ (s = 1 ∨ s = -1) ∧
    a * (cv ((cf a b).take (k + 2))).2 - (cv ((cf a b).take (k + 2))).1 * b = -s * y ∧ a * (cv ((cf a b).take (k + 1))).2 - (cv ((cf a b).take (k + 1))).1 * b = s * x ∧ y * (cv ((cf a b).take (k + 1))).2 < x * (cv ((cf a b).take (k + 2))).2 := by
  obtain ⟨_, _, ⟨q, r, e, hq, hr⟩, _⟩ := cf_all ha hb g
  obtain ⟨x, y, s, y0, yx, hs, ea, eb, ed⟩ := cv_cut (k + 1) b.toNat a b (Nat.le_refl _) (by omega) (by omega) hk
  have kr : k < r.length := by rw [e, List.length_cons] at hk; omega
  obtain ⟨m1, m2, m3, m4, m5⟩ := cv_mono r k hr kr
  have eH : cv ((cf a b).take (k + 1 + 1)) = (q * (cv (r.take (k + 1))).1 + (cv (r.take (k + 1))).2, (cv (r.take (k + 1))).1) := by rw [e]; rfl
  have eA : cv ((cf a b).take (k + 1)) = (q * (cv (r.take k)).1 + (cv (r.take k)).2, (cv (r.take k)).1) := by rw [e]; rfl
  have h2 : (cv ((cf a b).take (k + 1))).2 ≤ (cv ((cf a b).take (k + 1 + 1))).2 := by rw [eH, eA]; exact m4
  have h3 : 1 ≤ (cv ((cf a b).take (k + 1 + 1))).2 := by rw [eH]; exact m3
  have h4 : 0 ≤ (cv ((cf a b).take (k + 1))).2 := by rw [eA]; exact m1
  show ∃ x y s : Int, 0 ≤ y ∧ y < x ∧ x ≤ b ∧ (s = 1 ∨ s = -1) ∧ a * (cv ((cf a b).take (k + 1 + 1))).2 - (cv ((cf a b).take (k + 1 + 1))).1 * b = -s * y ∧ a * (cv ((cf a b).take (k + 1))).2 - (cv ((cf a b).take (k + 1))).1 * b = s * x ∧ y * (cv ((cf a b).take (k + 1))).2 < x * (cv ((cf a b).take (k + 1 + 1))).2
  clear eH eA m1 m2 m3 m4 m5
  generalize cv ((cf a b).take (k + 1 + 1)) = H at *
  generalize cv ((cf a b).take (k + 1)) = A at *
  have xb : x ≤ b := by
    have := one_le_mul h3 (by omega : 0 ≤ x)
    have := Int.mul_nonneg y0 h4
    rw [Int.mul_comm] at this
    have e3 : x * H.2 = H.2 * x := Int.mul_comm _ _
    have e4 : y * A.2 = A.2 * y := Int.mul_comm _ _
    omega
  refine ⟨x, y, s, y0, yx, xb, hs, ?_, ?_, ?_⟩
  · rw [← ed]
    conv => lhs; rw [ea, eb]
    generalize H.1 = p
    generalize H.2 = q
    generalize A.1 = u
    generalize A.2 = v
    rw [Int.add_mul, Int.mul_add, Int.neg_mul, Int.sub_mul, Int.mul_assoc x p q, Int.mul_assoc y u q, show p * (x * q) = x * (p * q) by rw [← Int.mul_assoc, Int.mul_comm p x, Int.mul_assoc], show p * (y * v) = y * (p * v) by rw [← Int.mul_assoc, Int.mul_comm p y, Int.mul_assoc], Int.mul_comm (p * v) y, Int.mul_comm (u * q) y]
    omega
  · rw [← ed]
    conv => lhs; rw [ea, eb]
    generalize H.1 = p
    generalize H.2 = q
    generalize A.1 = u
    generalize A.2 = v
    rw [Int.add_mul, Int.mul_add, Int.sub_mul, Int.mul_assoc x p v, Int.mul_assoc y u v, show u * (x * q) = x * (u * q) by rw [← Int.mul_assoc, Int.mul_comm u x, Int.mul_assoc], show u * (y * v) = y * (u * v) by rw [← Int.mul_assoc, Int.mul_comm u y, Int.mul_assoc], Int.mul_comm (p * v) x, Int.mul_comm (u * q) x]
    omega
  · have h5 : y * A.2 ≤ y * H.2 := Int.mul_le_mul_of_nonneg_left h2 y0
    have h6 : y * H.2 < x * H.2 := Int.mul_lt_mul_of_pos_right yx (by omega)
    omega
end M83

namespace LW
open PySem PySem.Spec PyProof.Rows L2 TL
/-! ### 0: _law_cup -/
def ns0 : List Str := (["script", "cell"] : List Str)
def ps0 : List Str := (["script"] : List Str)
def ss0 : Ss := (.cons (.asg (.slot 1) (.bf .abs (.cons (.ix (.op (.add .val) (.bf (.list .val) (.cons (.slot 0) .nil)) (.lst .val (.cons (.con (.int 0)) .nil))) (.con (.int 0))) .nil))) (.cons (.ret (.lst .cup (.cons (.ite (.cmp .ge (.slot 1) (.op .pow (.con (.int 10)) (.con (.int 18)))) (.op .div (.slot 1) (.con (.int 131))) (.con (.int 0))) (.cons (.op (.add .val) (.op .mod (.bf .int (.cons (.op (.add .val) (.op (.mul .val) (.slot 1) (.con (.int 367))) (.con (.int 4129))) .nil)) (.con (.int 2077503499))) (.con (.int 227))) .nil)))) .nil))
/-! ### 1: _law_roll -/
def ns1 : List Str := (["cup", "many", "deep", "found"] : List Str)
def ps1 : List Str := (["cup", "many"] : List Str)
def ss1 : Ss := (.cons (.iff (.cmp .gt (.ix (.slot 0) (.con (.int 0))) (.con (.int 0))) (.cons (.asg (.slot 3) (.op .mod (.bf .int (.cons (.ix (.slot 0) (.con (.int 0))) .nil)) (.slot 1))) (.cons (.asg (.sub (.slot 0) (.con (.int 0))) (.op .div (.ix (.slot 0) (.con (.int 0))) (.slot 1))) (.cons (.ret (.slot 3)) .nil))) .nil) (.cons (.asg (.sub (.slot 0) (.con (.int 1))) (.op .mod (.bf .int (.cons (.op (.add .val) (.op (.mul .val) (.ix (.slot 0) (.con (.int 1))) (.con (.int 31237))) (.con (.int 8221))) .nil)) (.con (.int 2147483399)))) (.cons (.asg (.slot 2) (.op .mod (.bf .int (.cons (.op (.mul .val) (.ix (.slot 0) (.con (.int 1))) (.op (.add .val) (.ix (.slot 0) (.con (.int 1))) (.con (.int 419)))) .nil)) (.con (.int 2147483563)))) (.cons (.ret (.op .mod (.bf .int (.cons (.op .div (.slot 2) (.con (.int 1019))) .nil)) (.slot 1))) .nil))))
/-! ### 2: is_tuple_of -/
def ns2 : List Str := (["value", "low", "high"] : List Str)
def ps2 : List Str := (["value", "low", "high"] : List Str)
def ss2 : Ss := (.cons (.ret (.bn true (.isi .tuple (.slot 0)) (.b1 (.chn .le .le (.slot 1) (.bf .len (.cons (.slot 0) .nil)) (.slot 2))))) .nil)
/-! ### 3: is_whole -/
def ns3 : List Str := (["value", "low", "high"] : List Str)
def ps3 : List Str := (["value", "low", "high"] : List Str)
def ss3 : Ss := (.cons (.ret (.bn true (.isi .int (.slot 0)) (.bn true (.not (.isi .bool (.slot 0))) (.b1 (.chn .le .le (.slot 1) (.slot 0) (.slot 2)))))) .nil)
/-! ### 4: is_slope -/
def ns4 : List Str := (["value", "one"] : List Str)
def ps4 : List Str := (["value"] : List Str)
def ss4 : Ss := (.cons (.iff (.bn false (.not (.call 2 (.cons (.slot 0) (.cons (.con (.int 2)) (.cons (.con (.int 2)) .nil))))) (.b1 (.not (.bf .all (.cons (.comp .val (.it (.slot 0)) (.slot 1) (.call 3 (.cons (.slot 1) (.cons (.con (.int 1)) (.cons (.glo 0) .nil)))) [("one", 1)]) .nil))))) (.cons (.ret (.con (.bool false))) .nil) .nil) (.cons (.ret (.cmp .eq (.bf .gcd (.cons (.ix (.slot 0) (.con (.int 0))) (.cons (.ix (.slot 0) (.con (.int 1))) .nil))) (.con (.int 1)))) .nil))
/-! ### 5: need_slope -/
def ns5 : List Str := (["value"] : List Str)
def ps5 : List Str := (["value"] : List Str)
def ss5 : Ss := (.cons (.iff (.not (.call 4 (.cons (.slot 0) .nil))) (.cons .never .nil) .nil) .nil)
/-! ### 6: steps_in -/
def ns6 : List Str := (["slope", "one", "other", "found", "turns", "many"] : List Str)
def ps6 : List Str := (["slope"] : List Str)
def ss6 : Ss := (.cons (.asg (.tup (.cons (.slot 1) (.cons (.slot 2) .nil))) (.slot 0)) (.cons (.par [3, 4] (.cons (.lst .own .nil) (.cons (.con (.int 0)) .nil))) (.cons (.whl (.cmp .ne (.slot 1) (.slot 2)) (.cons (.iff (.cmp .eq (.op .mod (.slot 4) (.con (.int 2))) (.con (.int 0))) (.cons (.asg (.slot 5) (.op .div (.op .sub (.slot 1) (.con (.int 1))) (.slot 2))) (.cons (.asg (.slot 1) (.op .sub (.slot 1) (.op (.mul .val) (.slot 5) (.slot 2)))) .nil)) (.cons (.asg (.slot 5) (.op .div (.op .sub (.slot 2) (.con (.int 1))) (.slot 1))) (.cons (.asg (.slot 2) (.op .sub (.slot 2) (.op (.mul .val) (.slot 5) (.slot 1)))) .nil))) (.cons (.expr (.me .app (.slot 3) (.cons (.slot 5) .nil))) (.cons (.asg (.slot 4) (.op (.add .val) (.slot 4) (.con (.int 1)))) .nil)))) (.cons (.ret (.bf .tup (.cons (.slot 3) .nil))) .nil))))
/-! ### 7: steps_of -/
def ns7 : List Str := (["slope"] : List Str)
def ps7 : List Str := (["slope"] : List Str)
def ss7 : Ss := (.cons (.expr (.call 5 (.cons (.slot 0) .nil))) (.cons (.ret (.call 6 (.cons (.slot 0) .nil))) .nil))
/-! ### 8: bounds_by -/
def ns8 : List Str := (["runs", "low", "high", "at", "many"] : List Str)
def ps8 : List Str := (["runs"] : List Str)
def g8_0 : G := (.tup (.cons (.slot 3) (.cons (.slot 4) .nil)))
def b8_0 : Ss := (.cons (.iff (.cmp .eq (.op .mod (.slot 3) (.con (.int 2))) (.con (.int 0))) (.cons (.asg (.slot 1) (.tup (.cons (.op (.add .val) (.ix (.slot 1) (.con (.int 0))) (.op (.mul .val) (.slot 4) (.ix (.slot 2) (.con (.int 0))))) (.cons (.op (.add .val) (.ix (.slot 1) (.con (.int 1))) (.op (.mul .val) (.slot 4) (.ix (.slot 2) (.con (.int 1))))) .nil)))) .nil) (.cons (.asg (.slot 2) (.tup (.cons (.op (.add .val) (.ix (.slot 2) (.con (.int 0))) (.op (.mul .val) (.slot 4) (.ix (.slot 1) (.con (.int 0))))) (.cons (.op (.add .val) (.ix (.slot 2) (.con (.int 1))) (.op (.mul .val) (.slot 4) (.ix (.slot 1) (.con (.int 1))))) .nil)))) .nil)) .nil)
def ss8 : Ss := (.cons (.asg (.tup (.cons (.slot 1) (.cons (.slot 2) .nil))) (.tup (.cons (.tup (.cons (.con (.int 0)) (.cons (.con (.int 1)) .nil))) (.cons (.tup (.cons (.con (.int 1)) (.cons (.con (.int 0)) .nil))) .nil)))) (.cons (.fr (.en (.slot 0)) g8_0 b8_0) (.cons (.ret (.tup (.cons (.slot 1) (.cons (.slot 2) .nil)))) .nil)))
/-! ### 9: middle -/
def ns9 : List Str := (["low", "high"] : List Str)
def ps9 : List Str := (["low", "high"] : List Str)
def ss9 : Ss := (.cons (.ret (.tup (.cons (.op (.add .val) (.ix (.slot 0) (.con (.int 0))) (.ix (.slot 1) (.con (.int 0)))) (.cons (.op (.add .val) (.ix (.slot 0) (.con (.int 1))) (.ix (.slot 1) (.con (.int 1)))) .nil)))) .nil)
/-! ### 10: fits_runs -/
def ns10 : List Str := (["value", "many"] : List Str)
def ps10 : List Str := (["value"] : List Str)
def ss10 : Ss := (.cons (.iff (.bn false (.not (.call 2 (.cons (.slot 0) (.cons (.con (.int 0)) (.cons (.glo 1) .nil))))) (.b1 (.not (.bf .all (.cons (.comp .val (.it (.slot 0)) (.slot 1) (.call 3 (.cons (.slot 1) (.cons (.con (.int 0)) (.cons (.glo 0) .nil)))) [("many", 1)]) .nil))))) (.cons (.ret (.con (.bool false))) .nil) .nil) (.cons (.ret (.bn true (.bf .all (.cons (.comp .val (.it (.sl .val (.slot 0) (.some (.con (.int 1))) .none)) (.slot 1) (.cmp .gt (.slot 1) (.con (.int 0))) [("many", 1)]) .nil)) (.b1 (.cmp .ne (.slot 0) (.tup (.cons (.con (.int 0)) .nil)))))) .nil))
/-! ### 11: slope_of -/
def ns11 : List Str := (["runs", "low", "high"] : List Str)
def ps11 : List Str := (["runs"] : List Str)
def ss11 : Ss := (.cons (.iff (.not (.call 10 (.cons (.slot 0) .nil))) (.cons .never .nil) .nil) (.cons (.asg (.tup (.cons (.slot 1) (.cons (.slot 2) .nil))) (.call 8 (.cons (.slot 0) .nil))) (.cons (.ret (.call 9 (.cons (.slot 1) (.cons (.slot 2) .nil)))) .nil)))
/-! ### 12: _law_walked -/
def ns12 : List Str := (["runs", "below", "here", "above", "at", "turn"] : List Str)
def ps12 : List Str := (["runs"] : List Str)
def g12_0 : G := (.slot 5)
def b12_0 : Ss := (.cons (.iff (.cmp .eq (.op .mod (.slot 4) (.con (.int 2))) (.con (.int 0))) (.cons (.par [1, 2] (.cons (.slot 2) (.cons (.tup (.cons (.op (.add .val) (.ix (.slot 2) (.con (.int 0))) (.ix (.slot 3) (.con (.int 0)))) (.cons (.op (.add .val) (.ix (.slot 2) (.con (.int 1))) (.ix (.slot 3) (.con (.int 1)))) .nil))) .nil))) .nil) (.cons (.par [3, 2] (.cons (.slot 2) (.cons (.tup (.cons (.op (.add .val) (.ix (.slot 2) (.con (.int 0))) (.ix (.slot 1) (.con (.int 0)))) (.cons (.op (.add .val) (.ix (.slot 2) (.con (.int 1))) (.ix (.slot 1) (.con (.int 1)))) .nil))) .nil))) .nil)) .nil)
def g12_1 : G := (.slot 4)
def b12_1 : Ss := (.cons (.fr (.r1 (.ix (.slot 0) (.slot 4))) g12_0 b12_0) .nil)
def ss12 : Ss := (.cons (.asg (.tup (.cons (.slot 1) (.cons (.slot 2) (.cons (.slot 3) .nil)))) (.tup (.cons (.tup (.cons (.con (.int 0)) (.cons (.con (.int 1)) .nil))) (.cons (.tup (.cons (.con (.int 1)) (.cons (.con (.int 1)) .nil))) (.cons (.tup (.cons (.con (.int 1)) (.cons (.con (.int 0)) .nil))) .nil))))) (.cons (.fr (.r1 (.bf .len (.cons (.slot 0) .nil))) g12_1 b12_1) (.cons (.ret (.tup (.cons (.slot 1) (.cons (.slot 2) (.cons (.slot 3) .nil))))) .nil)))
/-! ### 13: _law_odds_right -/
def ns13 : List Str := (["cup", "many", "odds", "goods", "told", "one", "other", "turn", "odd", "good"] : List Str)
def ps13 : List Str := (["cup"] : List Str)
def g13_0 : G := (.slot 7)
def b13_0 : Ss := (.cons (.par [5, 6] (.cons (.op (.add .val) (.slot 5) (.slot 6)) (.cons (.slot 5) .nil))) .nil)
def t13_8 : Ss := (.cons (.ret (.bn true (.cmp .eq (.slot 4) (.tup (.cons (.tup (.cons (.op .sub (.op .pow (.con (.int 10)) (.con (.int 18))) (.con (.int 1))) .nil)) (.cons (.tup (.cons (.con (.int 0)) (.cons (.op .sub (.op .pow (.con (.int 10)) (.con (.int 18))) (.con (.int 1))) .nil))) (.cons (.tup (.cons (.con (.int 1)) (.cons (.op .sub (.op .pow (.con (.int 10)) (.con (.int 18))) (.con (.int 2))) .nil))) (.cons (.tup (.cons (.op (.add .val) (.op .pow (.con (.int 10)) (.con (.int 18))) (.con (.int 1))) (.cons (.con (.int 1)) .nil))) (.cons (.ix (.call 12 (.cons (.op (.mul .val) (.tup (.cons (.con (.int 1)) .nil)) (.con (.int 100))) .nil)) (.con (.int 1))) .nil))))))) (.b1 (.cmp .eq (.bf (.sorted .val) (.cons (.ix (.slot 4) (.con (.int 4))) .nil)) (.lst .val (.cons (.slot 6) (.cons (.slot 5) .nil))))))) .nil)
def t13_7 : Ss := (.cons (.fr (.r1 (.con (.int 100))) g13_0 b13_0) t13_8)
def t13_6 : Ss := (.cons (.asg (.tup (.cons (.slot 5) (.cons (.slot 6) .nil))) (.tup (.cons (.con (.int 1)) (.cons (.con (.int 1)) .nil)))) t13_7)
def t13_5 : Ss := (.cons (.asg (.slot 4) (.tup (.cons (.call 7 (.cons (.tup (.cons (.op .pow (.con (.int 10)) (.con (.int 18))) (.cons (.con (.int 1)) .nil))) .nil)) (.cons (.call 7 (.cons (.tup (.cons (.con (.int 1)) (.cons (.op .pow (.con (.int 10)) (.con (.int 18))) .nil))) .nil)) (.cons (.call 7 (.cons (.tup (.cons (.op .pow (.con (.int 10)) (.con (.int 18))) (.cons (.op .sub (.op .pow (.con (.int 10)) (.con (.int 18))) (.con (.int 1))) .nil))) .nil)) (.cons (.call 11 (.cons (.tup (.cons (.op .pow (.con (.int 10)) (.con (.int 18))) .nil)) .nil)) (.cons (.call 11 (.cons (.op (.mul .val) (.tup (.cons (.con (.int 1)) .nil)) (.con (.int 100))) .nil)) .nil))))))) t13_6)
def t13_4 : Ss := (.cons (.iff (.cmp .ne (.compIf .val (.it (.slot 3)) (.slot 9) (.cmp .isn (.call 4 (.cons (.slot 9) .nil)) (.con (.bool true))) (.slot 9) [("good", 9)]) (.lst .val .nil)) (.cons (.ret (.con (.bool false))) .nil) .nil) t13_5)
def t13_3 : Ss := (.cons (.asg (.slot 3) (.lst .val (.cons (.tup (.cons (.con (.int 1)) (.cons (.slot 1) .nil))) (.cons (.tup (.cons (.op .pow (.con (.int 10)) (.con (.int 18))) (.cons (.op .sub (.op .pow (.con (.int 10)) (.con (.int 18))) (.con (.int 1))) .nil))) (.cons (.tup (.cons (.op .pow (.con (.int 10)) (.con (.int 18))) (.cons (.con (.int 1)) .nil))) (.cons (.tup (.cons (.con (.int 1)) (.cons (.op .pow (.con (.int 10)) (.con (.int 18))) .nil))) (.cons (.tup (.cons (.op (.add .val) (.slot 1) (.con (.int 1))) (.cons (.slot 1) .nil))) .nil))))))) t13_4)
def t13_2 : Ss := (.cons (.iff (.cmp .ne (.compIf .val (.it (.slot 2)) (.slot 8) (.cmp .isn (.call 4 (.cons (.slot 8) .nil)) (.con (.bool false))) (.slot 8) [("odd", 8)]) (.lst .val .nil)) (.cons (.ret (.con (.bool false))) .nil) .nil) t13_3)
def t13_1 : Ss := (.cons (.asg (.slot 2) (.lst .val (.cons (.con .none) (.cons (.tup (.cons (.slot 1) .nil)) (.cons (.tup (.cons (.slot 1) (.cons (.con (.int 1)) (.cons (.con (.int 1)) .nil)))) (.cons (.lst .val (.cons (.slot 1) (.cons (.con (.int 1)) .nil))) (.cons (.tup (.cons (.con (.int 0)) (.cons (.con (.int 1)) .nil))) (.cons (.tup (.cons (.con (.int 1)) (.cons (.con (.int 0)) .nil))) (.cons (.tup (.cons (.slot 1) (.cons (.neg (.con (.int 1))) .nil))) (.cons (.tup (.cons (.neg (.con (.int 1))) (.cons (.slot 1) .nil))) (.cons (.tup (.cons (.op (.mul .val) (.con (.int 2)) (.slot 1)) (.cons (.con (.int 4)) .nil))) (.cons (.tup (.cons (.slot 1) (.cons (.con (.bool true)) .nil))) (.cons (.tup (.cons (.op (.add .val) (.op .pow (.con (.int 10)) (.con (.int 18))) (.con (.int 1))) (.cons (.con (.int 1)) .nil))) (.cons (.tup (.cons (.con (.int 1)) (.cons (.op (.add .val) (.op .pow (.con (.int 10)) (.con (.int 18))) (.con (.int 1))) .nil))) (.cons (.tup (.cons (.con (.str "1")) (.cons (.con (.int 2)) .nil))) (.cons (.tup (.cons (.con (.int 1)) (.cons (.con .none) .nil))) (.cons (.tup (.cons (.op (.mul .val) (.con (.int 3)) (.slot 1)) (.cons (.con (.int 3)) .nil))) (.cons (.con (.int 5)) .nil)))))))))))))))))) t13_2)
def ss13 : Ss := (.cons (.asg (.slot 1) (.op (.add .val) (.con (.int 1)) (.call 1 (.cons (.slot 0) (.cons (.con (.int 30)) .nil))))) t13_1)
/-! ### 14: _law_runs -/
def ns14 : List Str := (["cup", "most", "many", "row", "turn"] : List Str)
def ps14 : List Str := (["cup", "most", "many"] : List Str)
def ss14 : Ss := (.cons (.asg (.slot 3) (.bf .tup (.cons (.comp .val (.r1 (.call 1 (.cons (.slot 0) (.cons (.op (.add .val) (.slot 1) (.con (.int 1))) .nil)))) (.slot 4) (.op (.add .val) (.con (.int 1)) (.call 1 (.cons (.slot 0) (.cons (.slot 2) .nil)))) [("turn", 4)]) .nil))) (.cons (.ret (.ite (.bn true (.cmp .ne (.slot 3) (.tup .nil)) (.b1 (.cmp .eq (.call 1 (.cons (.slot 0) (.cons (.con (.int 2)) .nil))) (.con (.int 0))))) (.op (.add .val) (.tup (.cons (.con (.int 0)) .nil)) (.slot 3)) (.slot 3))) .nil))
/-! ### 15: depth -/
def ns15 : List Str := (["slope"] : List Str)
def ps15 : List Str := (["slope"] : List Str)
def ss15 : Ss := (.cons (.expr (.call 5 (.cons (.slot 0) .nil))) (.cons (.ret (.bf .sum (.cons (.call 6 (.cons (.slot 0) .nil)) .nil))) .nil))
/-! ### 16: bounds -/
def ns16 : List Str := (["slope"] : List Str)
def ps16 : List Str := (["slope"] : List Str)
def ss16 : Ss := (.cons (.expr (.call 5 (.cons (.slot 0) .nil))) (.cons (.ret (.call 8 (.cons (.call 6 (.cons (.slot 0) .nil)) .nil))) .nil))
/-! ### 17: _law_path -/
def ns17 : List Str := (["runs", "at"] : List Str)
def ps17 : List Str := (["runs"] : List Str)
def ss17 : Ss := (.cons (.ret (.me .join (.con (.str "")) (.cons (.comp .val (.r1 (.bf .len (.cons (.slot 0) .nil))) (.slot 1) (.op (.mul .val) (.ix (.con (.str "ud")) (.op .mod (.bf .int (.cons (.slot 1) .nil)) (.con (.int 2)))) (.ix (.slot 0) (.slot 1))) [("at", 1)]) .nil))) .nil)
/-! ### 18: next_down -/
def ns18 : List Str := (["slope", "low", "high"] : List Str)
def ps18 : List Str := (["slope"] : List Str)
def ss18 : Ss := (.cons (.expr (.call 5 (.cons (.slot 0) .nil))) (.cons (.asg (.tup (.cons (.slot 1) (.cons (.slot 2) .nil))) (.call 8 (.cons (.call 6 (.cons (.slot 0) .nil)) .nil))) (.cons (.ret (.tup (.cons (.call 9 (.cons (.slot 1) (.cons (.slot 0) .nil))) (.cons (.call 9 (.cons (.slot 0) (.cons (.slot 2) .nil))) .nil)))) .nil)))
/-! ### 19: _law_some -/
def ns19 : List Str := (["cup", "things"] : List Str)
def ps19 : List Str := (["cup", "things"] : List Str)
def ss19 : Ss := (.cons (.ret (.ix (.slot 1) (.call 1 (.cons (.slot 0) (.cons (.bf .len (.cons (.slot 1) .nil)) .nil))))) .nil)
/-! ### 20: meeting -/
def ns20 : List Str := (["slope", "other", "found", "mine", "yours", "one", "two", "low", "high"] : List Str)
def ps20 : List Str := (["slope", "other"] : List Str)
def g20_0 : G := (.tup (.cons (.slot 5) (.cons (.slot 6) .nil)))
def b20_0 : Ss := (.cons (.expr (.me .app (.slot 2) (.cons (.bf .min (.cons (.slot 5) (.cons (.slot 6) .nil))) .nil))) (.cons (.iff (.cmp .ne (.slot 5) (.slot 6)) (.cons .brk .nil) .nil) .nil))
def ss20 : Ss := (.cons (.expr (.call 5 (.cons (.slot 0) .nil))) (.cons (.expr (.call 5 (.cons (.slot 1) .nil))) (.cons (.par [2, 3, 4] (.cons (.lst .own .nil) (.cons (.call 6 (.cons (.slot 0) .nil)) (.cons (.call 6 (.cons (.slot 1) .nil)) .nil)))) (.cons (.fr (.zip (.slot 3) (.slot 4)) g20_0 b20_0) (.cons (.asg (.tup (.cons (.slot 7) (.cons (.slot 8) .nil))) (.call 8 (.cons (.frz (.slot 2)) .nil))) (.cons (.ret (.call 9 (.cons (.slot 7) (.cons (.slot 8) .nil)))) .nil))))))
/-! ### 21: _law_small_right -/
def ns21 : List Str := (["cup", "runs", "below", "here", "above", "told", "other", "one", "two", "same", "at", "found", "sign", "slope", "first", "second", "order", "size"] : List Str)
def ps21 : List Str := (["cup"] : List Str)
def g21_0 : G := (.slot 10)
def b21_0 : Ss := (.cons (.asg (.slot 9) (.ite (.bn true (.cmp .eq (.slot 9) (.slot 10)) (.b1 (.cmp .eq (.ix (.slot 7) (.slot 10)) (.ix (.slot 8) (.slot 10))))) (.op (.add .val) (.slot 10) (.con (.int 1))) (.slot 9))) .nil)
def g21_1 : G := (.slot 12)
def b21_1 : Ss := (.cons (.asg (.tup (.cons (.slot 2) (.cons (.slot 3) (.cons (.slot 4) .nil)))) (.slot 11)) (.cons (.asg (.slot 11) (.ite (.cmp .eq (.slot 12) (.con (.str "u"))) (.tup (.cons (.slot 3) (.cons (.tup (.cons (.op (.add .val) (.ix (.slot 3) (.con (.int 0))) (.ix (.slot 4) (.con (.int 0)))) (.cons (.op (.add .val) (.ix (.slot 3) (.con (.int 1))) (.ix (.slot 4) (.con (.int 1)))) .nil))) (.cons (.slot 4) .nil)))) (.tup (.cons (.slot 2) (.cons (.tup (.cons (.op (.add .val) (.ix (.slot 3) (.con (.int 0))) (.ix (.slot 2) (.con (.int 0)))) (.cons (.op (.add .val) (.ix (.slot 3) (.con (.int 1))) (.ix (.slot 2) (.con (.int 1)))) .nil))) (.cons (.slot 3) .nil)))))) .nil))
def t21_16 : Ss := (.cons (.ret (.bn true (.cmp .eq (.cmp .lt (.slot 16) (.con (.int 0))) (.cmp .lt (.slot 17) (.con (.int 0)))) (.b1 (.cmp .eq (.cmp .eq (.slot 16) (.con (.int 0))) (.cmp .eq (.slot 17) (.con (.int 0))))))) .nil)
def t21_15 : Ss := (.cons (.asg (.slot 17) (.op .sub (.op (.mul .val) (.ix (.slot 13) (.con (.int 0))) (.ix (.slot 6) (.con (.int 1)))) (.op (.mul .val) (.ix (.slot 6) (.con (.int 0))) (.ix (.slot 13) (.con (.int 1)))))) t21_16)
def t21_14 : Ss := (.cons (.asg (.slot 16) (.op .sub (.me .index (.con (.str "dmu")) (.cons (.slot 14) .nil)) (.me .index (.con (.str "dmu")) (.cons (.slot 15) .nil)))) t21_15)
def t21_13 : Ss := (.cons (.par [14, 15] (.cons (.ix (.op (.add .val) (.slot 7) (.con (.str "m"))) (.slot 9)) (.cons (.ix (.op (.add .val) (.slot 8) (.con (.str "m"))) (.slot 9)) .nil))) t21_14)
def t21_12 : Ss := (.cons (.iff (.bn false (.cmp .ne (.bf .repr (.cons (.call 20 (.cons (.slot 13) (.cons (.slot 6) .nil))) .nil)) (.bf .repr (.cons (.ix (.slot 11) (.con (.int 1))) .nil))) (.b1 (.cmp .ne (.call 20 (.cons (.slot 6) (.cons (.slot 13) .nil))) (.ix (.slot 11) (.con (.int 1)))))) (.cons (.ret (.con (.bool false))) .nil) .nil) t21_13)
def t21_11 : Ss := (.cons (.asg (.slot 13) (.call 11 (.cons (.slot 1) .nil))) t21_12)
def t21_10 : Ss := (.cons (.fr (.it (.sl .val (.slot 7) .none (.some (.slot 9)))) g21_1 b21_1) t21_11)
def t21_9 : Ss := (.cons (.asg (.slot 11) (.tup (.cons (.tup (.cons (.con (.int 0)) (.cons (.con (.int 1)) .nil))) (.cons (.tup (.cons (.con (.int 1)) (.cons (.con (.int 1)) .nil))) (.cons (.tup (.cons (.con (.int 1)) (.cons (.con (.int 0)) .nil))) .nil))))) t21_10)
def t21_8 : Ss := (.cons (.fr (.r1 (.bf .min (.cons (.bf .len (.cons (.slot 7) .nil)) (.cons (.bf .len (.cons (.slot 8) .nil)) .nil)))) g21_0 b21_0) t21_9)
def t21_7 : Ss := (.cons (.par [7, 8, 9] (.cons (.call 17 (.cons (.slot 1) .nil)) (.cons (.call 17 (.cons (.call 7 (.cons (.slot 6) .nil)) .nil)) (.cons (.con (.int 0)) .nil)))) t21_8)
def t21_6 : Ss := (.cons (.asg (.slot 6) (.ix (.call 12 (.cons (.call 19 (.cons (.slot 0) (.cons (.lst .val (.cons (.call 14 (.cons (.slot 0) (.cons (.con (.int 5)) (.cons (.con (.int 6)) .nil)))) (.cons (.op (.add .val) (.sl .val (.slot 1) .none (.some (.call 1 (.cons (.slot 0) (.cons (.con (.int 4)) .nil))))) (.tup (.cons (.op (.add .val) (.con (.int 1)) (.call 1 (.cons (.slot 0) (.cons (.con (.int 3)) .nil)))) .nil))) .nil))) .nil))) .nil)) (.con (.int 1)))) t21_7)
def t21_5 : Ss := (.cons (.iff (.cmp .ne (.call 7 (.cons (.ix (.call 18 (.cons (.slot 3) .nil)) (.con (.int 0))) .nil)) (.ite (.bn true (.cmp .eq (.op .mod (.bf .int (.cons (.bf .len (.cons (.slot 1) .nil)) .nil)) (.con (.int 2))) (.con (.int 0))) (.b1 (.cmp .ne (.slot 1) (.tup .nil)))) (.op (.add .val) (.sl .val (.slot 1) .none (.some (.neg (.con (.int 1))))) (.tup (.cons (.op (.add .val) (.ix (.slot 1) (.neg (.con (.int 1)))) (.con (.int 1))) .nil))) (.ite (.cmp .ne (.slot 1) (.tup .nil)) (.op (.add .val) (.slot 1) (.tup (.cons (.con (.int 1)) .nil))) (.tup (.cons (.con (.int 0)) (.cons (.con (.int 1)) .nil)))))) (.cons (.ret (.con (.bool false))) .nil) .nil) t21_6)
def t21_4 : Ss := (.cons (.iff (.cmp .ne (.bf .repr (.cons (.call 18 (.cons (.slot 3) .nil)) .nil)) (.bf .repr (.cons (.tup (.cons (.tup (.cons (.op (.add .val) (.ix (.slot 3) (.con (.int 0))) (.ix (.slot 2) (.con (.int 0)))) (.cons (.op (.add .val) (.ix (.slot 3) (.con (.int 1))) (.ix (.slot 2) (.con (.int 1)))) .nil))) (.cons (.tup (.cons (.op (.add .val) (.ix (.slot 3) (.con (.int 0))) (.ix (.slot 4) (.con (.int 0)))) (.cons (.op (.add .val) (.ix (.slot 3) (.con (.int 1))) (.ix (.slot 4) (.con (.int 1)))) .nil))) .nil))) .nil))) (.cons (.ret (.con (.bool false))) .nil) .nil) t21_5)
def t21_3 : Ss := (.cons (.iff (.cmp .ne (.bf .repr (.cons (.slot 5) .nil)) (.bf .repr (.cons (.tup (.cons (.slot 3) (.cons (.slot 1) (.cons (.bf .sum (.cons (.slot 1) .nil)) (.cons (.tup (.cons (.slot 2) (.cons (.slot 4) .nil))) (.cons (.con (.bool true)) .nil)))))) .nil))) (.cons (.ret (.con (.bool false))) .nil) .nil) t21_4)
def t21_2 : Ss := (.cons (.asg (.slot 5) (.tup (.cons (.call 11 (.cons (.slot 1) .nil)) (.cons (.call 7 (.cons (.slot 3) .nil)) (.cons (.call 15 (.cons (.slot 3) .nil)) (.cons (.call 16 (.cons (.slot 3) .nil)) (.cons (.call 4 (.cons (.slot 3) .nil)) .nil))))))) t21_3)
def t21_1 : Ss := (.cons (.asg (.tup (.cons (.slot 2) (.cons (.slot 3) (.cons (.slot 4) .nil)))) (.call 12 (.cons (.slot 1) .nil))) t21_2)
def ss21 : Ss := (.cons (.asg (.slot 1) (.call 14 (.cons (.slot 0) (.cons (.con (.int 5)) (.cons (.con (.int 6)) .nil))))) t21_1)
/-! ### 22: _law_common -/
def ns22 : List Str := (["one", "other"] : List Str)
def ps22 : List Str := (["one", "other"] : List Str)
def ss22 : Ss := (.cons (.whl (.cmp .ne (.slot 1) (.con (.int 0))) (.cons (.par [0, 1] (.cons (.slot 1) (.cons (.op .mod (.bf .int (.cons (.slot 0) .nil)) (.bf .int (.cons (.slot 1) .nil))) .nil))) .nil)) (.cons (.ret (.slot 0)) .nil))
/-! ### 23: _law_slope -/
def ns23 : List Str := (["cup", "most", "one", "other", "share"] : List Str)
def ps23 : List Str := (["cup", "most"] : List Str)
def ss23 : Ss := (.cons (.par [2, 3] (.cons (.op (.add .val) (.con (.int 1)) (.call 1 (.cons (.slot 0) (.cons (.slot 1) .nil)))) (.cons (.op (.add .val) (.con (.int 1)) (.call 1 (.cons (.slot 0) (.cons (.slot 1) .nil)))) .nil))) (.cons (.asg (.slot 4) (.call 22 (.cons (.slot 2) (.cons (.slot 3) .nil)))) (.cons (.ret (.tup (.cons (.op .div (.slot 2) (.slot 4)) (.cons (.op .div (.slot 3) (.slot 4)) .nil)))) .nil)))
/-! ### 24: _law_told -/
def ns24 : List Str := (["rows", "one", "other", "many"] : List Str)
def ps24 : List Str := (["rows"] : List Str)
def g24_0 : G := (.slot 3)
def b24_0 : Ss := (.cons (.par [1, 2] (.cons (.op (.add .val) (.op (.mul .val) (.slot 3) (.slot 1)) (.slot 2)) (.cons (.slot 1) .nil))) .nil)
def ss24 : Ss := (.cons (.par [1, 2] (.cons (.ix (.slot 0) (.neg (.con (.int 1)))) (.cons (.con (.int 1)) .nil))) (.cons (.fr (.it (.rev .val (.sl .val (.slot 0) .none (.some (.neg (.con (.int 1))))))) g24_0 b24_0) (.cons (.ret (.tup (.cons (.slot 1) (.cons (.slot 2) .nil)))) .nil)))
/-! ### 25: quotients_in -/
def ns25 : List Str := (["slope", "one", "other", "found"] : List Str)
def ps25 : List Str := (["slope"] : List Str)
def ss25 : Ss := (.cons (.par [1, 2, 3] (.cons (.ix (.slot 0) (.con (.int 0))) (.cons (.ix (.slot 0) (.con (.int 1))) (.cons (.tup .nil) .nil)))) (.cons (.whl (.cmp .gt (.slot 2) (.con (.int 0))) (.cons (.par [1, 2, 3] (.cons (.slot 2) (.cons (.op .mod (.slot 1) (.slot 2)) (.cons (.op (.add .val) (.slot 3) (.tup (.cons (.op .div (.slot 1) (.slot 2)) .nil))) .nil)))) .nil)) (.cons (.ret (.slot 3)) .nil)))
/-! ### 26: quotients -/
def ns26 : List Str := (["slope"] : List Str)
def ps26 : List Str := (["slope"] : List Str)
def ss26 : Ss := (.cons (.expr (.call 5 (.cons (.slot 0) .nil))) (.cons (.ret (.call 25 (.cons (.slot 0) .nil))) .nil))
/-! ### 27: moved -/
def ns27 : List Str := (["one", "other", "times"] : List Str)
def ps27 : List Str := (["one", "other", "times"] : List Str)
def ss27 : Ss := (.cons (.ret (.tup (.cons (.op (.add .val) (.ix (.slot 0) (.con (.int 0))) (.op (.mul .val) (.slot 2) (.ix (.slot 1) (.con (.int 0))))) (.cons (.op (.add .val) (.ix (.slot 0) (.con (.int 1))) (.op (.mul .val) (.slot 2) (.ix (.slot 1) (.con (.int 1))))) .nil)))) .nil)
/-! ### 28: chain_in -/
def ns28 : List Str := (["slope", "found", "ahead", "here", "many"] : List Str)
def ps28 : List Str := (["slope"] : List Str)
def g28_0 : G := (.slot 4)
def b28_0 : Ss := (.cons (.par [2, 3] (.cons (.slot 3) (.cons (.call 27 (.cons (.slot 2) (.cons (.slot 3) (.cons (.slot 4) .nil)))) .nil))) (.cons (.asg (.slot 1) (.op (.add .val) (.slot 1) (.tup (.cons (.slot 3) .nil)))) .nil))
def ss28 : Ss := (.cons (.asg (.tup (.cons (.slot 1) (.cons (.slot 2) (.cons (.slot 3) .nil)))) (.tup (.cons (.tup .nil) (.cons (.tup (.cons (.con (.int 0)) (.cons (.con (.int 1)) .nil))) (.cons (.tup (.cons (.con (.int 1)) (.cons (.con (.int 0)) .nil))) .nil))))) (.cons (.fr (.it (.call 25 (.cons (.slot 0) .nil))) g28_0 b28_0) (.cons (.ret (.slot 1)) .nil)))
/-! ### 29: chain -/
def ns29 : List Str := (["slope"] : List Str)
def ps29 : List Str := (["slope"] : List Str)
def ss29 : Ss := (.cons (.expr (.call 5 (.cons (.slot 0) .nil))) (.cons (.ret (.call 28 (.cons (.slot 0) .nil))) .nil))
/-! ### 30: _law_great_right -/
def ns30 : List Str := (["cup", "slope", "one", "other", "rows", "due", "runs", "last", "below", "above", "at", "mine", "yours", "many"] : List Str)
def ps30 : List Str := (["cup"] : List Str)
def g30_0 : G := (.slot 10)
def b30_0 : Ss := (.cons (.par [11, 12] (.cons (.op .sub (.op (.mul .val) (.ix (.slot 1) (.con (.int 0))) (.ix (.ix (.slot 5) (.slot 10)) (.con (.int 1)))) (.op (.mul .val) (.ix (.ix (.slot 5) (.slot 10)) (.con (.int 0))) (.ix (.slot 1) (.con (.int 1))))) (.cons (.op .sub (.op (.mul .val) (.ix (.slot 1) (.con (.int 0))) (.ix (.ix (.slot 5) (.op .sub (.slot 10) (.con (.int 1)))) (.con (.int 1)))) (.op (.mul .val) (.ix (.ix (.slot 5) (.op .sub (.slot 10) (.con (.int 1)))) (.con (.int 0))) (.ix (.slot 1) (.con (.int 1))))) .nil))) (.cons (.iff (.bn false (.cmp .gt (.op (.mul .val) (.slot 11) (.slot 12)) (.con (.int 0))) (.b1 (.cmp .ge (.op (.mul .val) (.bf .abs (.cons (.slot 11) .nil)) (.ix (.ix (.slot 5) (.op .sub (.slot 10) (.con (.int 1)))) (.con (.int 1)))) (.op (.mul .val) (.bf .abs (.cons (.slot 12) .nil)) (.ix (.ix (.slot 5) (.slot 10)) (.con (.int 1))))))) (.cons (.ret (.con (.bool false))) .nil) .nil) .nil))
def t30_11 : Ss := (.cons (.ret (.con (.bool true))) .nil)
def t30_10 : Ss := (.cons (.fr (.r2 (.con (.int 1)) (.bf .len (.cons (.slot 5) .nil))) g30_0 b30_0) t30_11)
def t30_9 : Ss := (.cons (.iff (.bn false (.cmp .ne (.tup (.cons (.op (.add .val) (.ix (.slot 8) (.con (.int 0))) (.ix (.slot 9) (.con (.int 0)))) (.cons (.op (.add .val) (.ix (.slot 8) (.con (.int 1))) (.ix (.slot 9) (.con (.int 1)))) .nil))) (.slot 1)) (.b1 (.cmp .ne (.op .sub (.op (.mul .val) (.ix (.slot 9) (.con (.int 0))) (.ix (.slot 8) (.con (.int 1)))) (.op (.mul .val) (.ix (.slot 8) (.con (.int 0))) (.ix (.slot 9) (.con (.int 1))))) (.con (.int 1))))) (.cons (.ret (.con (.bool false))) .nil) .nil) t30_10)
def t30_8 : Ss := (.cons (.asg (.tup (.cons (.slot 8) (.cons (.slot 9) .nil))) (.call 16 (.cons (.slot 1) .nil))) t30_9)
def t30_7 : Ss := (.cons (.iff (.bn false (.cmp .ne (.bf .repr (.cons (.slot 6) .nil)) (.bf .repr (.cons (.slot 7) .nil))) (.bn false (.cmp .ne (.bf .repr (.cons (.call 11 (.cons (.slot 6) .nil)) .nil)) (.bf .repr (.cons (.slot 1) .nil))) (.b1 (.cmp .ne (.bf .repr (.cons (.call 15 (.cons (.slot 1) .nil)) .nil)) (.bf .repr (.cons (.op .sub (.bf .sum (.cons (.slot 4) .nil)) (.con (.int 1))) .nil)))))) (.cons (.ret (.con (.bool false))) .nil) .nil) t30_8)
def t30_6 : Ss := (.cons (.asg (.slot 7) (.op (.add .val) (.sl .val (.slot 4) .none (.some (.neg (.con (.int 1))))) (.ite (.bn false (.cmp .gt (.ix (.slot 4) (.neg (.con (.int 1)))) (.con (.int 1))) (.b1 (.bn true (.cmp .gt (.bf .len (.cons (.slot 4) .nil)) (.con (.int 1))) (.b1 (.cmp .ne (.ix (.slot 4) (.neg (.con (.int 1)))) (.con (.int 1))))))) (.tup (.cons (.op .sub (.ix (.slot 4) (.neg (.con (.int 1)))) (.con (.int 1))) .nil)) (.tup .nil)))) t30_7)
def t30_5 : Ss := (.cons (.asg (.slot 6) (.call 7 (.cons (.slot 1) .nil))) t30_6)
def t30_4 : Ss := (.cons (.iff (.bn false (.cmp .ne (.bf .repr (.cons (.tup (.cons (.call 26 (.cons (.slot 1) .nil)) (.cons (.call 29 (.cons (.slot 1) .nil)) .nil))) .nil)) (.bf .repr (.cons (.tup (.cons (.slot 4) (.cons (.slot 5) .nil))) .nil))) (.b1 (.cmp .ne (.ix (.slot 5) (.neg (.con (.int 1)))) (.slot 1)))) (.cons (.ret (.con (.bool false))) .nil) .nil) t30_5)
def t30_3 : Ss := (.cons (.asg (.slot 5) (.bf .tup (.cons (.comp .val (.r2 (.con (.int 1)) (.op (.add .val) (.bf .len (.cons (.slot 4) .nil)) (.con (.int 1)))) (.slot 13) (.call 24 (.cons (.sl .val (.slot 4) .none (.some (.slot 13))) .nil)) [("many", 13)]) .nil))) t30_4)
def t30_2 : Ss := (.cons (.whl (.cmp .ne (.slot 3) (.con (.int 0))) (.cons (.asg (.tup (.cons (.slot 2) (.cons (.slot 3) (.cons (.slot 4) .nil)))) (.tup (.cons (.slot 3) (.cons (.op .mod (.bf .int (.cons (.slot 2) .nil)) (.bf .int (.cons (.slot 3) .nil))) (.cons (.op (.add .val) (.slot 4) (.tup (.cons (.op .div (.slot 2) (.slot 3)) .nil))) .nil))))) .nil)) t30_3)
def t30_1 : Ss := (.cons (.asg (.tup (.cons (.slot 2) (.cons (.slot 3) (.cons (.slot 4) .nil)))) (.tup (.cons (.ix (.slot 1) (.con (.int 0))) (.cons (.ix (.slot 1) (.con (.int 1))) (.cons (.tup .nil) .nil))))) t30_2)
def ss30 : Ss := (.cons (.asg (.slot 1) (.call 23 (.cons (.slot 0) (.cons (.call 19 (.cons (.slot 0) (.cons (.lst .val (.cons (.con (.int 12)) (.cons (.con (.int 1000)) (.cons (.op .pow (.con (.int 10)) (.con (.int 9))) (.cons (.op .pow (.con (.int 10)) (.con (.int 18))) .nil))))) .nil))) .nil)))) t30_1)
/-! ### 31: law -/
def ns31 : List Str := (["script", "cup", "turn"] : List Str)
def ps31 : List Str := (["script"] : List Str)
def g31_0 : G := (.slot 2)
def b31_0 : Ss := (.cons (.iff (.bn false (.not (.call 21 (.cons (.slot 1) .nil))) (.b1 (.not (.call 30 (.cons (.slot 1) .nil))))) (.cons (.ret (.con (.bool false))) .nil) .nil) .nil)
def ss31 : Ss := (.cons (.asg (.slot 1) (.call 0 (.cons (.slot 0) .nil))) (.cons (.fr (.r1 (.con (.int 6))) g31_0 b31_0) (.cons (.ret (.call 13 (.cons (.slot 1) .nil))) .nil)))
def fns : List Str := (["_law_cup", "_law_roll", "is_tuple_of", "is_whole", "is_slope", "need_slope", "steps_in", "steps_of", "bounds_by", "middle", "fits_runs", "slope_of", "_law_walked", "_law_odds_right", "_law_runs", "depth", "bounds", "_law_path", "next_down", "_law_some", "meeting", "_law_small_right", "_law_common", "_law_slope", "_law_told", "quotients_in", "quotients", "moved", "chain_in", "chain"] : List Str) ++ (["_law_great_right", "law"] : List Str)
def pg : Pg := ⟨0, fns, (["GREAT", "RUNS"] : List Str), (["abs", "all", "bool", "enumerate", "int", "isinstance", "len", "list", "min", "range", "repr", "sorted", "sum", "tuple", "zip"] : List Str), true⟩
end LW

namespace LW
open PySem PySem.Spec PyProof.Rows L2 TL M83

/-! ### contracts -/
def GR : Int := 1000000000000000000
def isWh (t : T) (lo hi : Int) : Bool := match t with
  | .int i => decide (lo ≤ i) && decide (i ≤ hi)
  | _ => false
def simpleT (t : T) : Bool := (isiT .int t).isSome
def isTu (t : T) (lo hi : Int) : Bool := match t with
  | .tup ts => decide (lo ≤ (ts.length : Int)) && decide ((ts.length : Int) ≤ hi)
  | _ => false
def goodT (t : T) : Bool := match t with
  | .tup ts => ts.all simpleT
  | t => simpleT t
def isSl (t : T) : Bool := match t with
  | .tup [.int a, .int b] => isWh (.int a) 1 GR && isWh (.int b) 1 GR && decide (Nat.gcd a.natAbs b.natAbs = 1)
  | _ => false
def iv (r : List Int) : List T := r.map T.int
def pr (p : P2) : T := .tup [.int p.1, .int p.2]
structure Slo (a b : Int) : Prop where
  a1 : 1 ≤ a
  a2 : a ≤ GR
  b1 : 1 ≤ b
  b2 : b ≤ GR
  g : Int.gcd a b = 1
/-- the runs are the slope's -/
structure Of (r : List Int) (a b : Int) : Prop where
  s : Slo a b
  ru : Ru r
  v : vS true r = (a, b)
structure Fit (r : List Int) : Prop where
  ru : Ru r
  l : r.length ≤ 100
  b : ∀ m ∈ r, m ≤ GR
def pathS (r : List Int) : Str := ⟨((pth true r).map fun e => if e then 117 else 100).toArray⟩
/-- the quotients' convergents -/
def convs (q : List Int) : List T := (fw L0 H0 q).map pr
def cupAt (M : Store) (p : Addr) : Prop := M p = some .cup
def c0 : Ct := fun ts M Q _ => match ts with
  | [.scr ns] => ns.length ≤ 63 ∧ ∀ p, M p = none → Q (.loc p) (upS M p .cup)
  | _ => False
def c1 : Ct := fun ts M Q _ => match ts with
  | [.loc p, .int m] => (cupAt M p ∧ 0 < m ∧ m ≤ GR) ∧ ∀ r : Int, 0 ≤ r → r < m → Q (.int r) M
  | _ => False
def c2 : Ct := fun ts M Q _ => match ts with
  | [t, .int lo, .int hi] => simpleT t = true ∧ Q (.bl (isTu t lo hi)) M
  | _ => False
def c3 : Ct := fun ts M Q _ => match ts with
  | [t, .int lo, .int hi] => simpleT t = true ∧ Q (.bl (isWh t lo hi)) M
  | _ => False
def c4 : Ct := fun ts M Q _ => match ts with
  | [t] => (goodT t = true ∧ simpleT t = true) ∧ Q (.bl (isSl t)) M
  | _ => False
def c5 : Ct := fun ts M Q _ => match ts with
  | [.tup [.int a, .int b]] => Slo a b ∧ Q .non M
  | _ => False
def c6 : Ct := fun ts M Q _ => match ts with
  | [.tup [.int a, .int b]] => ∃ r, Of r a b ∧ Q (.tup (iv r)) M
  | _ => False
def c8 : Ct := fun ts M Q _ => ∃ r : List Int, (ts = [.tup (iv r)] ∨ ts = [.lst (iv r)]) ∧ (r.length ≤ 100 ∧ ∀ m ∈ r, 0 ≤ m ∧ m ≤ GR) ∧ Q (.tup [pr (bnd true L0 H0 r).1, pr (bnd true L0 H0 r).2]) M
def c9 : Ct := fun ts M Q _ => match ts with
  | [.tup [.int a, .int b], .tup [.int c, .int d]] => Q (.tup [.int (a + c), .int (b + d)]) M
  | _ => False
def c10 : Ct := fun ts M Q _ => ∃ r : List Int, ts = [.tup (iv r)] ∧ Fit r ∧ Q (.bl true) M
def c11 : Ct := fun ts M Q _ => ∃ r : List Int, ts = [.tup (iv r)] ∧ Fit r ∧ Q (pr (vS true r)) M
def c12 : Ct := fun ts M Q _ => ∃ r : List Int, ts = [.tup (iv r)] ∧ (r.length ≤ 100 ∧ ∀ m ∈ r, 0 ≤ m ∧ m ≤ 100) ∧ Q (.tup [pr (bnd true L0 H0 r).1, pr (vS true r), pr (bnd true L0 H0 r).2]) M
def c13 : Ct := fun ts M Q _ => match ts with
  | [.loc p] => cupAt M p ∧ Q (.bl true) M
  | _ => False
def c14 : Ct := fun ts M Q _ => match ts with
  | [.loc p, .int 5, .int 6] => cupAt M p ∧ ∀ r : List Int, Ru r → r.length ≤ 6 → (∀ m ∈ r, m ≤ 6) → Q (.tup (iv r)) M
  | _ => False
def c15 : Ct := fun ts M Q _ => match ts with
  | [.tup [.int a, .int b]] => ∃ r, Of r a b ∧ Q (.int r.sum) M
  | _ => False
def c16 : Ct := fun ts M Q _ => match ts with
  | [.tup [.int a, .int b]] => ∃ r, Of r a b ∧ Q (.tup [pr (bnd true L0 H0 r).1, pr (bnd true L0 H0 r).2]) M
  | _ => False
def c17 : Ct := fun ts M Q _ => ∃ r : List Int, ts = [.tup (iv r)] ∧ (r.length ≤ 20 ∧ ∀ m ∈ r, 0 ≤ m ∧ m ≤ 20) ∧ Q (.str (pathS r)) M
def c18 : Ct := fun ts M Q _ => match ts with
  | [.tup [.int a, .int b]] => ∃ r, Of r a b ∧ Q (.tup [.tup [.int ((bnd true L0 H0 r).1.1 + a), .int ((bnd true L0 H0 r).1.2 + b)], .tup [.int (a + (bnd true L0 H0 r).2.1), .int (b + (bnd true L0 H0 r).2.2)]]) M
  | _ => False
def c19 : Ct := fun ts M Q _ => match ts with
  | [.loc p, .lst us] => (cupAt M p ∧ us ≠ [] ∧ us.length ≤ 100) ∧ ∀ t ∈ us, Q t M
  | _ => False
def c20 : Ct := fun ts M Q _ => match ts with
  | [.tup [.int a, .int b], .tup [.int c, .int d]] => ∃ r s, Of r a b ∧ Of s c d ∧ Q (pr (vS true (mins r s))) M
  | _ => False
def c22 : Ct := fun ts M Q _ => match ts with
  | [.int a, .int b] => (0 ≤ a ∧ 0 ≤ b) ∧ Q (.int (Int.gcd a b : Nat)) M
  | _ => False
def c23 : Ct := fun ts M Q _ => match ts with
  | [.loc p, .int m] => (cupAt M p ∧ 0 < m ∧ m ≤ GR) ∧ ∀ a b, Slo a b → Q (.tup [.int a, .int b]) M
  | _ => False
def c24 : Ct := fun ts M Q _ => ∃ q : List Int, ts = [.tup (iv q)] ∧ (q ≠ [] ∧ ∀ m ∈ q, 0 ≤ m ∧ m ≤ GR) ∧ Q (pr (cv q)) M
def c25 : Ct := fun ts M Q _ => match ts with
  | [.tup [.int a, .int b]] => (Slo a b ∧ (cf a b).length ≤ 100) ∧ Q (.tup (iv (cf a b))) M
  | _ => False
def c27 : Ct := fun ts M Q _ => match ts with
  | [.tup [.int a, .int b], .tup [.int c, .int d], .int k] => (0 ≤ k ∧ k ≤ GR) ∧ Q (.tup [.int (a + k * c), .int (b + k * d)]) M
  | _ => False
def c28 : Ct := fun ts M Q _ => match ts with
  | [.tup [.int a, .int b]] => (Slo a b ∧ (cf a b).length ≤ 100 ∧ ∀ m ∈ cf a b, 0 ≤ m ∧ m ≤ GR) ∧ Q (.tup (convs (cf a b))) M
  | _ => False
def conts : Nat → Ct
  | 0 => c0
  | 1 => c1
  | 2 => c2
  | 3 => c3
  | 4 => c4
  | 5 => c5
  | 6 => c6
  | 7 => c6
  | 8 => c8
  | 9 => c9
  | 10 => c10
  | 11 => c11
  | 12 => c12
  | 13 => c13
  | 14 => c14
  | 15 => c15
  | 16 => c16
  | 17 => c17
  | 18 => c18
  | 19 => c19
  | 20 => c20
  | 21 => c13
  | 22 => c22
  | 23 => c23
  | 24 => c24
  | 25 => c25
  | 26 => c25
  | 27 => c27
  | 28 => c28
  | 29 => c28
  | 30 => c13
  | _ => lawCt
def Gm : Gam := ⟨conts, fun i => match i with
  | 0 => some (.int GR)
  | 1 => some (.int 100)
  | _ => none⟩
def Pf (i : Nat) (ss : Ss) (ns : List Str) : Prop := ∀ ts M Q E, conts i ts M Q E → dSs Gm ss (rtEnds Q E) (start2 ns ts) M
theorem cell_at (ns : List Int) : ∃ c, atI (ns.map T.int ++ [.int 0]) 0 = some (.int c) := by
  cases ns with
  | nil => exact ⟨0, by simp [atI_0]⟩
  | cons n r => exact ⟨n, by simp [atI_0]⟩
theorem pf0 : Pf 0 ss0 ns0 := fun ts M Q E h => by
  match ts, h with
  | [.scr ns], ⟨hn, q⟩ =>
    show dSs Gm ss0 (rtEnds Q E) [some (.scr ns), none] M
    unfold ss0
    obtain ⟨c, hc⟩ := cell_at ns
    simp (maxSteps := 4000000) only [dSs, dS, dE, dT, dEs, dI, dG, dGs, dO, cond_true, cond_false, opS, cmS, bfS, meS, sSeq, sNext, sPass, sBrk, sCnt, sExpr, sRet, sRet0, sIf, sFor, sAsg, sPar, sNever, tO, tO1, tON, tB2, tCh, tA0, tA1, tTu, tLi, tAn, tOr2, tNo, tIe, tAnT, tOrT, tNoT, tTr, tSlot, TL.tCon, tGlo, conT, tIsi, tCl, tFrz, tSl2, tP0, tP1, tRev, tMeL, tMeS, gSl, gsNil, gsCons, gTu, gSb, Gs.len, addS, subS, mulS, divS, modS, powS, negS, cmpS, eqS_int, neS_int, eqS_str, neS_str, isS, lenS, absS, intS, tupS, listS, sumS, allS, gcdS, newL, ixS, slS, truT, itemsOf, lsOf, sqOf, tItA, tItE, tItR1, tItR2, tItZ, List.zip_cons_cons, List.zip_nil_left, List.zip_nil_right, List.foldl_cons, List.foldl_nil, List.getElem?_cons_zero, List.getElem?_cons_succ, List.set_cons_zero, List.set_cons_succ, List.length_cons, List.length_nil, Int.reduceEq, Int.reduceNeg, true_and, false_and, and_true, or_false, false_or, eq_self, T.int.injEq, exists_eq_left, exists_eq_left', setS, appS, upS_same, isLs_own, joinS, minS, zipT]
    refine ⟨by simp [sizeLine], by simp [sizeLine]; omega, .int c, hc, ?_⟩
    simp (maxSteps := 4000000) only [dSs, dS, dE, dT, dEs, dI, dG, dGs, dO, cond_true, cond_false, opS, cmS, bfS, meS, sSeq, sNext, sPass, sBrk, sCnt, sExpr, sRet, sRet0, sIf, sFor, sAsg, sPar, sNever, tO, tO1, tON, tB2, tCh, tA0, tA1, tTu, tLi, tAn, tOr2, tNo, tIe, tAnT, tOrT, tNoT, tTr, tSlot, TL.tCon, tGlo, conT, tIsi, tCl, tFrz, tSl2, tP0, tP1, tRev, tMeL, tMeS, gSl, gsNil, gsCons, gTu, gSb, Gs.len, addS, subS, mulS, divS, modS, powS, negS, cmpS, eqS_int, neS_int, eqS_str, neS_str, isS, lenS, absS, intS, tupS, listS, sumS, allS, gcdS, newL, ixS, slS, truT, itemsOf, lsOf, sqOf, tItA, tItE, tItR1, tItR2, tItZ, List.zip_cons_cons, List.zip_nil_left, List.zip_nil_right, List.foldl_cons, List.foldl_nil, List.getElem?_cons_zero, List.getElem?_cons_succ, List.set_cons_zero, List.set_cons_succ, List.length_cons, List.length_nil, Int.reduceEq, Int.reduceNeg, true_and, false_and, and_true, or_false, false_or, eq_self, T.int.injEq, exists_eq_left, exists_eq_left', setS, appS, upS_same, isLs_own, joinS, minS, zipT]
    generalize (if c < 0 then -c else c) = d
    refine ⟨by decide, ?_⟩
    rw [Br_iff]
    have fin : ∀ x : Int, MulOk d 367 ∧ (0:Int) < 2077503499 ∧ 2 ≤ sizeLine ∧ ∃ i j : Int, [T.int x, T.int ((d * 367 + 4129) % 2077503499 + 227)] = [.int i, .int j] ∧ 0 ≤ j ∧ j < 4294967296 ∧ ∀ p, M p = none → (rtEnds Q E).rt (.loc p) (upS M p .cup) := fun x => by
      refine ⟨mul_r (by decide) (by decide), by decide, by decide, x, _, rfl, ?_, ?_, fun p hp => rt_ok (q p hp)⟩ <;> omega
    split
    · refine ⟨pos_ok (by decide) (by decide), ?_⟩
      exact fin _
    · exact fin _
theorem pf1 : Pf 1 ss1 ns1 := fun ts M Q E h => by
  match ts, h with
  | [.loc p, .int m], ⟨⟨hp, h0, h1⟩, q⟩ =>
    show dSs Gm ss1 (rtEnds Q E) [some (.loc p), some (.int m), none, none] M
    have hp : M p = some .cup := hp
    have h1 : m ≤ 1000000000000000000 := h1
    have fin : ∀ x : Int, (rtEnds Q E).rt (.int (x % m)) M := fun x => rt_ok (q _ (Int.emod_nonneg _ (by omega)) (Int.emod_lt_of_pos _ h0))
    unfold ss1
    simp (maxSteps := 4000000) only [dSs, dS, dE, dT, dEs, dI, dG, dGs, dO, cond_true, cond_false, opS, cmS, bfS, meS, sSeq, sNext, sPass, sBrk, sCnt, sExpr, sRet, sRet0, sIf, sFor, sAsg, sPar, sNever, tO, tO1, tON, tB2, tCh, tA0, tA1, tTu, tLi, tAn, tOr2, tNo, tIe, tAnT, tOrT, tNoT, tTr, tSlot, TL.tCon, tGlo, conT, tIsi, tCl, tFrz, tSl2, tP0, tP1, tRev, tMeL, tMeS, gSl, gsNil, gsCons, gTu, gSb, Gs.len, addS, subS, mulS, divS, modS, powS, negS, cmpS, eqS_int, neS_int, eqS_str, neS_str, isS, lenS, absS, intS, tupS, listS, sumS, allS, gcdS, newL, ixS, slS, truT, itemsOf, lsOf, sqOf, tItA, tItE, tItR1, tItR2, tItZ, List.zip_cons_cons, List.zip_nil_left, List.zip_nil_right, List.foldl_cons, List.foldl_nil, List.getElem?_cons_zero, List.getElem?_cons_succ, List.set_cons_zero, List.set_cons_succ, List.length_cons, List.length_nil, Int.reduceEq, Int.reduceNeg, true_and, false_and, and_true, or_false, false_or, eq_self, T.int.injEq, exists_eq_left, exists_eq_left', setS, appS, upS_same, isLs_own, joinS, minS, zipT, hp]
    intro n
    rw [Br_iff]
    split
    · exact fun n2 => ⟨h0, fun n3 => ⟨pos_ok h0 (by omega), fin n2⟩⟩
    · refine fun a a0 a1 => ⟨mul_r (by decide) (by decide), by decide, by omega, by omega, ?_⟩
      exact fun b b0 b1 c c0 c1 => ⟨mul_l (by omega) (by omega), by decide, pos_ok (by decide) (by decide), h0, fin _⟩
theorem pf2 : Pf 2 ss2 ns2 := fun ts M Q E h => by
  match ts, h with
  | [t, .int lo, .int hi], ⟨h, q⟩ =>
    show dSs Gm ss2 (rtEnds Q E) [some t, some (.int lo), some (.int hi)] M
    have q := rt_ok (E := E) q
    unfold ss2
    simp (maxSteps := 4000000) only [dSs, dS, dE, dT, dEs, dI, dG, dGs, dO, cond_true, cond_false, opS, cmS, bfS, meS, sSeq, sNext, sPass, sBrk, sCnt, sExpr, sRet, sRet0, sIf, sFor, sAsg, sPar, sNever, tO, tO1, tON, tB2, tCh, tA0, tA1, tTu, tLi, tAn, tOr2, tNo, tIe, tAnT, tOrT, tNoT, tTr, tSlot, TL.tCon, tGlo, conT, tIsi, tCl, tFrz, tSl2, tP0, tP1, tRev, tMeL, tMeS, gSl, gsNil, gsCons, gTu, gSb, Gs.len, addS, subS, mulS, divS, modS, powS, negS, cmpS, eqS_int, neS_int, eqS_str, neS_str, isS, lenS, absS, intS, tupS, listS, sumS, allS, gcdS, newL, ixS, slS, truT, itemsOf, lsOf, sqOf, tItA, tItE, tItR1, tItR2, tItZ, List.zip_cons_cons, List.zip_nil_left, List.zip_nil_right, List.foldl_cons, List.foldl_nil, List.getElem?_cons_zero, List.getElem?_cons_succ, List.set_cons_zero, List.set_cons_succ, List.length_cons, List.length_nil, Int.reduceEq, Int.reduceNeg, true_and, false_and, and_true, or_false, false_or, eq_self, T.int.injEq, exists_eq_left, exists_eq_left', setS, appS, upS_same, isLs_own, joinS, minS, zipT]
    cases t <;> simp_all [simpleT, isiT, isTu, Ty.isL, Br_iff]
    split <;> simp_all
theorem pf3 : Pf 3 ss3 ns3 := fun ts M Q E h => by
  match ts, h with
  | [t, .int lo, .int hi], ⟨h, q⟩ =>
    show dSs Gm ss3 (rtEnds Q E) [some t, some (.int lo), some (.int hi)] M
    have q := rt_ok (E := E) q
    unfold ss3
    simp (maxSteps := 4000000) only [dSs, dS, dE, dT, dEs, dI, dG, dGs, dO, cond_true, cond_false, opS, cmS, bfS, meS, sSeq, sNext, sPass, sBrk, sCnt, sExpr, sRet, sRet0, sIf, sFor, sAsg, sPar, sNever, tO, tO1, tON, tB2, tCh, tA0, tA1, tTu, tLi, tAn, tOr2, tNo, tIe, tAnT, tOrT, tNoT, tTr, tSlot, TL.tCon, tGlo, conT, tIsi, tCl, tFrz, tSl2, tP0, tP1, tRev, tMeL, tMeS, gSl, gsNil, gsCons, gTu, gSb, Gs.len, addS, subS, mulS, divS, modS, powS, negS, cmpS, eqS_int, neS_int, eqS_str, neS_str, isS, lenS, absS, intS, tupS, listS, sumS, allS, gcdS, newL, ixS, slS, truT, itemsOf, lsOf, sqOf, tItA, tItE, tItR1, tItR2, tItZ, List.zip_cons_cons, List.zip_nil_left, List.zip_nil_right, List.foldl_cons, List.foldl_nil, List.getElem?_cons_zero, List.getElem?_cons_succ, List.set_cons_zero, List.set_cons_succ, List.length_cons, List.length_nil, Int.reduceEq, Int.reduceNeg, true_and, false_and, and_true, or_false, false_or, eq_self, T.int.injEq, exists_eq_left, exists_eq_left', setS, appS, upS_same, isLs_own, joinS, minS, zipT]
    cases t <;> simp_all [simpleT, isiT, isWh, Ty.isL, Br_iff]
    split <;> simp_all
end LW

namespace LW
open PySem PySem.Spec PyProof.Rows L2 TL M83

theorem all_simple {ts : List T} {lo hi : Int} : (ts.map fun t => T.bl (isWh t lo hi)) = (ts.map fun t => isWh t lo hi).map T.bl := by rw [List.map_map]; rfl
theorem isSl_len {t : T} (h : isTu t 2 2 = false) : isSl t = false := by
  unfold isSl
  split
  · simp [isTu] at h
  · rfl
theorem isSl_ints {a b : Int} : isSl (.tup [.int a, .int b]) = (isWh (.int a) 1 GR && isWh (.int b) 1 GR && decide (Nat.gcd a.natAbs b.natAbs = 1)) := rfl
theorem pf4 : Pf 4 ss4 ns4 := fun ts M Q E h => by
  match ts, h with
  | [t], ⟨⟨h1, h2⟩, q⟩ =>
    show dSs Gm ss4 (rtEnds Q E) [some t, none] M
    have q := rt_ok (E := E) q
    unfold ss4
    simp (maxSteps := 4000000) only [dSs, dS, dE, dT, dEs, dI, dG, dGs, dO, cond_true, cond_false, opS, cmS, bfS, meS, sSeq, sNext, sPass, sBrk, sCnt, sExpr, sRet, sRet0, sIf, sFor, sAsg, sPar, sNever, tO, tO1, tON, tB2, tCh, tA0, tA1, tTu, tLi, tAn, tOr2, tNo, tIe, tAnT, tOrT, tNoT, tTr, tSlot, TL.tCon, tGlo, conT, tIsi, tCl, tFrz, tSl2, tP0, tP1, tRev, tMeL, tMeS, gSl, gsNil, gsCons, gTu, gSb, Gs.len, addS, subS, mulS, divS, modS, powS, negS, cmpS, eqS_int, neS_int, eqS_str, neS_str, isS, lenS, absS, intS, tupS, listS, sumS, allS, gcdS, newL, ixS, slS, truT, itemsOf, lsOf, sqOf, tItA, tItE, tItR1, tItR2, tItZ, List.zip_cons_cons, List.zip_nil_left, List.zip_nil_right, List.foldl_cons, List.foldl_nil, List.getElem?_cons_zero, List.getElem?_cons_succ, List.set_cons_zero, List.set_cons_succ, List.length_cons, List.length_nil, Int.reduceEq, Int.reduceNeg, true_and, false_and, and_true, or_false, false_or, eq_self, T.int.injEq, exists_eq_left, exists_eq_left', setS, appS, upS_same, isLs_own, joinS, minS, zipT, Gm, conts, c2, c3, Br_iff, Bool.not_eq_true]
    refine ⟨h2, ?_⟩
    cases hT : isTu t 2 2 with
    | false =>
      rw [isSl_len hT] at q
      simpa using q
    | true =>
      cases t with
      | tup us =>
        have hl : us.length = 2 := by simp [isTu] at hT; omega
        have hg : ∀ u ∈ us, simpleT u = true := List.all_eq_true.mp h1
        simp only [Bool.not_true, Bool.false_eq_true, if_false]
        unfold tComp
        simp (maxSteps := 4000000) only [dSs, dS, dE, dT, dEs, dI, dG, dGs, dO, cond_true, cond_false, opS, cmS, bfS, meS, sSeq, sNext, sPass, sBrk, sCnt, sExpr, sRet, sRet0, sIf, sFor, sAsg, sPar, sNever, tO, tO1, tON, tB2, tCh, tA0, tA1, tTu, tLi, tAn, tOr2, tNo, tIe, tAnT, tOrT, tNoT, tTr, tSlot, TL.tCon, tGlo, conT, tIsi, tCl, tFrz, tSl2, tP0, tP1, tRev, tMeL, tMeS, gSl, gsNil, gsCons, gTu, gSb, Gs.len, addS, subS, mulS, divS, modS, powS, negS, cmpS, eqS_int, neS_int, eqS_str, neS_str, isS, lenS, absS, intS, tupS, listS, sumS, allS, gcdS, newL, ixS, slS, truT, itemsOf, lsOf, sqOf, tItA, tItE, tItR1, tItR2, tItZ, List.zip_cons_cons, List.zip_nil_left, List.zip_nil_right, List.foldl_cons, List.foldl_nil, List.getElem?_cons_zero, List.getElem?_cons_succ, List.set_cons_zero, List.set_cons_succ, List.length_cons, List.length_nil, Int.reduceEq, Int.reduceNeg, true_and, false_and, and_true, or_false, false_or, eq_self, T.int.injEq, exists_eq_left, exists_eq_left', setS, appS, upS_same, isLs_own, joinS, minS, zipT]
        refine ⟨by rw [hl]; decide, ?_⟩
        refine compL_map (fun t => T.bl (isWh t 1 GR)) us [] (fun u hu k hk => ?_) ?_
        · show (simpleT u = true ∧ k _ M)
          exact ⟨hg u hu, hk⟩
        · rw [List.nil_append, all_simple, boolsOf_map]
          simp (maxSteps := 4000000) only [dSs, dS, dE, dT, dEs, dI, dG, dGs, dO, cond_true, cond_false, opS, cmS, bfS, meS, sSeq, sNext, sPass, sBrk, sCnt, sExpr, sRet, sRet0, sIf, sFor, sAsg, sPar, sNever, tO, tO1, tON, tB2, tCh, tA0, tA1, tTu, tLi, tAn, tOr2, tNo, tIe, tAnT, tOrT, tNoT, tTr, tSlot, TL.tCon, tGlo, conT, tIsi, tCl, tFrz, tSl2, tP0, tP1, tRev, tMeL, tMeS, gSl, gsNil, gsCons, gTu, gSb, Gs.len, addS, subS, mulS, divS, modS, powS, negS, cmpS, eqS_int, neS_int, eqS_str, neS_str, isS, lenS, absS, intS, tupS, listS, sumS, allS, gcdS, newL, ixS, slS, truT, itemsOf, lsOf, sqOf, tItA, tItE, tItR1, tItR2, tItZ, List.zip_cons_cons, List.zip_nil_left, List.zip_nil_right, List.foldl_cons, List.foldl_nil, List.getElem?_cons_zero, List.getElem?_cons_succ, List.set_cons_zero, List.set_cons_succ, List.length_cons, List.length_nil, Int.reduceEq, Int.reduceNeg, true_and, false_and, and_true, or_false, false_or, eq_self, T.int.injEq, exists_eq_left, exists_eq_left', setS, appS, upS_same, isLs_own, joinS, minS, zipT]
          match us, hl with
          | [x, y], _ =>
            have key : isSl (.tup [x, y]) = true → ∃ a b, x = .int a ∧ y = .int b := fun h => by
              unfold isSl at h
              split at h
              · rename_i e; cases e; exact ⟨_, _, rfl, rfl⟩
              · cases h
            cases hx : isWh x 1 GR with
            | false =>
              have e : isSl (.tup [x, y]) = false := by
                cases hs : isSl (.tup [x, y]) with
                | false => rfl
                | true =>
                  obtain ⟨a, b, rfl, rfl⟩ := key hs
                  rw [isSl_ints, hx] at hs
                  cases hs
              rw [e] at q
              simpa [hx] using q
            | true =>
              cases hy : isWh y 1 GR with
              | false =>
                have e : isSl (.tup [x, y]) = false := by
                  cases hs : isSl (.tup [x, y]) with
                  | false => rfl
                  | true =>
                    obtain ⟨a, b, rfl, rfl⟩ := key hs
                    rw [isSl_ints, hx, hy] at hs
                    cases hs
                rw [e] at q
                simpa [hx, hy] using q
              | true =>
                cases x with
                | int a =>
                  cases y with
                  | int b =>
                    rw [isSl_ints, hx, hy] at q
                    simp [hx, hy, atI_0, atI_1]
                    have e : decide (((Nat.gcd a.natAbs b.natAbs : Nat) : Int) = 1) = decide (Nat.gcd a.natAbs b.natAbs = 1) := by
                      by_cases h : Nat.gcd a.natAbs b.natAbs = 1
                      · rw [decide_eq_true h, decide_eq_true (by omega)]
                      · rw [decide_eq_false h, decide_eq_false (by omega)]
                    rw [e]
                    simpa using q
                  | _ => cases hy
                | _ => cases hx
      | _ => cases hT
theorem pf5 : Pf 5 ss5 ns5 := fun ts M Q E h => by
  match ts, h with
  | [.tup [.int a, .int b]], ⟨s, q⟩ =>
    show dSs Gm ss5 (rtEnds Q E) [some (.tup [.int a, .int b])] M
    have e : isSl (.tup [.int a, .int b]) = true := by
      have g : Nat.gcd a.natAbs b.natAbs = 1 := s.g
      simp [isSl, isWh, s.a1, s.a2, s.b1, s.b2, g]
    unfold ss5
    simp (maxSteps := 4000000) only [dSs, dS, dE, dT, dEs, dI, dG, dGs, dO, cond_true, cond_false, opS, cmS, bfS, meS, sSeq, sNext, sPass, sBrk, sCnt, sExpr, sRet, sRet0, sIf, sFor, sAsg, sPar, sNever, tO, tO1, tON, tB2, tCh, tA0, tA1, tTu, tLi, tAn, tOr2, tNo, tIe, tAnT, tOrT, tNoT, tTr, tSlot, TL.tCon, tGlo, conT, tIsi, tCl, tFrz, tSl2, tP0, tP1, tRev, tMeL, tMeS, gSl, gsNil, gsCons, gTu, gSb, Gs.len, addS, subS, mulS, divS, modS, powS, negS, cmpS, eqS_int, neS_int, eqS_str, neS_str, isS, lenS, absS, intS, tupS, listS, sumS, allS, gcdS, newL, ixS, slS, truT, itemsOf, lsOf, sqOf, tItA, tItE, tItR1, tItR2, tItZ, List.zip_cons_cons, List.zip_nil_left, List.zip_nil_right, List.foldl_cons, List.foldl_nil, List.getElem?_cons_zero, List.getElem?_cons_succ, List.set_cons_zero, List.set_cons_succ, List.length_cons, List.length_nil, Int.reduceEq, Int.reduceNeg, true_and, false_and, and_true, or_false, false_or, eq_self, T.int.injEq, exists_eq_left, exists_eq_left', setS, appS, upS_same, isLs_own, joinS, minS, zipT, Gm, conts, c4, e, Br_iff]
    refine ⟨⟨by simp [goodT, simpleT, isiT], by simp [simpleT, isiT]⟩, ?_⟩
    simpa using nx_ok q
end LW

namespace LW
open PySem PySem.Spec PyProof.Rows L2 TL M83

def ev (n : Nat) : Bool := decide (n % 2 = 0)
theorem ev_succ (n : Nat) : ev (n + 1) = !ev n := by
  unfold ev
  by_cases h : n % 2 = 0
  · rw [decide_eq_true h, decide_eq_false (by omega)]; rfl
  · rw [decide_eq_false h, decide_eq_true (by omega)]; rfl
theorem even_dec (n : Nat) : decide (((n : Int) % 2) = 0) = ev n := by
  unfold ev
  by_cases h : n % 2 = 0
  · rw [decide_eq_true h, decide_eq_true (by omega)]
  · rw [decide_eq_false h, decide_eq_false (by omega)]
theorem iv_len (r : List Int) : (iv r).length = r.length := List.length_map _
theorem iv_app (r s : List Int) : iv (r ++ s) = iv r ++ iv s := List.map_append
theorem iv_one (k : Int) : iv [k] = [.int k] := rfl
theorem ru_or {r : List Int} (h : Hd r) (hr : (vS true r).1 ≠ (vS true r).2 ↔ r ≠ []) : True := trivial
/-- one turn: the pair, what comes -/
structure At (r0 done r : List Int) (a b : Int) : Prop where
  e : r0 = done ++ r
  v : vS (ev done.length) r = (a, b)
  h : (done = [] ∧ Ru r) ∨ (done ≠ [] ∧ Tl r)
  a1 : 1 ≤ a
  a2 : a ≤ GR
  b1 : 1 ≤ b
  b2 : b ≤ GR
theorem At.hd {r0 done r : List Int} {a b : Int} (h : At r0 done r a b) : Hd r := by
  rcases h.h with ⟨_, h⟩ | ⟨_, h⟩
  · exact h.hd
  · exact h.hd
theorem At.ne {r0 done r : List Int} {a b : Int} (h : At r0 done r a b) : a = b ↔ r = [] := by
  have v1 : a = (vS (ev done.length) r).1 := by rw [h.v]
  have v2 : b = (vS (ev done.length) r).2 := by rw [h.v]
  constructor
  · intro e
    cases hr : r with
    | nil => rfl
    | cons k t =>
      exfalso
      have ne : r ≠ [] := by rw [hr]; exact List.cons_ne_nil _ _
      rcases h.h with ⟨hd, h1⟩ | ⟨_, h1⟩
      · subst hd
        exact vS_ne h1 ne (by rw [show (true : Bool) = ev ([] : List Int).length from rfl, ← v1, ← v2, e])
      · exact vS_ne' h1 ne _ (by rw [← v1, ← v2, e])
  · intro e
    subst e
    rw [v1, v2]
    cases ev done.length <;> rfl
/-- upward -/
theorem At.up {r0 done r : List Int} {a b : Int} {k : Int} (h : At r0 done (k :: r) a b) (e : ev done.length = true) : (a - 1) / b = k ∧ At r0 (done ++ [k]) r (a - k * b) b := by
  have hd := h.hd
  have v := h.v
  rw [e] at v
  have s := step_up (m := k) hd.2
  rw [v] at s
  dsimp only at s
  have p := vS_pos r false hd.2.nn
  have v2 : (vS false r).2 = b := by
    have : (vS true (k :: r)).2 = (vS false r).2 := rfl
    rw [← this, v]
  have kb : 0 ≤ k * b := Int.mul_nonneg hd.1 (by have := h.b1; omega)
  refine ⟨s.1, ?_, ?_, .inr ⟨by simp, hd.2⟩, ?_, ?_, h.b1, h.b2⟩
  · rw [h.e]; simp
  · rw [List.length_append]
    show vS (ev (done.length + 1)) r = _
    rw [ev_succ, e]
    show vS false r = _
    rw [s.2, ← v2]
  · rw [s.2]; exact p.1
  · have := h.a2; omega
theorem At.dn {r0 done r : List Int} {a b : Int} {k : Int} (h : At r0 done (k :: r) a b) (e : ev done.length = false) : (b - 1) / a = k ∧ At r0 (done ++ [k]) r a (b - k * a) := by
  have hd := h.hd
  have v := h.v
  rw [e] at v
  have s := step_dn (m := k) hd.2
  rw [v] at s
  dsimp only at s
  have p := vS_pos r true hd.2.nn
  have v2 : (vS true r).1 = a := by
    have : (vS false (k :: r)).1 = (vS true r).1 := rfl
    rw [← this, v]
  have kb : 0 ≤ k * a := Int.mul_nonneg hd.1 (by have := h.a1; omega)
  refine ⟨s.1, ?_, ?_, .inr ⟨by simp, hd.2⟩, h.a1, h.a2, ?_, ?_⟩
  · rw [h.e]; simp
  · rw [List.length_append]
    show vS (ev (done.length + 1)) r = _
    rw [ev_succ, e]
    show vS true r = _
    rw [s.2, ← v2]
  · rw [s.2]; exact p.2
  · have := h.b2; omega
theorem of_at {r : List Int} {a b : Int} (h : Of r a b) : At r [] r a b := ⟨rfl, h.v, .inl ⟨rfl, h.ru⟩, h.s.a1, h.s.a2, h.s.b1, h.s.b2⟩
theorem of_len {r : List Int} {a b : Int} (h : Of r a b) : r.length ≤ 98 := ru_len h.ru (by rw [h.v]; exact h.s.b2)
theorem gr_lt : GR < 2 ^ 64 := by decide
theorem pf6 : Pf 6 ss6 ns6 := fun ts M Q E h => by
  match ts, h with
  | [.tup [.int a, .int b]], ⟨r0, of, q⟩ =>
    show dSs Gm ss6 (rtEnds Q E) [some (.tup [.int a, .int b]), none, none, none, none, none] M
    have ln := of_len of
    unfold ss6
    simp (maxSteps := 4000000) only [dSs, dS, dE, dT, dEs, dI, dG, dGs, dO, cond_true, cond_false, opS, cmS, bfS, meS, sSeq, sNext, sPass, sBrk, sCnt, sExpr, sRet, sRet0, sIf, sFor, sAsg, sPar, sNever, tO, tO1, tON, tB2, tCh, tA0, tA1, tTu, tLi, tAn, tOr2, tNo, tIe, tAnT, tOrT, tNoT, tTr, tSlot, TL.tCon, tGlo, conT, tIsi, tCl, tFrz, tSl2, tP0, tP1, tRev, tMeL, tMeS, gSl, gsNil, gsCons, gTu, gSb, Gs.len, addS, subS, mulS, divS, modS, powS, negS, cmpS, eqS_int, neS_int, eqS_str, neS_str, isS, lenS, absS, intS, tupS, listS, sumS, allS, gcdS, newL, ixS, slS, truT, itemsOf, lsOf, sqOf, tItA, tItE, tItR1, tItR2, tItZ, List.zip_cons_cons, List.zip_nil_left, List.zip_nil_right, List.foldl_cons, List.foldl_nil, List.getElem?_cons_zero, List.getElem?_cons_succ, List.set_cons_zero, List.set_cons_succ, List.length_cons, List.length_nil, Int.reduceEq, Int.reduceNeg, true_and, false_and, and_true, or_false, false_or, eq_self, T.int.injEq, exists_eq_left, exists_eq_left', setS, appS, upS_same, isLs_own, joinS, minS, zipT]
    refine ⟨by decide, fun p hp => ?_⟩
    unfold sWhile
    refine ⟨fun m ρ M' => ∃ (done r : List Int) (x y : Int) (z : Option T), At r0 done r x y ∧ m = r.length ∧ M' = upS M p (.lst (iv done)) ∧ ρ = [some (.tup [.int a, .int b]), some (.int x), some (.int y), some (.loc p), some (.int (done.length : Nat)), z],
      ⟨r0.length, [], r0, a, b, none, of_at of, rfl, rfl, rfl⟩, ?_⟩
    rintro m ρ M' ⟨done, r, x, y, z, at_, rfl, rfl, rfl⟩
    have g := gr_lt
    have a2 := at_.a2
    have b2 := at_.b2
    have a1 := at_.a1
    have b1 := at_.b1
    simp (maxSteps := 4000000) only [dSs, dS, dE, dT, dEs, dI, dG, dGs, dO, cond_true, cond_false, opS, cmS, bfS, meS, sSeq, sNext, sPass, sBrk, sCnt, sExpr, sRet, sRet0, sIf, sFor, sAsg, sPar, sNever, tO, tO1, tON, tB2, tCh, tA0, tA1, tTu, tLi, tAn, tOr2, tNo, tIe, tAnT, tOrT, tNoT, tTr, tSlot, TL.tCon, tGlo, conT, tIsi, tCl, tFrz, tSl2, tP0, tP1, tRev, tMeL, tMeS, gSl, gsNil, gsCons, gTu, gSb, Gs.len, addS, subS, mulS, divS, modS, powS, negS, cmpS, eqS_int, neS_int, eqS_str, neS_str, isS, lenS, absS, intS, tupS, listS, sumS, allS, gcdS, newL, ixS, slS, truT, itemsOf, lsOf, sqOf, tItA, tItE, tItR1, tItR2, tItZ, List.zip_cons_cons, List.zip_nil_left, List.zip_nil_right, List.foldl_cons, List.foldl_nil, List.getElem?_cons_zero, List.getElem?_cons_succ, List.set_cons_zero, List.set_cons_succ, List.length_cons, List.length_nil, Int.reduceEq, Int.reduceNeg, true_and, false_and, and_true, or_false, false_or, eq_self, T.int.injEq, exists_eq_left, exists_eq_left', setS, appS, upS_same, isLs_own, joinS, minS, zipT, Br_iff]
    by_cases hxy : x = y
    · have hr := at_.ne.mp hxy
      subst hr
      rw [if_neg (by simp [hxy])]
      have e : r0 = done := by have := at_.e; simpa using this
      rw [← e]
      exact rt_sub (TL.Sub.up hp) q
    · have hr : r ≠ [] := fun h => hxy (at_.ne.mpr h)
      obtain ⟨k, t, rfl⟩ := List.exists_cons_of_ne_nil hr
      rw [if_pos (by simp [hxy])]
      have hl : done.length < r0.length := by rw [at_.e, List.length_append, List.length_cons]; omega
      have room : (iv done).length < sizeLine := by rw [iv_len]; show _ < 16777216; omega
      refine ⟨by decide, ?_⟩
      rw [even_dec]
      have fin : ∀ x' y' : Int, At r0 (done ++ [k]) t x' y' → ∃ m', m' < (k :: t).length ∧ ∃ (d2 r2 : List Int) (x y : Int) (z : Option T), At r0 d2 r2 x y ∧ m' = r2.length ∧ upS (upS M p (.lst (iv done))) p (.lst (iv done ++ [.int k])) = upS M p (.lst (iv d2)) ∧
          [some (T.tup [.int a, .int b]), some (.int x'), some (.int y'), some (.loc p), some (.int ((done.length : Int) + 1)), some (T.int k)] = [some (.tup [.int a, .int b]), some (.int x), some (.int y), some (.loc p), some (.int (d2.length : Nat)), z] := fun x' y' h => by
        refine ⟨t.length, by simp, done ++ [k], t, x', y', some (.int k), h, rfl, ?_, ?_⟩
        · rw [upS_upS, iv_app, iv_one]
        · rw [List.length_append]; rfl
      cases he : ev done.length with
      | true =>
        rw [if_pos rfl]
        obtain ⟨e1, e2⟩ := at_.up he
        refine ⟨pos_ok (by omega) (by omega), mul_r (by omega) (by omega), room, ?_⟩
        rw [e1]
        exact fin _ _ e2
      | false =>
        rw [if_neg (by simp)]
        obtain ⟨e1, e2⟩ := at_.dn he
        refine ⟨pos_ok (by omega) (by omega), mul_r (by omega) (by omega), room, ?_⟩
        rw [e1]
        exact fin _ _ e2
end LW

namespace LW
open PySem PySem.Spec PyProof.Rows L2 TL M83

theorem pf7 : Pf 7 ss7 ns7 := fun ts M Q E h => by
  match ts, h with
  | [.tup [.int a, .int b]], ⟨r, of, q⟩ =>
    show dSs Gm ss7 (rtEnds Q E) [some (.tup [.int a, .int b])] M
    unfold ss7
    simp (maxSteps := 4000000) only [dSs, dS, dE, dT, dEs, dI, dG, dGs, dO, cond_true, cond_false, opS, cmS, bfS, meS, sSeq, sNext, sPass, sBrk, sCnt, sExpr, sRet, sRet0, sIf, sFor, sAsg, sPar, sNever, tO, tO1, tON, tB2, tCh, tA0, tA1, tTu, tLi, tAn, tOr2, tNo, tIe, tAnT, tOrT, tNoT, tTr, tSlot, TL.tCon, tGlo, conT, tIsi, tCl, tFrz, tSl2, tP0, tP1, tRev, tMeL, tMeS, gSl, gsNil, gsCons, gTu, gSb, Gs.len, addS, subS, mulS, divS, modS, powS, negS, cmpS, eqS_int, neS_int, eqS_str, neS_str, isS, lenS, absS, intS, tupS, listS, sumS, allS, gcdS, newL, ixS, slS, truT, itemsOf, lsOf, sqOf, tItA, tItE, tItR1, tItR2, tItZ, List.zip_cons_cons, List.zip_nil_left, List.zip_nil_right, List.foldl_cons, List.foldl_nil, List.getElem?_cons_zero, List.getElem?_cons_succ, List.set_cons_zero, List.set_cons_succ, List.length_cons, List.length_nil, Int.reduceEq, Int.reduceNeg, true_and, false_and, and_true, or_false, false_or, eq_self, T.int.injEq, exists_eq_left, exists_eq_left', setS, appS, upS_same, isLs_own, joinS, minS, zipT, Gm, conts, c5, c6]
    exact ⟨of.s, r, of, rt_ok q⟩
def enumF (k : Nat) (ts : List T) : List T := (ts.zipIdx k).map fun p => T.tup [.int (p.2 : Nat), p.1]
theorem enum0 (ts : List T) : enumT ts = enumF 0 ts := rfl
theorem loop8 (rt : T) (D : Ends2) (M : Store) : ∀ (r : List Int) (k : Nat) (l h : P2) (x y : Option T), (∀ m ∈ r, 0 ≤ m ∧ m ≤ GR) →
    (∀ x y, D.nx [some rt, some (pr (bnd (ev k) l h r).1), some (pr (bnd (ev k) l h r).2), x, y] M) → forL (dG Gm g8_0) (dSs Gm b8_0) D (enumF k (iv r)) [some rt, some (pr l), some (pr h), x, y] M
  | [], k, l, h, x, y, _, q => by
    unfold forL
    have q := q x y
    cases he : ev k <;> (rw [he] at q; exact q)
  | m :: r, k, l, h, x, y, hb, q => by
    have hb' : ∀ z ∈ r, 0 ≤ z ∧ z ≤ GR := fun z hz => hb z (List.mem_cons_of_mem _ hz)
    have hm := hb m List.mem_cons_self
    have g := gr_lt
    have ih := fun l h x y q => loop8 rt D M r (k + 1) l h x y hb' q
    show forL (dG Gm g8_0) (dSs Gm b8_0) D (.tup [.int (k : Nat), .int m] :: enumF (k + 1) (iv r)) _ M
    unfold forL
    generalize hF : forL (dG Gm g8_0) (dSs Gm b8_0) D (enumF (k + 1) (iv r)) = F at ih ⊢
    unfold g8_0 b8_0 pr
    simp (maxSteps := 4000000) only [dSs, dS, dE, dT, dEs, dI, dG, dGs, dO, cond_true, cond_false, opS, cmS, bfS, meS, sSeq, sNext, sPass, sBrk, sCnt, sExpr, sRet, sRet0, sIf, sFor, sAsg, sPar, sNever, tO, tO1, tON, tB2, tCh, tA0, tA1, tTu, tLi, tAn, tOr2, tNo, tIe, tAnT, tOrT, tNoT, tTr, tSlot, TL.tCon, tGlo, conT, tIsi, tCl, tFrz, tSl2, tP0, tP1, tRev, tMeL, tMeS, gSl, gsNil, gsCons, gTu, gSb, Gs.len, addS, subS, mulS, divS, modS, powS, negS, cmpS, eqS_int, neS_int, eqS_str, neS_str, isS, lenS, absS, intS, tupS, listS, sumS, allS, gcdS, newL, ixS, slS, truT, itemsOf, lsOf, sqOf, tItA, tItE, tItR1, tItR2, tItZ, List.zip_cons_cons, List.zip_nil_left, List.zip_nil_right, List.foldl_cons, List.foldl_nil, List.getElem?_cons_zero, List.getElem?_cons_succ, List.set_cons_zero, List.set_cons_succ, List.length_cons, List.length_nil, Int.reduceEq, Int.reduceNeg, true_and, false_and, and_true, or_false, false_or, eq_self, T.int.injEq, exists_eq_left, exists_eq_left', setS, appS, upS_same, isLs_own, joinS, minS, zipT, Br_iff, even_dec, atI_0, atI_1]
    refine ⟨by decide, ?_⟩
    have mo : ∀ z : Int, MulOk m z := fun z => mul_l (by omega) (by omega)
    have sz2 : 2 ≤ sizeLine := by decide
    cases he : ev k with
    | true =>
      simp only [if_true, Option.some.injEq, exists_eq_left', mo, true_and, sz2]
      refine ih (l.1 + m * h.1, l.2 + m * h.2) h _ _ fun x y => ?_
      have q := q x y
      rw [he] at q
      rw [ev_succ, he]
      exact q
    | false =>
      simp only [Bool.false_eq_true, if_false, Option.some.injEq, exists_eq_left', mo, true_and, sz2]
      refine ih l (h.1 + m * l.1, h.2 + m * l.2) _ _ fun x y => ?_
      have q := q x y
      rw [he] at q
      rw [ev_succ, he]
      exact q
theorem pf8 : Pf 8 ss8 ns8 := fun ts M Q E h => by
  obtain ⟨r, ht, hb, q⟩ := h
  have key : ∀ t : T, (t = .tup (iv r) ∨ t = .lst (iv r)) → dSs Gm ss8 (rtEnds Q E) [some t, none, none, none, none] M := fun t h => by
    unfold ss8
    simp (maxSteps := 4000000) only [dSs, dS, dE, dT, dEs, dI, dG, dGs, dO, cond_true, cond_false, opS, cmS, bfS, meS, sSeq, sNext, sPass, sBrk, sCnt, sExpr, sRet, sRet0, sIf, sFor, sAsg, sPar, sNever, tO, tO1, tON, tB2, tCh, tA0, tA1, tTu, tLi, tAn, tOr2, tNo, tIe, tAnT, tOrT, tNoT, tTr, tSlot, TL.tCon, tGlo, conT, tIsi, tCl, tFrz, tSl2, tP0, tP1, tRev, tMeL, tMeS, gSl, gsNil, gsCons, gTu, gSb, Gs.len, addS, subS, mulS, divS, modS, powS, negS, cmpS, eqS_int, neS_int, eqS_str, neS_str, isS, lenS, absS, intS, tupS, listS, sumS, allS, gcdS, newL, ixS, slS, truT, itemsOf, lsOf, sqOf, tItA, tItE, tItR1, tItR2, tItZ, List.zip_cons_cons, List.zip_nil_left, List.zip_nil_right, List.foldl_cons, List.foldl_nil, List.getElem?_cons_zero, List.getElem?_cons_succ, List.set_cons_zero, List.set_cons_succ, List.length_cons, List.length_nil, Int.reduceEq, Int.reduceNeg, true_and, false_and, and_true, or_false, false_or, eq_self, T.int.injEq, exists_eq_left, exists_eq_left', setS, appS, upS_same, isLs_own, joinS, minS, zipT]
    have sz2 : 2 ≤ sizeLine := by decide
    refine ⟨sz2, sz2, sz2, ?_⟩
    have fin := loop8 t { rtEnds Q E with nx := fun ρ M => sRet (tTu (tA1 (tSlot 1) (tA1 (tSlot 2) tA0))) { rtEnds Q E with nx := sNext (rtEnds Q E) } ρ M } M r 0 L0 H0 none none hb.2 (fun x y => by
      simp (maxSteps := 4000000) only [dSs, dS, dE, dT, dEs, dI, dG, dGs, dO, cond_true, cond_false, opS, cmS, bfS, meS, sSeq, sNext, sPass, sBrk, sCnt, sExpr, sRet, sRet0, sIf, sFor, sAsg, sPar, sNever, tO, tO1, tON, tB2, tCh, tA0, tA1, tTu, tLi, tAn, tOr2, tNo, tIe, tAnT, tOrT, tNoT, tTr, tSlot, TL.tCon, tGlo, conT, tIsi, tCl, tFrz, tSl2, tP0, tP1, tRev, tMeL, tMeS, gSl, gsNil, gsCons, gTu, gSb, Gs.len, addS, subS, mulS, divS, modS, powS, negS, cmpS, eqS_int, neS_int, eqS_str, neS_str, isS, lenS, absS, intS, tupS, listS, sumS, allS, gcdS, newL, ixS, slS, truT, itemsOf, lsOf, sqOf, tItA, tItE, tItR1, tItR2, tItZ, List.zip_cons_cons, List.zip_nil_left, List.zip_nil_right, List.foldl_cons, List.foldl_nil, List.getElem?_cons_zero, List.getElem?_cons_succ, List.set_cons_zero, List.set_cons_succ, List.length_cons, List.length_nil, Int.reduceEq, Int.reduceNeg, true_and, false_and, and_true, or_false, false_or, eq_self, T.int.injEq, exists_eq_left, exists_eq_left', setS, appS, upS_same, isLs_own, joinS, minS, zipT]
      exact ⟨sz2, rt_ok q⟩)
    rcases h with rfl | rfl
    · exact fin
    · exact fin
  rcases ht with rfl | rfl
  · exact key _ (.inl rfl)
  · exact key _ (.inr rfl)
theorem pf9 : Pf 9 ss9 ns9 := fun ts M Q E h => by
  match ts, h with
  | [.tup [.int a, .int b], .tup [.int c, .int d]], q =>
    show dSs Gm ss9 (rtEnds Q E) [some (.tup [.int a, .int b]), some (.tup [.int c, .int d])] M
    unfold ss9
    simp (maxSteps := 4000000) only [dSs, dS, dE, dT, dEs, dI, dG, dGs, dO, cond_true, cond_false, opS, cmS, bfS, meS, sSeq, sNext, sPass, sBrk, sCnt, sExpr, sRet, sRet0, sIf, sFor, sAsg, sPar, sNever, tO, tO1, tON, tB2, tCh, tA0, tA1, tTu, tLi, tAn, tOr2, tNo, tIe, tAnT, tOrT, tNoT, tTr, tSlot, TL.tCon, tGlo, conT, tIsi, tCl, tFrz, tSl2, tP0, tP1, tRev, tMeL, tMeS, gSl, gsNil, gsCons, gTu, gSb, Gs.len, addS, subS, mulS, divS, modS, powS, negS, cmpS, eqS_int, neS_int, eqS_str, neS_str, isS, lenS, absS, intS, tupS, listS, sumS, allS, gcdS, newL, ixS, slS, truT, itemsOf, lsOf, sqOf, tItA, tItE, tItR1, tItR2, tItZ, List.zip_cons_cons, List.zip_nil_left, List.zip_nil_right, List.foldl_cons, List.foldl_nil, List.getElem?_cons_zero, List.getElem?_cons_succ, List.set_cons_zero, List.set_cons_succ, List.length_cons, List.length_nil, Int.reduceEq, Int.reduceNeg, true_and, false_and, and_true, or_false, false_or, eq_self, T.int.injEq, exists_eq_left, exists_eq_left', setS, appS, upS_same, isLs_own, joinS, minS, zipT, atI_0, atI_1, Option.some.injEq, exists_eq_left']
    exact ⟨by decide, rt_ok q⟩
theorem pf10 : Pf 10 ss10 ns10 := fun ts M Q E h => by
  obtain ⟨r, rfl, f, q⟩ := h
  show dSs Gm ss10 (rtEnds Q E) [some (.tup (iv r)), none] M
  have fl := f.l
  have e1 : isTu (.tup (iv r)) 0 100 = true := by
    simp [isTu, iv_len]; omega
  have nn := f.ru.nn
  have e2 : ∀ m ∈ r, isWh (.int m) 0 GR = true := fun m hm => by
    have := nn m hm
    have := f.b m hm
    simp [isWh, *]
  unfold ss10
  simp (maxSteps := 4000000) only [dSs, dS, dE, dT, dEs, dI, dG, dGs, dO, cond_true, cond_false, opS, cmS, bfS, meS, sSeq, sNext, sPass, sBrk, sCnt, sExpr, sRet, sRet0, sIf, sFor, sAsg, sPar, sNever, tO, tO1, tON, tB2, tCh, tA0, tA1, tTu, tLi, tAn, tOr2, tNo, tIe, tAnT, tOrT, tNoT, tTr, tSlot, TL.tCon, tGlo, conT, tIsi, tCl, tFrz, tSl2, tP0, tP1, tRev, tMeL, tMeS, gSl, gsNil, gsCons, gTu, gSb, Gs.len, addS, subS, mulS, divS, modS, powS, negS, cmpS, eqS_int, neS_int, eqS_str, neS_str, isS, lenS, absS, intS, tupS, listS, sumS, allS, gcdS, newL, ixS, slS, truT, itemsOf, lsOf, sqOf, tItA, tItE, tItR1, tItR2, tItZ, List.zip_cons_cons, List.zip_nil_left, List.zip_nil_right, List.foldl_cons, List.foldl_nil, List.getElem?_cons_zero, List.getElem?_cons_succ, List.set_cons_zero, List.set_cons_succ, List.length_cons, List.length_nil, Int.reduceEq, Int.reduceNeg, true_and, false_and, and_true, or_false, false_or, eq_self, T.int.injEq, exists_eq_left, exists_eq_left', setS, appS, upS_same, isLs_own, joinS, minS, zipT, Gm, conts, c2, c3, Br_iff, e1]
  refine ⟨by simp [simpleT, isiT], ?_⟩
  simp only [Bool.not_true, Bool.false_eq_true, if_false]
  unfold tComp
  simp (maxSteps := 4000000) only [dSs, dS, dE, dT, dEs, dI, dG, dGs, dO, cond_true, cond_false, opS, cmS, bfS, meS, sSeq, sNext, sPass, sBrk, sCnt, sExpr, sRet, sRet0, sIf, sFor, sAsg, sPar, sNever, tO, tO1, tON, tB2, tCh, tA0, tA1, tTu, tLi, tAn, tOr2, tNo, tIe, tAnT, tOrT, tNoT, tTr, tSlot, TL.tCon, tGlo, conT, tIsi, tCl, tFrz, tSl2, tP0, tP1, tRev, tMeL, tMeS, gSl, gsNil, gsCons, gTu, gSb, Gs.len, addS, subS, mulS, divS, modS, powS, negS, cmpS, eqS_int, neS_int, eqS_str, neS_str, isS, lenS, absS, intS, tupS, listS, sumS, allS, gcdS, newL, ixS, slS, truT, itemsOf, lsOf, sqOf, tItA, tItE, tItR1, tItR2, tItZ, List.zip_cons_cons, List.zip_nil_left, List.zip_nil_right, List.foldl_cons, List.foldl_nil, List.getElem?_cons_zero, List.getElem?_cons_succ, List.set_cons_zero, List.set_cons_succ, List.length_cons, List.length_nil, Int.reduceEq, Int.reduceNeg, true_and, false_and, and_true, or_false, false_or, eq_self, T.int.injEq, exists_eq_left, exists_eq_left', setS, appS, upS_same, isLs_own, joinS, minS, zipT]
  have room : (iv r).length ≤ sizeLine := by rw [iv_len]; show _ ≤ 16777216; omega
  refine ⟨room, compL_map (fun t => T.bl (isWh t 0 GR)) (iv r) [] (fun u hu k hk => ?_) ?_⟩
  · obtain ⟨m, hm, rfl⟩ := List.mem_map.mp hu
    exact ⟨by simp [simpleT, isiT], hk⟩
  rw [List.nil_append, all_simple, boolsOf_map]
  have e3 : ((iv r).map fun t => isWh t 0 GR).all _root_.id = true := by
    rw [List.all_eq_true]
    intro b hb
    obtain ⟨t, ht, rfl⟩ := List.mem_map.mp hb
    obtain ⟨m, hm, rfl⟩ := List.mem_map.mp ht
    exact e2 m hm
  simp (maxSteps := 4000000) only [dSs, dS, dE, dT, dEs, dI, dG, dGs, dO, cond_true, cond_false, opS, cmS, bfS, meS, sSeq, sNext, sPass, sBrk, sCnt, sExpr, sRet, sRet0, sIf, sFor, sAsg, sPar, sNever, tO, tO1, tON, tB2, tCh, tA0, tA1, tTu, tLi, tAn, tOr2, tNo, tIe, tAnT, tOrT, tNoT, tTr, tSlot, TL.tCon, tGlo, conT, tIsi, tCl, tFrz, tSl2, tP0, tP1, tRev, tMeL, tMeS, gSl, gsNil, gsCons, gTu, gSb, Gs.len, addS, subS, mulS, divS, modS, powS, negS, cmpS, eqS_int, neS_int, eqS_str, neS_str, isS, lenS, absS, intS, tupS, listS, sumS, allS, gcdS, newL, ixS, slS, truT, itemsOf, lsOf, sqOf, tItA, tItE, tItR1, tItR2, tItZ, List.zip_cons_cons, List.zip_nil_left, List.zip_nil_right, List.foldl_cons, List.foldl_nil, List.getElem?_cons_zero, List.getElem?_cons_succ, List.set_cons_zero, List.set_cons_succ, List.length_cons, List.length_nil, Int.reduceEq, Int.reduceNeg, true_and, false_and, and_true, or_false, false_or, eq_self, T.int.injEq, exists_eq_left, exists_eq_left', setS, appS, upS_same, isLs_own, joinS, minS, zipT, e3]
  simp only [Bool.not_true, Bool.false_eq_true, if_false]
  rw [cut_from (by decide)]
  have e4 : (iv r).drop (1 : Int).toNat = iv r.tail := by cases r <;> rfl
  rw [e4]
  have tl : ∀ m ∈ r.tail, 1 ≤ m := by
    cases r with
    | nil => intro m hm; cases hm
    | cons m t => exact f.ru.2.1
  have lt : r.tail.length ≤ 100 := by rw [List.length_tail]; omega
  refine ⟨by rw [iv_len]; show _ ≤ 16777216; omega, compL_map (fun t => match t with | .int i => T.bl (decide (0 < i)) | t => t) (iv r.tail) [] (fun u hu k hk => ?_) ?_⟩
  · obtain ⟨m, hm, rfl⟩ := List.mem_map.mp hu
    exact hk
  have e5 : (iv r.tail).map (fun t => match t with | .int i => T.bl (decide (0 < i)) | t => t) = (r.tail.map fun _ => true).map T.bl := by
    unfold iv
    rw [List.map_map, List.map_map]
    refine List.map_congr_left fun m hm => ?_
    have := tl m hm
    show T.bl (decide (0 < m)) = T.bl true
    rw [decide_eq_true (by omega)]
  rw [List.nil_append, e5, boolsOf_map]
  have e6 : (r.tail.map fun _ => true).all _root_.id = true := by
    rw [List.all_eq_true]
    intro b hb
    obtain ⟨_, _, rfl⟩ := List.mem_map.mp hb
    rfl
  simp (maxSteps := 4000000) only [dSs, dS, dE, dT, dEs, dI, dG, dGs, dO, cond_true, cond_false, opS, cmS, bfS, meS, sSeq, sNext, sPass, sBrk, sCnt, sExpr, sRet, sRet0, sIf, sFor, sAsg, sPar, sNever, tO, tO1, tON, tB2, tCh, tA0, tA1, tTu, tLi, tAn, tOr2, tNo, tIe, tAnT, tOrT, tNoT, tTr, tSlot, TL.tCon, tGlo, conT, tIsi, tCl, tFrz, tSl2, tP0, tP1, tRev, tMeL, tMeS, gSl, gsNil, gsCons, gTu, gSb, Gs.len, addS, subS, mulS, divS, modS, powS, negS, cmpS, eqS_int, neS_int, eqS_str, neS_str, isS, lenS, absS, intS, tupS, listS, sumS, allS, gcdS, newL, ixS, slS, truT, itemsOf, lsOf, sqOf, tItA, tItE, tItR1, tItR2, tItZ, List.zip_cons_cons, List.zip_nil_left, List.zip_nil_right, List.foldl_cons, List.foldl_nil, List.getElem?_cons_zero, List.getElem?_cons_succ, List.set_cons_zero, List.set_cons_succ, List.length_cons, List.length_nil, Int.reduceEq, Int.reduceNeg, true_and, false_and, and_true, or_false, false_or, eq_self, T.int.injEq, exists_eq_left, exists_eq_left', setS, appS, upS_same, isLs_own, joinS, minS, zipT, e6, if_true]
  refine ⟨by decide, ?_⟩
  -- value != (0,)
  unfold neS
  have ne : TL.eqT (.tup (iv r)) (.tup [.int 0]) = false := by
    match r, f.ru with
    | [], _ => rfl
    | [m], h =>
      have hm : m ≠ 0 := fun z => h.2.2 z rfl
      simp [TL.eqT, TL.eqTs, iv, hm]
    | m :: k :: t, _ => simp [TL.eqT, TL.eqTs, iv]
  have ok1 : okT 60 (.tup (iv r)) = true := by
    show okTs 59 (iv r) = true
    exact okTs_all fun t ht => by obtain ⟨m, hm, rfl⟩ := List.mem_map.mp ht; simp [okT]
  refine ⟨?_, ?_⟩
  · show okEq (.tup (iv r)) (.tup [.int 0]) = true
    show (okT 60 (.tup (iv r)) && okT 60 (.tup [.int 0])) = true
    rw [ok1]
    simp [okT, okTs]
  · show (rtEnds Q E).rt (T.bl (!TL.eqT (.tup (iv r)) (.tup [.int 0]))) M
    rw [ne]
    exact rt_ok q
theorem fit_b {r : List Int} (h : Fit r) : r.length ≤ 100 ∧ ∀ m ∈ r, 0 ≤ m ∧ m ≤ GR := ⟨h.l, fun m hm => ⟨h.ru.nn m hm, h.b m hm⟩⟩
theorem pf11 : Pf 11 ss11 ns11 := fun ts M Q E h => by
  obtain ⟨r, rfl, f, q⟩ := h
  show dSs Gm ss11 (rtEnds Q E) [some (.tup (iv r)), none, none] M
  unfold ss11
  simp (maxSteps := 4000000) only [dSs, dS, dE, dT, dEs, dI, dG, dGs, dO, cond_true, cond_false, opS, cmS, bfS, meS, sSeq, sNext, sPass, sBrk, sCnt, sExpr, sRet, sRet0, sIf, sFor, sAsg, sPar, sNever, tO, tO1, tON, tB2, tCh, tA0, tA1, tTu, tLi, tAn, tOr2, tNo, tIe, tAnT, tOrT, tNoT, tTr, tSlot, TL.tCon, tGlo, conT, tIsi, tCl, tFrz, tSl2, tP0, tP1, tRev, tMeL, tMeS, gSl, gsNil, gsCons, gTu, gSb, Gs.len, addS, subS, mulS, divS, modS, powS, negS, cmpS, eqS_int, neS_int, eqS_str, neS_str, isS, lenS, absS, intS, tupS, listS, sumS, allS, gcdS, newL, ixS, slS, truT, itemsOf, lsOf, sqOf, tItA, tItE, tItR1, tItR2, tItZ, List.zip_cons_cons, List.zip_nil_left, List.zip_nil_right, List.foldl_cons, List.foldl_nil, List.getElem?_cons_zero, List.getElem?_cons_succ, List.set_cons_zero, List.set_cons_succ, List.length_cons, List.length_nil, Int.reduceEq, Int.reduceNeg, true_and, false_and, and_true, or_false, false_or, eq_self, T.int.injEq, exists_eq_left, exists_eq_left', setS, appS, upS_same, isLs_own, joinS, minS, zipT, Gm, conts, c10, c8, c9, Br_iff]
  refine ⟨r, rfl, f, ?_⟩
  simp only [Bool.not_true, Bool.false_eq_true, if_false]
  refine ⟨r, .inl rfl, fit_b f, ?_⟩
  unfold pr
  simp (maxSteps := 4000000) only [dSs, dS, dE, dT, dEs, dI, dG, dGs, dO, cond_true, cond_false, opS, cmS, bfS, meS, sSeq, sNext, sPass, sBrk, sCnt, sExpr, sRet, sRet0, sIf, sFor, sAsg, sPar, sNever, tO, tO1, tON, tB2, tCh, tA0, tA1, tTu, tLi, tAn, tOr2, tNo, tIe, tAnT, tOrT, tNoT, tTr, tSlot, TL.tCon, tGlo, conT, tIsi, tCl, tFrz, tSl2, tP0, tP1, tRev, tMeL, tMeS, gSl, gsNil, gsCons, gTu, gSb, Gs.len, addS, subS, mulS, divS, modS, powS, negS, cmpS, eqS_int, neS_int, eqS_str, neS_str, isS, lenS, absS, intS, tupS, listS, sumS, allS, gcdS, newL, ixS, slS, truT, itemsOf, lsOf, sqOf, tItA, tItE, tItR1, tItR2, tItZ, List.zip_cons_cons, List.zip_nil_left, List.zip_nil_right, List.foldl_cons, List.foldl_nil, List.getElem?_cons_zero, List.getElem?_cons_succ, List.set_cons_zero, List.set_cons_succ, List.length_cons, List.length_nil, Int.reduceEq, Int.reduceNeg, true_and, false_and, and_true, or_false, false_or, eq_self, T.int.injEq, exists_eq_left, exists_eq_left', setS, appS, upS_same, isLs_own, joinS, minS, zipT]
  obtain ⟨m1, m2⟩ := mid0 r
  rw [m1, m2]
  exact rt_ok q
end LW

namespace LW
open PySem PySem.Spec PyProof.Rows L2 TL M83

/-- low, here, high as one walks: here is their sum -/
def md (l h : P2) : P2 := (l.1 + h.1, l.2 + h.2)
def upN (l h : P2) (n : Nat) : P2 := (l.1 + (n : Int) * h.1, l.2 + (n : Int) * h.2)
theorem upN_succ (l h : P2) (n : Nat) : upN (l.1 + h.1, l.2 + h.2) h n = upN l h (n + 1) := by
  unfold upN
  dsimp only
  rw [show ((n + 1 : Nat) : Int) = (n : Int) + 1 by omega, Int.add_mul, Int.add_mul]
  congr 1 <;> omega
theorem loop12a (rt : T) (D : Ends2) (M : Store) (k : Nat) : ∀ (n : Nat) (s : Int) (l h : P2) (z : Option T),
    (∀ z, D.nx (if ev k = true then [some rt, some (pr (upN l h n)), some (pr (md (upN l h n) h)), some (pr h), some (.int (k : Nat)), z] else [some rt, some (pr l), some (pr (md l (upN h l n))), some (pr (upN h l n)), some (.int (k : Nat)), z]) M) →
    forL (dG Gm g12_0) (dSs Gm b12_0) D (rangeT s n) [some rt, some (pr l), some (pr (md l h)), some (pr h), some (.int (k : Nat)), z] M
  | 0, s, l, h, z, q => by
    have q := q z
    have u : ∀ a b : P2, upN a b 0 = a := fun a b => by simp [upN]
    rw [u, u] at q
    show D.nx _ M
    cases he : ev k <;> (rw [he] at q; exact q)
  | n + 1, s, l, h, z, q => by
    rw [rangeT_succ]
    unfold forL
    have ih := fun l h z q => loop12a rt D M k n (s + 1) l h z q
    generalize forL (dG Gm g12_0) (dSs Gm b12_0) D (rangeT (s + 1) n) = F at ih ⊢
    unfold g12_0 b12_0 pr md
    simp (maxSteps := 4000000) only [dSs, dS, dE, dT, dEs, dI, dG, dGs, dO, cond_true, cond_false, opS, cmS, bfS, meS, sSeq, sNext, sPass, sBrk, sCnt, sExpr, sRet, sRet0, sIf, sFor, sAsg, sPar, sNever, tO, tO1, tON, tB2, tCh, tA0, tA1, tTu, tLi, tAn, tOr2, tNo, tIe, tAnT, tOrT, tNoT, tTr, tSlot, TL.tCon, tGlo, conT, tIsi, tCl, tFrz, tSl2, tP0, tP1, tRev, tMeL, tMeS, gSl, gsNil, gsCons, gTu, gSb, Gs.len, addS, subS, mulS, divS, modS, powS, negS, cmpS, eqS_int, neS_int, eqS_str, neS_str, isS, lenS, absS, intS, tupS, listS, sumS, allS, gcdS, newL, ixS, slS, truT, itemsOf, lsOf, sqOf, tItA, tItE, tItR1, tItR2, tItZ, List.zip_cons_cons, List.zip_nil_left, List.zip_nil_right, List.foldl_cons, List.foldl_nil, List.getElem?_cons_zero, List.getElem?_cons_succ, List.set_cons_zero, List.set_cons_succ, List.length_cons, List.length_nil, Int.reduceEq, Int.reduceNeg, true_and, false_and, and_true, or_false, false_or, eq_self, T.int.injEq, exists_eq_left, exists_eq_left', setS, appS, upS_same, isLs_own, joinS, minS, zipT, Br_iff, even_dec, atI_0, atI_1, Option.some.injEq, exists_eq_left']
    refine ⟨by decide, ?_⟩
    have sz2 : 2 ≤ sizeLine := by decide
    cases he : ev k with
    | true =>
      simp only [if_true, sz2, true_and]
      have ih := ih (l.1 + h.1, l.2 + h.2) h (some (.int s)) fun z => by
        have q := q z
        rw [he, if_pos rfl] at q ⊢
        rw [upN_succ]
        exact q
      exact ih
    | false =>
      simp only [Bool.false_eq_true, if_false, sz2, true_and]
      have e1 : (l.1 + h.1 + l.1 : Int) = l.1 + (h.1 + l.1) := by omega
      have e2 : (l.2 + h.2 + l.2 : Int) = l.2 + (h.2 + l.2) := by omega
      have e3 : (l.1 + h.1 : Int) = h.1 + l.1 := by omega
      have e4 : (l.2 + h.2 : Int) = h.2 + l.2 := by omega
      have ih := ih l (h.1 + l.1, h.2 + l.2) (some (.int s)) fun z => by
        have q := q z
        rw [he, if_neg Bool.false_ne_true] at q ⊢
        rw [upN_succ]
        exact q
      rw [e1, e2, e3, e4]
      exact ih
theorem loop12b (D : Ends2) (M : Store) (r0 : List Int) (hb : ∀ m ∈ r0, 0 ≤ m ∧ m ≤ 100) : ∀ (r : List Int) (done : List Int) (l h : P2) (x y : Option T), r0 = done ++ r →
    (∀ x y, D.nx [some (.tup (iv r0)), some (pr (bnd (ev done.length) l h r).1), some (pr (md (bnd (ev done.length) l h r).1 (bnd (ev done.length) l h r).2)), some (pr (bnd (ev done.length) l h r).2), x, y] M) →
    forL (dG Gm g12_1) (dSs Gm b12_1) D (rangeT (done.length : Nat) r.length) [some (.tup (iv r0)), some (pr l), some (pr (md l h)), some (pr h), x, y] M
  | [], done, l, h, x, y, e, q => by
    have q := q x y
    show D.nx _ M
    cases he : ev done.length <;> (rw [he] at q; exact q)
  | m :: r, done, l, h, x, y, e, q => by
    rw [List.length_cons, rangeT_succ]
    unfold forL
    have hm := hb m (by rw [e]; simp)
    have e2 : r0 = (done ++ [m]) ++ r := by rw [e]; simp
    have ih := fun l h x y q => loop12b D M r0 hb r (done ++ [m]) l h x y e2 q
    have el : ((done ++ [m]).length : Int) = (done.length : Int) + 1 := by rw [List.length_append]; rfl
    rw [el] at ih
    generalize forL (dG Gm g12_1) (dSs Gm b12_1) D (rangeT ((done.length : Int) + 1) r.length) = F at ih ⊢
    unfold g12_1 b12_1
    have at_ : atI (iv r0) (done.length : Nat) = some (.int m) := by
      rw [TL.atI_nat, e, iv_app, List.getElem?_append_right (by rw [iv_len]; exact Nat.le_refl _), iv_len, Nat.sub_self]
      rfl
    simp (maxSteps := 4000000) only [dSs, dS, dE, dT, dEs, dI, dG, dGs, dO, cond_true, cond_false, opS, cmS, bfS, meS, sSeq, sNext, sPass, sBrk, sCnt, sExpr, sRet, sRet0, sIf, sFor, sAsg, sPar, sNever, tO, tO1, tON, tB2, tCh, tA0, tA1, tTu, tLi, tAn, tOr2, tNo, tIe, tAnT, tOrT, tNoT, tTr, tSlot, TL.tCon, tGlo, conT, tIsi, tCl, tFrz, tSl2, tP0, tP1, tRev, tMeL, tMeS, gSl, gsNil, gsCons, gTu, gSb, Gs.len, addS, subS, mulS, divS, modS, powS, negS, cmpS, eqS_int, neS_int, eqS_str, neS_str, isS, lenS, absS, intS, tupS, listS, sumS, allS, gcdS, newL, ixS, slS, truT, itemsOf, lsOf, sqOf, tItA, tItE, tItR1, tItR2, tItZ, List.zip_cons_cons, List.zip_nil_left, List.zip_nil_right, List.foldl_cons, List.foldl_nil, List.getElem?_cons_zero, List.getElem?_cons_succ, List.set_cons_zero, List.set_cons_succ, List.length_cons, List.length_nil, Int.reduceEq, Int.reduceNeg, true_and, false_and, and_true, or_false, false_or, eq_self, T.int.injEq, exists_eq_left, exists_eq_left', setS, appS, upS_same, isLs_own, joinS, minS, zipT, at_, Option.some.injEq, exists_eq_left']
    refine ⟨by omega, ?_⟩
    refine loop12a (.tup (iv r0)) _ M done.length m.toNat 0 l h y fun z => ?_
    have ml : ((m.toNat : Nat) : Int) = m := by omega
    have ev2 : ev (done ++ [m]).length = !ev done.length := by rw [List.length_append]; exact ev_succ _
    cases he : ev done.length with
    | true =>
      rw [if_pos rfl]
      refine ih (upN l h m.toNat) h _ _ fun x y => ?_
      have q := q x y
      rw [ev2, he]
      rw [he] at q
      have e3 : bnd true l h (m :: r) = bnd false (upN l h m.toNat) h r := by
        show bnd false (l.1 + m * h.1, l.2 + m * h.2) h r = _
        unfold upN
        rw [ml]
      rw [e3] at q
      exact q
    | false =>
      rw [if_neg Bool.false_ne_true]
      refine ih l (upN h l m.toNat) _ _ fun x y => ?_
      have q := q x y
      rw [ev2, he]
      rw [he] at q
      have e3 : bnd false l h (m :: r) = bnd true l (upN h l m.toNat) r := by
        show bnd true l (h.1 + m * l.1, h.2 + m * l.2) r = _
        unfold upN
        rw [ml]
      rw [e3] at q
      exact q
theorem pf12 : Pf 12 ss12 ns12 := fun ts M Q E h => by
  obtain ⟨r, rfl, ⟨hl, hb⟩, q⟩ := h
  show dSs Gm ss12 (rtEnds Q E) [some (.tup (iv r)), none, none, none, none, none] M
  unfold ss12
  simp (maxSteps := 4000000) only [dSs, dS, dE, dT, dEs, dI, dG, dGs, dO, cond_true, cond_false, opS, cmS, bfS, meS, sSeq, sNext, sPass, sBrk, sCnt, sExpr, sRet, sRet0, sIf, sFor, sAsg, sPar, sNever, tO, tO1, tON, tB2, tCh, tA0, tA1, tTu, tLi, tAn, tOr2, tNo, tIe, tAnT, tOrT, tNoT, tTr, tSlot, TL.tCon, tGlo, conT, tIsi, tCl, tFrz, tSl2, tP0, tP1, tRev, tMeL, tMeS, gSl, gsNil, gsCons, gTu, gSb, Gs.len, addS, subS, mulS, divS, modS, powS, negS, cmpS, eqS_int, neS_int, eqS_str, neS_str, isS, lenS, absS, intS, tupS, listS, sumS, allS, gcdS, newL, ixS, slS, truT, itemsOf, lsOf, sqOf, tItA, tItE, tItR1, tItR2, tItZ, List.zip_cons_cons, List.zip_nil_left, List.zip_nil_right, List.foldl_cons, List.foldl_nil, List.getElem?_cons_zero, List.getElem?_cons_succ, List.set_cons_zero, List.set_cons_succ, List.length_cons, List.length_nil, Int.reduceEq, Int.reduceNeg, true_and, false_and, and_true, or_false, false_or, eq_self, T.int.injEq, exists_eq_left, exists_eq_left', setS, appS, upS_same, isLs_own, joinS, minS, zipT]
  have sz2 : 2 ≤ sizeLine := by decide
  have sz3 : 3 ≤ sizeLine := by decide
  refine ⟨sz2, sz2, sz2, sz3, ?_⟩
  rw [iv_len]
  refine ⟨by omega, ?_⟩
  have fin := loop12b { rtEnds Q E with nx := fun ρ M => sRet (tTu (tA1 (tSlot 1) (tA1 (tSlot 2) (tA1 (tSlot 3) tA0)))) { rtEnds Q E with nx := sNext (rtEnds Q E) } ρ M } M r hb r [] L0 H0 none none rfl (fun x y => by
    simp (maxSteps := 4000000) only [dSs, dS, dE, dT, dEs, dI, dG, dGs, dO, cond_true, cond_false, opS, cmS, bfS, meS, sSeq, sNext, sPass, sBrk, sCnt, sExpr, sRet, sRet0, sIf, sFor, sAsg, sPar, sNever, tO, tO1, tON, tB2, tCh, tA0, tA1, tTu, tLi, tAn, tOr2, tNo, tIe, tAnT, tOrT, tNoT, tTr, tSlot, TL.tCon, tGlo, conT, tIsi, tCl, tFrz, tSl2, tP0, tP1, tRev, tMeL, tMeS, gSl, gsNil, gsCons, gTu, gSb, Gs.len, addS, subS, mulS, divS, modS, powS, negS, cmpS, eqS_int, neS_int, eqS_str, neS_str, isS, lenS, absS, intS, tupS, listS, sumS, allS, gcdS, newL, ixS, slS, truT, itemsOf, lsOf, sqOf, tItA, tItE, tItR1, tItR2, tItZ, List.zip_cons_cons, List.zip_nil_left, List.zip_nil_right, List.foldl_cons, List.foldl_nil, List.getElem?_cons_zero, List.getElem?_cons_succ, List.set_cons_zero, List.set_cons_succ, List.length_cons, List.length_nil, Int.reduceEq, Int.reduceNeg, true_and, false_and, and_true, or_false, false_or, eq_self, T.int.injEq, exists_eq_left, exists_eq_left', setS, appS, upS_same, isLs_own, joinS, minS, zipT]
    refine ⟨sz3, rt_ok ?_⟩
    have m := mid0 r
    have e : md (bnd (ev 0) L0 H0 r).1 (bnd (ev 0) L0 H0 r).2 = vS true r := by
      show ((bnd true L0 H0 r).1.1 + (bnd true L0 H0 r).2.1, (bnd true L0 H0 r).1.2 + (bnd true L0 H0 r).2.2) = _
      rw [m.1, m.2]
    rw [e]
    exact q)
  exact fin
theorem pf15 : Pf 15 ss15 ns15 := fun ts M Q E h => by
  match ts, h with
  | [.tup [.int a, .int b]], ⟨r, of, q⟩ =>
    show dSs Gm ss15 (rtEnds Q E) [some (.tup [.int a, .int b])] M
    unfold ss15
    simp (maxSteps := 4000000) only [dSs, dS, dE, dT, dEs, dI, dG, dGs, dO, cond_true, cond_false, opS, cmS, bfS, meS, sSeq, sNext, sPass, sBrk, sCnt, sExpr, sRet, sRet0, sIf, sFor, sAsg, sPar, sNever, tO, tO1, tON, tB2, tCh, tA0, tA1, tTu, tLi, tAn, tOr2, tNo, tIe, tAnT, tOrT, tNoT, tTr, tSlot, TL.tCon, tGlo, conT, tIsi, tCl, tFrz, tSl2, tP0, tP1, tRev, tMeL, tMeS, gSl, gsNil, gsCons, gTu, gSb, Gs.len, addS, subS, mulS, divS, modS, powS, negS, cmpS, eqS_int, neS_int, eqS_str, neS_str, isS, lenS, absS, intS, tupS, listS, sumS, allS, gcdS, newL, ixS, slS, truT, itemsOf, lsOf, sqOf, tItA, tItE, tItR1, tItR2, tItZ, List.zip_cons_cons, List.zip_nil_left, List.zip_nil_right, List.foldl_cons, List.foldl_nil, List.getElem?_cons_zero, List.getElem?_cons_succ, List.set_cons_zero, List.set_cons_succ, List.length_cons, List.length_nil, Int.reduceEq, Int.reduceNeg, true_and, false_and, and_true, or_false, false_or, eq_self, T.int.injEq, exists_eq_left, exists_eq_left', setS, appS, upS_same, isLs_own, joinS, minS, zipT, Gm, conts, c5, c6]
    refine ⟨of.s, r, of, ?_⟩
    have e : intsOf (iv r) = some r := intsOf_map r
    simp (maxSteps := 4000000) only [dSs, dS, dE, dT, dEs, dI, dG, dGs, dO, cond_true, cond_false, opS, cmS, bfS, meS, sSeq, sNext, sPass, sBrk, sCnt, sExpr, sRet, sRet0, sIf, sFor, sAsg, sPar, sNever, tO, tO1, tON, tB2, tCh, tA0, tA1, tTu, tLi, tAn, tOr2, tNo, tIe, tAnT, tOrT, tNoT, tTr, tSlot, TL.tCon, tGlo, conT, tIsi, tCl, tFrz, tSl2, tP0, tP1, tRev, tMeL, tMeS, gSl, gsNil, gsCons, gTu, gSb, Gs.len, addS, subS, mulS, divS, modS, powS, negS, cmpS, eqS_int, neS_int, eqS_str, neS_str, isS, lenS, absS, intS, tupS, listS, sumS, allS, gcdS, newL, ixS, slS, truT, itemsOf, lsOf, sqOf, tItA, tItE, tItR1, tItR2, tItZ, List.zip_cons_cons, List.zip_nil_left, List.zip_nil_right, List.foldl_cons, List.foldl_nil, List.getElem?_cons_zero, List.getElem?_cons_succ, List.set_cons_zero, List.set_cons_succ, List.length_cons, List.length_nil, Int.reduceEq, Int.reduceNeg, true_and, false_and, and_true, or_false, false_or, eq_self, T.int.injEq, exists_eq_left, exists_eq_left', setS, appS, upS_same, isLs_own, joinS, minS, zipT, e]
    exact rt_ok q
theorem of_b {r : List Int} {a b : Int} (h : Of r a b) : r.length ≤ 100 ∧ ∀ m ∈ r, 0 ≤ m ∧ m ≤ GR := by
  have l := of_len h
  have v := h.v
  refine ⟨by omega, fun m hm => ⟨h.ru.nn m hm, ?_⟩⟩
  exact el_le r true h.ru.nn (by rw [v]; exact h.s.a2) (by rw [v]; exact h.s.b2) m hm
theorem pf16 : Pf 16 ss16 ns16 := fun ts M Q E h => by
  match ts, h with
  | [.tup [.int a, .int b]], ⟨r, of, q⟩ =>
    show dSs Gm ss16 (rtEnds Q E) [some (.tup [.int a, .int b])] M
    unfold ss16
    simp (maxSteps := 4000000) only [dSs, dS, dE, dT, dEs, dI, dG, dGs, dO, cond_true, cond_false, opS, cmS, bfS, meS, sSeq, sNext, sPass, sBrk, sCnt, sExpr, sRet, sRet0, sIf, sFor, sAsg, sPar, sNever, tO, tO1, tON, tB2, tCh, tA0, tA1, tTu, tLi, tAn, tOr2, tNo, tIe, tAnT, tOrT, tNoT, tTr, tSlot, TL.tCon, tGlo, conT, tIsi, tCl, tFrz, tSl2, tP0, tP1, tRev, tMeL, tMeS, gSl, gsNil, gsCons, gTu, gSb, Gs.len, addS, subS, mulS, divS, modS, powS, negS, cmpS, eqS_int, neS_int, eqS_str, neS_str, isS, lenS, absS, intS, tupS, listS, sumS, allS, gcdS, newL, ixS, slS, truT, itemsOf, lsOf, sqOf, tItA, tItE, tItR1, tItR2, tItZ, List.zip_cons_cons, List.zip_nil_left, List.zip_nil_right, List.foldl_cons, List.foldl_nil, List.getElem?_cons_zero, List.getElem?_cons_succ, List.set_cons_zero, List.set_cons_succ, List.length_cons, List.length_nil, Int.reduceEq, Int.reduceNeg, true_and, false_and, and_true, or_false, false_or, eq_self, T.int.injEq, exists_eq_left, exists_eq_left', setS, appS, upS_same, isLs_own, joinS, minS, zipT, Gm, conts, c5, c6, c8]
    exact ⟨of.s, r, of, r, .inl rfl, of_b of, rt_ok q⟩
theorem pf18 : Pf 18 ss18 ns18 := fun ts M Q E h => by
  match ts, h with
  | [.tup [.int a, .int b]], ⟨r, of, q⟩ =>
    show dSs Gm ss18 (rtEnds Q E) [some (.tup [.int a, .int b]), none, none] M
    unfold ss18
    simp (maxSteps := 4000000) only [dSs, dS, dE, dT, dEs, dI, dG, dGs, dO, cond_true, cond_false, opS, cmS, bfS, meS, sSeq, sNext, sPass, sBrk, sCnt, sExpr, sRet, sRet0, sIf, sFor, sAsg, sPar, sNever, tO, tO1, tON, tB2, tCh, tA0, tA1, tTu, tLi, tAn, tOr2, tNo, tIe, tAnT, tOrT, tNoT, tTr, tSlot, TL.tCon, tGlo, conT, tIsi, tCl, tFrz, tSl2, tP0, tP1, tRev, tMeL, tMeS, gSl, gsNil, gsCons, gTu, gSb, Gs.len, addS, subS, mulS, divS, modS, powS, negS, cmpS, eqS_int, neS_int, eqS_str, neS_str, isS, lenS, absS, intS, tupS, listS, sumS, allS, gcdS, newL, ixS, slS, truT, itemsOf, lsOf, sqOf, tItA, tItE, tItR1, tItR2, tItZ, List.zip_cons_cons, List.zip_nil_left, List.zip_nil_right, List.foldl_cons, List.foldl_nil, List.getElem?_cons_zero, List.getElem?_cons_succ, List.set_cons_zero, List.set_cons_succ, List.length_cons, List.length_nil, Int.reduceEq, Int.reduceNeg, true_and, false_and, and_true, or_false, false_or, eq_self, T.int.injEq, exists_eq_left, exists_eq_left', setS, appS, upS_same, isLs_own, joinS, minS, zipT, Gm, conts, c5, c6, c8, c9]
    refine ⟨of.s, r, of, r, .inl rfl, of_b of, ?_⟩
    unfold pr
    simp (maxSteps := 4000000) only [dSs, dS, dE, dT, dEs, dI, dG, dGs, dO, cond_true, cond_false, opS, cmS, bfS, meS, sSeq, sNext, sPass, sBrk, sCnt, sExpr, sRet, sRet0, sIf, sFor, sAsg, sPar, sNever, tO, tO1, tON, tB2, tCh, tA0, tA1, tTu, tLi, tAn, tOr2, tNo, tIe, tAnT, tOrT, tNoT, tTr, tSlot, TL.tCon, tGlo, conT, tIsi, tCl, tFrz, tSl2, tP0, tP1, tRev, tMeL, tMeS, gSl, gsNil, gsCons, gTu, gSb, Gs.len, addS, subS, mulS, divS, modS, powS, negS, cmpS, eqS_int, neS_int, eqS_str, neS_str, isS, lenS, absS, intS, tupS, listS, sumS, allS, gcdS, newL, ixS, slS, truT, itemsOf, lsOf, sqOf, tItA, tItE, tItR1, tItR2, tItZ, List.zip_cons_cons, List.zip_nil_left, List.zip_nil_right, List.foldl_cons, List.foldl_nil, List.getElem?_cons_zero, List.getElem?_cons_succ, List.set_cons_zero, List.set_cons_succ, List.length_cons, List.length_nil, Int.reduceEq, Int.reduceNeg, true_and, false_and, and_true, or_false, false_or, eq_self, T.int.injEq, exists_eq_left, exists_eq_left', setS, appS, upS_same, isLs_own, joinS, minS, zipT]
    exact ⟨by decide, rt_ok q⟩
theorem pf19 : Pf 19 ss19 ns19 := fun ts M Q E h => by
  match ts, h with
  | [.loc p, .lst us], ⟨⟨hp, ne, hl⟩, q⟩ =>
    show dSs Gm ss19 (rtEnds Q E) [some (.loc p), some (.lst us)] M
    unfold ss19
    simp (maxSteps := 4000000) only [dSs, dS, dE, dT, dEs, dI, dG, dGs, dO, cond_true, cond_false, opS, cmS, bfS, meS, sSeq, sNext, sPass, sBrk, sCnt, sExpr, sRet, sRet0, sIf, sFor, sAsg, sPar, sNever, tO, tO1, tON, tB2, tCh, tA0, tA1, tTu, tLi, tAn, tOr2, tNo, tIe, tAnT, tOrT, tNoT, tTr, tSlot, TL.tCon, tGlo, conT, tIsi, tCl, tFrz, tSl2, tP0, tP1, tRev, tMeL, tMeS, gSl, gsNil, gsCons, gTu, gSb, Gs.len, addS, subS, mulS, divS, modS, powS, negS, cmpS, eqS_int, neS_int, eqS_str, neS_str, isS, lenS, absS, intS, tupS, listS, sumS, allS, gcdS, newL, ixS, slS, truT, itemsOf, lsOf, sqOf, tItA, tItE, tItR1, tItR2, tItZ, List.zip_cons_cons, List.zip_nil_left, List.zip_nil_right, List.foldl_cons, List.foldl_nil, List.getElem?_cons_zero, List.getElem?_cons_succ, List.set_cons_zero, List.set_cons_succ, List.length_cons, List.length_nil, Int.reduceEq, Int.reduceNeg, true_and, false_and, and_true, or_false, false_or, eq_self, T.int.injEq, exists_eq_left, exists_eq_left', setS, appS, upS_same, isLs_own, joinS, minS, zipT, Gm, conts, c1]
    have h0 : 0 < us.length := List.length_pos_iff.mpr ne
    refine ⟨⟨hp, by omega, by show _ ≤ (1000000000000000000 : Int); omega⟩, fun r r0 r1 => ?_⟩
    have hr : r.toNat < us.length := by omega
    refine ⟨us[r.toNat], ?_, rt_ok (q _ (List.getElem_mem hr))⟩
    rw [atI_of r0, List.getElem?_eq_getElem hr]
end LW

namespace LW
open PySem PySem.Spec PyProof.Rows L2 TL M83

theorem iv_nil : iv [] = [] := rfl
theorem ints_of {P : Int → Prop} : ∀ {ys : List T}, (∀ y ∈ ys, ∃ m, y = .int m ∧ P m) → ∃ r : List Int, ys = iv r ∧ ∀ m ∈ r, P m
  | [], _ => ⟨[], rfl, fun m hm => by cases hm⟩
  | y :: ys, h => by
    obtain ⟨m, rfl, hm⟩ := h y List.mem_cons_self
    obtain ⟨r, e, hr⟩ := ints_of fun z hz => h z (List.mem_cons_of_mem _ hz)
    refine ⟨m :: r, by rw [e]; rfl, fun k hk => ?_⟩
    rcases List.mem_cons.mp hk with rfl | hk
    · exact hm
    · exact hr k hk
theorem pf14 : Pf 14 ss14 ns14 := fun ts M Q E h => by
  match ts, h with
  | [.loc p, .int 5, .int 6], ⟨hp, q⟩ =>
    show dSs Gm ss14 (rtEnds Q E) [some (.loc p), some (.int 5), some (.int 6), none, none] M
    unfold ss14
    simp (maxSteps := 4000000) only [dSs, dS, dE, dT, dEs, dI, dG, dGs, dO, cond_true, cond_false, opS, cmS, bfS, meS, sSeq, sNext, sPass, sBrk, sCnt, sExpr, sRet, sRet0, sIf, sFor, sAsg, sPar, sNever, tO, tO1, tON, tB2, tCh, tA0, tA1, tTu, tLi, tAn, tOr2, tNo, tIe, tAnT, tOrT, tNoT, tTr, tSlot, TL.tCon, tGlo, conT, tIsi, tCl, tFrz, tSl2, tP0, tP1, tRev, tMeL, tMeS, gSl, gsNil, gsCons, gTu, gSb, Gs.len, addS, subS, mulS, divS, modS, powS, negS, cmpS, eqS_int, neS_int, eqS_str, neS_str, isS, lenS, absS, intS, tupS, listS, sumS, allS, gcdS, newL, ixS, slS, truT, itemsOf, lsOf, sqOf, tItA, tItE, tItR1, tItR2, tItZ, List.zip_cons_cons, List.zip_nil_left, List.zip_nil_right, List.foldl_cons, List.foldl_nil, List.getElem?_cons_zero, List.getElem?_cons_succ, List.set_cons_zero, List.set_cons_succ, List.length_cons, List.length_nil, Int.reduceEq, Int.reduceNeg, true_and, false_and, and_true, or_false, false_or, eq_self, T.int.injEq, exists_eq_left, exists_eq_left', setS, appS, upS_same, isLs_own, joinS, minS, zipT, ]
    unfold tComp
    simp (maxSteps := 4000000) only [dSs, dS, dE, dT, dEs, dI, dG, dGs, dO, cond_true, cond_false, opS, cmS, bfS, meS, sSeq, sNext, sPass, sBrk, sCnt, sExpr, sRet, sRet0, sIf, sFor, sAsg, sPar, sNever, tO, tO1, tON, tB2, tCh, tA0, tA1, tTu, tLi, tAn, tOr2, tNo, tIe, tAnT, tOrT, tNoT, tTr, tSlot, TL.tCon, tGlo, conT, tIsi, tCl, tFrz, tSl2, tP0, tP1, tRev, tMeL, tMeS, gSl, gsNil, gsCons, gTu, gSb, Gs.len, addS, subS, mulS, divS, modS, powS, negS, cmpS, eqS_int, neS_int, eqS_str, neS_str, isS, lenS, absS, intS, tupS, listS, sumS, allS, gcdS, newL, ixS, slS, truT, itemsOf, lsOf, sqOf, tItA, tItE, tItR1, tItR2, tItZ, List.zip_cons_cons, List.zip_nil_left, List.zip_nil_right, List.foldl_cons, List.foldl_nil, List.getElem?_cons_zero, List.getElem?_cons_succ, List.set_cons_zero, List.set_cons_succ, List.length_cons, List.length_nil, Int.reduceEq, Int.reduceNeg, true_and, false_and, and_true, or_false, false_or, eq_self, T.int.injEq, exists_eq_left, exists_eq_left', setS, appS, upS_same, isLs_own, joinS, minS, zipT, Gm, conts, c1, GR]
    refine ⟨⟨hp, by decide, by decide⟩, fun n n0 n1 => ⟨by omega, by rw [rangeT_len]; show _ ≤ 16777216; omega, ?_⟩⟩
    refine compL_any (fun y => ∃ m : Int, y = .int m ∧ (1 ≤ m ∧ m ≤ 6)) _ _ (fun t ht k hk => ?_) fun ys hl hy => ?_
    · refine ⟨⟨hp, by decide, by decide⟩, fun z z0 z1 => ?_⟩
      exact hk _ ⟨1 + z, rfl, by omega, by omega⟩
    rw [rangeT_len] at hl
    obtain ⟨r, rfl, hr⟩ := ints_of hy
    rw [iv_len] at hl
    rw [List.nil_append]
    simp (maxSteps := 4000000) only [dSs, dS, dE, dT, dEs, dI, dG, dGs, dO, cond_true, cond_false, opS, cmS, bfS, meS, sSeq, sNext, sPass, sBrk, sCnt, sExpr, sRet, sRet0, sIf, sFor, sAsg, sPar, sNever, tO, tO1, tON, tB2, tCh, tA0, tA1, tTu, tLi, tAn, tOr2, tNo, tIe, tAnT, tOrT, tNoT, tTr, tSlot, TL.tCon, tGlo, conT, tIsi, tCl, tFrz, tSl2, tP0, tP1, tRev, tMeL, tMeS, gSl, gsNil, gsCons, gTu, gSb, Gs.len, addS, subS, mulS, divS, modS, powS, negS, cmpS, eqS_int, neS_int, eqS_str, neS_str, isS, lenS, absS, intS, tupS, listS, sumS, allS, gcdS, newL, ixS, slS, truT, itemsOf, lsOf, sqOf, tItA, tItE, tItR1, tItR2, tItZ, List.zip_cons_cons, List.zip_nil_left, List.zip_nil_right, List.foldl_cons, List.foldl_nil, List.getElem?_cons_zero, List.getElem?_cons_succ, List.set_cons_zero, List.set_cons_succ, List.length_cons, List.length_nil, Int.reduceEq, Int.reduceNeg, true_and, false_and, and_true, or_false, false_or, eq_self, T.int.injEq, exists_eq_left, exists_eq_left', setS, appS, upS_same, isLs_own, joinS, minS, zipT, Br_iff]
    have e0 : neS (.tup (iv r)) (.tup []) = neS (.tup (r.map T.int)) (.tup (([] : List Int).map T.int)) := rfl
    rw [e0]
    refine ⟨by decide, ?_⟩
    rw [neS_itup]
    have tl : Tl r := fun m hm => (hr m hm).1
    have fin1 : (rtEnds Q E).rt (.tup (iv r)) M := rt_ok (q r tl.ru (by omega) fun m hm => (hr m hm).2)
    by_cases h0 : r = []
    · subst h0
      simp only [decide_true, Bool.not_true, Bool.false_eq_true, if_false]
      exact fin1
    · simp only [h0, decide_false, Bool.not_false, if_true]
      refine ⟨⟨hp, by decide⟩, fun z z0 z1 => ?_⟩
      split
      · refine ⟨by decide, by simp only [iv_len]; show _ ≤ 16777216; omega, rt_ok ?_⟩
        refine q (0 :: r) ⟨by decide, tl, fun _ => h0⟩ (by rw [List.length_cons]; omega) fun m hm => ?_
        rcases List.mem_cons.mp hm with rfl | hm
        · decide
        · exact (hr m hm).2
      · exact fin1
/-! ### paths -/
def segs : Bool → List Int → List Str
  | _, [] => []
  | e, m :: r => ⟨(List.replicate m.toNat (if e then 117 else 100)).toArray⟩ :: segs (!e) r
def segF (r0 : List Int) (t : T) : T := match t with
  | .int i => .str ⟨(List.replicate (r0.getD i.toNat 0).toNat (if i % 2 = 0 then 117 else 100)).toArray⟩
  | t => t
theorem segs_range (r0 : List Int) : ∀ (r done : List Int), r0 = done ++ r → (TL.rangeT (done.length : Nat) r.length).map (segF r0) = (segs (ev done.length) r).map T.str
  | [], done, _ => by cases ev done.length <;> rfl
  | m :: r, done, e => by
    have e2 : r0 = (done ++ [m]) ++ r := by rw [e]; simp
    have ih := segs_range r0 r (done ++ [m]) e2
    have el : ((done ++ [m]).length : Int) = (done.length : Int) + 1 := by rw [List.length_append]; rfl
    have ev2 : ev (done ++ [m]).length = !ev done.length := by rw [List.length_append]; exact ev_succ _
    rw [el, ev2] at ih
    rw [List.length_cons, rangeT_succ, List.map_cons, ih]
    have g : r0.getD ((done.length : Int)).toNat 0 = m := by
      rw [e, List.getD_eq_getElem?_getD, Int.toNat_natCast, List.getElem?_append_right (Nat.le_refl _), Nat.sub_self]
      rfl
    have h : segF r0 (.int (done.length : Nat)) = .str ⟨(List.replicate m.toNat (if ev done.length then 117 else 100)).toArray⟩ := by
      unfold segF
      dsimp only
      rw [g]
      have e3 := even_dec done.length
      by_cases hh : ((done.length : Nat) : Int) % 2 = 0
      · rw [decide_eq_true hh] at e3; rw [if_pos hh, ← e3]; rfl
      · rw [decide_eq_false hh] at e3; rw [if_neg hh, ← e3]; rfl
    rw [h]
    cases ev done.length <;> rfl
theorem join_nil0 : ∀ ys : List Str, (Str.join (Str.ofString "") ys).cps.toList = (ys.map fun y => y.cps.toList).flatten
  | [] => rfl
  | [x] => by
    show x.cps.toList = _
    simp
  | x :: y :: r => by
    have ih := join_nil0 (y :: r)
    have e : (Str.join (Str.ofString "") (x :: y :: r)).cps.toList = x.cps.toList ++ (Str.join (Str.ofString "") (y :: r)).cps.toList := by
      show ((x.cps ++ (Str.ofString "").cps) ++ (Str.join (Str.ofString "") (y :: r)).cps).toList = _
      have : (Str.ofString "").cps = #[] := rfl
      rw [this]
      simp
    rw [e, ih]
    rfl
theorem join_nil (ys : List Str) : (PySem.Txt.join (Str.ofString "") ys).cps.toList = (ys.map fun y => y.cps.toList).flatten := by
  have e : PySem.Txt.join (Str.ofString "") ys = Str.join (Str.ofString "") ys := StrLaws.glued_eq_join _ _
  rw [e]
  exact join_nil0 ys
theorem segs_pth : ∀ (r : List Int) (e : Bool), ((segs e r).map fun y => y.cps.toList).flatten = (pth e r).map fun e => if e then 117 else 100
  | [], e => by cases e <;> rfl
  | m :: r, e => by
    show (((⟨(List.replicate m.toNat (if e then 117 else 100)).toArray⟩ : Str) :: segs (!e) r).map fun y => y.cps.toList).flatten = (List.replicate m.toNat e ++ pth (!e) r).map _
    rw [List.map_cons, List.flatten_cons, segs_pth r (!e), List.map_append, List.map_replicate]
theorem segs_size : ∀ (r : List Int) (e : Bool), (∀ m ∈ r, 0 ≤ m ∧ m ≤ 20) → ((segs e r).map (·.length)).sum ≤ 20 * r.length ∧ (segs e r).length = r.length
  | [], e, _ => by cases e <;> exact ⟨Nat.le_refl _, rfl⟩
  | m :: r, e, h => by
    obtain ⟨a, b⟩ := segs_size r (!e) fun k hk => h k (List.mem_cons_of_mem _ hk)
    have hm := h m List.mem_cons_self
    have e1 : segs e (m :: r) = ⟨(List.replicate m.toNat (if e then 117 else 100)).toArray⟩ :: segs (!e) r := by cases e <;> rfl
    rw [e1, List.map_cons, List.sum_cons, List.length_cons, List.length_cons, b]
    refine ⟨?_, rfl⟩
    have : (⟨(List.replicate m.toNat (if e then 117 else 100)).toArray⟩ : Str).length = m.toNat := by
      show (List.replicate m.toNat (if e = true then 117 else 100)).toArray.size = _
      simp
    rw [this]
    omega
theorem pf17 : Pf 17 ss17 ns17 := fun ts M Q E h => by
  obtain ⟨r, rfl, ⟨hl, hb⟩, q⟩ := h
  show dSs Gm ss17 (rtEnds Q E) [some (.tup (iv r)), none] M
  unfold ss17
  simp (maxSteps := 4000000) only [dSs, dS, dE, dT, dEs, dI, dG, dGs, dO, cond_true, cond_false, opS, cmS, bfS, meS, sSeq, sNext, sPass, sBrk, sCnt, sExpr, sRet, sRet0, sIf, sFor, sAsg, sPar, sNever, tO, tO1, tON, tB2, tCh, tA0, tA1, tTu, tLi, tAn, tOr2, tNo, tIe, tAnT, tOrT, tNoT, tTr, tSlot, TL.tCon, tGlo, conT, tIsi, tCl, tFrz, tSl2, tP0, tP1, tRev, tMeL, tMeS, gSl, gsNil, gsCons, gTu, gSb, Gs.len, addS, subS, mulS, divS, modS, powS, negS, cmpS, eqS_int, neS_int, eqS_str, neS_str, isS, lenS, absS, intS, tupS, listS, sumS, allS, gcdS, newL, ixS, slS, truT, itemsOf, lsOf, sqOf, tItA, tItE, tItR1, tItR2, tItZ, List.zip_cons_cons, List.zip_nil_left, List.zip_nil_right, List.foldl_cons, List.foldl_nil, List.getElem?_cons_zero, List.getElem?_cons_succ, List.set_cons_zero, List.set_cons_succ, List.length_cons, List.length_nil, Int.reduceEq, Int.reduceNeg, true_and, false_and, and_true, or_false, false_or, eq_self, T.int.injEq, exists_eq_left, exists_eq_left', setS, appS, upS_same, isLs_own, joinS, minS, zipT]
  refine ⟨⟨_, rfl⟩, ?_⟩
  unfold tComp
  simp (maxSteps := 4000000) only [dSs, dS, dE, dT, dEs, dI, dG, dGs, dO, cond_true, cond_false, opS, cmS, bfS, meS, sSeq, sNext, sPass, sBrk, sCnt, sExpr, sRet, sRet0, sIf, sFor, sAsg, sPar, sNever, tO, tO1, tON, tB2, tCh, tA0, tA1, tTu, tLi, tAn, tOr2, tNo, tIe, tAnT, tOrT, tNoT, tTr, tSlot, TL.tCon, tGlo, conT, tIsi, tCl, tFrz, tSl2, tP0, tP1, tRev, tMeL, tMeS, gSl, gsNil, gsCons, gTu, gSb, Gs.len, addS, subS, mulS, divS, modS, powS, negS, cmpS, eqS_int, neS_int, eqS_str, neS_str, isS, lenS, absS, intS, tupS, listS, sumS, allS, gcdS, newL, ixS, slS, truT, itemsOf, lsOf, sqOf, tItA, tItE, tItR1, tItR2, tItZ, List.zip_cons_cons, List.zip_nil_left, List.zip_nil_right, List.foldl_cons, List.foldl_nil, List.getElem?_cons_zero, List.getElem?_cons_succ, List.set_cons_zero, List.set_cons_succ, List.length_cons, List.length_nil, Int.reduceEq, Int.reduceNeg, true_and, false_and, and_true, or_false, false_or, eq_self, T.int.injEq, exists_eq_left, exists_eq_left', setS, appS, upS_same, isLs_own, joinS, minS, zipT]
  rw [iv_len]
  refine ⟨by omega, by rw [rangeT_len]; show _ ≤ 16777216; omega, ?_⟩
  refine compL_map (segF r) _ [] (fun t ht k hk => ?_) ?_
  · obtain ⟨i, hi, rfl⟩ := rangeT_mem ht
    rw [Int.zero_add] at hk ⊢
    simp (maxSteps := 4000000) only [dSs, dS, dE, dT, dEs, dI, dG, dGs, dO, cond_true, cond_false, opS, cmS, bfS, meS, sSeq, sNext, sPass, sBrk, sCnt, sExpr, sRet, sRet0, sIf, sFor, sAsg, sPar, sNever, tO, tO1, tON, tB2, tCh, tA0, tA1, tTu, tLi, tAn, tOr2, tNo, tIe, tAnT, tOrT, tNoT, tTr, tSlot, TL.tCon, tGlo, conT, tIsi, tCl, tFrz, tSl2, tP0, tP1, tRev, tMeL, tMeS, gSl, gsNil, gsCons, gTu, gSb, Gs.len, addS, subS, mulS, divS, modS, powS, negS, cmpS, eqS_int, neS_int, eqS_str, neS_str, isS, lenS, absS, intS, tupS, listS, sumS, allS, gcdS, newL, ixS, slS, truT, itemsOf, lsOf, sqOf, tItA, tItE, tItR1, tItR2, tItZ, List.zip_cons_cons, List.zip_nil_left, List.zip_nil_right, List.foldl_cons, List.foldl_nil, List.getElem?_cons_zero, List.getElem?_cons_succ, List.set_cons_zero, List.set_cons_succ, List.length_cons, List.length_nil, Int.reduceEq, Int.reduceNeg, true_and, false_and, and_true, or_false, false_or, eq_self, T.int.injEq, exists_eq_left, exists_eq_left', setS, appS, upS_same, isLs_own, joinS, minS, zipT]
    have at_ : atI (iv r) (i : Nat) = some (.int (r.getD i 0)) := by
      rw [TL.atI_nat, iv, List.getElem?_map, List.getElem?_eq_getElem (by omega), List.getD_eq_getElem?_getD, List.getElem?_eq_getElem (by omega)]
      rfl
    have hm := hb (r.getD i 0) (by
      rw [List.getD_eq_getElem?_getD, List.getElem?_eq_getElem (by omega)]
      exact List.getElem_mem _)
    have ud : ∃ c, atI (Str.ofString "ud").cps.toList ((i : Int) % 2) = some c ∧ c = (if (i : Int) % 2 = 0 then 117 else 100) := by
      have h2 : (i : Int) % 2 = 0 ∨ (i : Int) % 2 = 1 := by omega
      rcases h2 with h2 | h2
      · rw [h2]; exact ⟨117, by decide +kernel, rfl⟩
      · rw [h2]; exact ⟨100, by decide +kernel, rfl⟩
    obtain ⟨c, hc, ec⟩ := ud
    refine ⟨by decide, by decide +kernel, c, hc, .int (r.getD i 0), at_, ?_⟩
    simp (maxSteps := 4000000) only [dSs, dS, dE, dT, dEs, dI, dG, dGs, dO, cond_true, cond_false, opS, cmS, bfS, meS, sSeq, sNext, sPass, sBrk, sCnt, sExpr, sRet, sRet0, sIf, sFor, sAsg, sPar, sNever, tO, tO1, tON, tB2, tCh, tA0, tA1, tTu, tLi, tAn, tOr2, tNo, tIe, tAnT, tOrT, tNoT, tTr, tSlot, TL.tCon, tGlo, conT, tIsi, tCl, tFrz, tSl2, tP0, tP1, tRev, tMeL, tMeS, gSl, gsNil, gsCons, gTu, gSb, Gs.len, addS, subS, mulS, divS, modS, powS, negS, cmpS, eqS_int, neS_int, eqS_str, neS_str, isS, lenS, absS, intS, tupS, listS, sumS, allS, gcdS, newL, ixS, slS, truT, itemsOf, lsOf, sqOf, tItA, tItE, tItR1, tItR2, tItZ, List.zip_cons_cons, List.zip_nil_left, List.zip_nil_right, List.foldl_cons, List.foldl_nil, List.getElem?_cons_zero, List.getElem?_cons_succ, List.set_cons_zero, List.set_cons_succ, List.length_cons, List.length_nil, Int.reduceEq, Int.reduceNeg, true_and, false_and, and_true, or_false, false_or, eq_self, T.int.injEq, exists_eq_left, exists_eq_left', setS, appS, upS_same, isLs_own, joinS, minS, zipT]
    refine ⟨⟨by omega, by omega, by show 1 ≤ 16777216; decide, by show 1 * _ ≤ 16777216; omega⟩, ?_⟩
    have e : segF r (.int (i : Nat)) = .str ⟨(List.replicate (r.getD i 0).toNat [c]).flatten.toArray⟩ := by
      unfold segF
      dsimp only
      rw [ec, Int.toNat_natCast]
      congr 3
      generalize (r.getD i 0).toNat = n
      induction n with
      | zero => rfl
      | succ n ih => rw [List.replicate_succ, List.replicate_succ, List.flatten_cons, ← ih]; rfl
    rw [e] at hk
    exact hk
  rw [List.nil_append]
  have e := segs_range r r [] rfl
  have e' : (TL.rangeT 0 r.length).map (segF r) = (segs true r).map T.str := e
  rw [Int.toNat_natCast, e', strsOf_map]
  obtain ⟨s1, s2⟩ := segs_size r true hb
  simp (maxSteps := 4000000) only [dSs, dS, dE, dT, dEs, dI, dG, dGs, dO, cond_true, cond_false, opS, cmS, bfS, meS, sSeq, sNext, sPass, sBrk, sCnt, sExpr, sRet, sRet0, sIf, sFor, sAsg, sPar, sNever, tO, tO1, tON, tB2, tCh, tA0, tA1, tTu, tLi, tAn, tOr2, tNo, tIe, tAnT, tOrT, tNoT, tTr, tSlot, TL.tCon, tGlo, conT, tIsi, tCl, tFrz, tSl2, tP0, tP1, tRev, tMeL, tMeS, gSl, gsNil, gsCons, gTu, gSb, Gs.len, addS, subS, mulS, divS, modS, powS, negS, cmpS, eqS_int, neS_int, eqS_str, neS_str, isS, lenS, absS, intS, tupS, listS, sumS, allS, gcdS, newL, ixS, slS, truT, itemsOf, lsOf, sqOf, tItA, tItE, tItR1, tItR2, tItZ, List.zip_cons_cons, List.zip_nil_left, List.zip_nil_right, List.foldl_cons, List.foldl_nil, List.getElem?_cons_zero, List.getElem?_cons_succ, List.set_cons_zero, List.set_cons_succ, List.length_cons, List.length_nil, Int.reduceEq, Int.reduceNeg, true_and, false_and, and_true, or_false, false_or, eq_self, T.int.injEq, exists_eq_left, exists_eq_left', setS, appS, upS_same, isLs_own, joinS, minS, zipT]
  refine ⟨?_, rt_ok ?_⟩
  · have : (Str.ofString "").length = 0 := rfl
    rw [this]
    omega
  · have e3 : PySem.Txt.join (Str.ofString "") (segs true r) = pathS r := by
      have h := join_nil (segs true r)
      rw [segs_pth] at h
      unfold pathS
      rw [← h]
    rw [e3]
    exact q
end LW

namespace LW
open PySem PySem.Spec PyProof.Rows L2 TL M83

theorem pf22 : Pf 22 ss22 ns22 := fun ts M Q E h => by
  match ts, h with
  | [.int a, .int b], ⟨⟨ha, hb⟩, q⟩ =>
    show dSs Gm ss22 (rtEnds Q E) [some (.int a), some (.int b)] M
    unfold ss22
    simp (maxSteps := 4000000) only [dSs, dS, dE, dT, dEs, dI, dG, dGs, dO, cond_true, cond_false, opS, cmS, bfS, meS, sSeq, sNext, sPass, sBrk, sCnt, sExpr, sRet, sRet0, sIf, sFor, sAsg, sPar, sNever, tO, tO1, tON, tB2, tCh, tA0, tA1, tTu, tLi, tAn, tOr2, tNo, tIe, tAnT, tOrT, tNoT, tTr, tSlot, TL.tCon, tGlo, conT, tIsi, tCl, tFrz, tSl2, tP0, tP1, tRev, tMeL, tMeS, gSl, gsNil, gsCons, gTu, gSb, Gs.len, addS, subS, mulS, divS, modS, powS, negS, cmpS, eqS_int, neS_int, eqS_str, neS_str, isS, lenS, absS, intS, tupS, listS, sumS, allS, gcdS, newL, ixS, slS, truT, itemsOf, lsOf, sqOf, tItA, tItE, tItR1, tItR2, tItZ, List.zip_cons_cons, List.zip_nil_left, List.zip_nil_right, List.foldl_cons, List.foldl_nil, List.getElem?_cons_zero, List.getElem?_cons_succ, List.set_cons_zero, List.set_cons_succ, List.length_cons, List.length_nil, Int.reduceEq, Int.reduceNeg, true_and, false_and, and_true, or_false, false_or, eq_self, T.int.injEq, exists_eq_left, exists_eq_left', setS, appS, upS_same, isLs_own, joinS, minS, zipT]
    unfold sWhile
    obtain ⟨V, hV⟩ : ∃ V : Nat → St2 → Store → Prop, ∀ m ρ M', V m ρ M' ↔ ∃ x y : Int, 0 ≤ x ∧ 0 ≤ y ∧ Int.gcd x y = Int.gcd a b ∧ m = y.toNat ∧ M' = M ∧ ρ = [some (.int x), some (.int y)] := ⟨_, fun _ _ _ => Iff.rfl⟩
    refine ⟨V, ⟨b.toNat, (hV _ _ _).mpr ⟨a, b, ha, hb, rfl, rfl, rfl, rfl⟩⟩, fun m ρ M' v => ?_⟩
    obtain ⟨x, y, hx, hy, hg, rfl, rfl, rfl⟩ := (hV _ _ _).mp v
    simp (maxSteps := 4000000) only [dSs, dS, dE, dT, dEs, dI, dG, dGs, dO, cond_true, cond_false, opS, cmS, bfS, meS, sSeq, sNext, sPass, sBrk, sCnt, sExpr, sRet, sRet0, sIf, sFor, sAsg, sPar, sNever, tO, tO1, tON, tB2, tCh, tA0, tA1, tTu, tLi, tAn, tOr2, tNo, tIe, tAnT, tOrT, tNoT, tTr, tSlot, TL.tCon, tGlo, conT, tIsi, tCl, tFrz, tSl2, tP0, tP1, tRev, tMeL, tMeS, gSl, gsNil, gsCons, gTu, gSb, Gs.len, addS, subS, mulS, divS, modS, powS, negS, cmpS, eqS_int, neS_int, eqS_str, neS_str, isS, lenS, absS, intS, tupS, listS, sumS, allS, gcdS, newL, ixS, slS, truT, itemsOf, lsOf, sqOf, tItA, tItE, tItR1, tItR2, tItZ, List.zip_cons_cons, List.zip_nil_left, List.zip_nil_right, List.foldl_cons, List.foldl_nil, List.getElem?_cons_zero, List.getElem?_cons_succ, List.set_cons_zero, List.set_cons_succ, List.length_cons, List.length_nil, Int.reduceEq, Int.reduceNeg, true_and, false_and, and_true, or_false, false_or, eq_self, T.int.injEq, exists_eq_left, exists_eq_left', setS, appS, upS_same, isLs_own, joinS, minS, zipT, Br_iff]
    by_cases h : y = 0
    · subst h
      rw [if_neg (by simp)]
      rw [Int.gcd_zero_right] at hg
      rw [← hg] at q
      have : ((x.natAbs : Nat) : Int) = x := Int.natAbs_of_nonneg hx
      rw [this] at q
      exact rt_ok q
    · rw [if_pos (by simp [h])]
      have m0 := Int.emod_nonneg x h
      have m1 := Int.emod_lt_of_pos x (by omega : 0 < y)
      refine ⟨by omega, (x % y).toNat, by omega, (hV _ _ _).mpr ⟨y, x % y, hy, m0, ?_, rfl, rfl, rfl⟩⟩
      rw [gcd_emod (by omega)]
      exact hg
theorem pf23 : Pf 23 ss23 ns23 := fun ts M Q E h => by
  match ts, h with
  | [.loc p, .int m], ⟨⟨hp, h0, h1⟩, q⟩ =>
    show dSs Gm ss23 (rtEnds Q E) [some (.loc p), some (.int m), none, none, none] M
    unfold ss23
    simp (maxSteps := 4000000) only [dSs, dS, dE, dT, dEs, dI, dG, dGs, dO, cond_true, cond_false, opS, cmS, bfS, meS, sSeq, sNext, sPass, sBrk, sCnt, sExpr, sRet, sRet0, sIf, sFor, sAsg, sPar, sNever, tO, tO1, tON, tB2, tCh, tA0, tA1, tTu, tLi, tAn, tOr2, tNo, tIe, tAnT, tOrT, tNoT, tTr, tSlot, TL.tCon, tGlo, conT, tIsi, tCl, tFrz, tSl2, tP0, tP1, tRev, tMeL, tMeS, gSl, gsNil, gsCons, gTu, gSb, Gs.len, addS, subS, mulS, divS, modS, powS, negS, cmpS, eqS_int, neS_int, eqS_str, neS_str, isS, lenS, absS, intS, tupS, listS, sumS, allS, gcdS, newL, ixS, slS, truT, itemsOf, lsOf, sqOf, tItA, tItE, tItR1, tItR2, tItZ, List.zip_cons_cons, List.zip_nil_left, List.zip_nil_right, List.foldl_cons, List.foldl_nil, List.getElem?_cons_zero, List.getElem?_cons_succ, List.set_cons_zero, List.set_cons_succ, List.length_cons, List.length_nil, Int.reduceEq, Int.reduceNeg, true_and, false_and, and_true, or_false, false_or, eq_self, T.int.injEq, exists_eq_left, exists_eq_left', setS, appS, upS_same, isLs_own, joinS, minS, zipT, Gm, conts, c1, c22]
    refine ⟨⟨hp, h0, h1⟩, fun r r0 r1 => ⟨⟨hp, h0, h1⟩, fun s s0 s1 => ?_⟩⟩
    have gp : 0 < Int.gcd (1 + r) (1 + s) := Int.gcd_pos_of_ne_zero_left _ (by omega)
    have g1 := Int.gcd_ediv_gcd_ediv_gcd gp
    have d1 : ((Int.gcd (1 + r) (1 + s) : Nat) : Int) ∣ 1 + r := Int.gcd_dvd_left ..
    have d2 : ((Int.gcd (1 + r) (1 + s) : Nat) : Int) ∣ 1 + s := Int.gcd_dvd_right ..
    have le1 := Int.le_of_dvd (by omega) d1
    have gg := gr_lt
    have h1 : m ≤ GR := h1
    have g0 : (0 : Int) < ((Int.gcd (1 + r) (1 + s) : Nat) : Int) := by omega
    refine ⟨⟨by omega, by omega⟩, pos_ok (by omega) (by omega), pos_ok (by omega) (by omega), by decide, rt_ok (q _ _ ?_)⟩
    generalize ((Int.gcd (1 + r) (1 + s) : Nat) : Int) = g at *
    have t1 : 1 ≤ (1 + r) / g := by
      rw [Int.le_ediv_iff_mul_le g0]; omega
    have le2 := Int.le_of_dvd (by omega) d2
    have t2 : 1 ≤ (1 + s) / g := by
      rw [Int.le_ediv_iff_mul_le g0]; omega
    have u1 : (1 + r) / g ≤ 1 + r := Int.ediv_le_self _ (by omega)
    have u2 : (1 + s) / g ≤ 1 + s := Int.ediv_le_self _ (by omega)
    exact ⟨t1, by omega, t2, by omega, g1⟩
theorem loop24 (rt : T) (D : Ends2) (M : Store) : ∀ (d s : List Int) (z : Option T), (∀ m ∈ d, 0 ≤ m ∧ m ≤ GR) →
    (∀ z, D.nx [some rt, some (.int (cv (d.reverse ++ s)).1), some (.int (cv (d.reverse ++ s)).2), z] M) → forL (dG Gm g24_0) (dSs Gm b24_0) D (iv d) [some rt, some (.int (cv s).1), some (.int (cv s).2), z] M
  | [], s, z, _, q => q z
  | m :: d, s, z, hb, q => by
    have hm := hb m List.mem_cons_self
    have gg := gr_lt
    have ih := fun z q => loop24 rt D M d (m :: s) z (fun k hk => hb k (List.mem_cons_of_mem _ hk)) q
    show forL (dG Gm g24_0) (dSs Gm b24_0) D (.int m :: iv d) _ M
    unfold forL
    generalize forL (dG Gm g24_0) (dSs Gm b24_0) D (iv d) = F at ih ⊢
    unfold g24_0 b24_0
    simp (maxSteps := 4000000) only [dSs, dS, dE, dT, dEs, dI, dG, dGs, dO, cond_true, cond_false, opS, cmS, bfS, meS, sSeq, sNext, sPass, sBrk, sCnt, sExpr, sRet, sRet0, sIf, sFor, sAsg, sPar, sNever, tO, tO1, tON, tB2, tCh, tA0, tA1, tTu, tLi, tAn, tOr2, tNo, tIe, tAnT, tOrT, tNoT, tTr, tSlot, TL.tCon, tGlo, conT, tIsi, tCl, tFrz, tSl2, tP0, tP1, tRev, tMeL, tMeS, gSl, gsNil, gsCons, gTu, gSb, Gs.len, addS, subS, mulS, divS, modS, powS, negS, cmpS, eqS_int, neS_int, eqS_str, neS_str, isS, lenS, absS, intS, tupS, listS, sumS, allS, gcdS, newL, ixS, slS, truT, itemsOf, lsOf, sqOf, tItA, tItE, tItR1, tItR2, tItZ, List.zip_cons_cons, List.zip_nil_left, List.zip_nil_right, List.foldl_cons, List.foldl_nil, List.getElem?_cons_zero, List.getElem?_cons_succ, List.set_cons_zero, List.set_cons_succ, List.length_cons, List.length_nil, Int.reduceEq, Int.reduceNeg, true_and, false_and, and_true, or_false, false_or, eq_self, T.int.injEq, exists_eq_left, exists_eq_left', setS, appS, upS_same, isLs_own, joinS, minS, zipT]
    refine ⟨mul_l (by omega) (by omega), ih _ fun z => ?_⟩
    have q := q z
    rw [List.reverse_cons, List.append_assoc] at q
    exact q
theorem pf24 : Pf 24 ss24 ns24 := fun ts M Q E h => by
  obtain ⟨r, rfl, ⟨ne, hb⟩, q⟩ := h
  show dSs Gm ss24 (rtEnds Q E) [some (.tup (iv r)), none, none, none] M
  obtain ⟨d, z, rfl⟩ : ∃ d z, r = d ++ [z] := ⟨r.dropLast, r.getLast ne, (List.dropLast_concat_getLast ne).symm⟩
  unfold ss24
  have e1 : atI (iv (d ++ [z])) (-1) = some (.int z) := by rw [TL.atI_last, iv_app, iv_one, List.getLast?_concat]
  have e2 : cutT (iv (d ++ [z])) none (some (-1)) = iv d := by rw [cut_init, iv_app, iv_one, List.dropLast_concat]
  simp (maxSteps := 4000000) only [dSs, dS, dE, dT, dEs, dI, dG, dGs, dO, cond_true, cond_false, opS, cmS, bfS, meS, sSeq, sNext, sPass, sBrk, sCnt, sExpr, sRet, sRet0, sIf, sFor, sAsg, sPar, sNever, tO, tO1, tON, tB2, tCh, tA0, tA1, tTu, tLi, tAn, tOr2, tNo, tIe, tAnT, tOrT, tNoT, tTr, tSlot, TL.tCon, tGlo, conT, tIsi, tCl, tFrz, tSl2, tP0, tP1, tRev, tMeL, tMeS, gSl, gsNil, gsCons, gTu, gSb, Gs.len, addS, subS, mulS, divS, modS, powS, negS, cmpS, eqS_int, neS_int, eqS_str, neS_str, isS, lenS, absS, intS, tupS, listS, sumS, allS, gcdS, newL, ixS, slS, truT, itemsOf, lsOf, sqOf, tItA, tItE, tItR1, tItR2, tItZ, List.zip_cons_cons, List.zip_nil_left, List.zip_nil_right, List.foldl_cons, List.foldl_nil, List.getElem?_cons_zero, List.getElem?_cons_succ, List.set_cons_zero, List.set_cons_succ, List.length_cons, List.length_nil, Int.reduceEq, Int.reduceNeg, true_and, false_and, and_true, or_false, false_or, eq_self, T.int.injEq, exists_eq_left, exists_eq_left', setS, appS, upS_same, isLs_own, joinS, minS, zipT, e1, e2, Option.some.injEq, exists_eq_left']
  have e3 : (iv d).reverse = iv d.reverse := by unfold iv; rw [List.map_reverse]
  rw [e3]
  have fin := loop24 (.tup (iv (d ++ [z]))) { rtEnds Q E with nx := fun ρ M => sRet (tTu (tA1 (tSlot 1) (tA1 (tSlot 2) tA0))) { rtEnds Q E with nx := sNext (rtEnds Q E) } ρ M } M d.reverse [z] none (fun m hm => hb m (by simp at hm; simp [hm])) (fun x => by
    simp (maxSteps := 4000000) only [dSs, dS, dE, dT, dEs, dI, dG, dGs, dO, cond_true, cond_false, opS, cmS, bfS, meS, sSeq, sNext, sPass, sBrk, sCnt, sExpr, sRet, sRet0, sIf, sFor, sAsg, sPar, sNever, tO, tO1, tON, tB2, tCh, tA0, tA1, tTu, tLi, tAn, tOr2, tNo, tIe, tAnT, tOrT, tNoT, tTr, tSlot, TL.tCon, tGlo, conT, tIsi, tCl, tFrz, tSl2, tP0, tP1, tRev, tMeL, tMeS, gSl, gsNil, gsCons, gTu, gSb, Gs.len, addS, subS, mulS, divS, modS, powS, negS, cmpS, eqS_int, neS_int, eqS_str, neS_str, isS, lenS, absS, intS, tupS, listS, sumS, allS, gcdS, newL, ixS, slS, truT, itemsOf, lsOf, sqOf, tItA, tItE, tItR1, tItR2, tItZ, List.zip_cons_cons, List.zip_nil_left, List.zip_nil_right, List.foldl_cons, List.foldl_nil, List.getElem?_cons_zero, List.getElem?_cons_succ, List.set_cons_zero, List.set_cons_succ, List.length_cons, List.length_nil, Int.reduceEq, Int.reduceNeg, true_and, false_and, and_true, or_false, false_or, eq_self, T.int.injEq, exists_eq_left, exists_eq_left', setS, appS, upS_same, isLs_own, joinS, minS, zipT]
    rw [List.reverse_reverse]
    exact ⟨by decide, rt_ok q⟩)
  have e4 : cv [z] = (z, 1) := by
    show (z * 1 + 0, (1 : Int)) = _
    rw [Int.mul_one, Int.add_zero]
  rw [e4] at fin
  exact fin
theorem pf25 : Pf 25 ss25 ns25 := fun ts M Q E h => by
  match ts, h with
  | [.tup [.int a, .int b]], ⟨⟨s, hl⟩, q⟩ =>
    show dSs Gm ss25 (rtEnds Q E) [some (.tup [.int a, .int b]), none, none, none] M
    unfold ss25
    simp (maxSteps := 4000000) only [dSs, dS, dE, dT, dEs, dI, dG, dGs, dO, cond_true, cond_false, opS, cmS, bfS, meS, sSeq, sNext, sPass, sBrk, sCnt, sExpr, sRet, sRet0, sIf, sFor, sAsg, sPar, sNever, tO, tO1, tON, tB2, tCh, tA0, tA1, tTu, tLi, tAn, tOr2, tNo, tIe, tAnT, tOrT, tNoT, tTr, tSlot, TL.tCon, tGlo, conT, tIsi, tCl, tFrz, tSl2, tP0, tP1, tRev, tMeL, tMeS, gSl, gsNil, gsCons, gTu, gSb, Gs.len, addS, subS, mulS, divS, modS, powS, negS, cmpS, eqS_int, neS_int, eqS_str, neS_str, isS, lenS, absS, intS, tupS, listS, sumS, allS, gcdS, newL, ixS, slS, truT, itemsOf, lsOf, sqOf, tItA, tItE, tItR1, tItR2, tItZ, List.zip_cons_cons, List.zip_nil_left, List.zip_nil_right, List.foldl_cons, List.foldl_nil, List.getElem?_cons_zero, List.getElem?_cons_succ, List.set_cons_zero, List.set_cons_succ, List.length_cons, List.length_nil, Int.reduceEq, Int.reduceNeg, true_and, false_and, and_true, or_false, false_or, eq_self, T.int.injEq, exists_eq_left, exists_eq_left', setS, appS, upS_same, isLs_own, joinS, minS, zipT, atI_0, atI_1, Option.some.injEq, exists_eq_left']
    refine ⟨by decide, ?_⟩
    unfold sWhile
    have gg := gr_lt
    have b2 := s.b2
    have b1 := s.b1
    have a1 := s.a1
    obtain ⟨V, hV⟩ : ∃ V : Nat → St2 → Store → Prop, ∀ m ρ M', V m ρ M' ↔ ∃ (x y : Int) (done : List Int), 0 ≤ x ∧ 0 ≤ y ∧ y ≤ GR ∧ cf a b = done ++ cf x y ∧ m = y.toNat ∧ M' = M ∧ ρ = [some (.tup [.int a, .int b]), some (.int x), some (.int y), some (.tup (iv done))] := ⟨_, fun _ _ _ => Iff.rfl⟩
    refine ⟨V, ⟨b.toNat, (hV _ _ _).mpr ⟨a, b, [], by omega, by omega, b2, rfl, rfl, rfl, rfl⟩⟩, fun m ρ M' v => ?_⟩
    obtain ⟨x, y, done, hx, hy, hy2, hc, rfl, rfl, rfl⟩ := (hV _ _ _).mp v
    simp (maxSteps := 4000000) only [dSs, dS, dE, dT, dEs, dI, dG, dGs, dO, cond_true, cond_false, opS, cmS, bfS, meS, sSeq, sNext, sPass, sBrk, sCnt, sExpr, sRet, sRet0, sIf, sFor, sAsg, sPar, sNever, tO, tO1, tON, tB2, tCh, tA0, tA1, tTu, tLi, tAn, tOr2, tNo, tIe, tAnT, tOrT, tNoT, tTr, tSlot, TL.tCon, tGlo, conT, tIsi, tCl, tFrz, tSl2, tP0, tP1, tRev, tMeL, tMeS, gSl, gsNil, gsCons, gTu, gSb, Gs.len, addS, subS, mulS, divS, modS, powS, negS, cmpS, eqS_int, neS_int, eqS_str, neS_str, isS, lenS, absS, intS, tupS, listS, sumS, allS, gcdS, newL, ixS, slS, truT, itemsOf, lsOf, sqOf, tItA, tItE, tItR1, tItR2, tItZ, List.zip_cons_cons, List.zip_nil_left, List.zip_nil_right, List.foldl_cons, List.foldl_nil, List.getElem?_cons_zero, List.getElem?_cons_succ, List.set_cons_zero, List.set_cons_succ, List.length_cons, List.length_nil, Int.reduceEq, Int.reduceNeg, true_and, false_and, and_true, or_false, false_or, eq_self, T.int.injEq, exists_eq_left, exists_eq_left', setS, appS, upS_same, isLs_own, joinS, minS, zipT, Br_iff]
    by_cases h : 0 < y
    · rw [if_pos (by simp [h])]
      have m0 := Int.emod_nonneg x (by omega : y ≠ 0)
      have m1 := Int.emod_lt_of_pos x h
      rw [cf_pos h] at hc
      have len : done.length + 1 ≤ 100 := by
        rw [hc, List.length_append, List.length_cons] at hl; omega
      refine ⟨h, pos_ok h (by omega), by decide, by simp only [iv_len]; show _ ≤ 16777216; omega, (x % y).toNat, by omega, (hV _ _ _).mpr ⟨y, x % y, done ++ [x / y], hy, m0, by omega, ?_, rfl, rfl, ?_⟩⟩
      · rw [hc]; simp
      · rw [iv_app]; rfl
    · rw [if_neg (by simp [h])]
      have hz : cf x y = [] := cf_zero (by omega)
      rw [hz, List.append_nil] at hc
      rw [← hc]
      exact rt_ok q
theorem pf26 : Pf 26 ss26 ns26 := fun ts M Q E h => by
  match ts, h with
  | [.tup [.int a, .int b]], ⟨h, q⟩ =>
    show dSs Gm ss26 (rtEnds Q E) [some (.tup [.int a, .int b])] M
    unfold ss26
    simp (maxSteps := 4000000) only [dSs, dS, dE, dT, dEs, dI, dG, dGs, dO, cond_true, cond_false, opS, cmS, bfS, meS, sSeq, sNext, sPass, sBrk, sCnt, sExpr, sRet, sRet0, sIf, sFor, sAsg, sPar, sNever, tO, tO1, tON, tB2, tCh, tA0, tA1, tTu, tLi, tAn, tOr2, tNo, tIe, tAnT, tOrT, tNoT, tTr, tSlot, TL.tCon, tGlo, conT, tIsi, tCl, tFrz, tSl2, tP0, tP1, tRev, tMeL, tMeS, gSl, gsNil, gsCons, gTu, gSb, Gs.len, addS, subS, mulS, divS, modS, powS, negS, cmpS, eqS_int, neS_int, eqS_str, neS_str, isS, lenS, absS, intS, tupS, listS, sumS, allS, gcdS, newL, ixS, slS, truT, itemsOf, lsOf, sqOf, tItA, tItE, tItR1, tItR2, tItZ, List.zip_cons_cons, List.zip_nil_left, List.zip_nil_right, List.foldl_cons, List.foldl_nil, List.getElem?_cons_zero, List.getElem?_cons_succ, List.set_cons_zero, List.set_cons_succ, List.length_cons, List.length_nil, Int.reduceEq, Int.reduceNeg, true_and, false_and, and_true, or_false, false_or, eq_self, T.int.injEq, exists_eq_left, exists_eq_left', setS, appS, upS_same, isLs_own, joinS, minS, zipT, Gm, conts, c5, c25]
    exact ⟨h.1, h, rt_ok q⟩
theorem pf27 : Pf 27 ss27 ns27 := fun ts M Q E h => by
  match ts, h with
  | [.tup [.int a, .int b], .tup [.int c, .int d], .int k], ⟨⟨h0, h1⟩, q⟩ =>
    show dSs Gm ss27 (rtEnds Q E) [some (.tup [.int a, .int b]), some (.tup [.int c, .int d]), some (.int k)] M
    have gg := gr_lt
    unfold ss27
    simp (maxSteps := 4000000) only [dSs, dS, dE, dT, dEs, dI, dG, dGs, dO, cond_true, cond_false, opS, cmS, bfS, meS, sSeq, sNext, sPass, sBrk, sCnt, sExpr, sRet, sRet0, sIf, sFor, sAsg, sPar, sNever, tO, tO1, tON, tB2, tCh, tA0, tA1, tTu, tLi, tAn, tOr2, tNo, tIe, tAnT, tOrT, tNoT, tTr, tSlot, TL.tCon, tGlo, conT, tIsi, tCl, tFrz, tSl2, tP0, tP1, tRev, tMeL, tMeS, gSl, gsNil, gsCons, gTu, gSb, Gs.len, addS, subS, mulS, divS, modS, powS, negS, cmpS, eqS_int, neS_int, eqS_str, neS_str, isS, lenS, absS, intS, tupS, listS, sumS, allS, gcdS, newL, ixS, slS, truT, itemsOf, lsOf, sqOf, tItA, tItE, tItR1, tItR2, tItZ, List.zip_cons_cons, List.zip_nil_left, List.zip_nil_right, List.foldl_cons, List.foldl_nil, List.getElem?_cons_zero, List.getElem?_cons_succ, List.set_cons_zero, List.set_cons_succ, List.length_cons, List.length_nil, Int.reduceEq, Int.reduceNeg, true_and, false_and, and_true, or_false, false_or, eq_self, T.int.injEq, exists_eq_left, exists_eq_left', setS, appS, upS_same, isLs_own, joinS, minS, zipT, atI_0, atI_1, Option.some.injEq, exists_eq_left']
    exact ⟨mul_l (by omega) (by omega), mul_l (by omega) (by omega), by decide, rt_ok q⟩
theorem loop28 (rt : T) (D : Ends2) (M : Store) : ∀ (r : List Int) (A H : P2) (done : List T) (z : Option T), done.length + r.length ≤ 100 → (∀ m ∈ r, 0 ≤ m ∧ m ≤ GR) →
    (∀ x y z, D.nx [some rt, some (.tup (done ++ (fw A H r).map pr)), x, y, z] M) → forL (dG Gm g28_0) (dSs Gm b28_0) D (iv r) [some rt, some (.tup done), some (pr A), some (pr H), z] M
  | [], A, H, done, z, _, _, q => by
    have q := q (some (pr A)) (some (pr H)) z
    rw [show (fw A H []).map pr = [] from rfl, List.append_nil] at q
    exact q
  | m :: r, A, H, done, z, hl, hb, q => by
    have hm := hb m List.mem_cons_self
    rw [List.length_cons] at hl
    have ih := fun z q => loop28 rt D M r H (A.1 + m * H.1, A.2 + m * H.2) (done ++ [pr (A.1 + m * H.1, A.2 + m * H.2)]) z (by rw [List.length_append, List.length_cons, List.length_nil]; omega) (fun k hk => hb k (List.mem_cons_of_mem _ hk)) q
    show forL (dG Gm g28_0) (dSs Gm b28_0) D (.int m :: iv r) _ M
    unfold forL
    generalize forL (dG Gm g28_0) (dSs Gm b28_0) D (iv r) = F at ih ⊢
    unfold g28_0 b28_0
    unfold pr
    simp (maxSteps := 4000000) only [dSs, dS, dE, dT, dEs, dI, dG, dGs, dO, cond_true, cond_false, opS, cmS, bfS, meS, sSeq, sNext, sPass, sBrk, sCnt, sExpr, sRet, sRet0, sIf, sFor, sAsg, sPar, sNever, tO, tO1, tON, tB2, tCh, tA0, tA1, tTu, tLi, tAn, tOr2, tNo, tIe, tAnT, tOrT, tNoT, tTr, tSlot, TL.tCon, tGlo, conT, tIsi, tCl, tFrz, tSl2, tP0, tP1, tRev, tMeL, tMeS, gSl, gsNil, gsCons, gTu, gSb, Gs.len, addS, subS, mulS, divS, modS, powS, negS, cmpS, eqS_int, neS_int, eqS_str, neS_str, isS, lenS, absS, intS, tupS, listS, sumS, allS, gcdS, newL, ixS, slS, truT, itemsOf, lsOf, sqOf, tItA, tItE, tItR1, tItR2, tItZ, List.zip_cons_cons, List.zip_nil_left, List.zip_nil_right, List.foldl_cons, List.foldl_nil, List.getElem?_cons_zero, List.getElem?_cons_succ, List.set_cons_zero, List.set_cons_succ, List.length_cons, List.length_nil, Int.reduceEq, Int.reduceNeg, true_and, false_and, and_true, or_false, false_or, eq_self, T.int.injEq, exists_eq_left, exists_eq_left', setS, appS, upS_same, isLs_own, joinS, minS, zipT, Gm, conts, c27]
    refine ⟨hm, by decide, by show done.length + (0 + 1) ≤ 16777216; omega, ih _ fun x y z => ?_⟩
    have q := q x y z
    rw [List.append_assoc]
    exact q
theorem pf28 : Pf 28 ss28 ns28 := fun ts M Q E h => by
  match ts, h with
  | [.tup [.int a, .int b]], ⟨⟨s, hl, hb⟩, q⟩ =>
    show dSs Gm ss28 (rtEnds Q E) [some (.tup [.int a, .int b]), none, none, none, none] M
    unfold ss28
    simp (maxSteps := 4000000) only [dSs, dS, dE, dT, dEs, dI, dG, dGs, dO, cond_true, cond_false, opS, cmS, bfS, meS, sSeq, sNext, sPass, sBrk, sCnt, sExpr, sRet, sRet0, sIf, sFor, sAsg, sPar, sNever, tO, tO1, tON, tB2, tCh, tA0, tA1, tTu, tLi, tAn, tOr2, tNo, tIe, tAnT, tOrT, tNoT, tTr, tSlot, TL.tCon, tGlo, conT, tIsi, tCl, tFrz, tSl2, tP0, tP1, tRev, tMeL, tMeS, gSl, gsNil, gsCons, gTu, gSb, Gs.len, addS, subS, mulS, divS, modS, powS, negS, cmpS, eqS_int, neS_int, eqS_str, neS_str, isS, lenS, absS, intS, tupS, listS, sumS, allS, gcdS, newL, ixS, slS, truT, itemsOf, lsOf, sqOf, tItA, tItE, tItR1, tItR2, tItZ, List.zip_cons_cons, List.zip_nil_left, List.zip_nil_right, List.foldl_cons, List.foldl_nil, List.getElem?_cons_zero, List.getElem?_cons_succ, List.set_cons_zero, List.set_cons_succ, List.length_cons, List.length_nil, Int.reduceEq, Int.reduceNeg, true_and, false_and, and_true, or_false, false_or, eq_self, T.int.injEq, exists_eq_left, exists_eq_left', setS, appS, upS_same, isLs_own, joinS, minS, zipT, Gm, conts, c25]
    refine ⟨by decide, by decide, by decide, by decide, ⟨s, hl⟩, ?_⟩
    have fin := loop28 (.tup [.int a, .int b]) { rtEnds Q E with nx := fun ρ M => sRet (tSlot 1) { rtEnds Q E with nx := sNext (rtEnds Q E) } ρ M } M (cf a b) L0 H0 [] none (by simpa using hl) hb (fun x y z => by
      simp (maxSteps := 4000000) only [dSs, dS, dE, dT, dEs, dI, dG, dGs, dO, cond_true, cond_false, opS, cmS, bfS, meS, sSeq, sNext, sPass, sBrk, sCnt, sExpr, sRet, sRet0, sIf, sFor, sAsg, sPar, sNever, tO, tO1, tON, tB2, tCh, tA0, tA1, tTu, tLi, tAn, tOr2, tNo, tIe, tAnT, tOrT, tNoT, tTr, tSlot, TL.tCon, tGlo, conT, tIsi, tCl, tFrz, tSl2, tP0, tP1, tRev, tMeL, tMeS, gSl, gsNil, gsCons, gTu, gSb, Gs.len, addS, subS, mulS, divS, modS, powS, negS, cmpS, eqS_int, neS_int, eqS_str, neS_str, isS, lenS, absS, intS, tupS, listS, sumS, allS, gcdS, newL, ixS, slS, truT, itemsOf, lsOf, sqOf, tItA, tItE, tItR1, tItR2, tItZ, List.zip_cons_cons, List.zip_nil_left, List.zip_nil_right, List.foldl_cons, List.foldl_nil, List.getElem?_cons_zero, List.getElem?_cons_succ, List.set_cons_zero, List.set_cons_succ, List.length_cons, List.length_nil, Int.reduceEq, Int.reduceNeg, true_and, false_and, and_true, or_false, false_or, eq_self, T.int.injEq, exists_eq_left, exists_eq_left', setS, appS, upS_same, isLs_own, joinS, minS, zipT]
      exact rt_ok q)
    exact fin
theorem pf29 : Pf 29 ss29 ns29 := fun ts M Q E h => by
  match ts, h with
  | [.tup [.int a, .int b]], ⟨h, q⟩ =>
    show dSs Gm ss29 (rtEnds Q E) [some (.tup [.int a, .int b])] M
    unfold ss29
    simp (maxSteps := 4000000) only [dSs, dS, dE, dT, dEs, dI, dG, dGs, dO, cond_true, cond_false, opS, cmS, bfS, meS, sSeq, sNext, sPass, sBrk, sCnt, sExpr, sRet, sRet0, sIf, sFor, sAsg, sPar, sNever, tO, tO1, tON, tB2, tCh, tA0, tA1, tTu, tLi, tAn, tOr2, tNo, tIe, tAnT, tOrT, tNoT, tTr, tSlot, TL.tCon, tGlo, conT, tIsi, tCl, tFrz, tSl2, tP0, tP1, tRev, tMeL, tMeS, gSl, gsNil, gsCons, gTu, gSb, Gs.len, addS, subS, mulS, divS, modS, powS, negS, cmpS, eqS_int, neS_int, eqS_str, neS_str, isS, lenS, absS, intS, tupS, listS, sumS, allS, gcdS, newL, ixS, slS, truT, itemsOf, lsOf, sqOf, tItA, tItE, tItR1, tItR2, tItZ, List.zip_cons_cons, List.zip_nil_left, List.zip_nil_right, List.foldl_cons, List.foldl_nil, List.getElem?_cons_zero, List.getElem?_cons_succ, List.set_cons_zero, List.set_cons_succ, List.length_cons, List.length_nil, Int.reduceEq, Int.reduceNeg, true_and, false_and, and_true, or_false, false_or, eq_self, T.int.injEq, exists_eq_left, exists_eq_left', setS, appS, upS_same, isLs_own, joinS, minS, zipT, Gm, conts, c5, c28]
    exact ⟨h.1, h, rt_ok q⟩
/-! ### meeting -/
theorem unS_upS {M : Store} {p : Addr} {c : Cell} (h : M p = none) : unS (upS M p c) p = M := by
  funext a
  unfold unS upS
  by_cases e : a = p
  · subst e; rw [if_pos rfl, h]
  · rw [if_neg e, if_neg e]
theorem mins_b {B : Int} : ∀ (r s : List Int), (∀ m ∈ r, m ≤ B) → ∀ m ∈ mins r s, m ≤ B
  | [], _, _, m, hm => by cases hm
  | _ :: _, [], _, m, hm => by cases hm
  | a :: r, b :: s, h, m, hm => by
    have h1 := h a List.mem_cons_self
    unfold mins at hm
    split at hm
    · rcases List.mem_cons.mp hm with rfl | hm
      · exact h1
      · exact mins_b r s (fun k hk => h k (List.mem_cons_of_mem _ hk)) m hm
    · rw [List.mem_singleton.mp hm]
      split <;> omega
theorem mins_len : ∀ (r s : List Int), (mins r s).length ≤ r.length
  | [], _ => Nat.le_refl _
  | _ :: _, [] => Nat.zero_le _
  | a :: r, b :: s => by
    unfold mins
    split
    · have := mins_len r s
      simp; omega
    · simp
theorem loop20 (t1 t2 t3 t4 : T) (D : Ends2) (M : Store) (p : Addr) : ∀ (r s done : List Int) (x y : Option T), done.length + r.length ≤ 100 →
    (∀ x y, D.nx [some t1, some t2, some (.loc p), some t3, some t4, x, y, none, none] (upS M p (.lst (iv (done ++ mins r s))))) →
    forL (dG Gm g20_0) (dSs Gm b20_0) D (TL.zipT (iv r) (iv s)) [some t1, some t2, some (.loc p), some t3, some t4, x, y, none, none] (upS M p (.lst (iv done)))
  | [], s, done, x, y, _, q => by
    have q := q x y
    rw [show mins [] s = [] by cases s <;> rfl, List.append_nil] at q
    have e : TL.zipT (iv []) (iv s) = [] := by cases s <;> rfl
    rw [e]
    exact q
  | a :: r, [], done, x, y, _, q => by
    have q := q x y
    rw [show mins (a :: r) [] = [] from rfl, List.append_nil] at q
    exact q
  | a :: r, b :: s, done, x, y, hl, q => by
    rw [List.length_cons] at hl
    have e : TL.zipT (iv (a :: r)) (iv (b :: s)) = .tup [.int a, .int b] :: TL.zipT (iv r) (iv s) := rfl
    rw [e]
    unfold forL
    have ih := fun x y q => loop20 t1 t2 t3 t4 D M p r s (done ++ [if b < a then b else a]) x y (by rw [List.length_append, List.length_cons, List.length_nil]; omega) q
    generalize forL (dG Gm g20_0) (dSs Gm b20_0) D (TL.zipT (iv r) (iv s)) = F at ih ⊢
    unfold g20_0 b20_0
    simp (maxSteps := 4000000) only [dSs, dS, dE, dT, dEs, dI, dG, dGs, dO, cond_true, cond_false, opS, cmS, bfS, meS, sSeq, sNext, sPass, sBrk, sCnt, sExpr, sRet, sRet0, sIf, sFor, sAsg, sPar, sNever, tO, tO1, tON, tB2, tCh, tA0, tA1, tTu, tLi, tAn, tOr2, tNo, tIe, tAnT, tOrT, tNoT, tTr, tSlot, TL.tCon, tGlo, conT, tIsi, tCl, tFrz, tSl2, tP0, tP1, tRev, tMeL, tMeS, gSl, gsNil, gsCons, gTu, gSb, Gs.len, addS, subS, mulS, divS, modS, powS, negS, cmpS, eqS_int, neS_int, eqS_str, neS_str, isS, lenS, absS, intS, tupS, listS, sumS, allS, gcdS, newL, ixS, slS, truT, itemsOf, lsOf, sqOf, tItA, tItE, tItR1, tItR2, tItZ, List.zip_cons_cons, List.zip_nil_left, List.zip_nil_right, List.foldl_cons, List.foldl_nil, List.getElem?_cons_zero, List.getElem?_cons_succ, List.set_cons_zero, List.set_cons_succ, List.length_cons, List.length_nil, Int.reduceEq, Int.reduceNeg, true_and, false_and, and_true, or_false, false_or, eq_self, T.int.injEq, exists_eq_left, exists_eq_left', setS, appS, upS_same, isLs_own, joinS, minS, zipT, Br_iff]
    refine ⟨by rw [iv_len]; show _ < 16777216; omega, ?_⟩
    rw [upS_upS]
    have e1 : iv done ++ [T.int (if b < a then b else a)] = iv (done ++ [if b < a then b else a]) := by rw [iv_app]; rfl
    rw [e1]
    by_cases h : a = b
    · rw [if_neg (by simp [h])]
      refine ih _ _ fun x y => ?_
      have q := q x y
      have e2 : mins (a :: r) (b :: s) = (if b < a then b else a) :: mins r s := by
        show (if a = b then a :: mins r s else _) = _
        rw [if_pos h, if_neg (by omega)]
      rw [e2] at q
      rw [List.append_assoc]
      exact q
    · rw [if_pos (by simp [h])]
      have q := q (some (.int a)) (some (.int b))
      have e2 : mins (a :: r) (b :: s) = [if b < a then b else a] := by
        show (if a = b then _ else _) = _
        rw [if_neg h]
      rw [e2] at q
      exact q
theorem pf20 : Pf 20 ss20 ns20 := fun ts M Q E h => by
  match ts, h with
  | [.tup [.int a, .int b], .tup [.int c, .int d]], ⟨r, s, of1, of2, q⟩ =>
    show dSs Gm ss20 (rtEnds Q E) [some (.tup [.int a, .int b]), some (.tup [.int c, .int d]), none, none, none, none, none, none, none] M
    obtain ⟨l1, b1⟩ := of_b of1
    obtain ⟨l2, b2⟩ := of_b of2
    unfold ss20
    simp (maxSteps := 4000000) only [dSs, dS, dE, dT, dEs, dI, dG, dGs, dO, cond_true, cond_false, opS, cmS, bfS, meS, sSeq, sNext, sPass, sBrk, sCnt, sExpr, sRet, sRet0, sIf, sFor, sAsg, sPar, sNever, tO, tO1, tON, tB2, tCh, tA0, tA1, tTu, tLi, tAn, tOr2, tNo, tIe, tAnT, tOrT, tNoT, tTr, tSlot, TL.tCon, tGlo, conT, tIsi, tCl, tFrz, tSl2, tP0, tP1, tRev, tMeL, tMeS, gSl, gsNil, gsCons, gTu, gSb, Gs.len, addS, subS, mulS, divS, modS, powS, negS, cmpS, eqS_int, neS_int, eqS_str, neS_str, isS, lenS, absS, intS, tupS, listS, sumS, allS, gcdS, newL, ixS, slS, truT, itemsOf, lsOf, sqOf, tItA, tItE, tItR1, tItR2, tItZ, List.zip_cons_cons, List.zip_nil_left, List.zip_nil_right, List.foldl_cons, List.foldl_nil, List.getElem?_cons_zero, List.getElem?_cons_succ, List.set_cons_zero, List.set_cons_succ, List.length_cons, List.length_nil, Int.reduceEq, Int.reduceNeg, true_and, false_and, and_true, or_false, false_or, eq_self, T.int.injEq, exists_eq_left, exists_eq_left', setS, appS, upS_same, isLs_own, joinS, minS, zipT, Gm, conts, c5, c6]
    refine ⟨of1.s, of2.s, by decide, fun p hp => ⟨r, of1, s, of2, ?_⟩⟩
    refine loop20 _ _ _ _ _ M p r s [] none none (by simpa using l1) fun x y => ?_
    simp (maxSteps := 4000000) only [dSs, dS, dE, dT, dEs, dI, dG, dGs, dO, cond_true, cond_false, opS, cmS, bfS, meS, sSeq, sNext, sPass, sBrk, sCnt, sExpr, sRet, sRet0, sIf, sFor, sAsg, sPar, sNever, tO, tO1, tON, tB2, tCh, tA0, tA1, tTu, tLi, tAn, tOr2, tNo, tIe, tAnT, tOrT, tNoT, tTr, tSlot, TL.tCon, tGlo, conT, tIsi, tCl, tFrz, tSl2, tP0, tP1, tRev, tMeL, tMeS, gSl, gsNil, gsCons, gTu, gSb, Gs.len, addS, subS, mulS, divS, modS, powS, negS, cmpS, eqS_int, neS_int, eqS_str, neS_str, isS, lenS, absS, intS, tupS, listS, sumS, allS, gcdS, newL, ixS, slS, truT, itemsOf, lsOf, sqOf, tItA, tItE, tItR1, tItR2, tItZ, List.zip_cons_cons, List.zip_nil_left, List.zip_nil_right, List.foldl_cons, List.foldl_nil, List.getElem?_cons_zero, List.getElem?_cons_succ, List.set_cons_zero, List.set_cons_succ, List.length_cons, List.length_nil, Int.reduceEq, Int.reduceNeg, true_and, false_and, and_true, or_false, false_or, eq_self, T.int.injEq, exists_eq_left, exists_eq_left', setS, appS, upS_same, isLs_own, joinS, minS, zipT, c8, c9]
    rw [unS_upS hp, List.nil_append]
    refine ⟨mins r s, .inr rfl, ⟨Nat.le_trans (mins_len r s) l1, fun m hm => ⟨mins_nn r s of1.ru.nn of2.ru.nn m hm, mins_b r s (fun k hk => (b1 k hk).2) m hm⟩⟩, ?_⟩
    unfold pr
    simp (maxSteps := 4000000) only [dSs, dS, dE, dT, dEs, dI, dG, dGs, dO, cond_true, cond_false, opS, cmS, bfS, meS, sSeq, sNext, sPass, sBrk, sCnt, sExpr, sRet, sRet0, sIf, sFor, sAsg, sPar, sNever, tO, tO1, tON, tB2, tCh, tA0, tA1, tTu, tLi, tAn, tOr2, tNo, tIe, tAnT, tOrT, tNoT, tTr, tSlot, TL.tCon, tGlo, conT, tIsi, tCl, tFrz, tSl2, tP0, tP1, tRev, tMeL, tMeS, gSl, gsNil, gsCons, gTu, gSb, Gs.len, addS, subS, mulS, divS, modS, powS, negS, cmpS, eqS_int, neS_int, eqS_str, neS_str, isS, lenS, absS, intS, tupS, listS, sumS, allS, gcdS, newL, ixS, slS, truT, itemsOf, lsOf, sqOf, tItA, tItE, tItR1, tItR2, tItZ, List.zip_cons_cons, List.zip_nil_left, List.zip_nil_right, List.foldl_cons, List.foldl_nil, List.getElem?_cons_zero, List.getElem?_cons_succ, List.set_cons_zero, List.set_cons_succ, List.length_cons, List.length_nil, Int.reduceEq, Int.reduceNeg, true_and, false_and, and_true, or_false, false_or, eq_self, T.int.injEq, exists_eq_left, exists_eq_left', setS, appS, upS_same, isLs_own, joinS, minS, zipT]
    obtain ⟨m1, m2⟩ := mid0 (mins r s)
    rw [m1, m2]
    exact rt_ok q
end LW

namespace LW
open PySem PySem.Spec PyProof.Rows L2 TL M83

theorem loop31 (st : T) (D : Ends2) (M : Store) (p : Addr) (hp : cupAt M p) (q : ∀ z, D.nx [some st, some (.loc p), z] M) : ∀ (ts : List T) (z : Option T), forL (dG Gm g31_0) (dSs Gm b31_0) D ts [some st, some (.loc p), z] M
  | [], z => q z
  | t :: ts, z => by
    have ih := loop31 st D M p hp q ts
    unfold forL
    generalize forL (dG Gm g31_0) (dSs Gm b31_0) D ts = F at ih ⊢
    unfold g31_0 b31_0
    simp (maxSteps := 4000000) only [dSs, dS, dE, dT, dEs, dI, dG, dGs, dO, cond_true, cond_false, opS, cmS, bfS, meS, sSeq, sNext, sPass, sBrk, sCnt, sExpr, sRet, sRet0, sIf, sFor, sAsg, sPar, sNever, tO, tO1, tON, tB2, tCh, tA0, tA1, tTu, tLi, tAn, tOr2, tNo, tIe, tAnT, tOrT, tNoT, tTr, tSlot, TL.tCon, tGlo, conT, tIsi, tCl, tFrz, tSl2, tP0, tP1, tRev, tMeL, tMeS, gSl, gsNil, gsCons, gTu, gSb, Gs.len, addS, subS, mulS, divS, modS, powS, negS, cmpS, eqS_int, neS_int, eqS_str, neS_str, isS, lenS, absS, intS, tupS, listS, sumS, allS, gcdS, newL, ixS, slS, truT, itemsOf, lsOf, sqOf, tItA, tItE, tItR1, tItR2, tItZ, List.zip_cons_cons, List.zip_nil_left, List.zip_nil_right, List.foldl_cons, List.foldl_nil, List.getElem?_cons_zero, List.getElem?_cons_succ, List.set_cons_zero, List.set_cons_succ, List.length_cons, List.length_nil, Int.reduceEq, Int.reduceNeg, true_and, false_and, and_true, or_false, false_or, eq_self, T.int.injEq, exists_eq_left, exists_eq_left', setS, appS, upS_same, isLs_own, joinS, minS, zipT, Gm, conts, c13, Br_iff]
    refine ⟨hp, ?_⟩
    simp only [Bool.not_true, Bool.false_eq_true, if_false]
    exact ⟨hp, ih _⟩
theorem pf31 : Pf 31 ss31 ns31 := fun ts M Q E h => by
  obtain ⟨ns, rfl, hl, q⟩ := h
  show dSs Gm ss31 (rtEnds Q E) [some (.scr ns), none, none] M
  unfold ss31
  simp (maxSteps := 4000000) only [dSs, dS, dE, dT, dEs, dI, dG, dGs, dO, cond_true, cond_false, opS, cmS, bfS, meS, sSeq, sNext, sPass, sBrk, sCnt, sExpr, sRet, sRet0, sIf, sFor, sAsg, sPar, sNever, tO, tO1, tON, tB2, tCh, tA0, tA1, tTu, tLi, tAn, tOr2, tNo, tIe, tAnT, tOrT, tNoT, tTr, tSlot, TL.tCon, tGlo, conT, tIsi, tCl, tFrz, tSl2, tP0, tP1, tRev, tMeL, tMeS, gSl, gsNil, gsCons, gTu, gSb, Gs.len, addS, subS, mulS, divS, modS, powS, negS, cmpS, eqS_int, neS_int, eqS_str, neS_str, isS, lenS, absS, intS, tupS, listS, sumS, allS, gcdS, newL, ixS, slS, truT, itemsOf, lsOf, sqOf, tItA, tItE, tItR1, tItR2, tItZ, List.zip_cons_cons, List.zip_nil_left, List.zip_nil_right, List.foldl_cons, List.foldl_nil, List.getElem?_cons_zero, List.getElem?_cons_succ, List.set_cons_zero, List.set_cons_succ, List.length_cons, List.length_nil, Int.reduceEq, Int.reduceNeg, true_and, false_and, and_true, or_false, false_or, eq_self, T.int.injEq, exists_eq_left, exists_eq_left', setS, appS, upS_same, isLs_own, joinS, minS, zipT, Gm, conts, c0, c13]
  refine ⟨hl, fun p hp => ?_⟩
  have hc : cupAt (upS M p .cup) p := upS_same
  refine ⟨by decide, ?_⟩
  exact loop31 (.scr ns) { rtEnds Q E with nx := fun ρ M => sRet (tCl c13 (tA1 (tSlot 1) tA0)) { rtEnds Q E with nx := sNext (rtEnds Q E) } ρ M } (upS M p .cup) p hc (fun z => by
    simp (maxSteps := 4000000) only [dSs, dS, dE, dT, dEs, dI, dG, dGs, dO, cond_true, cond_false, opS, cmS, bfS, meS, sSeq, sNext, sPass, sBrk, sCnt, sExpr, sRet, sRet0, sIf, sFor, sAsg, sPar, sNever, tO, tO1, tON, tB2, tCh, tA0, tA1, tTu, tLi, tAn, tOr2, tNo, tIe, tAnT, tOrT, tNoT, tTr, tSlot, TL.tCon, tGlo, conT, tIsi, tCl, tFrz, tSl2, tP0, tP1, tRev, tMeL, tMeS, gSl, gsNil, gsCons, gTu, gSb, Gs.len, addS, subS, mulS, divS, modS, powS, negS, cmpS, eqS_int, neS_int, eqS_str, neS_str, isS, lenS, absS, intS, tupS, listS, sumS, allS, gcdS, newL, ixS, slS, truT, itemsOf, lsOf, sqOf, tItA, tItE, tItR1, tItR2, tItZ, List.zip_cons_cons, List.zip_nil_left, List.zip_nil_right, List.foldl_cons, List.foldl_nil, List.getElem?_cons_zero, List.getElem?_cons_succ, List.set_cons_zero, List.set_cons_succ, List.length_cons, List.length_nil, Int.reduceEq, Int.reduceNeg, true_and, false_and, and_true, or_false, false_or, eq_self, T.int.injEq, exists_eq_left, exists_eq_left', setS, appS, upS_same, isLs_own, joinS, minS, zipT, c13]
    exact ⟨hc, rt_ok (q _)⟩) _ none
/-! ### odds -/
def oddsL (k : Int) : List T := [.non, .tup [.int k], .tup [.int k, .int 1, .int 1], .lst [.int k, .int 1], .tup [.int 0, .int 1], .tup [.int 1, .int 0], .tup [.int k, .int (-1)], .tup [.int (-1), .int k], .tup [.int (2 * k), .int 4], .tup [.int k, .bl true],
  .tup [.int (GR + 1), .int 1], .tup [.int 1, .int (GR + 1)], .tup [.str "1", .int 2], .tup [.int 1, .non], .tup [.int (3 * k), .int 3], .int 5]
def goodsL (k : Int) : List T := [.tup [.int 1, .int k], .tup [.int GR, .int (GR - 1)], .tup [.int GR, .int 1], .tup [.int 1, .int GR], .tup [.int (k + 1), .int k]]
theorem gcd_no {a b c : Nat} (hc : 2 ≤ c) (h1 : c ∣ a) (h2 : c ∣ b) : Nat.gcd a b ≠ 1 := fun h => by
  have := Nat.dvd_gcd h1 h2
  rw [h] at this
  have := Nat.le_of_dvd (by decide) this
  omega
theorem odds_ok {k : Int} (h1 : 1 ≤ k) (h2 : k ≤ 30) : ∀ t ∈ oddsL k, (goodT t = true ∧ simpleT t = true) ∧ isSl t = false := by
  have d2 : Nat.gcd (2 * k).natAbs (4 : Int).natAbs ≠ 1 := gcd_no (c := 2) (by decide) ⟨k.natAbs, by omega⟩ ⟨2, by decide⟩
  have d3 : Nat.gcd (3 * k).natAbs (3 : Int).natAbs ≠ 1 := gcd_no (c := 3) (by decide) ⟨k.natAbs, by omega⟩ ⟨1, by decide⟩
  intro t ht
  unfold oddsL at ht
  simp only [List.mem_cons, List.not_mem_nil, or_false] at ht
  rcases ht with rfl | rfl | rfl | rfl | rfl | rfl | rfl | rfl | rfl | rfl | rfl | rfl | rfl | rfl | rfl | rfl
  all_goals refine ⟨⟨by first | rfl | simp [goodT, simpleT, isiT], by first | rfl | simp [simpleT, isiT]⟩, ?_⟩
  all_goals first | rfl | (rw [isSl_ints]; simp [isWh, GR]; done) | skip
  · rw [isSl_ints, decide_eq_false d2, Bool.and_false]
  · rw [isSl_ints, decide_eq_false d3, Bool.and_false]
theorem goods_ok {k : Int} (h1 : 1 ≤ k) (h2 : k ≤ 30) : ∀ t ∈ goodsL k, (goodT t = true ∧ simpleT t = true) ∧ isSl t = true := by
  have d1 : Nat.gcd (1 : Int).natAbs k.natAbs = 1 := Nat.gcd_one_left _
  have d2 : Nat.gcd (k + 1).natAbs k.natAbs = 1 := by
    rw [show (k + 1).natAbs = k.natAbs + 1 by omega, Nat.gcd_comm]
    have e : Nat.gcd k.natAbs (k.natAbs + 1) = Nat.gcd k.natAbs 1 := by
      have := Nat.gcd_add_self_right k.natAbs 1
      rw [Nat.add_comm] at this
      exact this
    rw [e, Nat.gcd_one_right]
  have w : ∀ x : Int, 1 ≤ x → x ≤ 31 → isWh (.int x) 1 GR = true := fun x a b => by
    show (decide (1 ≤ x) && decide (x ≤ GR)) = true
    have c : x ≤ GR := by show x ≤ 1000000000000000000; omega
    rw [decide_eq_true a, decide_eq_true c]; rfl
  intro t ht
  unfold goodsL at ht
  simp only [List.mem_cons, List.not_mem_nil, or_false] at ht
  rcases ht with rfl | rfl | rfl | rfl | rfl
  all_goals refine ⟨⟨by first | rfl | simp [goodT, simpleT, isiT], by first | rfl | simp [simpleT, isiT]⟩, ?_⟩
  · rw [isSl_ints, w 1 (by decide) (by decide), w k h1 (by omega), decide_eq_true d1]; rfl
  · decide +kernel
  · decide +kernel
  · decide +kernel
  · rw [isSl_ints, w (k + 1) (by omega) (by omega), w k h1 (by omega), decide_eq_true d2]; rfl
def fib2 : Nat → Int → Int → P2
  | 0, a, b => (a, b)
  | n + 1, a, b => fib2 n (a + b) a
theorem loop13 (D : Ends2) (M : Store) (a0 a1 a2 a3 a4 : T) : ∀ (ts : List T) (a b : Int) (z : Option T), (∀ z, D.nx [some a0, some a1, some a2, some a3, some a4, some (.int (fib2 ts.length a b).1), some (.int (fib2 ts.length a b).2), z, none, none] M) →
    forL (dG Gm g13_0) (dSs Gm b13_0) D ts [some a0, some a1, some a2, some a3, some a4, some (.int a), some (.int b), z, none, none] M
  | [], a, b, z, q => q z
  | t :: ts, a, b, z, q => by
    have ih := fun a b z q => loop13 D M a0 a1 a2 a3 a4 ts a b z q
    unfold forL
    generalize forL (dG Gm g13_0) (dSs Gm b13_0) D ts = F at ih ⊢
    unfold g13_0 b13_0
    simp (maxSteps := 4000000) only [dSs, dS, dE, dT, dEs, dI, dG, dGs, dO, cond_true, cond_false, opS, cmS, bfS, meS, sSeq, sNext, sPass, sBrk, sCnt, sExpr, sRet, sRet0, sIf, sFor, sAsg, sPar, sNever, tO, tO1, tON, tB2, tCh, tA0, tA1, tTu, tLi, tAn, tOr2, tNo, tIe, tAnT, tOrT, tNoT, tTr, tSlot, TL.tCon, tGlo, conT, tIsi, tCl, tFrz, tSl2, tP0, tP1, tRev, tMeL, tMeS, gSl, gsNil, gsCons, gTu, gSb, Gs.len, addS, subS, mulS, divS, modS, powS, negS, cmpS, eqS_int, neS_int, eqS_str, neS_str, isS, lenS, absS, intS, tupS, listS, sumS, allS, gcdS, newL, ixS, slS, truT, itemsOf, lsOf, sqOf, tItA, tItE, tItR1, tItR2, tItZ, List.zip_cons_cons, List.zip_nil_left, List.zip_nil_right, List.foldl_cons, List.foldl_nil, List.getElem?_cons_zero, List.getElem?_cons_succ, List.set_cons_zero, List.set_cons_succ, List.length_cons, List.length_nil, Int.reduceEq, Int.reduceNeg, true_and, false_and, and_true, or_false, false_or, eq_self, T.int.injEq, exists_eq_left, exists_eq_left', setS, appS, upS_same, isLs_own, joinS, minS, zipT]
    exact ih _ _ _ q
theorem of10a : Of [GR - 1] GR 1 := ⟨⟨by decide, by decide, by decide, by decide, by decide⟩, ⟨by decide, (fun m hm => (by cases hm)), fun z => absurd z (by decide)⟩, by decide⟩
theorem of10b : Of [0, GR - 1] 1 GR := ⟨⟨by decide, by decide, by decide, by decide, by decide⟩, ⟨by decide, (fun m hm => (by rw [List.mem_singleton.mp hm]; decide)), fun _ => List.cons_ne_nil _ _⟩, by decide⟩
theorem of10c : Of [1, GR - 2] GR (GR - 1) := ⟨⟨by decide, by decide, by decide, by decide, by decide +kernel⟩, ⟨by decide, (fun m hm => (by rw [List.mem_singleton.mp hm]; decide)), fun _ => List.cons_ne_nil _ _⟩, by decide⟩
theorem fit10 : Fit [GR] := ⟨⟨by decide, (fun m hm => (by cases hm)), fun z => absurd z (by decide)⟩, by decide, fun m hm => by rw [List.mem_singleton.mp hm]; exact Int.le_refl _⟩
theorem fit100 : Fit (List.replicate 100 1) := ⟨Tl.ru fun m hm => by rw [(List.mem_replicate.mp hm).2]; decide, by decide, fun m hm => by rw [(List.mem_replicate.mp hm).2]; decide⟩
theorem rep100 : (List.replicate (100 : Int).toNat [T.int 1]).flatten = iv (List.replicate 100 1) := rfl
theorem fib_eq : vS true (List.replicate 100 1) = ((fib2 100 1 1).1, (fib2 100 1 1).2) := by decide +kernel
theorem fib_lt : (fib2 100 1 1).2 ≤ (fib2 100 1 1).1 := by decide +kernel
end LW

namespace LW
open PySem PySem.Spec PyProof.Rows L2 TL M83

theorem e10 : (10 : Int) ^ (18 : Int).toNat = GR := by decide
theorem filter_none {b : T → Bool} {ts : List T} (h : ∀ t ∈ ts, b t = false) : (ts.filter b).map (fun t => t) = [] := by
  have : ts.filter b = [] := List.filter_eq_nil_iff.mpr fun t ht => by rw [h t ht]; exact Bool.false_ne_true
  rw [this]; rfl
theorem nil_ne {M : Store} {Q : K2} (q : Q (.bl false) M) : neS (.lst []) (.lst []) M Q := neS_same (by simp [der, okT, okTs]) q
theorem sort_pair {a b : Int} {M : Store} {Q : K2} (h : b ≤ a) (q : Q (.lst [.int b, .int a]) M) : sortE .val [pr (a, b)] M Q := by
  have so : isort [a, b] = [b, a] := (isort_eq (List.Perm.swap _ _ _) (by simp; exact h)).symm
  unfold sortE pr
  have e : intsOf [T.int a, T.int b] = some [a, b] := intsOf_map [a, b]
  dsimp only
  rw [e]
  dsimp only
  rw [so]
  exact q
set_option maxHeartbeats 8000000 in
theorem pf13 : Pf 13 ss13 ns13 := fun ts M Q E h => by
  match ts, h with
  | [.loc p], ⟨hp, q⟩ =>
    show dSs Gm ss13 (rtEnds Q E) [some (.loc p), none, none, none, none, none, none, none, none, none] M
    unfold ss13
    simp (maxSteps := 4000000) only [dSs, dS, dE, dT, dEs, dI, dG, dGs, dO, cond_true, cond_false, opS, cmS, bfS, meS, sSeq, sNext, sPass, sBrk, sCnt, sExpr, sRet, sRet0, sIf, sFor, sAsg, sPar, sNever, tO, tO1, tON, tB2, tCh, tA0, tA1, tTu, tLi, tAn, tOr2, tNo, tIe, tAnT, tOrT, tNoT, tTr, tSlot, TL.tCon, tGlo, conT, tIsi, tCl, tFrz, tSl2, tP0, tP1, tRev, tMeL, tMeS, gSl, gsNil, gsCons, gTu, gSb, Gs.len, addS, subS, mulS, divS, modS, powS, negS, cmpS, eqS_int, neS_int, eqS_str, neS_str, isS, lenS, absS, intS, tupS, listS, sumS, allS, gcdS, newL, ixS, slS, truT, itemsOf, lsOf, sqOf, tItA, tItE, tItR1, tItR2, tItZ, List.zip_cons_cons, List.zip_nil_left, List.zip_nil_right, List.foldl_cons, List.foldl_nil, List.getElem?_cons_zero, List.getElem?_cons_succ, List.set_cons_zero, List.set_cons_succ, List.length_cons, List.length_nil, Int.reduceEq, Int.reduceNeg, true_and, false_and, and_true, or_false, false_or, eq_self, T.int.injEq, exists_eq_left, exists_eq_left', setS, appS, upS_same, isLs_own, joinS, minS, zipT, Gm, conts, c1]
    refine ⟨⟨hp, by decide, by decide⟩, fun r r0 r1 => ?_⟩
    obtain ⟨k, hk⟩ : ∃ k, k = 1 + r := ⟨_, rfl⟩
    have k1 : 1 ≤ k := by omega
    have k2 : k ≤ 30 := by omega
    rw [← hk]
    -- odds
    unfold t13_1
    simp (maxSteps := 4000000) only [dSs, dS, dE, dT, dEs, dI, dG, dGs, dO, cond_true, cond_false, opS, cmS, bfS, meS, sSeq, sNext, sPass, sBrk, sCnt, sExpr, sRet, sRet0, sIf, sFor, sAsg, sPar, sNever, tO, tO1, tON, tB2, tCh, tA0, tA1, tTu, tLi, tAn, tOr2, tNo, tIe, tAnT, tOrT, tNoT, tTr, tSlot, TL.tCon, tGlo, conT, tIsi, tCl, tFrz, tSl2, tP0, tP1, tRev, tMeL, tMeS, gSl, gsNil, gsCons, gTu, gSb, Gs.len, addS, subS, mulS, divS, modS, powS, negS, cmpS, eqS_int, neS_int, eqS_str, neS_str, isS, lenS, absS, intS, tupS, listS, sumS, allS, gcdS, newL, ixS, slS, truT, itemsOf, lsOf, sqOf, tItA, tItE, tItR1, tItR2, tItZ, List.zip_cons_cons, List.zip_nil_left, List.zip_nil_right, List.foldl_cons, List.foldl_nil, List.getElem?_cons_zero, List.getElem?_cons_succ, List.set_cons_zero, List.set_cons_succ, List.length_cons, List.length_nil, Int.reduceEq, Int.reduceNeg, true_and, false_and, and_true, or_false, false_or, eq_self, T.int.injEq, exists_eq_left, exists_eq_left', setS, appS, upS_same, isLs_own, joinS, minS, zipT, e10]
    have s1 : ∀ n : Nat, n ≤ 16 → n ≤ sizeLine := fun n h => by show n ≤ 16777216; omega
    refine ⟨s1 _ (by decide), s1 _ (by decide), s1 _ (by decide), s1 _ (by decide), s1 _ (by decide), s1 _ (by decide), s1 _ (by decide), mul_l (by decide) (by decide), s1 _ (by decide), s1 _ (by decide), by decide, s1 _ (by decide), by decide, s1 _ (by decide), s1 _ (by decide), s1 _ (by decide), mul_l (by decide) (by decide), s1 _ (by decide), s1 _ (by decide), ?_⟩
    show dSs Gm t13_2 (rtEnds Q E) [some (.loc p), some (.int k), some (.lst (oddsL k)), none, none, none, none, none, none, none] M
    unfold t13_2
    simp (maxSteps := 4000000) only [dSs, dS, dE, dT, dEs, dI, dG, dGs, dO, cond_true, cond_false, opS, cmS, bfS, meS, sSeq, sNext, sPass, sBrk, sCnt, sExpr, sRet, sRet0, sIf, sFor, sAsg, sPar, sNever, tO, tO1, tON, tB2, tCh, tA0, tA1, tTu, tLi, tAn, tOr2, tNo, tIe, tAnT, tOrT, tNoT, tTr, tSlot, TL.tCon, tGlo, conT, tIsi, tCl, tFrz, tSl2, tP0, tP1, tRev, tMeL, tMeS, gSl, gsNil, gsCons, gTu, gSb, Gs.len, addS, subS, mulS, divS, modS, powS, negS, cmpS, eqS_int, neS_int, eqS_str, neS_str, isS, lenS, absS, intS, tupS, listS, sumS, allS, gcdS, newL, ixS, slS, truT, itemsOf, lsOf, sqOf, tItA, tItE, tItR1, tItR2, tItZ, List.zip_cons_cons, List.zip_nil_left, List.zip_nil_right, List.foldl_cons, List.foldl_nil, List.getElem?_cons_zero, List.getElem?_cons_succ, List.set_cons_zero, List.set_cons_succ, List.length_cons, List.length_nil, Int.reduceEq, Int.reduceNeg, true_and, false_and, and_true, or_false, false_or, eq_self, T.int.injEq, exists_eq_left, exists_eq_left', setS, appS, upS_same, isLs_own, joinS, minS, zipT, Br_iff]
    unfold tComp
    (try simp (maxSteps := 4000000) only [dSs, dS, dE, dT, dEs, dI, dG, dGs, dO, cond_true, cond_false, opS, cmS, bfS, meS, sSeq, sNext, sPass, sBrk, sCnt, sExpr, sRet, sRet0, sIf, sFor, sAsg, sPar, sNever, tO, tO1, tON, tB2, tCh, tA0, tA1, tTu, tLi, tAn, tOr2, tNo, tIe, tAnT, tOrT, tNoT, tTr, tSlot, TL.tCon, tGlo, conT, tIsi, tCl, tFrz, tSl2, tP0, tP1, tRev, tMeL, tMeS, gSl, gsNil, gsCons, gTu, gSb, Gs.len, addS, subS, mulS, divS, modS, powS, negS, cmpS, eqS_int, neS_int, eqS_str, neS_str, isS, lenS, absS, intS, tupS, listS, sumS, allS, gcdS, newL, ixS, slS, truT, itemsOf, lsOf, sqOf, tItA, tItE, tItR1, tItR2, tItZ, List.zip_cons_cons, List.zip_nil_left, List.zip_nil_right, List.foldl_cons, List.foldl_nil, List.getElem?_cons_zero, List.getElem?_cons_succ, List.set_cons_zero, List.set_cons_succ, List.length_cons, List.length_nil, Int.reduceEq, Int.reduceNeg, true_and, false_and, and_true, or_false, false_or, eq_self, T.int.injEq, exists_eq_left, exists_eq_left', setS, appS, upS_same, isLs_own, joinS, minS, zipT])
    refine ⟨s1 _ (by show 16 ≤ 16; decide), compL_filter (fun t => !decide (isSl t = false)) (fun t => t) (oddsL k) [] (fun t ht kk k2' h1 h2 => ?_) ?_⟩
    · obtain ⟨⟨g1, g2⟩, g3⟩ := odds_ok k1 k2 t ht
      simp (maxSteps := 4000000) only [dSs, dS, dE, dT, dEs, dI, dG, dGs, dO, cond_true, cond_false, opS, cmS, bfS, meS, sSeq, sNext, sPass, sBrk, sCnt, sExpr, sRet, sRet0, sIf, sFor, sAsg, sPar, sNever, tO, tO1, tON, tB2, tCh, tA0, tA1, tTu, tLi, tAn, tOr2, tNo, tIe, tAnT, tOrT, tNoT, tTr, tSlot, TL.tCon, tGlo, conT, tIsi, tCl, tFrz, tSl2, tP0, tP1, tRev, tMeL, tMeS, gSl, gsNil, gsCons, gTu, gSb, Gs.len, addS, subS, mulS, divS, modS, powS, negS, cmpS, eqS_int, neS_int, eqS_str, neS_str, isS, lenS, absS, intS, tupS, listS, sumS, allS, gcdS, newL, ixS, slS, truT, itemsOf, lsOf, sqOf, tItA, tItE, tItR1, tItR2, tItZ, List.zip_cons_cons, List.zip_nil_left, List.zip_nil_right, List.foldl_cons, List.foldl_nil, List.getElem?_cons_zero, List.getElem?_cons_succ, List.set_cons_zero, List.set_cons_succ, List.length_cons, List.length_nil, Int.reduceEq, Int.reduceNeg, true_and, false_and, and_true, or_false, false_or, eq_self, T.int.injEq, exists_eq_left, exists_eq_left', setS, appS, upS_same, isLs_own, joinS, minS, zipT, Gm, conts, c4, Br_iff]
      refine ⟨⟨g1, g2⟩, ?_⟩
      have h2 := h2 (by rw [g3]; rfl)
      rw [g3]
      simpa using h2
    rw [List.nil_append, filter_none fun t ht => by rw [(odds_ok k1 k2 t ht).2]; rfl]
    (try simp (maxSteps := 4000000) only [dSs, dS, dE, dT, dEs, dI, dG, dGs, dO, cond_true, cond_false, opS, cmS, bfS, meS, sSeq, sNext, sPass, sBrk, sCnt, sExpr, sRet, sRet0, sIf, sFor, sAsg, sPar, sNever, tO, tO1, tON, tB2, tCh, tA0, tA1, tTu, tLi, tAn, tOr2, tNo, tIe, tAnT, tOrT, tNoT, tTr, tSlot, TL.tCon, tGlo, conT, tIsi, tCl, tFrz, tSl2, tP0, tP1, tRev, tMeL, tMeS, gSl, gsNil, gsCons, gTu, gSb, Gs.len, addS, subS, mulS, divS, modS, powS, negS, cmpS, eqS_int, neS_int, eqS_str, neS_str, isS, lenS, absS, intS, tupS, listS, sumS, allS, gcdS, newL, ixS, slS, truT, itemsOf, lsOf, sqOf, tItA, tItE, tItR1, tItR2, tItZ, List.zip_cons_cons, List.zip_nil_left, List.zip_nil_right, List.foldl_cons, List.foldl_nil, List.getElem?_cons_zero, List.getElem?_cons_succ, List.set_cons_zero, List.set_cons_succ, List.length_cons, List.length_nil, Int.reduceEq, Int.reduceNeg, true_and, false_and, and_true, or_false, false_or, eq_self, T.int.injEq, exists_eq_left, exists_eq_left', setS, appS, upS_same, isLs_own, joinS, minS, zipT])
    refine ⟨s1 _ (by decide), nil_ne ?_⟩
    (try simp only [Bool.false_eq_true, if_false])
    -- goods
    unfold t13_3
    simp (maxSteps := 4000000) only [dSs, dS, dE, dT, dEs, dI, dG, dGs, dO, cond_true, cond_false, opS, cmS, bfS, meS, sSeq, sNext, sPass, sBrk, sCnt, sExpr, sRet, sRet0, sIf, sFor, sAsg, sPar, sNever, tO, tO1, tON, tB2, tCh, tA0, tA1, tTu, tLi, tAn, tOr2, tNo, tIe, tAnT, tOrT, tNoT, tTr, tSlot, TL.tCon, tGlo, conT, tIsi, tCl, tFrz, tSl2, tP0, tP1, tRev, tMeL, tMeS, gSl, gsNil, gsCons, gTu, gSb, Gs.len, addS, subS, mulS, divS, modS, powS, negS, cmpS, eqS_int, neS_int, eqS_str, neS_str, isS, lenS, absS, intS, tupS, listS, sumS, allS, gcdS, newL, ixS, slS, truT, itemsOf, lsOf, sqOf, tItA, tItE, tItR1, tItR2, tItZ, List.zip_cons_cons, List.zip_nil_left, List.zip_nil_right, List.foldl_cons, List.foldl_nil, List.getElem?_cons_zero, List.getElem?_cons_succ, List.set_cons_zero, List.set_cons_succ, List.length_cons, List.length_nil, Int.reduceEq, Int.reduceNeg, true_and, false_and, and_true, or_false, false_or, eq_self, T.int.injEq, exists_eq_left, exists_eq_left', setS, appS, upS_same, isLs_own, joinS, minS, zipT, e10]
    refine ⟨s1 _ (by decide), by decide, by decide, s1 _ (by decide), by decide, s1 _ (by decide), by decide, s1 _ (by decide), s1 _ (by decide), s1 _ (by decide), ?_⟩
    show dSs Gm t13_4 (rtEnds Q E) [some (.loc p), some (.int k), some (.lst (oddsL k)), some (.lst (goodsL k)), none, none, none, none, none, none] M
    unfold t13_4
    simp (maxSteps := 4000000) only [dSs, dS, dE, dT, dEs, dI, dG, dGs, dO, cond_true, cond_false, opS, cmS, bfS, meS, sSeq, sNext, sPass, sBrk, sCnt, sExpr, sRet, sRet0, sIf, sFor, sAsg, sPar, sNever, tO, tO1, tON, tB2, tCh, tA0, tA1, tTu, tLi, tAn, tOr2, tNo, tIe, tAnT, tOrT, tNoT, tTr, tSlot, TL.tCon, tGlo, conT, tIsi, tCl, tFrz, tSl2, tP0, tP1, tRev, tMeL, tMeS, gSl, gsNil, gsCons, gTu, gSb, Gs.len, addS, subS, mulS, divS, modS, powS, negS, cmpS, eqS_int, neS_int, eqS_str, neS_str, isS, lenS, absS, intS, tupS, listS, sumS, allS, gcdS, newL, ixS, slS, truT, itemsOf, lsOf, sqOf, tItA, tItE, tItR1, tItR2, tItZ, List.zip_cons_cons, List.zip_nil_left, List.zip_nil_right, List.foldl_cons, List.foldl_nil, List.getElem?_cons_zero, List.getElem?_cons_succ, List.set_cons_zero, List.set_cons_succ, List.length_cons, List.length_nil, Int.reduceEq, Int.reduceNeg, true_and, false_and, and_true, or_false, false_or, eq_self, T.int.injEq, exists_eq_left, exists_eq_left', setS, appS, upS_same, isLs_own, joinS, minS, zipT, Br_iff]
    unfold tComp
    (try simp (maxSteps := 4000000) only [dSs, dS, dE, dT, dEs, dI, dG, dGs, dO, cond_true, cond_false, opS, cmS, bfS, meS, sSeq, sNext, sPass, sBrk, sCnt, sExpr, sRet, sRet0, sIf, sFor, sAsg, sPar, sNever, tO, tO1, tON, tB2, tCh, tA0, tA1, tTu, tLi, tAn, tOr2, tNo, tIe, tAnT, tOrT, tNoT, tTr, tSlot, TL.tCon, tGlo, conT, tIsi, tCl, tFrz, tSl2, tP0, tP1, tRev, tMeL, tMeS, gSl, gsNil, gsCons, gTu, gSb, Gs.len, addS, subS, mulS, divS, modS, powS, negS, cmpS, eqS_int, neS_int, eqS_str, neS_str, isS, lenS, absS, intS, tupS, listS, sumS, allS, gcdS, newL, ixS, slS, truT, itemsOf, lsOf, sqOf, tItA, tItE, tItR1, tItR2, tItZ, List.zip_cons_cons, List.zip_nil_left, List.zip_nil_right, List.foldl_cons, List.foldl_nil, List.getElem?_cons_zero, List.getElem?_cons_succ, List.set_cons_zero, List.set_cons_succ, List.length_cons, List.length_nil, Int.reduceEq, Int.reduceNeg, true_and, false_and, and_true, or_false, false_or, eq_self, T.int.injEq, exists_eq_left, exists_eq_left', setS, appS, upS_same, isLs_own, joinS, minS, zipT])
    refine ⟨s1 _ (by show 5 ≤ 16; decide), compL_filter (fun t => !decide (isSl t = true)) (fun t => t) (goodsL k) [] (fun t ht kk k2' h1 h2 => ?_) ?_⟩
    · obtain ⟨⟨g1, g2⟩, g3⟩ := goods_ok k1 k2 t ht
      simp (maxSteps := 4000000) only [dSs, dS, dE, dT, dEs, dI, dG, dGs, dO, cond_true, cond_false, opS, cmS, bfS, meS, sSeq, sNext, sPass, sBrk, sCnt, sExpr, sRet, sRet0, sIf, sFor, sAsg, sPar, sNever, tO, tO1, tON, tB2, tCh, tA0, tA1, tTu, tLi, tAn, tOr2, tNo, tIe, tAnT, tOrT, tNoT, tTr, tSlot, TL.tCon, tGlo, conT, tIsi, tCl, tFrz, tSl2, tP0, tP1, tRev, tMeL, tMeS, gSl, gsNil, gsCons, gTu, gSb, Gs.len, addS, subS, mulS, divS, modS, powS, negS, cmpS, eqS_int, neS_int, eqS_str, neS_str, isS, lenS, absS, intS, tupS, listS, sumS, allS, gcdS, newL, ixS, slS, truT, itemsOf, lsOf, sqOf, tItA, tItE, tItR1, tItR2, tItZ, List.zip_cons_cons, List.zip_nil_left, List.zip_nil_right, List.foldl_cons, List.foldl_nil, List.getElem?_cons_zero, List.getElem?_cons_succ, List.set_cons_zero, List.set_cons_succ, List.length_cons, List.length_nil, Int.reduceEq, Int.reduceNeg, true_and, false_and, and_true, or_false, false_or, eq_self, T.int.injEq, exists_eq_left, exists_eq_left', setS, appS, upS_same, isLs_own, joinS, minS, zipT, Gm, conts, c4, Br_iff]
      refine ⟨⟨g1, g2⟩, ?_⟩
      have h2 := h2 (by rw [g3]; rfl)
      rw [g3]
      simpa using h2
    rw [List.nil_append, filter_none fun t ht => by rw [(goods_ok k1 k2 t ht).2]; rfl]
    (try simp (maxSteps := 4000000) only [dSs, dS, dE, dT, dEs, dI, dG, dGs, dO, cond_true, cond_false, opS, cmS, bfS, meS, sSeq, sNext, sPass, sBrk, sCnt, sExpr, sRet, sRet0, sIf, sFor, sAsg, sPar, sNever, tO, tO1, tON, tB2, tCh, tA0, tA1, tTu, tLi, tAn, tOr2, tNo, tIe, tAnT, tOrT, tNoT, tTr, tSlot, TL.tCon, tGlo, conT, tIsi, tCl, tFrz, tSl2, tP0, tP1, tRev, tMeL, tMeS, gSl, gsNil, gsCons, gTu, gSb, Gs.len, addS, subS, mulS, divS, modS, powS, negS, cmpS, eqS_int, neS_int, eqS_str, neS_str, isS, lenS, absS, intS, tupS, listS, sumS, allS, gcdS, newL, ixS, slS, truT, itemsOf, lsOf, sqOf, tItA, tItE, tItR1, tItR2, tItZ, List.zip_cons_cons, List.zip_nil_left, List.zip_nil_right, List.foldl_cons, List.foldl_nil, List.getElem?_cons_zero, List.getElem?_cons_succ, List.set_cons_zero, List.set_cons_succ, List.length_cons, List.length_nil, Int.reduceEq, Int.reduceNeg, true_and, false_and, and_true, or_false, false_or, eq_self, T.int.injEq, exists_eq_left, exists_eq_left', setS, appS, upS_same, isLs_own, joinS, minS, zipT])
    refine ⟨s1 _ (by decide), nil_ne ?_⟩
    (try simp only [Bool.false_eq_true, if_false])
    -- told
    unfold t13_5
    simp (maxSteps := 4000000) only [dSs, dS, dE, dT, dEs, dI, dG, dGs, dO, cond_true, cond_false, opS, cmS, bfS, meS, sSeq, sNext, sPass, sBrk, sCnt, sExpr, sRet, sRet0, sIf, sFor, sAsg, sPar, sNever, tO, tO1, tON, tB2, tCh, tA0, tA1, tTu, tLi, tAn, tOr2, tNo, tIe, tAnT, tOrT, tNoT, tTr, tSlot, TL.tCon, tGlo, conT, tIsi, tCl, tFrz, tSl2, tP0, tP1, tRev, tMeL, tMeS, gSl, gsNil, gsCons, gTu, gSb, Gs.len, addS, subS, mulS, divS, modS, powS, negS, cmpS, eqS_int, neS_int, eqS_str, neS_str, isS, lenS, absS, intS, tupS, listS, sumS, allS, gcdS, newL, ixS, slS, truT, itemsOf, lsOf, sqOf, tItA, tItE, tItR1, tItR2, tItZ, List.zip_cons_cons, List.zip_nil_left, List.zip_nil_right, List.foldl_cons, List.foldl_nil, List.getElem?_cons_zero, List.getElem?_cons_succ, List.set_cons_zero, List.set_cons_succ, List.length_cons, List.length_nil, Int.reduceEq, Int.reduceNeg, true_and, false_and, and_true, or_false, false_or, eq_self, T.int.injEq, exists_eq_left, exists_eq_left', setS, appS, upS_same, isLs_own, joinS, minS, zipT, Gm, conts, c6, c11, e10]
    refine ⟨by decide, s1 _ (by decide), [GR - 1], of10a, by decide, s1 _ (by decide), [0, GR - 1], of10b, by decide, by decide, s1 _ (by decide), [1, GR - 2], of10c, by decide, s1 _ (by decide), [GR], rfl, fit10, s1 _ (by decide), ⟨by simp, by decide, by decide, by decide⟩, List.replicate 100 1, by rw [rep100], fit100, s1 _ (by decide), ?_⟩
    unfold t13_6
    (try simp (maxSteps := 4000000) only [dSs, dS, dE, dT, dEs, dI, dG, dGs, dO, cond_true, cond_false, opS, cmS, bfS, meS, sSeq, sNext, sPass, sBrk, sCnt, sExpr, sRet, sRet0, sIf, sFor, sAsg, sPar, sNever, tO, tO1, tON, tB2, tCh, tA0, tA1, tTu, tLi, tAn, tOr2, tNo, tIe, tAnT, tOrT, tNoT, tTr, tSlot, TL.tCon, tGlo, conT, tIsi, tCl, tFrz, tSl2, tP0, tP1, tRev, tMeL, tMeS, gSl, gsNil, gsCons, gTu, gSb, Gs.len, addS, subS, mulS, divS, modS, powS, negS, cmpS, eqS_int, neS_int, eqS_str, neS_str, isS, lenS, absS, intS, tupS, listS, sumS, allS, gcdS, newL, ixS, slS, truT, itemsOf, lsOf, sqOf, tItA, tItE, tItR1, tItR2, tItZ, List.zip_cons_cons, List.zip_nil_left, List.zip_nil_right, List.foldl_cons, List.foldl_nil, List.getElem?_cons_zero, List.getElem?_cons_succ, List.set_cons_zero, List.set_cons_succ, List.length_cons, List.length_nil, Int.reduceEq, Int.reduceNeg, true_and, false_and, and_true, or_false, false_or, eq_self, T.int.injEq, exists_eq_left, exists_eq_left', setS, appS, upS_same, isLs_own, joinS, minS, zipT])
    refine ⟨s1 _ (by decide), ?_⟩
    unfold t13_7
    (try simp (maxSteps := 4000000) only [dSs, dS, dE, dT, dEs, dI, dG, dGs, dO, cond_true, cond_false, opS, cmS, bfS, meS, sSeq, sNext, sPass, sBrk, sCnt, sExpr, sRet, sRet0, sIf, sFor, sAsg, sPar, sNever, tO, tO1, tON, tB2, tCh, tA0, tA1, tTu, tLi, tAn, tOr2, tNo, tIe, tAnT, tOrT, tNoT, tTr, tSlot, TL.tCon, tGlo, conT, tIsi, tCl, tFrz, tSl2, tP0, tP1, tRev, tMeL, tMeS, gSl, gsNil, gsCons, gTu, gSb, Gs.len, addS, subS, mulS, divS, modS, powS, negS, cmpS, eqS_int, neS_int, eqS_str, neS_str, isS, lenS, absS, intS, tupS, listS, sumS, allS, gcdS, newL, ixS, slS, truT, itemsOf, lsOf, sqOf, tItA, tItE, tItR1, tItR2, tItZ, List.zip_cons_cons, List.zip_nil_left, List.zip_nil_right, List.foldl_cons, List.foldl_nil, List.getElem?_cons_zero, List.getElem?_cons_succ, List.set_cons_zero, List.set_cons_succ, List.length_cons, List.length_nil, Int.reduceEq, Int.reduceNeg, true_and, false_and, and_true, or_false, false_or, eq_self, T.int.injEq, exists_eq_left, exists_eq_left', setS, appS, upS_same, isLs_own, joinS, minS, zipT])
    refine ⟨by decide, loop13 _ _ _ _ _ _ _ _ _ _ none fun z => ?_⟩
    rw [rangeT_len]
    unfold t13_8
    simp (maxSteps := 4000000) only [dSs, dS, dE, dT, dEs, dI, dG, dGs, dO, cond_true, cond_false, opS, cmS, bfS, meS, sSeq, sNext, sPass, sBrk, sCnt, sExpr, sRet, sRet0, sIf, sFor, sAsg, sPar, sNever, tO, tO1, tON, tB2, tCh, tA0, tA1, tTu, tLi, tAn, tOr2, tNo, tIe, tAnT, tOrT, tNoT, tTr, tSlot, TL.tCon, tGlo, conT, tIsi, tCl, tFrz, tSl2, tP0, tP1, tRev, tMeL, tMeS, gSl, gsNil, gsCons, gTu, gSb, Gs.len, addS, subS, mulS, divS, modS, powS, negS, cmpS, eqS_int, neS_int, eqS_str, neS_str, isS, lenS, absS, intS, tupS, listS, sumS, allS, gcdS, newL, ixS, slS, truT, itemsOf, lsOf, sqOf, tItA, tItE, tItR1, tItR2, tItZ, List.zip_cons_cons, List.zip_nil_left, List.zip_nil_right, List.foldl_cons, List.foldl_nil, List.getElem?_cons_zero, List.getElem?_cons_succ, List.set_cons_zero, List.set_cons_succ, List.length_cons, List.length_nil, Int.reduceEq, Int.reduceNeg, true_and, false_and, and_true, or_false, false_or, eq_self, T.int.injEq, exists_eq_left, exists_eq_left', setS, appS, upS_same, isLs_own, joinS, minS, zipT, Gm, conts, c12, e10, Br_iff]
    have five : atI [pr (bnd true L0 H0 (List.replicate 100 1)).fst, pr (vS true (List.replicate 100 1)), pr (bnd true L0 H0 (List.replicate 100 1)).snd] 1 = some (pr (vS true (List.replicate 100 1))) := by rw [atI_1]; rfl
    refine ⟨by decide, s1 _ (by decide), by decide, s1 _ (by decide), by decide, s1 _ (by decide), by decide, s1 _ (by decide), s1 _ (by decide), ⟨by simp, by decide, by decide, by decide⟩, List.replicate 100 1, by rw [rep100], ⟨by decide, fun m hm => by rw [(List.mem_replicate.mp hm).2]; decide⟩, _, five, s1 _ (by decide), ?_⟩
    have ev : vS true [GR] = (GR + 1, 1) := by decide +kernel
    rw [ev]
    refine eqS_same (by simp [der, okT, okTs, pr, iv]) ?_
    dsimp only
    rw [if_pos rfl]
    have at4 : ∀ a b c d e : T, atI [a, b, c, d, e] 4 = some e := fun a b c d e => by rw [atI_4]; rfl
    refine ⟨_, at4 _ _ _ _ _, ?_⟩
    rw [fib_eq]
    refine sort_pair fib_lt ?_
    refine ⟨s1 _ (by decide), eqS_same (by simp [der, okT, okTs]) (rt_ok q)⟩
end LW

namespace LW
open PySem PySem.Spec PyProof.Rows L2 TL M83

theorem cvs_len (R : List Int) : (convs R).length = R.length := by unfold convs; rw [List.length_map, fw_length]
theorem cvs_at {R : List Int} {k : Nat} (h : k < R.length) : (convs R)[k]? = some (pr (cv (R.take (k + 1)))) := by
  unfold convs; rw [List.getElem?_map, fw0 h]; rfl
theorem gcon (i : Nat) : Gm.con i = conts i := rfl
def cvF (R : List Int) (t : T) : T := match t with
  | .int i => pr (cv (R.take i.toNat))
  | t => t
theorem cvs_range (R : List Int) : (TL.rangeT 1 R.length).map (cvF R) = convs R := by
  refine List.ext_getElem? fun k => ?_
  by_cases h : k < R.length
  · rw [cvs_at h]
    unfold TL.rangeT
    rw [List.map_map, List.getElem?_map, List.getElem?_range h]
    show some (pr (cv (R.take ((1 : Int) + (k : Nat)).toNat))) = _
    rw [show ((1 : Int) + (k : Nat)).toNat = k + 1 by omega]
  · rw [List.getElem?_eq_none (by rw [List.length_map, rangeT_len]; omega), List.getElem?_eq_none (by rw [cvs_len]; omega)]
/-- what one knows of a slope's quotients -/
structure Qs (a b : Int) (R : List Int) : Prop where
  s : Slo a b
  e : R = cf a b
  ne : R ≠ []
  len : R.length ≤ 99
  bd : ∀ m ∈ R, 0 ≤ m ∧ m ≤ GR
  of : Of (dec R) a b
  lst : R = [1] ∨ ∃ q, R.getLast? = some q ∧ 2 ≤ q
theorem qs_of {a b : Int} (s : Slo a b) : Qs a b (cf a b) := by
  obtain ⟨h1, h2, ⟨q, r, e, _, _⟩, h4⟩ := cf_all s.a1 s.b1 s.g
  have of : Of (dec (cf a b)) a b := ⟨s, h2, h1⟩
  have l1 := of_len of
  have l2 := (dec_facts _ h4).2
  exact ⟨s, rfl, by rw [e]; exact List.cons_ne_nil _ _, by omega, cf_le b.toNat a b (Nat.le_refl _) (by have := s.a1; omega) s.a2 s.b2, of, h4⟩
theorem okR_int {n : Nat} {i : Int} (h : i.natAbs < 2 ^ 64) : okR n (.int i) = true := by simp only [okR, decide_eq_true_eq]; exact h
theorem okR_iv {n : Nat} {r : List Int} (h : ∀ m ∈ r, 0 ≤ m ∧ m ≤ GR) : okR (n + 1) (.tup (iv r)) = true := by
  have g := gr_lt
  simp only [okR]
  exact okRs_all fun t ht => by
    obtain ⟨m, hm, rfl⟩ := List.mem_map.mp ht
    have := h m hm
    exact okR_int (by omega)
theorem sz_iv (r : List Int) : sz (.tup (iv r)) ≤ r.length * 65 := by
  have := szs_le (k := 64) (ts := iv r) fun t ht => by obtain ⟨m, hm, rfl⟩ := List.mem_map.mp ht; exact Nat.le_refl _
  rw [iv_len] at this
  exact this
theorem okR_pr {n : Nat} {p : P2} (h : 0 ≤ p.1 ∧ 0 ≤ p.2 ∧ p.1 ≤ GR ∧ p.2 ≤ GR) : okR (n + 1) (pr p) = true := by
  have g := gr_lt
  unfold pr
  simp only [okR, okRs, Bool.and_eq_true, decide_eq_true_eq, and_true]
  omega
theorem cvs_ok {a b : Int} {R : List Int} (h : Qs a b R) : ∀ t ∈ convs R, ∃ p : P2, t = pr p ∧ 0 ≤ p.1 ∧ 0 ≤ p.2 ∧ p.1 ≤ GR ∧ p.2 ≤ GR := fun t ht => by
  obtain ⟨k, hk⟩ := List.mem_iff_getElem?.mp ht
  have hl : k < R.length := by
    by_cases hl : k < R.length
    · exact hl
    · rw [List.getElem?_eq_none (by rw [cvs_len]; omega)] at hk; cases hk
  rw [cvs_at hl] at hk
  have s := h.s
  have e := h.e
  subst e
  obtain ⟨h1, h2, h3, h4⟩ := cv_near s.a1 s.b1 s.g hl
  refine ⟨_, (Option.some.inj hk).symm, h1, h2, ?_, ?_⟩
  · have := s.a2; omega
  · have := s.b2; omega
theorem repr_pair {a b : Int} {R : List Int} (h : Qs a b R) : okR 60 (.tup [.tup (iv R), .tup (convs R)]) = true ∧ sz (.tup [.tup (iv R), .tup (convs R)]) ≤ 240000 := by
  have l := h.len
  constructor
  · simp only [okR, okRs, Bool.and_eq_true, and_true]
    refine ⟨okRs_all fun t ht => ?_, okRs_all fun t ht => ?_⟩
    · obtain ⟨m, hm, rfl⟩ := List.mem_map.mp ht
      have := h.bd m hm
      have g := gr_lt
      exact okR_int (by omega)
    · obtain ⟨p, rfl, hp⟩ := cvs_ok h t ht
      exact okR_pr hp
  · have h1 := sz_iv R
    have h2 := szs_le (k := 130) (ts := convs R) fun t ht => by
      obtain ⟨p, rfl, hp⟩ := cvs_ok h t ht
      simp [pr, sz, szs]
    rw [cvs_len] at h2
    have h3 : sz (.tup [.tup (iv R), .tup (convs R)]) = sz (.tup (iv R)) + 1 + (szs (convs R) + 1 + 0) := rfl
    rw [h3]
    omega
/-- two same things shown -/
theorem repr_ne {t : T} {M : Store} {Q : K2} (hd : der M t = t) (h : okR 60 t = true) (hz : sz t ≤ 240000) (q : Q (.bl false) M) : reprS [t] M fun x M1 => reprS [t] M1 fun y M2 => neS x y M2 Q := by
  have r := repr_ok h hz
  unfold reprS
  dsimp only
  rw [hd]
  refine ⟨r, r, ?_⟩
  rw [neS_str, decide_eq_true rfl]
  exact q
end LW

namespace LW
open PySem PySem.Spec PyProof.Rows L2 TL M83

theorem loop30 (a0 a2 a3 a4 a6 a7 a8 a9 : Option T) (a b : Int) (R : List Int) (hq : Qs a b R) (D : Ends2) (M : Store) (q : ∀ x y z w, D.nx [a0, some (.tup [.int a, .int b]), a2, a3, a4, some (.tup (convs R)), a6, a7, a8, a9, x, y, z, w] M) :
    ∀ (ts : List T), (∀ t ∈ ts, ∃ k : Nat, t = .int ((k + 1 : Nat) : Int) ∧ k + 1 < R.length) → ∀ (x y z w : Option T), forL (dG Gm g30_0) (dSs Gm b30_0) D ts [a0, some (.tup [.int a, .int b]), a2, a3, a4, some (.tup (convs R)), a6, a7, a8, a9, x, y, z, w] M
  | [], _, x, y, z, w => q x y z w
  | t :: ts, ht, x, y, z, w => by
    obtain ⟨k, rfl, hk⟩ := ht t List.mem_cons_self
    have ih := loop30 a0 a2 a3 a4 a6 a7 a8 a9 a b R hq D M q ts fun u hu => ht u (List.mem_cons_of_mem _ hu)
    have s := hq.s
    have e1 : atI (convs R) ((k + 1 : Nat) : Int) = some (pr (cv (R.take (k + 2)))) := by rw [TL.atI_nat, cvs_at hk]
    have e2 : atI (convs R) (((k + 1 : Nat) : Int) - 1) = some (pr (cv (R.take (k + 1)))) := by
      rw [show ((k + 1 : Nat) : Int) - 1 = (k : Nat) by omega, TL.atI_nat, cvs_at (by omega)]
    have e := hq.e
    subst e
    obtain ⟨u, v, sg, v0, vu, ub, hs, d1, d0, lt⟩ := nearer s.a1 s.b1 s.g hk
    obtain ⟨p1, p2, p3, p4⟩ := cv_near s.a1 s.b1 s.g hk
    obtain ⟨r1, r2, r3, r4⟩ := cv_near s.a1 s.b1 s.g (by omega : k < (cf a b).length)
    have a2 := s.a2
    have b2 := s.b2
    have gg := gr_lt
    have a1 := s.a1
    have b1 := s.b1
    generalize ((k + 1 : Nat) : Int) = i at e1 e2 ⊢
    generalize cv ((cf a b).take (k + 1 + 1)) = H at *
    have e1 : atI (convs (cf a b)) i = some (.tup [.int H.1, .int H.2]) := e1
    generalize cv ((cf a b).take (k + 1)) = A at *
    have e2 : atI (convs (cf a b)) (i - 1) = some (.tup [.int A.1, .int A.2]) := e2
    generalize convs (cf a b) = C at *
    unfold forL
    generalize forL (dG Gm g30_0) (dSs Gm b30_0) D ts = F at ih ⊢
    unfold g30_0 b30_0
    simp (maxSteps := 4000000) only [dSs, dS, dE, dT, dEs, dI, dG, dGs, dO, cond_true, cond_false, opS, cmS, bfS, meS, sSeq, sNext, sPass, sBrk, sCnt, sExpr, sRet, sRet0, sIf, sFor, sAsg, sPar, sNever, tO, tO1, tON, tB2, tCh, tA0, tA1, tTu, tLi, tAn, tOr2, tNo, tIe, tAnT, tOrT, tNoT, tTr, tSlot, TL.tCon, tGlo, conT, tIsi, tCl, tFrz, tSl2, tP0, tP1, tRev, tMeL, tMeS, gSl, gsNil, gsCons, gTu, gSb, Gs.len, addS, subS, mulS, divS, modS, powS, negS, cmpS, eqS_int, neS_int, eqS_str, neS_str, isS, lenS, absS, intS, tupS, listS, sumS, allS, gcdS, newL, ixS, slS, truT, itemsOf, lsOf, sqOf, tItA, tItE, tItR1, tItR2, tItZ, List.zip_cons_cons, List.zip_nil_left, List.zip_nil_right, List.foldl_cons, List.foldl_nil, List.getElem?_cons_zero, List.getElem?_cons_succ, List.set_cons_zero, List.set_cons_succ, List.length_cons, List.length_nil, Int.reduceEq, Int.reduceNeg, true_and, false_and, and_true, or_false, false_or, eq_self, T.int.injEq, exists_eq_left, exists_eq_left', setS, appS, upS_same, isLs_own, joinS, minS, zipT, e1, e2, Option.some.injEq, exists_eq_left', atI_0, atI_1, Br_iff]
    have d1 : a * H.2 - H.1 * b = -sg * v := d1
    rw [d1, d0]
    have lt : v * A.2 < u * H.2 := lt
    have vs : ∃ c : Int, -sg * v = c ∧ (c = v ∨ c = -v) := by
      rcases hs with rfl | rfl
      · exact ⟨-v, by omega, .inr rfl⟩
      · exact ⟨v, by omega, .inl rfl⟩
    have us : ∃ c : Int, sg * u = c ∧ (c = u ∨ c = -u) := by
      rcases hs with rfl | rfl
      · exact ⟨u, by omega, .inl rfl⟩
      · exact ⟨-u, by omega, .inr rfl⟩
    have neg : ¬ 0 < (-sg * v) * (sg * u) := by
      have vu0 := Int.mul_nonneg v0 (by omega : 0 ≤ u)
      rcases hs with rfl | rfl
      · rw [show (-1 : Int) * v = -v by omega, Int.one_mul, Int.neg_mul]; omega
      · rw [show (-(-1) : Int) * v = v by omega, show (-1 : Int) * u = -u by omega, Int.mul_neg]; omega
    obtain ⟨c, ec, hc⟩ := vs
    obtain ⟨c', ec', hc'⟩ := us
    rw [ec, ec'] at neg ⊢
    have ac : (if c < 0 then -c else c) = v := by split <;> omega
    have ac' : (if c' < 0 then -c' else c') = u := by split <;> omega
    rw [ac, ac']
    refine ⟨mul_l (by omega) (by omega), mul_r (by omega) (by omega), mul_l (by omega) (by omega), mul_r (by omega) (by omega), mul_l (by omega) (by omega), ?_⟩
    rw [if_neg (by simpa using neg)]
    refine ⟨mul_l (by omega) (by omega), mul_l (by omega) (by omega), ?_⟩
    rw [if_neg (by simp; exact lt)]
    exact ih _ _ _ _
theorem last_eq {R : List Int} {z : Int} (h : R.getLast? = some z) (hz : 1 < z) : (iv R).dropLast ++ [T.int (z - 1)] = iv (dec R) := by
  rw [dec_last R z h hz, iv_app]
  unfold iv
  rw [List.map_dropLast]; rfl
end LW

namespace LW
open PySem PySem.Spec PyProof.Rows L2 TL M83

theorem repr_s {t : T} {M : Store} {Q : K2} (hd : der M t = t) (h : okR 60 t = true) (hz : sz t ≤ 240000) (q : Q (.str (dat t).shown) M) : reprS [t] M Q := by
  have r := repr_ok h hz
  unfold reprS
  dsimp only
  rw [hd]
  exact ⟨r, q⟩
theorem ne_same {x : Str} {M : Store} {Q : K2} (q : Q (.bl false) M) : neS (.str x) (.str x) M Q := by
  rw [neS_str, decide_eq_true rfl]
  exact q
theorem vS_sum : ∀ (r : List Int) (e : Bool), Nn r → r.sum + 2 ≤ (vS e r).1 + (vS e r).2
  | [], e, _ => by cases e <;> decide
  | m :: r, true, h => by
    have ih := vS_sum r false h.cons.2
    have p := vS_pos r false h.cons.2
    show m + r.sum + 2 ≤ (vS false r).1 + m * (vS false r).2 + (vS false r).2
    have : m * 1 ≤ m * (vS false r).2 := Int.mul_le_mul_of_nonneg_left p.2 h.cons.1
    omega
  | m :: r, false, h => by
    have ih := vS_sum r true h.cons.2
    have p := vS_pos r true h.cons.2
    show m + r.sum + 2 ≤ (vS true r).1 + ((vS true r).2 + m * (vS true r).1)
    have : m * 1 ≤ m * (vS true r).1 := Int.mul_le_mul_of_nonneg_left p.1 h.cons.1
    omega
theorem sum_nn : ∀ (r : List Int), Nn r → 0 ≤ r.sum
  | [], _ => by decide
  | m :: r, h => by
    have := sum_nn r h.cons.2
    have := h.cons.1
    rw [List.sum_cons]; omega
set_option maxHeartbeats 8000000 in
theorem pf30 : Pf 30 ss30 ns30 := fun ts M Q E h => by
  match ts, h with
  | [.loc p], ⟨hp, q⟩ =>
    show dSs Gm ss30 (rtEnds Q E) [some (.loc p), none, none, none, none, none, none, none, none, none, none, none, none, none] M
    unfold ss30
    simp (maxSteps := 4000000) only [dSs, dS, dE, dT, dEs, dI, dG, dGs, dO, cond_true, cond_false, opS, cmS, bfS, meS, sSeq, sNext, sPass, sBrk, sCnt, sExpr, sRet, sRet0, sIf, sFor, sAsg, sPar, sNever, tO, tO1, tON, tB2, tCh, tA0, tA1, tTu, tLi, tAn, tOr2, tNo, tIe, tAnT, tOrT, tNoT, tTr, tSlot, TL.tCon, tGlo, conT, tIsi, tCl, tFrz, tSl2, tP0, tP1, tRev, tMeL, tMeS, gSl, gsNil, gsCons, gTu, gSb, Gs.len, addS, subS, mulS, divS, modS, powS, negS, cmpS, eqS_int, neS_int, eqS_str, neS_str, isS, lenS, absS, intS, tupS, listS, sumS, allS, gcdS, newL, ixS, slS, truT, itemsOf, lsOf, sqOf, tItA, tItE, tItR1, tItR2, tItZ, List.zip_cons_cons, List.zip_nil_left, List.zip_nil_right, List.foldl_cons, List.foldl_nil, List.getElem?_cons_zero, List.getElem?_cons_succ, List.set_cons_zero, List.set_cons_succ, List.length_cons, List.length_nil, Int.reduceEq, Int.reduceNeg, true_and, false_and, and_true, or_false, false_or, eq_self, T.int.injEq, exists_eq_left, exists_eq_left', setS, appS, upS_same, isLs_own, joinS, minS, zipT, gcon, conts, c19, c23]
    refine ⟨by decide, by decide, by decide, ⟨hp, by simp, by decide⟩, fun t ht => ?_⟩
    obtain ⟨m, rfl, m0, m1⟩ : ∃ m : Int, t = .int m ∧ 0 < m ∧ m ≤ GR := by
      simp only [List.mem_cons, List.not_mem_nil, or_false] at ht
      rcases ht with rfl | rfl | rfl | rfl
      · exact ⟨_, rfl, by decide, by decide⟩
      · exact ⟨_, rfl, by decide, by decide⟩
      · exact ⟨_, rfl, by decide, by decide⟩
      · exact ⟨_, rfl, by decide, by decide⟩
    refine ⟨⟨hp, m0, m1⟩, fun a b s => ?_⟩
    have Hq := qs_of s
    obtain ⟨R, eR⟩ : ∃ R, R = cf a b := ⟨_, rfl⟩
    rw [← eR] at Hq
    have gg := gr_lt
    have a2 := s.a2
    have b2 := s.b2
    have a1 := s.a1
    have b1 := s.b1
    have len := Hq.len
    unfold t30_1
    simp (maxSteps := 4000000) only [dSs, dS, dE, dT, dEs, dI, dG, dGs, dO, cond_true, cond_false, opS, cmS, bfS, meS, sSeq, sNext, sPass, sBrk, sCnt, sExpr, sRet, sRet0, sIf, sFor, sAsg, sPar, sNever, tO, tO1, tON, tB2, tCh, tA0, tA1, tTu, tLi, tAn, tOr2, tNo, tIe, tAnT, tOrT, tNoT, tTr, tSlot, TL.tCon, tGlo, conT, tIsi, tCl, tFrz, tSl2, tP0, tP1, tRev, tMeL, tMeS, gSl, gsNil, gsCons, gTu, gSb, Gs.len, addS, subS, mulS, divS, modS, powS, negS, cmpS, eqS_int, neS_int, eqS_str, neS_str, isS, lenS, absS, intS, tupS, listS, sumS, allS, gcdS, newL, ixS, slS, truT, itemsOf, lsOf, sqOf, tItA, tItE, tItR1, tItR2, tItZ, List.zip_cons_cons, List.zip_nil_left, List.zip_nil_right, List.foldl_cons, List.foldl_nil, List.getElem?_cons_zero, List.getElem?_cons_succ, List.set_cons_zero, List.set_cons_succ, List.length_cons, List.length_nil, Int.reduceEq, Int.reduceNeg, true_and, false_and, and_true, or_false, false_or, eq_self, T.int.injEq, exists_eq_left, exists_eq_left', setS, appS, upS_same, isLs_own, joinS, minS, zipT, atI_0, atI_1, Option.some.injEq, exists_eq_left']
    refine ⟨by decide, by decide, ?_⟩
    unfold t30_2
    simp (maxSteps := 4000000) only [dSs, dS, dE, dT, dEs, dI, dG, dGs, dO, cond_true, cond_false, opS, cmS, bfS, meS, sSeq, sNext, sPass, sBrk, sCnt, sExpr, sRet, sRet0, sIf, sFor, sAsg, sPar, sNever, tO, tO1, tON, tB2, tCh, tA0, tA1, tTu, tLi, tAn, tOr2, tNo, tIe, tAnT, tOrT, tNoT, tTr, tSlot, TL.tCon, tGlo, conT, tIsi, tCl, tFrz, tSl2, tP0, tP1, tRev, tMeL, tMeS, gSl, gsNil, gsCons, gTu, gSb, Gs.len, addS, subS, mulS, divS, modS, powS, negS, cmpS, eqS_int, neS_int, eqS_str, neS_str, isS, lenS, absS, intS, tupS, listS, sumS, allS, gcdS, newL, ixS, slS, truT, itemsOf, lsOf, sqOf, tItA, tItE, tItR1, tItR2, tItZ, List.zip_cons_cons, List.zip_nil_left, List.zip_nil_right, List.foldl_cons, List.foldl_nil, List.getElem?_cons_zero, List.getElem?_cons_succ, List.set_cons_zero, List.set_cons_succ, List.length_cons, List.length_nil, Int.reduceEq, Int.reduceNeg, true_and, false_and, and_true, or_false, false_or, eq_self, T.int.injEq, exists_eq_left, exists_eq_left', setS, appS, upS_same, isLs_own, joinS, minS, zipT]
    unfold sWhile
    obtain ⟨V, hV⟩ : ∃ V : Nat → St2 → Store → Prop, ∀ m ρ M', V m ρ M' ↔ ∃ (x y : Int) (done : List Int), 0 ≤ x ∧ 0 ≤ y ∧ y ≤ GR ∧ R = done ++ cf x y ∧ m = y.toNat ∧ M' = M ∧ ρ = [some (.loc p), some (.tup [.int a, .int b]), some (.int x), some (.int y), some (.tup (iv done)), none, none, none, none, none, none, none, none, none] := ⟨_, fun _ _ _ => Iff.rfl⟩
    refine ⟨V, ⟨b.toNat, (hV _ _ _).mpr ⟨a, b, [], by omega, by omega, b2, by rw [eR]; rfl, rfl, rfl, rfl⟩⟩, fun m ρ M' v => ?_⟩
    obtain ⟨x, y, done, hx, hy, hy2, hc, rfl, rfl, rfl⟩ := (hV _ _ _).mp v
    simp (maxSteps := 4000000) only [dSs, dS, dE, dT, dEs, dI, dG, dGs, dO, cond_true, cond_false, opS, cmS, bfS, meS, sSeq, sNext, sPass, sBrk, sCnt, sExpr, sRet, sRet0, sIf, sFor, sAsg, sPar, sNever, tO, tO1, tON, tB2, tCh, tA0, tA1, tTu, tLi, tAn, tOr2, tNo, tIe, tAnT, tOrT, tNoT, tTr, tSlot, TL.tCon, tGlo, conT, tIsi, tCl, tFrz, tSl2, tP0, tP1, tRev, tMeL, tMeS, gSl, gsNil, gsCons, gTu, gSb, Gs.len, addS, subS, mulS, divS, modS, powS, negS, cmpS, eqS_int, neS_int, eqS_str, neS_str, isS, lenS, absS, intS, tupS, listS, sumS, allS, gcdS, newL, ixS, slS, truT, itemsOf, lsOf, sqOf, tItA, tItE, tItR1, tItR2, tItZ, List.zip_cons_cons, List.zip_nil_left, List.zip_nil_right, List.foldl_cons, List.foldl_nil, List.getElem?_cons_zero, List.getElem?_cons_succ, List.set_cons_zero, List.set_cons_succ, List.length_cons, List.length_nil, Int.reduceEq, Int.reduceNeg, true_and, false_and, and_true, or_false, false_or, eq_self, T.int.injEq, exists_eq_left, exists_eq_left', setS, appS, upS_same, isLs_own, joinS, minS, zipT, Br_iff]
    by_cases h : y = 0
    · -- behind the loop
      subst h
      rw [if_neg (by simp)]
      rw [cf_zero (Int.le_refl _), List.append_nil] at hc
      subst hc
      unfold t30_3
      simp (maxSteps := 4000000) only [dSs, dS, dE, dT, dEs, dI, dG, dGs, dO, cond_true, cond_false, opS, cmS, bfS, meS, sSeq, sNext, sPass, sBrk, sCnt, sExpr, sRet, sRet0, sIf, sFor, sAsg, sPar, sNever, tO, tO1, tON, tB2, tCh, tA0, tA1, tTu, tLi, tAn, tOr2, tNo, tIe, tAnT, tOrT, tNoT, tTr, tSlot, TL.tCon, tGlo, conT, tIsi, tCl, tFrz, tSl2, tP0, tP1, tRev, tMeL, tMeS, gSl, gsNil, gsCons, gTu, gSb, Gs.len, addS, subS, mulS, divS, modS, powS, negS, cmpS, eqS_int, neS_int, eqS_str, neS_str, isS, lenS, absS, intS, tupS, listS, sumS, allS, gcdS, newL, ixS, slS, truT, itemsOf, lsOf, sqOf, tItA, tItE, tItR1, tItR2, tItZ, List.zip_cons_cons, List.zip_nil_left, List.zip_nil_right, List.foldl_cons, List.foldl_nil, List.getElem?_cons_zero, List.getElem?_cons_succ, List.set_cons_zero, List.set_cons_succ, List.length_cons, List.length_nil, Int.reduceEq, Int.reduceNeg, true_and, false_and, and_true, or_false, false_or, eq_self, T.int.injEq, exists_eq_left, exists_eq_left', setS, appS, upS_same, isLs_own, joinS, minS, zipT]
      unfold tComp
      simp (maxSteps := 4000000) only [dSs, dS, dE, dT, dEs, dI, dG, dGs, dO, cond_true, cond_false, opS, cmS, bfS, meS, sSeq, sNext, sPass, sBrk, sCnt, sExpr, sRet, sRet0, sIf, sFor, sAsg, sPar, sNever, tO, tO1, tON, tB2, tCh, tA0, tA1, tTu, tLi, tAn, tOr2, tNo, tIe, tAnT, tOrT, tNoT, tTr, tSlot, TL.tCon, tGlo, conT, tIsi, tCl, tFrz, tSl2, tP0, tP1, tRev, tMeL, tMeS, gSl, gsNil, gsCons, gTu, gSb, Gs.len, addS, subS, mulS, divS, modS, powS, negS, cmpS, eqS_int, neS_int, eqS_str, neS_str, isS, lenS, absS, intS, tupS, listS, sumS, allS, gcdS, newL, ixS, slS, truT, itemsOf, lsOf, sqOf, tItA, tItE, tItR1, tItR2, tItZ, List.zip_cons_cons, List.zip_nil_left, List.zip_nil_right, List.foldl_cons, List.foldl_nil, List.getElem?_cons_zero, List.getElem?_cons_succ, List.set_cons_zero, List.set_cons_succ, List.length_cons, List.length_nil, Int.reduceEq, Int.reduceNeg, true_and, false_and, and_true, or_false, false_or, eq_self, T.int.injEq, exists_eq_left, exists_eq_left', setS, appS, upS_same, isLs_own, joinS, minS, zipT]
      rw [iv_len, show ((R.length : Int) + 1 - 1).toNat = R.length by omega]
      refine ⟨⟨by decide, by decide, by omega, by omega⟩, by rw [rangeT_len]; show _ ≤ 16777216; omega, ?_⟩
      refine compL_map (cvF R) _ [] (fun t ht k hk => ?_) ?_
      · obtain ⟨i, hi, rfl⟩ := rangeT_mem ht
        show ∃ q : List Int, [T.tup (cutT (iv R) none (some (1 + (i : Nat))))] = [.tup (iv q)] ∧ (q ≠ [] ∧ ∀ m ∈ q, 0 ≤ m ∧ m ≤ GR) ∧ k (pr (cv q)) M'
        rw [cut_to (by omega)]
        have ne : R.take ((1 : Int) + (i : Nat)).toNat ≠ [] := by
          obtain ⟨q0, r0, e0⟩ := List.exists_cons_of_ne_nil Hq.ne
          rw [e0, show ((1 : Int) + (i : Nat)).toNat = i + 1 by omega]
          exact List.cons_ne_nil _ _
        refine ⟨R.take ((1 : Int) + (i : Nat)).toNat, by unfold iv; rw [List.map_take], ⟨ne, fun m hm => Hq.bd m (List.mem_of_mem_take hm)⟩, hk⟩
      (try rw [List.nil_append])
      rw [cvs_range]
      -- the quotients, the chain
      unfold t30_4
      have cl : (cf a b).length ≤ 100 := by rw [← eR]; omega
      have cb : ∀ m ∈ cf a b, 0 ≤ m ∧ m ≤ GR := by rw [← eR]; exact Hq.bd
      have rp := repr_pair Hq
      have lst : atI (convs R) (-1) = some (.tup [.int a, .int b]) := by
        rw [TL.atI_last, List.getLast?_eq_getElem?, cvs_len, cvs_at (by have := List.length_pos_iff.mpr Hq.ne; omega), List.take_of_length_le (by omega), Hq.e, cv_one a1 b1 s.g]
        rfl
      have okp : okT 60 (.tup [.int a, .int b]) = true := by simp [okT, okTs]
      have okr : okR 60 (.tup [.int a, .int b]) = true ∧ sz (.tup [.int a, .int b]) ≤ 240000 := ⟨okR_pr (p := (a, b)) ⟨by show 0 ≤ a; omega, by show 0 ≤ b; omega, a2, b2⟩, by simp [sz, szs]⟩
      have of := Hq.of
      obtain ⟨dl, db⟩ := of_b of
      have okd : okR 60 (.tup (iv (dec R))) = true ∧ sz (.tup (iv (dec R))) ≤ 240000 := ⟨okR_iv db, by have := sz_iv (dec R); omega⟩
      simp (maxSteps := 4000000) only [dSs, dS, dE, dT, dEs, dI, dG, dGs, dO, cond_true, cond_false, opS, cmS, bfS, meS, sSeq, sNext, sPass, sBrk, sCnt, sExpr, sRet, sRet0, sIf, sFor, sAsg, sPar, sNever, tO, tO1, tON, tB2, tCh, tA0, tA1, tTu, tLi, tAn, tOr2, tNo, tIe, tAnT, tOrT, tNoT, tTr, tSlot, TL.tCon, tGlo, conT, tIsi, tCl, tFrz, tSl2, tP0, tP1, tRev, tMeL, tMeS, gSl, gsNil, gsCons, gTu, gSb, Gs.len, addS, subS, mulS, divS, modS, powS, negS, cmpS, eqS_int, neS_int, eqS_str, neS_str, isS, lenS, absS, intS, tupS, listS, sumS, allS, gcdS, newL, ixS, slS, truT, itemsOf, lsOf, sqOf, tItA, tItE, tItR1, tItR2, tItZ, List.zip_cons_cons, List.zip_nil_left, List.zip_nil_right, List.foldl_cons, List.foldl_nil, List.getElem?_cons_zero, List.getElem?_cons_succ, List.set_cons_zero, List.set_cons_succ, List.length_cons, List.length_nil, Int.reduceEq, Int.reduceNeg, true_and, false_and, and_true, or_false, false_or, eq_self, T.int.injEq, exists_eq_left, exists_eq_left', setS, appS, upS_same, isLs_own, joinS, minS, zipT, gcon, conts, c25, c28, Br_iff]
      rw [← eR]
      refine ⟨⟨s, by omega⟩, ⟨s, by omega, Hq.bd⟩, by decide, repr_s rfl rp.1 rp.2 ⟨by decide, repr_s rfl rp.1 rp.2 (ne_same ?_)⟩⟩
      (try dsimp only)
      (try rw [if_neg Bool.false_ne_true])
      refine ⟨_, lst, neS_same okp ?_⟩
      (try dsimp only)
      (try rw [if_neg Bool.false_ne_true])
      -- the runs
      unfold t30_5
      simp (maxSteps := 4000000) only [dSs, dS, dE, dT, dEs, dI, dG, dGs, dO, cond_true, cond_false, opS, cmS, bfS, meS, sSeq, sNext, sPass, sBrk, sCnt, sExpr, sRet, sRet0, sIf, sFor, sAsg, sPar, sNever, tO, tO1, tON, tB2, tCh, tA0, tA1, tTu, tLi, tAn, tOr2, tNo, tIe, tAnT, tOrT, tNoT, tTr, tSlot, TL.tCon, tGlo, conT, tIsi, tCl, tFrz, tSl2, tP0, tP1, tRev, tMeL, tMeS, gSl, gsNil, gsCons, gTu, gSb, Gs.len, addS, subS, mulS, divS, modS, powS, negS, cmpS, eqS_int, neS_int, eqS_str, neS_str, isS, lenS, absS, intS, tupS, listS, sumS, allS, gcdS, newL, ixS, slS, truT, itemsOf, lsOf, sqOf, tItA, tItE, tItR1, tItR2, tItZ, List.zip_cons_cons, List.zip_nil_left, List.zip_nil_right, List.foldl_cons, List.foldl_nil, List.getElem?_cons_zero, List.getElem?_cons_succ, List.set_cons_zero, List.set_cons_succ, List.length_cons, List.length_nil, Int.reduceEq, Int.reduceNeg, true_and, false_and, and_true, or_false, false_or, eq_self, T.int.injEq, exists_eq_left, exists_eq_left', setS, appS, upS_same, isLs_own, joinS, minS, zipT, gcon, conts, c6]
      refine ⟨dec R, of, ?_⟩
      have fin : dSs Gm t30_7 (rtEnds Q E) [some (.loc p), some (.tup [.int a, .int b]), some (.int x), some (.int 0), some (.tup (iv R)), some (.tup (convs R)), some (.tup (iv (dec R))), some (.tup (iv (dec R))), none, none, none, none, none, none] M' := by
        obtain ⟨sm, _⟩ := dec_facts R Hq.lst
        have ft : Fit (dec R) := ⟨of.ru, dl, fun m hm => (db m hm).2⟩
        have sb := vS_sum (dec R) true of.ru.nn
        have s0 := sum_nn (dec R) of.ru.nn
        rw [of.v] at sb
        dsimp only at sb
        have vv : pr (vS true (dec R)) = .tup [.int a, .int b] := by rw [of.v]; rfl
        have io : intsOf (iv R) = some R := intsOf_map R
        unfold t30_7
        simp (maxSteps := 4000000) only [dSs, dS, dE, dT, dEs, dI, dG, dGs, dO, cond_true, cond_false, opS, cmS, bfS, meS, sSeq, sNext, sPass, sBrk, sCnt, sExpr, sRet, sRet0, sIf, sFor, sAsg, sPar, sNever, tO, tO1, tON, tB2, tCh, tA0, tA1, tTu, tLi, tAn, tOr2, tNo, tIe, tAnT, tOrT, tNoT, tTr, tSlot, TL.tCon, tGlo, conT, tIsi, tCl, tFrz, tSl2, tP0, tP1, tRev, tMeL, tMeS, gSl, gsNil, gsCons, gTu, gSb, Gs.len, addS, subS, mulS, divS, modS, powS, negS, cmpS, eqS_int, neS_int, eqS_str, neS_str, isS, lenS, absS, intS, tupS, listS, sumS, allS, gcdS, newL, ixS, slS, truT, itemsOf, lsOf, sqOf, tItA, tItE, tItR1, tItR2, tItZ, List.zip_cons_cons, List.zip_nil_left, List.zip_nil_right, List.foldl_cons, List.foldl_nil, List.getElem?_cons_zero, List.getElem?_cons_succ, List.set_cons_zero, List.set_cons_succ, List.length_cons, List.length_nil, Int.reduceEq, Int.reduceNeg, true_and, false_and, and_true, or_false, false_or, eq_self, T.int.injEq, exists_eq_left, exists_eq_left', setS, appS, upS_same, isLs_own, joinS, minS, zipT, gcon, conts, c11, c15, Br_iff, io]
        refine repr_s rfl okd.1 okd.2 (repr_s rfl okd.1 okd.2 (ne_same ?_))
        (try dsimp only)
        (try rw [if_neg Bool.false_ne_true])
        refine ⟨dec R, rfl, ft, ?_⟩
        rw [vv]
        refine repr_s rfl okr.1 okr.2 (repr_s rfl okr.1 okr.2 (ne_same ?_))
        (try dsimp only)
        (try rw [if_neg Bool.false_ne_true])
        have gv : GR = 1000000000000000000 := rfl
        have oki : okR 60 (.int (dec R).sum) = true ∧ sz (.int (dec R).sum) ≤ 240000 := ⟨okR_int (by omega), by simp [sz]⟩
        refine ⟨dec R, of, repr_s rfl oki.1 oki.2 ?_⟩
        rw [← sm]
        refine repr_s rfl oki.1 oki.2 (ne_same ?_)
        (try dsimp only)
        (try rw [if_neg Bool.false_ne_true])
        -- the bounds
        unfold t30_8
        simp (maxSteps := 4000000) only [dSs, dS, dE, dT, dEs, dI, dG, dGs, dO, cond_true, cond_false, opS, cmS, bfS, meS, sSeq, sNext, sPass, sBrk, sCnt, sExpr, sRet, sRet0, sIf, sFor, sAsg, sPar, sNever, tO, tO1, tON, tB2, tCh, tA0, tA1, tTu, tLi, tAn, tOr2, tNo, tIe, tAnT, tOrT, tNoT, tTr, tSlot, TL.tCon, tGlo, conT, tIsi, tCl, tFrz, tSl2, tP0, tP1, tRev, tMeL, tMeS, gSl, gsNil, gsCons, gTu, gSb, Gs.len, addS, subS, mulS, divS, modS, powS, negS, cmpS, eqS_int, neS_int, eqS_str, neS_str, isS, lenS, absS, intS, tupS, listS, sumS, allS, gcdS, newL, ixS, slS, truT, itemsOf, lsOf, sqOf, tItA, tItE, tItR1, tItR2, tItZ, List.zip_cons_cons, List.zip_nil_left, List.zip_nil_right, List.foldl_cons, List.foldl_nil, List.getElem?_cons_zero, List.getElem?_cons_succ, List.set_cons_zero, List.set_cons_succ, List.length_cons, List.length_nil, Int.reduceEq, Int.reduceNeg, true_and, false_and, and_true, or_false, false_or, eq_self, T.int.injEq, exists_eq_left, exists_eq_left', setS, appS, upS_same, isLs_own, joinS, minS, zipT, gcon, conts, c16]
        refine ⟨dec R, of, ?_⟩
        unfold t30_9
        obtain ⟨n1, n2, n3, n4⟩ := bnd0_nn of.ru.nn
        obtain ⟨m1, m2⟩ := mid0 (dec R)
        have dt := det0 (dec R)
        rw [of.v] at m1 m2
        dsimp only at m1 m2
        generalize bnd true L0 H0 (dec R) = P at *
        unfold pr
        simp (maxSteps := 4000000) only [dSs, dS, dE, dT, dEs, dI, dG, dGs, dO, cond_true, cond_false, opS, cmS, bfS, meS, sSeq, sNext, sPass, sBrk, sCnt, sExpr, sRet, sRet0, sIf, sFor, sAsg, sPar, sNever, tO, tO1, tON, tB2, tCh, tA0, tA1, tTu, tLi, tAn, tOr2, tNo, tIe, tAnT, tOrT, tNoT, tTr, tSlot, TL.tCon, tGlo, conT, tIsi, tCl, tFrz, tSl2, tP0, tP1, tRev, tMeL, tMeS, gSl, gsNil, gsCons, gTu, gSb, Gs.len, addS, subS, mulS, divS, modS, powS, negS, cmpS, eqS_int, neS_int, eqS_str, neS_str, isS, lenS, absS, intS, tupS, listS, sumS, allS, gcdS, newL, ixS, slS, truT, itemsOf, lsOf, sqOf, tItA, tItE, tItR1, tItR2, tItZ, List.zip_cons_cons, List.zip_nil_left, List.zip_nil_right, List.foldl_cons, List.foldl_nil, List.getElem?_cons_zero, List.getElem?_cons_succ, List.set_cons_zero, List.set_cons_succ, List.length_cons, List.length_nil, Int.reduceEq, Int.reduceNeg, true_and, false_and, and_true, or_false, false_or, eq_self, T.int.injEq, exists_eq_left, exists_eq_left', setS, appS, upS_same, isLs_own, joinS, minS, zipT, Br_iff, atI_0, atI_1, Option.some.injEq, exists_eq_left', m1, m2]
        refine ⟨by decide, neS_same okp ?_⟩
        (try dsimp only)
        (try rw [if_neg Bool.false_ne_true])
        refine ⟨mul_l (by omega) (by omega), mul_l (by omega) (by omega), ?_⟩
        rw [dt]
        rw [if_neg (by simp)]
        unfold t30_10
        simp (maxSteps := 4000000) only [dSs, dS, dE, dT, dEs, dI, dG, dGs, dO, cond_true, cond_false, opS, cmS, bfS, meS, sSeq, sNext, sPass, sBrk, sCnt, sExpr, sRet, sRet0, sIf, sFor, sAsg, sPar, sNever, tO, tO1, tON, tB2, tCh, tA0, tA1, tTu, tLi, tAn, tOr2, tNo, tIe, tAnT, tOrT, tNoT, tTr, tSlot, TL.tCon, tGlo, conT, tIsi, tCl, tFrz, tSl2, tP0, tP1, tRev, tMeL, tMeS, gSl, gsNil, gsCons, gTu, gSb, Gs.len, addS, subS, mulS, divS, modS, powS, negS, cmpS, eqS_int, neS_int, eqS_str, neS_str, isS, lenS, absS, intS, tupS, listS, sumS, allS, gcdS, newL, ixS, slS, truT, itemsOf, lsOf, sqOf, tItA, tItE, tItR1, tItR2, tItZ, List.zip_cons_cons, List.zip_nil_left, List.zip_nil_right, List.foldl_cons, List.foldl_nil, List.getElem?_cons_zero, List.getElem?_cons_succ, List.set_cons_zero, List.set_cons_succ, List.length_cons, List.length_nil, Int.reduceEq, Int.reduceNeg, true_and, false_and, and_true, or_false, false_or, eq_self, T.int.injEq, exists_eq_left, exists_eq_left', setS, appS, upS_same, isLs_own, joinS, minS, zipT]
        rw [cvs_len]
        refine ⟨⟨by decide, by decide, by omega, by omega⟩, ?_⟩
        refine loop30 _ _ _ _ _ _ _ _ a b R Hq _ M' (fun x y z w => ?_) _ (fun t ht => ?_) _ _ _ _
        · unfold t30_11
          simp (maxSteps := 4000000) only [dSs, dS, dE, dT, dEs, dI, dG, dGs, dO, cond_true, cond_false, opS, cmS, bfS, meS, sSeq, sNext, sPass, sBrk, sCnt, sExpr, sRet, sRet0, sIf, sFor, sAsg, sPar, sNever, tO, tO1, tON, tB2, tCh, tA0, tA1, tTu, tLi, tAn, tOr2, tNo, tIe, tAnT, tOrT, tNoT, tTr, tSlot, TL.tCon, tGlo, conT, tIsi, tCl, tFrz, tSl2, tP0, tP1, tRev, tMeL, tMeS, gSl, gsNil, gsCons, gTu, gSb, Gs.len, addS, subS, mulS, divS, modS, powS, negS, cmpS, eqS_int, neS_int, eqS_str, neS_str, isS, lenS, absS, intS, tupS, listS, sumS, allS, gcdS, newL, ixS, slS, truT, itemsOf, lsOf, sqOf, tItA, tItE, tItR1, tItR2, tItZ, List.zip_cons_cons, List.zip_nil_left, List.zip_nil_right, List.foldl_cons, List.foldl_nil, List.getElem?_cons_zero, List.getElem?_cons_succ, List.set_cons_zero, List.set_cons_succ, List.length_cons, List.length_nil, Int.reduceEq, Int.reduceNeg, true_and, false_and, and_true, or_false, false_or, eq_self, T.int.injEq, exists_eq_left, exists_eq_left', setS, appS, upS_same, isLs_own, joinS, minS, zipT]
          exact rt_ok q
        · obtain ⟨i, hi, rfl⟩ := rangeT_mem ht
          exact ⟨i, by congr 1; omega, by omega⟩
      unfold t30_6
      simp (maxSteps := 4000000) only [dSs, dS, dE, dT, dEs, dI, dG, dGs, dO, cond_true, cond_false, opS, cmS, bfS, meS, sSeq, sNext, sPass, sBrk, sCnt, sExpr, sRet, sRet0, sIf, sFor, sAsg, sPar, sNever, tO, tO1, tON, tB2, tCh, tA0, tA1, tTu, tLi, tAn, tOr2, tNo, tIe, tAnT, tOrT, tNoT, tTr, tSlot, TL.tCon, tGlo, conT, tIsi, tCl, tFrz, tSl2, tP0, tP1, tRev, tMeL, tMeS, gSl, gsNil, gsCons, gTu, gSb, Gs.len, addS, subS, mulS, divS, modS, powS, negS, cmpS, eqS_int, neS_int, eqS_str, neS_str, isS, lenS, absS, intS, tupS, listS, sumS, allS, gcdS, newL, ixS, slS, truT, itemsOf, lsOf, sqOf, tItA, tItE, tItR1, tItR2, tItZ, List.zip_cons_cons, List.zip_nil_left, List.zip_nil_right, List.foldl_cons, List.foldl_nil, List.getElem?_cons_zero, List.getElem?_cons_succ, List.set_cons_zero, List.set_cons_succ, List.length_cons, List.length_nil, Int.reduceEq, Int.reduceNeg, true_and, false_and, and_true, or_false, false_or, eq_self, T.int.injEq, exists_eq_left, exists_eq_left', setS, appS, upS_same, isLs_own, joinS, minS, zipT, gcon, conts, Br_iff, cut_init]
      rcases Hq.lst with e1 | ⟨z, hz, hz2⟩
      · have at1 : atI (iv R) (-1) = some (.int 1) := by rw [e1, TL.atI_last]; rfl
        have l1 : (iv R).length = 1 := by rw [e1]; rfl
        have dr : (iv R).dropLast = [] := by rw [e1]; rfl
        have dd : iv (dec R) = [] := by rw [e1]; rfl
        simp (maxSteps := 4000000) only [dSs, dS, dE, dT, dEs, dI, dG, dGs, dO, cond_true, cond_false, opS, cmS, bfS, meS, sSeq, sNext, sPass, sBrk, sCnt, sExpr, sRet, sRet0, sIf, sFor, sAsg, sPar, sNever, tO, tO1, tON, tB2, tCh, tA0, tA1, tTu, tLi, tAn, tOr2, tNo, tIe, tAnT, tOrT, tNoT, tTr, tSlot, TL.tCon, tGlo, conT, tIsi, tCl, tFrz, tSl2, tP0, tP1, tRev, tMeL, tMeS, gSl, gsNil, gsCons, gTu, gSb, Gs.len, addS, subS, mulS, divS, modS, powS, negS, cmpS, eqS_int, neS_int, eqS_str, neS_str, isS, lenS, absS, intS, tupS, listS, sumS, allS, gcdS, newL, ixS, slS, truT, itemsOf, lsOf, sqOf, tItA, tItE, tItR1, tItR2, tItZ, List.zip_cons_cons, List.zip_nil_left, List.zip_nil_right, List.foldl_cons, List.foldl_nil, List.getElem?_cons_zero, List.getElem?_cons_succ, List.set_cons_zero, List.set_cons_succ, List.length_cons, List.length_nil, Int.reduceEq, Int.reduceNeg, true_and, false_and, and_true, or_false, false_or, eq_self, T.int.injEq, exists_eq_left, exists_eq_left', setS, appS, upS_same, isLs_own, joinS, minS, zipT, at1, Option.some.injEq, exists_eq_left', l1, dr]
        rw [if_neg (by decide), if_neg (by decide), if_neg (by simp)]
        refine ⟨by decide, by decide, ?_⟩
        have ap : ([] ++ [] : List T) = iv (dec R) := dd.symm
        rw [ap]
        exact fin
      · have at1 : atI (iv R) (-1) = some (.int z) := by rw [TL.atI_last]; unfold iv; rw [List.getLast?_map, hz]; rfl
        simp (maxSteps := 4000000) only [dSs, dS, dE, dT, dEs, dI, dG, dGs, dO, cond_true, cond_false, opS, cmS, bfS, meS, sSeq, sNext, sPass, sBrk, sCnt, sExpr, sRet, sRet0, sIf, sFor, sAsg, sPar, sNever, tO, tO1, tON, tB2, tCh, tA0, tA1, tTu, tLi, tAn, tOr2, tNo, tIe, tAnT, tOrT, tNoT, tTr, tSlot, TL.tCon, tGlo, conT, tIsi, tCl, tFrz, tSl2, tP0, tP1, tRev, tMeL, tMeS, gSl, gsNil, gsCons, gTu, gSb, Gs.len, addS, subS, mulS, divS, modS, powS, negS, cmpS, eqS_int, neS_int, eqS_str, neS_str, isS, lenS, absS, intS, tupS, listS, sumS, allS, gcdS, newL, ixS, slS, truT, itemsOf, lsOf, sqOf, tItA, tItE, tItR1, tItR2, tItZ, List.zip_cons_cons, List.zip_nil_left, List.zip_nil_right, List.foldl_cons, List.foldl_nil, List.getElem?_cons_zero, List.getElem?_cons_succ, List.set_cons_zero, List.set_cons_succ, List.length_cons, List.length_nil, Int.reduceEq, Int.reduceNeg, true_and, false_and, and_true, or_false, false_or, eq_self, T.int.injEq, exists_eq_left, exists_eq_left', setS, appS, upS_same, isLs_own, joinS, minS, zipT, at1, Option.some.injEq, exists_eq_left']
        have le := last_eq hz (by omega : 1 < z)
        rw [if_pos (by simp; omega), if_pos trivial]
        refine ⟨by decide, by rw [List.length_dropLast, iv_len]; show _ ≤ 16777216; omega, ?_⟩
        rw [le]
        exact fin
    · rw [if_pos (by simp [h])]
      have m0 := Int.emod_nonneg x h
      have m1 := Int.emod_lt_of_pos x (by omega : 0 < y)
      rw [cf_pos (by omega)] at hc
      have len2 : done.length + 1 ≤ 100 := by
        rw [hc, List.length_append, List.length_cons] at len; omega
      refine ⟨by omega, pos_ok (by omega) (by omega), by decide, by simp only [iv_len]; show _ ≤ 16777216; omega, by decide, (x % y).toNat, by omega, (hV _ _ _).mpr ⟨y, x % y, done ++ [x / y], hy, m0, by omega, ?_, rfl, rfl, ?_⟩⟩
      · rw [hc]; simp
      · rw [iv_app]; rfl
end LW

namespace LW
open PySem PySem.Spec PyProof.Rows L2 TL M83

def ch (e : Bool) : Nat := if e then 117 else 100
theorem ch_inj {a b : Bool} : ch a = ch b ↔ a = b := by cases a <;> cases b <;> decide
theorem pathS_cps (r : List Int) : (pathS r).cps.toList = (pth true r).map ch := rfl
theorem pathS_len (r : List Int) : (pathS r).length = (pth true r).length := by
  show ((pth true r).map ch).toArray.size = _
  simp
theorem pth_len : ∀ (r : List Int) (e : Bool), (∀ m ∈ r, 0 ≤ m ∧ m ≤ 20) → (pth e r).length ≤ 20 * r.length
  | [], e, _ => by cases e <;> exact Nat.le_refl _
  | m :: r, e, h => by
    have ih := pth_len r (!e) fun k hk => h k (List.mem_cons_of_mem _ hk)
    have hm := h m List.mem_cons_self
    show (List.replicate m.toNat e ++ pth (!e) r).length ≤ _
    rw [List.length_append, List.length_replicate, List.length_cons]
    omega
theorem lcp_le : ∀ (p q : List Bool), (lcp p q).length ≤ p.length ∧ (lcp p q).length ≤ q.length
  | [], q => by cases q <;> exact ⟨Nat.zero_le _, Nat.zero_le _⟩
  | _ :: _, [] => ⟨Nat.zero_le _, Nat.zero_le _⟩
  | a :: p, b :: q => by
    have ih := lcp_le p q
    show (if a = b then a :: lcp p q else []).length ≤ _ ∧ (if a = b then a :: lcp p q else []).length ≤ _
    split
    · simp; omega
    · simp
theorem lcp_step : ∀ (p q : List Bool) (k : Nat), k ≤ (lcp p q).length → k < p.length → k < q.length → (p[k]? = q[k]? ↔ k < (lcp p q).length)
  | [], _, k, _, h, _ => by simp at h
  | _ :: _, [], k, _, _, h => by simp at h
  | a :: p, b :: q, 0, _, _, _ => by
    show some a = some b ↔ 0 < (if a = b then a :: lcp p q else []).length
    by_cases h : a = b
    · rw [if_pos h]; simp [h]
    · rw [if_neg h]; simp [h]
  | a :: p, b :: q, k + 1, h, h1, h2 => by
    have e : lcp (a :: p) (b :: q) = if a = b then a :: lcp p q else [] := rfl
    rw [e] at h ⊢
    by_cases hab : a = b
    · rw [if_pos hab] at h ⊢
      have ih := lcp_step p q k (by simpa using h) (by simpa using h1) (by simpa using h2)
      simpa using ih
    · rw [if_neg hab] at h; simp at h
theorem lcp_take : ∀ (p q : List Bool), p.take (lcp p q).length = lcp p q
  | [], q => by cases q <;> rfl
  | _ :: _, [] => rfl
  | a :: p, b :: q => by
    show (a :: p).take (if a = b then a :: lcp p q else []).length = (if a = b then a :: lcp p q else [])
    split
    · rw [List.length_cons, List.take_succ_cons, lcp_take p q]
    · rfl
/-- same, as far as k -/
theorem loop21a (a0 a1 a2 a3 a4 a5 a6 : Option T) (r s : List Int) (hr : (pathS r).length ≤ sizeLine) (hs : (pathS s).length ≤ sizeLine) (D : Ends2) (M : Store) (n : Nat) (hn : n ≤ (pth true r).length ∧ n ≤ (pth true s).length)
    (q : ∀ z, D.nx [a0, a1, a2, a3, a4, a5, a6, some (.str (pathS r)), some (.str (pathS s)), some (.int ((min (lcp (pth true r) (pth true s)).length n : Nat) : Int)), z, none, none, none, none, none, none, none] M) :
    ∀ (m k : Nat), k + m = n → ∀ (z : Option T), forL (dG Gm g21_0) (dSs Gm b21_0) D (TL.rangeT (k : Nat) m) [a0, a1, a2, a3, a4, a5, a6, some (.str (pathS r)), some (.str (pathS s)), some (.int ((min (lcp (pth true r) (pth true s)).length k : Nat) : Int)), z, none, none, none, none, none, none, none] M
  | 0, k, hk, z => by
    have e : k = n := by omega
    subst e
    exact q z
  | m + 1, k, hk, z => by
    have ih := loop21a a0 a1 a2 a3 a4 a5 a6 r s hr hs D M n hn q m (k + 1) (by omega)
    rw [rangeT_succ]
    have ek : ((k : Nat) : Int) + 1 = ((k + 1 : Nat) : Int) := by omega
    rw [ek]
    obtain ⟨c, hc⟩ : ∃ c, (pth true r)[k]? = some c := ⟨_, List.getElem?_eq_getElem (by omega)⟩
    obtain ⟨d, hd⟩ : ∃ d, (pth true s)[k]? = some d := ⟨_, List.getElem?_eq_getElem (by omega)⟩
    have at1 : atI (pathS r).cps.toList (k : Nat) = some (ch c) := by rw [TL.atI_nat, pathS_cps, List.getElem?_map, hc]; rfl
    have at2 : atI (pathS s).cps.toList (k : Nat) = some (ch d) := by rw [TL.atI_nat, pathS_cps, List.getElem?_map, hd]; rfl
    have stp := lcp_step (pth true r) (pth true s) k
    rw [hc, hd] at stp
    generalize (lcp (pth true r) (pth true s)).length = L at *
    unfold forL
    generalize forL (dG Gm g21_0) (dSs Gm b21_0) D (TL.rangeT ((k + 1 : Nat) : Int) m) = F at ih ⊢
    unfold g21_0 b21_0
    simp (maxSteps := 4000000) only [dSs, dS, dE, dT, dEs, dI, dG, dGs, dO, cond_true, cond_false, opS, cmS, bfS, meS, sSeq, sNext, sPass, sBrk, sCnt, sExpr, sRet, sRet0, sIf, sFor, sAsg, sPar, sNever, tO, tO1, tON, tB2, tCh, tA0, tA1, tTu, tLi, tAn, tOr2, tNo, tIe, tAnT, tOrT, tNoT, tTr, tSlot, TL.tCon, tGlo, conT, tIsi, tCl, tFrz, tSl2, tP0, tP1, tRev, tMeL, tMeS, gSl, gsNil, gsCons, gTu, gSb, Gs.len, addS, subS, mulS, divS, modS, powS, negS, cmpS, eqS_int, neS_int, eqS_str, neS_str, isS, lenS, absS, intS, tupS, listS, sumS, allS, gcdS, newL, ixS, slS, truT, itemsOf, lsOf, sqOf, tItA, tItE, tItR1, tItR2, tItZ, List.zip_cons_cons, List.zip_nil_left, List.zip_nil_right, List.foldl_cons, List.foldl_nil, List.getElem?_cons_zero, List.getElem?_cons_succ, List.set_cons_zero, List.set_cons_succ, List.length_cons, List.length_nil, Int.reduceEq, Int.reduceNeg, true_and, false_and, and_true, or_false, false_or, eq_self, T.int.injEq, exists_eq_left, exists_eq_left', setS, appS, upS_same, isLs_own, joinS, minS, zipT, at1, at2, Option.some.injEq, exists_eq_left', Br_iff]
    have ih := ih (some (.int (k : Nat)))
    by_cases hL : L < k
    · have e1 : decide (((min L k : Nat) : Int) = (k : Nat)) = false := decide_eq_false (by omega)
      rw [e1]
      rw [show min L (k + 1) = min L k by omega] at ih
      simpa using ih
    · have e1 : decide (((min L k : Nat) : Int) = (k : Nat)) = true := decide_eq_true (by omega)
      rw [e1]
      have stp := stp (by omega) (by omega) (by omega)
      have e2 : decide ((⟨#[ch c]⟩ : Str) = ⟨#[ch d]⟩) = decide (k < L) := by
        by_cases h : c = d
        · subst h
          rw [decide_eq_true rfl, decide_eq_true (stp.mp rfl)]
        · rw [decide_eq_false fun z => ?_, decide_eq_false fun z => h (Option.some.inj (stp.mpr z))]
          have z2 : #[ch c] = #[ch d] := congrArg Str.cps z
          have : ch c = ch d := by simpa using z2
          exact h (ch_inj.mp this)
      rw [e2]
      by_cases hk2 : k < L
      · rw [show min L (k + 1) = k + 1 by omega] at ih
        rw [decide_eq_true hk2]
        simp only [if_true]
        exact ⟨hr, hs, ih⟩
      · rw [show min L (k + 1) = min L k by omega] at ih
        rw [decide_eq_false hk2]
        simp only [if_true, Bool.false_eq_true, if_false]
        exact ⟨hr, hs, ih⟩
def fnd (l h : P2) : T := .tup [pr l, pr (md l h), pr h]
theorem loop21b (a0 a1 a5 a6 a7 a8 a9 a10 : Option T) (D : Ends2) (M : Store) : ∀ (p : List Bool) (l h : P2) (b2 b3 b4 z : Option T),
    (∀ b2 b3 b4 z, D.nx [a0, a1, b2, b3, b4, a5, a6, a7, a8, a9, a10, some (fnd (lb l h p).1 (lb l h p).2), z, none, none, none, none, none] M) →
    forL (dG Gm g21_1) (dSs Gm b21_1) D ((p.map ch).map fun c => T.str ⟨#[c]⟩) [a0, a1, b2, b3, b4, a5, a6, a7, a8, a9, a10, some (fnd l h), z, none, none, none, none, none] M
  | [], l, h, b2, b3, b4, z, q => q b2 b3 b4 z
  | e :: p, l, h, b2, b3, b4, z, q => by
    have ih := loop21b a0 a1 a5 a6 a7 a8 a9 a10 D M p
    show forL (dG Gm g21_1) (dSs Gm b21_1) D (.str ⟨#[ch e]⟩ :: (p.map ch).map fun c => T.str ⟨#[c]⟩) _ M
    unfold forL
    generalize forL (dG Gm g21_1) (dSs Gm b21_1) D ((p.map ch).map fun c => T.str ⟨#[c]⟩) = F at ih ⊢
    unfold g21_1 b21_1
    unfold fnd pr md
    simp (maxSteps := 4000000) only [dSs, dS, dE, dT, dEs, dI, dG, dGs, dO, cond_true, cond_false, opS, cmS, bfS, meS, sSeq, sNext, sPass, sBrk, sCnt, sExpr, sRet, sRet0, sIf, sFor, sAsg, sPar, sNever, tO, tO1, tON, tB2, tCh, tA0, tA1, tTu, tLi, tAn, tOr2, tNo, tIe, tAnT, tOrT, tNoT, tTr, tSlot, TL.tCon, tGlo, conT, tIsi, tCl, tFrz, tSl2, tP0, tP1, tRev, tMeL, tMeS, gSl, gsNil, gsCons, gTu, gSb, Gs.len, addS, subS, mulS, divS, modS, powS, negS, cmpS, eqS_int, neS_int, eqS_str, neS_str, isS, lenS, absS, intS, tupS, listS, sumS, allS, gcdS, newL, ixS, slS, truT, itemsOf, lsOf, sqOf, tItA, tItE, tItR1, tItR2, tItZ, List.zip_cons_cons, List.zip_nil_left, List.zip_nil_right, List.foldl_cons, List.foldl_nil, List.getElem?_cons_zero, List.getElem?_cons_succ, List.set_cons_zero, List.set_cons_succ, List.length_cons, List.length_nil, Int.reduceEq, Int.reduceNeg, true_and, false_and, and_true, or_false, false_or, eq_self, T.int.injEq, exists_eq_left, exists_eq_left', setS, appS, upS_same, isLs_own, joinS, minS, zipT, atI_0, atI_1, Option.some.injEq, exists_eq_left', Br_iff]
    have sz2 : 2 ≤ sizeLine := by decide
    have sz3 : 3 ≤ sizeLine := by decide
    cases e with
    | true =>
      have e1 : decide ((⟨#[ch true]⟩ : Str) = Str.ofString "u") = true := by decide +kernel
      rw [e1]
      simp only [if_true]
      refine ⟨sz2, sz3, ?_⟩
      exact ih (l.1 + h.1, l.2 + h.2) h _ _ _ _ q
    | false =>
      have e1 : decide ((⟨#[ch false]⟩ : Str) = Str.ofString "u") = false := by decide +kernel
      rw [e1]
      simp only [Bool.false_eq_true, if_false]
      refine ⟨sz2, sz3, ?_⟩
      have e2 : (l.1 + h.1 + l.1 : Int) = l.1 + (h.1 + l.1) := by omega
      have e3 : (l.2 + h.2 + l.2 : Int) = l.2 + (h.2 + l.2) := by omega
      have e4 : (l.1 + h.1 : Int) = h.1 + l.1 := by omega
      have e5 : (l.2 + h.2 : Int) = h.2 + l.2 := by omega
      rw [e2, e3, e4, e5]
      exact ih l (h.1 + l.1, h.2 + l.2) _ _ _ _ q
end LW

namespace LW
open PySem PySem.Spec PyProof.Rows L2 TL M83

/-- small runs -/
structure Sm (r : List Int) : Prop where
  ru : Ru r
  len : r.length ≤ 7
  b : ∀ m ∈ r, m ≤ 7
theorem sm_le {r : List Int} (h : Sm r) : (vS true r).1 ≤ 2097152 ∧ (vS true r).2 ≤ 2097152 := by
  obtain ⟨a, b⟩ := vS_le r true h.ru.nn h.b
  have e : (8 : Int) ^ r.length ≤ 8 ^ 7 := by
    have := Nat.pow_le_pow_right (by decide : 0 < 8) h.len
    exact_mod_cast this
  have e2 : (8 : Int) ^ 7 = 2097152 := by decide
  omega
theorem sm_of {r : List Int} (h : Sm r) : Of r (vS true r).1 (vS true r).2 := by
  obtain ⟨a, b⟩ := vS_pos r true h.ru.nn
  obtain ⟨c, d⟩ := sm_le h
  have g : GR = 1000000000000000000 := rfl
  exact ⟨⟨a, by omega, b, by omega, vS_gcd r true⟩, h.ru, rfl⟩
theorem sm_fit {r : List Int} (h : Sm r) : Fit r := ⟨h.ru, by have := h.len; omega, fun m hm => by have := h.b m hm; have g : GR = 1000000000000000000 := rfl; omega⟩
theorem eqS_bl {M : Store} {Q : K2} {a b : Bool} : eqS (.bl a) (.bl b) M Q ↔ Q (.bl (a == b)) M := by
  unfold eqS; simp [der, okEq, okT, TL.eqT]
theorem ndn_sm {r : List Int} (h : Ru r) (l : r.length ≤ 6) (b : ∀ m ∈ r, m ≤ 6) : Sm (ndn r) := by
  refine ⟨(ndn_ok h).1, ?_, ?_⟩
  · unfold ndn
    split
    · decide
    · split
      · rw [List.length_append, List.length_dropLast]; simp; omega
      · rw [List.length_append]; simp; omega
  · unfold ndn
    intro m hm
    split at hm
    · simp at hm; omega
    · split at hm
      · rcases List.mem_append.mp hm with hm | hm
        · have := b m ((List.dropLast_sublist r).subset hm); omega
        · have e := List.mem_singleton.mp hm
          cases g : r.getLast? with
          | none => rw [g] at e; simp at e; omega
          | some z =>
            rw [g] at e
            have := b z (List.mem_of_getLast? g)
            simp at e
            omega
      · rcases List.mem_append.mp hm with hm | hm
        · have := b m hm; omega
        · have e := List.mem_singleton.mp hm; omega
theorem take_ru {r : List Int} (h : Ru r) (j : Nat) (z : Int) (hz : 1 ≤ z) : Ru (r.take j ++ [z]) := by
  cases r with
  | nil => rw [List.take_nil]; exact ⟨by omega, fun m hm => (by cases hm), fun e => by omega⟩
  | cons m t =>
    cases j with
    | zero => exact ⟨by omega, fun m hm => (by cases hm), fun e => by omega⟩
    | succ j =>
      show Ru (m :: (t.take j ++ [z]))
      refine ⟨h.1, tl_app (fun k hk => h.2.1 k (List.mem_of_mem_take hk)) (fun k hk => by rw [List.mem_singleton.mp hk]; exact hz), fun _ e => ?_⟩
      simp at e
theorem let_at {r : List Int} {k : Nat} (h : k ≤ (pth true r).length) : ∃ c, atI ((pathS r).cps.toList ++ [109]) (k : Nat) = some c ∧ ((c = 100 ∧ code (pth true r) k = 0) ∨ (c = 109 ∧ code (pth true r) k = 1) ∨ (c = 117 ∧ code (pth true r) k = 2)) := by
  rw [TL.atI_nat, pathS_cps]
  by_cases hk : k < (pth true r).length
  · rw [List.getElem?_append_left (by simpa using hk), List.getElem?_map, List.getElem?_eq_getElem hk]
    refine ⟨_, rfl, ?_⟩
    unfold M83.code
    rw [List.getElem?_eq_getElem hk]
    cases (pth true r)[k] <;> decide
  · have e : k = (pth true r).length := by omega
    rw [List.getElem?_append_right (by simp; omega)]
    refine ⟨109, by simp [e], .inr (.inl ⟨rfl, ?_⟩)⟩
    unfold M83.code
    rw [List.getElem?_eq_none (by omega)]
theorem six_at {c : Nat} {k : Int} {M : Store} {Q : K2} (h : (c = 100 ∧ k = 0) ∨ (c = 109 ∧ k = 1) ∨ (c = 117 ∧ k = 2)) (q : Q (.int k) M) : sixS (.str "dmu") [.str ⟨#[c]⟩] M Q := by
  unfold sixS
  dsimp only
  rcases h with ⟨rfl, rfl⟩ | ⟨rfl, rfl⟩ | ⟨rfl, rfl⟩
  · have e : Builtin.Str.occurrences "dmu" ⟨#[100]⟩ 0 (Str.length "dmu") 1 = [0] := by decide +kernel
    rw [e]; exact q
  · have e : Builtin.Str.occurrences "dmu" ⟨#[109]⟩ 0 (Str.length "dmu") 1 = [1] := by decide +kernel
    rw [e]; exact q
  · have e : Builtin.Str.occurrences "dmu" ⟨#[117]⟩ 0 (Str.length "dmu") 1 = [2] := by decide +kernel
    rw [e]; exact q
theorem tail21 (p : Addr) (r s : List Int) (sm : Sm r) (sms : Sm s) (a2 a3 a4 a5 : Option T) (M : Store) (Q : K2) (E : EK) (q : Q (.bl true) M) :
    dSs Gm t21_7 (rtEnds Q E) [some (.loc p), some (.tup (iv r)), a2, a3, a4, a5, some (pr (vS true s)), none, none, none, none, none, none, none, none, none, none, none] M := by
  have gv : GR = 1000000000000000000 := rfl
  have of := sm_of sm
  have ofs := sm_of sms
  have b20 : ∀ {r : List Int}, Sm r → r.length ≤ 20 ∧ ∀ m ∈ r, 0 ≤ m ∧ m ≤ 20 := fun {r} h => ⟨by have := h.len; omega, fun m hm => ⟨h.ru.nn m hm, by have := h.b m hm; omega⟩⟩
  obtain ⟨b1, b2⟩ := sm_le sm
  obtain ⟨b3, b4⟩ := sm_le sms
  obtain ⟨p1, p2⟩ := vS_pos r true sm.ru.nn
  obtain ⟨p3, p4⟩ := vS_pos s true sms.ru.nn
  have lr := pth_len r true (b20 sm).2
  have ls := pth_len s true (b20 sms).2
  have lr1 : (pathS r).length ≤ 140 := by rw [pathS_len]; have := sm.len; omega
  have ls1 : (pathS s).length ≤ 140 := by rw [pathS_len]; have := sms.len; omega
  have zr : (pathS r).length ≤ sizeLine := by show _ ≤ 16777216; omega
  have zs : (pathS s).length ≤ sizeLine := by show _ ≤ 16777216; omega
  have ord := order (pth true r) (pth true s)
  obtain ⟨L, hL⟩ : ∃ L, L = (lcp (pth true r) (pth true s)).length := ⟨_, rfl⟩
  obtain ⟨l1, l2⟩ := lcp_le (pth true r) (pth true s)
  have lt := lcp_take (pth true r) (pth true s)
  have lm := lcp_pth r s true sm.ru.hd sms.ru.hd
  have vr := vS_lv r true sm.ru.nn
  have vs := vS_lv s true sms.ru.nn
  rw [← vr, ← vs] at ord
  have lb := lb0 (lcp (pth true r) (pth true s))
  have vm := vS_lv (mins r s) true (mins_nn r s sm.ru.nn sms.ru.nn)
  rw [← lm] at vm
  rw [← vm] at lb
  rw [← hL] at l1 l2 lt ord
  obtain ⟨a, ha⟩ : ∃ a, a = (vS true r).1 := ⟨_, rfl⟩
  obtain ⟨b, hb⟩ : ∃ b, b = (vS true r).2 := ⟨_, rfl⟩
  obtain ⟨c, hc⟩ : ∃ c, c = (vS true s).1 := ⟨_, rfl⟩
  obtain ⟨d, hd⟩ : ∃ d, d = (vS true s).2 := ⟨_, rfl⟩
  have er : vS true r = (a, b) := by rw [ha, hb]
  have es : vS true s = (c, d) := by rw [hc, hd]
  rw [er] at of b1 b2 p1 p2 ord
  rw [es] at ofs b3 b4 p3 p4 ord
  dsimp only at of ofs b1 b2 b3 b4 p1 p2 p3 p4
  rw [es]
  unfold pr
  unfold t21_7
  simp (maxSteps := 4000000) only [dSs, dS, dE, dT, dEs, dI, dG, dGs, dO, cond_true, cond_false, opS, cmS, bfS, meS, sSeq, sNext, sPass, sBrk, sCnt, sExpr, sRet, sRet0, sIf, sFor, sAsg, sPar, sNever, tO, tO1, tON, tB2, tCh, tA0, tA1, tTu, tLi, tAn, tOr2, tNo, tIe, tAnT, tOrT, tNoT, tTr, tSlot, TL.tCon, tGlo, conT, tIsi, tCl, tFrz, tSl2, tP0, tP1, tRev, tMeL, tMeS, gSl, gsNil, gsCons, gTu, gSb, Gs.len, addS, subS, mulS, divS, modS, powS, negS, cmpS, eqS_int, neS_int, eqS_str, neS_str, isS, lenS, absS, intS, tupS, listS, sumS, allS, gcdS, newL, ixS, slS, truT, itemsOf, lsOf, sqOf, tItA, tItE, tItR1, tItR2, tItZ, List.zip_cons_cons, List.zip_nil_left, List.zip_nil_right, List.foldl_cons, List.foldl_nil, List.getElem?_cons_zero, List.getElem?_cons_succ, List.set_cons_zero, List.set_cons_succ, List.length_cons, List.length_nil, Int.reduceEq, Int.reduceNeg, true_and, false_and, and_true, or_false, false_or, eq_self, T.int.injEq, exists_eq_left, exists_eq_left', setS, appS, upS_same, isLs_own, joinS, minS, zipT, gcon, conts, c17, c6]
  refine ⟨r, rfl, b20 sm, s, ofs, s, rfl, b20 sms, ?_⟩
  unfold t21_8
  simp (maxSteps := 4000000) only [dSs, dS, dE, dT, dEs, dI, dG, dGs, dO, cond_true, cond_false, opS, cmS, bfS, meS, sSeq, sNext, sPass, sBrk, sCnt, sExpr, sRet, sRet0, sIf, sFor, sAsg, sPar, sNever, tO, tO1, tON, tB2, tCh, tA0, tA1, tTu, tLi, tAn, tOr2, tNo, tIe, tAnT, tOrT, tNoT, tTr, tSlot, TL.tCon, tGlo, conT, tIsi, tCl, tFrz, tSl2, tP0, tP1, tRev, tMeL, tMeS, gSl, gsNil, gsCons, gTu, gSb, Gs.len, addS, subS, mulS, divS, modS, powS, negS, cmpS, eqS_int, neS_int, eqS_str, neS_str, isS, lenS, absS, intS, tupS, listS, sumS, allS, gcdS, newL, ixS, slS, truT, itemsOf, lsOf, sqOf, tItA, tItE, tItR1, tItR2, tItZ, List.zip_cons_cons, List.zip_nil_left, List.zip_nil_right, List.foldl_cons, List.foldl_nil, List.getElem?_cons_zero, List.getElem?_cons_succ, List.set_cons_zero, List.set_cons_succ, List.length_cons, List.length_nil, Int.reduceEq, Int.reduceNeg, true_and, false_and, and_true, or_false, false_or, eq_self, T.int.injEq, exists_eq_left, exists_eq_left', setS, appS, upS_same, isLs_own, joinS, minS, zipT]
  refine ⟨zr, zs, ?_⟩
  have mn : (if ((pathS s).length : Int) < ((pathS r).length : Nat) then (((pathS s).length : Nat) : Int) else (((pathS r).length : Nat) : Int)) = ((min (pathS r).length (pathS s).length : Nat) : Int) := by
    split <;> omega
  rw [mn, Int.toNat_natCast]
  refine ⟨⟨by omega, by omega⟩, ?_⟩
  have st : T.int 0 = T.int ((min (lcp (pth true r) (pth true s)).length 0 : Nat) : Int) := by rw [Nat.min_zero]; rfl
  rw [st]
  refine loop21a (some (.loc p)) (some (.tup (iv r))) a2 a3 a4 a5 (some (.tup [.int c, .int d])) r s zr zs _ M (min (pathS r).length (pathS s).length) (by rw [pathS_len, pathS_len]; omega) (fun z => ?_) _ 0 (by omega) none
  rw [← hL, show min L (min (pathS r).length (pathS s).length) = L by rw [pathS_len, pathS_len]; omega]
  unfold t21_9
  simp (maxSteps := 4000000) only [dSs, dS, dE, dT, dEs, dI, dG, dGs, dO, cond_true, cond_false, opS, cmS, bfS, meS, sSeq, sNext, sPass, sBrk, sCnt, sExpr, sRet, sRet0, sIf, sFor, sAsg, sPar, sNever, tO, tO1, tON, tB2, tCh, tA0, tA1, tTu, tLi, tAn, tOr2, tNo, tIe, tAnT, tOrT, tNoT, tTr, tSlot, TL.tCon, tGlo, conT, tIsi, tCl, tFrz, tSl2, tP0, tP1, tRev, tMeL, tMeS, gSl, gsNil, gsCons, gTu, gSb, Gs.len, addS, subS, mulS, divS, modS, powS, negS, cmpS, eqS_int, neS_int, eqS_str, neS_str, isS, lenS, absS, intS, tupS, listS, sumS, allS, gcdS, newL, ixS, slS, truT, itemsOf, lsOf, sqOf, tItA, tItE, tItR1, tItR2, tItZ, List.zip_cons_cons, List.zip_nil_left, List.zip_nil_right, List.foldl_cons, List.foldl_nil, List.getElem?_cons_zero, List.getElem?_cons_succ, List.set_cons_zero, List.set_cons_succ, List.length_cons, List.length_nil, Int.reduceEq, Int.reduceNeg, true_and, false_and, and_true, or_false, false_or, eq_self, T.int.injEq, exists_eq_left, exists_eq_left', setS, appS, upS_same, isLs_own, joinS, minS, zipT]
  have sz2 : 2 ≤ sizeLine := by decide
  have sz3 : 3 ≤ sizeLine := by decide
  refine ⟨sz2, sz2, sz2, sz3, ?_⟩
  unfold t21_10
  simp (maxSteps := 4000000) only [dSs, dS, dE, dT, dEs, dI, dG, dGs, dO, cond_true, cond_false, opS, cmS, bfS, meS, sSeq, sNext, sPass, sBrk, sCnt, sExpr, sRet, sRet0, sIf, sFor, sAsg, sPar, sNever, tO, tO1, tON, tB2, tCh, tA0, tA1, tTu, tLi, tAn, tOr2, tNo, tIe, tAnT, tOrT, tNoT, tTr, tSlot, TL.tCon, tGlo, conT, tIsi, tCl, tFrz, tSl2, tP0, tP1, tRev, tMeL, tMeS, gSl, gsNil, gsCons, gTu, gSb, Gs.len, addS, subS, mulS, divS, modS, powS, negS, cmpS, eqS_int, neS_int, eqS_str, neS_str, isS, lenS, absS, intS, tupS, listS, sumS, allS, gcdS, newL, ixS, slS, truT, itemsOf, lsOf, sqOf, tItA, tItE, tItR1, tItR2, tItZ, List.zip_cons_cons, List.zip_nil_left, List.zip_nil_right, List.foldl_cons, List.foldl_nil, List.getElem?_cons_zero, List.getElem?_cons_succ, List.set_cons_zero, List.set_cons_succ, List.length_cons, List.length_nil, Int.reduceEq, Int.reduceNeg, true_and, false_and, and_true, or_false, false_or, eq_self, T.int.injEq, exists_eq_left, exists_eq_left', setS, appS, upS_same, isLs_own, joinS, minS, zipT]
  refine ⟨zr, ?_⟩
  rw [cut_to (by omega), Int.toNat_natCast, pathS_cps]
  have it : ((List.take L ((pth true r).map ch)).toArray.toList.map fun c => T.str ⟨#[c]⟩) = ((lcp (pth true r) (pth true s)).map ch).map fun c => T.str ⟨#[c]⟩ := by
    rw [← List.map_take, lt]
  rw [it]
  refine loop21b _ _ _ _ _ _ _ _ _ M (lcp (pth true r) (pth true s)) L0 H0 _ _ _ _ (fun b2 b3 b4 z => ?_)
  generalize M83.lb L0 H0 (lcp (pth true r) (pth true s)) = P at lb ⊢
  have fd : fnd P.1 P.2 = .tup [pr P.1, pr (vS true (mins r s)), pr P.2] := by
    unfold fnd
    congr 3
    unfold md
    rw [lb.1, lb.2]
  rw [fd]
  unfold t21_11
  simp (maxSteps := 4000000) only [dSs, dS, dE, dT, dEs, dI, dG, dGs, dO, cond_true, cond_false, opS, cmS, bfS, meS, sSeq, sNext, sPass, sBrk, sCnt, sExpr, sRet, sRet0, sIf, sFor, sAsg, sPar, sNever, tO, tO1, tON, tB2, tCh, tA0, tA1, tTu, tLi, tAn, tOr2, tNo, tIe, tAnT, tOrT, tNoT, tTr, tSlot, TL.tCon, tGlo, conT, tIsi, tCl, tFrz, tSl2, tP0, tP1, tRev, tMeL, tMeS, gSl, gsNil, gsCons, gTu, gSb, Gs.len, addS, subS, mulS, divS, modS, powS, negS, cmpS, eqS_int, neS_int, eqS_str, neS_str, isS, lenS, absS, intS, tupS, listS, sumS, allS, gcdS, newL, ixS, slS, truT, itemsOf, lsOf, sqOf, tItA, tItE, tItR1, tItR2, tItZ, List.zip_cons_cons, List.zip_nil_left, List.zip_nil_right, List.foldl_cons, List.foldl_nil, List.getElem?_cons_zero, List.getElem?_cons_succ, List.set_cons_zero, List.set_cons_succ, List.length_cons, List.length_nil, Int.reduceEq, Int.reduceNeg, true_and, false_and, and_true, or_false, false_or, eq_self, T.int.injEq, exists_eq_left, exists_eq_left', setS, appS, upS_same, isLs_own, joinS, minS, zipT, gcon, conts, c11]
  refine ⟨r, rfl, sm_fit sm, ?_⟩
  rw [er]
  unfold t21_12
  have at1 : atI [pr P.1, pr (vS true (mins r s)), pr P.2] 1 = some (pr (vS true (mins r s))) := by rw [atI_1]; rfl
  unfold pr at at1 ⊢
  simp (maxSteps := 4000000) only [dSs, dS, dE, dT, dEs, dI, dG, dGs, dO, cond_true, cond_false, opS, cmS, bfS, meS, sSeq, sNext, sPass, sBrk, sCnt, sExpr, sRet, sRet0, sIf, sFor, sAsg, sPar, sNever, tO, tO1, tON, tB2, tCh, tA0, tA1, tTu, tLi, tAn, tOr2, tNo, tIe, tAnT, tOrT, tNoT, tTr, tSlot, TL.tCon, tGlo, conT, tIsi, tCl, tFrz, tSl2, tP0, tP1, tRev, tMeL, tMeS, gSl, gsNil, gsCons, gTu, gSb, Gs.len, addS, subS, mulS, divS, modS, powS, negS, cmpS, eqS_int, neS_int, eqS_str, neS_str, isS, lenS, absS, intS, tupS, listS, sumS, allS, gcdS, newL, ixS, slS, truT, itemsOf, lsOf, sqOf, tItA, tItE, tItR1, tItR2, tItZ, List.zip_cons_cons, List.zip_nil_left, List.zip_nil_right, List.foldl_cons, List.foldl_nil, List.getElem?_cons_zero, List.getElem?_cons_succ, List.set_cons_zero, List.set_cons_succ, List.length_cons, List.length_nil, Int.reduceEq, Int.reduceNeg, true_and, false_and, and_true, or_false, false_or, eq_self, T.int.injEq, exists_eq_left, exists_eq_left', setS, appS, upS_same, isLs_own, joinS, minS, zipT, gcon, conts, c20, Br_iff, at1, Option.some.injEq, exists_eq_left']
  have mnn := mins_nn r s sm.ru.nn sms.ru.nn
  obtain ⟨w1, w2⟩ := vS_le (mins r s) true mnn (mins_b r s sm.b)
  obtain ⟨w3, w4⟩ := vS_pos (mins r s) true mnn
  have w5 : (8 : Int) ^ (mins r s).length ≤ 8 ^ 7 := by
    have h1 := mins_len r s
    have h2 := sm.len
    have := Nat.pow_le_pow_right (by decide : 0 < 8) (show (mins r s).length ≤ 7 by omega)
    exact_mod_cast this
  have w6 : (8 : Int) ^ 7 = 2097152 := by decide
  have okm : okR 60 (pr (vS true (mins r s))) = true ∧ sz (pr (vS true (mins r s))) ≤ 240000 := ⟨okR_pr ⟨by omega, by omega, by omega, by omega⟩, by simp [pr, sz, szs]⟩
  refine ⟨r, s, of, ofs, repr_s rfl okm.1 okm.2 (repr_s rfl okm.1 okm.2 (ne_same ?_))⟩
  dsimp only
  rw [if_neg Bool.false_ne_true]
  refine ⟨s, r, ofs, of, ?_⟩
  rw [mins_comm s r]
  refine neS_same (by simp [pr, der, okT, okTs]) ?_
  dsimp only
  rw [if_neg Bool.false_ne_true]
  have m109 : (Str.ofString "m").cps = #[109] := by decide +kernel
  have cm : ∀ x : Str, (x ++ Str.ofString "m").cps.toList = x.cps.toList ++ [109] := fun x => by
    show (x.cps ++ (Str.ofString "m").cps).toList = _
    rw [m109]; simp
  have lm1 : ∀ x : Str, (x ++ Str.ofString "m").length = x.length + 1 := fun x => by
    show (x.cps ++ (Str.ofString "m").cps).size = _
    rw [m109]; simp; rfl
  have l1m : (Str.ofString "m").length = 1 := by show (Str.ofString "m").cps.size = 1; rw [m109]; rfl
  obtain ⟨x1, hx1, hx2⟩ := let_at l1
  obtain ⟨y1, hy1, hy2⟩ := let_at l2
  unfold t21_13
  simp (maxSteps := 4000000) only [dSs, dS, dE, dT, dEs, dI, dG, dGs, dO, cond_true, cond_false, opS, cmS, bfS, meS, sSeq, sNext, sPass, sBrk, sCnt, sExpr, sRet, sRet0, sIf, sFor, sAsg, sPar, sNever, tO, tO1, tON, tB2, tCh, tA0, tA1, tTu, tLi, tAn, tOr2, tNo, tIe, tAnT, tOrT, tNoT, tTr, tSlot, TL.tCon, tGlo, conT, tIsi, tCl, tFrz, tSl2, tP0, tP1, tRev, tMeL, tMeS, gSl, gsNil, gsCons, gTu, gSb, Gs.len, addS, subS, mulS, divS, modS, powS, negS, cmpS, eqS_int, neS_int, eqS_str, neS_str, isS, lenS, absS, intS, tupS, listS, sumS, allS, gcdS, newL, ixS, slS, truT, itemsOf, lsOf, sqOf, tItA, tItE, tItR1, tItR2, tItZ, List.zip_cons_cons, List.zip_nil_left, List.zip_nil_right, List.foldl_cons, List.foldl_nil, List.getElem?_cons_zero, List.getElem?_cons_succ, List.set_cons_zero, List.set_cons_succ, List.length_cons, List.length_nil, Int.reduceEq, Int.reduceNeg, true_and, false_and, and_true, or_false, false_or, eq_self, T.int.injEq, exists_eq_left, exists_eq_left', setS, appS, upS_same, isLs_own, joinS, minS, zipT, cm, hx1, hy1, Option.some.injEq, exists_eq_left', lm1, l1m]
  have z1 : (pathS r).length + 1 ≤ sizeLine := by show _ ≤ 16777216; omega
  have z2 : (pathS s).length + 1 ≤ sizeLine := by show _ ≤ 16777216; omega
  refine ⟨z1, z1, z2, z2, ?_⟩
  generalize M83.code (pth true r) L = k1 at hx2 ord
  generalize M83.code (pth true s) L = k2 at hy2 ord
  unfold t21_14
  simp (maxSteps := 4000000) only [dSs, dS, dE, dT, dEs, dI, dG, dGs, dO, cond_true, cond_false, opS, cmS, bfS, meS, sSeq, sNext, sPass, sBrk, sCnt, sExpr, sRet, sRet0, sIf, sFor, sAsg, sPar, sNever, tO, tO1, tON, tB2, tCh, tA0, tA1, tTu, tLi, tAn, tOr2, tNo, tIe, tAnT, tOrT, tNoT, tTr, tSlot, TL.tCon, tGlo, conT, tIsi, tCl, tFrz, tSl2, tP0, tP1, tRev, tMeL, tMeS, gSl, gsNil, gsCons, gTu, gSb, Gs.len, addS, subS, mulS, divS, modS, powS, negS, cmpS, eqS_int, neS_int, eqS_str, neS_str, isS, lenS, absS, intS, tupS, listS, sumS, allS, gcdS, newL, ixS, slS, truT, itemsOf, lsOf, sqOf, tItA, tItE, tItR1, tItR2, tItZ, List.zip_cons_cons, List.zip_nil_left, List.zip_nil_right, List.foldl_cons, List.foldl_nil, List.getElem?_cons_zero, List.getElem?_cons_succ, List.set_cons_zero, List.set_cons_succ, List.length_cons, List.length_nil, Int.reduceEq, Int.reduceNeg, true_and, false_and, and_true, or_false, false_or, eq_self, T.int.injEq, exists_eq_left, exists_eq_left', setS, appS, upS_same, isLs_own, joinS, minS, zipT]
  refine ⟨⟨_, rfl⟩, six_at hx2 ⟨⟨_, rfl⟩, six_at hy2 ?_⟩⟩
  dsimp only
  unfold t21_15
  simp (maxSteps := 4000000) only [dSs, dS, dE, dT, dEs, dI, dG, dGs, dO, cond_true, cond_false, opS, cmS, bfS, meS, sSeq, sNext, sPass, sBrk, sCnt, sExpr, sRet, sRet0, sIf, sFor, sAsg, sPar, sNever, tO, tO1, tON, tB2, tCh, tA0, tA1, tTu, tLi, tAn, tOr2, tNo, tIe, tAnT, tOrT, tNoT, tTr, tSlot, TL.tCon, tGlo, conT, tIsi, tCl, tFrz, tSl2, tP0, tP1, tRev, tMeL, tMeS, gSl, gsNil, gsCons, gTu, gSb, Gs.len, addS, subS, mulS, divS, modS, powS, negS, cmpS, eqS_int, neS_int, eqS_str, neS_str, isS, lenS, absS, intS, tupS, listS, sumS, allS, gcdS, newL, ixS, slS, truT, itemsOf, lsOf, sqOf, tItA, tItE, tItR1, tItR2, tItZ, List.zip_cons_cons, List.zip_nil_left, List.zip_nil_right, List.foldl_cons, List.foldl_nil, List.getElem?_cons_zero, List.getElem?_cons_succ, List.set_cons_zero, List.set_cons_succ, List.length_cons, List.length_nil, Int.reduceEq, Int.reduceNeg, true_and, false_and, and_true, or_false, false_or, eq_self, T.int.injEq, exists_eq_left, exists_eq_left', setS, appS, upS_same, isLs_own, joinS, minS, zipT, atI_0, atI_1, Option.some.injEq, exists_eq_left']
  refine ⟨mul_l (by omega) (by omega), mul_l (by omega) (by omega), ?_⟩
  unfold t21_16
  simp (maxSteps := 4000000) only [dSs, dS, dE, dT, dEs, dI, dG, dGs, dO, cond_true, cond_false, opS, cmS, bfS, meS, sSeq, sNext, sPass, sBrk, sCnt, sExpr, sRet, sRet0, sIf, sFor, sAsg, sPar, sNever, tO, tO1, tON, tB2, tCh, tA0, tA1, tTu, tLi, tAn, tOr2, tNo, tIe, tAnT, tOrT, tNoT, tTr, tSlot, TL.tCon, tGlo, conT, tIsi, tCl, tFrz, tSl2, tP0, tP1, tRev, tMeL, tMeS, gSl, gsNil, gsCons, gTu, gSb, Gs.len, addS, subS, mulS, divS, modS, powS, negS, cmpS, eqS_int, neS_int, eqS_str, neS_str, isS, lenS, absS, intS, tupS, listS, sumS, allS, gcdS, newL, ixS, slS, truT, itemsOf, lsOf, sqOf, tItA, tItE, tItR1, tItR2, tItZ, List.zip_cons_cons, List.zip_nil_left, List.zip_nil_right, List.foldl_cons, List.foldl_nil, List.getElem?_cons_zero, List.getElem?_cons_succ, List.set_cons_zero, List.set_cons_succ, List.length_cons, List.length_nil, Int.reduceEq, Int.reduceNeg, true_and, false_and, and_true, or_false, false_or, eq_self, T.int.injEq, exists_eq_left, exists_eq_left', setS, appS, upS_same, isLs_own, joinS, minS, zipT, eqS_bl, Br_iff]
  have cr : cross (a, b) (c, d) = a * d - c * b := rfl
  rw [cr] at ord
  generalize a * d - c * b = w at ord ⊢
  have d1 : decide (k1 - k2 < 0) = decide (w < 0) := by
    by_cases h : w < 0
    · rw [decide_eq_true h, decide_eq_true (by have := ord.1.mpr h; omega)]
    · rw [decide_eq_false h, decide_eq_false (fun z => h (ord.1.mp (by omega)))]
  have d2 : decide (k1 - k2 = 0) = decide (w = 0) := by
    by_cases h : w = 0
    · rw [decide_eq_true h, decide_eq_true (by have := ord.2.mpr h; omega)]
    · rw [decide_eq_false h, decide_eq_false (fun z => h (ord.2.mp (by omega)))]
  rw [d1, d2]
  simp only [BEq.rfl, if_true]
  exact rt_ok q
end LW

namespace LW
open PySem PySem.Spec PyProof.Rows L2 TL M83

theorem pf21 : Pf 21 ss21 ns21 := fun ts M Q E h => by
  match ts, h with
  | [.loc p], ⟨hp, q⟩ =>
    show dSs Gm ss21 (rtEnds Q E) [some (.loc p), none, none, none, none, none, none, none, none, none, none, none, none, none, none, none, none, none] M
    have sz2 : 2 ≤ sizeLine := by decide
    have gv : GR = 1000000000000000000 := rfl
    unfold ss21
    simp (maxSteps := 4000000) only [dSs, dS, dE, dT, dEs, dI, dG, dGs, dO, cond_true, cond_false, opS, cmS, bfS, meS, sSeq, sNext, sPass, sBrk, sCnt, sExpr, sRet, sRet0, sIf, sFor, sAsg, sPar, sNever, tO, tO1, tON, tB2, tCh, tA0, tA1, tTu, tLi, tAn, tOr2, tNo, tIe, tAnT, tOrT, tNoT, tTr, tSlot, TL.tCon, tGlo, conT, tIsi, tCl, tFrz, tSl2, tP0, tP1, tRev, tMeL, tMeS, gSl, gsNil, gsCons, gTu, gSb, Gs.len, addS, subS, mulS, divS, modS, powS, negS, cmpS, eqS_int, neS_int, eqS_str, neS_str, isS, lenS, absS, intS, tupS, listS, sumS, allS, gcdS, newL, ixS, slS, truT, itemsOf, lsOf, sqOf, tItA, tItE, tItR1, tItR2, tItZ, List.zip_cons_cons, List.zip_nil_left, List.zip_nil_right, List.foldl_cons, List.foldl_nil, List.getElem?_cons_zero, List.getElem?_cons_succ, List.set_cons_zero, List.set_cons_succ, List.length_cons, List.length_nil, Int.reduceEq, Int.reduceNeg, true_and, false_and, and_true, or_false, false_or, eq_self, T.int.injEq, exists_eq_left, exists_eq_left', setS, appS, upS_same, isLs_own, joinS, minS, zipT, gcon, conts, c14]
    refine ⟨hp, fun r ru rl rb => ?_⟩
    have sm : Sm r := ⟨ru, by omega, fun m hm => by have := rb m hm; omega⟩
    have of := sm_of sm
    obtain ⟨b1, b2⟩ := sm_le sm
    obtain ⟨p1, p2⟩ := vS_pos r true ru.nn
    have sb := vS_sum r true ru.nn
    have s0 := sum_nn r ru.nn
    have io : intsOf (iv r) = some r := intsOf_map r
    obtain ⟨n1, n2, n3, n4⟩ := bnd0_nn ru.nn
    obtain ⟨m1, m2⟩ := mid0 r
    obtain ⟨nr, nv1, nv2⟩ := ndn_ok ru
    have nsm := ndn_sm ru rl rb
    have nof := sm_of nsm
    rw [nv1, nv2] at nof
    unfold t21_1
    simp (maxSteps := 4000000) only [dSs, dS, dE, dT, dEs, dI, dG, dGs, dO, cond_true, cond_false, opS, cmS, bfS, meS, sSeq, sNext, sPass, sBrk, sCnt, sExpr, sRet, sRet0, sIf, sFor, sAsg, sPar, sNever, tO, tO1, tON, tB2, tCh, tA0, tA1, tTu, tLi, tAn, tOr2, tNo, tIe, tAnT, tOrT, tNoT, tTr, tSlot, TL.tCon, tGlo, conT, tIsi, tCl, tFrz, tSl2, tP0, tP1, tRev, tMeL, tMeS, gSl, gsNil, gsCons, gTu, gSb, Gs.len, addS, subS, mulS, divS, modS, powS, negS, cmpS, eqS_int, neS_int, eqS_str, neS_str, isS, lenS, absS, intS, tupS, listS, sumS, allS, gcdS, newL, ixS, slS, truT, itemsOf, lsOf, sqOf, tItA, tItE, tItR1, tItR2, tItZ, List.zip_cons_cons, List.zip_nil_left, List.zip_nil_right, List.foldl_cons, List.foldl_nil, List.getElem?_cons_zero, List.getElem?_cons_succ, List.set_cons_zero, List.set_cons_succ, List.length_cons, List.length_nil, Int.reduceEq, Int.reduceNeg, true_and, false_and, and_true, or_false, false_or, eq_self, T.int.injEq, exists_eq_left, exists_eq_left', setS, appS, upS_same, isLs_own, joinS, minS, zipT, gcon, conts, c12]
    refine ⟨r, rfl, ⟨by omega, fun m hm => ⟨ru.nn m hm, by have := rb m hm; omega⟩⟩, ?_⟩
    obtain ⟨a, ha⟩ : ∃ a, a = (vS true r).1 := ⟨_, rfl⟩
    obtain ⟨b, hb⟩ : ∃ b, b = (vS true r).2 := ⟨_, rfl⟩
    rw [← ha, ← hb] at of
    rw [← ha] at b1 p1 m1 sb nof
    rw [← hb] at b2 p2 m2 sb nof
    have ev : vS true r = (a, b) := by rw [ha, hb]
    have isl : isSl (.tup [.int a, .int b]) = true := by
      have g : Nat.gcd a.natAbs b.natAbs = 1 := of.s.g
      have w : ∀ x : Int, 1 ≤ x → x ≤ GR → isWh (.int x) 1 GR = true := fun x h1 h2 => by
        show (decide (1 ≤ x) && decide (x ≤ GR)) = true
        rw [decide_eq_true h1, decide_eq_true h2]; rfl
      rw [isSl_ints, w a of.s.a1 of.s.a2, w b of.s.b1 of.s.b2, decide_eq_true g]; rfl
    rw [ev]
    generalize hP : bnd true L0 H0 r = P at *
    -- told
    unfold t21_2
    simp (maxSteps := 4000000) only [dSs, dS, dE, dT, dEs, dI, dG, dGs, dO, cond_true, cond_false, opS, cmS, bfS, meS, sSeq, sNext, sPass, sBrk, sCnt, sExpr, sRet, sRet0, sIf, sFor, sAsg, sPar, sNever, tO, tO1, tON, tB2, tCh, tA0, tA1, tTu, tLi, tAn, tOr2, tNo, tIe, tAnT, tOrT, tNoT, tTr, tSlot, TL.tCon, tGlo, conT, tIsi, tCl, tFrz, tSl2, tP0, tP1, tRev, tMeL, tMeS, gSl, gsNil, gsCons, gTu, gSb, Gs.len, addS, subS, mulS, divS, modS, powS, negS, cmpS, eqS_int, neS_int, eqS_str, neS_str, isS, lenS, absS, intS, tupS, listS, sumS, allS, gcdS, newL, ixS, slS, truT, itemsOf, lsOf, sqOf, tItA, tItE, tItR1, tItR2, tItZ, List.zip_cons_cons, List.zip_nil_left, List.zip_nil_right, List.foldl_cons, List.foldl_nil, List.getElem?_cons_zero, List.getElem?_cons_succ, List.set_cons_zero, List.set_cons_succ, List.length_cons, List.length_nil, Int.reduceEq, Int.reduceNeg, true_and, false_and, and_true, or_false, false_or, eq_self, T.int.injEq, exists_eq_left, exists_eq_left', setS, appS, upS_same, isLs_own, joinS, minS, zipT, gcon, conts, c11, c6, c15, c16, c4]
    refine ⟨r, rfl, sm_fit sm, ?_⟩
    rw [ev]
    unfold pr
    simp (maxSteps := 4000000) only [dSs, dS, dE, dT, dEs, dI, dG, dGs, dO, cond_true, cond_false, opS, cmS, bfS, meS, sSeq, sNext, sPass, sBrk, sCnt, sExpr, sRet, sRet0, sIf, sFor, sAsg, sPar, sNever, tO, tO1, tON, tB2, tCh, tA0, tA1, tTu, tLi, tAn, tOr2, tNo, tIe, tAnT, tOrT, tNoT, tTr, tSlot, TL.tCon, tGlo, conT, tIsi, tCl, tFrz, tSl2, tP0, tP1, tRev, tMeL, tMeS, gSl, gsNil, gsCons, gTu, gSb, Gs.len, addS, subS, mulS, divS, modS, powS, negS, cmpS, eqS_int, neS_int, eqS_str, neS_str, isS, lenS, absS, intS, tupS, listS, sumS, allS, gcdS, newL, ixS, slS, truT, itemsOf, lsOf, sqOf, tItA, tItE, tItR1, tItR2, tItZ, List.zip_cons_cons, List.zip_nil_left, List.zip_nil_right, List.foldl_cons, List.foldl_nil, List.getElem?_cons_zero, List.getElem?_cons_succ, List.set_cons_zero, List.set_cons_succ, List.length_cons, List.length_nil, Int.reduceEq, Int.reduceNeg, true_and, false_and, and_true, or_false, false_or, eq_self, T.int.injEq, exists_eq_left, exists_eq_left', setS, appS, upS_same, isLs_own, joinS, minS, zipT]
    refine ⟨r, of, r, of, r, of, ?_⟩
    rw [hP]
    refine ⟨⟨by simp [goodT, simpleT, isiT], by simp [simpleT, isiT]⟩, by decide, ?_⟩
    rw [isl]
    -- as they are told
    have lh : 0 ≤ P.1.1 ∧ P.1.1 ≤ a ∧ 0 ≤ P.1.2 ∧ P.1.2 ≤ b ∧ 0 ≤ P.2.1 ∧ P.2.1 ≤ a ∧ 0 ≤ P.2.2 ∧ P.2.2 ≤ b := by omega
    have ok1 : okR 60 (.tup [.tup [.int a, .int b], .tup (iv r), .int r.sum, .tup [.tup [.int P.1.1, .int P.1.2], .tup [.int P.2.1, .int P.2.2]], .bl true]) = true ∧ sz (.tup [.tup [.int a, .int b], .tup (iv r), .int r.sum, .tup [.tup [.int P.1.1, .int P.1.2], .tup [.int P.2.1, .int P.2.2]], .bl true]) ≤ 240000 := by
      have h1 : okRs 58 (iv r) = true := okRs_all fun t ht => by
        obtain ⟨m, hm, rfl⟩ := List.mem_map.mp ht
        have := ru.nn m hm
        have := rb m hm
        exact okR_int (by omega)
      have h2 := szs_le (k := 64) (ts := iv r) fun t ht => by obtain ⟨m, hm, rfl⟩ := List.mem_map.mp ht; exact Nat.le_refl _
      rw [iv_len] at h2
      constructor
      · simp only [okR, okRs, Bool.and_eq_true, decide_eq_true_eq, h1, and_true, true_and]
        omega
      · simp only [sz, szs]
        omega
    unfold t21_3
    simp (maxSteps := 4000000) only [dSs, dS, dE, dT, dEs, dI, dG, dGs, dO, cond_true, cond_false, opS, cmS, bfS, meS, sSeq, sNext, sPass, sBrk, sCnt, sExpr, sRet, sRet0, sIf, sFor, sAsg, sPar, sNever, tO, tO1, tON, tB2, tCh, tA0, tA1, tTu, tLi, tAn, tOr2, tNo, tIe, tAnT, tOrT, tNoT, tTr, tSlot, TL.tCon, tGlo, conT, tIsi, tCl, tFrz, tSl2, tP0, tP1, tRev, tMeL, tMeS, gSl, gsNil, gsCons, gTu, gSb, Gs.len, addS, subS, mulS, divS, modS, powS, negS, cmpS, eqS_int, neS_int, eqS_str, neS_str, isS, lenS, absS, intS, tupS, listS, sumS, allS, gcdS, newL, ixS, slS, truT, itemsOf, lsOf, sqOf, tItA, tItE, tItR1, tItR2, tItZ, List.zip_cons_cons, List.zip_nil_left, List.zip_nil_right, List.foldl_cons, List.foldl_nil, List.getElem?_cons_zero, List.getElem?_cons_succ, List.set_cons_zero, List.set_cons_succ, List.length_cons, List.length_nil, Int.reduceEq, Int.reduceNeg, true_and, false_and, and_true, or_false, false_or, eq_self, T.int.injEq, exists_eq_left, exists_eq_left', setS, appS, upS_same, isLs_own, joinS, minS, zipT, io, Br_iff]
    refine repr_s rfl ok1.1 ok1.2 ⟨sz2, by decide, repr_s rfl ok1.1 ok1.2 (ne_same ?_)⟩
    (try dsimp only)
    (try rw [if_neg Bool.false_ne_true])
    -- the next ones down
    unfold t21_4
    have ok2 : okR 60 (.tup [.tup [.int (a + P.1.1), .int (b + P.1.2)], .tup [.int (a + P.2.1), .int (b + P.2.2)]]) = true ∧ sz (.tup [.tup [.int (a + P.1.1), .int (b + P.1.2)], .tup [.int (a + P.2.1), .int (b + P.2.2)]]) ≤ 240000 := by
      constructor
      · simp only [okR, okRs, Bool.and_eq_true, decide_eq_true_eq, and_true, true_and]
        omega
      · simp [sz, szs]
    simp (maxSteps := 4000000) only [dSs, dS, dE, dT, dEs, dI, dG, dGs, dO, cond_true, cond_false, opS, cmS, bfS, meS, sSeq, sNext, sPass, sBrk, sCnt, sExpr, sRet, sRet0, sIf, sFor, sAsg, sPar, sNever, tO, tO1, tON, tB2, tCh, tA0, tA1, tTu, tLi, tAn, tOr2, tNo, tIe, tAnT, tOrT, tNoT, tTr, tSlot, TL.tCon, tGlo, conT, tIsi, tCl, tFrz, tSl2, tP0, tP1, tRev, tMeL, tMeS, gSl, gsNil, gsCons, gTu, gSb, Gs.len, addS, subS, mulS, divS, modS, powS, negS, cmpS, eqS_int, neS_int, eqS_str, neS_str, isS, lenS, absS, intS, tupS, listS, sumS, allS, gcdS, newL, ixS, slS, truT, itemsOf, lsOf, sqOf, tItA, tItE, tItR1, tItR2, tItZ, List.zip_cons_cons, List.zip_nil_left, List.zip_nil_right, List.foldl_cons, List.foldl_nil, List.getElem?_cons_zero, List.getElem?_cons_succ, List.set_cons_zero, List.set_cons_succ, List.length_cons, List.length_nil, Int.reduceEq, Int.reduceNeg, true_and, false_and, and_true, or_false, false_or, eq_self, T.int.injEq, exists_eq_left, exists_eq_left', setS, appS, upS_same, isLs_own, joinS, minS, zipT, gcon, conts, c18, Br_iff, atI_0, atI_1, Option.some.injEq, exists_eq_left']
    refine ⟨r, of, ?_⟩
    rw [hP, Int.add_comm P.1.1 a, Int.add_comm P.1.2 b]
    refine repr_s rfl ok2.1 ok2.2 ?_
    refine ⟨by decide, by decide, by decide, repr_s rfl ok2.1 ok2.2 (ne_same ?_)⟩
    (try dsimp only)
    (try rw [if_neg Bool.false_ne_true])
    -- one step down
    unfold t21_5
    have fin : dSs Gm t21_6 (rtEnds Q E) [some (.loc p), some (.tup (iv r)), some (.tup [.int P.1.1, .int P.1.2]), some (.tup [.int a, .int b]), some (.tup [.int P.2.1, .int P.2.2]), some (.tup [.tup [.int a, .int b], .tup (iv r), .int r.sum, .tup [.tup [.int P.1.1, .int P.1.2], .tup [.int P.2.1, .int P.2.2]], .bl true]), none, none, none, none, none, none, none, none, none, none, none, none] M := by
      unfold t21_6
      simp (maxSteps := 4000000) only [dSs, dS, dE, dT, dEs, dI, dG, dGs, dO, cond_true, cond_false, opS, cmS, bfS, meS, sSeq, sNext, sPass, sBrk, sCnt, sExpr, sRet, sRet0, sIf, sFor, sAsg, sPar, sNever, tO, tO1, tON, tB2, tCh, tA0, tA1, tTu, tLi, tAn, tOr2, tNo, tIe, tAnT, tOrT, tNoT, tTr, tSlot, TL.tCon, tGlo, conT, tIsi, tCl, tFrz, tSl2, tP0, tP1, tRev, tMeL, tMeS, gSl, gsNil, gsCons, gTu, gSb, Gs.len, addS, subS, mulS, divS, modS, powS, negS, cmpS, eqS_int, neS_int, eqS_str, neS_str, isS, lenS, absS, intS, tupS, listS, sumS, allS, gcdS, newL, ixS, slS, truT, itemsOf, lsOf, sqOf, tItA, tItE, tItR1, tItR2, tItZ, List.zip_cons_cons, List.zip_nil_left, List.zip_nil_right, List.foldl_cons, List.foldl_nil, List.getElem?_cons_zero, List.getElem?_cons_succ, List.set_cons_zero, List.set_cons_succ, List.length_cons, List.length_nil, Int.reduceEq, Int.reduceNeg, true_and, false_and, and_true, or_false, false_or, eq_self, T.int.injEq, exists_eq_left, exists_eq_left', setS, appS, upS_same, isLs_own, joinS, minS, zipT, gcon, conts, c14, c1, c19, c12, atI_1]
      refine ⟨hp, fun r2 ru2 rl2 rb2 => ⟨⟨hp, by decide, by decide⟩, fun j j0 j1 => ⟨⟨hp, by decide, by decide⟩, fun i i0 i1 => ?_⟩⟩⟩
      rw [cut_to j0]
      refine ⟨by decide, by rw [List.length_take, iv_len]; show _ ≤ 16777216; omega, sz2, ⟨hp, by simp, by decide⟩, fun t ht => ?_⟩
      obtain ⟨s, rfl, sms⟩ : ∃ s, t = .tup (iv s) ∧ Sm s := by
        simp only [List.mem_cons, List.not_mem_nil, or_false] at ht
        rcases ht with rfl | rfl
        · exact ⟨r2, rfl, ru2, by omega, fun m hm => by have := rb2 m hm; omega⟩
        · refine ⟨r.take j.toNat ++ [1 + i], by rw [iv_app]; unfold iv; rw [List.map_take]; rfl, take_ru ru _ _ (by omega), by rw [List.length_append, List.length_take]; simp; omega, fun m hm => ?_⟩
          rcases List.mem_append.mp hm with hm | hm
          · have := rb m (List.mem_of_mem_take hm); omega
          · have := List.mem_singleton.mp hm; omega
      refine ⟨s, rfl, ⟨by have := sms.len; omega, fun m hm => ⟨sms.ru.nn m hm, by have := sms.b m hm; omega⟩⟩, _, rfl, ?_⟩
      exact tail21 p r s sm sms _ _ _ _ M Q E q
    have okn : okT 60 (.tup (iv (ndn r))) = true := okT_itup (n := 59) (ndn r)
    simp (maxSteps := 4000000) only [dSs, dS, dE, dT, dEs, dI, dG, dGs, dO, cond_true, cond_false, opS, cmS, bfS, meS, sSeq, sNext, sPass, sBrk, sCnt, sExpr, sRet, sRet0, sIf, sFor, sAsg, sPar, sNever, tO, tO1, tON, tB2, tCh, tA0, tA1, tTu, tLi, tAn, tOr2, tNo, tIe, tAnT, tOrT, tNoT, tTr, tSlot, TL.tCon, tGlo, conT, tIsi, tCl, tFrz, tSl2, tP0, tP1, tRev, tMeL, tMeS, gSl, gsNil, gsCons, gTu, gSb, Gs.len, addS, subS, mulS, divS, modS, powS, negS, cmpS, eqS_int, neS_int, eqS_str, neS_str, isS, lenS, absS, intS, tupS, listS, sumS, allS, gcdS, newL, ixS, slS, truT, itemsOf, lsOf, sqOf, tItA, tItE, tItR1, tItR2, tItZ, List.zip_cons_cons, List.zip_nil_left, List.zip_nil_right, List.foldl_cons, List.foldl_nil, List.getElem?_cons_zero, List.getElem?_cons_succ, List.set_cons_zero, List.set_cons_succ, List.length_cons, List.length_nil, Int.reduceEq, Int.reduceNeg, true_and, false_and, and_true, or_false, false_or, eq_self, T.int.injEq, exists_eq_left, exists_eq_left', setS, appS, upS_same, isLs_own, joinS, minS, zipT, gcon, conts, c18, c6, Br_iff, atI_0, atI_1, Option.some.injEq, exists_eq_left', iv_len, cut_init, even_dec]
    refine ⟨r, of, ?_⟩
    rw [hP]
    refine ⟨ndn r, nof, by decide, ?_⟩
    have room : r.length + 1 ≤ sizeLine := by show _ ≤ 16777216; omega
    have nilq : ∀ {Q : K2}, Q (.bl (!decide (r = []))) M → neS (.tup (iv r)) (.tup []) M Q := fun {Q} q => (neS_itup (s := [])).mpr q
    by_cases h0 : r = []
    · have e0 : LW.ev r.length = true := by rw [h0]; rfl
      have en : [T.int 0, T.int 1] = iv (ndn r) := by rw [h0]; rfl
      rw [if_pos e0]
      refine ⟨by decide, nilq ?_⟩
      rw [decide_eq_true h0]
      dsimp only
      rw [if_neg (by decide)]
      refine ⟨by decide, nilq ?_⟩
      rw [decide_eq_true h0]
      dsimp only
      rw [if_neg (by decide)]
      refine ⟨sz2, ?_⟩
      rw [en]
      refine neS_same okn ?_
      dsimp only
      rw [if_neg Bool.false_ne_true]
      exact fin
    · by_cases he : r.length % 2 = 0
      · have e0 : LW.ev r.length = true := decide_eq_true he
        obtain ⟨z, hz⟩ : ∃ z, r.getLast? = some z := ⟨_, List.getLast?_eq_some_getLast h0⟩
        have at1 : atI (iv r) (-1) = some (.int z) := by rw [TL.atI_last]; unfold iv; rw [List.getLast?_map, hz]; rfl
        have en : (iv r).dropLast ++ [T.int (z + 1)] = iv (ndn r) := by
          unfold ndn
          rw [if_neg h0, if_pos he, hz, iv_app]
          unfold iv
          rw [List.map_dropLast]; rfl
        rw [if_pos e0]
        refine ⟨by decide, nilq ?_⟩
        rw [decide_eq_false h0]
        dsimp only
        rw [if_pos (show (!false) = true from rfl)]
        refine ⟨_, at1, ?_⟩
        refine ⟨by decide, by rw [List.length_dropLast, iv_len]; show _ ≤ 16777216; omega, ?_⟩
        rw [en]
        refine neS_same okn ?_
        dsimp only
        rw [if_neg Bool.false_ne_true]
        exact fin
      · have e0 : LW.ev r.length = false := decide_eq_false he
        have en : iv r ++ [T.int 1] = iv (ndn r) := by
          unfold ndn
          rw [if_neg h0, if_neg he, iv_app]; rfl
        rw [if_neg (by rw [e0]; exact Bool.false_ne_true)]
        refine ⟨by decide, nilq ?_⟩
        rw [decide_eq_false h0]
        dsimp only
        rw [if_pos (show (!false) = true from rfl)]
        refine ⟨by decide, room, ?_⟩
        rw [en]
        refine neS_same okn ?_
        dsimp only
        rw [if_neg Bool.false_ne_true]
        exact fin
end LW

namespace LW
open PySem PySem.Spec PyProof.Rows L2 TL M83
def Ln (i : Nat) (ps : List Str) : Prop := ∀ ts M Q E, Gm.con i ts M Q E → ts.length = ps.length
theorem ln0 : Ln 0 ps0 := fun ts M Q E h => by
  have h : c0 ts M Q E := h
  unfold c0 at h
  split at h
  · rfl
  · exact h.elim
theorem ln1 : Ln 1 ps1 := fun ts M Q E h => by
  have h : c1 ts M Q E := h
  unfold c1 at h
  split at h
  · rfl
  · exact h.elim
theorem ln2 : Ln 2 ps2 := fun ts M Q E h => by
  have h : c2 ts M Q E := h
  unfold c2 at h
  split at h
  · rfl
  · exact h.elim
theorem ln3 : Ln 3 ps3 := fun ts M Q E h => by
  have h : c3 ts M Q E := h
  unfold c3 at h
  split at h
  · rfl
  · exact h.elim
theorem ln4 : Ln 4 ps4 := fun ts M Q E h => by
  have h : c4 ts M Q E := h
  unfold c4 at h
  split at h
  · rfl
  · exact h.elim
theorem ln5 : Ln 5 ps5 := fun ts M Q E h => by
  have h : c5 ts M Q E := h
  unfold c5 at h
  split at h
  · rfl
  · exact h.elim
theorem ln6 : Ln 6 ps6 := fun ts M Q E h => by
  have h : c6 ts M Q E := h
  unfold c6 at h
  split at h
  · rfl
  · exact h.elim
theorem ln7 : Ln 7 ps7 := fun ts M Q E h => by
  have h : c6 ts M Q E := h
  unfold c6 at h
  split at h
  · rfl
  · exact h.elim
theorem ln8 : Ln 8 ps8 := fun ts M Q E h => by
  obtain ⟨r, h, _⟩ := h
  rcases h with rfl | rfl <;> rfl
theorem ln9 : Ln 9 ps9 := fun ts M Q E h => by
  have h : c9 ts M Q E := h
  unfold c9 at h
  split at h
  · rfl
  · exact h.elim
theorem ln10 : Ln 10 ps10 := fun ts M Q E h => by
  obtain ⟨r, rfl, _⟩ := h
  rfl
theorem ln11 : Ln 11 ps11 := fun ts M Q E h => by
  obtain ⟨r, rfl, _⟩ := h
  rfl
theorem ln12 : Ln 12 ps12 := fun ts M Q E h => by
  obtain ⟨r, rfl, _⟩ := h
  rfl
theorem ln13 : Ln 13 ps13 := fun ts M Q E h => by
  have h : c13 ts M Q E := h
  unfold c13 at h
  split at h
  · rfl
  · exact h.elim
theorem ln14 : Ln 14 ps14 := fun ts M Q E h => by
  have h : c14 ts M Q E := h
  unfold c14 at h
  split at h
  · rfl
  · exact h.elim
theorem ln15 : Ln 15 ps15 := fun ts M Q E h => by
  have h : c15 ts M Q E := h
  unfold c15 at h
  split at h
  · rfl
  · exact h.elim
theorem ln16 : Ln 16 ps16 := fun ts M Q E h => by
  have h : c16 ts M Q E := h
  unfold c16 at h
  split at h
  · rfl
  · exact h.elim
theorem ln17 : Ln 17 ps17 := fun ts M Q E h => by
  obtain ⟨r, rfl, _⟩ := h
  rfl
theorem ln18 : Ln 18 ps18 := fun ts M Q E h => by
  have h : c18 ts M Q E := h
  unfold c18 at h
  split at h
  · rfl
  · exact h.elim
theorem ln19 : Ln 19 ps19 := fun ts M Q E h => by
  have h : c19 ts M Q E := h
  unfold c19 at h
  split at h
  · rfl
  · exact h.elim
theorem ln20 : Ln 20 ps20 := fun ts M Q E h => by
  have h : c20 ts M Q E := h
  unfold c20 at h
  split at h
  · rfl
  · exact h.elim
theorem ln21 : Ln 21 ps21 := fun ts M Q E h => by
  have h : c13 ts M Q E := h
  unfold c13 at h
  split at h
  · rfl
  · exact h.elim
theorem ln22 : Ln 22 ps22 := fun ts M Q E h => by
  have h : c22 ts M Q E := h
  unfold c22 at h
  split at h
  · rfl
  · exact h.elim
theorem ln23 : Ln 23 ps23 := fun ts M Q E h => by
  have h : c23 ts M Q E := h
  unfold c23 at h
  split at h
  · rfl
  · exact h.elim
theorem ln24 : Ln 24 ps24 := fun ts M Q E h => by
  obtain ⟨r, rfl, _⟩ := h
  rfl
theorem ln25 : Ln 25 ps25 := fun ts M Q E h => by
  have h : c25 ts M Q E := h
  unfold c25 at h
  split at h
  · rfl
  · exact h.elim
theorem ln26 : Ln 26 ps26 := fun ts M Q E h => by
  have h : c25 ts M Q E := h
  unfold c25 at h
  split at h
  · rfl
  · exact h.elim
theorem ln27 : Ln 27 ps27 := fun ts M Q E h => by
  have h : c27 ts M Q E := h
  unfold c27 at h
  split at h
  · rfl
  · exact h.elim
theorem ln28 : Ln 28 ps28 := fun ts M Q E h => by
  have h : c28 ts M Q E := h
  unfold c28 at h
  split at h
  · rfl
  · exact h.elim
theorem ln29 : Ln 29 ps29 := fun ts M Q E h => by
  have h : c28 ts M Q E := h
  unfold c28 at h
  split at h
  · rfl
  · exact h.elim
theorem ln30 : Ln 30 ps30 := fun ts M Q E h => by
  have h : c13 ts M Q E := h
  unfold c13 at h
  split at h
  · rfl
  · exact h.elim
theorem ln31 : Ln 31 ps31 := fun ts M Q E h => by
  obtain ⟨r, rfl, _⟩ := h
  rfl
end LW

namespace LW
open PySem PySem.Spec PyProof.Rows L2 TL
theorem glos_ : ∀ (i : Nat) (x : Str) (t : T), pg.glo[i]? = some x → Gm.glo i = some t → ∃ v : Int, (x, v) ∈ ([("GREAT", 1000000000000000000), ("RUNS", 100)] : List (Str × Int)) ∧ t = .int v := fun i x t hx ht => by
  match i with
  | 0 => cases hx; cases ht; exact ⟨_, List.mem_cons_self, rfl⟩
  | 1 => cases hx; cases ht; exact ⟨_, List.mem_cons_of_mem _ List.mem_cons_self, rfl⟩
  | n + 2 => cases ht
end LW
namespace LW
open PySem PySem.Spec PyProof.Rows L2 TL
def top (i : Nat) : Stmt := PySem.Challenge.pw_countrealm_k83_whole_steps_of_slopes.main.body.getD i (.Pass ⟨0, 0, 0, 0⟩)
theorem sc0 : fnScB ns0 ps0 (defScope (top 28)) = true := by decide +kernel
theorem ck0 : chkSs { pg with lim := 0 } ⟨ns0, defScope (top 28), none⟩ ss0 (defBody (top 28)) = true := by decide +kernel
theorem sc1 : fnScB ns1 ps1 (defScope (top 29)) = true := by decide +kernel
theorem ck1 : chkSs { pg with lim := 1 } ⟨ns1, defScope (top 29), none⟩ ss1 (defBody (top 29)) = true := by decide +kernel
theorem sc2 : fnScB ns2 ps2 (defScope (top 6)) = true := by decide +kernel
theorem ck2 : chkSs { pg with lim := 2 } ⟨ns2, defScope (top 6), none⟩ ss2 (defBody (top 6)) = true := by decide +kernel
theorem sc3 : fnScB ns3 ps3 (defScope (top 5)) = true := by decide +kernel
theorem ck3 : chkSs { pg with lim := 3 } ⟨ns3, defScope (top 5), none⟩ ss3 (defBody (top 5)) = true := by decide +kernel
theorem sc4 : fnScB ns4 ps4 (defScope (top 10)) = true := by decide +kernel
theorem ck4 : chkSs { pg with lim := 4 } ⟨ns4, defScope (top 10), none⟩ ss4 (defBody (top 10)) = true := by decide +kernel
theorem sc5 : fnScB ns5 ps5 (defScope (top 11)) = true := by decide +kernel
theorem ck5 : chkSs { pg with lim := 5 } ⟨ns5, defScope (top 11), none⟩ ss5 (defBody (top 11)) = true := by decide +kernel
theorem sc6 : fnScB ns6 ps6 (defScope (top 13)) = true := by decide +kernel
theorem ck6 : chkSs { pg with lim := 6 } ⟨ns6, defScope (top 13), none⟩ ss6 (defBody (top 13)) = true := by decide +kernel
theorem sc7 : fnScB ns7 ps7 (defScope (top 19)) = true := by decide +kernel
theorem ck7 : chkSs { pg with lim := 7 } ⟨ns7, defScope (top 19), none⟩ ss7 (defBody (top 19)) = true := by decide +kernel
theorem sc8 : fnScB ns8 ps8 (defScope (top 14)) = true := by decide +kernel
theorem ck8 : chkSs { pg with lim := 8 } ⟨ns8, defScope (top 14), none⟩ ss8 (defBody (top 14)) = true := by decide +kernel
theorem sc9 : fnScB ns9 ps9 (defScope (top 15)) = true := by decide +kernel
theorem ck9 : chkSs { pg with lim := 9 } ⟨ns9, defScope (top 15), none⟩ ss9 (defBody (top 15)) = true := by decide +kernel
theorem sc10 : fnScB ns10 ps10 (defScope (top 12)) = true := by decide +kernel
theorem ck10 : chkSs { pg with lim := 10 } ⟨ns10, defScope (top 12), none⟩ ss10 (defBody (top 12)) = true := by decide +kernel
theorem sc11 : fnScB ns11 ps11 (defScope (top 20)) = true := by decide +kernel
theorem ck11 : chkSs { pg with lim := 11 } ⟨ns11, defScope (top 20), none⟩ ss11 (defBody (top 20)) = true := by decide +kernel
theorem sc12 : fnScB ns12 ps12 (defScope (top 34)) = true := by decide +kernel
theorem ck12 : chkSs { pg with lim := 12 } ⟨ns12, defScope (top 34), none⟩ ss12 (defBody (top 34)) = true := by decide +kernel
theorem sc13 : fnScB ns13 ps13 (defScope (top 39)) = true := by decide +kernel
theorem ck13 : chkSs { pg with lim := 13 } ⟨ns13, defScope (top 39), none⟩ ss13 (defBody (top 39)) = true := by decide +kernel
theorem sc14 : fnScB ns14 ps14 (defScope (top 33)) = true := by decide +kernel
theorem ck14 : chkSs { pg with lim := 14 } ⟨ns14, defScope (top 33), none⟩ ss14 (defBody (top 33)) = true := by decide +kernel
theorem sc15 : fnScB ns15 ps15 (defScope (top 21)) = true := by decide +kernel
theorem ck15 : chkSs { pg with lim := 15 } ⟨ns15, defScope (top 21), none⟩ ss15 (defBody (top 21)) = true := by decide +kernel
theorem sc16 : fnScB ns16 ps16 (defScope (top 22)) = true := by decide +kernel
theorem ck16 : chkSs { pg with lim := 16 } ⟨ns16, defScope (top 22), none⟩ ss16 (defBody (top 22)) = true := by decide +kernel
theorem sc17 : fnScB ns17 ps17 (defScope (top 35)) = true := by decide +kernel
theorem ck17 : chkSs { pg with lim := 17 } ⟨ns17, defScope (top 35), none⟩ ss17 (defBody (top 35)) = true := by decide +kernel
theorem sc18 : fnScB ns18 ps18 (defScope (top 23)) = true := by decide +kernel
theorem ck18 : chkSs { pg with lim := 18 } ⟨ns18, defScope (top 23), none⟩ ss18 (defBody (top 23)) = true := by decide +kernel
theorem sc19 : fnScB ns19 ps19 (defScope (top 30)) = true := by decide +kernel
theorem ck19 : chkSs { pg with lim := 19 } ⟨ns19, defScope (top 30), none⟩ ss19 (defBody (top 30)) = true := by decide +kernel
theorem sc20 : fnScB ns20 ps20 (defScope (top 24)) = true := by decide +kernel
theorem ck20 : chkSs { pg with lim := 20 } ⟨ns20, defScope (top 24), none⟩ ss20 (defBody (top 24)) = true := by decide +kernel
theorem sc21 : fnScB ns21 ps21 (defScope (top 37)) = true := by decide +kernel
theorem ck21 : chkSs { pg with lim := 21 } ⟨ns21, defScope (top 37), none⟩ ss21 (defBody (top 37)) = true := by decide +kernel
theorem sc22 : fnScB ns22 ps22 (defScope (top 31)) = true := by decide +kernel
theorem ck22 : chkSs { pg with lim := 22 } ⟨ns22, defScope (top 31), none⟩ ss22 (defBody (top 31)) = true := by decide +kernel
theorem sc23 : fnScB ns23 ps23 (defScope (top 32)) = true := by decide +kernel
theorem ck23 : chkSs { pg with lim := 23 } ⟨ns23, defScope (top 32), none⟩ ss23 (defBody (top 32)) = true := by decide +kernel
theorem sc24 : fnScB ns24 ps24 (defScope (top 36)) = true := by decide +kernel
theorem ck24 : chkSs { pg with lim := 24 } ⟨ns24, defScope (top 36), none⟩ ss24 (defBody (top 36)) = true := by decide +kernel
theorem sc25 : fnScB ns25 ps25 (defScope (top 17)) = true := by decide +kernel
theorem ck25 : chkSs { pg with lim := 25 } ⟨ns25, defScope (top 17), none⟩ ss25 (defBody (top 17)) = true := by decide +kernel
theorem sc26 : fnScB ns26 ps26 (defScope (top 25)) = true := by decide +kernel
theorem ck26 : chkSs { pg with lim := 26 } ⟨ns26, defScope (top 25), none⟩ ss26 (defBody (top 25)) = true := by decide +kernel
theorem sc27 : fnScB ns27 ps27 (defScope (top 16)) = true := by decide +kernel
theorem ck27 : chkSs { pg with lim := 27 } ⟨ns27, defScope (top 16), none⟩ ss27 (defBody (top 16)) = true := by decide +kernel
theorem sc28 : fnScB ns28 ps28 (defScope (top 18)) = true := by decide +kernel
theorem ck28 : chkSs { pg with lim := 28 } ⟨ns28, defScope (top 18), none⟩ ss28 (defBody (top 18)) = true := by decide +kernel
theorem sc29 : fnScB ns29 ps29 (defScope (top 26)) = true := by decide +kernel
theorem ck29 : chkSs { pg with lim := 29 } ⟨ns29, defScope (top 26), none⟩ ss29 (defBody (top 26)) = true := by decide +kernel
theorem sc30 : fnScB ns30 ps30 (defScope (top 38)) = true := by decide +kernel
theorem ck30 : chkSs { pg with lim := 30 } ⟨ns30, defScope (top 38), none⟩ ss30 (defBody (top 38)) = true := by decide +kernel
theorem sc31 : fnScB ns31 ps31 (defScope (top 40)) = true := by decide +kernel
theorem ck31 : chkSs { pg with lim := 31 } ⟨ns31, defScope (top 40), none⟩ ss31 (defBody (top 40)) = true := by decide +kernel
def mkD (x : Str) (i : Nat) : He.DefD := ⟨(x, none), x, x, defArgs (top i), defBody (top i), defScope (top i), [], []⟩
def fnd_ : List He.DefD := ([mkD "_law_cup" 28, mkD "_law_roll" 29, mkD "is_tuple_of" 6, mkD "is_whole" 5, mkD "is_slope" 10, mkD "need_slope" 11, mkD "steps_in" 13, mkD "steps_of" 19, mkD "bounds_by" 14, mkD "middle" 15, mkD "fits_runs" 12, mkD "slope_of" 20, mkD "_law_walked" 34, mkD "_law_odds_right" 39, mkD "_law_runs" 33, mkD "depth" 21, mkD "bounds" 22, mkD "_law_path" 35, mkD "next_down" 23, mkD "_law_some" 30, mkD "meeting" 24, mkD "_law_small_right" 37, mkD "_law_common" 31, mkD "_law_slope" 32, mkD "_law_told" 36, mkD "quotients_in" 17, mkD "quotients" 25, mkD "moved" 16, mkD "chain_in" 18, mkD "chain" 26] : List He.DefD) ++ ([mkD "_law_great_right" 38, mkD "law" 40] : List He.DefD)
def ints_ : List (Str × Int) := [("GREAT", 1000000000000000000), ("RUNS", 100)]
def fac_ : List He.Fa := fns.map He.Fa.glo ++ (pg.blt.map He.Fa.free ++ ints_.map fun z => He.Fa.int z.1 z.2)
def bs_ : List (Str × String) := [("gcd", "math.gcd")]
abbrev lawR : PySem.W.OpenRow := PySem.W.OpenLaw.row PySem.Challenge.rw_countrealm_k83_whole_steps_of_slopes
abbrev hk_ : PySem.W.Hook := hookG 4 fac_ fnd_ bs_
def ob_ (z : PySem.W.SharedT) : Bool × He.AlD := obsG 4 fac_ fnd_ bs_ (HandSHeadRun.getT z)
theorem ob_ok (z : PySem.W.SharedT) : ob_ z = hk_.obs z.abs := obsG_eq (HandSHeadRun.getT_eq z)
def loose_ : List Str := (["CountError", "InvalidSlope", "is_whole", "is_tuple_of", "GREAT", "RUNS", "is_slope", "need_slope", "fits_runs", "steps_in", "bounds_by", "middle", "moved", "quotients_in", "chain_in", "steps_of", "slope_of", "depth", "bounds", "next_down", "meeting", "quotients", "chain", "_law_cup", "_law_roll", "_law_some", "_law_common", "_law_slope", "_law_runs", "_law_walked"] : List Str) ++ (["_law_path", "_law_told", "_law_small_right", "_law_great_right", "_law_odds_right"] : List Str)
theorem run_ (w : World) : HandSHeadRun.RunEqI lawR (PySem.W.view lawR.prog [0, 40]) hk_ ob_ 60000 loose_ w := by
  unfold HandSHeadRun.RunEqI
  kernel_rfl
section
variable {P : Program} {w : World} {K : PySem.W.Frag} {mg : Str → Option Value} {base h : Heap}
theorem pgOk (X : K.In h) (G : h.Ns mainGlobals mg) (c : He.SaysD fac_ fnd_ K) (b : bltsB bs_ K = true) : PgOk K mg Gm pg where
  blt := fun x hx => He.free_ok X G (fact_of c (List.mem_append_right _ (List.mem_append_left _ (List.mem_map.mpr ⟨x, List.contains_iff_mem.mp hx, rfl⟩))))
  glo := fun i x t hx ht => by
    have key : ∀ (y : Str) (v : Int), (y, v) ∈ ints_ → ∃ u, mg y = some u ∧ RelV (.int v) u := fun y v hy => by
      obtain ⟨k, hk⟩ := He.int_ok (x := y) (i := v) X G (fact_of c (List.mem_append_right _ (List.mem_append_right _ (List.mem_map.mpr ⟨(y, v), hy, rfl⟩))))
      exact ⟨_, hk, _, rfl⟩
    have all := glos_
    obtain ⟨v, hv, rfl⟩ := all i x t hx ht
    obtain ⟨u, h1, h2⟩ := key x v hv
    exact ⟨.int v, u, rfl, h1, h2⟩
  gcd := fun z => blt_ok X G b (q := ("gcd", "math.gcd")) (List.mem_singleton.mpr rfl)
theorem bl0 (X : K.In h) (G : h.Ns mainGlobals mg) (c : He.SaysD fac_ fnd_ K) (b : bltsB bs_ K = true) : Below P w K mg base (fun _ => .none) Gm pg 1 := by
  obtain ⟨fd, F⟩ := c.def_ 0
  exact below_step below_zero rfl (He.glo_ok X G (c.fact 0)) F sc0 (pgOk X G c b) (fun _ _ _ _ _ _ us hl => match us, hl with | [_], _ => rfl) ln0 ck0 pf0
theorem bl1 (X : K.In h) (G : h.Ns mainGlobals mg) (c : He.SaysD fac_ fnd_ K) (b : bltsB bs_ K = true) : Below P w K mg base (fun _ => .none) Gm pg 2 := by
  obtain ⟨fd, F⟩ := c.def_ 1
  exact below_step (bl0 X G c b) rfl (He.glo_ok X G (c.fact 1)) F sc1 (pgOk X G c b) (fun _ _ _ _ _ _ us hl => match us, hl with | [_, _], _ => rfl) ln1 ck1 pf1
theorem bl2 (X : K.In h) (G : h.Ns mainGlobals mg) (c : He.SaysD fac_ fnd_ K) (b : bltsB bs_ K = true) : Below P w K mg base (fun _ => .none) Gm pg 3 := by
  obtain ⟨fd, F⟩ := c.def_ 2
  exact below_step (bl1 X G c b) rfl (He.glo_ok X G (c.fact 2)) F sc2 (pgOk X G c b) (fun _ _ _ _ _ _ us hl => match us, hl with | [_, _, _], _ => rfl) ln2 ck2 pf2
theorem bl3 (X : K.In h) (G : h.Ns mainGlobals mg) (c : He.SaysD fac_ fnd_ K) (b : bltsB bs_ K = true) : Below P w K mg base (fun _ => .none) Gm pg 4 := by
  obtain ⟨fd, F⟩ := c.def_ 3
  exact below_step (bl2 X G c b) rfl (He.glo_ok X G (c.fact 3)) F sc3 (pgOk X G c b) (fun _ _ _ _ _ _ us hl => match us, hl with | [_, _, _], _ => rfl) ln3 ck3 pf3
theorem bl4 (X : K.In h) (G : h.Ns mainGlobals mg) (c : He.SaysD fac_ fnd_ K) (b : bltsB bs_ K = true) : Below P w K mg base (fun _ => .none) Gm pg 5 := by
  obtain ⟨fd, F⟩ := c.def_ 4
  exact below_step (bl3 X G c b) rfl (He.glo_ok X G (c.fact 4)) F sc4 (pgOk X G c b) (fun _ _ _ _ _ _ us hl => match us, hl with | [_], _ => rfl) ln4 ck4 pf4
theorem bl5 (X : K.In h) (G : h.Ns mainGlobals mg) (c : He.SaysD fac_ fnd_ K) (b : bltsB bs_ K = true) : Below P w K mg base (fun _ => .none) Gm pg 6 := by
  obtain ⟨fd, F⟩ := c.def_ 5
  exact below_step (bl4 X G c b) rfl (He.glo_ok X G (c.fact 5)) F sc5 (pgOk X G c b) (fun _ _ _ _ _ _ us hl => match us, hl with | [_], _ => rfl) ln5 ck5 pf5
theorem bl6 (X : K.In h) (G : h.Ns mainGlobals mg) (c : He.SaysD fac_ fnd_ K) (b : bltsB bs_ K = true) : Below P w K mg base (fun _ => .none) Gm pg 7 := by
  obtain ⟨fd, F⟩ := c.def_ 6
  exact below_step (bl5 X G c b) rfl (He.glo_ok X G (c.fact 6)) F sc6 (pgOk X G c b) (fun _ _ _ _ _ _ us hl => match us, hl with | [_], _ => rfl) ln6 ck6 pf6
theorem bl7 (X : K.In h) (G : h.Ns mainGlobals mg) (c : He.SaysD fac_ fnd_ K) (b : bltsB bs_ K = true) : Below P w K mg base (fun _ => .none) Gm pg 8 := by
  obtain ⟨fd, F⟩ := c.def_ 7
  exact below_step (bl6 X G c b) rfl (He.glo_ok X G (c.fact 7)) F sc7 (pgOk X G c b) (fun _ _ _ _ _ _ us hl => match us, hl with | [_], _ => rfl) ln7 ck7 pf7
theorem bl8 (X : K.In h) (G : h.Ns mainGlobals mg) (c : He.SaysD fac_ fnd_ K) (b : bltsB bs_ K = true) : Below P w K mg base (fun _ => .none) Gm pg 9 := by
  obtain ⟨fd, F⟩ := c.def_ 8
  exact below_step (bl7 X G c b) rfl (He.glo_ok X G (c.fact 8)) F sc8 (pgOk X G c b) (fun _ _ _ _ _ _ us hl => match us, hl with | [_], _ => rfl) ln8 ck8 pf8
theorem bl9 (X : K.In h) (G : h.Ns mainGlobals mg) (c : He.SaysD fac_ fnd_ K) (b : bltsB bs_ K = true) : Below P w K mg base (fun _ => .none) Gm pg 10 := by
  obtain ⟨fd, F⟩ := c.def_ 9
  exact below_step (bl8 X G c b) rfl (He.glo_ok X G (c.fact 9)) F sc9 (pgOk X G c b) (fun _ _ _ _ _ _ us hl => match us, hl with | [_, _], _ => rfl) ln9 ck9 pf9
theorem bl10 (X : K.In h) (G : h.Ns mainGlobals mg) (c : He.SaysD fac_ fnd_ K) (b : bltsB bs_ K = true) : Below P w K mg base (fun _ => .none) Gm pg 11 := by
  obtain ⟨fd, F⟩ := c.def_ 10
  exact below_step (bl9 X G c b) rfl (He.glo_ok X G (c.fact 10)) F sc10 (pgOk X G c b) (fun _ _ _ _ _ _ us hl => match us, hl with | [_], _ => rfl) ln10 ck10 pf10
theorem bl11 (X : K.In h) (G : h.Ns mainGlobals mg) (c : He.SaysD fac_ fnd_ K) (b : bltsB bs_ K = true) : Below P w K mg base (fun _ => .none) Gm pg 12 := by
  obtain ⟨fd, F⟩ := c.def_ 11
  exact below_step (bl10 X G c b) rfl (He.glo_ok X G (c.fact 11)) F sc11 (pgOk X G c b) (fun _ _ _ _ _ _ us hl => match us, hl with | [_], _ => rfl) ln11 ck11 pf11
theorem bl12 (X : K.In h) (G : h.Ns mainGlobals mg) (c : He.SaysD fac_ fnd_ K) (b : bltsB bs_ K = true) : Below P w K mg base (fun _ => .none) Gm pg 13 := by
  obtain ⟨fd, F⟩ := c.def_ 12
  exact below_step (bl11 X G c b) rfl (He.glo_ok X G (c.fact 12)) F sc12 (pgOk X G c b) (fun _ _ _ _ _ _ us hl => match us, hl with | [_], _ => rfl) ln12 ck12 pf12
theorem bl13 (X : K.In h) (G : h.Ns mainGlobals mg) (c : He.SaysD fac_ fnd_ K) (b : bltsB bs_ K = true) : Below P w K mg base (fun _ => .none) Gm pg 14 := by
  obtain ⟨fd, F⟩ := c.def_ 13
  exact below_step (bl12 X G c b) rfl (He.glo_ok X G (c.fact 13)) F sc13 (pgOk X G c b) (fun _ _ _ _ _ _ us hl => match us, hl with | [_], _ => rfl) ln13 ck13 pf13
theorem bl14 (X : K.In h) (G : h.Ns mainGlobals mg) (c : He.SaysD fac_ fnd_ K) (b : bltsB bs_ K = true) : Below P w K mg base (fun _ => .none) Gm pg 15 := by
  obtain ⟨fd, F⟩ := c.def_ 14
  exact below_step (bl13 X G c b) rfl (He.glo_ok X G (c.fact 14)) F sc14 (pgOk X G c b) (fun _ _ _ _ _ _ us hl => match us, hl with | [_, _, _], _ => rfl) ln14 ck14 pf14
theorem bl15 (X : K.In h) (G : h.Ns mainGlobals mg) (c : He.SaysD fac_ fnd_ K) (b : bltsB bs_ K = true) : Below P w K mg base (fun _ => .none) Gm pg 16 := by
  obtain ⟨fd, F⟩ := c.def_ 15
  exact below_step (bl14 X G c b) rfl (He.glo_ok X G (c.fact 15)) F sc15 (pgOk X G c b) (fun _ _ _ _ _ _ us hl => match us, hl with | [_], _ => rfl) ln15 ck15 pf15
theorem bl16 (X : K.In h) (G : h.Ns mainGlobals mg) (c : He.SaysD fac_ fnd_ K) (b : bltsB bs_ K = true) : Below P w K mg base (fun _ => .none) Gm pg 17 := by
  obtain ⟨fd, F⟩ := c.def_ 16
  exact below_step (bl15 X G c b) rfl (He.glo_ok X G (c.fact 16)) F sc16 (pgOk X G c b) (fun _ _ _ _ _ _ us hl => match us, hl with | [_], _ => rfl) ln16 ck16 pf16
theorem bl17 (X : K.In h) (G : h.Ns mainGlobals mg) (c : He.SaysD fac_ fnd_ K) (b : bltsB bs_ K = true) : Below P w K mg base (fun _ => .none) Gm pg 18 := by
  obtain ⟨fd, F⟩ := c.def_ 17
  exact below_step (bl16 X G c b) rfl (He.glo_ok X G (c.fact 17)) F sc17 (pgOk X G c b) (fun _ _ _ _ _ _ us hl => match us, hl with | [_], _ => rfl) ln17 ck17 pf17
theorem bl18 (X : K.In h) (G : h.Ns mainGlobals mg) (c : He.SaysD fac_ fnd_ K) (b : bltsB bs_ K = true) : Below P w K mg base (fun _ => .none) Gm pg 19 := by
  obtain ⟨fd, F⟩ := c.def_ 18
  exact below_step (bl17 X G c b) rfl (He.glo_ok X G (c.fact 18)) F sc18 (pgOk X G c b) (fun _ _ _ _ _ _ us hl => match us, hl with | [_], _ => rfl) ln18 ck18 pf18
theorem bl19 (X : K.In h) (G : h.Ns mainGlobals mg) (c : He.SaysD fac_ fnd_ K) (b : bltsB bs_ K = true) : Below P w K mg base (fun _ => .none) Gm pg 20 := by
  obtain ⟨fd, F⟩ := c.def_ 19
  exact below_step (bl18 X G c b) rfl (He.glo_ok X G (c.fact 19)) F sc19 (pgOk X G c b) (fun _ _ _ _ _ _ us hl => match us, hl with | [_, _], _ => rfl) ln19 ck19 pf19
theorem bl20 (X : K.In h) (G : h.Ns mainGlobals mg) (c : He.SaysD fac_ fnd_ K) (b : bltsB bs_ K = true) : Below P w K mg base (fun _ => .none) Gm pg 21 := by
  obtain ⟨fd, F⟩ := c.def_ 20
  exact below_step (bl19 X G c b) rfl (He.glo_ok X G (c.fact 20)) F sc20 (pgOk X G c b) (fun _ _ _ _ _ _ us hl => match us, hl with | [_, _], _ => rfl) ln20 ck20 pf20
theorem bl21 (X : K.In h) (G : h.Ns mainGlobals mg) (c : He.SaysD fac_ fnd_ K) (b : bltsB bs_ K = true) : Below P w K mg base (fun _ => .none) Gm pg 22 := by
  obtain ⟨fd, F⟩ := c.def_ 21
  exact below_step (bl20 X G c b) rfl (He.glo_ok X G (c.fact 21)) F sc21 (pgOk X G c b) (fun _ _ _ _ _ _ us hl => match us, hl with | [_], _ => rfl) ln21 ck21 pf21
theorem bl22 (X : K.In h) (G : h.Ns mainGlobals mg) (c : He.SaysD fac_ fnd_ K) (b : bltsB bs_ K = true) : Below P w K mg base (fun _ => .none) Gm pg 23 := by
  obtain ⟨fd, F⟩ := c.def_ 22
  exact below_step (bl21 X G c b) rfl (He.glo_ok X G (c.fact 22)) F sc22 (pgOk X G c b) (fun _ _ _ _ _ _ us hl => match us, hl with | [_, _], _ => rfl) ln22 ck22 pf22
theorem bl23 (X : K.In h) (G : h.Ns mainGlobals mg) (c : He.SaysD fac_ fnd_ K) (b : bltsB bs_ K = true) : Below P w K mg base (fun _ => .none) Gm pg 24 := by
  obtain ⟨fd, F⟩ := c.def_ 23
  exact below_step (bl22 X G c b) rfl (He.glo_ok X G (c.fact 23)) F sc23 (pgOk X G c b) (fun _ _ _ _ _ _ us hl => match us, hl with | [_, _], _ => rfl) ln23 ck23 pf23
theorem bl24 (X : K.In h) (G : h.Ns mainGlobals mg) (c : He.SaysD fac_ fnd_ K) (b : bltsB bs_ K = true) : Below P w K mg base (fun _ => .none) Gm pg 25 := by
  obtain ⟨fd, F⟩ := c.def_ 24
  exact below_step (bl23 X G c b) rfl (He.glo_ok X G (c.fact 24)) F sc24 (pgOk X G c b) (fun _ _ _ _ _ _ us hl => match us, hl with | [_], _ => rfl) ln24 ck24 pf24
theorem bl25 (X : K.In h) (G : h.Ns mainGlobals mg) (c : He.SaysD fac_ fnd_ K) (b : bltsB bs_ K = true) : Below P w K mg base (fun _ => .none) Gm pg 26 := by
  obtain ⟨fd, F⟩ := c.def_ 25
  exact below_step (bl24 X G c b) rfl (He.glo_ok X G (c.fact 25)) F sc25 (pgOk X G c b) (fun _ _ _ _ _ _ us hl => match us, hl with | [_], _ => rfl) ln25 ck25 pf25
theorem bl26 (X : K.In h) (G : h.Ns mainGlobals mg) (c : He.SaysD fac_ fnd_ K) (b : bltsB bs_ K = true) : Below P w K mg base (fun _ => .none) Gm pg 27 := by
  obtain ⟨fd, F⟩ := c.def_ 26
  exact below_step (bl25 X G c b) rfl (He.glo_ok X G (c.fact 26)) F sc26 (pgOk X G c b) (fun _ _ _ _ _ _ us hl => match us, hl with | [_], _ => rfl) ln26 ck26 pf26
theorem bl27 (X : K.In h) (G : h.Ns mainGlobals mg) (c : He.SaysD fac_ fnd_ K) (b : bltsB bs_ K = true) : Below P w K mg base (fun _ => .none) Gm pg 28 := by
  obtain ⟨fd, F⟩ := c.def_ 27
  exact below_step (bl26 X G c b) rfl (He.glo_ok X G (c.fact 27)) F sc27 (pgOk X G c b) (fun _ _ _ _ _ _ us hl => match us, hl with | [_, _, _], _ => rfl) ln27 ck27 pf27
theorem bl28 (X : K.In h) (G : h.Ns mainGlobals mg) (c : He.SaysD fac_ fnd_ K) (b : bltsB bs_ K = true) : Below P w K mg base (fun _ => .none) Gm pg 29 := by
  obtain ⟨fd, F⟩ := c.def_ 28
  exact below_step (bl27 X G c b) rfl (He.glo_ok X G (c.fact 28)) F sc28 (pgOk X G c b) (fun _ _ _ _ _ _ us hl => match us, hl with | [_], _ => rfl) ln28 ck28 pf28
theorem bl29 (X : K.In h) (G : h.Ns mainGlobals mg) (c : He.SaysD fac_ fnd_ K) (b : bltsB bs_ K = true) : Below P w K mg base (fun _ => .none) Gm pg 30 := by
  obtain ⟨fd, F⟩ := c.def_ 29
  exact below_step (bl28 X G c b) rfl (He.glo_ok X G (c.fact 29)) F sc29 (pgOk X G c b) (fun _ _ _ _ _ _ us hl => match us, hl with | [_], _ => rfl) ln29 ck29 pf29
theorem bl30 (X : K.In h) (G : h.Ns mainGlobals mg) (c : He.SaysD fac_ fnd_ K) (b : bltsB bs_ K = true) : Below P w K mg base (fun _ => .none) Gm pg 31 := by
  obtain ⟨fd, F⟩ := c.def_ 30
  exact below_step (bl29 X G c b) rfl (He.glo_ok X G (c.fact 30)) F sc30 (pgOk X G c b) (fun _ _ _ _ _ _ us hl => match us, hl with | [_], _ => rfl) ln30 ck30 pf30
theorem bl31 (X : K.In h) (G : h.Ns mainGlobals mg) (c : He.SaysD fac_ fnd_ K) (b : bltsB bs_ K = true) : Below P w K mg base (fun _ => .none) Gm pg 32 := by
  obtain ⟨fd, F⟩ := c.def_ 31
  exact below_step (bl30 X G c b) rfl (He.glo_ok X G (c.fact 31)) F sc31 (pgOk X G c b) (fun _ _ _ _ _ _ us hl => match us, hl with | [_], _ => rfl) ln31 ck31 pf31
end
theorem law_ends : PySem.W.WalkO (PySem.W.view lawR.prog [0, 40]) loose_ (PySem.W.XL (PySem.W.view lawR.prog [0, 40]) []) hk_.says lawR.toRowW (HandSHeadRun.topDef lawR.prog 40) [] fun f vs => PySem.call f vs := by
  refine endG (l := PySem.Challenge.rw_countrealm_k83_whole_steps_of_slopes) (n := 63) (k := 32) (x := "script") rfl (by decide) rfl ⟨rfl, by decide, by decide⟩ fun w mg fa h y G hm => ?_
  obtain ⟨K, X, b, c⟩ := y
  obtain ⟨fd, F⟩ := c.def_ 31
  have ga := He.glo_ok X G (c.fact 31)
  have e : fa = He.ga K "law" := by
    have z := hm.symm.trans ga
    cases z
    rfl
  subst e
  refine ⟨K, fd, spOf (fun _ => .none) K lawCt, X, fun z u => F.bindsA (ps := ["script"]) (fun _ _ _ _ _ _ us hl => match us, hl with | [_], _ => rfl) z [u] rfl, fun H a ns hl hO hS => law_sp hl hO hS, fun base X2 G2 => ?_⟩
  obtain ⟨fd2, F2⟩ := c.def_ 31
  exact def_ok F sc31 (pgOk X G c b) (bl30 X G c b) ln31 ck31 pf31
end LW
open PySem PySem.W PySem.Calls PyProof.Rows
theorem PySem.Challenge.cw_countrealm_k83_whole_steps_of_slopes_holds : PySem.Challenge.rw_countrealm_k83_whole_steps_of_slopes.Holds := by
  w_on; o_law
  refine HandSHeadRun.head_imp (r := OpenLaw.row PySem.Challenge.rw_countrealm_k83_whole_steps_of_slopes) (q := view (OpenLaw.row PySem.Challenge.rw_countrealm_k83_whole_steps_of_slopes).prog [0, 40]) (H := LW.hk_) (ob := LW.ob_) (M := 60000) (loose := LW.loose_) (d := HandSHeadRun.topDef (OpenLaw.row PySem.Challenge.rw_countrealm_k83_whole_steps_of_slopes).prog 40) (kwd := []) LW.ob_ok
     LW.run_ (by kernel_rfl) (by kernel_rfl) (by kernel_rfl) (by rfl) (by first | assumption | decide +kernel) (by decide +kernel) ⟨rfl, rfl, rfl, rfl, rfl, by decide +kernel⟩ ?hw ?hc
  case hw => w_witness2
  case hc => exact LW.law_ends

