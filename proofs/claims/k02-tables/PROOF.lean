import PyProof.Rows.All
import HandS.ForExc
import HandS.Comp
import HandS.Dict
import HandS.Iter
import HandS.More
import HandS.Style
import HandS.TupAny
import HandS.TupMul
import HandS.IsInst
import HandS.Conv
import HandS.Zip
import HandS.Sort
import HandS.Flow
import HandS.CallSlots
import HandS.TryMany
import HandS.ExcField
import HandS.Defaults
import HandS.Head2
import HandS.HeadHook2
import HandS.HeadEnd
import KE.DataEq
import KE.DataCmp
import KE.SortData
import HandS.ExcInit
import HandS.ExcIs
import HandS.Words
import HandS.Codes
import PySem.Challenge.RW_chambercuts_k02_tables
section
set_option linter.all false
set_option Elab.async false
set_option maxRecDepth 100000
set_option maxHeartbeats 4000000
/-! The value layer: Python values as plain Lean data, and how they lie in the abstract heap. -/
namespace Fx
open PySem PySem.Spec L2

/-- plain values: immutable, or never changed again -/
inductive D where
  | non | bl (b : Bool) | int (i : Int) | str (x : Str)
  | tup (ds : List D) | lst (ds : List D) | rng (lo hi : Int)
  | ins (c : Nat) (ds : List D)
deriving Inhabited

/-- values that a name owns alone (they may still change), or plain ones -/
inductive R where
  | val (d : D) | lst (ds : List D) | obj (c : Nat) (rs : List R)
deriving Inhabited

abbrev Env := List (Option R)

/-- the names' table: the written part, the classes, their fields -/
structure Nm where
  K : PySem.W.Frag
  cls : Nat → Addr
  flds : Nat → List Nat
  fname : Nat → Str
  xcls : Nat → Addr
  xfld : Nat → Str

def Nm.zip (T : Nm) (c : Nat) (xs : List V) : List (Str × V) := ((T.flds c).map T.fname).zip xs

variable {T : Nm}

mutual
inductive Rp (T : Nm) (F : Hp) : V → D → Prop
  | non : Rp T F .non .non
  | bl (b : Bool) : Rp T F (.bl b) (.bl b)
  | int (i : Int) : Rp T F (.int i) (.int i)
  | str (x : Str) : Rp T F (.str x) (.str x)
  | tup {a : Addr} {xs : List V} {ds : List D} : SqT T.K F a xs → RpL T F xs ds → Rp T F (.ref a) (.tup ds)
  | lst {a : Addr} {xs : List V} {ds : List D} : SqL T.K F a xs → RpL T F xs ds → Rp T F (.ref a) (.lst ds)
  | rng {a : Addr} {lo hi : Int} : F a = some (.rng lo hi) → Rp T F (.ref a) (.rng lo hi)
  | ins {a dx : Addr} {c : Nat} {xs : List V} {ds : List D} : F a = some (.ins (T.cls c) dx (T.zip c xs)) → xs.length = (T.flds c).length → RpL T F xs ds → Rp T F (.ref a) (.ins c ds)
inductive RpL (T : Nm) (F : Hp) : List V → List D → Prop
  | nil : RpL T F [] []
  | cons {v : V} {vs : List V} {d : D} {ds : List D} : Rp T F v d → RpL T F vs ds → RpL T F (v :: vs) (d :: ds)
end

theorem same_rd {H H' : Hp} {a : Addr} {o : HO} (e : Same H H') (h : Rd H a o) : Rd H' a o := by
  rcases h with h | ⟨u, h⟩
  · exact .inl (e _ _ h)
  · exact .inr ⟨u, e _ _ h⟩
theorem same_sqL {K : PySem.W.Frag} {H H' : Hp} {a : Addr} {xs : List V} (e : Same H H') (h : SqL K H a xs) : SqL K H' a xs := by
  rcases h with (h | ⟨o, h⟩) | h
  · exact .inl (.inl (e _ _ h))
  · exact .inl (.inr ⟨o, e _ _ h⟩)
  · exact .inr h
theorem same_sqT {K : PySem.W.Frag} {H H' : Hp} {a : Addr} {xs : List V} (e : Same H H') (h : SqT K H a xs) : SqT K H' a xs := by
  rcases h with (h | ⟨o, h⟩) | h
  · exact .inl (.inl (e _ _ h))
  · exact .inl (.inr ⟨o, e _ _ h⟩)
  · exact .inr h

mutual
theorem Rp.mono {F F' : Hp} (e : Same F F') : ∀ (d : D) (v : V), Rp T F v d → Rp T F' v d
  | .non, _, h => by cases h; exact .non
  | .bl b, _, h => by cases h; exact .bl b
  | .int i, _, h => by cases h; exact .int i
  | .str x, _, h => by cases h; exact .str x
  | .tup ds, _, h => by cases h with | tup h1 h2 => exact .tup (same_sqT e h1) (RpL.mono e ds _ h2)
  | .lst ds, _, h => by cases h with | lst h1 h2 => exact .lst (same_sqL e h1) (RpL.mono e ds _ h2)
  | .rng _ _, _, h => by cases h with | rng h1 => exact .rng (e _ _ h1)
  | .ins _ ds, _, h => by cases h with | ins h1 hl h2 => exact .ins (e _ _ h1) hl (RpL.mono e ds _ h2)
theorem RpL.mono {F F' : Hp} (e : Same F F') : ∀ (ds : List D) (vs : List V), RpL T F vs ds → RpL T F' vs ds
  | [], _, h => by cases h; exact .nil
  | d :: ds, _, h => by cases h with | cons h1 h2 => exact .cons (Rp.mono e d _ h1) (RpL.mono e ds _ h2)
end
theorem RpL.len {F : Hp} : ∀ {vs : List V} {ds : List D}, RpL T F vs ds → vs.length = ds.length
  | _, [], h => by cases h; rfl
  | _, d :: ds, h => by cases h with | cons h1 h2 => exact congrArg Nat.succ h2.len
theorem RpL.get {F : Hp} : ∀ {vs : List V} {ds : List D} {i : Nat} {d : D}, RpL T F vs ds → ds[i]? = some d → ∃ v, vs[i]? = some v ∧ Rp T F v d
  | _, [], i, d, h, e => by simp at e
  | _, d :: ds, 0, d', h, e => by
    cases h with | cons h1 h2 => simp at e; subst e; exact ⟨_, rfl, h1⟩
  | _, d :: ds, i + 1, d', h, e => by
    cases h with | cons h1 h2 =>
      obtain ⟨v, e1, e2⟩ := h2.get (i := i) (by simpa using e)
      exact ⟨v, by simpa using e1, e2⟩
theorem RpL.app {F : Hp} : ∀ {vs : List V} {ds : List D} {ws : List V} {es : List D}, RpL T F vs ds → RpL T F ws es → RpL T F (vs ++ ws) (ds ++ es)
  | _, [], _, _, h, k => by cases h; exact k
  | _, d :: ds, _, _, h, k => by cases h with | cons h1 h2 => exact .cons h1 (h2.app k)
theorem RpL.take {F : Hp} : ∀ {vs : List V} {ds : List D} (n : Nat), RpL T F vs ds → RpL T F (vs.take n) (ds.take n)
  | _, _, 0, _ => .nil
  | _, [], n + 1, h => by cases h; exact .nil
  | _, d :: ds, n + 1, h => by cases h with | cons h1 h2 => exact .cons h1 (h2.take n)
theorem RpL.drop {F : Hp} : ∀ {vs : List V} {ds : List D} (n : Nat), RpL T F vs ds → RpL T F (vs.drop n) (ds.drop n)
  | _, _, 0, h => h
  | _, [], n + 1, h => by cases h; exact .nil
  | _, d :: ds, n + 1, h => by cases h with | cons h1 h2 => exact h2.drop n
theorem RpL.set {F : Hp} {v : V} {d : D} (r : Rp T F v d) : ∀ {vs : List V} {ds : List D} (i : Nat), RpL T F vs ds → RpL T F (vs.set i v) (ds.set i d)
  | _, [], i, h => by cases h; exact .nil
  | _, _ :: _, 0, h => by cases h with | cons h1 h2 => exact .cons r h2
  | _, _ :: _, i + 1, h => by cases h with | cons h1 h2 => exact .cons h1 (RpL.set r i h2)
theorem RpL.rev {F : Hp} : ∀ {vs : List V} {ds : List D}, RpL T F vs ds → RpL T F vs.reverse ds.reverse
  | _, [], h => by cases h; exact .nil
  | _, d :: ds, h => by cases h with | cons h1 h2 => rw [List.reverse_cons, List.reverse_cons]; exact h2.rev.app (.cons h1 .nil)

/-! ### owned values: what they are, where they stand -/
mutual
/-- an owned value as a plain one -/
def R.toD : R → D
  | .val d => d
  | .lst ds => .lst ds
  | .obj c rs => .ins c (R.toDs rs)
def R.toDs : List R → List D
  | [] => []
  | r :: rs => r.toD :: R.toDs rs
end
mutual
/-- fp: the owned addresses -/
inductive RR (T : Nm) (F H : Hp) : R → V → List Addr → Prop
  | val {d : D} {v : V} : Rp T F v d → RR T F H (.val d) v []
  | lst {a : Addr} {xs : List V} {ds : List D} : H a = some (.lst xs) → RpL T F xs ds → RR T F H (.lst ds) (.ref a) [a]
  | obj {a dx : Addr} {c : Nat} {xs : List V} {rs : List R} {fp : List Addr} : H a = some (.ins (T.cls c) dx (T.zip c xs)) → xs.length ≤ (T.flds c).length → RRL T F H rs xs fp → RR T F H (.obj c rs) (.ref a) (a :: fp)
inductive RRL (T : Nm) (F H : Hp) : List R → List V → List Addr → Prop
  | nil : RRL T F H [] [] []
  | cons {r : R} {rs : List R} {v : V} {vs : List V} {fp gp : List Addr} : RR T F H r v fp → RRL T F H rs vs gp → RRL T F H (r :: rs) (v :: vs) (fp ++ gp)
end
mutual
theorem RR.keep {F F' H H' : Hp} (e : Same F F') : ∀ (r : R) (v : V) (fp : List Addr), (∀ a ∈ fp, H' a = H a) → RR T F H r v fp → RR T F' H' r v fp
  | .val d, _, _, _, h => by cases h with | val h1 => exact .val (h1.mono e)
  | .lst ds, _, _, k, h => by cases h with | lst h1 h2 => exact .lst ((k _ (by simp)).trans h1) (RpL.mono e _ _ h2)
  | .obj c rs, _, _, k, h => by
    cases h with | obj h1 hl h2 => exact .obj ((k _ (by simp)).trans h1) hl (RRL.keep e rs _ _ (fun a ha => k a (List.mem_cons_of_mem _ ha)) h2)
theorem RRL.keep {F F' H H' : Hp} (e : Same F F') : ∀ (rs : List R) (vs : List V) (fp : List Addr), (∀ a ∈ fp, H' a = H a) → RRL T F H rs vs fp → RRL T F' H' rs vs fp
  | [], _, _, _, h => by cases h; exact .nil
  | r :: rs, _, _, k, h => by
    cases h with | cons h1 h2 => exact .cons (RR.keep e r _ _ (fun a ha => k a (List.mem_append_left _ ha)) h1) (RRL.keep e rs _ _ (fun a ha => k a (List.mem_append_right _ ha)) h2)
end
mutual
theorem RR.at {F H : Hp} : ∀ (r : R) (v : V) (fp : List Addr), RR T F H r v fp → ∀ a ∈ fp, ∃ o, H a = some o
  | .val d, _, _, h => by cases h with | val h1 => intro a ha; cases ha
  | .lst ds, _, _, h => by cases h with | lst h1 h2 => intro b ha; simp at ha; subst ha; exact ⟨_, h1⟩
  | .obj c rs, _, _, h => by
    cases h with | obj h1 hl h2 =>
      intro b ha
      rcases List.mem_cons.mp ha with e | ha
      · subst e; exact ⟨_, h1⟩
      · exact RRL.at rs _ _ h2 b ha
theorem RRL.at {F H : Hp} : ∀ (rs : List R) (vs : List V) (fp : List Addr), RRL T F H rs vs fp → ∀ a ∈ fp, ∃ o, H a = some o
  | [], _, _, h => by cases h; intro a ha; cases ha
  | r :: rs, _, _, h => by
    cases h with | cons h1 h2 =>
      intro b hb
      rcases List.mem_append.mp hb with hb | hb
      · exact RR.at r _ _ h1 b hb
      · exact RRL.at rs _ _ h2 b hb
end
theorem RRL.len {F H : Hp} : ∀ {rs : List R} {vs : List V} {fp : List Addr}, RRL T F H rs vs fp → rs.length = vs.length
  | [], _, _, h => by cases h; rfl
  | _ :: _, _, _, h => by cases h with | cons h1 h2 => exact congrArg Nat.succ h2.len

/-- frozen: what is told of H at fp from now on is told of F -/
def frzAt (F H : Hp) (fp : List Addr) : Hp := fun a => if a ∈ fp then H a else F a
theorem frzAt_in {F H : Hp} {fp : List Addr} {a : Addr} (h : a ∈ fp) : frzAt F H fp a = H a := if_pos h
theorem frzAt_out {F H : Hp} {fp : List Addr} {a : Addr} (h : a ∉ fp) : frzAt F H fp a = F a := if_neg h
theorem frzAt_same {F H : Hp} {fp : List Addr} (n : ∀ a ∈ fp, F a = none) : Same F (frzAt F H fp) := fun b o e => by
  rw [frzAt_out fun z => by rw [n b z] at e; cases e]
  exact e
theorem frzAt_sub {F H : Hp} {fp : List Addr} (s : Same F H) : Same (frzAt F H fp) H := fun b o e => by
  by_cases h : b ∈ fp
  · rw [frzAt_in h] at e; exact e
  · rw [frzAt_out h] at e; exact s _ _ e
/-- a whole object: every field is there -/
inductive R.Full (T : Nm) : R → Prop
  | val (d : D) : R.Full T (.val d)
  | lst (ds : List D) : R.Full T (.lst ds)
  | obj {c : Nat} {rs : List R} : rs.length = (T.flds c).length → (∀ r ∈ rs, R.Full T r) → R.Full T (.obj c rs)
mutual
def R.fullB (flds : Nat → List Nat) : R → Bool
  | .val _ => true
  | .lst _ => true
  | .obj c rs => decide (rs.length = (flds c).length) && R.fullBs flds rs
def R.fullBs (flds : Nat → List Nat) : List R → Bool
  | [] => true
  | r :: rs => r.fullB flds && R.fullBs flds rs
end
mutual
theorem RR.toD {F H G : Hp} (e1 : Same F G) : ∀ (r : R) (v : V) (fp : List Addr), (∀ a ∈ fp, G a = H a) → r.fullB T.flds = true → RR T F H r v fp → Rp T G v r.toD
  | .val d, _, _, _, _, h => by cases h with | val h1 => exact h1.mono e1
  | .lst ds, _, _, k, _, h => by
    cases h with | lst h1 h2 => exact .lst (.inl (.inl ((k _ (by simp)).trans h1))) (RpL.mono e1 _ _ h2)
  | .obj c rs, _, _, k, f, h => by
    cases h with | obj h1 hl h2 =>
      simp only [R.fullB, Bool.and_eq_true, decide_eq_true_eq] at f
      exact .ins ((k _ (by simp)).trans h1) (by rw [← h2.len, f.1]) (RRL.toD e1 rs _ _ (fun a ha => k a (List.mem_cons_of_mem _ ha)) f.2 h2)
theorem RRL.toD {F H G : Hp} (e1 : Same F G) : ∀ (rs : List R) (vs : List V) (fp : List Addr), (∀ a ∈ fp, G a = H a) → R.fullBs T.flds rs = true → RRL T F H rs vs fp → RpL T G vs (R.toDs rs)
  | [], _, _, _, _, h => by cases h; exact .nil
  | r :: rs, _, _, k, f, h => by
    cases h with | cons h1 h2 =>
      simp only [R.fullBs, Bool.and_eq_true] at f
      exact .cons (RR.toD e1 r _ _ (fun a ha => k a (List.mem_append_left _ ha)) f.1 h1) (RRL.toD e1 rs _ _ (fun a ha => k a (List.mem_append_right _ ha)) f.2 h2)
end

/-! ### all live values together -/
abbrev Lv := List (R × V)
inductive RE (T : Nm) (F H : Hp) : Lv → List Addr → Prop
  | nil : RE T F H [] []
  | cons {r : R} {v : V} {L : Lv} {fp gp : List Addr} : RR T F H r v fp → RE T F H L gp → RE T F H ((r, v) :: L) (fp ++ gp)
theorem RE.keep {F F' H H' : Hp} (e : Same F F') : ∀ {L : Lv} {fp : List Addr}, (∀ a ∈ fp, H' a = H a) → RE T F H L fp → RE T F' H' L fp
  | [], _, _, h => by cases h; exact .nil
  | _ :: _, _, k, h => by
    cases h with | cons h1 h2 => exact .cons (h1.keep e _ _ _ fun a ha => k a (List.mem_append_left _ ha)) (h2.keep e fun a ha => k a (List.mem_append_right _ ha))
theorem RE.at {F H : Hp} : ∀ {L : Lv} {fp : List Addr}, RE T F H L fp → ∀ a ∈ fp, ∃ o, H a = some o
  | [], _, h => by cases h; intro a ha; cases ha
  | _ :: _, _, h => by
    cases h with | cons h1 h2 =>
      intro b hb
      rcases List.mem_append.mp hb with hb | hb
      · exact RR.at _ _ _ h1 b hb
      · exact h2.at b hb
theorem RE.perm {F H : Hp} {L L' : Lv} (p : L.Perm L') : ∀ {fp : List Addr}, RE T F H L fp → ∃ fp', RE T F H L' fp' ∧ fp.Perm fp' := by
  induction p with
  | nil => intro fp h; exact ⟨fp, h, .refl _⟩
  | cons x p ih =>
    intro fp h
    cases h with | cons h1 h2 =>
      obtain ⟨fp', h3, p3⟩ := ih h2
      exact ⟨_, .cons h1 h3, List.Perm.append_left _ p3⟩
  | swap x y l =>
    intro fp h
    cases h with | cons h1 h2 =>
      cases h2 with | cons h3 h4 =>
        refine ⟨_, .cons h3 (.cons h1 h4), ?_⟩
        rw [← List.append_assoc, ← List.append_assoc]
        exact List.Perm.append_right _ List.perm_append_comm
  | trans p q ih1 ih2 =>
    intro fp h
    obtain ⟨fp1, h1, p1⟩ := ih1 h
    obtain ⟨fp2, h2, p2⟩ := ih2 h1
    exact ⟨fp2, h2, p1.trans p2⟩

/-- F: what never changes again; L: the live values. The owned ones stand apart from F and from each other -/
def Reps (T : Nm) (F H : Hp) (L : Lv) : Prop := Same F H ∧ ∃ fp, RE T F H L fp ∧ fp.Nodup ∧ ∀ a ∈ fp, F a = none
section
variable {F H : Hp} {L L' : Lv} {r : R} {v : V} {d : D}
theorem Reps.perm (h : Reps T F H L) (p : L.Perm L') : Reps T F H L' := by
  obtain ⟨s, fp, h1, nd, av⟩ := h
  obtain ⟨fp', h2, q⟩ := h1.perm p
  exact ⟨s, fp', h2, q.nodup_iff.mp nd, fun a ha => av a (q.mem_iff.mpr ha)⟩
theorem Reps.tail (h : Reps T F H ((r, v) :: L)) : Reps T F H L := by
  obtain ⟨s, fp, h1, nd, av⟩ := h
  cases h1 with | cons h2 h3 => exact ⟨s, _, h3, (List.nodup_append.mp nd).2.1, fun a ha => av a (List.mem_append_right _ ha)⟩
theorem Reps.drop {M : Lv} (h : Reps T F H (M ++ L)) : Reps T F H L := by
  induction M with
  | nil => exact h
  | cons x M ih => exact ih h.tail
theorem Reps.val (h : Reps T F H L) (p : Rp T F v d) : Reps T F H ((.val d, v) :: L) := by
  obtain ⟨s, fp, h1, nd, av⟩ := h
  exact ⟨s, [] ++ fp, .cons (.val p) h1, nd, av⟩
theorem Reps.rp (h : Reps T F H ((.val d, v) :: L)) : Rp T F v d := by
  obtain ⟨s, fp, h1, nd, av⟩ := h
  cases h1 with | cons h2 h3 => cases h2 with | val h4 => exact h4
theorem Reps.sub (h : Reps T F H L) : Same F H := h.1
/-- a new immutable object -/
theorem Reps.newF {p : Addr} {o : HO} (h : Reps T F H L) (np : H p = none) : Reps T (upd F p o) (upd H p o) L ∧ Same F (upd F p o) := by
  obtain ⟨s, fp, h1, nd, av⟩ := h
  have nF : F p = none := by
    cases e : F p with
    | none => rfl
    | some o' => rw [s _ _ e] at np; cases np
  have s1 : Same F (upd F p o) := fun b o' e => by rw [upd_ne (ne_of_none e nF)]; exact e
  have nin : ∀ a ∈ fp, a ≠ p := fun a ha z => by
    obtain ⟨o', e⟩ := h1.at a ha
    rw [z, np] at e; cases e
  refine ⟨⟨fun b o' e => ?_, fp, h1.keep s1 fun a ha => upd_ne (nin a ha), nd, fun a ha => by rw [upd_ne (nin a ha)]; exact av a ha⟩, s1⟩
  by_cases z : b = p
  · subst z; rw [upd_same] at e ⊢; exact e
  · rw [upd_ne z] at e ⊢; exact s _ _ e
/-- a new object that nothing of L or F speaks of -/
theorem Reps.newH {p : Addr} {o : HO} (h : Reps T F H L) (np : H p = none) : Reps T F (upd H p o) L := by
  obtain ⟨s, fp, h1, nd, av⟩ := h
  have nin : ∀ a ∈ fp, a ≠ p := fun a ha z => by
    obtain ⟨o', e⟩ := h1.at a ha
    rw [z, np] at e; cases e
  exact ⟨fun b o' e => by rw [upd_ne (ne_of_none (s _ _ e) np)]; exact s _ _ e, fp, h1.keep (Same.refl _) fun a ha => upd_ne (nin a ha), nd, av⟩
/-- the heap has grown -/
theorem Reps.grow {H' : Hp} (h : Reps T F H L) (g : Same H H') : Reps T F H' L := by
  obtain ⟨s, fp, h1, nd, av⟩ := h
  refine ⟨fun b o e => g _ _ (s _ _ e), fp, h1.keep (Same.refl _) fun a ha => ?_, nd, av⟩
  obtain ⟨o, e⟩ := h1.at a ha
  rw [e]; exact g _ _ e
/-- a new owned list -/
theorem Reps.own {p : Addr} {xs : List V} {ds : List D} (h : Reps T F H L) (np : H p = none) (r : RpL T F xs ds) : Reps T F (upd H p (.lst xs)) ((.lst ds, .ref p) :: L) := by
  have h' := h
  obtain ⟨s, fp, h1, nd, av⟩ := h
  obtain ⟨s2, _⟩ := h'.newH (o := .lst xs) np
  have nin : ∀ a ∈ fp, a ≠ p := fun a ha z => by
    obtain ⟨o', e⟩ := h1.at a ha
    rw [z, np] at e; cases e
  have nF : F p = none := by
    cases e : F p with
    | none => rfl
    | some o' => rw [s _ _ e] at np; cases np
  refine ⟨s2, [p] ++ fp, .cons (.lst upd_same r) (h1.keep (Same.refl _) fun a ha => upd_ne (nin a ha)), ?_, fun a ha => ?_⟩
  · exact List.nodup_cons.mpr ⟨fun z => nin p z rfl, nd⟩
  · rcases List.mem_cons.mp ha with z | z
    · rw [z]; exact nF
    · exact av a z
/-- an owned list is changed in place -/
theorem Reps.put {p : Addr} {xs : List V} {ds es : List D} (h : Reps T F H ((.lst ds, .ref p) :: L)) (r : RpL T F xs es) : Reps T F (upd H p (.lst xs)) ((.lst es, .ref p) :: L) := by
  obtain ⟨s, fp, h1, nd, av⟩ := h
  cases h1 with | cons h2 h3 =>
    cases h2 with | lst h4 h5 =>
      have nF := av p (by simp)
      have nd' := List.nodup_cons.mp (show (p :: _).Nodup from nd)
      have nin : ∀ a ∈ _, a ≠ p := fun a ha z => nd'.1 (z ▸ ha)
      exact ⟨fun b o e => by rw [upd_ne (ne_of_none e nF)]; exact s _ _ e, [p] ++ _, .cons (.lst upd_same r) (h3.keep (Same.refl _) fun a ha => upd_ne (nin a ha)), nd, av⟩
theorem Reps.lstAt {p : Addr} {ds : List D} (h : Reps T F H ((.lst ds, .ref p) :: L)) : ∃ xs, H p = some (.lst xs) ∧ RpL T F xs ds := by
  obtain ⟨s, fp, h1, nd, av⟩ := h
  cases h1 with | cons h2 h3 => cases h2 with | lst h4 h5 => exact ⟨_, h4, h5⟩
theorem Reps.lstRef {ds : List D} (h : Reps T F H ((.lst ds, v) :: L)) : ∃ p, v = .ref p := by
  obtain ⟨s, fp, h1, nd, av⟩ := h
  cases h1 with | cons h2 h3 => cases h2 with | lst h4 h5 => exact ⟨_, rfl⟩
/-- what is owned never changes again -/
theorem Reps.freeze (h : Reps T F H ((r, v) :: L)) (f : r.fullB T.flds = true) : ∃ F', Same F F' ∧ Reps T F' H ((.val r.toD, v) :: L) := by
  obtain ⟨s, fp, h1, nd, av⟩ := h
  cases h1 with | @cons _ _ _ f1 f2 h2 h3 =>
    have nd2 := List.nodup_append.mp nd
    have n1 : ∀ a ∈ f1, F a = none := fun a ha => av a (List.mem_append_left _ ha)
    have s1 : Same F (frzAt F H f1) := frzAt_same n1
    refine ⟨frzAt F H f1, s1, frzAt_sub s, [] ++ f2, .cons (.val (RR.toD s1 r v f1 (fun a ha => frzAt_in ha) f h2)) (h3.keep s1 fun _ _ => rfl), nd2.2.1, fun a ha => ?_⟩
    have ha : a ∈ f2 := ha
    rw [frzAt_out fun z => nd2.2.2 a z a ha rfl]
    exact av a (List.mem_append_right _ ha)
/-- an owned value as a plain one, for a moment -/
theorem Reps.look (h : Reps T F H ((r, v) :: L)) (f : r.fullB T.flds = true) : Rp T H v r.toD := by
  obtain ⟨F', _, h'⟩ := h.freeze f
  exact h'.rp.mono h'.sub
end

/-! ### the names of a body -/
/-- which live values the slots hold -/
inductive Sl : Env → St → Lv → Prop
  | nil : Sl [] [] []
  | non {ρ : Env} {σ : St} {L : Lv} {x : Option V} : Sl ρ σ L → Sl (none :: ρ) (x :: σ) L
  | som {ρ : Env} {σ : St} {L : Lv} {r : R} {v : V} : Sl ρ σ L → Sl (some r :: ρ) (some v :: σ) ((r, v) :: L)
theorem Sl.len : ∀ {ρ : Env} {σ : St} {L : Lv}, Sl ρ σ L → ρ.length = σ.length
  | _, _, _, .nil => rfl
  | _, _, _, .non h => congrArg Nat.succ h.len
  | _, _, _, .som h => congrArg Nat.succ h.len
/-- the state of a body: temporaries and outer values M, the names -/
def Cf (T : Nm) (F H : Hp) (M : Lv) (ρ : Env) (σ : St) : Prop := ∃ L, Sl ρ σ L ∧ Reps T F H (M ++ L)
theorem Sl.take : ∀ {ρ : Env} {σ : St} {L : Lv} {i : Nat} {r : R}, Sl ρ σ L → ρ[i]? = some (some r) →
    ∃ v L', σ[i]? = some (some v) ∧ L.Perm ((r, v) :: L') ∧ Sl (ρ.set i none) σ L' ∧ ∀ r' v', ∃ L'', Sl (ρ.set i (some r')) (σ.set i (some v')) L'' ∧ L''.Perm ((r', v') :: L')
  | _, _, _, i, r, .nil, e => by simp at e
  | _, _, _, 0, r, .non h, e => by simp at e
  | _, _, _, 0, r, .som (v := v) h, e => by
    simp at e; subst e
    exact ⟨v, _, rfl, .refl _, .non h, fun r' v' => ⟨_, .som h, .refl _⟩⟩
  | _, _, _, i + 1, r, .non h, e => by
    obtain ⟨v, L', e1, p, s1, k⟩ := h.take (i := i) (by simpa using e)
    refine ⟨v, L', by simpa using e1, p, .non s1, fun r' v' => ?_⟩
    obtain ⟨L'', s2, p2⟩ := k r' v'
    exact ⟨L'', .non s2, p2⟩
  | _, _, _, i + 1, r, .som (r := r0) (v := v0) h, e => by
    obtain ⟨v, L', e1, p, s1, k⟩ := h.take (i := i) (by simpa using e)
    refine ⟨v, (r0, v0) :: L', by simpa using e1, (List.Perm.cons _ p).trans (List.Perm.swap _ _ _), .som s1, fun r' v' => ?_⟩
    obtain ⟨L'', s2, p2⟩ := k r' v'
    exact ⟨(r0, v0) :: L'', .som s2, (List.Perm.cons _ p2).trans (List.Perm.swap _ _ _)⟩
/-- a slot is stored anew -/
theorem Sl.store : ∀ {ρ : Env} {σ : St} {L : Lv} (i : Nat) (r : R) (v : V), Sl ρ σ L → i < σ.length →
    ∃ L' L'' K, Sl (ρ.set i (some r)) (σ.set i (some v)) L'' ∧ L.Perm (K ++ L') ∧ L''.Perm ((r, v) :: L')
  | _, _, _, i, r, v, .nil, hi => by simp at hi
  | _, _, _, 0, r, v, .non h, _ => ⟨_, _, [], .som h, .refl _, .refl _⟩
  | _, _, _, 0, r, v, .som (r := r0) (v := v0) h, _ => ⟨_, _, [(r0, v0)], .som h, .refl _, .refl _⟩
  | _, _, _, i + 1, r, v, .non h, hi => by
    obtain ⟨L', L'', K, s, p, q⟩ := Sl.store i r v h (by simpa using hi)
    exact ⟨L', L'', K, .non s, p, q⟩
  | _, _, _, i + 1, r, v, .som (r := r0) (v := v0) h, hi => by
    obtain ⟨L', L'', K, s, p, q⟩ := Sl.store i r v h (by simpa using hi)
    exact ⟨(r0, v0) :: L', (r0, v0) :: L'', K, .som s, (List.Perm.cons _ p).trans List.perm_middle.symm, (List.Perm.cons _ q).trans (List.Perm.swap _ _ _)⟩
/-- a slot is forgotten -/
theorem Sl.forget : ∀ {ρ : Env} {σ : St} {L : Lv} (i : Nat) (x : Option V), Sl ρ σ L → ∃ L' K, Sl (ρ.set i none) (σ.set i x) L' ∧ L.Perm (K ++ L')
  | _, _, _, i, x, .nil => ⟨[], [], by simpa using Sl.nil, .refl _⟩
  | _, _, _, 0, x, .non h => ⟨_, [], .non h, .refl _⟩
  | _, _, _, 0, x, .som (r := r0) (v := v0) h => ⟨_, [(r0, v0)], .non h, .refl _⟩
  | _, _, _, i + 1, x, .non h => by
    obtain ⟨L', K, s, p⟩ := Sl.forget i x h
    exact ⟨L', K, .non s, p⟩
  | _, _, _, i + 1, x, .som (r := r0) (v := v0) h => by
    obtain ⟨L', K, s, p⟩ := Sl.forget i x h
    exact ⟨(r0, v0) :: L', K, .som s, (List.Perm.cons _ p).trans List.perm_middle.symm⟩
section
variable {F H : Hp} {M : Lv} {ρ : Env} {σ : St} {r : R} {v : V} {d : D} {i : Nat}
theorem Cf.len (h : Cf T F H M ρ σ) : ρ.length = σ.length := let ⟨_, s, _⟩ := h; s.len
theorem Cf.sub (h : Cf T F H M ρ σ) : Same F H := let ⟨_, _, q⟩ := h; q.sub
theorem Cf.tail (h : Cf T F H ((r, v) :: M) ρ σ) : Cf T F H M ρ σ := let ⟨L, s, q⟩ := h; ⟨L, s, Reps.tail (L := M ++ L) q⟩
theorem Cf.val (h : Cf T F H M ρ σ) (p : Rp T F v d) : Cf T F H ((.val d, v) :: M) ρ σ := let ⟨L, s, q⟩ := h; ⟨L, s, Reps.val (L := M ++ L) q p⟩
theorem Cf.rp (h : Cf T F H ((.val d, v) :: M) ρ σ) : Rp T F v d := let ⟨L, _, q⟩ := h; Reps.rp (L := M ++ L) q
theorem Cf.permM {M' : Lv} (h : Cf T F H M ρ σ) (p : M.Perm M') : Cf T F H M' ρ σ := let ⟨L, s, q⟩ := h; ⟨L, s, q.perm (p.append_right L)⟩
theorem Cf.swap {x y : R × V} (h : Cf T F H (x :: y :: M) ρ σ) : Cf T F H (y :: x :: M) ρ σ := h.permM (List.Perm.swap _ _ _)
theorem Cf.freeze (h : Cf T F H ((r, v) :: M) ρ σ) (f : r.fullB T.flds = true) : ∃ F', Same F F' ∧ Cf T F' H ((.val r.toD, v) :: M) ρ σ := by
  obtain ⟨L, s, q⟩ := h
  obtain ⟨F', e, q'⟩ := Reps.freeze (L := M ++ L) q f
  exact ⟨F', e, L, s, q'⟩
theorem Cf.look (h : Cf T F H ((r, v) :: M) ρ σ) (f : r.fullB T.flds = true) : Rp T H v r.toD := let ⟨L, _, q⟩ := h; Reps.look (L := M ++ L) q f
theorem Cf.newF {p : Addr} {o : HO} (h : Cf T F H M ρ σ) (np : H p = none) : Cf T (upd F p o) (upd H p o) M ρ σ ∧ Same F (upd F p o) := by
  obtain ⟨L, s, q⟩ := h
  obtain ⟨q', e⟩ := q.newF (o := o) np
  exact ⟨⟨L, s, q'⟩, e⟩
theorem Cf.grow {H' : Hp} (h : Cf T F H M ρ σ) (g : Same H H') : Cf T F H' M ρ σ := let ⟨L, s, q⟩ := h; ⟨L, s, q.grow g⟩
theorem Cf.own {p : Addr} {xs : List V} {ds : List D} (h : Cf T F H M ρ σ) (np : H p = none) (r : RpL T F xs ds) : Cf T F (upd H p (.lst xs)) ((.lst ds, .ref p) :: M) ρ σ :=
  let ⟨L, s, q⟩ := h; ⟨L, s, Reps.own (L := M ++ L) q np r⟩
theorem Cf.put {p : Addr} {xs : List V} {ds es : List D} (h : Cf T F H ((.lst ds, .ref p) :: M) ρ σ) (r : RpL T F xs es) : Cf T F (upd H p (.lst xs)) ((.lst es, .ref p) :: M) ρ σ :=
  let ⟨L, s, q⟩ := h; ⟨L, s, Reps.put (L := M ++ L) q r⟩
theorem Cf.lstRef {ds : List D} (h : Cf T F H ((.lst ds, v) :: M) ρ σ) : ∃ p, v = .ref p := let ⟨L, _, q⟩ := h; Reps.lstRef (L := M ++ L) q
theorem Cf.lstAt {p : Addr} {ds : List D} (h : Cf T F H ((.lst ds, .ref p) :: M) ρ σ) : ∃ xs, H p = some (.lst xs) ∧ RpL T F xs ds := let ⟨L, _, q⟩ := h; Reps.lstAt (L := M ++ L) q
/-- the name's value is taken out of its slot -/
theorem Cf.out (h : Cf T F H M ρ σ) (e : ρ[i]? = some (some r)) : ∃ v, σ[i]? = some (some v) ∧ Cf T F H ((r, v) :: M) (ρ.set i none) σ := by
  obtain ⟨L, s, q⟩ := h
  obtain ⟨v, L', e1, p, s1, _⟩ := s.take e
  exact ⟨v, e1, L', s1, q.perm ((List.Perm.append_left M p).trans List.perm_middle)⟩
theorem Cf.slot (h : Cf T F H M ρ σ) (e : ρ[i]? = some (some r)) : ∃ v, σ[i]? = some (some v) := let ⟨v, e1, _⟩ := h.out e; ⟨v, e1⟩
/-- stored into a slot -/
theorem Cf.into (h : Cf T F H ((r, v) :: M) ρ σ) (hi : i < σ.length) : Cf T F H M (ρ.set i (some r)) (σ.set i (some v)) := by
  obtain ⟨L, s, q⟩ := h
  obtain ⟨L', L'', K, s1, p1, p2⟩ := Sl.store i r v s hi
  refine ⟨L'', s1, ?_⟩
  have q1 : Reps T F H ((r, v) :: (M ++ (K ++ L'))) := q.perm (List.Perm.cons _ (List.Perm.append_left M p1))
  have q2 : Reps T F H (K ++ ((r, v) :: (M ++ L'))) := q1.perm (by
    refine (List.Perm.cons _ ?_).trans List.perm_middle.symm
    rw [← List.append_assoc, ← List.append_assoc]
    exact List.Perm.append_right _ List.perm_append_comm)
  exact q2.drop.perm (List.perm_middle.symm.trans (List.Perm.append_left M p2.symm))
theorem set_same {α : Type} : ∀ {l : List α} {i : Nat} {x : α}, l[i]? = some x → l.set i x = l
  | [], _, _, e => by simp at e
  | a :: l, 0, x, e => by simp at e; subst e; rfl
  | a :: l, i + 1, x, e => by show a :: l.set i x = _; rw [set_same (by simpa using e)]
/-- back into its slot -/
theorem Cf.back {r' : R} (h : Cf T F H ((r', v) :: M) (ρ.set i none) σ) (e : σ[i]? = some (some v)) : Cf T F H M (ρ.set i (some r')) σ := by
  have hi : i < σ.length := (List.getElem?_eq_some_iff.mp e).1
  have q := h.into (i := i) hi
  rw [set_same e, List.set_set] at q
  exact q
theorem Cf.forget (h : Cf T F H M ρ σ) (x : Option V) : Cf T F H M (ρ.set i none) (σ.set i x) := by
  obtain ⟨L, s, q⟩ := h
  obtain ⟨L', K, s1, p⟩ := Sl.forget i x s
  refine ⟨L', s1, ?_⟩
  have q1 : Reps T F H (K ++ (M ++ L')) := q.perm ((List.Perm.append_left M p).trans (by
    rw [← List.append_assoc, ← List.append_assoc]
    exact List.Perm.append_right _ List.perm_append_comm))
  exact q1.drop
/-- a name's value is read: what is owned is frozen -/
theorem Cf.read (h : Cf T F H M ρ σ) (e : ρ[i]? = some (some r)) (f : r.fullB T.flds = true) : ∃ v F', σ[i]? = some (some v) ∧ Same F F' ∧ Cf T F' H ((.val r.toD, v) :: M) (ρ.set i (some (.val r.toD))) σ := by
  obtain ⟨v, e1, h1⟩ := h.out e
  obtain ⟨F', s, h2⟩ := h1.freeze f
  refine ⟨v, F', e1, s, ?_⟩
  exact Cf.back (h2.val h2.rp) e1
end
end Fx
end
section
set_option linter.all false
set_option Elab.async false
set_option maxRecDepth 100000
set_option maxHeartbeats 4000000
/-! The small language and what it computes. -/
namespace Fx
open PySem PySem.Spec L2

/-! ### data -/
mutual
def D.py : D → PyData
  | .non => .none
  | .bl b => .bool b
  | .int i => .int i
  | .str x => .str x
  | .tup ds => .tuple (D.pys ds)
  | .lst ds => .list (D.pys ds)
  | .rng _ _ => .dict []
  | .ins _ _ => .dict []
def D.pys : List D → List PyData
  | [] => []
  | d :: ds => d.py :: D.pys ds
end
mutual
/-- no instance, no range within -/
def D.plain : D → Bool
  | .non => true
  | .bl _ => true
  | .int _ => true
  | .str _ => true
  | .tup ds => D.plains ds
  | .lst ds => D.plains ds
  | .rng _ _ => false
  | .ins _ _ => false
def D.plains : List D → Bool
  | [] => true
  | d :: ds => d.plain && D.plains ds
end
mutual
def D.depth : D → Nat
  | .tup ds => D.depths ds + 1
  | .lst ds => D.depths ds + 1
  | _ => 0
def D.depths : List D → Nat
  | [] => 0
  | d :: ds => max d.depth (D.depths ds)
end
mutual
/-- Python's == of plain data -/
def D.eqv : D → D → Bool
  | .non, .non => true
  | .bl a, .bl b => a == b
  | .bl a, .int j => (if a then 1 else 0) == j
  | .int i, .bl b => i == (if b then 1 else 0)
  | .int i, .int j => i == j
  | .str x, .str y => x == y
  | .lst xs, .lst ys => D.eqvs xs ys
  | .tup xs, .tup ys => D.eqvs xs ys
  | _, _ => false
def D.eqvs : List D → List D → Bool
  | [], [] => true
  | x :: xs, y :: ys => x.eqv y && D.eqvs xs ys
  | [], _ :: _ => false
  | _ :: _, [] => false
end

abbrev LINE : Nat := 16777216

/-! ### the language -/
/-- built-in functions that are called by name -/
inductive BF where
  | len | abs | int | str | list | tuple | all | any | sum | range | sorted | max | min
deriving DecidableEq
/-- what isinstance is asked for -/
inductive IsT where
  | int | bool | tuple | list | str | cls (c : Nat) | listTuple
deriving DecidableEq
/-- a target: a name, a tuple of names -/
inductive Tg where
  | one (i : Nat) | many (is : List Nat)
deriving DecidableEq

mutual
inductive IE where
  | var (i : Nat) | cst (d : D) | glob (g : Nat)
  | tup (es : IEs) | lst (es : IEs)
  | bin (op : Operator) (a b : IE) | neg (a : IE)
  | bop (isAnd : Bool) (es : IEs) | nt (a : IE)
  | cmp (op : CmpOp) (a b : IE) | eqo (a b : IE) | cmp2 (o1 o2 : CmpOp) (a b c : IE)
  | ife (c a b : IE)
  | idx (a b : IE) | slc (a : IE) (lo hi : IO) | rev (a : IE)
  | attr (a : IE) (f : Nat)
  | call (f : Nat) (es : IEs) | make (c : Nat) (es : IEs) | cb (b : BF) (es : IEs)
  | isi (a : IE) (t : IsT)
  | comp (elt : IE) (own : List Nat) (tg : Tg) (src : II) (c : IO)
  | comp2 (elt : IE) (own own1 : List Nat) (tg : Tg) (src : II) (tg1 : Tg) (src1 : II) (c : IO)
inductive IO where
  | non | som (e : IE)
inductive IEs where
  | nil | cons (e : IE) (es : IEs)
inductive II where
  | seq (e : IE) | enum (e : IE) | zip (a b : IE)
end

/-- what an except suite returns: a constant, the error's field, a pair of a constant and it; isinstance(e, C) and e.f == d -/
inductive HE where
  | cst (d : D) | fld (n : Str) | pair (d : D) (n : Str) | isEq (c : Nat) (n : Str) (d : D)
/-- an except clause: the class, the name's slot, what is returned -/
structure Hd where
  c : Nat
  slot : Option Nat
  ret : HE
mutual
inductive IS where
  | asg (i : Nat) (e : IE) | unp (is : List Nat) (e : IE) | par (is : List Nat) (es : IEs)
  | seti (i : Nat) (k v : IE) | fld (i : Nat) (f : Nat) (e : IE)
  | app (i : Nat) (e : IE) | insr (i : Nat) (k e : IE)
  | ex (e : IE) | ifs (c : IE) (a b : ISs) | for_ (tg : Tg) (src : II) (body : ISs)
  | ret (e : IE) | retm (i : Nat) | rai (c : Nat) (e : IE) | try_ (body : ISs) (hs : List Hd)
  | brk | cnt | pas
inductive ISs where
  | nil | cons (s : IS) (ss : ISs)
end

/-! ### outcomes -/
inductive Res (α : Type) where
  | ok (a : α) (ρ : Env) | exc (c : Nat) (d : D) (ρ : Env) | stuck
inductive FRes where
  | ok (r : R) (outs : Env) | exc (c : Nat) (d : D) (outs : Env) | stuck
inductive SRes where
  | nx (ρ : Env) | rt (r : R) (ρ : Env) | bk (ρ : Env) | ct (ρ : Env) | exc (c : Nat) (d : D) (ρ : Env) | stuck
abbrev Fn := Nat → List R → FRes

def Res.bind {α β : Type} (x : Res α) (k : α → Env → Res β) : Res β := match x with
  | .ok a ρ => k a ρ
  | .exc c d ρ => .exc c d ρ
  | .stuck => .stuck
/-- nothing may be raised here -/
def Res.calm {α : Type} (x : Res α) : Res α := match x with
  | .ok a ρ => .ok a ρ
  | .exc _ _ _ => .stuck
  | .stuck => .stuck
def Res.thn {α : Type} (x : Res α) (k : α → Env → SRes) : SRes := match x with
  | .ok a ρ => k a ρ
  | .exc c d ρ => .exc c d ρ
  | .stuck => .stuck
def SRes.thn (x : SRes) (k : Env → SRes) : SRes := match x with
  | .nx ρ => k ρ
  | .rt r ρ => .rt r ρ
  | .bk ρ => .bk ρ
  | .ct ρ => .ct ρ
  | .exc c d ρ => .exc c d ρ
  | .stuck => .stuck
def optR {α : Type} (o : Option α) (ρ : Env) : Res α := match o with
  | some a => .ok a ρ
  | none => .stuck

/-! ### operations on data -/
def ofI : D → Option Int
  | .int i => some i
  | _ => none
def mulOk (i j : Int) : Bool := (decide (-18446744073709551616 < i) && decide (i < 18446744073709551616)) || (decide (-18446744073709551616 < j) && decide (j < 18446744073709551616))
def binD (op : Operator) (x y : D) : Option R := match op, x, y with
  | .Add, .int i, .int j => some (.val (.int (i + j)))
  | .Add, .tup a, .tup b => if a.length + b.length ≤ LINE then some (.val (.tup (a ++ b))) else none
  | .Add, .lst a, .lst b => if a.length + b.length ≤ LINE then some (.lst (a ++ b)) else none
  | .Add, .str a, .str b => if a.length + b.length ≤ LINE then some (.val (.str (a ++ b))) else none
  | .Sub, .int i, .int j => some (.val (.int (i - j)))
  | .Mult, .int i, .int j => if mulOk i j = true then some (.val (.int (i * j))) else none
  | .Mult, .tup a, .int k => if a ≠ [] ∧ 2 ≤ k ∧ k ≤ 1000 ∧ a.length ≤ 1000 then some (.val (.tup (List.replicate k.toNat a).flatten)) else none
  | .FloorDiv, .int i, .int j => if 0 < j ∧ j < 1073741824 then some (.val (.int (i / j))) else none
  | .Mod, .int i, .int j => if 0 < j then some (.val (.int (i % j))) else none
  | .Pow, .int i, .int j => if 0 ≤ j ∧ j ≤ 1000000 ∧ i.natAbs < 18446744073709551616 then some (.val (.int (i ^ j.toNat))) else none
  | _, _, _ => none
def eqD (x y : D) : Option Bool := if (x.plain && y.plain && decide (min x.depth y.depth ≤ 40)) = true then some (x.eqv y) else none
def ltD : D → D → Option Bool
  | .int i, .int j => some (decide (i < j))
  | _, _ => none
def D.isNon : D → Bool
  | .non => true
  | _ => false
def isD (x y : D) : Option Bool := match x, y with
  | x, .non => some x.isNon
  | .bl a, .bl b => some (a == b)
  | _, _ => none
def inD (x : D) : D → Option Bool
  | .tup ds => if (x.plain && D.plains ds && decide (min (D.depths ds) x.depth ≤ 40)) = true then some (ds.any fun y => y.eqv x) else none
  | .lst ds => if (x.plain && D.plains ds && decide (min (D.depths ds) x.depth ≤ 40)) = true then some (ds.any fun y => y.eqv x) else none
  | _ => none
/-- a comparison of data -/
def cmpD (op : CmpOp) (x y : D) : Option Bool := match op with
  | .Eq => eqD x y
  | .NotEq => (eqD x y).map not
  | .Lt => ltD x y
  | .Gt => ltD y x
  | .LtE => (ltD y x).map not
  | .GtE => (ltD x y).map not
  | .Is => isD x y
  | .IsNot => (isD x y).map not
  | .In => inD x y
  | .NotIn => (inD x y).map not
/-- a comparison, as a value -/
def cmpP (op : CmpOp) (x y : D) (ρ : Env) : Res R := match cmpD op x y with
  | some b => .ok (.val (.bl b)) ρ
  | none => .stuck
def truD : D → Option Bool
  | .non => some false
  | .bl b => some b
  | .int i => some (i != 0)
  | .str x => if x.length ≤ LINE then some (!decide (x.length = 0)) else none
  | .tup ds => some (!ds.isEmpty)
  | .lst ds => some (!ds.isEmpty)
  | _ => none
/-- the place i of a row of n -/
def place (n : Nat) (i : Int) : Option Nat := ixN n i
def idxD (x : D) (i : D) : Option D := match x, i with
  | .tup ds, .int k => atI ds k
  | .lst ds, .int k => atI ds k
  | _, _ => none
def cutD (ds : List D) (lo hi : Option Int) : List D := (ds.drop (HT.sIx ds.length 0 lo)).take (HT.sIx ds.length ds.length hi - HT.sIx ds.length 0 lo)
def slcD (x : D) (lo hi : Option Int) : Option R := match x with
  | .tup ds => some (.val (.tup (cutD ds lo hi)))
  | .lst ds => some (.lst (cutD ds lo hi))
  | _ => none
def revD : D → Option R
  | .lst ds => some (.lst ds.reverse)
  | .tup ds => some (.val (.tup ds.reverse))
  | _ => none
def rngL (lo hi : Int) : List D := (List.range (hi - lo).toNat).map fun (i : Nat) => .int (lo + i)
def rngOk (a b : Int) : Bool := decide (-4611686018427387904 ≤ a) && decide (a < 4611686018427387904) && decide (-4611686018427387904 ≤ b) && decide (b < 4611686018427387904)
def allB : List D → Option (List Bool)
  | [] => some []
  | .bl b :: ds => (allB ds).map (b :: ·)
  | _ => none
def allI : List D → Option (List Int)
  | [] => some []
  | .int i :: ds => (allI ds).map (i :: ·)
  | _ => none
def cbD (b : BF) (xs : List D) : Option R := match b, xs with
  | .len, [.tup ds] => some (.val (.int ds.length))
  | .len, [.lst ds] => some (.val (.int ds.length))
  | .abs, [.int i] => some (.val (.int (if i < 0 then -i else i)))
  | .int, [.int i] => some (.val (.int i))
  | .int, [.bl k] => some (.val (.int (if k then 1 else 0)))
  | .str, [.int i] => if i.natAbs.log2 < 1920 then some (.val (.str (toString i))) else none
  | .list, [.tup ds] => some (.lst ds)
  | .list, [.lst ds] => some (.lst ds)
  | .tuple, [.tup ds] => some (.val (.tup ds))
  | .tuple, [.lst ds] => some (.val (.tup ds))
  | .all, [.lst ds] => (allB ds).map fun bs => .val (.bl (bs.all id))
  | .any, [.lst ds] => (allB ds).map fun bs => .val (.bl (bs.any id))
  | .sum, [.lst ds] => (allI ds).map fun ns => .val (.int ns.sum)
  | .range, [.int n] => some (.val (.rng 0 n))
  | .range, [.int i, .int j] => some (.val (.rng i j))
  | .list, [.rng i j] => if rngOk i j = true ∧ (j - i).toNat ≤ LINE then some (.lst (rngL i j)) else none
  | .tuple, [.rng i j] => if rngOk i j = true ∧ (j - i).toNat ≤ LINE then some (.val (.tup (rngL i j))) else none
  | _, _ => none
def isiD (nc : Nat) (x : D) (t : IsT) : Option Bool := match x with
  | .rng _ _ => none
  | .int _ => some (decide (t = .int))
  | .bl _ => some (decide (t = .int) || decide (t = .bool))
  | .tup _ => some (decide (t = .tuple) || decide (t = .listTuple))
  | .lst _ => some (decide (t = .list) || decide (t = .listTuple))
  | .str _ => some (decide (t = .str))
  | .ins c _ => if c < nc then some (decide (t = .cls c)) else none
  | .non => some false

def D.tyOk (nc : Nat) : D → Bool
  | .rng _ _ => false
  | .ins c _ => decide (c < nc)
  | _ => true

/-! ### arguments -/
/-- a value in hand, or what a name owns -/
inductive Ar where
  | v (r : R) | b (i : Nat)
variable (flds : Nat → List Nat)
def Env.at (ρ : Env) (i : Nat) : Option R := (ρ[i]?).bind id
def fullD (r : R) : Option D := if r.fullB flds = true then some r.toD else none
def Ar.d (a : Ar) (ρ : Env) : Option D := match a with
  | .v r => fullD flds r
  | .b i => (ρ.at i).bind (fullD flds)
def rdVar (i : Nat) (ρ : Env) : Res R := match ρ.at i with
  | some (.val d) => .ok (.val d) ρ
  | some r => if r.fullB flds = true then .ok (.val r.toD) (ρ.set i (some (.val r.toD))) else .stuck
  | none => .stuck
def argVar (i : Nat) (ρ : Env) : Res Ar := match ρ.at i with
  | some (.val d) => .ok (.v (.val d)) ρ
  | some _ => .ok (.b i) ρ
  | none => .stuck
def IE.isVar : IE → Option Nat
  | .var i => some i
  | _ => none
/-- an argument: a name that owns lends -/
def asArg (e : IE) (ρ : Env) (x : Res R) : Res Ar := match e with
  | .var i => argVar i ρ
  | _ => x.bind fun r ρ => .ok (.v r) ρ
def asD (x : Res R) : Res D := x.bind fun r ρ => optR (fullD flds r) ρ
/-- the arguments are handed over -/
def hand : List Ar → Env → Option (List R × Env)
  | [], ρ => some ([], ρ)
  | .v r :: as, ρ => (hand as ρ).map fun p => (r :: p.1, p.2)
  | .b i :: as, ρ => match ρ.at i with
    | some r => (hand as (ρ.set i none)).map fun p => (r :: p.1, p.2)
    | none => none
/-- what was lent comes back -/
def giveB : List Ar → Env → Env → Env
  | .b i :: as, o :: os, ρ => (giveB as os ρ).set i o
  | _ :: as, _ :: os, ρ => giveB as os ρ
  | _, _, ρ => ρ
def callR (Φ : Fn) (f : Nat) (as : List Ar) (ρ : Env) : Res R := match hand as ρ with
  | none => .stuck
  | some (rs, ρ') => match Φ f rs with
    | .ok r outs => .ok r (giveB as outs ρ')
    | .exc c d outs => .exc c d (giveB as outs ρ')
    | .stuck => .stuck
def getDs (ρ : Env) : List Ar → Option (List D)
  | [] => some []
  | a :: as => match a.d flds ρ, getDs ρ as with
    | some d, some ds => some (d :: ds)
    | _, _ => none
def setTg (tg : Tg) (d : D) (ρ : Env) : Option Env := match tg with
  | .one i => some (ρ.set i (some (.val d)))
  | .many is => match d with
    | .tup ds => if is.length = ds.length then some ((is.zip ds).foldl (fun ρ p => ρ.set p.1 (some (.val p.2))) ρ) else none
    | _ => none
def wipeE (ρ : Env) : List Nat → Env
  | [] => ρ
  | i :: is => (wipeE ρ is).set i none
def restE (ρ0 ρ : Env) : List Nat → Env
  | [] => ρ
  | i :: is => (restE ρ0 ρ is).set i (ρ0.at i)
/-- the turns of a comprehension -/
def compF (own : List Nat) (tg : Tg) (c : Env → Res Bool) (elt : Env → Res D) : List D → Env → List D → Res (List D)
  | [], ρ, acc => .ok acc ρ
  | d :: ds, ρ, acc => match setTg tg d ρ with
    | none => .stuck
    | some ρ1 => (c ρ1).bind fun b ρ2 => if b = true then (elt ρ2).bind fun x ρ3 => (if acc.length < LINE then compF own tg c elt ds (wipeE ρ3 own) (acc ++ [x]) else .stuck) else compF own tg c elt ds (wipeE ρ2 own) acc
/-- the turns of the first of two clauses -/
def compF2 (own : List Nat) (tg : Tg) (inner : Env → Res (List D)) (turns : List D → Env → List D → Res (List D)) : List D → Env → List D → Res (List D)
  | [], ρ, acc => .ok acc ρ
  | d :: ds, ρ, acc => match setTg tg d ρ with
    | none => .stuck
    | some ρ1 => (inner ρ1).bind fun es ρ2 => (turns es ρ2 acc).bind fun acc' ρ3 => compF2 own tg inner turns ds (wipeE ρ3 own) acc'
/-- the new instance's fields as they stand, the arguments behind -/
def makeR (Φ : Fn) (ini : Nat → Nat) (c : Nat) (as : List Ar) (ρ : Env) : Res R := match hand as ρ with
  | none => .stuck
  | some (rs, ρ') => match Φ (ini c) (.obj c [] :: rs) with
    | .ok (.val .non) (some r :: outs) => .ok r (giveB as outs ρ')
    | .exc x d (_ :: outs) => .exc x d (giveB as outs ρ')
    | _ => .stuck

/-- what is fixed: the fields of classes, their __init__ and __eq__, the module's constants, the exceptions' order -/
structure G where
  nc : Nat
  flds : Nat → List Nat
  ini : Nat → Nat
  eqf : Nat → Nat
  eqk : Nat → Bool
  gl : Nat → Option D
  isa : Nat → Nat → Bool
  nx : Nat
  xf : Nat → Str
variable (g : G)
/-- == where the left may be an instance with an own == -/
def eqoR (Φ : Fn) (x y : D) (ρ : Env) : Res R := match x with
  | .ins c _ => if g.eqk c = true ∧ c < g.nc ∧ y.tyOk g.nc = true then (match Φ (g.eqf c) [.val x, .val y] with
    | .ok (.val (.bl b)) _ => .ok (.val (.bl b)) ρ
    | _ => .stuck) else .stuck
  | _ => optR ((eqD x y).map fun b => .val (.bl b)) ρ
def attrR (f : Nat) (x : D) : Option D := match x with
  | .ins c ds => if c < g.nc then ds[(g.flds c).idxOf f]? else none
  | _ => none
/-- a field of what may still lack some -/
def attrO (f : Nat) (r : R) : Option D := match r with
  | .obj c rs => if c < g.nc then (match rs[(g.flds c).idxOf f]? with
    | some (.val d) => some d
    | _ => none) else none
  | .val d => attrR g f d
  | _ => none
/-- a test's outcome -/
def tstA (x : Res Ar) : Res Bool := x.bind fun a ρ => optR ((a.d g.flds ρ).bind truD) ρ
def restB (isAnd : Bool) (d : D) (rest : Env → Res R) (ρ : Env) : Res R := match truD d with
  | some k => if k = isAnd then rest ρ else .ok (.val d) ρ
  | none => .stuck

section
variable (Φ : Fn)
mutual
def evE : IE → Env → Res R
  | .var i, ρ => rdVar g.flds i ρ
  | .cst d, ρ => .ok (.val d) ρ
  | .glob x, ρ => optR ((g.gl x).map .val) ρ
  | .tup es, ρ => (evDs es ρ).bind fun ds ρ => if ds.length ≤ LINE then .ok (.val (.tup ds)) ρ else .stuck
  | .lst es, ρ => (evDs es ρ).bind fun ds ρ => if ds.length ≤ LINE then .ok (.lst ds) ρ else .stuck
  | .bin op a b, ρ => (asArg a ρ (evE a ρ)).bind fun x ρ => (asArg b ρ (evE b ρ)).bind fun y ρ => match x.d g.flds ρ, y.d g.flds ρ with
    | some x, some y => optR (binD op x y) ρ
    | _, _ => .stuck
  | .neg a, ρ => (asD g.flds (evE a ρ)).bind fun x ρ => match x with
    | .int i => .ok (.val (.int (-i))) ρ
    | _ => .stuck
  | .bop isAnd es, ρ => evB isAnd es ρ
  | .nt a, ρ => (tstA g (asArg a ρ (evE a ρ))).bind fun b ρ => .ok (.val (.bl (!b))) ρ
  | .cmp op a b, ρ => (asArg a ρ (evE a ρ)).bind fun x ρ => (asArg b ρ (evE b ρ)).bind fun y ρ => match x.d g.flds ρ, y.d g.flds ρ with
    | some x, some y => cmpP op x y ρ
    | _, _ => .stuck
  | .eqo a b, ρ => (asD g.flds (evE a ρ)).bind fun x ρ => (asD g.flds (evE b ρ)).bind fun y ρ => eqoR g Φ x y ρ
  | .cmp2 o1 o2 a b c, ρ => (asD g.flds (evE a ρ)).bind fun x ρ => (asD g.flds (evE b ρ)).bind fun y ρ => match cmpD o1 x y with
    | some true => (asD g.flds (evE c ρ)).bind fun z ρ => optR ((cmpD o2 y z).map fun k => .val (.bl k)) ρ
    | some false => .ok (.val (.bl false)) ρ
    | none => .stuck
  | .ife c a b, ρ => (tstA g (asArg c ρ (evE c ρ))).bind fun k ρ => if k = true then evE a ρ else evE b ρ
  | .idx a b, ρ => (asArg a ρ (evE a ρ)).bind fun x ρ => (asD g.flds (evE b ρ)).bind fun y ρ => match x.d g.flds ρ with
    | some x => optR ((idxD x y).map .val) ρ
    | none => .stuck
  | .slc a lo hi, ρ => (asArg a ρ (evE a ρ)).bind fun x ρ => (evO lo ρ).bind fun l ρ => (evO hi ρ).bind fun h ρ => match x.d g.flds ρ with
    | some x => optR (slcD x l h) ρ
    | none => .stuck
  | .rev a, ρ => (asArg a ρ (evE a ρ)).bind fun x ρ => match x.d g.flds ρ with
    | some x => optR (revD x) ρ
    | none => .stuck
  | .attr a f, ρ => match a with
    | .var i => match ρ.at i with
      | some r => optR ((attrO g f r).map .val) ρ
      | none => .stuck
    | _ => (asD g.flds (evE a ρ)).bind fun x ρ => optR ((attrR g f x).map .val) ρ
  | .call f es, ρ => (evAs es ρ).bind fun as ρ => callR Φ f as ρ
  | .make c es, ρ => (evAs es ρ).bind fun as ρ => makeR Φ g.ini c as ρ
  | .cb b es, ρ => (evAs es ρ).bind fun as ρ => match getDs g.flds ρ as with
    | some ds => optR (cbD b ds) ρ
    | none => .stuck
  | .isi a t, ρ => (asArg a ρ (evE a ρ)).bind fun x ρ => match x.d g.flds ρ with
    | some x => optR ((isiD g.nc x t).map fun b => .val (.bl b)) ρ
    | none => .stuck
  | .comp elt own tg src c, ρ => (evI src ρ).bind fun ds ρ =>
      ((compF own tg (fun ρ => evC c ρ) (fun ρ => asD g.flds (evE elt ρ)) ds (wipeE ρ own) []).bind fun acc ρ' => .ok (.lst acc) (restE ρ ρ' own)).calm
  | .comp2 elt own own1 tg src tg1 src1 c, ρ => (evI src ρ).bind fun ds ρ =>
      ((compF2 own tg (fun ρ => (evI src1 ρ).bind fun es ρ => .ok es (wipeE ρ own1)) (compF own1 tg1 (fun ρ => evC c ρ) (fun ρ => asD g.flds (evE elt ρ))) ds (wipeE ρ own) []).bind fun acc ρ' => .ok (.lst acc) (restE ρ ρ' own)).calm
def evC : IO → Env → Res Bool
  | .non, ρ => .ok true ρ
  | .som e, ρ => tstA g (asArg e ρ (evE e ρ))
def evO : IO → Env → Res (Option Int)
  | .non, ρ => .ok none ρ
  | .som e, ρ => (asD g.flds (evE e ρ)).bind fun d ρ => match d with
    | .int i => .ok (some i) ρ
    | _ => .stuck
def evDs : IEs → Env → Res (List D)
  | .nil, ρ => .ok [] ρ
  | .cons e es, ρ => (asD g.flds (evE e ρ)).bind fun d ρ => (evDs es ρ).bind fun ds ρ => .ok (d :: ds) ρ
def evAs : IEs → Env → Res (List Ar)
  | .nil, ρ => .ok [] ρ
  | .cons e es, ρ => (asArg e ρ (evE e ρ)).bind fun a ρ => (evAs es ρ).bind fun as ρ => .ok (a :: as) ρ
/-- and, or -/
def evB (isAnd : Bool) : IEs → Env → Res R
  | .nil, ρ => .stuck
  | .cons e .nil, ρ => evE e ρ
  | .cons e (.cons e2 es), ρ => (asD g.flds (evE e ρ)).bind fun d ρ => restB isAnd d (fun ρ => evB isAnd (.cons e2 es) ρ) ρ
def evI : II → Env → Res (List D)
  | .seq e, ρ => (asD g.flds (evE e ρ)).bind fun d ρ => match d with
    | .tup ds => .ok ds ρ
    | .lst ds => .ok ds ρ
    | .rng lo hi => if rngOk lo hi = true then .ok (rngL lo hi) ρ else .stuck
    | _ => .stuck
  | .enum e, ρ => .stuck
  | .zip a b, ρ => .stuck
end
def teE (e : IE) (ρ : Env) : Res Bool := tstA g (asArg e ρ (evE g Φ e ρ))
/-- the turns of a for -/
def forF (tg : Tg) (body : Env → SRes) : List D → Env → SRes
  | [], ρ => .nx ρ
  | d :: ds, ρ => match setTg tg d ρ with
    | none => .stuck
    | some ρ1 => match body ρ1 with
      | .nx ρ2 => forF tg body ds ρ2
      | .ct ρ2 => forF tg body ds ρ2
      | .bk ρ2 => .nx ρ2
      | x => x
def storeL (is : List Nat) (ds : List D) (ρ : Env) : Env := (is.zip ds).foldl (fun ρ p => ρ.set p.1 (some (.val p.2))) ρ
def HE.ev (h : HE) (c : Nat) (d : D) : Option D := match h with
  | .cst x => some x
  | .fld n => if g.xf c = n then some d else none
  | .pair x n => if g.xf c = n then some (.tup [x, d]) else none
  | .isEq c' n x => if g.isa c c' = true then (if g.xf c = n then (eqD d x).map .bl else none) else some (.bl false)
def evHs : List Hd → Nat → D → Env → SRes
  | [], c, d, ρ => .exc c d ρ
  | h :: hs, c, d, ρ => if c < g.nx then (if g.isa c h.c = true then (match h.ret.ev g c d with
      | some r => .rt (.val r) (match h.slot with
        | some i => ρ.set i none
        | none => ρ)
      | none => .stuck) else evHs hs c d ρ) else .stuck
mutual
def evS : IS → Env → SRes
  | .asg i e, ρ => (evE g Φ e ρ).thn fun r ρ => .nx (ρ.set i (some r))
  | .unp is e, ρ => (asD g.flds (evE g Φ e ρ)).thn fun d ρ => match setTg (.many is) d ρ with
    | some ρ' => .nx ρ'
    | none => .stuck
  | .par is es, ρ => .stuck
  | .seti i k v, ρ => (asD g.flds (evE g Φ v ρ)).thn fun d ρ => match ρ.at i with
    | some (.lst _) => (asD g.flds (evE g Φ k ρ)).thn fun k ρ => (match ρ.at i, k with
      | some (.lst ds), .int k => (match ixN ds.length k with
        | some j => .nx (ρ.set i (some (.lst (ds.set j d))))
        | none => .stuck)
      | _, _ => .stuck)
    | _ => .stuck
  | .fld i f e, ρ => (asD g.flds (evE g Φ e ρ)).thn fun d ρ => match ρ.at i with
    | some (.obj c rs) => if c < g.nc ∧ (g.flds c).idxOf f = rs.length ∧ rs.length < (g.flds c).length then .nx (ρ.set i (some (.obj c (rs ++ [.val d])))) else .stuck
    | _ => .stuck
  | .app i e, ρ => match ρ.at i with
    | some (.lst _) => (asD g.flds (evE g Φ e ρ)).thn fun d ρ => (match ρ.at i with
      | some (.lst ds) => if ds.length < LINE then .nx (ρ.set i (some (.lst (ds ++ [d])))) else .stuck
      | _ => .stuck)
    | _ => .stuck
  | .insr i k e, ρ => match ρ.at i with
    | some (.lst _) => (asD g.flds (evE g Φ k ρ)).thn fun k ρ => (asD g.flds (evE g Φ e ρ)).thn fun d ρ => (match ρ.at i, k with
      | some (.lst ds), .int k => if ds.length < LINE ∧ 0 ≤ k ∧ k < 9223372036854775808 then .nx (ρ.set i (some (.lst (ds.take k.toNat ++ d :: ds.drop k.toNat)))) else .stuck
      | _, _ => .stuck)
    | _ => .stuck
  | .ex e, ρ => (evE g Φ e ρ).thn fun _ ρ => .nx ρ
  | .ifs c a b, ρ => (teE g Φ c ρ).thn fun k ρ => if k = true then evSs a ρ else evSs b ρ
  | .for_ tg src body, ρ => (evI g Φ src ρ).thn fun ds ρ => forF tg (fun ρ => evSs body ρ) ds ρ
  | .ret e, ρ => (evE g Φ e ρ).thn fun r ρ => .rt r ρ
  | .retm i, ρ => match ρ.at i with
    | some r => .rt r (ρ.set i none)
    | none => .stuck
  | .rai c e, ρ => (asD g.flds (evE g Φ e ρ)).thn fun d ρ => .exc c d ρ
  | .try_ body hs, ρ => match evSs body ρ with
    | .exc c d ρ' => evHs g hs c d ρ'
    | x => x
  | .brk, ρ => .bk ρ
  | .cnt, ρ => .ct ρ
  | .pas, ρ => .nx ρ
def evSs : ISs → Env → SRes
  | .nil, ρ => .nx ρ
  | .cons s ss, ρ => (evS s ρ).thn fun ρ => evSs ss ρ
end
end
end Fx
end
section
set_option linter.all false
set_option Elab.async false
set_option maxRecDepth 100000
set_option maxHeartbeats 4000000
/-! What the language computes is what the model does: values and operations. -/
namespace Fx
open PySem PySem.Spec L2
variable {T : Nm}

/-! ### a value that may be read -/
/-- v reads as d: its own object in H, what lies within in F -/
def Rt (T : Nm) (F H : Hp) (v : V) : D → Prop
  | .lst ds => ∃ a xs, v = .ref a ∧ SqL T.K H a xs ∧ RpL T F xs ds
  | .ins c ds => Rp T H v (.ins c ds)
  | d => Rp T F v d
theorem Rp.rt {F H : Hp} (s : Same F H) {v : V} {d : D} (h : Rp T F v d) : Rt T F H v d := by
  cases d with
  | lst ds => cases h with | lst h1 h2 => exact ⟨_, _, rfl, same_sqL s h1, h2⟩
  | ins c ds => exact h.mono s
  | _ => exact h
theorem Rt.rp {F H : Hp} (s : Same F H) {v : V} {d : D} (h : Rt T F H v d) : Rp T H v d := by
  cases d with
  | lst ds => obtain ⟨a, xs, rfl, h1, h2⟩ := h; exact .lst h1 (RpL.mono s _ _ h2)
  | ins c ds => exact h
  | _ => exact Rp.mono s _ _ h
theorem Rt.int {F H : Hp} {v : V} {i : Int} (h : Rt T F H v (.int i)) : v = .int i := by
  have h : Rp T F v (.int i) := h
  cases h; rfl
theorem Rt.bl {F H : Hp} {v : V} {i : Bool} (h : Rt T F H v (.bl i)) : v = .bl i := by
  have h : Rp T F v (.bl i) := h
  cases h; rfl
theorem Rt.str {F H : Hp} {v : V} {i : Str} (h : Rt T F H v (.str i)) : v = .str i := by
  have h : Rp T F v (.str i) := h
  cases h; rfl
theorem Rt.non {F H : Hp} {v : V} (h : Rt T F H v .non) : v = .non := by
  have h : Rp T F v .non := h
  cases h; rfl

/-- a new result: what there was, or a new object -/
def NewR (T : Nm) (F H H' : Hp) (v : V) : R → Prop
  | .val d => (H' = H ∧ Rp T F v d) ∨ (∃ p xs ds, d = .tup ds ∧ v = .ref p ∧ H p = none ∧ H' = upd H p (.tup xs) ∧ RpL T F xs ds) ∨ ∃ p lo hi, d = .rng lo hi ∧ v = .ref p ∧ H p = none ∧ H' = upd H p (.rng lo hi)
  | .lst ds => ∃ p xs, v = .ref p ∧ H p = none ∧ H' = upd H p (.lst xs) ∧ RpL T F xs ds
  | .obj _ _ => False
theorem Cf.new {F H H' : Hp} {M : Lv} {ρ : Env} {σ : St} {r : R} {v : V} (h : Cf T F H M ρ σ) (n : NewR T F H H' v r) : ∃ F', Cf T F' H' ((r, v) :: M) ρ σ := by
  cases r with
  | val d =>
    rcases n with ⟨rfl, n⟩ | ⟨p, xs, ds, rfl, rfl, np, rfl, n⟩ | ⟨p, lo, hi, rfl, rfl, np, rfl⟩
    · exact ⟨F, h.val n⟩
    · obtain ⟨h', e⟩ := h.newF (o := .tup xs) np
      refine ⟨_, h'.val (.tup (.inl (.inl upd_same)) (RpL.mono e _ _ n))⟩
    · obtain ⟨h', e⟩ := h.newF (o := .rng lo hi) np
      exact ⟨_, h'.val (.rng upd_same)⟩
  | lst ds =>
    obtain ⟨p, xs, rfl, np, rfl, n⟩ := n
    exact ⟨F, h.own np n⟩
  | obj c rs => exact n.elim

/-! ### outcomes -/
variable {W : WX} {σ : St} {M : Lv}
/-- what is wanted of an exception: its own dict holds the one value -/
def ExcW (T : Nm) (W : WX) (σ : St) (M : Lv) (c : Nat) (d : D) (ρ : Env) : Prop :=
  ∀ v dd F H, Cf T F H M ρ σ → H dd = some (.xd [(T.xfld c, v)]) → Rp T F v d → W (.ref (T.xcls c)) (some dd) σ H
def Out (T : Nm) (W : WX) (σ : St) (M : Lv) {α : Type} (x : Res α) (K : α → Env → Prop) : Prop := match x with
  | .ok a ρ => K a ρ
  | .exc c d ρ => ExcW T W σ M c d ρ
  | .stuck => False
theorem Out.bind {α β : Type} {x : Res α} {k : α → Env → Res β} {K : β → Env → Prop} (h : Out T W σ M (x.bind k) K) : Out T W σ M x fun a ρ => Out T W σ M (k a ρ) K := by
  cases x with
  | ok a ρ => exact h
  | exc c d ρ => exact h
  | stuck => exact h
theorem Out.imp {α : Type} {x : Res α} {K K' : α → Env → Prop} (h : Out T W σ M x K) (k : ∀ a ρ, K a ρ → K' a ρ) : Out T W σ M x K' := by
  cases x with
  | ok a ρ => exact k _ _ h
  | exc c d ρ => exact h
  | stuck => exact h
theorem Out.wk {α : Type} {p : R × V} {x : Res α} {K : α → Env → Prop} (h : Out T W σ M x K) : Out T W σ (p :: M) x K := by
  cases x with
  | ok a ρ => exact h
  | exc c d ρ => exact fun v dd F H cf => h v dd F H cf.tail
  | stuck => exact h
theorem Out.wkL {α : Type} {P : Lv} {x : Res α} {K : α → Env → Prop} (h : Out T W σ M x K) : Out T W σ (P ++ M) x K := by
  induction P with
  | nil => exact h
  | cons p P ih => exact ih.wk
theorem Out.opt {α : Type} {o : Option α} {ρ : Env} {K : α → Env → Prop} (h : Out T W σ M (optR o ρ) K) : ∃ a, o = some a ∧ K a ρ := by
  cases o with
  | none => exact h.elim
  | some a => exact ⟨a, rfl, h⟩
theorem Out.calm {α : Type} {x : Res α} {K : α → Env → Prop} (h : Out T W σ M x.calm K) : Out T (fun _ _ _ _ => False) σ M x.calm K := by
  cases x with
  | ok a ρ => exact h
  | exc c d ρ => exact h.elim
  | stuck => exact h
theorem Out.calm_of {α : Type} {W' : WX} {σ' : St} {M' : Lv} {x : Res α} {K : α → Env → Prop} (h : Out T W σ M x.calm K) : Out T W' σ' M' x K := by
  cases x with
  | ok a ρ => exact h
  | exc c d ρ => exact h.elim
  | stuck => exact h

/-! ### readings -/
/-- an expression that computes m -/
def tM (T : Nm) (W : WX) (m : Env → Res R) : TE := fun σ H Q => ∃ F M ρ, Cf T F H M ρ σ ∧ Out T W σ M (m ρ) fun r ρ' => ∀ v F' H', Cf T F' H' ((r, v) :: M) ρ' σ → Q v H'
/-- .. a plain value -/
def tD (T : Nm) (W : WX) (m : Env → Res D) : TE := fun σ H Q => ∃ F M ρ, Cf T F H M ρ σ ∧ Out T W σ M (m ρ) fun d ρ' => ∀ v F' H', Cf T F' H' ((.val d, v) :: M) ρ' σ → Q v H'
def Ar.tmp (v : V) : Ar → Lv
  | .v r => [(r, v)]
  | .b _ => []
def Ar.in_ (v : V) (σ : St) : Ar → Prop
  | .v _ => True
  | .b i => σ[i]? = some (some v)
/-- .. an argument -/
def tAr (T : Nm) (W : WX) (m : Env → Res Ar) : TE := fun σ H Q => ∃ F M ρ, Cf T F H M ρ σ ∧ Out T W σ M (m ρ) fun a ρ' => ∀ v F' H', a.in_ v σ → Cf T F' H' (a.tmp v ++ M) ρ' σ → Q v H'
/-- a test -/
def tT (T : Nm) (W : WX) (m : Env → Res Bool) : TT := fun σ H Q => ∃ F M ρ, Cf T F H M ρ σ ∧ Out T W σ M (m ρ) fun b ρ' => ∀ F' H', Cf T F' H' M ρ' σ → Q b H'
/-- arguments -/
def tmps : List Ar → List V → Lv
  | a :: as, v :: vs => a.tmp v ++ tmps as vs
  | _, _ => []
def ins_ (σ : St) : List Ar → List V → Prop
  | [], [] => True
  | a :: as, v :: vs => a.in_ v σ ∧ ins_ σ as vs
  | _, _ => False
def tAs (T : Nm) (W : WX) (m : Env → Res (List Ar)) : TA := fun σ H Q => ∃ F M ρ, Cf T F H M ρ σ ∧ Out T W σ M (m ρ) fun as ρ' => ∀ vs F' H', ins_ σ as vs → Cf T F' H' (tmps as vs ++ M) ρ' σ → Q vs H'
/-- plain values, one behind another -/
def vals_ : List D → List V → Lv
  | d :: ds, v :: vs => (.val d, v) :: vals_ ds vs
  | _, _ => []
def tDs (T : Nm) (W : WX) (m : Env → Res (List D)) : TA := fun σ H Q => ∃ F M ρ, Cf T F H M ρ σ ∧ Out T W σ M (m ρ) fun ds ρ' => ∀ vs F' H', RpL T F' vs ds → Cf T F' H' M ρ' σ → Q vs H'

theorem _root_.L2.PE.imp {X : Cx} {e : Expr} {t t' : TE} (h : PE X e t) (k : ∀ σ H Q, t' σ H Q → t σ H Q) : PE X e t' := ⟨fun pins s σ H Q I q => h.run pins s σ H Q I (k σ H Q q)⟩
theorem _root_.L2.PT.imp {X : Cx} {e : Expr} {t t' : TT} (h : PT X e t) (k : ∀ σ H Q, t' σ H Q → t σ H Q) : PT X e t' := ⟨fun pins s σ H Q I q => h.run pins s σ H Q I (k σ H Q q)⟩
theorem _root_.L2.PW.imp {X : Cx} {e : Expr} {t t' : TT} (h : PW X e t) (k : ∀ σ H Q, t' σ H Q → t σ H Q) : PW X e t' := ⟨fun wh pins s σ H Q I q => h.run wh pins s σ H Q I (k σ H Q q)⟩
theorem _root_.L2.PA.imp {X : Cx} {es : List Expr} {t t' : TA} (h : PA X es t) (k : ∀ σ H Q, t' σ H Q → t σ H Q) : PA X es t' := ⟨fun pos pins s σ H Q I q => h.run pos pins s σ H Q I (k σ H Q q)⟩
theorem _root_.L2.PS.imp {X : Cx} {st : Stmt} {t t' : TS} (h : PS X st t) (k : ∀ D σ H, t' D σ H → t D σ H) : PS X st t' := ⟨fun pins s σ H D I q => h.run pins s σ H D I (k D σ H q)⟩
theorem _root_.L2.PSs.imp {X : Cx} {st : List Stmt} {t t' : TS} (h : PSs X st t) (k : ∀ D σ H, t' D σ H → t D σ H) : PSs X st t' := ⟨fun pins s σ H D I q => h.run pins s σ H D I (k D σ H q)⟩

theorem fullD_some {r : R} {d : D} (h : fullD T.flds r = some d) : r.fullB T.flds = true ∧ d = r.toD := by
  unfold fullD at h
  split at h
  · exact ⟨by assumption, (Option.some.inj h).symm⟩
  · cases h
/-- from an argument in hand to its data -/
theorem Cf.arD {F H : Hp} {ρ : Env} {a : Ar} {v : V} {d : D} {P : Lv} (h : Cf T F H (a.tmp v ++ M) ρ σ) (i : a.in_ v σ) (e : a.d T.flds ρ = some d) : Rt T F H v d := by
  have own : ∀ {r : R} {L : Lv} {ρ : Env}, Cf T F H ((r, v) :: L) ρ σ → fullD T.flds r = some d → Rt T F H v d := fun {r L ρ} h e => by
    obtain ⟨f, rfl⟩ := fullD_some e
    have lk := h.look f
    cases r with
    | val d => exact h.rp.rt h.sub
    | lst ds =>
      obtain ⟨p, rfl⟩ := h.lstRef
      obtain ⟨xs, h1, h2⟩ := h.lstAt
      exact ⟨p, xs, rfl, .inl (.inl h1), h2⟩
    | obj c rs => exact lk
  cases a with
  | v r => exact own (L := M) h e
  | b j =>
    have e : (ρ.at j).bind (fullD T.flds) = some d := e
    cases q : ρ.at j with
    | none => rw [q] at e; cases e
    | some r =>
      rw [q] at e
      have e2 : ρ[j]? = some (some r) := by
        unfold Env.at at q
        cases z : ρ[j]? with
        | none => rw [z] at q; cases q
        | some o => rw [z] at q; cases o with
          | none => cases q
          | some r' => cases q; rfl
      obtain ⟨v', e3, h'⟩ := Cf.out (M := M) h e2
      have i : σ[j]? = some (some v) := i
      rw [i] at e3; cases e3
      exact own (L := M) (ρ := ρ.set j none) h' e

theorem at_get {ρ : Env} {i : Nat} {r : R} (h : ρ.at i = some r) : ρ[i]? = some (some r) := by
  unfold Env.at at h
  cases z : ρ[i]? with
  | none => rw [z] at h; cases h
  | some o => rw [z] at h; cases o with
    | none => cases h
    | some r' => cases h; rfl

section
variable {X : Cx}
/-! ### names -/
theorem pe_rd {e : Expr} {i : Nat} (h : PE X e (tVar i)) : PE X e (tM T W (rdVar T.flds i)) := by
  refine h.imp fun σ H Q q => ?_
  obtain ⟨F, M, ρ, cf, q⟩ := q
  unfold rdVar at q
  cases z : ρ.at i with
  | none => rw [z] at q; exact q.elim
  | some r =>
    rw [z] at q
    have e := at_get z
    cases r with
    | val d =>
      obtain ⟨v, F', e1, s, cf'⟩ := cf.read e rfl
      exact ⟨v, e1, q v F' H (by rw [show R.toD (.val d) = d from rfl, set_same e] at cf'; exact cf')⟩
    | lst ds =>
      obtain ⟨v, F', e1, s, cf'⟩ := cf.read e rfl
      exact ⟨v, e1, q v F' H cf'⟩
    | obj c rs =>
      by_cases f : (R.obj c rs).fullB T.flds = true
      · obtain ⟨v, F', e1, s, cf'⟩ := cf.read e f
        have q : Out T W σ M (if (R.obj c rs).fullB T.flds = true then Res.ok (R.val (R.obj c rs).toD) (ρ.set i (some (.val (R.obj c rs).toD))) else .stuck) _ := q
        rw [if_pos f] at q
        exact ⟨v, e1, q v F' H cf'⟩
      · have q : Out T W σ M (if (R.obj c rs).fullB T.flds = true then Res.ok (R.val (R.obj c rs).toD) (ρ.set i (some (.val (R.obj c rs).toD))) else .stuck) _ := q
        rw [if_neg f] at q
        exact q.elim
theorem pe_argVar {e : Expr} {i : Nat} (h : PE X e (tVar i)) : PE X e (tAr T W (argVar i)) := by
  refine h.imp fun σ H Q q => ?_
  obtain ⟨F, M, ρ, cf, q⟩ := q
  unfold argVar at q
  cases z : ρ.at i with
  | none => rw [z] at q; exact q.elim
  | some r =>
    rw [z] at q
    have e := at_get z
    cases r with
    | val d =>
      obtain ⟨v, F', e1, s, cf'⟩ := cf.read e rfl
      exact ⟨v, e1, q v F' H trivial (by rw [show R.toD (.val d) = d from rfl, set_same e] at cf'; exact cf')⟩
    | lst ds =>
      obtain ⟨v, e1⟩ := cf.slot e
      exact ⟨v, e1, q v F H e1 cf⟩
    | obj c rs =>
      obtain ⟨v, e1⟩ := cf.slot e
      exact ⟨v, e1, q v F H e1 cf⟩
/-- an expression as an argument -/
theorem pe_arOf {e : Expr} {m : Env → Res R} (h : PE X e (tM T W m)) : PE X e (tAr T W fun ρ => (m ρ).bind fun r ρ => .ok (.v r) ρ) := by
  refine h.imp fun σ H Q q => ?_
  obtain ⟨F, M, ρ, cf, q⟩ := q
  exact ⟨F, M, ρ, cf, q.bind.imp fun r ρ' k v F' H' cf' => k v F' H' trivial cf'⟩
/-- an expression as plain data -/
theorem pe_asD {e : Expr} {m : Env → Res R} (h : PE X e (tM T W m)) : PE X e (tD T W fun ρ => asD T.flds (m ρ)) := by
  refine h.imp fun σ H Q q => ?_
  obtain ⟨F, M, ρ, cf, q⟩ := q
  refine ⟨F, M, ρ, cf, (Out.bind q).imp fun r ρ' k v F' H' cf' => ?_⟩
  obtain ⟨d, e, k⟩ := k.opt
  obtain ⟨f, rfl⟩ := fullD_some e
  obtain ⟨F2, s, cf2⟩ := cf'.freeze f
  exact k v F2 H' cf2
/-- plain data as a value -/
theorem pe_ofD {e : Expr} {m : Env → Res D} (h : PE X e (tD T W m)) : PE X e (tM T W fun ρ => (m ρ).bind fun d ρ => .ok (.val d) ρ) := by
  refine h.imp fun σ H Q q => ?_
  obtain ⟨F, M, ρ, cf, q⟩ := q
  exact ⟨F, M, ρ, cf, q.bind.imp fun r ρ' k => k⟩
/-- a constant -/
theorem pe_cst {e : Expr} {v : V} {d : D} (h : PE X e (tC v)) (r : ∀ F, Rp T F v d) : PE X e (tM T W fun ρ => .ok (.val d) ρ) := by
  refine h.imp fun σ H Q q => ?_
  obtain ⟨F, M, ρ, cf, q⟩ := q
  exact q v F H (cf.val (r F))

/-! ### two values and an operation -/
/-- two operands in hand -/
def two (fl : Nat → List Nat) {α : Type} (f : D → D → Env → Res α) (a b : Env → Res Ar) : Env → Res α := fun ρ => (a ρ).bind fun x ρ => (b ρ).bind fun y ρ => match x.d fl ρ, y.d fl ρ with
  | some x, some y => f x y ρ
  | _, _ => .stuck
theorem Ar.tmp_in {a : Ar} {v : V} {F H : Hp} {ρ : Env} {P : Lv} (h : Cf T F H (P ++ (a.tmp v ++ M)) ρ σ) : Cf T F H (a.tmp v ++ (P ++ M)) ρ σ := h.permM (by
  rw [← List.append_assoc, ← List.append_assoc]
  exact List.Perm.append_right _ List.perm_append_comm)
theorem Cf.dropL {F H : Hp} {ρ : Env} {P : Lv} (h : Cf T F H (P ++ M) ρ σ) : Cf T F H M ρ σ := by
  induction P with
  | nil => exact h
  | cons p P ih => exact ih h.tail
/-- both operands are known, then R -/
theorem tAr_two {α : Type} {ea eb : Env → Res Ar} {f : D → D → Env → Res α} {H : Hp} {K : Lv → α → Env → Prop} {R : V → V → Hp → Prop}
    (h : ∃ F M ρ, Cf T F H M ρ σ ∧ Out T W σ M (two T.flds f ea eb ρ) (K M))
    (k : ∀ F M ρ H x y dx dy, Cf T F H M ρ σ → Rt T F H x dx → Rt T F H y dy → Out T W σ M (f dx dy ρ) (K M) → R x y H) :
    tAr T W ea σ H fun x H1 => tAr T W eb σ H1 fun y H2 => R x y H2 := by
  obtain ⟨F, M, ρ, cf, q⟩ := h
  refine ⟨F, M, ρ, cf, (Out.bind q).imp fun a ρ1 q1 v1 F1 H1 i1 cf1 => ?_⟩
  refine ⟨F1, a.tmp v1 ++ M, ρ1, cf1, (Out.wkL (Out.bind q1)).imp fun b ρ2 q2 v2 F2 H2 i2 cf2 => ?_⟩
  cases e1 : a.d T.flds ρ2 with
  | none => rw [e1] at q2; exact q2.elim
  | some dx =>
    cases e2 : b.d T.flds ρ2 with
    | none => rw [e1, e2] at q2; exact q2.elim
    | some dy =>
      rw [e1, e2] at q2
      have r2 : Rt T F2 H2 v2 dy := Cf.arD (P := []) cf2 i2 e2
      have r1 : Rt T F2 H2 v1 dx := Cf.arD (P := []) (Ar.tmp_in cf2) i1 e1
      exact k F2 M ρ2 H2 v1 v2 dx dy cf2.dropL.dropL r1 r2 q2
/-- one operand -/
def one_ (fl : Nat → List Nat) {α : Type} (f : D → Env → Res α) (a : Env → Res Ar) : Env → Res α := fun ρ => (a ρ).bind fun x ρ => match x.d fl ρ with
  | some x => f x ρ
  | none => .stuck
theorem tAr_one {α : Type} {ea : Env → Res Ar} {f : D → Env → Res α} {H : Hp} {K : Lv → α → Env → Prop} {R : V → Hp → Prop}
    (h : ∃ F M ρ, Cf T F H M ρ σ ∧ Out T W σ M (one_ T.flds f ea ρ) (K M))
    (k : ∀ F M ρ H x dx, Cf T F H M ρ σ → Rt T F H x dx → Out T W σ M (f dx ρ) (K M) → R x H) : tAr T W ea σ H R := by
  obtain ⟨F, M, ρ, cf, q⟩ := h
  refine ⟨F, M, ρ, cf, (Out.bind q).imp fun a ρ1 q1 v1 F1 H1 i1 cf1 => ?_⟩
  cases e1 : a.d T.flds ρ1 with
  | none => rw [e1] at q1; exact q1.elim
  | some dx =>
    rw [e1] at q1
    exact k F1 M ρ1 H1 v1 dx cf1.dropL (Cf.arD (P := []) cf1 i1 e1) q1
end
end Fx
end
section
set_option linter.all false
set_option Elab.async false
set_option maxRecDepth 100000
set_option maxHeartbeats 4000000
/-! The operations on data, each against the model. -/
namespace Fx
open PySem PySem.Spec L2
variable {T : Nm}

/-! ### data, as the library says it -/
mutual
theorem D.py_plain : ∀ d : D, d.plain = true → d.py.plain = true
  | .non, _ => rfl
  | .bl _, _ => rfl
  | .int _, _ => rfl
  | .str _, _ => rfl
  | .tup ds, h => D.pys_plain ds h
  | .lst ds, h => D.pys_plain ds h
  | .rng _ _, h => by cases h
  | .ins _ _, h => by cases h
theorem D.pys_plain : ∀ ds : List D, D.plains ds = true → PyData.plainAll (D.pys ds) = true
  | [], _ => rfl
  | d :: ds, h => by
    simp only [D.plains, Bool.and_eq_true] at h
    simp only [D.pys, PyData.plainAll, D.py_plain d h.1, D.pys_plain ds h.2, Bool.and_self]
end
mutual
theorem D.py_depth : ∀ d : D, d.plain = true → d.py.depth = d.depth
  | .non, _ => rfl
  | .bl _, _ => rfl
  | .int _, _ => rfl
  | .str _, _ => rfl
  | .tup ds, h => by simp only [D.py, PyData.depth, D.depth, D.pys_depth ds h]
  | .lst ds, h => by simp only [D.py, PyData.depth, D.depth, D.pys_depth ds h]
  | .rng _ _, h => by cases h
  | .ins _ _, h => by cases h
theorem D.pys_depth : ∀ ds : List D, D.plains ds = true → PyData.depthAll (D.pys ds) = D.depths ds
  | [], _ => rfl
  | d :: ds, h => by
    simp only [D.plains, Bool.and_eq_true] at h
    simp only [D.pys, PyData.depthAll, D.depths, D.py_depth d h.1, D.pys_depth ds h.2]
end
mutual
theorem D.py_eqv : ∀ a b : D, a.plain = true → b.plain = true → PyData.eqv a.py b.py = a.eqv b
  | .non, b, _, hb => by cases b <;> first | rfl | cases hb
  | .bl _, b, _, hb => by cases b <;> first | rfl | cases hb
  | .int _, b, _, hb => by cases b <;> first | rfl | cases hb
  | .str _, b, _, hb => by cases b <;> first | rfl | cases hb
  | .tup xs, b, ha, hb => by
    cases b with
    | tup ys => exact D.pys_eqv xs ys ha hb
    | rng _ _ => cases hb
    | ins _ _ => cases hb
    | _ => rfl
  | .lst xs, b, ha, hb => by
    cases b with
    | lst ys => exact D.pys_eqv xs ys ha hb
    | rng _ _ => cases hb
    | ins _ _ => cases hb
    | _ => rfl
  | .rng _ _, _, h, _ => by cases h
  | .ins _ _, _, h, _ => by cases h
theorem D.pys_eqv : ∀ xs ys : List D, D.plains xs = true → D.plains ys = true → PyData.eqvAll (D.pys xs) (D.pys ys) = D.eqvs xs ys
  | [], [], _, _ => rfl
  | [], _ :: _, _, _ => rfl
  | _ :: _, [], _, _ => rfl
  | x :: xs, y :: ys, h, k => by
    simp only [D.plains, Bool.and_eq_true] at h k
    simp only [D.pys, PyData.eqvAll, D.eqvs, D.py_eqv x y h.1 k.1, D.pys_eqv xs ys h.2 k.2]
end
section
variable {X : Cx} {pins : List (Addr × Obj)} {σ : St} {H : Hp} {s : Shared}
mutual
theorem Rp.reads (I : Inv X pins σ H s) (hK : X.K = T.K) : ∀ (d : D) (v : V) (u : Value), d.plain = true → Rp T H v d → RelV v u → ∃ as, Reads s.heap u d.py as
  | .non, _, _, _, h, r => by cases h; cases r; exact ⟨_, Reads.none⟩
  | .bl b, _, _, _, h, r => by cases h; cases r; exact ⟨_, Reads.bool b⟩
  | .int i, _, _, _, h, r => by cases h; obtain ⟨t, rfl⟩ := r; exact ⟨_, Reads.int i t⟩
  | .str x, _, _, _, h, r => by cases h; obtain ⟨t, rfl⟩ := r; exact ⟨_, Reads.str x t⟩
  | .tup ds, _, _, p, h, r => by
    cases h with
    | tup hs ha =>
      cases r
      obtain ⟨its, rv, ⟨o, ho, hc, n, hd⟩, _⟩ := I.tuple (by rw [hK]; exact hs)
      obtain ⟨as, hr⟩ := RpL.reads I hK ds _ its p ha rv
      exact ⟨_, Reads.tuple ho hc hd hr⟩
  | .lst ds, _, _, p, h, r => by
    cases h with
    | lst hs ha =>
      cases r
      obtain ⟨its, rv, ⟨o, n, ho, hc, _, hd⟩, _⟩ := I.list (by rw [hK]; exact hs)
      obtain ⟨as, hr⟩ := RpL.reads I hK ds _ its p ha rv
      exact ⟨_, Reads.list ho hc hd hr⟩
  | .rng _ _, _, _, p, _, _ => by cases p
  | .ins _ _, _, _, p, _, _ => by cases p
theorem RpL.reads (I : Inv X pins σ H s) (hK : X.K = T.K) : ∀ (ds : List D) (vs : List V) (us : List Value), D.plains ds = true → RpL T H vs ds → Vals vs us → ∃ as, ReadsAll s.heap us (D.pys ds) as
  | [], _, _, _, h, r => by cases h; cases r; exact ⟨_, ReadsAll.nil⟩
  | d :: ds, _, _, p, h, r => by
    simp only [D.plains, Bool.and_eq_true] at p
    cases h with
    | cons h1 h2 =>
      cases r with
      | cons r1 r2 =>
        obtain ⟨as, q1⟩ := Rp.reads I hK d _ _ p.1 h1 r1
        obtain ⟨bs, q2⟩ := RpL.reads I hK ds _ _ p.2 h2 r2
        exact ⟨_, ReadsAll.cons q1 q2⟩
end
end

section
variable {X : Cx}
theorem line_eq : LINE = sizeLine := sizeLine_eq.symm
/-! ### comparisons -/
def rC (T : Nm) (g : D → D → Option Bool) : R2 := fun x y H Q => ∃ F dx dy b, Same F H ∧ Rt T F H x dx ∧ Rt T F H y dy ∧ g dx dy = some b ∧ Q (.bl b) H
theorem eqD_some {x y : D} {b : Bool} (h : eqD x y = some b) : x.plain = true ∧ y.plain = true ∧ min x.depth y.depth ≤ 40 ∧ b = x.eqv y := by
  unfold eqD at h
  split at h
  · rename_i c
    simp only [Bool.and_eq_true, decide_eq_true_eq] at c
    exact ⟨c.1.1, c.1.2, c.2, (Option.some.inj h).symm⟩
  · cases h
theorem op_eqF (hK : X.K = T.K) (hu : X.A.units + 64 < cLine) : OpR X (compareOp .Eq) (rC T eqD) := by
  intro pins s σ H x y v u Q I rx ry h
  obtain ⟨F, dx, dy, b, sF, hx, hy, e, q⟩ := h
  obtain ⟨p1, p2, dp, rfl⟩ := eqD_some e
  obtain ⟨as, r1⟩ := Rp.reads I hK dx x v p1 (hx.rp sF) rx
  obtain ⟨bs, r2⟩ := Rp.reads I hK dy y u p2 (hy.rp sF) ry
  exact SeqAt.eq_plain r1 r2 (D.py_plain _ p1) (D.py_plain _ p2) (by rw [D.py_depth _ p1, D.py_depth _ p2]; omega) ⟨.bl _, H, I, by rw [D.py_eqv _ _ p1 p2]; rfl, q⟩
theorem op_neF (hK : X.K = T.K) (hu : X.A.units + 64 < cLine) : OpR X (compareOp .NotEq) (rC T fun x y => (eqD x y).map not) := by
  intro pins s σ H x y v u Q I rx ry h
  obtain ⟨F, dx, dy, b, sF, hx, hy, e, q⟩ := h
  obtain ⟨b', e', rfl⟩ := Option.map_eq_some_iff.mp e
  obtain ⟨p1, p2, dp, rfl⟩ := eqD_some e'
  obtain ⟨as, r1⟩ := Rp.reads I hK dx x v p1 (hx.rp sF) rx
  obtain ⟨bs, r2⟩ := Rp.reads I hK dy y u p2 (hy.rp sF) ry
  exact SeqAt.ne_plain r1 r2 (D.py_plain _ p1) (D.py_plain _ p2) (by rw [D.py_depth _ p1, D.py_depth _ p2]; omega) ⟨.bl _, H, I, by rw [D.py_eqv _ _ p1 p2]; rfl, q⟩
theorem any_py (d : D) (p : d.plain = true) : ∀ ds : List D, D.plains ds = true → ((D.pys ds).any fun z => PyData.eqv z d.py) = ds.any fun z => z.eqv d
  | [], _ => rfl
  | x :: ds, h => by
    simp only [D.plains, Bool.and_eq_true] at h
    simp only [D.pys, List.any_cons, D.py_eqv x d h.1 p, any_py d p ds h.2]
theorem inD_some {x y : D} {b : Bool} (h : inD x y = some b) : ∃ ds, (y = .tup ds ∨ y = .lst ds) ∧ x.plain = true ∧ D.plains ds = true ∧ min (D.depths ds) x.depth ≤ 40 ∧ b = ds.any fun z => z.eqv x := by
  cases y with
  | tup ds =>
    simp only [inD] at h
    split at h
    · rename_i c
      simp only [Bool.and_eq_true, decide_eq_true_eq] at c
      exact ⟨ds, .inl rfl, c.1.1, c.1.2, c.2, (Option.some.inj h).symm⟩
    · cases h
  | lst ds =>
    simp only [inD] at h
    split at h
    · rename_i c
      simp only [Bool.and_eq_true, decide_eq_true_eq] at c
      exact ⟨ds, .inr rfl, c.1.1, c.1.2, c.2, (Option.some.inj h).symm⟩
    · cases h
  | _ => cases h
theorem op_inF (hK : X.K = T.K) (hu : X.A.units + 64 < cLine) : OpR X (compareOp .In) (rC T inD) := by
  intro pins s σ H x y v u Q I rx ry h
  obtain ⟨F, dx, dy, b, sF, hx, hy, e, q⟩ := h
  obtain ⟨ds, ed, p1, p2, dp, rfl⟩ := inD_some e
  obtain ⟨as, r1⟩ := Rp.reads I hK dx x v p1 (hx.rp sF) rx
  rcases ed with rfl | rfl
  · obtain ⟨bs, r2⟩ := Rp.reads I hK (.tup ds) y u p2 (hy.rp sF) ry
    exact SeqAt.in_tuple_data r2 r1 (D.pys_plain _ p2) (D.py_plain _ p1) (by rw [D.pys_depth _ p2, D.py_depth _ p1]; omega) ⟨.bl _, H, I, by rw [any_py _ p1 _ p2]; rfl, q⟩
  · obtain ⟨bs, r2⟩ := Rp.reads I hK (.lst ds) y u p2 (hy.rp sF) ry
    exact SeqAt.in_list_data r2 r1 (D.pys_plain _ p2) (D.py_plain _ p1) (by rw [D.pys_depth _ p2, D.py_depth _ p1]; omega) ⟨.bl _, H, I, by rw [any_py _ p1 _ p2]; rfl, q⟩
theorem op_notInF (hK : X.K = T.K) (hu : X.A.units + 64 < cLine) : OpR X (compareOp .NotIn) (rC T fun x y => (inD x y).map not) := by
  intro pins s σ H x y v u Q I rx ry h
  obtain ⟨F, dx, dy, b, sF, hx, hy, e, q⟩ := h
  obtain ⟨b', e', rfl⟩ := Option.map_eq_some_iff.mp e
  obtain ⟨ds, ed, p1, p2, dp, rfl⟩ := inD_some e'
  obtain ⟨as, r1⟩ := Rp.reads I hK dx x v p1 (hx.rp sF) rx
  rcases ed with rfl | rfl
  · obtain ⟨bs, r2⟩ := Rp.reads I hK (.tup ds) y u p2 (hy.rp sF) ry
    exact SeqAt.notIn_tuple_data r2 r1 (D.pys_plain _ p2) (D.py_plain _ p1) (by rw [D.pys_depth _ p2, D.py_depth _ p1]; omega) ⟨.bl _, H, I, by rw [any_py _ p1 _ p2]; rfl, q⟩
  · obtain ⟨bs, r2⟩ := Rp.reads I hK (.lst ds) y u p2 (hy.rp sF) ry
    exact SeqAt.notIn_list_data r2 r1 (D.pys_plain _ p2) (D.py_plain _ p1) (by rw [D.pys_depth _ p2, D.py_depth _ p1]; omega) ⟨.bl _, H, I, by rw [any_py _ p1 _ p2]; rfl, q⟩
theorem ltD_some {x y : D} {b : Bool} (h : ltD x y = some b) : ∃ i j, x = .int i ∧ y = .int j ∧ b = decide (i < j) := by
  unfold ltD at h
  split at h
  · exact ⟨_, _, rfl, rfl, (Option.some.inj h).symm⟩
  · cases h
theorem op_ltF : OpR X (compareOp .Lt) (rC T ltD) := by
  intro pins s σ H x y v u Q I rx ry h
  obtain ⟨F, dx, dy, b, sF, hx, hy, e, q⟩ := h
  obtain ⟨i, j, rfl, rfl, rfl⟩ := ltD_some e
  exact op_lt pins s σ H x y v u Q I rx ry ⟨i, j, hx.int, hy.int, q⟩
theorem op_gtF : OpR X (compareOp .Gt) (rC T fun x y => ltD y x) := by
  intro pins s σ H x y v u Q I rx ry h
  obtain ⟨F, dx, dy, b, sF, hx, hy, e, q⟩ := h
  obtain ⟨i, j, rfl, rfl, rfl⟩ := ltD_some e
  exact op_gt pins s σ H x y v u Q I rx ry ⟨j, i, hx.int, hy.int, q⟩
theorem op_leF : OpR X (compareOp .LtE) (rC T fun x y => (ltD y x).map not) := by
  intro pins s σ H x y v u Q I rx ry h
  obtain ⟨F, dx, dy, b, sF, hx, hy, e, q⟩ := h
  obtain ⟨b', e', rfl⟩ := Option.map_eq_some_iff.mp e
  obtain ⟨i, j, rfl, rfl, rfl⟩ := ltD_some e'
  refine op_le pins s σ H x y v u Q I rx ry ⟨j, i, hx.int, hy.int, ?_⟩
  show Q (.bl (decide (j ≤ i))) H
  rw [show decide (j ≤ i) = !decide (i < j) by rw [← decide_not]; exact decide_eq_decide.mpr Int.not_lt.symm]
  exact q
theorem op_geF : OpR X (compareOp .GtE) (rC T fun x y => (ltD x y).map not) := by
  intro pins s σ H x y v u Q I rx ry h
  obtain ⟨F, dx, dy, b, sF, hx, hy, e, q⟩ := h
  obtain ⟨b', e', rfl⟩ := Option.map_eq_some_iff.mp e
  obtain ⟨i, j, rfl, rfl, rfl⟩ := ltD_some e'
  refine op_ge pins s σ H x y v u Q I rx ry ⟨i, j, hx.int, hy.int, ?_⟩
  show Q (.bl (decide (j ≤ i))) H
  rw [show decide (j ≤ i) = !decide (i < j) by rw [← decide_not]; exact decide_eq_decide.mpr Int.not_lt.symm]
  exact q
theorem Rp.isNon {v : V} {d : D} (h : Rp T H v d) : decide (v = .non) = d.isNon := by
  cases h <;> simp [D.isNon]
theorem isD_some {x y : D} {b : Bool} (h : isD x y = some b) : (y = .non ∧ b = x.isNon) ∨ ∃ a c, x = .bl a ∧ y = .bl c ∧ b = (a == c) := by
  unfold isD at h
  split at h
  · exact .inl ⟨rfl, (Option.some.inj h).symm⟩
  · exact .inr ⟨_, _, rfl, rfl, (Option.some.inj h).symm⟩
  · cases h
theorem op_isF : OpR X (compareOp .Is) (rC T isD) := by
  intro pins s σ H x y v u Q I rx ry h
  obtain ⟨F, dx, dy, b, sF, hx, hy, e, q⟩ := h
  rcases isD_some e with ⟨rfl, rfl⟩ | ⟨a, c, rfl, rfl, rfl⟩
  · refine op_isN pins s σ H x y v u Q I rx ry ⟨hy.non, ?_⟩
    rw [(hx.rp sF).isNon]; exact q
  · refine op_isBl pins s σ H x y v u Q I rx ry ⟨a, c, hx.bl, hy.bl, ?_⟩
    rw [show decide (a = c) = (a == c) by rw [Bool.beq_eq_decide_eq]]; exact q
theorem op_isNotF : OpR X (compareOp .IsNot) (rC T fun x y => (isD x y).map not) := by
  intro pins s σ H x y v u Q I rx ry h
  obtain ⟨F, dx, dy, b, sF, hx, hy, e, q⟩ := h
  obtain ⟨b', e', rfl⟩ := Option.map_eq_some_iff.mp e
  rcases isD_some e' with ⟨rfl, rfl⟩ | ⟨a, c, rfl, rfl, rfl⟩
  · refine op_notN pins s σ H x y v u Q I rx ry ⟨hy.non, ?_⟩
    rw [(hx.rp sF).isNon]; exact q
  · refine op_notBl pins s σ H x y v u Q I rx ry ⟨a, c, hx.bl, hy.bl, ?_⟩
    rw [show decide (a = c) = (a == c) by rw [Bool.beq_eq_decide_eq]]; exact q
/-- all comparisons of plain data -/
theorem op_cmpF (hK : X.K = T.K) (hu : X.A.units + 64 < cLine) (op : CmpOp) : OpR X (compareOp op) (rC T (cmpD op)) := by
  cases op with
  | Eq => exact op_eqF hK hu
  | NotEq => exact op_neF hK hu
  | Lt => exact op_ltF
  | LtE => exact op_leF
  | Gt => exact op_gtF
  | GtE => exact op_geF
  | Is => exact op_isF
  | IsNot => exact op_isNotF
  | In => exact op_inF hK hu
  | NotIn => exact op_notInF hK hu

/-! ### arithmetic, + and * of rows -/
def rB (T : Nm) (g : D → D → Option R) : R2 := fun x y H Q => ∃ F dx dy r, Same F H ∧ Rt T F H x dx ∧ Rt T F H y dy ∧ g dx dy = some r ∧ ∀ v H', NewR T F H H' v r → Q v H'
theorem RpL.rep {F : Hp} {vs : List V} {ds : List D} (h : RpL T F vs ds) : ∀ n : Nat, RpL T F (List.replicate n vs).flatten (List.replicate n ds).flatten
  | 0 => .nil
  | n + 1 => by
    rw [List.replicate_succ, List.replicate_succ, List.flatten_cons, List.flatten_cons]
    exact h.app (h.rep n)
theorem op_catF : OpR X (binaryOp .Add) (fun x y H Q => ∃ F a b xs ys ds es, Same F H ∧ x = .ref a ∧ y = .ref b ∧ SqL X.K H a xs ∧ SqL X.K H b ys ∧ RpL T F xs ds ∧ RpL T F ys es ∧ xs.length + ys.length ≤ sizeLine ∧ ∀ v H', NewR T F H H' v (.lst (ds ++ es)) → Q v H') := by
  intro pins s σ H x y v u Q I rx ry h
  obtain ⟨F, a, b, xs, ys, ds, es, sF, rfl, rfl, h1, h2, r1, r2, hz, q⟩ := h
  cases rx
  cases ry
  obtain ⟨its, v1, p1, _⟩ := I.list h1
  obtain ⟨its2, v2, p2, _⟩ := I.list h2
  have l1 := v1.length
  have l2 := v2.length
  obtain ⟨⟨cls, dd, data, sl⟩, ho, hc, n, hd⟩ := p1.isList
  obtain ⟨⟨cls2, dd2, data2, sl2⟩, ho2, hc2, n2, hd2⟩ := p2.isList
  simp only at hc hd hc2 hd2
  subst hc hd hc2 hd2
  have ea : its.toArray ++ its2.toArray = (its ++ its2).toArray := by simp
  refine concat_meets ⟨_, ho, rfl⟩ ⟨_, ho2, rfl⟩ noFill_list_add seq_list_add PySem.F.slot_list_add PySem.F.entry_list_add (PySem.F.args_list_add_2 _ _) (PyProof.Rows.list_addW a b its.toArray its2.toArray n n2 dd dd2 sl sl2 (by rw [List.size_toArray, List.size_toArray]; omega)) ⟨ho, ho2, ?_⟩
  rw [ea]
  exact ⟨.ref _, _, I.lnew (t' := s.toks) (v1.append v2) (by rw [List.length_append]; omega), rfl, q _ _ ⟨_, _, rfl, I.fresh, rfl, r1.app r2⟩⟩
theorem mulOk_c {i j : Int} (h : mulOk i j = true) : CMul i j := by
  unfold mulOk at h
  simp only [Bool.or_eq_true, Bool.and_eq_true, decide_eq_true_eq] at h
  rcases h with h | h
  · exact .inl ⟨by omega, by omega⟩
  · exact .inr ⟨by omega, by omega⟩
theorem op_binF (hK : X.K = T.K) (op : Operator) : OpR X (binaryOp op) (rB T (binD op)) := by
  intro pins s σ H x y v u Q I rx ry h
  obtain ⟨F, dx, dy, r, sF, hx, hy, e, q⟩ := h
  have qi : ∀ i : Int, r = .val (.int i) → Q (.int i) H := fun i e => q _ _ (by rw [e]; exact .inl ⟨rfl, .int i⟩)
  unfold binD at e
  split at e
  · cases e
    exact op_add pins s σ H x y v u Q I rx ry ⟨_, _, hx.int, hy.int, qi _ rfl⟩
  · rename_i a b
    split at e
    · cases e
      have hx' : Rp T F x (.tup a) := hx
      have hy' : Rp T F y (.tup b) := hy
      cases hx' with
      | @tup p1 xs _ t1 r1 =>
        cases hy' with
        | @tup p2 ys _ t2 r2 =>
          have t1' := same_sqT sF t1
          have t2' := same_sqT sF t2
          rw [← hK] at t1' t2'
          refine op_catA pins s σ H _ _ v u Q I rx ry ⟨p1, p2, xs, ys, rfl, rfl, t1', t2', by rw [r1.len, r2.len, ← line_eq]; assumption, fun z => ?_, fun z1 z2 => ?_, fun z1 z2 p np => ?_⟩
          · subst z
            have ea : a = [] := by have := r1.len; simpa using this.symm
            subst ea
            exact q _ _ (.inl ⟨rfl, .tup t2 r2⟩)
          · subst z2
            have eb : b = [] := by have := r2.len; simpa using this.symm
            subst eb
            exact q _ _ (.inl ⟨rfl, by rw [List.append_nil]; exact .tup t1 r1⟩)
          · exact q _ _ (.inr (.inl ⟨p, xs ++ ys, a ++ b, rfl, rfl, np, rfl, r1.app r2⟩))
    · cases e
  · rename_i a b
    split at e
    · cases e
      obtain ⟨p1, xs, rfl, t1, r1⟩ := hx
      obtain ⟨p2, ys, rfl, t2, r2⟩ := hy
      rw [← hK] at t1 t2
      exact op_catF pins s σ H _ _ v u Q I rx ry ⟨F, p1, p2, xs, ys, a, b, sF, rfl, rfl, t1, t2, r1, r2, by rw [r1.len, r2.len, ← line_eq]; assumption, q⟩
    · cases e
  · rename_i a b
    split at e
    · cases e
      exact op_add_str pins s σ H x y v u Q I rx ry ⟨_, _, hx.str, hy.str, by rw [← line_eq]; assumption, q _ _ (.inl ⟨rfl, .str _⟩)⟩
    · cases e
  · cases e
    exact op_sub pins s σ H x y v u Q I rx ry ⟨_, _, hx.int, hy.int, qi _ rfl⟩
  · split at e
    · rename_i c
      cases e
      exact op_mul pins s σ H x y v u Q I rx ry ⟨_, _, hx.int, hy.int, mulOk_c c, qi _ rfl⟩
    · cases e
  · rename_i a k
    split at e
    · rename_i c
      obtain ⟨c1, c2, c3, c4⟩ := c
      cases e
      have hx' : Rp T F x (.tup a) := hx
      cases hx' with
      | @tup p1 xs _ t1 r1 =>
        have t1' := same_sqT sF t1
        rw [← hK] at t1'
        refine op_repT pins s σ H _ _ v u Q I rx ry ⟨p1, k, xs, rfl, hy.int, t1', fun z => c1 ?_, c2, c3, by rw [r1.len]; exact c4, fun p np => q _ _ (.inr (.inl ⟨p, _, _, rfl, rfl, np, rfl, r1.rep _⟩))⟩
        subst z
        have := r1.len
        simpa using this.symm
    · cases e
  · split at e
    · rename_i c
      cases e
      exact op_fdiv pins s σ H x y v u Q I rx ry ⟨_, _, hx.int, hy.int, ⟨c.1, c.2⟩, qi _ rfl⟩
    · cases e
  · split at e
    · rename_i c
      cases e
      exact op_mod pins s σ H x y v u Q I rx ry ⟨_, _, hx.int, hy.int, c, qi _ rfl⟩
    · cases e
  · split at e
    · rename_i c
      cases e
      exact op_pow pins s σ H x y v u Q I rx ry ⟨_, _, hx.int, hy.int, ⟨c.1, c.2.1, by omega⟩, qi _ rfl⟩
    · cases e
  · cases e
end
end Fx
end
section
set_option linter.all false
set_option Elab.async false
set_option maxRecDepth 100000
set_option maxHeartbeats 4000000
/-! The rules of expressions. -/
namespace Fx
open PySem PySem.Spec L2
variable {T : Nm} {W : WX} {X : Cx}

/-! ### what the shape of a text says -/
def Ex.star : Expr → Bool
  | .Starred .. => true
  | _ => false
theorem star_cons {e : Expr} (es : List Expr) (env : PySem.Env) (h : Ex.star e = false) : starEach (e :: es) env = (false, eval e env) :: starEach es env := by
  cases e <;> first | rfl | cases h
theorem star_plain {pos : Pos} {env : PySem.Env} : ∀ (es : List Expr), es.all (fun e => !Ex.star e) = true → (backTo pos (starEach es env)).any (·.1) = false
  | [], _ => rfl
  | e :: es, h => by
    simp only [List.all_cons, Bool.and_eq_true, Bool.not_eq_true'] at h
    rw [star_cons es env h.1]
    show (false || (backTo pos (starEach es env)).any (·.1)) = false
    rw [star_plain es h.2]; rfl
/-- a text whose test is its value's truth -/
def Ex.tst : Expr → Bool
  | .Name .. => true
  | .Call .. => true
  | .Subscript .. => true
  | .Attribute .. => true
  | .BinOp .. => true
  | .Tuple .. => true
  | .List .. => true
  | .ListComp .. => true
  | .Constant .. => true
  | _ => false
theorem tst_plain {e : Expr} {env : PySem.Env} (h : Ex.tst e = true) : ∀ whole, PySem.isTrue e env whole = (do let v ← whole; standAt e.pos; holding [v] (truthy v)) := by
  intro w
  cases e <;> first | rfl | cases h
def Ex.compr : Expr → Bool
  | .ListComp .. => true
  | .SetComp .. => true
  | .DictComp .. => true
  | _ => false
theorem swaps_plain {e : Expr} {t : Option Expr} {l : Nat} {env : PySem.Env} (h : Ex.compr e = false) : swapsWith e t l env = pure false := by
  cases e <;> first | rfl | cases h
def Ex.isCall : Expr → Bool
  | .Call .. => true
  | _ => false
theorem att_plain {e : Expr} {f : Str} {env : PySem.Env} (h : Ex.isCall e = false) : attributeBase e f env (eval e env) = eval e env := by
  cases e <;> first | rfl | cases h
def Ex.isSet : Expr → Bool
  | .Set .. => true
  | _ => false
theorem fold_plain {e : Expr} {env : PySem.Env} (h : Ex.isSet e = false) (x : Value) : foldedSetIterable e env x = pure x := by
  cases e <;> first | rfl | cases h
def Ex.isSlice : Expr → Bool
  | .Slice .. => true
  | _ => false
theorem behind_plain {e : Expr} {op : CmpOp} (h : Ex.isSet e = false) : behindInMarks op e = false := by
  cases e <;> first | rfl | cases h

/-! ### arithmetic and comparisons -/
theorem tM_new {σ : St} {H : Hp} {Q : VK} {F : Hp} {M : Lv} {ρ : Env} {o : Option R} (cf : Cf T F H M ρ σ) (q : Out T W σ M (optR o ρ) fun r ρ' => ∀ v F' H', Cf T F' H' ((r, v) :: M) ρ' σ → Q v H') :
    ∃ r, o = some r ∧ ∀ v H', NewR T F H H' v r → Q v H' := by
  obtain ⟨r, e, k⟩ := q.opt
  exact ⟨r, e, fun v H' n => let ⟨F', cf'⟩ := cf.new n; k v F' H' cf'⟩
theorem pe_binF {a b : Expr} {op : Operator} {pos : Pos} {ea eb : Env → Res Ar} (hK : X.K = T.K) (ha : PE X a (tAr T W ea)) (hb : PE X b (tAr T W eb)) :
    PE X (.BinOp a op b pos) (tM T W (two T.flds (fun x y ρ => optR (binD op x y) ρ) ea eb)) := by
  refine (pe_op (op_binF hK op) ha hb).imp fun σ H Q h => ?_
  refine tAr_two (K := fun M r ρ' => ∀ v F' H', Cf T F' H' ((r, v) :: M) ρ' σ → Q v H') h fun F M ρ H x y dx dy cf rx ry q => ?_
  obtain ⟨r, e, k⟩ := tM_new cf q
  exact ⟨F, dx, dy, r, cf.sub, rx, ry, e, k⟩
theorem cmpP_out {α : Type} {op : CmpOp} {dx dy : D} {σ : St} {M : Lv} {ρ : Env} {k : R → Env → Res α} {K : α → Env → Prop} (q : Out T W σ M ((cmpP op dx dy ρ).bind k) K) : ∃ b, cmpD op dx dy = some b ∧ Out T W σ M (k (.val (.bl b)) ρ) K := by
  unfold cmpP at q
  cases e : cmpD op dx dy with
  | none => rw [e] at q; exact q.elim
  | some b => rw [e] at q; exact ⟨b, rfl, q⟩
theorem pe_cmpF {a b : Expr} {op : CmpOp} {pos : Pos} {ea eb : Env → Res Ar} (hK : X.K = T.K) (hu : X.A.units + 64 < cLine) (ha : PE X a (tAr T W ea)) (hb : PE X b (tAr T W eb)) (hm : behindInMarks op b = false) :
    PE X (.Compare a [op] [b] pos) (tM T W (two T.flds (cmpP op) ea eb)) := by
  refine (pe_cmpR (op_cmpF hK hu op) ha hb hm).imp fun σ H Q h => ?_
  refine tAr_two (K := fun M r ρ' => ∀ v F' H', Cf T F' H' ((r, v) :: M) ρ' σ → Q v H') h fun F M ρ H x y dx dy cf rx ry q => ?_
  have q' : Out T W σ M ((cmpP op dx dy ρ).bind fun r ρ => .ok r ρ) fun r ρ' => ∀ v F' H', Cf T F' H' ((r, v) :: M) ρ' σ → Q v H' := by
    cases z : cmpP op dx dy ρ <;> (rw [z] at q; exact q)
  obtain ⟨c, e, k⟩ := cmpP_out q'
  exact ⟨F, dx, dy, c, cf.sub, rx, ry, e, k _ F H (cf.val (.bl c))⟩
theorem pt_cmpF {a b : Expr} {op : CmpOp} {pos : Pos} {ea eb : Env → Res Ar} (hK : X.K = T.K) (hu : X.A.units + 64 < cLine) (ha : PE X a (tAr T W ea)) (hb : PE X b (tAr T W eb)) (hm : behindInMarks op b = false) :
    PT X (.Compare a [op] [b] pos) (tT T W (two T.flds (fun x y ρ => optR (cmpD op x y) ρ) ea eb)) := by
  refine (pt_cmpR (op_cmpF hK hu op) ha hb hm).imp fun σ H Q h => ?_
  refine tAr_two (K := fun M b ρ' => ∀ F' H', Cf T F' H' M ρ' σ → Q b H') h fun F M ρ H x y dx dy cf rx ry q => ?_
  obtain ⟨c, e, k⟩ := q.opt
  exact ⟨F, dx, dy, c, cf.sub, rx, ry, e, c, rfl, k F H cf⟩

/-! ### truth -/
theorem line_len {xs : List V} {p : Addr} {pins : List (Addr × Obj)} {s : Shared} {σ : St} {H : Hp} (I : Inv X pins σ H s) (h : Rd H p (.lst xs)) : xs.length ≤ sizeLine := (h.ok I.hok).1
theorem Rt.tru {F H : Hp} {v : V} {d : D} {k : Bool} (hK : X.K = T.K) (s : Same F H) (h : Rt T F H v d) (e : truD d = some k) : TruV X.K v H k := by
  cases d with
  | non => cases h.non; exact (Option.some.inj e).symm
  | bl b => cases h.bl; exact (Option.some.inj e).symm
  | int i => cases h.int; exact (Option.some.inj e).symm
  | str x =>
    cases h.str
    simp only [truD] at e
    split at e
    · rename_i c
      refine ⟨by rw [← line_eq]; exact c, ?_⟩
      rw [← Option.some.inj e]
      by_cases z : x.length = 0
      · simp [z]
      · simp [z]
    · cases e
  | tup ds =>
    have h' : Rp T F v (.tup ds) := h
    cases h' with
    | @tup a xs _ t r =>
      refine .inr (.inl ⟨xs, by rw [hK]; exact same_sqT s t, ?_⟩)
      rw [← Option.some.inj e]
      have := r.len
      cases xs <;> cases ds <;> simp_all
  | lst ds =>
    obtain ⟨a, xs, rfl, t, r⟩ := h
    refine .inl ⟨xs, (by rw [hK]; exact t), ?_⟩
    rw [← Option.some.inj e]
    have := r.len
    cases xs <;> cases ds <;> simp_all
  | rng _ _ => cases e
  | ins _ _ => cases e
theorem pt_truF {e : Expr} {m : Env → Res Ar} (hK : X.K = T.K) (h : PE X e (tAr T W m)) (he : Ex.tst e = true) : PT X e (tT T W (one_ T.flds (fun d ρ => optR (truD d) ρ) m)) := by
  refine (pt_truth h (tst_plain he)).imp fun σ H Q q => ?_
  refine tAr_one (K := fun M b ρ' => ∀ F' H', Cf T F' H' M ρ' σ → Q b H') q fun F M ρ H x dx cf rx q => ?_
  obtain ⟨k, e, q⟩ := q.opt
  exact ⟨k, rx.tru hK cf.sub e, q F H cf⟩
/-- not, as a value -/
theorem pe_notF {a : Expr} {pos : Pos} {m : Env → Res Ar} (hK : X.K = T.K) (h : PE X a (tAr T W m)) : PE X (.UnaryOp .Not a pos) (tM T W (one_ T.flds (fun d ρ => (optR (truD d) ρ).bind fun b ρ => .ok (.val (.bl (!b))) ρ) m)) := by
  refine (pe_notT h).imp fun σ H Q q => ?_
  refine tAr_one (K := fun M r ρ' => ∀ v F' H', Cf T F' H' ((r, v) :: M) ρ' σ → Q v H') q fun F M ρ H x dx cf rx q => ?_
  obtain ⟨k, e, q⟩ := (Out.bind q).opt
  exact ⟨k, rx.tru hK cf.sub e, q _ F H (cf.val (.bl _))⟩
theorem pt_notF {a : Expr} {pos : Pos} {m : Env → Res Bool} (h : PT X a (tT T W m)) : PT X (.UnaryOp .Not a pos) (tT T W fun ρ => (m ρ).bind fun b ρ => .ok (!b) ρ) := by
  refine (pt_not h).imp fun σ H Q q => ?_
  obtain ⟨F, M, ρ, cf, q⟩ := q
  exact ⟨F, M, ρ, cf, (Out.bind q).imp fun b ρ' k => k⟩
/-- and, or: the rest behind a first operand -/
theorem pe_bopF {isAnd : Bool} {a b : Expr} {rest : List Expr} {pos : Pos} {m : Env → Res D} {r : Env → Res R} (hK : X.K = T.K) (ha : PE X a (tD T W m)) (hb : PE X (.BoolOp (if isAnd = true then .And else .Or) (b :: rest) pos) (tM T W r)) :
    PE X (.BoolOp (if isAnd = true then .And else .Or) (a :: b :: rest) pos) (tM T W fun ρ => (m ρ).bind fun d ρ => restB isAnd d r ρ) := by
  have key : ∀ (σ : St) (H : Hp) (Q : VK), tM T W (fun ρ => (m ρ).bind fun d ρ => restB isAnd d r ρ) σ H Q → tD T W m σ H fun x H1 => ∃ k, TruV X.K x H1 k ∧ if k = isAnd then tM T W r σ H1 Q else Q x H1 := by
    intro σ H Q q
    obtain ⟨F, M, ρ, cf, q⟩ := q
    refine ⟨F, M, ρ, cf, (Out.bind q).imp fun d ρ1 q1 v1 F1 H1 cf1 => ?_⟩
    unfold restB at q1
    cases e : truD d with
    | none => rw [e] at q1; exact q1.elim
    | some k =>
      rw [e] at q1
      refine ⟨k, cf1.rp.rt cf1.sub |>.tru hK cf1.sub e, ?_⟩
      have q1 : Out T W σ M (if k = isAnd then r ρ1 else .ok (.val d) ρ1) _ := q1
      split
      · rename_i z; rw [if_pos z] at q1; exact ⟨F1, M, ρ1, cf1.tail, q1⟩
      · rename_i z; rw [if_neg z] at q1; exact q1 v1 F1 H1 cf1
  cases isAnd with
  | true =>
    refine (pe_andT ha hb).imp fun σ H Q q => ?_
    obtain ⟨F, M, ρ, cf, q⟩ := key σ H Q q
    exact ⟨F, M, ρ, cf, q.imp fun d ρ' k v F' H' cf' => let ⟨b, t, z⟩ := k v F' H' cf'; ⟨b, t, z⟩⟩
  | false =>
    refine (pe_orT ha hb).imp fun σ H Q q => ?_
    obtain ⟨F, M, ρ, cf, q⟩ := key σ H Q q
    refine ⟨F, M, ρ, cf, q.imp fun d ρ' k v F' H' cf' => ?_⟩
    obtain ⟨b, t, z⟩ := k v F' H' cf'
    refine ⟨b, t, ?_⟩
    cases b with
    | true => exact z
    | false => exact z
theorem pw_bopF {isAnd : Bool} {a b : Expr} {rest : List Expr} {pos : Pos} {m r : Env → Res Bool} (ha : PT X a (tT T W m)) (hb : PW X (.BoolOp (if isAnd = true then .And else .Or) (b :: rest) pos) (tT T W r)) :
    PW X (.BoolOp (if isAnd = true then .And else .Or) (a :: b :: rest) pos) (tT T W fun ρ => (m ρ).bind fun k ρ => if k = isAnd then r ρ else .ok k ρ) := by
  have key : ∀ (σ : St) (H : Hp) (Q : Bool → Hp → Prop), tT T W (fun ρ => (m ρ).bind fun k ρ => if k = isAnd then r ρ else .ok k ρ) σ H Q → tT T W m σ H fun k H1 => if k = isAnd then tT T W r σ H1 Q else Q k H1 := by
    intro σ H Q q
    obtain ⟨F, M, ρ, cf, q⟩ := q
    refine ⟨F, M, ρ, cf, (Out.bind q).imp fun k ρ1 q1 F1 H1 cf1 => ?_⟩
    show if k = isAnd then tT T W r σ H1 Q else Q k H1
    split
    · rename_i z; rw [if_pos z] at q1; exact ⟨F1, M, ρ1, cf1, q1⟩
    · rename_i z; rw [if_neg z] at q1; exact q1 F1 H1 cf1
  cases isAnd with
  | true =>
    refine (pw_and ha hb).imp fun σ H Q q => ?_
    obtain ⟨F, M, ρ, cf, q⟩ := key σ H Q q
    refine ⟨F, M, ρ, cf, q.imp fun k ρ' z F' H' cf' => ?_⟩
    have z := z F' H' cf'
    cases k with
    | true => exact z
    | false => exact z
  | false =>
    refine (pw_or ha hb).imp fun σ H Q q => ?_
    obtain ⟨F, M, ρ, cf, q⟩ := key σ H Q q
    refine ⟨F, M, ρ, cf, q.imp fun k ρ' z F' H' cf' => ?_⟩
    have z := z F' H' cf'
    cases k with
    | true => exact z
    | false => exact z
/-- a if t else b -/
theorem pe_ifF {c a b : Expr} {pos : Pos} {m : Env → Res Bool} {ea eb : Env → Res R} (hc : PT X c (tT T W m)) (ha : PE X a (tM T W ea)) (hb : PE X b (tM T W eb)) : PE X (.IfExp c a b pos) (tM T W fun ρ => (m ρ).bind fun k ρ => if k = true then ea ρ else eb ρ) := by
  refine (pe_ifExp hc ha hb).imp fun σ H Q q => ?_
  obtain ⟨F, M, ρ, cf, q⟩ := q
  refine ⟨F, M, ρ, cf, (Out.bind q).imp fun k ρ1 q1 F1 H1 cf1 => ?_⟩
  cases k with
  | true => exact ⟨F1, M, ρ1, cf1, q1⟩
  | false => exact ⟨F1, M, ρ1, cf1, q1⟩

/-! ### subscripts -/
def rI (T : Nm) (g : D → D → Option D) : R2 := fun x y H Q => ∃ F dx dy d, Same F H ∧ Rt T F H x dx ∧ Rt T F H y dy ∧ g dx dy = some d ∧ ∀ v, Rp T F v d → Q v H
theorem atI_map {α β : Type} {xs : List α} {ys : List β} {i : Int} {y : β} (l : xs.length = ys.length) (h : atI ys i = some y) : ∃ j, ixN ys.length i = some j ∧ ys[j]? = some y ∧ atI xs i = xs[j]? := by
  unfold atI at h
  cases e : ixN ys.length i with
  | none => rw [e] at h; cases h
  | some j =>
    rw [e] at h
    exact ⟨j, rfl, h, by unfold atI; rw [l, e]; rfl⟩
theorem ix_F (hK : X.K = T.K) : IxR X (rI T idxD) := by
  intro value slice pins s σ H x y v u Q I rx ry h hs
  obtain ⟨F, dx, dy, d, sF, hx, hy, e, q⟩ := h
  unfold idxD at e
  split at e
  · have hx' : Rp T F x (.tup _) := hx
    cases hx' with
    | @tup a xs ds t r =>
      obtain ⟨j, e1, e2, e3⟩ := atI_map (xs := xs) r.len e
      obtain ⟨w, e4, rw'⟩ := r.get e2
      exact ix_tup value slice pins s σ H _ _ v u Q I rx ry ⟨a, xs, _, w, rfl, hy.int, by rw [hK]; exact same_sqT sF t, by rw [e3, e4], q w rw'⟩ hs
  · obtain ⟨a, xs, rfl, t, r⟩ := hx
    obtain ⟨j, e1, e2, e3⟩ := atI_map (xs := xs) r.len e
    obtain ⟨w, e4, rw'⟩ := r.get e2
    exact ix_list value slice pins s σ H _ _ v u Q I rx ry ⟨a, xs, _, w, rfl, hy.int, (by rw [hK]; exact t), by rw [e3, e4], q w rw'⟩ hs
  · cases e
def ixP (b : Expr) : Bool := match b with
  | .Slice .. => false
  | _ => true
theorem plainIx {b : Expr} (h : ixP b = true) : PlainIx b := by
  intro o i
  cases b <;> first | rfl | cases h

/-- an operand in hand, then plain data -/
theorem tAr_D {α : Type} {σ : St} {ea : Env → Res Ar} {eb : Env → Res D} {f : D → D → Env → Res α} {H : Hp} {K : Lv → α → Env → Prop} {R : V → V → Hp → Prop}
    (h : ∃ F M ρ, Cf T F H M ρ σ ∧ Out T W σ M ((ea ρ).bind fun x ρ => (eb ρ).bind fun y ρ => match x.d T.flds ρ with
      | some x => f x y ρ
      | none => .stuck) (K M))
    (k : ∀ F M ρ H x y dx dy, Cf T F H M ρ σ → Rt T F H x dx → Rt T F H y dy → Out T W σ M (f dx dy ρ) (K M) → R x y H) :
    tAr T W ea σ H fun x H1 => tD T W eb σ H1 fun y H2 => R x y H2 := by
  obtain ⟨F, M, ρ, cf, q⟩ := h
  refine ⟨F, M, ρ, cf, (Out.bind q).imp fun a ρ1 q1 v1 F1 H1 i1 cf1 => ?_⟩
  refine ⟨F1, a.tmp v1 ++ M, ρ1, cf1, (Out.wkL (Out.bind q1)).imp fun dy ρ2 q2 v2 F2 H2 cf2 => ?_⟩
  cases e1 : a.d T.flds ρ2 with
  | none => rw [e1] at q2; exact q2.elim
  | some dx =>
    rw [e1] at q2
    have r1 : Rt T F2 H2 v1 dx := Cf.arD (P := []) (cf2.tail) i1 e1
    exact k F2 M ρ2 H2 v1 v2 dx dy cf2.tail.dropL r1 (cf2.rp.rt cf2.sub) q2
theorem pe_ixF {a b : Expr} {pos : Pos} {ea : Env → Res Ar} {eb : Env → Res D} (hK : X.K = T.K) (ha : PE X a (tAr T W ea)) (hb : PE X b (tD T W eb)) (hs : ixP b = true) :
    PE X (.Subscript a b pos) (tM T W fun ρ => (ea ρ).bind fun x ρ => (eb ρ).bind fun y ρ => match x.d T.flds ρ with
      | some x => optR ((idxD x y).map .val) ρ
      | none => .stuck) := by
  refine (pe_ix (ix_F hK) ha hb (plainIx hs)).imp fun σ H Q h => ?_
  refine tAr_D (f := fun x y ρ => optR ((idxD x y).map R.val) ρ) (K := fun M r ρ' => ∀ v F' H', Cf T F' H' ((r, v) :: M) ρ' σ → Q v H') h fun F M ρ H x y dx dy cf rx ry q => ?_
  obtain ⟨r, e, k⟩ := q.opt
  obtain ⟨d, e2, e3⟩ := Option.map_eq_some_iff.mp e
  subst e3
  exact ⟨F, dx, dy, d, cf.sub, rx, ry, e2, fun v r => k v F H (cf.val r)⟩

/-! ### slices -/
def tO (T : Nm) (W : WX) (m : Env → Res (Option Int)) : TO := fun σ H Q => ∃ F M ρ, Cf T F H M ρ σ ∧ Out T W σ M (m ρ) fun o ρ' => ∀ F' H', Cf T F' H' M ρ' σ → Q o H'
theorem po_noneF : PO X none (tO T W fun ρ => .ok none ρ) := by
  refine ⟨fun pins s σ H Q I h => po_none.run pins s σ H Q I ?_⟩
  obtain ⟨F, M, ρ, cf, q⟩ := h
  exact q F H cf
theorem po_someF {e : Expr} {m : Env → Res D} (h : PE X e (tD T W m)) : PO X (some e) (tO T W fun ρ => (m ρ).bind fun d ρ => match d with
    | .int i => .ok (some i) ρ
    | _ => .stuck) := by
  refine ⟨fun pins s σ H Q I q => (po_some h).run pins s σ H Q I ?_⟩
  obtain ⟨F, M, ρ, cf, q⟩ := q
  refine ⟨F, M, ρ, cf, (Out.bind q).imp fun d ρ' k v F' H' cf' => ?_⟩
  cases d with
  | int i =>
    have r := cf'.rp
    cases r
    exact ⟨i, rfl, k F' H' cf'.tail⟩
  | _ => exact k.elim
def rSl (T : Nm) : V → Option Int → Option Int → Hp → VK → Prop := fun x lo hi H Q => ∃ F dx r, Same F H ∧ Rt T F H x dx ∧ slcD dx lo hi = some r ∧ ∀ v H', NewR T F H H' v r → Q v H'
theorem cut_len {xs : List V} {ds : List D} {F : Hp} (r : RpL T F xs ds) (lo hi : Option Int) : RpL T F (cutV xs lo hi) (cutD ds lo hi) := by
  unfold cutV cutD
  rw [r.len]
  exact (r.drop _).take _
theorem cut_whole {ds : List D} {lo hi : Option Int} (h : HT.sIx ds.length 0 lo = 0 ∧ HT.sIx ds.length ds.length hi = ds.length) : cutD ds lo hi = ds := by
  unfold cutD
  rw [h.1, h.2]
  simp
theorem sl_F (hK : X.K = T.K) : SlR X (rSl T) := by
  intro pins s σ H x v vl vu lo hi sl Q I rx hs pl pu h
  obtain ⟨F, dx, r, sF, hx, e, q⟩ := h
  cases dx with
  | tup ds =>
    have hx' : Rp T F x (.tup ds) := hx
    cases hx' with
    | @tup a xs _ t rr =>
      simp only [slcD, Option.some.injEq] at e
      subst e
      refine sl_tupA pins s σ H _ v vl vu lo hi sl Q I rx hs pl pu ⟨a, xs, rfl, by rw [hK]; exact same_sqT sF t, fun w => q _ _ (.inl ⟨rfl, ?_⟩), fun w p np => q _ _ (.inr (.inl ⟨p, _, _, rfl, rfl, np, rfl, cut_len rr lo hi⟩))⟩
      rw [rr.len] at w
      rw [cut_whole w]
      exact .tup t rr
  | lst ds =>
    obtain ⟨a, xs, rfl, t, rr⟩ := hx
    simp only [slcD, Option.some.injEq] at e
    subst e
    exact sl_list pins s σ H _ v vl vu lo hi sl Q I rx hs pl pu ⟨a, xs, rfl, (by rw [hK]; exact t), fun p np => q _ _ ⟨p, _, rfl, np, rfl, cut_len rr lo hi⟩⟩
  | _ => cases e
theorem pe_slcF {a : Expr} {lo hi : Option Expr} {p2 pos : Pos} {ea : Env → Res Ar} {el eh : Env → Res (Option Int)} (hK : X.K = T.K) (ha : PE X a (tAr T W ea)) (hl : PO X lo (tO T W el)) (hh : PO X hi (tO T W eh)) :
    PE X (.Subscript a (.Slice lo hi none p2) pos) (tM T W fun ρ => (ea ρ).bind fun x ρ => (el ρ).bind fun l ρ => (eh ρ).bind fun h ρ => match x.d T.flds ρ with
      | some x => optR (slcD x l h) ρ
      | none => .stuck) := by
  refine (pe_slice (sl_F hK) ha hl hh).imp fun σ H Q h => ?_
  obtain ⟨F, M, ρ, cf, q⟩ := h
  refine ⟨F, M, ρ, cf, (Out.bind q).imp fun a ρ1 q1 v1 F1 H1 i1 cf1 => ?_⟩
  refine ⟨F1, a.tmp v1 ++ M, ρ1, cf1, (Out.wkL (Out.bind q1)).imp fun l ρ2 q2 F2 H2 cf2 => ?_⟩
  refine ⟨F2, a.tmp v1 ++ M, ρ2, cf2, (Out.wkL (Out.bind q2)).imp fun h ρ3 q3 F3 H3 cf3 => ?_⟩
  cases e1 : a.d T.flds ρ3 with
  | none => rw [e1] at q3; exact q3.elim
  | some dx =>
    rw [e1] at q3
    obtain ⟨r, e, k⟩ := tM_new cf3.dropL q3
    exact ⟨F3, dx, r, cf3.sub, Cf.arD (P := []) cf3 i1 e1, e, k⟩

/-! ### displays -/
theorem pa_nilF : PA X [] (tDs T W fun ρ => .ok [] ρ) := by
  refine pa_nil.imp fun σ H Q h => ?_
  obtain ⟨F, M, ρ, cf, q⟩ := h
  exact q [] F H .nil cf
theorem pa_consF {e : Expr} {es : List Expr} {m : Env → Res D} {ms : Env → Res (List D)} (he : PE X e (tD T W m)) (hs : PA X es (tDs T W ms)) (st : Ex.star e = false) :
    PA X (e :: es) (tDs T W fun ρ => (m ρ).bind fun d ρ => (ms ρ).bind fun ds ρ => .ok (d :: ds) ρ) := by
  refine (pa_cons he hs (star_cons es _ st)).imp fun σ H Q h => ?_
  obtain ⟨F, M, ρ, cf, q⟩ := h
  refine ⟨F, M, ρ, cf, (Out.bind q).imp fun d ρ1 q1 v1 F1 H1 cf1 => ?_⟩
  refine ⟨F1, (.val d, v1) :: M, ρ1, cf1, (Out.wk (Out.bind q1)).imp fun ds ρ2 q2 vs F2 H2 r2 cf2 => ?_⟩
  exact q2 (v1 :: vs) F2 H2 (.cons cf2.rp r2) cf2.tail
theorem pe_tupF {es : List Expr} {k : Nat} {pos : Pos} {ms : Env → Res (List D)} (h : PA X es (tDs T W ms)) : PE X (.Tuple es k pos) (tM T W fun ρ => (ms ρ).bind fun ds ρ => if ds.length ≤ LINE then .ok (.val (.tup ds)) ρ else .stuck) := by
  refine (pe_tup h).imp fun σ H Q h => ?_
  obtain ⟨F, M, ρ, cf, q⟩ := h
  refine ⟨F, M, ρ, cf, (Out.bind q).imp fun ds ρ1 q1 vs F1 H1 r1 cf1 => ?_⟩
  split at q1
  · rename_i c
    refine ⟨by rw [r1.len, ← line_eq]; exact c, fun p np => ?_⟩
    obtain ⟨F2, cf2⟩ := cf1.new (r := .val (.tup ds)) (.inr (.inl ⟨p, vs, ds, rfl, rfl, np, rfl, r1⟩))
    exact q1 _ F2 _ cf2
  · exact q1.elim
theorem pe_lstF {es : List Expr} {pos : Pos} {ms : Env → Res (List D)} (h : PA X es (tDs T W ms)) : PE X (.List es pos) (tM T W fun ρ => (ms ρ).bind fun ds ρ => if ds.length ≤ LINE then .ok (.lst ds) ρ else .stuck) := by
  refine (pe_lst h).imp fun σ H Q h => ?_
  obtain ⟨F, M, ρ, cf, q⟩ := h
  refine ⟨F, M, ρ, cf, (Out.bind q).imp fun ds ρ1 q1 vs F1 H1 r1 cf1 => ?_⟩
  split at q1
  · rename_i c
    exact ⟨by rw [r1.len, ← line_eq]; exact c, fun p np => q1 _ F1 _ (cf1.own np r1)⟩
  · exact q1.elim
end Fx
end
section
set_option linter.all false
set_option Elab.async false
set_option maxRecDepth 100000
set_option maxHeartbeats 4000000
/-! Calls, instances, built-in functions. -/
namespace Fx
open PySem PySem.Spec L2
variable {T : Nm} {W : WX} {X : Cx} {σ : St} {M : Lv}

/-! ### arguments -/
theorem pa_nilA : PA X [] (tAs T W fun ρ => .ok [] ρ) := by
  refine pa_nil.imp fun σ H Q h => ?_
  obtain ⟨F, M, ρ, cf, q⟩ := h
  exact q [] F H trivial cf
theorem pa_consA {e : Expr} {es : List Expr} {m : Env → Res Ar} {ms : Env → Res (List Ar)} (he : PE X e (tAr T W m)) (hs : PA X es (tAs T W ms)) (st : Ex.star e = false) :
    PA X (e :: es) (tAs T W fun ρ => (m ρ).bind fun a ρ => (ms ρ).bind fun as ρ => .ok (a :: as) ρ) := by
  refine (pa_cons he hs (star_cons es _ st)).imp fun σ H Q h => ?_
  obtain ⟨F, M, ρ, cf, q⟩ := h
  refine ⟨F, M, ρ, cf, (Out.bind q).imp fun a ρ1 q1 v1 F1 H1 i1 cf1 => ?_⟩
  refine ⟨F1, a.tmp v1 ++ M, ρ1, cf1, (Out.wkL (Out.bind q1)).imp fun as ρ2 q2 vs F2 H2 i2 cf2 => ?_⟩
  refine q2 (v1 :: vs) F2 H2 ⟨i1, i2⟩ ?_
  show Cf T F2 H2 ((a.tmp v1 ++ tmps as vs) ++ M) ρ2 σ
  rw [List.append_assoc]
  exact Ar.tmp_in cf2
theorem perm_out {α : Type} {A B : List α} {x : α} : (A ++ x :: B).Perm (x :: (A ++ B)) := List.perm_middle
/-- the arguments are handed over: their values stand apart -/
theorem hand_ok {F H : Hp} : ∀ {as : List Ar} {vs : List V} {M : Lv} {ρ ρ' : Env} {rs : List R}, Cf T F H (tmps as vs ++ M) ρ σ → ins_ σ as vs → hand as ρ = some (rs, ρ') → Cf T F H (rs.zip vs ++ M) ρ' σ ∧ rs.length = vs.length
  | [], [], M, ρ, ρ', rs, cf, _, e => by cases e; exact ⟨cf, rfl⟩
  | [], _ :: _, _, _, _, _, _, i, _ => i.elim
  | _ :: _, [], _, _, _, _, _, i, _ => i.elim
  | .v r :: as, v :: vs, M, ρ, ρ', rs, cf, i, e => by
    obtain ⟨⟨rs', ρ2⟩, e1, e2⟩ := Option.map_eq_some_iff.mp (show (hand as ρ).map (fun p => (r :: p.1, p.2)) = some (rs, ρ') from e)
    cases e2
    have cf1 : Cf T F H (tmps as vs ++ ((r, v) :: M)) ρ σ := Cf.permM (M := (r, v) :: (tmps as vs ++ M)) cf perm_out.symm
    obtain ⟨cf2, l⟩ := hand_ok cf1 i.2 e1
    exact ⟨cf2.permM perm_out, congrArg Nat.succ l⟩
  | .b j :: as, v :: vs, M, ρ, ρ', rs, cf, i, e => by
    have e : (match ρ.at j with
      | some r => (hand as (ρ.set j none)).map fun p => (r :: p.1, p.2)
      | none => none) = some (rs, ρ') := e
    cases z : ρ.at j with
    | none => rw [z] at e; cases e
    | some r =>
      rw [z] at e
      obtain ⟨⟨rs', ρ2⟩, e1, e2⟩ := Option.map_eq_some_iff.mp (show (hand as (ρ.set j none)).map (fun p => (r :: p.1, p.2)) = some (rs, ρ') from e)
      cases e2
      obtain ⟨v', e3, cf'⟩ := Cf.out (M := tmps as vs ++ M) cf (at_get z)
      have i1 : σ[j]? = some (some v) := i.1
      rw [i1] at e3; cases e3
      have cf1 : Cf T F H (tmps as vs ++ ((r, v) :: M)) (ρ.set j none) σ := Cf.permM cf' perm_out.symm
      obtain ⟨cf2, l⟩ := hand_ok cf1 i.2 e1
      exact ⟨cf2.permM perm_out, congrArg Nat.succ l⟩
/-- what is live of a row -/
def lives : Env → List V → Lv
  | some r :: os, v :: vs => (r, v) :: lives os vs
  | none :: os, _ :: vs => lives os vs
  | _, _ => []
theorem lives_sub {F H : Hp} {L : Lv} : ∀ {os : Env} {vs : List V}, Reps T F H (lives os vs ++ L) → Reps T F H L := fun h => h.drop
theorem set_id {l : List (Option V)} {i : Nat} {v : V} (h : l[i]? = some (some v)) : l.set i (some v) = l := set_same h
/-- what was lent comes back -/
theorem give_ok {F H : Hp} : ∀ {as : List Ar} {outs : Env} {vs : List V} {M : Lv} {ρ : Env}, Cf T F H (lives outs vs ++ M) ρ σ → ins_ σ as vs → Cf T F H M (giveB as outs ρ) σ
  | [], _, _, _, _, cf, _ => by
    show Cf T F H _ _ σ
    exact cf.dropL
  | .v r :: as, [], vs, _, _, cf, _ => cf.dropL
  | .b j :: as, [], vs, _, _, cf, _ => cf.dropL
  | _ :: _, _ :: _, [], _, _, _, i => i.elim
  | .v r :: as, none :: os, v :: vs, M, ρ, cf, i => give_ok (as := as) (outs := os) (vs := vs) cf i.2
  | .v r :: as, some o :: os, v :: vs, M, ρ, cf, i => give_ok (as := as) (outs := os) (vs := vs) (Cf.tail (M := lives os vs ++ M) cf) i.2
  | .b j :: as, none :: os, v :: vs, M, ρ, cf, i => by
    have q := give_ok (as := as) (outs := os) (vs := vs) cf i.2
    have i1 : σ[j]? = some (some v) := i.1
    have q' := Cf.forget (i := j) q (some v)
    rw [set_id i1] at q'
    exact q'
  | .b j :: as, some o :: os, v :: vs, M, ρ, cf, i => by
    have i1 : σ[j]? = some (some v) := i.1
    have cf1 : Cf T F H (lives os vs ++ ((o, v) :: M)) ρ σ := Cf.permM (M := (o, v) :: (lives os vs ++ M)) cf perm_out.symm
    have q := give_ok (as := as) (outs := os) (vs := vs) cf1 i.2
    have q' := Cf.into (i := j) q (List.getElem?_eq_some_iff.mp i1).1
    rw [set_id i1] at q'
    exact q'

/-! ### a def's promise -/
/-- called with rs, the outcome Φ says -/
def spF (T : Nm) (Φ : Fn) (f np : Nat) : Sp := fun vs H Q E => vs.length = np ∧ ∃ F L rs, rs.length = vs.length ∧ Reps T F H (rs.zip vs ++ L) ∧ match Φ f rs with
  | .ok r outs => ∀ v F' H', Reps T F' H' ((r, v) :: (lives outs vs ++ L)) → Q v H'
  | .exc c d outs => ∀ v dd F' H', Reps T F' H' (lives outs vs ++ L) → H' dd = some (.xd [(T.xfld c, v)]) → Rp T F' v d → E (.ref (T.xcls c)) (some dd) H'
  | .stuck => False
/-- what a body must know of a def that it calls -/
structure FnKn (T : Nm) (Φ : Fn) (X : Cx) (f np : Nat) (fa : Addr) : Prop where
  kp : PySem.W.keepIn X.K (.ref fa) = true
  ok : ∃ k fd ps, FnOk X.prog X.w X.K X.mg X.base (L2.CX X.prog X.w) k fa fd ps (spF T Φ f np) ∧ Room k X.A ∧ Binds X.K fd ps []
theorem callR_sp {Φ : Fn} {f np : Nat} {F H : Hp} {as : List Ar} {vs : List V} {ρ : Env} {Q : VK} (cf : Cf T F H (tmps as vs ++ M) ρ σ) (i : ins_ σ as vs) (hl : vs.length = np)
    (q : Out T W σ M (callR Φ f as ρ) fun r ρ' => ∀ v F' H', Cf T F' H' ((r, v) :: M) ρ' σ → Q v H') : spF T Φ f np vs H Q (WE W σ) := by
  unfold callR at q
  cases e : hand as ρ with
  | none => rw [e] at q; exact q.elim
  | some p =>
    obtain ⟨rs, ρ'⟩ := p
    rw [e] at q
    obtain ⟨cf1, l⟩ := hand_ok cf i e
    obtain ⟨L, sl, rp⟩ := cf1
    refine ⟨hl, F, M ++ L, rs, l, by rw [← List.append_assoc]; exact rp, ?_⟩
    have q : Out T W σ M (match Φ f rs with
      | .ok r outs => Res.ok r (giveB as outs ρ')
      | .exc c d outs => .exc c d (giveB as outs ρ')
      | .stuck => .stuck) _ := q
    cases z : Φ f rs with
    | ok r outs =>
      rw [z] at q
      intro v F' H' rp'
      refine q v F' H' ?_
      have cf2 : Cf T F' H' (lives outs vs ++ ((r, v) :: M)) ρ' σ := ⟨L, sl, by
        refine rp'.perm ?_
        rw [List.append_assoc, List.cons_append]
        exact perm_out.symm⟩
      exact give_ok cf2 i
    | exc c d outs =>
      rw [z] at q
      intro v dd F' H' rp' hd rv
      exact q v dd F' H' (give_ok ⟨L, sl, by rw [List.append_assoc]; exact rp'⟩ i) hd rv
    | stuck => rw [z] at q; exact q.elim
theorem pe_callF {Φ : Fn} {f np : Nat} {fa : Addr} {x : Str} {p pos : Pos} {e : Expr} {es : List Expr} {ms : Env → Res (List Ar)} (kn : FnKn T Φ X f np fa) (tk : Takes X W) (hg : Gl X x) (hm : X.mg x = some (.ref fa)) (hn : (e :: es).length = np)
    (ha : PA X (e :: es) (tAs T W ms)) (hdb : (x == ("__debug__" : Str)) = false) (h1 : Ex.star e = false) (h2 : es.all (fun e => !Ex.star e) = true)
    (hln : ∀ ρ, ∀ as ρ', ms ρ = .ok as ρ' → as.length = np) :
    PE X (.Call (.Name x p) (e :: es) [] pos) (tM T W fun ρ => (ms ρ).bind fun as ρ => callR Φ f as ρ) := by
  obtain ⟨k, fd, ps, F, hr, hb⟩ := kn.ok
  refine (pe_callS F hr hg hm kn.kp hb (fun σ => passAt tk σ) ha hdb (star_cons es _ h1) (star_plain es h2)).imp fun σ H Q h => ?_
  obtain ⟨F, M, ρ, cf, q⟩ := h
  have q := Out.bind q
  refine ⟨F, M, ρ, cf, ?_⟩
  cases z : ms ρ with
  | stuck => rw [z] at q; exact q.elim
  | exc c d ρ1 =>
    rw [z] at q
    exact q
  | ok as ρ1 =>
    rw [z] at q
    have q : Out T W σ M _ _ := q
    intro vs F1 H1 i cf1
    have hl := hln ρ as ρ1 z
    have hv : as.length = vs.length := by
      have key : ∀ (as : List Ar) (vs : List V), ins_ σ as vs → as.length = vs.length := by
        intro as
        induction as with
        | nil => intro vs i; cases vs with
          | nil => rfl
          | cons _ _ => exact i.elim
        | cons a as ih => intro vs i; cases vs with
          | nil => exact i.elim
          | cons v vs => exact congrArg Nat.succ (ih vs i.2)
      exact key as vs i
    exact callR_sp cf1 i (hv.symm.trans hl) q

/-! ### new instances -/
theorem run_makeS {CX : CXT} {k : Nat} {f C : Addr} {fd : FuncData} {ps : List Str} {sp : Sp} {E : XK} {pins : List (Addr × Obj)} {σ : St} {H : Hp} {s : Shared} {Q : VK} {us : List Value} {vs : List V} (Mk : Mk X.K C f) (F : FnOk X.prog X.w X.K X.mg X.base CX k f fd ps sp) (hr : Room (k + 1) X.A) (hb : Binds X.K fd ps [])
    (hx : PassesAt CX X σ E) (I : Inv X pins σ H s) (r : Vals vs us)
    (h : ∀ x dx, H x = none → H dx = none → dx ≠ x → sp (.ref x :: vs) (upd (upd H dx (.own x)) x (.ins C dx [])) (fun v H2 => v = .non ∧ Q (.ref x) H2) E) :
    wpAny (model X.prog X.w) X.A (call (.ref C) us) (EP X pins σ Q) X.xe s := by
  have hq := h (s.heap.objs.size + 1) s.heap.objs.size (I.hok.fresh (Nat.le_succ _)) (I.hok.fresh (Nat.le_refl _)) (Nat.ne_of_lt (Nat.lt_succ_self _))
  have I2 := Inv.made (C := C) I
  have r2 : Vals (V.ref (s.heap.objs.size + 1) :: vs) (Value.ref (s.heap.objs.size + 1) :: us) := .cons rfl r
  have hl : (Value.ref (s.heap.objs.size + 1) :: us).length = ps.length := by
    have e := r2.length
    rw [F.len _ _ _ _ hq] at e
    exact e.symm
  have hb2 := hb _ (Value.ref (s.heap.objs.size + 1) :: us) I2.kIn (by rw [List.append_nil]; exact hl)
  rw [List.append_nil] at hb2
  refine wpAny_call (make_map (f := f) I.kIn Mk.makes Mk.init (beq_iff_eq.mp Mk.fn) (codeAny_mono (F.run _ X.stack _ _ ⟨Value.ref (s.heap.objs.size + 1) :: us, []⟩ (Value.ref (s.heap.objs.size + 1) :: us) _ _ E (hr.make C us [])
    (I2.env0.make C us []) hb2 r2 hq) fun r s' hq' => ?_))
  cases r with
  | error e => exact hx pins _ _ e s' I2 hq'
  | ok fl =>
    cases fl with
    | ret u =>
      obtain ⟨v, H', I3, rv, ev, q3⟩ := I2.after hq'
      subst ev
      exact ⟨rv, ⟨V.ref (s.heap.objs.size + 1), H', I3, rfl, q3⟩⟩
    | next => exact False.elim hq'
    | brk => exact False.elim hq'
    | cont => exact False.elim hq'
def tMakeS (C : Addr) (sp : Sp) (E : St → XK) (t : TA) : TE := fun σ H Q => t σ H fun vs H1 => ∀ x dx, H1 x = none → H1 dx = none → dx ≠ x →
  sp (.ref x :: vs) (upd (upd H1 dx (.own x)) x (.ins C dx [])) (fun v H2 => v = .non ∧ Q (.ref x) H2) (E σ)
theorem pe_makeS {CX : CXT} {k : Nat} {f C : Addr} {fd : FuncData} {ps : List Str} {sp : Sp} {E : St → XK} {x : Str} {p pos : Pos} {e : Expr} {es : List Expr} {t : TA} (Mk : Mk X.K C f) (F : FnOk X.prog X.w X.K X.mg X.base CX k f fd ps sp) (hr : Room (k + 1) X.A) (hg : Gl X x) (hm : X.mg x = some (.ref C)) (hb : Binds X.K fd ps []) (hx : ∀ σ, PassesAt CX X σ (E σ))
    (ha : PA X (e :: es) t) (hdb : (x == ("__debug__" : Str)) = false) (he : starEach (e :: es) X.env = (false, eval e X.env) :: starEach es X.env) (hpl : (backTo pos (starEach es X.env)).any (·.1) = false) :
    PE X (.Call (.Name x p) (e :: es) [] pos) (tMakeS C sp E t) := by
  refine ⟨fun pins s σ H Q I h => ?_⟩
  refine wpAny_Call_Name_kw (ld_glob I hg hm ?_ hdb)
  refine PySem.W.callWith_K (h₀ := X.base) I.ok.mod.kin Mk.kp (thn (ha.run pos pins s σ H _ I h) fun us s1 ⟨vs, H1, I1, r, q⟩ => ⟨I1.kIn, ?_⟩) he hpl
  exact run_makeS Mk F hr hb (hx σ) I1 r q
theorem Reps.newObj {F H : Hp} {L : Lv} {x dx : Addr} {c : Nat} (h : Reps T F H L) (nx : H x = none) (nd : H dx = none) (ne : dx ≠ x) : Reps T F (upd (upd H dx (.own x)) x (.ins (T.cls c) dx [])) ((.obj c [], .ref x) :: L) := by
  have h1 := h.newH (o := .own x) nd
  have nx1 : (upd H dx (.own x)) x = none := by rw [upd_ne (Ne.symm ne)]; exact nx
  obtain ⟨s, fp, h2, ndp, av⟩ := h1
  have h3 := Reps.newH (o := .ins (T.cls c) dx []) ⟨s, fp, h2, ndp, av⟩ nx1
  have nin : ∀ a ∈ fp, a ≠ x := fun a ha z => by
    obtain ⟨o', e⟩ := h2.at a ha
    rw [z, nx1] at e; cases e
  have nF : F x = none := by
    cases e : F x with
    | none => rfl
    | some o' => rw [s _ _ e] at nx1; cases nx1
  refine ⟨h3.1, [x] ++ fp, .cons (.obj (dx := dx) (xs := []) (by rw [upd_same]; unfold Nm.zip; simp) (Nat.zero_le _) .nil) (h2.keep (Same.refl _) fun a ha => upd_ne (nin a ha)), ?_, fun a ha => ?_⟩
  · exact List.nodup_cons.mpr ⟨fun z => nin x z rfl, ndp⟩
  · rcases List.mem_cons.mp ha with z | z
    · rw [z]; exact nF
    · exact av a z
theorem makeR_sp {Φ : Fn} {ini : Nat → Nat} {c np : Nat} {F H : Hp} {as : List Ar} {vs : List V} {ρ : Env} {Q : VK} (cf : Cf T F H (tmps as vs ++ M) ρ σ) (i : ins_ σ as vs) (hl : vs.length + 1 = np)
    (q : Out T W σ M (makeR Φ ini c as ρ) fun r ρ' => ∀ v F' H', Cf T F' H' ((r, v) :: M) ρ' σ → Q v H') : ∀ x dx, H x = none → H dx = none → dx ≠ x →
      spF T Φ (ini c) np (.ref x :: vs) (upd (upd H dx (.own x)) x (.ins (T.cls c) dx [])) (fun v H2 => v = .non ∧ Q (.ref x) H2) (WE W σ) := by
  intro x dx nx nd ne
  unfold makeR at q
  cases e : hand as ρ with
  | none => rw [e] at q; exact q.elim
  | some p =>
    obtain ⟨rs, ρ'⟩ := p
    rw [e] at q
    obtain ⟨cf1, l⟩ := hand_ok cf i e
    obtain ⟨L, sl, rp⟩ := cf1
    refine ⟨hl, F, M ++ L, .obj c [] :: rs, congrArg Nat.succ l, by
      have := rp.newObj (c := c) nx nd ne
      rw [List.append_assoc] at this
      exact this, ?_⟩
    have q : Out T W σ M (match Φ (ini c) (.obj c [] :: rs) with
      | .ok (.val .non) (some r :: outs) => Res.ok r (giveB as outs ρ')
      | .exc x d (_ :: outs) => .exc x d (giveB as outs ρ')
      | _ => .stuck) _ := q
    cases z : Φ (ini c) (.obj c [] :: rs) with
    | ok r outs =>
      rw [z] at q
      cases r with
      | val d =>
        cases d with
        | non =>
          cases outs with
          | nil => exact q.elim
          | cons o outs =>
            cases o with
            | none => exact q.elim
            | some r =>
              intro v F' H' rp'
              have ev : v = .non := by have := rp'.rp; cases this; rfl
              refine ⟨ev, q (.ref x) F' H' ?_⟩
              have rp2 : Reps T F' H' ((r, .ref x) :: (lives outs vs ++ (M ++ L))) := rp'.tail
              have cf2 : Cf T F' H' (lives outs vs ++ ((r, .ref x) :: M)) ρ' σ := ⟨L, sl, by
                refine rp2.perm ?_
                rw [List.append_assoc, List.cons_append]
                exact perm_out.symm⟩
              exact give_ok cf2 i
        | _ => exact q.elim
      | _ => exact q.elim
    | exc c' d outs =>
      rw [z] at q
      cases outs with
      | nil => exact q.elim
      | cons o outs =>
        intro v dd F' H' rp' hd rv
        have rp2 : Reps T F' H' (lives outs vs ++ (M ++ L)) := by
          cases o with
          | none => exact rp'
          | some r => exact Reps.tail (L := lives outs vs ++ (M ++ L)) rp'
        exact q v dd F' H' (give_ok ⟨L, sl, by rw [List.append_assoc]; exact rp2⟩ i) hd rv
    | stuck => rw [z] at q; exact q.elim
/-- what a body must know of a class that it makes instances of -/
structure MkKn (T : Nm) (Φ : Fn) (ini : Nat → Nat) (X : Cx) (c np : Nat) : Prop where
  ok : ∃ k fa fd ps, Mk X.K (T.cls c) fa ∧ FnOk X.prog X.w X.K X.mg X.base (L2.CX X.prog X.w) k fa fd ps (spF T Φ (ini c) (np + 1)) ∧ Room (k + 1) X.A ∧ Binds X.K fd ps []
theorem ins_len : ∀ {as : List Ar} {vs : List V}, ins_ σ as vs → as.length = vs.length
  | [], [], _ => rfl
  | [], _ :: _, i => i.elim
  | _ :: _, [], i => i.elim
  | _ :: as, _ :: vs, i => congrArg Nat.succ (ins_len i.2)
theorem pe_makeF {Φ : Fn} {ini : Nat → Nat} {c np : Nat} {x : Str} {p pos : Pos} {e : Expr} {es : List Expr} {ms : Env → Res (List Ar)} (kn : MkKn T Φ ini X c np) (tk : Takes X W) (hg : Gl X x) (hm : X.mg x = some (.ref (T.cls c)))
    (ha : PA X (e :: es) (tAs T W ms)) (hdb : (x == ("__debug__" : Str)) = false) (h1 : Ex.star e = false) (h2 : es.all (fun e => !Ex.star e) = true)
    (hln : ∀ ρ, ∀ as ρ', ms ρ = .ok as ρ' → as.length = np) :
    PE X (.Call (.Name x p) (e :: es) [] pos) (tM T W fun ρ => (ms ρ).bind fun as ρ => makeR Φ ini c as ρ) := by
  obtain ⟨k, fa, fd, ps, mk, F, hr, hb⟩ := kn.ok
  refine (pe_makeS mk F hr hg hm hb (fun σ => passAt tk σ) ha hdb (star_cons es _ h1) (star_plain es h2)).imp fun σ H Q h => ?_
  obtain ⟨F, M, ρ, cf, q⟩ := h
  have q := Out.bind q
  refine ⟨F, M, ρ, cf, ?_⟩
  cases z : ms ρ with
  | stuck => rw [z] at q; exact q.elim
  | exc c d ρ1 =>
    rw [z] at q
    exact q
  | ok as ρ1 =>
    rw [z] at q
    have q : Out T W σ M _ _ := q
    intro vs F1 H1 i cf1
    have hl := hln ρ as ρ1 z
    exact makeR_sp cf1 i (by rw [← ins_len i, hl]) q

/-! ### built-in functions -/
def RtL (T : Nm) (F H : Hp) : List V → List D → Prop
  | [], [] => True
  | v :: vs, d :: ds => Rt T F H v d ∧ RtL T F H vs ds
  | _, _ => False
def rCb (T : Nm) (b : BF) : List V → Hp → VK → Prop := fun xs H Q => ∃ F ds r, Same F H ∧ RtL T F H xs ds ∧ cbD b ds = some r ∧ ∀ v H', NewR T F H H' v r → Q v H'
def BF.val : BF → Value
  | .len => .builtin "len"
  | .abs => .builtin "abs"
  | .int => .type "int"
  | .str => .type "str"
  | .list => .type "list"
  | .tuple => .type "tuple"
  | .all => .builtin "all"
  | .any => .builtin "any"
  | .sum => .builtin "sum"
  | .range => .type "range"
  | .sorted => .builtin "sorted"
  | .max => .builtin "max"
  | .min => .builtin "min"
theorem allB_vals {F : Hp} : ∀ {ds : List D} {bs : List Bool} {xs : List V}, allB ds = some bs → RpL T F xs ds → xs = bs.map V.bl
  | [], _, _, e, r => by cases e; cases r; rfl
  | d :: ds, bs, _, e, r => by
    cases r with | cons r1 r2 =>
      cases d with
      | bl b =>
        obtain ⟨bs', e1, rfl⟩ := Option.map_eq_some_iff.mp (show (allB ds).map (b :: ·) = some bs from e)
        cases r1
        rw [allB_vals e1 r2]; rfl
      | _ => cases e
theorem allI_vals {F : Hp} : ∀ {ds : List D} {ns : List Int} {xs : List V}, allI ds = some ns → RpL T F xs ds → xs = ns.map V.int
  | [], _, _, e, r => by cases e; cases r; rfl
  | d :: ds, bs, _, e, r => by
    cases r with | cons r1 r2 =>
      cases d with
      | int b =>
        obtain ⟨bs', e1, rfl⟩ := Option.map_eq_some_iff.mp (show (allI ds).map (b :: ·) = some bs from e)
        cases r1
        rw [allI_vals e1 r2]; rfl
      | _ => cases e
theorem RtL.one {F H : Hp} {xs : List V} {d : D} (h : RtL T F H xs [d]) : ∃ v, xs = [v] ∧ Rt T F H v d := by
  cases xs with
  | nil => exact h.elim
  | cons v vs => cases vs with
    | nil => exact ⟨v, rfl, h.1⟩
    | cons _ _ => exact h.2.elim
theorem RtL.two {F H : Hp} {xs : List V} {d e : D} (h : RtL T F H xs [d, e]) : ∃ v w, xs = [v, w] ∧ Rt T F H v d ∧ Rt T F H w e := by
  cases xs with
  | nil => exact h.elim
  | cons v vs =>
    obtain ⟨w, rfl, h2⟩ := RtL.one h.2
    exact ⟨v, w, rfl, h.1, h2⟩
theorem rngL_rp {F : Hp} (a b : Int) : RpL T F (rgV a b) (rngL a b) := by
  have key : ∀ l : List Nat, RpL T F (l.map fun (i : Nat) => V.int (a + (i : Int))) (l.map fun (i : Nat) => D.int (a + (i : Int))) := by
    intro l
    induction l with
    | nil => exact .nil
    | cons x l ih => exact .cons (.int _) ih
  exact key _
theorem rngOk_ok {a b : Int} (h : rngOk a b = true) : -(2 ^ 62) ≤ a ∧ a < 2 ^ 62 ∧ -(2 ^ 62) ≤ b ∧ b < 2 ^ 62 := by
  unfold rngOk at h
  simp only [Bool.and_eq_true, decide_eq_true_eq] at h
  omega
theorem rng_obj {a : Addr} {lo hi : Int} {F H : Hp} (s : Same F H) (h : Rt T F H (.ref a) (.rng lo hi)) : H a = some (.rng lo hi) := by
  have h : Rp T F (.ref a) (.rng lo hi) := h
  cases h with | rng h => exact s _ _ h
theorem call_cb (hK : X.K = T.K) (hc : X.calm = true) (b : BF) : CallR X b.val (rCb T b) := by
  intro pins s σ H xs us Q I r h
  obtain ⟨F, ds, res, sF, hx, e, q⟩ := h
  have seqT : ∀ {v : V} {ds : List D}, Rt T F H v (.tup ds) → ∃ p ys, v = .ref p ∧ SqT X.K H p ys ∧ RpL T F ys ds ∧ Rp T F v (.tup ds) := fun {v ds} h => by
    have h' : Rp T F v (.tup ds) := h
    have h2 := h'
    cases h' with
    | @tup a xs _ t r => exact ⟨a, xs, rfl, by rw [hK]; exact same_sqT sF t, r, h2⟩
  unfold cbD at e
  split at e
  · obtain ⟨v, rfl, h1⟩ := hx.one
    obtain ⟨p, ys, rfl, t, rr, _⟩ := seqT h1
    cases e
    exact call_len_seq pins s σ H _ us Q I r ⟨p, ys, rfl, .inr t, by rw [rr.len]; exact q _ _ (.inl ⟨rfl, .int _⟩)⟩
  · obtain ⟨v, rfl, p, ys, rfl, t, rr⟩ := hx.one
    cases e
    exact call_len_seq pins s σ H _ us Q I r ⟨p, ys, rfl, .inl (by rw [hK]; exact t), by rw [rr.len]; exact q _ _ (.inl ⟨rfl, .int _⟩)⟩
  · obtain ⟨v, rfl, h1⟩ := hx.one
    cases e
    cases h1.int
    exact call_abs pins s σ H _ us Q I r ⟨_, rfl, q _ _ (.inl ⟨rfl, .int _⟩)⟩
  · obtain ⟨v, rfl, h1⟩ := hx.one
    cases e
    cases h1.int
    exact call_int1 pins s σ H _ us Q I r (.inl ⟨_, rfl, q _ _ (.inl ⟨rfl, .int _⟩)⟩)
  · obtain ⟨v, rfl, h1⟩ := hx.one
    cases e
    cases h1.bl
    exact call_int1 pins s σ H _ us Q I r (.inr ⟨_, rfl, q _ _ (.inl ⟨rfl, .int _⟩)⟩)
  · obtain ⟨v, rfl, h1⟩ := hx.one
    split at e
    · rename_i c
      cases e
      cases h1.int
      exact call_str_int pins s σ H _ us Q I r ⟨_, rfl, c, q _ _ (.inl ⟨rfl, .str _⟩)⟩
    · cases e
  · obtain ⟨v, rfl, h1⟩ := hx.one
    obtain ⟨p, ys, rfl, t, rr, _⟩ := seqT h1
    cases e
    exact call_list_of pins s σ H _ us Q I r ⟨p, ys, rfl, .inr t, fun l np => q _ _ ⟨l, ys, rfl, np, rfl, rr⟩⟩
  · obtain ⟨v, rfl, p, ys, rfl, t, rr⟩ := hx.one
    cases e
    exact call_list_of pins s σ H _ us Q I r ⟨p, ys, rfl, .inl (by rw [hK]; exact t), fun l np => q _ _ ⟨l, ys, rfl, np, rfl, rr⟩⟩
  · obtain ⟨v, rfl, h1⟩ := hx.one
    obtain ⟨p, ys, rfl, t, rr, h2⟩ := seqT h1
    cases e
    exact call_tuple_of pins s σ H _ us Q I r ⟨p, ys, rfl, .inr ⟨t, q _ _ (.inl ⟨rfl, h2⟩)⟩⟩
  · obtain ⟨v, rfl, p, ys, rfl, t, rr⟩ := hx.one
    cases e
    exact call_tuple_of pins s σ H _ us Q I r ⟨p, ys, rfl, .inl ⟨(by rw [hK]; exact t), fun l np => q _ _ (.inr (.inl ⟨l, ys, _, rfl, rfl, np, rfl, rr⟩))⟩⟩
  · obtain ⟨v, rfl, p, ys, rfl, t, rr⟩ := hx.one
    obtain ⟨bs, e1, e2⟩ := Option.map_eq_some_iff.mp e
    subst e2
    have ey := allB_vals e1 rr
    subst ey
    exact cr_all hc pins s σ H _ us Q I r ⟨p, bs, rfl, (by rw [hK]; exact t), q _ _ (.inl ⟨rfl, .bl _⟩)⟩
  · obtain ⟨v, rfl, p, ys, rfl, t, rr⟩ := hx.one
    obtain ⟨bs, e1, e2⟩ := Option.map_eq_some_iff.mp e
    subst e2
    have ey := allB_vals e1 rr
    subst ey
    exact cr_any hc pins s σ H _ us Q I r ⟨p, bs, rfl, (by rw [hK]; exact t), q _ _ (.inl ⟨rfl, .bl _⟩)⟩
  · obtain ⟨v, rfl, p, ys, rfl, t, rr⟩ := hx.one
    obtain ⟨bs, e1, e2⟩ := Option.map_eq_some_iff.mp e
    subst e2
    have ey := allI_vals e1 rr
    subst ey
    exact cr_sum hc pins s σ H _ us Q I r ⟨p, bs, rfl, (by rw [hK]; exact t), q _ _ (.inl ⟨rfl, .int _⟩)⟩
  · obtain ⟨v, rfl, h1⟩ := hx.one
    cases e
    cases h1.int
    obtain ⟨u, rfl, t, rfl⟩ := vals1 r
    exact call_range_1 ⟨.ref s.heap.objs.size, upd H s.heap.objs.size (.rng 0 _), I.laid (o := .rng 0 _) (fun b o e => Heap.get?_push_of_some _ e) (Nat.le_refl _) ⟨_, _, _, Heap.get?_push_size _ rfl⟩, rfl, q _ _ (.inr (.inr ⟨_, _, _, rfl, rfl, I.hok.fresh (Nat.le_refl _), rfl⟩))⟩
  · obtain ⟨v, w, rfl, h1, h2⟩ := hx.two
    cases e
    cases h1.int
    cases h2.int
    exact cr_range2 pins s σ H _ us Q I r ⟨_, _, rfl, fun p np => q _ _ (.inr (.inr ⟨p, _, _, rfl, rfl, np, rfl⟩))⟩
  · obtain ⟨v, rfl, h1⟩ := hx.one
    split at e
    · rename_i a b c
      cases e
      obtain ⟨u, rfl, ru⟩ := vals1 r
      obtain ⟨p, rfl⟩ : ∃ p, v = .ref p := by
        have h1 : Rp T F v (.rng a b) := h1
        cases h1; exact ⟨_, rfl⟩
      cases ru
      obtain ⟨b1, b2, b3, b4⟩ := rngOk_ok c.1
      obtain ⟨t, u, w, hr⟩ : ∃ t u v, s.heap.get? p = some { cls := .type "range", data := .fields #[.int a t, .int b u, .int 1 v] } := I.hok p _ (rng_obj sF h1)
      refine PySem.call_list_range (n := (b - a).toNat) (I.ok.hd hc) hr (small_one b1 b2 b3 b4) (PyProof.Rows.rangeSize_nat a b) (by have := c.2; simpa using this) fun h' tk acc c' hk e' hi => ?_
      refine ⟨.ref s.heap.objs.size, upd H s.heap.objs.size (.lst (rgV a b)), I.laid hk (Nat.le_refl _) (show ObjOk X.prog X.w _ _ _ (.lst (rgV a b)) from ⟨?_, acc.toList, c', vals_rg hi, ?_⟩), rfl, q _ _ ⟨_, _, rfl, I.hok.fresh (Nat.le_refl _), rfl, rngL_rp a b⟩⟩
      · rw [rgV_length, sizeLine_eq]; exact c.2
      · rw [Array.toArray_toList]; exact e'
    · cases e
  · obtain ⟨v, rfl, h1⟩ := hx.one
    split at e
    · rename_i a b c
      cases e
      obtain ⟨u, rfl, ru⟩ := vals1 r
      obtain ⟨p, rfl⟩ : ∃ p, v = .ref p := by
        have h1 : Rp T F v (.rng a b) := h1
        cases h1; exact ⟨_, rfl⟩
      cases ru
      obtain ⟨b1, b2, b3, b4⟩ := rngOk_ok c.1
      obtain ⟨t, u, w, hr⟩ : ∃ t u v, s.heap.get? p = some { cls := .type "range", data := .fields #[.int a t, .int b u, .int 1 v] } := I.hok p _ (rng_obj sF h1)
      refine call_tuple_range (n := (b - a).toNat) (I.ok.hd hc) hr (small_one b1 b2 b3 b4) (PyProof.Rows.rangeSize_nat a b) (by have := c.2; simpa using this) fun h' tk acc hk hi => ?_
      have I2 : Inv X pins σ H { s with heap := h', toks := tk } := I.kept hk
      refine ⟨.ref h'.objs.size, upd H h'.objs.size (.tup (rgV a b)), I2.laid (t' := tk) (fun c o e => Heap.get?_push_of_some _ e) (Nat.le_refl _) (show ObjOk X.prog X.w _ _ _ (.tup (rgV a b)) from ⟨?_, acc.toList, vals_rg hi, ?_⟩), rfl, q _ _ (.inr (.inl ⟨_, _, _, rfl, rfl, I2.hok.fresh (Nat.le_refl _), rfl, rngL_rp a b⟩))⟩
      · rw [rgV_length, sizeLine_eq]; exact c.2
      · rw [Array.toArray_toList]; exact PyProof.Rows.IsTup.new _ _
    · cases e
  · cases e
end Fx
end
section
set_option linter.all false
set_option Elab.async false
set_option maxRecDepth 100000
set_option maxHeartbeats 4000000
/-! Built-in functions by name, isinstance, fields. -/
namespace Fx
open PySem PySem.Spec L2
variable {T : Nm} {W : WX} {X : Cx} {σ : St} {M : Lv}

def BF.name : BF → Str
  | .len => "len"
  | .abs => "abs"
  | .int => "int"
  | .str => "str"
  | .list => "list"
  | .tuple => "tuple"
  | .all => "all"
  | .any => "any"
  | .sum => "sum"
  | .range => "range"
  | .sorted => "sorted"
  | .max => "max"
  | .min => "min"
theorem BF.boot (b : BF) : bootBuiltins b.name = some b.val := by cases b <;> decide +kernel
theorem BF.nm (b : BF) : b.name ≠ "__name__" := by cases b <;> decide +kernel
theorem BF.db (b : BF) : (b.name == ("__debug__" : Str)) = false := by cases b <;> decide +kernel
theorem getDs_ok {F H : Hp} {ρ : Env} : ∀ {as : List Ar} {vs : List V} {M : Lv} {ds : List D}, Cf T F H (tmps as vs ++ M) ρ σ → ins_ σ as vs → getDs T.flds ρ as = some ds → RtL T F H vs ds
  | [], [], _, _, _, _, e => by cases e; trivial
  | [], _ :: _, _, _, _, i, _ => i.elim
  | _ :: _, [], _, _, _, i, _ => i.elim
  | a :: as, v :: vs, M, ds, cf, i, e => by
    have e : (match a.d T.flds ρ, getDs T.flds ρ as with
      | some d, some ds => some (d :: ds)
      | _, _ => none) = some ds := e
    have cf : Cf T F H ((a.tmp v ++ tmps as vs) ++ M) ρ σ := cf
    rw [List.append_assoc] at cf
    cases e1 : a.d T.flds ρ with
    | none => rw [e1] at e; cases e
    | some d =>
      cases e2 : getDs T.flds ρ as with
      | none => rw [e1, e2] at e; cases e
      | some ds' =>
        rw [e1, e2] at e
        cases e
        exact ⟨Cf.arD (P := []) cf i.1 e1, getDs_ok cf.dropL i.2 e2⟩
theorem pe_cbF {b : BF} {x : Str} {p pos : Pos} {e : Expr} {es : List Expr} {ms : Env → Res (List Ar)} (hK : X.K = T.K) (hc : X.calm = true) (hx : x = b.name) (hg : Gl X x) (hm : X.mg x = none)
    (ha : PA X (e :: es) (tAs T W ms)) (h1 : Ex.star e = false) (h2 : es.all (fun e => !Ex.star e) = true) :
    PE X (.Call (.Name x p) (e :: es) [] pos) (tM T W fun ρ => (ms ρ).bind fun as ρ => match getDs T.flds ρ as with
      | some ds => optR (cbD b ds) ρ
      | none => .stuck) := by
  subst hx
  have key : PE X (.Call (.Name b.name p) (e :: es) [] pos) (tCB (rCb T b) (tAs T W ms)) := by
    have hcb := call_cb hK hc b
    have hv := b.boot
    cases hb : b.val with
    | builtin id => rw [hb] at hcb hv; exact pe_callB hcb hg hm hv ha b.nm b.db (star_cons es _ h1) (star_plain es h2)
    | type n => rw [hb] at hcb hv; exact pe_callTy hcb hg hm hv ha b.nm b.db (star_cons es _ h1) (star_plain es h2)
    | _ => cases b <;> cases hb
  refine key.imp fun σ H Q h => ?_
  obtain ⟨F, M, ρ, cf, q⟩ := h
  refine ⟨F, M, ρ, cf, (Out.bind q).imp fun as ρ1 q1 vs F1 H1 i cf1 => ?_⟩
  cases e1 : getDs T.flds ρ1 as with
  | none => rw [e1] at q1; exact q1.elim
  | some ds =>
    rw [e1] at q1
    obtain ⟨r, e2, k⟩ := tM_new cf1.dropL q1
    exact ⟨F1, ds, r, cf1.sub, getDs_ok cf1 i e1, e2, k⟩

/-! ### classes -/
def tyNames : List String := ["NoneType", "bool", "int", "str", "tuple", "list"]
structure ClsKn (T : Nm) (K : PySem.W.Frag) (c : Nat) : Prop where
  cl : Cls K (T.cls c)
  na : ∀ f ∈ T.flds c, NoAttr K (T.cls c) (T.fname f)
  nd : ((T.flds c).map T.fname).Nodup
  ln : (T.flds c).length ≤ 900
  ha : PySem.W.findIn K (.ref (T.cls c)) "__class__" = some (some (.builtin "object.__class__"))
  hn : PySem.W.specialIn K (.builtin "object.__class__") "__get__" = some (some (.builtin "getset_descriptor.__get__"))
  ht : PySem.W.takesIn K (.builtin "object.__class__") = some true
  hm : PySem.W.mroIn K (T.cls c) (.type "object") = some true
  k1 : ∀ n ∈ tyNames, PySem.W.kitOne K (.type n) (.ref (T.cls c)) = some false
  k2 : ∀ n ∈ tyNames, PySem.W.kitOne K (.ref (T.cls c)) (.type n) = some false
structure ClsAll (T : Nm) (K : PySem.W.Frag) (nc : Nat) : Prop where
  of : ∀ c, c < nc → ClsKn T K c
  two : ∀ c c', c < nc → c' < nc → PySem.W.kitOne K (.ref (T.cls c)) (.ref (T.cls c')) = some (decide (c' = c))
def D.ty (T : Nm) : D → Value
  | .non => .type "NoneType"
  | .bl _ => .type "bool"
  | .int _ => .type "int"
  | .str _ => .type "str"
  | .tup _ => .type "tuple"
  | .lst _ => .type "list"
  | .rng _ _ => .type "range"
  | .ins c _ => .ref (T.cls c)
theorem isiD_ok {nc : Nat} {d : D} {t : IsT} {b : Bool} (e : isiD nc d t = some b) : d.tyOk nc = true := by
  cases d with
  | rng _ _ => cases e
  | ins c _ =>
    simp only [isiD] at e
    split at e
    · simpa [D.tyOk]
    · cases e
  | _ => rfl
theorem Rt.ty {F H : Hp} {nc : Nat} {v : V} {d : D} (hK : X.K = T.K) (A : ClsAll T X.K nc) (s : Same F H) (h : Rt T F H v d) (hd : d.tyOk nc = true) : TyX X.K H v (d.ty T) := by
  cases d with
  | non => cases h.non; exact .base .non
  | bl b => cases h.bl; exact .base (.bl b)
  | int b => cases h.int; exact .base (.int b)
  | str b => cases h.str; exact .base (.str b)
  | tup ds =>
    have h' : Rp T F v (.tup ds) := h
    cases h' with
    | @tup a xs _ t r =>
      rcases same_sqT s t with (t | ⟨o, t⟩) | ⟨o, its, n, t, hc, _⟩
      · exact .base (.tup t)
      · exact .fTuple t
      · exact .kTuple (by rw [hK]; exact t) hc
  | lst ds =>
    obtain ⟨a, xs, rfl, t, r⟩ := h
    rcases t with (t | ⟨o, t⟩) | ⟨o, its, n, t, hc, _⟩
    · exact .base (.lst t)
    · exact .base (.frz t)
    · exact .kList (by rw [hK]; exact t) hc
  | rng _ _ => cases hd
  | ins c ds =>
    have h' : Rp T H v (.ins c ds) := h
    have kn := A.of c (by simpa [D.tyOk] using hd)
    cases h' with
    | ins h1 _ _ => exact .base (.ins h1 kn.cl kn.ha kn.hn kn.ht kn.hm)
/-- what isinstance is asked for, as a value -/
def tIs (T : Nm) : IsT → TE
  | .int => tC (.ty "int")
  | .bool => tC (.ty "bool")
  | .tuple => tC (.ty "tuple")
  | .list => tC (.ty "list")
  | .str => tC (.ty "str")
  | .cls c => tC (.ref (T.cls c))
  | .listTuple => tTup (tCons (tC (.ty "list")) (tCons (tC (.ty "tuple")) tNil))
def IsT.one (T : Nm) : IsT → Option (V × Value)
  | .int => some (.ty "int", .type "int")
  | .bool => some (.ty "bool", .type "bool")
  | .tuple => some (.ty "tuple", .type "tuple")
  | .list => some (.ty "list", .type "list")
  | .str => some (.ty "str", .type "str")
  | .cls c => some (.ref (T.cls c), .ref (T.cls c))
  | .listTuple => none
def IsT.ok (nc : Nat) : IsT → Bool
  | .cls c => decide (c < nc)
  | _ => true
theorem kit_one {K : PySem.W.Frag} {nc : Nat} (A : ClsAll T K nc) {d : D} {t : IsT} {b : Bool} {c : V} {u : Value} (e : isiD nc d t = some b) (ht : t.ok nc = true) (h : t.one T = some (c, u)) : ClsV c u ∧ PySem.W.kitOne K (d.ty T) u = some b := by
  have K2 : ∀ {x y : String} {r : Bool}, kitB x y = some r → PySem.W.kitOne K (.type x) (.type y) = some r := fun h => kit_ty h
  cases t with
  | listTuple => cases h
  | cls c' =>
    cases h
    have hc : c' < nc := by simpa [IsT.ok] using ht
    refine ⟨.own _, ?_⟩
    have kn := A.of c' hc
    cases d with
    | rng _ _ => cases e
    | ins c2 ds =>
      simp only [isiD] at e
      split at e
      · rename_i h2
        cases e
        refine (A.two c2 c' h2 hc).trans ?_
        simp
      · cases e
    | non => simp [isiD] at e; subst e; exact kn.k1 _ (by decide)
    | bl _ => simp [isiD] at e; subst e; exact kn.k1 _ (by decide)
    | int _ => simp [isiD] at e; subst e; exact kn.k1 _ (by decide)
    | str _ => simp [isiD] at e; subst e; exact kn.k1 _ (by decide)
    | tup _ => simp [isiD] at e; subst e; exact kn.k1 _ (by decide)
    | lst _ => simp [isiD] at e; subst e; exact kn.k1 _ (by decide)
  | _ =>
    cases h
    refine ⟨.ty _, ?_⟩
    cases d with
    | rng _ _ => cases e
    | ins c2 ds =>
      simp only [isiD] at e
      split at e
      · rename_i h2
        simp at e
        subst e
        exact (A.of c2 h2).k2 _ (by decide)
      · cases e
    | _ =>
      simp [isiD] at e
      subst e
      exact K2 (by decide +kernel)
theorem pe_isiF {nc : Nat} {a t : Expr} {it : IsT} {p pos : Pos} {m : Env → Res Ar} (hK : X.K = T.K) (A : ClsAll T X.K nc) (hg : Gl X "isinstance") (hm : X.mg "isinstance" = none) (ha : PE X a (tAr T W m)) (ht : PE X t (tIs T it)) (hok : it.ok nc = true)
    (h1 : Ex.star a = false) (h2 : Ex.star t = false) :
    PE X (.Call (.Name "isinstance" p) [a, t] [] pos) (tM T W (one_ T.flds (fun x ρ => optR ((isiD nc x it).map fun b => .val (.bl b)) ρ) m)) := by
  have key := pe_callB (pos := pos) (p := p) (id := "isinstance") (CallR.or (call_isi (X := X)) call_isiT) hg hm (by decide +kernel) (pa_cons ha (pa_cons ht pa_nil (star_cons [] _ h2)) (star_cons [t] _ h1)) (by decide +kernel) (by decide +kernel) (star_cons [t] _ h1) (star_plain [t] (by simp [h2]))
  refine key.imp fun σ H Q h => ?_
  show tAr T W m σ H fun x H1 => tIs T it σ H1 fun y H2 => _
  refine tAr_one (f := fun x ρ => optR ((isiD nc x it).map fun b => R.val (.bl b)) ρ) (K := fun M r ρ' => ∀ v F' H', Cf T F' H' ((r, v) :: M) ρ' σ → Q v H') h fun F M ρ H x dx cf rx q => ?_
  obtain ⟨r, e, k⟩ := q.opt
  obtain ⟨b, e2, e3⟩ := Option.map_eq_some_iff.mp e
  subst e3
  have hd := isiD_ok e2
  cases z : it.one T with
  | some p =>
    obtain ⟨c, u⟩ := p
    obtain ⟨cv, ko⟩ := kit_one A e2 hok z
    have et : tIs T it = tC c := by cases it <;> first | (cases z; rfl) | cases z
    rw [et]
    exact .inl ⟨x, c, dx.ty T, u, b, rfl, cv, rx.ty hK A cf.sub hd, ko, k _ F H (cf.val (.bl b))⟩
  | none =>
    have et : it = .listTuple := by cases it <;> first | rfl | cases z
    subst et
    refine ⟨by show 2 ≤ sizeLine; decide, fun p np => .inr ?_⟩
    obtain ⟨cf2, s2⟩ := cf.newF (o := .tup [.ty "list", .ty "tuple"]) np
    have grow : Same H (upd H p (.tup [.ty "list", .ty "tuple"])) := fun b o e => by rw [upd_ne (ne_of_none e np)]; exact e
    have rx2 : Rt T F (upd H p (.tup [.ty "list", .ty "tuple"])) x dx := by
      cases dx with
      | lst ds => obtain ⟨a, xs, rfl, t, r⟩ := rx; exact ⟨a, xs, rfl, same_sqL grow t, r⟩
      | ins c ds => exact Rp.mono grow _ _ (show Rp T H x (.ins c ds) from rx)
      | _ => exact rx
    have ty := rx2.ty hK A (fun b o e => grow _ _ (cf.sub _ _ e)) hd
    refine ⟨x, p, [.ty "list", .ty "tuple"], dx.ty T, [.type "list", .type "tuple"], b, rfl, upd_same, .cons (.ty _) (.cons (.ty _) .nil), ty, ?_, k _ _ _ (cf2.val (.bl b))⟩
    have two : ∀ {x y : Bool}, PySem.W.kitOne X.K (dx.ty T) (.type "list") = some x → PySem.W.kitOne X.K (dx.ty T) (.type "tuple") = some y → b = (x || y) → PySem.W.kitAny X.K (dx.ty T) [.type "list", .type "tuple"] = some b := fun {x y} h1 h2 e => by
      subst e
      refine kitAny_cons h1 (fun z => ?_) (fun z => by rw [z]; rfl)
      subst z
      exact kitAny_cons h2 (fun z => by subst z; exact kitAny_nil) (fun z => by rw [z]; rfl)
    have kt : ∀ {x y : String} {r : Bool}, kitB x y = some r → PySem.W.kitOne X.K (.type x) (.type y) = some r := fun h => kit_ty h
    cases dx with
    | rng _ _ => cases hd
    | ins c ds =>
      have hc : c < nc := by simpa [D.tyOk] using hd
      have kn := A.of c hc
      simp only [isiD, if_pos hc] at e2
      exact two (kn.k2 "list" (by decide)) (kn.k2 "tuple" (by decide)) (by simp at e2; simp [e2])
    | tup _ => exact two (x := false) (y := true) (kt (by decide +kernel)) (kt (by decide +kernel)) (by simp [isiD] at e2; simp [e2])
    | lst _ => exact two (x := true) (y := false) (kt (by decide +kernel)) (kt (by decide +kernel)) (by simp [isiD] at e2; simp [e2])
    | _ => exact two (x := false) (y := false) (kt (by decide +kernel)) (kt (by decide +kernel)) (by simp [isiD] at e2; simp [e2])

/-! ### fields -/
theorem zip_look (f : Nat) (fn : Nat → Str) : ∀ (L : List Nat) (xs : List V) (v : V), (L.map fn).Nodup → xs[L.idxOf f]? = some v → f ∈ L → ((L.map fn).zip xs).lookup (fn f) = some v
  | [], _, _, _, _, h => by cases h
  | g :: L, [], v, _, e, _ => by simp at e
  | g :: L, x :: xs, v, nd, e, h => by
    simp only [List.map_cons, List.nodup_cons] at nd
    by_cases z : g = f
    · subst z
      simp at e
      subst e
      simp [List.lookup]
    · have hf : f ∈ L := by
        rcases List.mem_cons.mp h with q | q
        · exact absurd q.symm z
        · exact q
      have ne : fn f ≠ fn g := fun q => nd.1 (q ▸ List.mem_map.mpr ⟨f, hf, rfl⟩)
      have e' : xs[L.idxOf f]? = some v := by
        rw [List.idxOf_cons] at e
        have : (g == f) = false := by simpa using z
        rw [this] at e
        simpa using e
      simp only [List.map_cons, List.zip_cons_cons, List.lookup_cons]
      have : (fn f == fn g) = false := by simpa using ne
      rw [this]
      exact zip_look f fn L xs v nd.2 e' hf
theorem idx_mem {L : List Nat} {f : Nat} (h : L.idxOf f < L.length) : f ∈ L := by
  rw [← List.idxOf_lt_length_iff]; exact h
theorem RRL.get {F H : Hp} : ∀ {rs : List R} {vs : List V} {fp : List Addr} {i : Nat} {r : R}, RRL T F H rs vs fp → rs[i]? = some r → ∃ v fp', vs[i]? = some v ∧ RR T F H r v fp'
  | [], _, _, i, r, _, e => by simp at e
  | _ :: _, _, _, 0, r, h, e => by
    cases h with | cons h1 h2 => simp at e; subst e; exact ⟨_, _, rfl, h1⟩
  | _ :: _, _, _, i + 1, r, h, e => by
    cases h with | cons h1 h2 =>
      obtain ⟨v, fp', e1, q⟩ := h2.get (i := i) (by simpa using e)
      exact ⟨v, fp', by simpa using e1, q⟩
/-- the field of a value in hand -/
theorem fld_val {F H : Hp} {nc : Nat} {g : G} (hK : X.K = T.K) (A : ClsAll T X.K nc) (hnc : g.nc = nc) (hfl : g.flds = T.flds) {v : V} {d x : D} {f : Nat} (s : Same F H) (h : Rp T F v d) (e : attrR g f d = some x) :
    ∃ a C dx fs w, v = .ref a ∧ H a = some (.ins C dx fs) ∧ Cls X.K C ∧ NoAttr X.K C (T.fname f) ∧ fs.lookup (T.fname f) = some w ∧ Rp T F w x := by
  unfold attrR at e
  cases d with
  | ins c ds =>
    dsimp only at e
    split at e
    · rename_i hc
      rw [hnc] at hc
      rw [hfl] at e
      have kn := A.of c hc
      cases h with
      | @ins a dx _ xs _ h1 hl hr =>
        obtain ⟨w, e1, rw'⟩ := hr.get e
        have hi : (T.flds c).idxOf f < (T.flds c).length := by
          have := (List.getElem?_eq_some_iff.mp e1).1
          omega
        exact ⟨a, T.cls c, dx, _, w, rfl, s _ _ h1, kn.cl, kn.na f (idx_mem hi), zip_look f T.fname _ xs w kn.nd e1 (idx_mem hi), rw'⟩
    · cases e
  | _ => cases e
theorem pe_fldD {nc : Nat} {g : G} {e : Expr} {pos : Pos} {m : Env → Res D} {f : Nat} {n : Str} (hK : X.K = T.K) (A : ClsAll T X.K nc) (hnc : g.nc = nc) (hfl : g.flds = T.flds) (hn : n = T.fname f) (h : PE X e (tD T W m)) (hb : Ex.isCall e = false) :
    PE X (.Attribute e n pos) (tM T W fun ρ => (m ρ).bind fun x ρ => optR ((attrR g f x).map .val) ρ) := by
  subst hn
  refine (pe_fld h (att_plain hb)).imp fun σ H Q q => ?_
  obtain ⟨F, M, ρ, cf, q⟩ := q
  refine ⟨F, M, ρ, cf, (Out.bind q).imp fun d ρ1 q1 v1 F1 H1 cf1 => ?_⟩
  obtain ⟨r, e1, k⟩ := q1.opt
  obtain ⟨x, e2, e3⟩ := Option.map_eq_some_iff.mp e1
  subst e3
  obtain ⟨a, C, dx, fs, w, ev, h1, cl, na, l, rw'⟩ := fld_val hK A hnc hfl cf1.sub cf1.rp e2
  exact ⟨a, C, dx, fs, w, ev, h1, cl, na, l, k w F1 H1 (cf1.tail.val rw')⟩
theorem pe_fldV {nc : Nat} {g : G} {e : Expr} {pos : Pos} {i f : Nat} {n : Str} (hK : X.K = T.K) (A : ClsAll T X.K nc) (hnc : g.nc = nc) (hfl : g.flds = T.flds) (hn : n = T.fname f) (h : PE X e (tVar i)) (hb : Ex.isCall e = false) :
    PE X (.Attribute e n pos) (tM T W fun ρ => match ρ.at i with
      | some r => optR ((attrO g f r).map .val) ρ
      | none => .stuck) := by
  subst hn
  refine (pe_fld h (att_plain hb)).imp fun σ H Q q => ?_
  obtain ⟨F, M, ρ, cf, q⟩ := q
  dsimp only at q
  cases z : ρ.at i with
  | none => rw [z] at q; exact q.elim
  | some r =>
    rw [z] at q
    obtain ⟨r', e1, k⟩ := Out.opt q
    obtain ⟨x, e2, e3⟩ := Option.map_eq_some_iff.mp e1
    subst e3
    have ez := at_get z
    cases r with
    | val d =>
      obtain ⟨v, F', ev, s, cf'⟩ := cf.read ez rfl
      rw [show R.toD (.val d) = d from rfl, set_same ez] at cf'
      obtain ⟨a, C, dx, fs, w, rfl, h1, cl, na, l, rw'⟩ := fld_val hK A hnc hfl cf'.sub cf'.rp e2
      exact ⟨.ref a, ev, a, C, dx, fs, w, rfl, h1, cl, na, l, k w F' H (cf'.tail.val rw')⟩
    | lst ds => cases e2
    | obj c rs =>
      obtain ⟨v, ev, cf'⟩ := cf.out ez
      obtain ⟨L, sl, sF, fp, h1, nd, av⟩ := cf'
      simp only [attrO] at e2
      split at e2
      · rename_i hc
        rw [hnc] at hc
        rw [hfl] at e2
        have kn := A.of c hc
        split at e2
        · rename_i d eq
          cases e2
          cases h1 with | cons h2 h3 =>
            cases h2 with | @obj a dx _ xs _ gp h4 hl h5 =>
              obtain ⟨w, fp', e5, r5⟩ := h5.get eq
              cases r5 with | val rw' =>
                have hi : (T.flds c).idxOf f < (T.flds c).length := by
                  have := (List.getElem?_eq_some_iff.mp e5).1
                  omega
                exact ⟨.ref a, ev, a, T.cls c, dx, _, w, rfl, h4, kn.cl, kn.na f (idx_mem hi), zip_look f T.fname _ xs w kn.nd e5 (idx_mem hi), k w F H (cf.val rw')⟩
        · cases e2
      · cases e2
end Fx
end
section
set_option linter.all false
set_option Elab.async false
set_option maxRecDepth 100000
set_option maxHeartbeats 4000000
/-! What is walked; targets; comprehensions. -/
namespace Fx
open PySem PySem.Spec L2
variable {T : Nm} {W : WX} {X : Cx} {σ : St} {M : Lv}

/-! ### what a loop walks -/
/-- J walks the data ds, as long as the source S is live -/
def ItOk (T : Nm) (J : It) (S : Lv) (ds : List D) : Prop := ∀ F H L i, Reps T F H (S ++ L) → (ds.length ≤ i → J.stop i H) ∧ ∀ d, ds[i]? = some d → J.go i H ∧ ∀ x H', J.yld i H x H' → ∃ F', Reps T F' H' ((.val d, x) :: (S ++ L))
theorem ItOk.stop {J : It} {S : Lv} {ds : List D} (h : ItOk T J S ds) {F H : Hp} {M : Lv} {ρ : Env} {i : Nat} (cf : Cf T F H (S ++ M) ρ σ) (hi : ds.length ≤ i) : J.stop i H := by
  obtain ⟨L, sl, rp⟩ := cf
  rw [List.append_assoc] at rp
  exact (h F H _ i rp).1 hi
theorem ItOk.go {J : It} {S : Lv} {ds : List D} (h : ItOk T J S ds) {F H : Hp} {M : Lv} {ρ : Env} {i : Nat} {d : D} (cf : Cf T F H (S ++ M) ρ σ) (hi : ds[i]? = some d) : J.go i H ∧ ∀ x H', J.yld i H x H' → ∃ F', Cf T F' H' ((.val d, x) :: (S ++ M)) ρ σ := by
  obtain ⟨L, sl, rp⟩ := cf
  rw [List.append_assoc] at rp
  obtain ⟨g, y⟩ := (h F H _ i rp).2 d hi
  refine ⟨g, fun x H' e => ?_⟩
  obtain ⟨F', rp'⟩ := y x H' e
  exact ⟨F', L, sl, by rw [List.cons_append, List.append_assoc]; exact rp'⟩
def tIt (T : Nm) (W : WX) (m : Env → Res (List D)) : TI := fun σ H R => ∃ F M ρ, Cf T F H M ρ σ ∧ Out T W σ M (m ρ) fun ds ρ' => ∀ J S F' H', ItOk T J S ds → Cf T F' H' (S ++ M) ρ' σ → R J H'
theorem _root_.L2.PI.imp {X : Cx} {tg e : Expr} {t t' : TI} (h : PI X tg e t) (k : ∀ σ H R, t' σ H R → t σ H R) : PI X tg e t' := ⟨fun pins s σ H R I q => h.run pins s σ H R I (k σ H R q)⟩
def iAny (K : PySem.W.Frag) (tl : TE) : TI := fun σ H R => tl σ H fun x H1 => ∃ a, x = .ref a ∧ (((∃ xs, SqL K H1 a xs) ∧ R (Itl K a) H1) ∨ ((∃ xs, SqT K H1 a xs) ∧ R (Itt K a) H1) ∨
  ∃ lo hi : Int, H1 a = some (.rng lo hi) ∧ (-(2 ^ 62) ≤ lo ∧ lo < 2 ^ 62 ∧ -(2 ^ 62) ≤ hi ∧ hi < 2 ^ 62) ∧ R (Itr lo (hi - lo).toNat) H1)
theorem pi_any {tg l : Expr} {tl : TE} (hl : PE X l tl) : PI X tg l (iAny X.K tl) := by
  refine ⟨fun pins s σ H R I h => ?_⟩
  refine thn (hl.run pins s σ H _ I h) fun v s1 ⟨x, H1, I1, r1, q1⟩ => ?_
  obtain ⟨a, e, ⟨⟨xs, hq⟩, q⟩ | ⟨⟨xs, hq⟩, q⟩ | ⟨lo, hi, hq, ⟨b1, b2, b3, b4⟩, q⟩⟩ := q1
  · subst e
    cases r1
    obtain ⟨its, rv, p, hz⟩ := I1.list hq
    refine wpAny_pyIter_list p.isList ?_
    refine ⟨s1.heap.objs.size, [s1.heap.objs.size], _, _, H1, rfl, I1.kept (t' := s1.toks) fun b o e => Heap.get?_push_of_some _ e, turn_list a _, ⟨_, Heap.get?_push_size _ rfl, rfl, rfl⟩, fun b hb => ?_, q⟩
    have e : b = s1.heap.objs.size := by simpa using hb
    subst e
    exact I1.fpOk (Nat.le_refl _) (I1.hok.fresh (Nat.le_refl _))
  · subst e
    cases r1
    obtain ⟨its, rv, p, hz⟩ := I1.tuple hq
    refine wpAny_pyIter_tuple (show s1.heap.IsTuple a its.toArray from p) ?_
    refine ⟨s1.heap.objs.size, [s1.heap.objs.size], _, _, H1, rfl, I1.kept (t' := s1.toks) fun b o e => Heap.get?_push_of_some _ e, turn_tuple a _, ⟨_, Heap.get?_push_size _ rfl, rfl, rfl⟩, fun b hb => ?_, q⟩
    have e : b = s1.heap.objs.size := by simpa using hb
    subst e
    exact I1.fpOk (Nat.le_refl _) (I1.hok.fresh (Nat.le_refl _))
  · subst e
    cases r1
    obtain ⟨t, u, w, hr⟩ : ∃ t u v, s1.heap.get? a = some { cls := .type "range", data := .fields #[.int lo t, .int hi u, .int 1 v] } := I1.hok a _ hq
    refine wpAny_pyIter_range hr (small_one b1 b2 b3 b4) ?_
    refine ⟨s1.heap.objs.size, [s1.heap.objs.size], _, _, H1, rfl, I1.kept (t' := s1.toks) fun b o e => Heap.get?_push_of_some _ e, turn_range _ lo (hi - lo).toNat, ?_, fun b hb => ?_, q⟩
    · have e1 : lo + ((0 : Nat) : Int) * 1 = lo := by simp
      have e2 : (((hi - lo).toNat : Nat) : Int) - ((0 : Nat) : Int) = Builtin.Range.rangeSize lo hi 1 := by rw [rangeSize_one]; split <;> omega
      show IsRangeIter _ _ (lo + ((0 : Nat) : Int) * 1) ((((hi - lo).toNat : Nat) : Int) - ((0 : Nat) : Int)) 1
      rw [e1, e2]
      exact Heap.get?_push_size _ rfl
    · have e : b = s1.heap.objs.size := by simpa using hb
      subst e
      exact I1.fpOk (Nat.le_refl _) (I1.hok.fresh (Nat.le_refl _))
theorem itok_tup {a : Addr} {ds : List D} : ItOk T (Itt T.K a) [(.val (.tup ds), .ref a)] ds := by
  intro F H L i rp
  have r := rp.rp
  cases r with
  | @tup _ xs _ t r =>
    have t' := same_sqT rp.sub t
    refine ⟨fun hi => ⟨xs, t', by rw [r.len]; exact hi⟩, fun d hd => ?_⟩
    obtain ⟨v, e, rv⟩ := r.get hd
    refine ⟨⟨xs, v, t', e⟩, fun x H' y => ?_⟩
    obtain ⟨e1, e2⟩ := y
    subst e1
    have e3 := e2 xs t'
    rw [e] at e3
    cases e3
    exact ⟨F, rp.val rv⟩
theorem itok_lst {a : Addr} {ds : List D} : ItOk T (Itl T.K a) [(.val (.lst ds), .ref a)] ds := by
  intro F H L i rp
  have r := rp.rp
  cases r with
  | @lst _ xs _ t r =>
    have t' : SqL T.K H a xs := same_sqL rp.sub t
    refine ⟨fun hi => ⟨xs, t', by rw [r.len]; exact hi⟩, fun d hd => ?_⟩
    obtain ⟨v, e, rv⟩ := r.get hd
    refine ⟨⟨xs, v, t', e⟩, fun x H' y => ?_⟩
    obtain ⟨e1, e2⟩ := y
    subst e1
    have e3 := e2 xs t'
    rw [e] at e3
    cases e3
    exact ⟨F, rp.val rv⟩
theorem itok_rng {lo hi : Int} : ItOk T (Itr lo (hi - lo).toNat) [] (rngL lo hi) := by
  intro F H L i rp
  have hl : (rngL lo hi).length = (hi - lo).toNat := by unfold rngL; simp
  refine ⟨fun h => by rw [hl] at h; exact h, fun d hd => ?_⟩
  have hi' : i < (hi - lo).toNat := by have := (List.getElem?_eq_some_iff.mp hd).1; rw [hl] at this; exact this
  have ed : d = .int (lo + (i : Int)) := by
    unfold rngL at hd
    rw [List.getElem?_map, List.getElem?_range hi'] at hd
    exact (Option.some.inj hd).symm
  subst ed
  refine ⟨hi', fun x H' y => ?_⟩
  obtain ⟨e1, e2⟩ := y
  subst e1 e2
  exact ⟨F, rp.val (.int _)⟩
theorem pi_seqF {tg e : Expr} {m : Env → Res D} (hK : X.K = T.K) (h : PE X e (tD T W m)) : PI X tg e (tIt T W fun ρ => (m ρ).bind fun d ρ => match d with
    | .tup ds => .ok ds ρ
    | .lst ds => .ok ds ρ
    | .rng lo hi => if rngOk lo hi = true then .ok (rngL lo hi) ρ else .stuck
    | _ => .stuck) := by
  refine (pi_any h).imp fun σ H R q => ?_
  obtain ⟨F, M, ρ, cf, q⟩ := q
  refine ⟨F, M, ρ, cf, (Out.bind q).imp fun d ρ1 q1 v1 F1 H1 cf1 => ?_⟩
  cases d with
  | tup ds =>
    obtain ⟨a, rfl⟩ : ∃ a, v1 = .ref a := by have r := cf1.rp; cases r; exact ⟨_, rfl⟩
    refine ⟨a, rfl, .inr (.inl ⟨?_, q1 _ _ F1 H1 (by rw [hK]; exact itok_tup) cf1⟩)⟩
    have r := cf1.rp
    cases r with | tup t r => exact ⟨_, by rw [hK]; exact same_sqT cf1.sub t⟩
  | lst ds =>
    obtain ⟨a, rfl⟩ : ∃ a, v1 = .ref a := by have r := cf1.rp; cases r; exact ⟨_, rfl⟩
    refine ⟨a, rfl, .inl ⟨?_, q1 _ _ F1 H1 (by rw [hK]; exact itok_lst) cf1⟩⟩
    have r := cf1.rp
    cases r with | lst t r => exact ⟨_, by rw [hK]; exact same_sqL cf1.sub t⟩
  | rng lo hi =>
    dsimp only at q1
    split at q1
    · rename_i c
      have r := cf1.rp
      cases r with
      | @rng a _ _ t => exact ⟨a, rfl, .inr (.inr ⟨lo, hi, cf1.sub _ _ t, rngOk_ok c, q1 _ [] F1 H1 itok_rng cf1.tail⟩)⟩
    · exact q1.elim
  | _ => exact q1.elim

/-! ### targets -/
def Tg.slots : Tg → List Nat
  | .one i => [i]
  | .many is => is
/-- the reading of a target, and what the language does -/
def TgOk (T : Nm) (t : TG) (tg : Tg) : Prop := ∀ F H M ρ ρ1 σ x d (Q : St → Hp → Prop), Cf T F H ((.val d, x) :: M) ρ σ → setTg tg d ρ = some ρ1 →
  (∀ σ2, Cf T F H M ρ1 σ2 → σ2.length = σ.length → (∀ j, j ∉ tg.slots → σ2[j]? = σ[j]?) → Q σ2 H) → t x σ H Q
theorem tgok_one {i : Nat} (hi : ∀ (σ : St), X.N.length = σ.length → i < σ.length) : True := trivial
/-- the names one behind another -/
def gNames : List Nat → TGs
  | [] => gNil
  | i :: is => gCons (gName i) (gNames is)
theorem store_many {F H : Hp} : ∀ {is : List Nat} {ds : List D} {vs : List V} {M : Lv} {ρ : Env} {σ : St} (Q : St → Hp → Prop), Cf T F H M ρ σ → RpL T F vs ds → is.length = ds.length → (∀ i ∈ is, i < σ.length) →
    (∀ σ2, Cf T F H M ((is.zip ds).foldl (fun ρ p => ρ.set p.1 (some (.val p.2))) ρ) σ2 → σ2.length = σ.length → (∀ j, j ∉ is → σ2[j]? = σ[j]?) → Q σ2 H) → gNames is vs σ H Q
  | [], [], vs, M, ρ, σ, Q, cf, r, _, _, k => by
    cases r
    exact ⟨rfl, k σ cf rfl fun _ _ => rfl⟩
  | i :: is, d :: ds, _, M, ρ, σ, Q, cf, r, l, hi, k => by
    cases r with
    | @cons v vs _ _ r1 r2 =>
      refine ⟨v, vs, rfl, ?_⟩
      have hi0 := hi i (by simp)
      have cf1 := Cf.into (i := i) (cf.val r1) hi0
      refine store_many (is := is) (ds := ds) Q cf1 r2 (by simpa using l) (fun j hj => by rw [List.length_set]; exact hi j (by simp [hj])) fun σ2 cf2 l2 e2 => ?_
      refine k σ2 cf2 (by rw [l2, List.length_set]) fun j hj => ?_
      simp only [List.mem_cons, not_or] at hj
      rw [e2 j hj.2, List.getElem?_set_ne (Ne.symm hj.1)]
  | [], _ :: _, _, _, _, _, _, _, _, l, _, _ => by simp at l
  | _ :: _, [], _, _, _, _, _, _, _, l, _, _ => by simp at l
def Tg.rd (K : PySem.W.Frag) : Tg → TG
  | .one i => gName i
  | .many is => gTup K is.length (gNames is)
/-- its slots are there -/
def TgIn (n : Nat) (tg : Tg) : Prop := ∀ i ∈ tg.slots, i < n
theorem tg_ok {K : PySem.W.Frag} {n : Nat} (hK : K = T.K) {tg : Tg} (hi : TgIn n tg) {F H : Hp} {ρ ρ1 : Env} {x : V} {d : D} {Q : St → Hp → Prop} (hn : σ.length = n) (cf : Cf T F H ((.val d, x) :: M) ρ σ) (e : setTg tg d ρ = some ρ1)
    (k : ∀ σ2, Cf T F H M ρ1 σ2 → σ2.length = σ.length → (∀ j, j ∉ tg.slots → σ2[j]? = σ[j]?) → Q σ2 H) : tg.rd K x σ H Q := by
  cases tg with
  | one i =>
    cases e
    have h0 : i < σ.length := by rw [hn]; exact hi i (by simp [Tg.slots])
    refine k _ (cf.into h0) (by simp) fun j hj => ?_
    have : j ≠ i := fun z => hj (by simp [Tg.slots, z])
    rw [List.getElem?_set_ne (Ne.symm this)]
  | many is =>
    cases d with
    | tup ds =>
      have e : (if is.length = ds.length then some ((is.zip ds).foldl (fun ρ p => ρ.set p.1 (some (R.val p.2))) ρ) else none) = some ρ1 := e
      split at e
      · rename_i l
        cases e
        have r := cf.rp
        cases r with
        | @tup a xs _ t r =>
          refine ⟨a, xs, rfl, by rw [hK]; exact same_sqT cf.sub t, by rw [r.len, l], ?_⟩
          exact store_many Q cf.tail r l (fun i hj => by rw [hn]; exact hi i hj) k
      · cases e
    | _ => cases e

/-! ### the slots of a comprehension's own names -/
theorem wipe_set_ne {σ : St} {i : Nat} {x : Option V} : ∀ {vs : List Nat}, i ∉ vs → wipe (σ.set i x) vs = (wipe σ vs).set i x
  | [], _ => rfl
  | v :: vs, h => by
    simp only [List.mem_cons, not_or] at h
    unfold wipe
    rw [wipe_set_ne h.2, List.set_comm _ _ (fun z => h.1 z)]
theorem wipe_get {σ : St} : ∀ {vs : List Nat} {j : Nat}, j ∉ vs → (wipe σ vs)[j]? = σ[j]?
  | [], _, _ => rfl
  | v :: vs, j, h => by
    simp only [List.mem_cons, not_or] at h
    unfold wipe
    rw [List.getElem?_set_ne (fun z => h.1 z.symm), wipe_get h.2]
theorem wipe_none {σ : St} : ∀ {vs : List Nat} {j : Nat}, j ∈ vs → j < σ.length → (wipe σ vs)[j]? = some none
  | v :: vs, j, h, hl => by
    unfold wipe
    by_cases e : v = j
    · subst e; rw [List.getElem?_set_self (by rw [wipe_length]; exact hl)]
    · rw [List.getElem?_set_ne e]
      exact wipe_none (by rcases List.mem_cons.mp h with q | q; exact absurd q.symm e; exact q) hl
/-- equal outside the slots: equal when they are wiped -/
theorem wipe_eq {σ τ : St} {vs : List Nat} (hl : σ.length = τ.length) (h : ∀ j, j ∉ vs → σ[j]? = τ[j]?) : wipe σ vs = wipe τ vs := by
  apply List.ext_getElem?
  intro j
  by_cases hj : j ∈ vs
  · by_cases hlt : j < σ.length
    · rw [wipe_none hj hlt, wipe_none hj (by rw [← hl]; exact hlt)]
    · rw [List.getElem?_eq_none (by rw [wipe_length]; omega), List.getElem?_eq_none (by rw [wipe_length, ← hl]; omega)]
  · rw [wipe_get hj, wipe_get hj, h j hj]
theorem wipe_wipe {σ : St} {vs ws : List Nat} (h : ∀ j ∈ ws, j ∈ vs) : wipe (wipe σ ws) vs = wipe σ vs :=
  wipe_eq (by rw [wipe_length]) fun j hj => wipe_get fun z => hj (h j z)
theorem wipeE_at {ρ : Env} : ∀ {vs : List Nat} {j : Nat}, j ∉ vs → (wipeE ρ vs)[j]? = ρ[j]?
  | [], _, _ => rfl
  | v :: vs, j, h => by
    simp only [List.mem_cons, not_or] at h
    unfold wipeE
    rw [List.getElem?_set_ne (fun z => h.1 z.symm), wipeE_at h.2]
theorem restE_set {ρ0 ρ : Env} {i : Nat} {x : Option R} : ∀ {vs : List Nat}, i ∉ vs → restE ρ0 (ρ.set i x) vs = (restE ρ0 ρ vs).set i x
  | [], _ => rfl
  | v :: vs, h => by
    simp only [List.mem_cons, not_or] at h
    unfold restE
    rw [restE_set h.2, List.set_comm _ _ (fun z => h.1 z)]
/-- the own names' values are put aside, and come back -/
theorem Cf.aside {F H : Hp} {ρ : Env} : ∀ {vs : List Nat}, vs.Nodup → (∀ i ∈ vs, i < σ.length) → Cf T F H M ρ σ → ∃ S : Lv, Cf T F H (S ++ M) (wipeE ρ vs) (wipe σ vs) ∧
    ∀ F' H' M' ρ', Cf T F' H' (S ++ M') ρ' (wipe σ vs) → Cf T F' H' M' (restE ρ ρ' vs) σ
  | [], _, _, cf => ⟨[], cf, fun F' H' M' ρ' q => q⟩
  | i :: vs, nd, hi, cf => by
    simp only [List.nodup_cons] at nd
    obtain ⟨S, c1, back⟩ := Cf.aside (vs := vs) nd.2 (fun j hj => hi j (by simp [hj])) cf
    have hlt : i < σ.length := hi i (by simp)
    cases z : ρ.at i with
    | none =>
      have c2 := Cf.forget (i := i) c1 none
      refine ⟨S, c2, fun F' H' M' ρ' q => ?_⟩
      have q1 := Cf.forget (i := i) q (σ[i])
      have e1 : (((wipe σ vs).set i none).set i (σ[i])) = wipe σ vs := by
        rw [List.set_set]
        refine set_same ?_
        rw [wipe_get nd.1, List.getElem?_eq_getElem hlt]
      rw [show wipe σ (i :: vs) = (wipe σ vs).set i none from rfl, e1] at q1
      have q2 := back F' H' M' _ q1
      rw [restE_set nd.1] at q2
      show Cf T F' H' M' ((restE ρ ρ' vs).set i (ρ.at i)) σ
      rw [z]
      exact q2
    | some r =>
      have ez := at_get z
      have ez2 : (wipeE ρ vs)[i]? = some (some r) := by rw [wipeE_at nd.1]; exact ez
      obtain ⟨v, ev, c2⟩ := Cf.out (M := S ++ M) c1 ez2
      have c3 := Cf.forget (i := i) c2 none
      rw [List.set_set] at c3
      refine ⟨(r, v) :: S, c3, fun F' H' M' ρ' q => ?_⟩
      have q1 := Cf.into (i := i) (M := S ++ M') q (by rw [wipe_length]; exact hlt)
      have e1 : ((wipe σ (i :: vs)).set i (some v)) = wipe σ vs := by
        show (((wipe σ vs).set i none).set i (some v)) = _
        rw [List.set_set]
        exact set_same ev
      rw [e1] at q1
      have q2 := back F' H' M' _ q1
      rw [restE_set nd.1] at q2
      show Cf T F' H' M' ((restE ρ ρ' vs).set i (ρ.at i)) σ
      rw [z]
      exact q2
theorem Cf.wipeAll {F H : Hp} {ρ : Env} (cf : Cf T F H M ρ σ) : ∀ vs : List Nat, Cf T F H M (wipeE ρ vs) (wipe σ vs)
  | [] => cf
  | v :: vs => (Cf.wipeAll cf vs).forget none

/-! ### comprehensions -/
abbrev W0 : WX := fun _ _ _ _ => False
theorem Out.of_calm {α : Type} {x : Res α} {K : α → Env → Prop} (h : Out T W σ M x.calm K) : ∃ a ρ, x = .ok a ρ ∧ K a ρ := by
  cases x with
  | ok a ρ => exact ⟨a, ρ, rfl, h⟩
  | exc c d ρ => exact h.elim
  | stuck => exact h.elim
theorem bind_ok {α β : Type} {x : Res α} {k : α → Env → Res β} {b : β} {ρ : Env} (h : x.bind k = .ok b ρ) : ∃ a ρ1, x = .ok a ρ1 ∧ k a ρ1 = .ok b ρ := by
  cases x with
  | ok a ρ1 => exact ⟨a, ρ1, rfl, h⟩
  | exc c d ρ => cases h
  | stuck => cases h
theorem _root_.L2.PE.impL {X : Cx} {e : Expr} {t t' : TE} (h : PE X e t) (k : ∀ σ H Q, σ.length = X.N.length → t' σ H Q → t σ H Q) : PE X e t' := ⟨fun pins s σ H Q I q => h.run pins s σ H Q I (k σ H Q I.len q)⟩
theorem perm_rot {α : Type} {A B C : List α} : (A ++ (B ++ C)).Perm (B ++ (A ++ C)) := by
  rw [← List.append_assoc, ← List.append_assoc]
  exact List.Perm.append_right _ List.perm_append_comm
theorem perm_in {α : Type} {x : α} {A B C : List α} : (x :: (A ++ (B ++ C))).Perm (B ++ (x :: (A ++ C))) := (List.Perm.cons _ perm_rot).trans perm_out.symm
theorem perm_in2 {α : Type} {x : α} {A B : List α} : (x :: (A ++ B)).Perm (A ++ (x :: B)) := perm_out.symm
/-- a turn's end: one more item -/
theorem Cf.push {F H : Hp} {ρ : Env} {D : Addr} {acc : List Fx.D} {x : Fx.D} {v : V} (cf : Cf T F H ((.val x, v) :: (.lst acc, .ref D) :: M) ρ σ) : ∃ av, H D = some (.lst av) ∧ av.length = acc.length ∧ Cf T F (upd H D (.lst (av ++ [v]))) ((.lst (acc ++ [x]), .ref D) :: M) ρ σ := by
  have r := cf.rp
  have c1 := cf.swap
  obtain ⟨av, e, rr⟩ := c1.lstAt
  exact ⟨av, e, rr.len, (c1.put (rr.app (.cons r .nil))).swap.tail⟩
/-- the invariant of a comprehension's turns -/
theorem lc_turns {own : List Nat} {it : Tg} {c : Env → Res Bool} {el : Env → Res D} {S Sv : Lv} {ds acc : List D} {ρ2 : Env} {J : It} {D : Addr} {Qd : Hp → Prop} {n : Nat} {τ : St} {K : PySem.W.Frag} (hK : K = T.K)
    (itk : ItOk T J S ds) (hn : τ.length = n) (hin : TgIn n it) (htg : ∀ i ∈ it.slots, i ∈ own) (hw : wipe τ own = τ) {F1 H1 : Hp} {ρ1 : Env} {acc1 : List Fx.D} (cf : Cf T F1 H1 ((.lst acc1, .ref D) :: (Sv ++ (S ++ M))) ρ1 τ)
    (e : compF own it c el ds ρ1 acc1 = .ok acc ρ2)
    (fin : ∀ F H, Cf T F H ((.lst acc, .ref D) :: (Sv ++ (S ++ M))) ρ2 τ → Qd H) :
    ∃ Wv : Nat → Nat → Hp → Prop, (∃ m, Wv 0 m H1) ∧ ∀ i m H, Wv i m H →
      (J.stop i H ∧ Qd H) ∨ (J.go i H ∧ ∃ Nx : Hp → Prop, (∀ H', Nx H' → ∃ m', m' < m ∧ Wv (i + 1) m' H') ∧ ∀ x H', J.yld i H x H' → (it.rd K) x τ H' fun σ2 H2 => wipe σ2 own = τ ∧ tT T W0 c σ2 H2 fun b H3 =>
        if b = true then tD T W0 el σ2 H3 fun y H4 => ∃ acc, H4 D = some (.lst acc) ∧ acc.length < sizeLine ∧ Nx (upd H4 D (.lst (acc ++ [y]))) else Nx H3) := by
  refine ⟨fun i m H => m = ds.length - i ∧ i ≤ ds.length ∧ ∃ F ρ a0, Cf T F H ((.lst a0, .ref D) :: (Sv ++ (S ++ M))) ρ τ ∧ compF own it c el (ds.drop i) ρ a0 = .ok acc ρ2, ⟨_, rfl, Nat.zero_le _, F1, ρ1, acc1, cf, e⟩, ?_⟩
  rintro i m H ⟨rfl, hi, F, ρ, a0, cf, e⟩
  by_cases hlt : i < ds.length
  · right
    rw [List.drop_eq_getElem_cons hlt] at e
    obtain ⟨g, y⟩ := itk.go (cf.permM perm_in) (List.getElem?_eq_getElem hlt)
    refine ⟨g, fun H' => ∃ F ρ a0, Cf T F H' ((.lst a0, .ref D) :: (Sv ++ (S ++ M))) ρ τ ∧ compF own it c el (ds.drop (i + 1)) ρ a0 = .ok acc ρ2, fun H' p => ⟨ds.length - (i + 1), by omega, rfl, hlt, p⟩, fun x H' yx => ?_⟩
    obtain ⟨F', cf'⟩ := y x H' yx
    have cf2 : Cf T F' H' ((.val ds[i], x) :: ((.lst a0, .ref D) :: (Sv ++ (S ++ M)))) ρ τ := cf'.permM (List.Perm.cons _ perm_in.symm)
    unfold compF at e
    cases es : setTg it ds[i] ρ with
    | none => rw [es] at e; cases e
    | some ρa =>
      rw [es] at e
      obtain ⟨b, ρb, ec, e⟩ := bind_ok e
      refine tg_ok hK hin hn cf2 es fun σ2 cfa l2 o2 => ?_
      have ew : wipe σ2 own = τ := (wipe_eq l2 fun j hj => o2 j fun z => hj (htg j z)).trans hw
      refine ⟨ew, F', _, ρa, cfa, ?_⟩
      rw [ec]
      intro F3 H3 cfb
      cases b with
      | true =>
        obtain ⟨xd, ρc, ee, e⟩ := bind_ok (show ((el ρb).bind _) = _ from e)
        split at e
        · rename_i hl
          rw [if_pos rfl]
          refine ⟨F3, _, ρb, cfb, ?_⟩
          rw [ee]
          intro v F4 H4 cf4
          obtain ⟨av, e4, l4, cf5⟩ := cf4.push
          refine ⟨av, e4, by rw [l4, ← line_eq]; exact hl, F4, wipeE ρc own, a0 ++ [xd], ?_, e⟩
          have c6 := cf5.wipeAll own
          rw [ew] at c6
          exact c6
        · cases e
      | false =>
        rw [if_neg Bool.false_ne_true]
        have c6 := cfb.wipeAll own
        rw [ew] at c6
        exact ⟨F3, wipeE ρb own, a0, c6, e⟩
  · left
    have ei : i = ds.length := by omega
    subst ei
    rw [List.drop_length] at e
    cases e
    exact ⟨itk.stop (cf.permM perm_in) (Nat.le_refl _), fin F H cf⟩
theorem lc_imp {K : PySem.W.Frag} {n : Nat} {own : List (Str × Nat)} {it : Tg} {src : Env → Res (List D)} {c : Env → Res Bool} {el : Env → Res D}
    (hK : K = T.K) (nd : (own.map (·.2)).Nodup) (hin : ∀ i ∈ own.map (·.2), i < n) (htg : ∀ i ∈ it.slots, i ∈ own.map (·.2)) {H : Hp} {Q : VK} (hl : σ.length = n)
    (q : (tM T W (fun ρ => (src ρ).bind fun ds ρ => ((compF (own.map (·.2)) it c el ds (wipeE ρ (own.map (·.2))) []).bind fun acc ρ' => .ok (.lst acc) (restE ρ ρ' (own.map (·.2)))).calm)) σ H Q) : tLc (tIt T W src) (it.rd K) (tT T W0 c) (tD T W0 el) (own.map (·.2)) σ H Q := by
  obtain ⟨F, M, ρ, cf, q⟩ := q
  refine ⟨F, M, ρ, cf, (Out.bind q).imp fun ds ρ1 q1 J S F1 H1 itk cf1 D nD => ?_⟩
  obtain ⟨r, ρ', e, k⟩ := Out.of_calm q1
  obtain ⟨acc, ρ2, e1, e2⟩ := bind_ok e
  cases e2
  obtain ⟨Sv, c2, back⟩ := cf1.aside nd (fun i hi => by rw [hl]; exact hin i hi)
  have c3 := c2.own nD .nil
  refine lc_turns (Qd := fun H => Q (.ref D) H) hK itk (by rw [wipe_length]; exact hl) (fun i hi => hin i (htg i hi)) htg (wipe_wipe fun _ h => h) c3 e1 fun F H cfe => ?_
  have c4 := back F H ((.lst acc, .ref D) :: (S ++ M)) ρ2 (cfe.permM perm_in2)
  exact k _ F H (Cf.dropL (P := S) (c4.permM perm_in2))
theorem pe_lcF {elt tg iter : Expr} {ifs : List Expr} {scope : Scope} {own : List (Str × Nat)} {pos : Pos} {it : Tg} {src : Env → Res (List D)} {c : Env → Res Bool} {el : Env → Res D}
    (hc : X.calm = true) (hK : X.K = T.K) (hN : X.N.Nodup) (hi : PI X tg iter (tIt T W src)) (ok : BlkOk X.N X.env.scope scope own) (nd : (own.map (·.2)).Nodup) (hin : ∀ i ∈ own.map (·.2), i < X.N.length)
    (htg : ∀ i ∈ it.slots, i ∈ own.map (·.2))
    (hg : ∀ (s : Shared) (H : Hp) (C : Addr) (cl : List (Str × Addr)) (fp : List Addr), PG (X.blk s H scope (compEnvC scope cl C X.env) fp) tg (it.rd X.K)) (ht : ∀ (s : Shared) (H : Hp) (C : Addr) (cl : List (Str × Addr)) (fp : List Addr), PTs (X.blk s H scope (compEnvC scope cl C X.env) fp) ifs (tT T W0 c))
    (he : ∀ (s : Shared) (H : Hp) (C : Addr) (cl : List (Str × Addr)) (fp : List Addr), PE (X.blk s H scope (compEnvC scope cl C X.env) fp) elt (tD T W0 el)) (hs : Ex.isSet iter = false) :
    PE X (.ListComp elt [⟨tg, iter, ifs, 0⟩] scope pos) (tM T W fun ρ => (src ρ).bind fun ds ρ => ((compF (own.map (·.2)) it c el ds (wipeE ρ (own.map (·.2))) []).bind fun acc ρ' => .ok (.lst acc) (restE ρ ρ' (own.map (·.2)))).calm) := by
  exact (pe_lc hc hN hi ok hg ht he (fold_plain hs)).impL fun σ H Q hl q => lc_imp hK nd hin htg hl q
theorem lc2_imp {K : PySem.W.Frag} {n : Nat} {own : List (Str × Nat)} {vs1 : List Nat} {it it1 : Tg} {src src1 : Env → Res (List D)} {c : Env → Res Bool} {el : Env → Res D}
    (hK : K = T.K) (nd : (own.map (·.2)).Nodup) (hin : ∀ i ∈ own.map (·.2), i < n) (hv : ∀ i ∈ vs1, i ∈ own.map (·.2)) (htg : ∀ i ∈ it.slots, i ∈ own.map (·.2)) (htg1 : ∀ i ∈ it1.slots, i ∈ vs1) {H : Hp} {Q : VK} (hl : σ.length = n)
    (q : (tM T W (fun ρ => (src ρ).bind fun ds ρ => ((compF2 (own.map (·.2)) it (fun ρ => (src1 ρ).bind fun es ρ => .ok es (wipeE ρ vs1)) (compF vs1 it1 c el) ds (wipeE ρ (own.map (·.2))) []).bind fun acc ρ' => .ok (.lst acc) (restE ρ ρ' (own.map (·.2)))).calm)) σ H Q) : tLc2 (tIt T W src) (it.rd K) tYes (tIt T W0 src1) (it1.rd K) (tT T W0 c) (tD T W0 el) (own.map (·.2)) vs1 σ H Q := by
  obtain ⟨F, M, ρ, cf, q⟩ := q
  refine ⟨F, M, ρ, cf, (Out.bind q).imp fun ds ρ1 q1 J S F1 H1 itk cf1 D nD => ?_⟩
  obtain ⟨r, ρ', e, k⟩ := Out.of_calm q1
  obtain ⟨acc, ρ2, e1, e2⟩ := bind_ok e
  cases e2
  obtain ⟨Sv, c2, back⟩ := cf1.aside nd (fun i hi => by rw [hl]; exact hin i hi)
  have c3 := c2.own nD .nil
  generalize hvs : own.map (·.2) = vs at *
  have hw : wipe (wipe σ vs) vs = wipe σ vs := wipe_wipe fun _ h => h
  refine ⟨fun i m H => m = ds.length - i ∧ i ≤ ds.length ∧ ∃ F ρ a0, Cf T F H ((.lst a0, .ref D) :: (Sv ++ (S ++ M))) ρ (wipe σ vs) ∧ compF2 vs it (fun ρ => (src1 ρ).bind fun es ρ => .ok es (wipeE ρ vs1)) (compF vs1 it1 c el) (ds.drop i) ρ a0 = .ok acc ρ2, ⟨_, rfl, Nat.zero_le _, F1, _, [], c3, e1⟩, ?_⟩
  rintro i m H ⟨rfl, hi, F, ρ, a0, cf, e⟩
  by_cases hlt : i < ds.length
  · right
    rw [List.drop_eq_getElem_cons hlt] at e
    obtain ⟨g, y⟩ := itk.go (cf.permM perm_in) (List.getElem?_eq_getElem hlt)
    refine ⟨g, fun H' => ∃ F ρ a0, Cf T F H' ((.lst a0, .ref D) :: (Sv ++ (S ++ M))) ρ (wipe σ vs) ∧ compF2 vs it (fun ρ => (src1 ρ).bind fun es ρ => .ok es (wipeE ρ vs1)) (compF vs1 it1 c el) (ds.drop (i + 1)) ρ a0 = .ok acc ρ2, fun H' p => ⟨ds.length - (i + 1), by omega, rfl, hlt, p⟩, fun x H' yx => ?_⟩
    obtain ⟨F', cf'⟩ := y x H' yx
    have cf2 : Cf T F' H' ((.val ds[i], x) :: ((.lst a0, .ref D) :: (Sv ++ (S ++ M)))) ρ (wipe σ vs) := cf'.permM (List.Perm.cons _ perm_in.symm)
    unfold compF2 at e
    cases es : setTg it ds[i] ρ with
    | none => rw [es] at e; cases e
    | some ρa =>
      rw [es] at e
      obtain ⟨es', ρb, ec, e⟩ := bind_ok e
      obtain ⟨es2, ρb', ec1, ec2⟩ := bind_ok (k := fun es ρ => Res.ok es (wipeE ρ vs1)) ec
      cases ec2
      obtain ⟨acc', ρc, ei, e⟩ := bind_ok e
      refine tg_ok hK (fun i hi => hin i (htg i hi)) (by rw [wipe_length]; exact hl) cf2 es fun σ2 cfa l2 o2 => ?_
      have ew : wipe σ2 vs = wipe σ vs := (wipe_eq l2 fun j hj => o2 j fun z => hj (htg j z)).trans hw
      refine ⟨ew, ?_⟩
      dsimp only [tYes]
      rw [if_pos rfl]
      refine ⟨F', _, ρa, cfa, ?_⟩
      rw [ec1]
      intro J1 S1 F3 H3 itk1 cfb
      have cfw := cfb.wipeAll vs1
      have l2' : σ2.length = n := by rw [l2, wipe_length]; exact hl
      refine lc_turns (Sv := []) (M := Sv ++ (S ++ M)) (S := S1) (own := vs1) (it := it1) (τ := wipe σ2 vs1) hK itk1 (by rw [wipe_length]; exact l2') (fun i hi => hin i (hv i (htg1 i hi))) htg1 (wipe_wipe fun _ h => h) (cfw.permM perm_in2.symm) ei fun F4 H4 cfe => ?_
      have c5 : Cf T F4 H4 ((.lst acc', .ref D) :: (Sv ++ (S ++ M))) ρc (wipe σ2 vs1) := Cf.dropL (P := S1) (Cf.permM cfe (show ((R.lst acc', V.ref D) :: (S1 ++ (Sv ++ (S ++ M)))).Perm _ from perm_in2))
      have c6 := c5.wipeAll vs
      rw [wipe_wipe hv, ew] at c6
      exact ⟨F4, _, acc', c6, e⟩
  · left
    have ei : i = ds.length := by omega
    subst ei
    rw [List.drop_length] at e
    cases e
    refine ⟨itk.stop (cf.permM perm_in) (Nat.le_refl _), ?_⟩
    have c4 := back F H ((.lst acc, .ref D) :: (S ++ M)) ρ2 (cf.permM perm_in2)
    exact k _ F H (Cf.dropL (P := S) (c4.permM perm_in2))
/-- the turns of the first of two clauses -/
theorem pe_lc2F {elt tg iter tg1 iter1 : Expr} {ifs1 : List Expr} {scope : Scope} {own : List (Str × Nat)} {vs1 : List Nat} {pos : Pos} {it it1 : Tg} {src src1 : Env → Res (List D)} {c : Env → Res Bool} {el : Env → Res D}
    (hc : X.calm = true) (hK : X.K = T.K) (hN : X.N.Nodup) (hi : PI X tg iter (tIt T W src)) (ok : BlkOk X.N X.env.scope scope own) (nd : (own.map (·.2)).Nodup) (hin : ∀ i ∈ own.map (·.2), i < X.N.length) (hv : ∀ i ∈ vs1, i ∈ own.map (·.2)) (nd1 : vs1.Nodup)
    (htg : ∀ i ∈ it.slots, i ∈ own.map (·.2)) (htg1 : ∀ i ∈ it1.slots, i ∈ vs1)
    (hg : ∀ (s : Shared) (H : Hp) (C : Addr) (cl : List (Str × Addr)) (fp : List Addr), PG (X.blk s H scope (compEnvC scope cl C X.env) fp) tg (it.rd X.K))
    (hi1 : ∀ (s : Shared) (H : Hp) (C : Addr) (cl : List (Str × Addr)) (fp : List Addr), PI (X.blk s H scope (compEnvC scope cl C X.env) fp) tg1 iter1 (tIt T W0 src1))
    (hg1 : ∀ (s : Shared) (H : Hp) (C : Addr) (cl : List (Str × Addr)) (fp : List Addr), PG (X.blk s H scope (compEnvC scope cl C X.env) fp) tg1 (it1.rd X.K)) (ht1 : ∀ (s : Shared) (H : Hp) (C : Addr) (cl : List (Str × Addr)) (fp : List Addr), PTs (X.blk s H scope (compEnvC scope cl C X.env) fp) ifs1 (tT T W0 c))
    (he : ∀ (s : Shared) (H : Hp) (C : Addr) (cl : List (Str × Addr)) (fp : List Addr), PE (X.blk s H scope (compEnvC scope cl C X.env) fp) elt (tD T W0 el)) (hs : Ex.isSet iter = false) (hs1 : Ex.isSet iter1 = false) :
    PE X (.ListComp elt [⟨tg, iter, [], 0⟩, ⟨tg1, iter1, ifs1, 0⟩] scope pos) (tM T W fun ρ => (src ρ).bind fun ds ρ => ((compF2 (own.map (·.2)) it (fun ρ => (src1 ρ).bind fun es ρ => .ok es (wipeE ρ vs1)) (compF vs1 it1 c el) ds (wipeE ρ (own.map (·.2))) []).bind fun acc ρ' => .ok (.lst acc) (restE ρ ρ' (own.map (·.2)))).calm) := by
  exact (pe_lc2 hc hN hi ok hv hg (fun _ _ _ _ _ => pts_nil) hi1 hg1 ht1 he (fold_plain hs) (fun _ => fold_plain hs1)).impL fun σ H Q hl q => lc2_imp hK nd hin hv htg htg1 hl q
end Fx
end
section
set_option linter.all false
set_option Elab.async false
set_option maxRecDepth 100000
set_option maxHeartbeats 4000000
/-! What the language computes is what the model does: statements. -/
namespace Fx
open PySem PySem.Spec L2
variable {T : Nm} {W : WX} {X : Cx} {σ : St} {M : Lv} {g : G} {Φ : Fn} {wr : List Nat}

/-- the slots outside wr are as they were -/
def Ag (wr : List Nat) (σ σ' : St) : Prop := σ'.length = σ.length ∧ ∀ j, j ∉ wr → σ'[j]? = σ[j]?
theorem Ag.refl : Ag wr σ σ := ⟨rfl, fun _ _ => rfl⟩
theorem Ag.trans {σ1 σ2 σ3 : St} (a : Ag wr σ1 σ2) (b : Ag wr σ2 σ3) : Ag wr σ1 σ3 := ⟨b.1.trans a.1, fun j hj => (b.2 j hj).trans (a.2 j hj)⟩
theorem Ag.set {i : Nat} {x : Option V} (hi : i ∈ wr) : Ag wr σ (σ.set i x) := ⟨by simp, fun j hj => List.getElem?_set_ne fun (e : i = j) => hj (by rw [← e]; exact hi)⟩
theorem Ag.of {l : List Nat} {σ2 : St} (h1 : σ2.length = σ.length) (h2 : ∀ j, j ∉ l → σ2[j]? = σ[j]?) (s : ∀ i ∈ l, i ∈ wr) : Ag wr σ σ2 := ⟨h1, fun j hj => h2 j fun z => hj (s j z)⟩

/-- what is wanted behind a statement -/
def SOut (T : Nm) (W : WX) (wr : List Nat) (M : Lv) (x : SRes) (D : Ends) (σ0 : St) : Prop := match x with
  | .nx ρ => ∀ σ F H, Ag wr σ0 σ → Cf T F H M ρ σ → D.nx σ H
  | .rt r ρ => ∀ σ v F H, Ag wr σ0 σ → Cf T F H ((r, v) :: M) ρ σ → D.rt v H
  | .bk ρ => ∀ σ F H, Ag wr σ0 σ → Cf T F H M ρ σ → D.bk σ H
  | .ct ρ => ∀ σ F H, Ag wr σ0 σ → Cf T F H M ρ σ → D.ct σ H
  | .exc c d ρ => ∀ σ, Ag wr σ0 σ → ExcW T W σ M c d ρ
  | .stuck => False
def tS (T : Nm) (W : WX) (wr : List Nat) (m : Env → SRes) : TS := fun D σ H => ∃ F M ρ, Cf T F H M ρ σ ∧ SOut T W wr M (m ρ) D σ
theorem SOut.ag {x : SRes} {D : Ends} {σ0 σ1 : St} (h : SOut T W wr M x D σ0) (a : Ag wr σ0 σ1) : SOut T W wr M x D σ1 := by
  cases x with
  | nx ρ => exact fun σ F H b => h σ F H (a.trans b)
  | rt r ρ => exact fun σ v F H b => h σ v F H (a.trans b)
  | bk ρ => exact fun σ F H b => h σ F H (a.trans b)
  | ct ρ => exact fun σ F H b => h σ F H (a.trans b)
  | exc c d ρ => exact fun σ b => h σ (a.trans b)
  | stuck => exact h
theorem SOut.wkL {P : Lv} {x : SRes} {D : Ends} {σ0 : St} (h : SOut T W wr M x D σ0) : SOut T W wr (P ++ M) x D σ0 := by
  cases x with
  | nx ρ => exact fun σ F H a cf => h σ F H a cf.dropL
  | rt r ρ => exact fun σ v F H a cf => h σ v F H a (Cf.dropL (P := P) (cf.permM perm_in2))
  | bk ρ => exact fun σ F H a cf => h σ F H a cf.dropL
  | ct ρ => exact fun σ F H a cf => h σ F H a cf.dropL
  | exc c d ρ => exact fun σ a v dd F H cf => h σ a v dd F H cf.dropL
  | stuck => exact h
/-- an expression, then a statement's rest -/
theorem SOut.thn {α : Type} {x : Res α} {k : α → Env → SRes} {D : Ends} (h : SOut T W wr M (x.thn k) D σ) : Out T W σ M x fun a ρ => SOut T W wr M (k a ρ) D σ := by
  cases x with
  | ok a ρ => exact h
  | exc c d ρ => exact h σ .refl
  | stuck => exact h
theorem _root_.L2.PS.impL {X : Cx} {st : Stmt} {t t' : TS} (h : PS X st t) (k : ∀ D σ H, σ.length = X.N.length → t' D σ H → t D σ H) : PS X st t' := ⟨fun pins s σ H D I q => h.run pins s σ H D I (k D σ H I.len q)⟩

section
variable {st : Stmt} {sts : List Stmt} {pos : Pos} {e : Expr}
/-! ### one behind another -/
theorem pss_nilF : PSs X [] (tS T W wr fun ρ => .nx ρ) := pss_nil.imp fun D σ H ⟨F, M, ρ, cf, q⟩ => q σ F H .refl cf
theorem pss_consF {m k : Env → SRes} (h1 : PS X st (tS T W wr m)) (h2 : PSs X sts (tS T W wr k)) : PSs X (st :: sts) (tS T W wr fun ρ => (m ρ).thn k) := by
  refine (pss_cons h1 h2).imp fun D σ H q => ?_
  obtain ⟨F, M, ρ, cf, q⟩ := q
  refine ⟨F, M, ρ, cf, ?_⟩
  have q : SOut T W wr M ((m ρ).thn k) D σ := q
  cases z : m ρ with
  | nx ρ1 =>
    rw [z] at q
    have q : SOut T W wr M (k ρ1) D σ := q
    exact fun σ1 F1 H1 a cf1 => ⟨F1, M, ρ1, cf1, q.ag a⟩
  | rt r ρ1 => rw [z] at q; exact q
  | bk ρ1 => rw [z] at q; exact q
  | ct ρ1 => rw [z] at q; exact q
  | exc c d ρ1 => rw [z] at q; exact q
  | stuck => rw [z] at q; exact q
theorem ps_pasF : PS X (.Pass pos) (tS T W wr fun ρ => .nx ρ) := ps_pass.imp fun D σ H ⟨F, M, ρ, cf, q⟩ => q σ F H .refl cf
theorem ps_brkF : PS X (.Break pos) (tS T W wr fun ρ => .bk ρ) := ps_break.imp fun D σ H ⟨F, M, ρ, cf, q⟩ => q σ F H .refl cf
theorem ps_cntF : PS X (.Continue pos) (tS T W wr fun ρ => .ct ρ) := ps_continue.imp fun D σ H ⟨F, M, ρ, cf, q⟩ => q σ F H .refl cf
/-! ### stores -/
theorem asg_imp {m : Env → Res R} {i : Nat} (hw : i ∈ wr) {D : Ends} {H : Hp} (hi : i < σ.length) (q : tS T W wr (fun ρ => (m ρ).thn fun r ρ => .nx (ρ.set i (some r))) D σ H) : tM T W m σ H fun x H1 => gName i x σ H1 D.nx := by
  obtain ⟨F, M, ρ, cf, q⟩ := q
  exact ⟨F, M, ρ, cf, q.thn.imp fun r ρ1 k v F1 H1 cf1 => k _ F1 H1 (.set hw) (cf1.into hi)⟩
theorem ps_asgF {i : Nat} {x : Str} {pos' : Pos} {m : Env → Res R} (hw : i ∈ wr) (hN : X.N.Nodup) (hi : X.N[i]? = some x) (hx : X.env.scope.names.lookup x = some .local ∨ (X.env.scope.names.lookup x = some .cell ∧ X.fn x = true)) (he : PE X e (tM T W m)) (hc : Ex.compr e = false) :
    PS X (.Assign [.Name x pos'] e pos) (tS T W wr fun ρ => (m ρ).thn fun r ρ => .nx (ρ.set i (some r))) := by
  refine (ps_set hN hi (hx.imp id And.left) he (swaps_plain hc) (hx.symm.imp And.right id)).impL fun D σ H hl q => asg_imp hw (by rw [hl]; exact (List.getElem?_eq_some_iff.mp hi).1) q
theorem ps_unpF {tg : Expr} {is : List Nat} {m : Env → Res D} (hK : X.K = T.K) (hw : ∀ i ∈ is, i ∈ wr) (hn : ∀ i ∈ is, i < X.N.length) (he : PE X e (tD T W m)) (hg : PG X tg ((Tg.many is).rd X.K)) (hc : Ex.compr e = false)
    (hs : swappedStores [tg] e X.env = pure none) (h1 : (assignEach [tg] X.env).map (·.2) = [assign tg X.env]) :
    PS X (.Assign [tg] e pos) (tS T W wr fun ρ => (m ρ).thn fun d ρ => match setTg (.many is) d ρ with
      | some ρ' => .nx ρ'
      | none => .stuck) := by
  refine (ps_asg he hg (by unfold swapsWithSole; exact swaps_plain hc) hs h1).impL fun D σ H hl q => ?_
  obtain ⟨F, M, ρ, cf, q⟩ := q
  refine ⟨F, M, ρ, cf, q.thn.imp fun d ρ1 k v F1 H1 cf1 => ?_⟩
  cases z : setTg (.many is) d ρ1 with
  | none => rw [z] at k; exact k.elim
  | some ρ2 =>
    rw [z] at k
    exact tg_ok hK (n := X.N.length) (tg := Tg.many is) hn hl cf1 z fun σ2 cf2 l2 o2 => k σ2 F1 H1 (.of l2 o2 hw) cf2
/-! ### ends -/
theorem ps_retF {m : Env → Res R} (he : PE X e (tM T W m)) : PS X (.Return (some e) pos) (tS T W wr fun ρ => (m ρ).thn fun r ρ => .rt r ρ) := by
  refine (ps_ret he).imp fun D σ H q => ?_
  obtain ⟨F, M, ρ, cf, q⟩ := q
  exact ⟨F, M, ρ, cf, q.thn.imp fun r ρ1 k v F1 H1 cf1 => k σ v F1 H1 .refl cf1⟩
theorem ps_retmF {i : Nat} (he : PE X e (tVar i)) : PS X (.Return (some e) pos) (tS T W wr fun ρ => match ρ.at i with
    | some r => .rt r (ρ.set i none)
    | none => .stuck) := by
  refine (ps_ret he).imp fun D σ H q => ?_
  obtain ⟨F, M, ρ, cf, q⟩ := q
  dsimp only at q
  cases z : ρ.at i with
  | none => rw [z] at q; exact q.elim
  | some r =>
    rw [z] at q
    obtain ⟨v, e1, cf1⟩ := cf.out (at_get z)
    exact ⟨v, e1, q σ v F H .refl cf1⟩
theorem ps_ret0F : PS X (.Return none pos) (tS T W wr fun ρ => .rt (.val .non) ρ) := by
  refine ps_retN.imp fun D σ H q => ?_
  obtain ⟨F, M, ρ, cf, q⟩ := q
  exact q σ .non F H .refl (cf.val .non)
theorem ps_exF {m : Env → Res R} (he : PE X e (tM T W m)) (hc : Ex.compr e = false) : PS X (.Expr e pos) (tS T W wr fun ρ => (m ρ).thn fun _ ρ => .nx ρ) := by
  refine (ps_expr he (swaps_plain hc)).imp fun D σ H q => ?_
  obtain ⟨F, M, ρ, cf, q⟩ := q
  exact ⟨F, M, ρ, cf, q.thn.imp fun r ρ1 k v F1 H1 cf1 => k σ F1 H1 .refl cf1.tail⟩
theorem ps_ifsF {c : Expr} {a b : List Stmt} {mc : Env → Res Bool} {ma mb : Env → SRes} (hc : PT X c (tT T W mc)) (ha : PSs X a (tS T W wr ma)) (hb : PSs X b (tS T W wr mb)) :
    PS X (.If c a b pos) (tS T W wr fun ρ => (mc ρ).thn fun k ρ => if k = true then ma ρ else mb ρ) := by
  refine (ps_if hc ha hb).imp fun D σ H q => ?_
  obtain ⟨F, M, ρ, cf, q⟩ := q
  refine ⟨F, M, ρ, cf, q.thn.imp fun k ρ1 q1 F1 H1 cf1 => ?_⟩
  cases k with
  | true => rw [if_pos rfl] at q1 ⊢; exact ⟨F1, M, ρ1, cf1, q1⟩
  | false => rw [if_neg Bool.false_ne_true] at q1 ⊢; exact ⟨F1, M, ρ1, cf1, q1⟩
/-! ### loops -/
theorem SOut.lp {x : SRes} {D : Ends} {σ0 : St} {k : Env → SRes} {N : St → Hp → Prop} (h : SOut T W wr M (match x with
      | .nx ρ2 => k ρ2
      | .ct ρ2 => k ρ2
      | .bk ρ2 => .nx ρ2
      | x => x) D σ0) (hN : ∀ ρ σ F H, SOut T W wr M (k ρ) D σ0 → Ag wr σ0 σ → Cf T F H M ρ σ → N σ H) : SOut T W wr M x { D with nx := N, ct := N, bk := D.nx } σ0 := by
  cases x with
  | nx ρ2 => exact fun σ F H a cf => hN ρ2 σ F H h a cf
  | ct ρ2 => exact fun σ F H a cf => hN ρ2 σ F H h a cf
  | bk ρ2 => exact h
  | rt r ρ => exact h
  | exc c d ρ => exact h
  | stuck => exact h
theorem ps_forF {iter tgE : Expr} {body : List Stmt} {tg : Tg} {src : Env → Res (List D)} {mb : Env → SRes} (hp : PassesOwn (model X.prog X.w) X.A X.env X.xe) (hc : X.calm = true) (hK : X.K = T.K) (hi : PI X tgE iter (tIt T W src)) (hg : PG X tgE (tg.rd X.K))
    (hin : TgIn X.N.length tg) (hw : ∀ i ∈ tg.slots, i ∈ wr) (hb : PSs X body (tS T W wr mb)) (hs : Ex.isSet iter = false) :
    PS X (.For tgE iter body [] pos) (tS T W wr fun ρ => (src ρ).thn fun ds ρ => forF tg mb ds ρ) := by
  refine (ps_for hp hc hi hg hb (fold_plain hs)).impL fun D σ H hl q => ?_
  obtain ⟨F, M, ρ, cf, q⟩ := q
  refine ⟨F, M, ρ, cf, q.thn.imp fun ds ρ1 q1 J S F1 H1 itk cf1 => ?_⟩
  refine ⟨fun i m σ' H => m = ds.length - i ∧ i ≤ ds.length ∧ Ag wr σ σ' ∧ ∃ F ρ, Cf T F H (S ++ M) ρ σ' ∧ SOut T W wr (S ++ M) (forF tg mb (ds.drop i) ρ) D σ, ⟨_, rfl, Nat.zero_le _, .refl, F1, ρ1, cf1, q1.wkL⟩, ?_⟩
  rintro i m σ' H ⟨rfl, hi, ag, F, ρ, cf, q⟩
  by_cases hlt : i < ds.length
  · right
    rw [List.drop_eq_getElem_cons hlt] at q
    obtain ⟨go, y⟩ := itk.go cf (List.getElem?_eq_getElem hlt)
    refine ⟨go, fun σ' H' => Ag wr σ σ' ∧ ∃ F ρ, Cf T F H' (S ++ M) ρ σ' ∧ SOut T W wr (S ++ M) (forF tg mb (ds.drop (i + 1)) ρ) D σ, fun σ' H' p => ⟨ds.length - (i + 1), by omega, rfl, hlt, p⟩, fun x H' yx => ?_⟩
    obtain ⟨F', cf'⟩ := y x H' yx
    unfold forF at q
    cases es : setTg tg ds[i] ρ with
    | none => rw [es] at q; exact q.elim
    | some ρa =>
      rw [es] at q
      refine tg_ok hK hin (ag.1.trans hl) cf' es fun σ2 cfa l2 o2 => ?_
      refine ⟨F', S ++ M, ρa, cfa, ?_⟩
      have a2 : Ag wr σ σ2 := ag.trans (.of l2 o2 hw)
      exact (SOut.lp q fun ρ σ3 F3 H3 h a3 cf3 => ⟨a3, F3, ρ, cf3, h⟩).ag a2
  · left
    have ei : i = ds.length := by omega
    subst ei
    rw [List.drop_length] at q
    exact ⟨itk.stop cf (Nat.le_refl _), q σ' F H ag cf⟩
end
end Fx
end
section
set_option linter.all false
set_option Elab.async false
set_option maxRecDepth 100000
set_option maxHeartbeats 4000000
/-! Statements that change lists and instances. -/
namespace Fx
open PySem PySem.Spec L2
variable {T : Nm} {W : WX} {X : Cx} {σ : St} {M : Lv} {g : G} {Φ : Fn} {wr : List Nat}

section
variable {pos : Pos} {e o : Expr}
/-- the list that a slot owns -/
theorem Cf.lst {F H : Hp} {ρ : Env} {i : Nat} {ds : List D} (cf : Cf T F H M ρ σ) (e : ρ.at i = some (.lst ds)) : ∃ p xs, σ[i]? = some (some (.ref p)) ∧ H p = some (.lst xs) ∧ RpL T F xs ds ∧ Cf T F H ((.lst ds, .ref p) :: M) (ρ.set i none) σ := by
  obtain ⟨v, e1, cf1⟩ := cf.out (at_get e)
  obtain ⟨p, rfl⟩ := cf1.lstRef
  obtain ⟨xs, h1, h2⟩ := cf1.lstAt
  exact ⟨p, xs, e1, h1, h2, cf1⟩
theorem ps_appF {x : Str} {i : Nat} {p0 p1 p2 : Pos} {m : Env → Res D} (ho : PE X (.Name x p0) (tVar i)) (he : PE X e (tD T W m)) (h1 : Ex.star e = false) (hl : (p1.endLine == p2.line) = true) :
    PS X (.Expr (.Call (.Attribute (.Name x p0) "append" p1) [e] [] p2) pos) (tS T W wr fun ρ => match ρ.at i with
    | some (.lst _) => (m ρ).thn fun d ρ => (match ρ.at i with
      | some (.lst ds) => if ds.length < LINE then .nx (ρ.set i (some (.lst (ds ++ [d])))) else .stuck
      | _ => .stuck)
    | _ => .stuck) := by
  refine (ps_expr (pe_bm (X := X) PySem.F.plainAttrs_list PySem.F.slot_list_append PySem.F.type_list_append mt_append ho (pa_cons he pa_nil (star_cons [] _ h1)) (att_plain rfl) (by rw [star_cons [] _ h1]; rfl) hl (star_cons [] _ h1) rfl) (swaps_plain rfl)).imp fun D σ H q => ?_
  obtain ⟨F, M, ρ, cf, q⟩ := q
  dsimp only at q
  cases z : ρ.at i with
  | none => rw [z] at q; exact q.elim
  | some r =>
    cases r with
    | lst ds0 =>
      rw [z] at q
      obtain ⟨p, xs, e1, e2, e3, _⟩ := cf.lst z
      refine ⟨_, e1, .inl ⟨rfl, xs, .inl (.inl e2)⟩, F, M, ρ, cf, (SOut.thn q).imp fun d ρ1 k v F1 H1 cf1 => ?_⟩
      cases z1 : ρ1.at i with
      | none => rw [z1] at k; exact k.elim
      | some r1 =>
        cases r1 with
        | lst ds =>
          rw [z1] at k
          dsimp only at k
          split at k
          · rename_i hlt
            have rv := cf1.rp
            obtain ⟨p', xs', f1, f2, f3, cf2⟩ := cf1.tail.lst z1
            rw [e1] at f1; cases f1
            refine ⟨p, xs', v, rfl, rfl, f2, by rw [f3.len, ← line_eq]; exact hlt, ?_⟩
            exact k _ F1 _ .refl ((cf2.put (f3.app (.cons rv .nil))).back e1)
          · exact k.elim
        | _ => rw [z1] at k; exact k.elim
    | _ => rw [z] at q; exact q.elim
theorem RpL.ins {F : Hp} {v : V} {d : D} {xs : List V} {ds : List D} (n : Nat) (r : Rp T F v d) (h : RpL T F xs ds) : RpL T F (xs.take n ++ [v] ++ xs.drop n) (ds.take n ++ d :: ds.drop n) := by
  rw [List.append_assoc]
  exact (h.take n).app (.cons r (h.drop n))
theorem ps_insrF {x : Str} {i : Nat} {ek : Expr} {p0 p1 p2 : Pos} {mk m : Env → Res D} (ho : PE X (.Name x p0) (tVar i)) (hk : PE X ek (tD T W mk)) (he : PE X e (tD T W m)) (h1 : Ex.star ek = false) (h2 : Ex.star e = false) (hl : (p1.endLine == p2.line) = true) :
    PS X (.Expr (.Call (.Attribute (.Name x p0) "insert" p1) [ek, e] [] p2) pos) (tS T W wr fun ρ => match ρ.at i with
    | some (.lst _) => (mk ρ).thn fun k ρ => (m ρ).thn fun d ρ => (match ρ.at i, k with
      | some (.lst ds), .int k => if ds.length < LINE ∧ 0 ≤ k ∧ k < 9223372036854775808 then .nx (ρ.set i (some (.lst (ds.take k.toNat ++ d :: ds.drop k.toNat)))) else .stuck
      | _, _ => .stuck)
    | _ => .stuck) := by
  refine (ps_expr (pe_bm (X := X) PySem.F.plainAttrs_list PySem.F.slot_list_insert PySem.F.type_list_insert mt_insert ho (pa_cons hk (pa_cons he pa_nil (star_cons [] _ h2)) (star_cons [e] _ h1)) (att_plain rfl) (by rw [star_cons [e] _ h1, star_cons [] _ h2]; rfl) hl (star_cons [e] _ h1) (by rw [star_cons [] _ h2]; rfl)) (swaps_plain rfl)).imp fun D σ H q => ?_
  obtain ⟨F, M, ρ, cf, q⟩ := q
  dsimp only at q
  cases z : ρ.at i with
  | none => rw [z] at q; exact q.elim
  | some r =>
    cases r with
    | lst ds0 =>
      rw [z] at q
      obtain ⟨p, xs, e1, e2, e3, _⟩ := cf.lst z
      refine ⟨_, e1, .inl ⟨rfl, xs, .inl (.inl e2)⟩, F, M, ρ, cf, (SOut.thn q).imp fun kd ρ1 k v F1 H1 cf1 => ?_⟩
      refine ⟨F1, _, ρ1, cf1, (SOut.thn (SOut.wkL (P := [(.val kd, v)]) k)).imp fun d ρ2 k v2 F2 H2 cf2 => ?_⟩
      cases z1 : ρ2.at i with
      | none => rw [z1] at k; exact k.elim
      | some r1 =>
        cases r1 with
        | lst ds =>
          cases kd with
          | int kn =>
            rw [z1] at k
            dsimp only at k
            split at k
            · rename_i hlt
              have rv := cf2.rp
              have rk := cf2.tail.rp
              cases rk
              obtain ⟨p', xs', f1, f2, f3, cf3⟩ := cf2.tail.tail.lst z1
              rw [e1] at f1; cases f1
              refine ⟨p, xs', kn, v2, rfl, rfl, f2, by rw [f3.len, ← line_eq]; exact hlt.1, hlt.2.1, by have := hlt.2.2; omega, ?_⟩
              have cf4 := ((cf3.put (f3.ins kn.toNat rv)).back e1).val (d := .int kn) (v := .int kn) (.int kn)
              exact k _ F2 _ .refl cf4
            · exact k.elim
          | _ => rw [z1] at k; exact k.elim
        | _ => rw [z1] at k; exact k.elim
    | _ => rw [z] at q; exact q.elim
theorem ps_setiF {x : Str} {i : Nat} {p0 p1 : Pos} {ek : Expr} {mk m : Env → Res D} (ho : PE X (.Name x p0) (tVar i)) (hk : PE X ek (tD T W mk)) (he : PE X e (tD T W m)) (hc : Ex.compr e = false) (hsl : Ex.isSlice ek = false) :
    PS X (.Assign [.Subscript (.Name x p0) ek p1] e pos) (tS T W wr fun ρ => (m ρ).thn fun d ρ => match ρ.at i with
    | some (.lst _) => (mk ρ).thn fun k ρ => (match ρ.at i, k with
      | some (.lst ds), .int k => (match ixN ds.length k with
        | some j => .nx (ρ.set i (some (.lst (ds.set j d))))
        | none => .stuck)
      | _, _ => .stuck)
    | _ => .stuck) := by
  have ha : ∀ v, assign (.Subscript (.Name x p0) ek p1) X.env v = (do
      let ov ← holding [v] (eval (.Name x p0) X.env)
      let iv ← holding [v, ov] (eval ek X.env)
      standAt p1
      holding [v, ov, iv] (setItem ov iv v)
      release [v, ov, iv] []) := by
    intro v
    cases ek <;> first | rfl | cases hsl
  refine (ps_asg he (pg_sub ho hk set_list ha) (by unfold swapsWithSole; exact swaps_plain hc) rfl rfl).imp fun D σ H q => ?_
  obtain ⟨F, M, ρ, cf, q⟩ := q
  refine ⟨F, M, ρ, cf, (SOut.thn q).imp fun d ρ1 k v F1 H1 cf1 => ?_⟩
  cases z : ρ1.at i with
  | none => rw [z] at k; exact k.elim
  | some r =>
    cases r with
    | lst ds0 =>
      rw [z] at k
      obtain ⟨p, xs, e1, e2, e3, _⟩ := cf1.lst z
      refine ⟨_, e1, F1, _, ρ1, cf1, (SOut.thn (SOut.wkL (P := [(.val d, v)]) k)).imp fun kd ρ2 k v2 F2 H2 cf2 => ?_⟩
      cases z1 : ρ2.at i with
      | none => rw [z1] at k; exact k.elim
      | some r1 =>
        cases r1 with
        | lst ds =>
          cases kd with
          | int kn =>
            rw [z1] at k
            dsimp only at k
            cases hj : ixN ds.length kn with
            | none => rw [hj] at k; exact k.elim
            | some j =>
              rw [hj] at k
              have rk := cf2.rp
              cases rk
              have rv := cf2.tail.rp
              obtain ⟨p', xs', f1, f2, f3, cf3⟩ := cf2.tail.tail.lst z1
              rw [e1] at f1; cases f1
              refine ⟨p, xs', kn, j, rfl, rfl, f2, by rw [f3.len]; exact hj, ?_⟩
              exact k _ F2 _ .refl (((cf3.put (RpL.set rv j f3)).back e1).val rv)
          | _ => rw [z1] at k; exact k.elim
        | _ => rw [z1] at k; exact k.elim
    | _ => rw [z] at k; exact k.elim

/-! ### a new field -/
theorem putF_zip (f : Str) (v : V) : ∀ (L : List Str) (xs : List V), L.Nodup → L[xs.length]? = some f → putF f v (L.zip xs) = L.zip (xs ++ [v])
  | [], xs, _, e => by simp at e
  | g :: L, [], nd, e => by
    simp at e; subst e; simp [putF]
  | g :: L, x :: xs, nd, e => by
    simp only [List.nodup_cons] at nd
    have e' : L[xs.length]? = some f := by simpa using e
    have ne : g ≠ f := fun z => nd.1 (z ▸ List.mem_of_getElem? e')
    show (if g = f then _ else _) = _
    rw [if_neg ne]
    show (g, x) :: putF f v (L.zip xs) = (g, x) :: L.zip (xs ++ [v])
    rw [putF_zip f v L xs nd.2 e']
theorem RRL.appV {F H : Hp} {v : V} {d : D} (r : Rp T F v d) : ∀ {rs : List R} {vs : List V} {fp : List Addr}, RRL T F H rs vs fp → RRL T F H (rs ++ [.val d]) (vs ++ [v]) fp
  | [], _, _, h => by cases h; exact .cons (.val r) .nil
  | _ :: _, _, _, h => by cases h with | cons h1 h2 => exact .cons h1 (h2.appV r)
theorem Cf.objAt {F H : Hp} {ρ : Env} {v : V} {c : Nat} {rs : List R} (h : Cf T F H ((.obj c rs, v) :: M) ρ σ) : ∃ p dx xs, v = .ref p ∧ H p = some (.ins (T.cls c) dx (T.zip c xs)) ∧ rs.length = xs.length ∧ xs.length ≤ (T.flds c).length := by
  obtain ⟨L, sl, s, fp, h1, nd, av⟩ := h
  cases h1 with | cons h2 h3 => cases h2 with | obj h4 hl h5 => exact ⟨_, _, _, rfl, h4, h5.len, hl⟩
theorem Cf.putObj {F H : Hp} {ρ : Env} {p dx : Addr} {c : Nat} {rs : List R} {xs : List V} {d : D} {w : V} (h : Cf T F H ((.obj c rs, .ref p) :: M) ρ σ) (hp : H p = some (.ins (T.cls c) dx (T.zip c xs))) (hx : rs.length = xs.length)
    (hlt : rs.length < (T.flds c).length) (r : Rp T F w d) : Cf T F (upd H p (.ins (T.cls c) dx (T.zip c (xs ++ [w])))) ((.obj c (rs ++ [.val d]), .ref p) :: M) ρ σ := by
  obtain ⟨L, sl, s, fp, h1, nd, av⟩ := h
  refine ⟨L, sl, ?_⟩
  cases h1 with | cons h2 h3 =>
    cases h2 with | @obj a dx' c' xs' rs' fp' h4 hl h5 =>
      have e := hp.symm.trans h4
      have e1 : dx = dx' ∧ T.zip c xs = T.zip c xs' := by
        have := Option.some.inj e
        injection this with e1 e2 e3
        exact ⟨e2, e3⟩
      have e2 : xs = xs' := by
        have l := h5.len
        have e3 : ((T.flds c).map T.fname).zip xs = ((T.flds c).map T.fname).zip xs' := e1.2
        have key : ∀ (L : List Str) (a b : List V), a.length = b.length → a.length ≤ L.length → L.zip a = L.zip b → a = b := by
          intro L
          induction L with
          | nil => intro a b h1 h2 _; cases a with
            | nil => cases b with
              | nil => rfl
              | cons _ _ => simp at h1
            | cons _ _ => simp at h2
          | cons x L ih =>
            intro a b h1 h2 h3
            cases a with
            | nil => cases b with
              | nil => rfl
              | cons _ _ => simp at h1
            | cons y a => cases b with
              | nil => simp at h1
              | cons z b =>
                simp only [List.zip_cons_cons, List.cons.injEq, Prod.mk.injEq, true_and] at h3
                rw [h3.1, ih a b (by simpa using h1) (by simpa using h2) h3.2]
        exact key _ _ _ (by rw [← hx, l]) (by rw [List.length_map, ← hx]; omega) e3
      obtain ⟨rfl, _⟩ := e1
      subst e2
      have nF := av p (by simp)
      have nd' := List.nodup_cons.mp (show (p :: (fp' ++ _)).Nodup from nd)
      refine ⟨fun b o e => by rw [upd_ne (ne_of_none e nF)]; exact s _ _ e, (p :: fp') ++ _, .cons (.obj (dx := dx) upd_same (by rw [List.length_append, ← hx]; exact hlt) ?_) (h3.keep (Same.refl _) fun a ha => upd_ne fun z => nd'.1 (z ▸ List.mem_append_right _ ha)), nd, av⟩
      exact RRL.appV r (RRL.keep (Same.refl _) _ _ _ (fun a ha => upd_ne fun z => nd'.1 (z ▸ List.mem_append_left _ ha)) h5)
theorem ps_fldF {nc : Nat} {x n : Str} {i f : Nat} {p0 p1 : Pos} {m : Env → Res D} (hK : X.K = T.K) (A : ClsAll T X.K nc) (hnc : g.nc = nc) (hfl : g.flds = T.flds) (hn : n = T.fname f) (ho : PE X (.Name x p0) (tVar i)) (he : PE X e (tD T W m)) (hc : Ex.compr e = false) :
    PS X (.Assign [.Attribute (.Name x p0) n p1] e pos) (tS T W wr fun ρ => (m ρ).thn fun d ρ => match ρ.at i with
    | some (.obj c rs) => if c < g.nc ∧ (g.flds c).idxOf f = rs.length ∧ rs.length < (g.flds c).length then .nx (ρ.set i (some (.obj c (rs ++ [.val d])))) else .stuck
    | _ => .stuck) := by
  subst hn
  refine (ps_fld ho he (swaps_plain hc)).imp fun D σ H q => ?_
  obtain ⟨F, M, ρ, cf, q⟩ := q
  refine ⟨F, M, ρ, cf, (SOut.thn q).imp fun d ρ1 k v F1 H1 cf1 => ?_⟩
  cases z : ρ1.at i with
  | none => rw [z] at k; exact k.elim
  | some r =>
    cases r with
    | obj c rs =>
      rw [z] at k
      dsimp only at k
      split at k
      · rename_i hh
        obtain ⟨h1, h2, h3⟩ := hh
        rw [hfl] at h2 h3
        rw [hnc] at h1
        have kn := A.of c h1
        have rv := cf1.rp
        obtain ⟨w, e1, cf2⟩ := cf1.tail.out (at_get z)
        obtain ⟨p, dx, xs, rfl, hp, hx, hl⟩ := cf2.objAt
        have hf : f ∈ T.flds c := idx_mem (by rw [h2]; exact h3)
        have hget : ((T.flds c).map T.fname)[xs.length]? = some (T.fname f) := by
          rw [List.getElem?_map, ← hx, ← h2, List.getElem?_eq_getElem (by rw [h2]; exact h3), List.getElem_idxOf]
          rfl
        refine ⟨_, e1, p, T.cls c, dx, _, rfl, hp, kn.cl, kn.na f hf, ?_, ?_⟩
        · have := kn.ln
          unfold Nm.zip
          rw [List.length_zip]
          omega
        · have ep : putF (T.fname f) v (T.zip c xs) = T.zip c (xs ++ [v]) := putF_zip _ _ _ _ kn.nd hget
          rw [ep]
          exact k _ F1 _ .refl ((cf2.putObj hp hx h3 rv).back e1)
      · exact k.elim
    | _ => rw [z] at k; exact k.elim
end
end Fx
end
section
set_option linter.all false
set_option Elab.async false
set_option maxRecDepth 100000
set_option maxHeartbeats 4000000
/-! Exceptions: raise, try with several clauses, each with or without a name. -/
namespace Fx
open PySem PySem.Spec L2 PyProof.Rows
abbrev Clz := List (Value × Option Nat × (Addr → Value → Option Addr → TS))
/-- what is wanted behind a suite whose clause binds slot i -/
def Ends.un (D : Ends) : Option Nat → Ends
  | none => D
  | some i => { nx := fun σ H => D.nx (σ.set i none) H, rt := D.rt, bk := fun σ H => D.bk (σ.set i none) H, ct := fun σ H => D.ct (σ.set i none) H }
def bindX (σ : L2.St) (a : Addr) : Option Nat → L2.St
  | none => σ
  | some i => σ.set i (some (.ref a))
/-- the clauses' wish, one after the other -/
def wCl (K : PySem.W.Frag) (Wout : WX) (D : Ends) : Clz → WX
  | [] => Wout
  | (c, oi, ts) :: r => fun cls d σ H => ∃ b, PySem.W.exmOne K cls c = some b ∧ (b = true → ∀ a, H a = none → ts a cls d (Ends.un D oi) (bindX σ a oi) H) ∧ (b = false → wCl K Wout D r cls d σ H)
inductive ClOk (X : Cx) : List ExceptHandler → Clz → Prop
  | nil : ClOk X [] []
  | bare {x : Str} {c : Value} {ts : Addr → Value → Option Addr → TS} {b₀ : Stmt} {suite : List Stmt} {np pos' : Pos} {hds : List ExceptHandler} {l : Clz} (hc : Names X x c)
      (hsu : ∀ (a : Addr) (oe : Obj) (cls : Value) (d : Option Addr) (pn : List (Addr × Obj)), Zc cls d oe → (∃ vs, oe.data = .fields vs) → PSs (X.suite a ((a, oe) :: pn)) (b₀ :: suite) (ts a cls d)) (r : ClOk X hds l) :
      ClOk X (.ExceptHandler (some (.Name x np)) none (b₀ :: suite) pos' :: hds) ((c, none, ts) :: l)
  | named {x n : Str} {i : Nat} {c : Value} {ts : Addr → Value → Option Addr → TS} {b₀ : Stmt} {suite : List Stmt} {np pos' : Pos} {hds : List ExceptHandler} {l : Clz} (hi : X.N[i]? = some n) (hln : X.env.kindOf n = some .local) (hc : Names X x c)
      (hsu : ∀ (a : Addr) (oe : Obj) (cls : Value) (d : Option Addr) (pn : List (Addr × Obj)), Zc cls d oe → (∃ vs, oe.data = .fields vs) → PSs (X.suite a ((a, oe) :: pn)) (b₀ :: suite) (ts a cls d)) (r : ClOk X hds l) :
      ClOk X (.ExceptHandler (some (.Name x np)) (some n) (b₀ :: suite) pos' :: hds) ((c, some i, ts) :: l)
section
variable {X : Cx} {body : List Stmt} {h₀ : ExceptHandler} {hds : List ExceptHandler} {l : Clz} {pos : Pos} {tb : WX → TS} {Wout : WX}
/-- the clauses are gone through -/
theorem clauses_ok {pins : List (Addr × Obj)} {s' sI : Shared} {h3 B : Heap} {a : Addr} {cls : Value} {d : Option Addr} {σ' : L2.St} {H' : Hp} {D : Ends} (ok : X.Ok) (hs : X.stack = X.env :: X.outer) (hf : X.env.frame = some X.env.locals) (hN : X.N.Nodup) (tk : Takes X Wout)
    (J : Inv X pins σ' H' sI) (nb : ∀ b o, sI.heap.get? b = some o → b ∉ frs X.stack → B.get? b = some o) (up : sI.heap.UpToSlots s'.heap) (na : H' a = none) (os : s'.os = sI.os) (ag : AllBare s'.gens)
    (fl3 : HandSPX.FlyingZ B (X.env :: X.outer) a (Zc cls d) h3) (up3 : s'.heap.UpToSlots h3) : ∀ {hds : List ExceptHandler} {l : Clz}, ClOk X hds l → wCl X.K Wout D l cls d σ' H' →
      wpAny (model X.prog X.w) X.A (handleBy (.ref a) X.env hds) (SP X pins D) X.xe { s' with heap := h3 } := by
  have J3 : Inv X pins σ' H' { s' with heap := h3 } := J.landed nb fl3.1 (up.trans up3) os ag
  obtain ⟨oe3, vs3, he3, hz3, hd3⟩ := fl3.there
  have nfr : a ∉ frs (X.env :: X.outer) := fun hm => by
    obtain ⟨_, o', e', hnf⟩ := fl3.2.2.1.mem hm
    rw [he3] at e'; cases e'
    exact hnf _ hd3
  have nL : a ≠ X.env.locals := fun z => nfr (List.mem_filterMap.mpr ⟨X.env, List.mem_cons_self, by rw [hf, z]⟩)
  have nF : a ∉ X.fs := fun hm => by
    obtain ⟨e, he, q⟩ := List.mem_filterMap.mp hm
    exact nfr (List.mem_filterMap.mpr ⟨e, List.mem_cons_of_mem _ he, q⟩)
  have S3 := J3.suite he3 hd3 na nL nF
  have LT : PySem.W.Looks (model X.prog X.w) h3 (typeOf (.ref a)) cls := fun A Q E s k q => wpAny_typeOf_ref (k _ _ he3) (by rw [hz3.1]; exact q)
  have test : ∀ {x : Str} {c : Value} {np : Pos} {Q : Value → Shared → Prop} {E : Value → Shared → Prop}, Names X x c → Q c { s' with heap := h3 } → wpAny (model X.prog X.w) (X.A.mark (some (.ref a))) (eval (.Name x np) X.env) Q E { s' with heap := h3 } := fun {x c np Q E} hc q => by
    obtain ⟨hg, hdbg, hm | ⟨hm, hv, hnn⟩⟩ := hc
    · exact ld_glob (X := X.suite a ((a, oe3) :: (X.pn ++ pins))) S3 hg hm q hdbg
    · exact ld_blt (X := X.suite a ((a, oe3) :: (X.pn ++ pins))) S3 hg hm hv q hnn hdbg
  intro hds l hk
  induction hk with
  | nil =>
    intro w
    refine wpAny_handleBy_nil ?_
    obtain ⟨k1, k2, k3, oe, vs, T, oT, ts', he, hz, hd, h1, hr⟩ := id fl3
    unfold PySem.passOn
    refine wpAny_bind (wpAny_field he hd h1 ?_)
    rw [if_neg (show ¬ ((Value.ref T == Value.none) = true) from by simp)]
    have fin : wpAny (model X.prog X.w) X.A (setFlight (.ref a) X.env.frame) (fun _ s4 => wpAny (model X.prog X.w) X.A (throw (.ref a) : Sem Flow) (SP X pins D) X.xe s4) X.xe { s' with heap := h3 } := by
      rw [hf]
      refine HandSPX.setFlight_upZ fl3 fun h4 hh4 up4 => wpAny_throw (tk _ _ ?_)
      exact ⟨a, B, sI, pins, σ', H', cls, d, rfl, J, nb, (up.trans up3).trans up4, .inr (.inr (by rw [hs]; exact hh4)), na, os, ag, w⟩
    first
      | exact wpAny_bind (wpAny_pure (wpAny_bind fin))
      | exact wpAny_bind fin
  | @bare x c ts b₀ suite np pos' hds2 l2 hc hsu r ih =>
    intro w
    obtain ⟨b, hb1, hyes, hno⟩ := w
    refine wpAny_handleBy_cons (codeAny_handlers_test ?_) (by intro q; cases q)
    refine test hc ((PySem.W.exm_one (M := model X.prog X.w) (J3.kIn) LT hb1).here ?_)
    cases b with
    | false => exact ih (hno rfl)
    | true =>
      refine codeAny_handlers_suite (HandSPX.lands_againZ fl3 fun h4 fl4 up4 => ?_)
      have J4 : Inv X pins σ' H' { s' with heap := h4 } := J.landed nb fl4.1 ((up.trans up3).trans up4) os ag
      obtain ⟨oe4, vs4, he4, hz4, hd4⟩ := fl4.there
      refine wpAny_mono ((hsu a oe4 cls d (X.pn ++ pins) hz4 ⟨_, hd4⟩).run [] _ _ H' _ (J4.suite he4 hd4 na nL nF) (hyes rfl a na)) (fun f s6 hsp => ?_) (fun _ _ z => False.elim z)
      cases f <;> first
        | (obtain ⟨σ6, H6, S6, q6⟩ := hsp; exact ⟨_, _, S6.unsuite ok, q6⟩)
        | (obtain ⟨v6, σ6, H6, S6, r6, q6⟩ := hsp; exact ⟨_, _, _, S6.unsuite ok, r6, q6⟩)
  | @named x n i c ts b₀ suite np pos' hds2 l2 hi hln hc hsu r ih =>
    intro w
    obtain ⟨b, hb1, hyes, hno⟩ := w
    refine wpAny_handleBy_cons (codeAny_handlers_test ?_) (by intro q; cases q)
    refine test hc ((PySem.W.exm_one (M := model X.prog X.w) (J3.kIn) LT hb1).here ?_)
    cases b with
    | false => exact ih (hno rfl)
    | true =>
      refine codeAny_handlers_suite_as (HandSPX.lands_againZ fl3 fun h4 fl4 up4 => ?_)
      have J4 : Inv X pins σ' H' { s' with heap := h4 } := J.landed nb fl4.1 ((up.trans up3).trans up4) os ag
      obtain ⟨oe4, vs4, he4, hz4, hd4⟩ := fl4.there
      refine store_ok (X := X.suite a ((a, oe4) :: (X.pn ++ pins))) (v := .ref a) (J4.suite he4 hd4 na nL nF) hN hi (.inl hln) rfl (fun s5 S5 => ?_) (.inr hln)
      refine wpAny_mono ((hsu a oe4 cls d (X.pn ++ pins) hz4 ⟨_, hd4⟩).run [] s5 _ H' _ S5 (hyes rfl a na)) (fun f s6 hsp => ?_) (fun _ _ z => False.elim z)
      have end_ : ∀ {σ6 : L2.St} {H6 : Hp} {Q : Shared → Prop}, Inv (X.suite a ((a, oe4) :: (X.pn ++ pins))) [] σ6 H6 s6 → (∀ s7, Inv X pins (σ6.set i none) H6 s7 → Q s7) →
          wpAny (model X.prog X.w) X.A (do bindName X.env n .none; unbindBehindTheSuite X.env n pos') (fun _ s7 => Q s7) X.xe s6 := fun {σ6 H6 Q} S6 hq => gone_ok (S6.unsuite ok) hN hi hln hq
      cases f <;> first
        | (obtain ⟨σ6, H6, S6, q6⟩ := hsp; exact end_ S6 fun s7 J7 => ⟨_, _, J7, q6⟩)
        | (obtain ⟨v6, σ6, H6, S6, r6, q6⟩ := hsp; exact end_ S6 fun s7 J7 => ⟨_, _, _, J7, r6, q6⟩)
theorem ps_try_cl (hs : X.stack = X.env :: X.outer) (hf : X.env.frame = some X.env.locals) (hN : X.N.Nodup) (tk : Takes X Wout)
    (hb : ∀ (W : WX) (pn : List (Addr × Obj)) (xe : Value → Shared → Prop), Takes (X.tr pn xe) W → PassesOwn (model X.prog X.w) X.A X.env xe → PSs (X.tr pn xe) body (tb W))
    (hh : ClOk X (h₀ :: hds) l) : PS X (.Try body (h₀ :: hds) [] [] pos) (fun D σ H => tb (wCl X.K Wout D l) D σ H) := by
  refine ⟨fun pins s σ H D I h => ?_⟩
  have ok := I.ok
  have hfr : X.A.frames = some (X.env :: X.outer) := by rw [ok.frames, hs]
  refine wpAny_Try_except ?_
  refine wpAny_mono ((hb (wCl X.K Wout D l) (X.pn ++ pins) (fun e s₁ => wpAny (model X.prog X.w) X.A (noteFrame e X.env) (fun _ s₂ => wpAny (model X.prog X.w) X.A (setFlight e none) (fun _ s₃ =>
    wpAny (model X.prog X.w) X.A (handleBy e X.env (h₀ :: hds)) (SP X pins D) X.xe s₃) X.xe s₂) X.xe s₁) (fun u s' xx => ?_) PassesOwn.looking).run [] s σ H D (I.toTry _) h) (fun f s1 hsp => ?_) (fun e s1 he => he)
  · obtain ⟨a, B, sI, pins', σ', H', cls, d, rfl, J', nb, up, sky, na, os, ag, w⟩ := xx
    have sky' : Sky B (X.env :: X.outer) a (Zc cls d) X.env.locals s'.heap := by rw [← hs]; exact sky
    exact Sky.land Zc.steady hfr hf sky' fun h3 fl3 up3 => clauses_ok ok hs hf hN tk (J'.ofTry ok) nb up na os ag fl3 up3 hh w
  · cases f with
    | next => obtain ⟨σ', H', J', q⟩ := hsp; exact wpAny_execs_nil ⟨σ', H', J'.ofTry ok, q⟩
    | brk => obtain ⟨σ', H', J', q⟩ := hsp; exact ⟨σ', H', J'.ofTry ok, q⟩
    | cont => obtain ⟨σ', H', J', q⟩ := hsp; exact ⟨σ', H', J'.ofTry ok, q⟩
    | ret u => obtain ⟨v, σ', H', J', r, q⟩ := hsp; exact ⟨v, σ', H', J'.ofTry ok, r, q⟩
end
end Fx
end
section
set_option linter.all false
set_option Elab.async false
set_option maxRecDepth 100000
set_option maxHeartbeats 4000000
/-! raise and try, as the language has them. -/
namespace Fx
open PySem PySem.Spec L2
variable {T : Nm} {W : WX} {X : Cx} {σ : St} {M : Lv} {g : G} {Φ : Fn} {wr : List Nat}

/-- what an error's own __init__ keeps: self.f = value -/
def spI (K : PySem.W.Frag) (f : Str) : Sp := fun vs H Q E => ∃ (a C : Addr) (y : V), vs = [.ref a, y] ∧ OexC K C ∧ PySem.W.findIn K (.ref C) f = some none ∧ H a = some (exo a C none) ∧
  ∀ dx, H dx = none → dx ≠ a → Q .non (upd (upd H dx (exd dx [(f, y)])) a (exo a C (some dx)))
structure XCls (T : Nm) (K : PySem.W.Frag) (c : Nat) : Prop where
  oc : OexC K (T.xcls c)
  xf : XfC K (T.xcls c)
  no : PySem.W.findIn K (.ref (T.xcls c)) (T.xfld c) = some none
structure XMk (T : Nm) (X : Cx) (c : Nat) : Prop where
  cl : XCls T X.K c
  ok : ∃ k fI fd ps, PySem.W.findIn X.K (.ref (T.xcls c)) "__init__" = some (some (.ref fI)) ∧ PySem.W.typeIn X.K (.ref fI) = some (.type "function") ∧
    FnOk X.prog X.w X.K X.mg X.base (L2.CX X.prog X.w) k fI fd ps (spI X.K (T.xfld c)) ∧ Room (k + 1) X.A ∧ Binds X.K fd ps []
theorem passes_false : Passes (L2.CX X.prog X.w) X (fun _ _ _ => False) := fun pins σ H s e s' I h => by
  obtain ⟨_, _, _, _, _, _, _, _, _, _, _, _, q⟩ := h
  exact q.elim
theorem ps_raiF {c : Nat} {x : Str} {e : Expr} {p pos pos2 : Pos} {m : Env → Res D} (hc : X.calm = true) (tk : Takes X W) (kn : XMk T X c) (hg : Gl X x) (hm : X.mg x = some (.ref (T.xcls c))) (he : PE X e (tD T W m)) (h1 : Ex.star e = false) (hdb : (x == ("__debug__" : Str)) = false) :
    PS X (.Raise (some (.Call (.Name x p) [e] [] pos)) none pos2) (tS T W wr fun ρ => (m ρ).thn fun d ρ => .exc c d ρ) := by
  obtain ⟨k, fI, fd, ps, iC, tI, F1, hr, hb⟩ := kn.ok
  refine (ps_raise hc tk (pmk_oex (ds := []) (dvs := []) kn.cl.oc iC tI F1 hr hb .nil passes_false hg hm (pa_cons he pa_nil (star_cons [] _ h1)) hdb (star_cons [] _ h1) rfl)).imp fun D σ H q => ?_
  obtain ⟨F, M, ρ, cf, q⟩ := q
  refine ⟨F, M, ρ, cf, (SOut.thn q).imp fun d ρ1 k v F1 H1 cf1 => ⟨by simp, fun a na => ?_⟩⟩
  refine ⟨a, T.xcls c, v, rfl, kn.cl.oc, kn.cl.no, upd_same, fun dx nd ne => ⟨rfl, dx, _, upd_same, (upd_ne ne).trans upd_same, ?_, ?_⟩⟩
  · rw [← nd, upd_ne ne]
  · have nd1 : H1 dx = none := by rw [← nd, upd_ne ne]
    have rv := cf1.rp
    refine k σ .refl v dx F1 _ (cf1.tail.grow fun b o e => ?_) upd_same rv
    have n1 : b ≠ a := ne_of_none e na
    have n2 : b ≠ dx := ne_of_none e nd1
    rw [upd_ne n2, del_ne n1, upd_ne n1, upd_ne n2, upd_ne n1]
    exact e
/-! ### except suites -/
section
variable {a : Addr} {oe : Obj} {cls : Value} {dd : Option Addr} {pn : List (Addr × Obj)}
/-- the error's field, read in the suite -/
def tXA (T : Nm) (nx : Nat) (a : Addr) (cls : Value) (dd : Option Addr) (i : Nat) (n : Str) : TE := fun σ H Q => ∃ c v da, c < nx ∧ T.xfld c = n ∧ cls = .ref (T.xcls c) ∧ dd = some da ∧ H da = some (.xd [(n, v)]) ∧ σ[i]? = some (some (.ref a)) ∧ Q v H
theorem pe_xA {nx i : Nat} {x n : Str} {p pos : Pos} (XA : ∀ c, c < nx → XCls T X.K c) (hz : Zc cls dd oe) (hf : ∃ vs, oe.data = .fields vs) (hv : PE (X.suite a ((a, oe) :: pn)) (.Name x p) (tVar i)) :
    PE (X.suite a ((a, oe) :: pn)) (.Attribute (.Name x p) n pos) (tXA T nx a cls dd i n) := by
  refine ⟨fun pins s σ H Q I h => ?_⟩
  obtain ⟨c, v, da, hc, rfl, rfl, rfl, hda, hi, q⟩ := h
  exact (pe_xf (XA c hc).xf (XA c hc).no hz hf hv (att_plain rfl)).run pins s σ H Q I ⟨_, hi, rfl, rfl, da, _, v, rfl, hda, by simp [List.lookup], q⟩
/-- a suite's reading: the error's class and its one field are known -/
def tH (T : Nm) (g : G) (a : Addr) (cls : Value) (dd : Option Addr) (o : Option Nat) (h : HE) : TS := fun D σ H => ∃ c d v da r F L, c < g.nx ∧ cls = .ref (T.xcls c) ∧ dd = some da ∧ H da = some (.xd [(T.xfld c, v)]) ∧ (∀ i, o = some i → σ[i]? = some (some (.ref a))) ∧ h.ev g c d = some r ∧
  Reps T F H ((.val d, v) :: L) ∧ ∀ w F' H', Reps T F' H' ((.val r, w) :: L) → D.rt w H'
theorem pss_hC {e : Expr} {pos : Pos} {v : V} {x : D} {o : Option Nat} (he : PE (X.suite a ((a, oe) :: pn)) e (tC v)) (r : ∀ F, Rp T F v x) : PSs (X.suite a ((a, oe) :: pn)) [.Return (some e) pos] (tH T g a cls dd o (.cst x)) := by
  refine (pss_one (ps_ret he)).imp fun D σ H q => ?_
  obtain ⟨c, d, w, da, r', F, L, _, _, _, _, _, e, rp, k⟩ := q
  cases e
  exact k v F H (rp.tail.val (r F))
theorem pss_hF {nx i : Nat} {x n : Str} {p pos pos2 : Pos} (hnx : g.nx = nx) (hxf : g.xf = T.xfld) (XA : ∀ c, c < nx → XCls T X.K c) (hz : Zc cls dd oe) (hf : ∃ vs, oe.data = .fields vs) (hv : PE (X.suite a ((a, oe) :: pn)) (.Name x p) (tVar i)) :
    PSs (X.suite a ((a, oe) :: pn)) [.Return (some (.Attribute (.Name x p) n pos)) pos2] (tH T g a cls dd (some i) (.fld n)) := by
  refine (pss_one (ps_ret (pe_xA (nx := nx) XA hz hf hv))).imp fun D σ H q => ?_
  obtain ⟨c, d, w, da, r', F, L, h1, h2, h3, h4, h5, e, rp, k⟩ := q
  have e : (if g.xf c = n then some d else none) = some r' := e
  split at e
  · rename_i hn
    cases e
    rw [hxf] at hn
    subst hn
    exact ⟨c, w, da, by rw [← hnx]; exact h1, rfl, h2, h3, h4, h5 i rfl, k w F H rp⟩
  · cases e
theorem pss_hP {nx i k1 : Nat} {x n : Str} {p pos pos2 pos3 : Pos} {ec : Expr} {v0 : V} {x0 : D} (hnx : g.nx = nx) (hxf : g.xf = T.xfld) (XA : ∀ c, c < nx → XCls T X.K c) (hz : Zc cls dd oe) (hf : ∃ vs, oe.data = .fields vs) (hv : PE (X.suite a ((a, oe) :: pn)) (.Name x p) (tVar i))
    (he : PE (X.suite a ((a, oe) :: pn)) ec (tC v0)) (r0 : ∀ F, Rp T F v0 x0) (hst : Ex.star ec = false) :
    PSs (X.suite a ((a, oe) :: pn)) [.Return (some (.Tuple [ec, .Attribute (.Name x p) n pos] k1 pos3)) pos2] (tH T g a cls dd (some i) (.pair x0 n)) := by
  refine (pss_one (ps_ret (pe_tup (pa_cons he (pa_cons (pe_xA (nx := nx) (n := n) (pos := pos) XA hz hf hv) pa_nil (star_cons [] _ rfl)) (star_cons [_] _ hst))))).imp fun D σ H q => ?_
  obtain ⟨c, d, w, da, r', F, L, h1, h2, h3, h4, h5, e, rp, k⟩ := q
  have e : (if g.xf c = n then some (Fx.D.tup [x0, d]) else none) = some r' := e
  split at e
  · rename_i hn
    cases e
    rw [hxf] at hn
    subst hn
    refine ⟨c, w, da, by rw [← hnx]; exact h1, rfl, h2, h3, h4, h5 i rfl, (by rw [← line_eq]; show 2 ≤ 16777216; omega), fun q nq => ?_⟩
    obtain ⟨rp2, s2⟩ := rp.newF (o := .tup [v0, w]) nq
    exact k _ _ _ (rp2.tail.val (.tup (.inl (.inl upd_same)) (.cons (r0 _) (.cons rp2.rp .nil))))
  · cases e
end
/-! ### try -/
theorem ps_tryF {body : List Stmt} {h₀ : ExceptHandler} {hds : List ExceptHandler} {hl : List Hd} {mb : Env → SRes} {pos : Pos} (hs : X.stack = X.env :: X.outer) (hf : X.env.frame = some X.env.locals) (hN : X.N.Nodup) (tk : Takes X W)
    (hb : ∀ (W : WX) (pn : List (Addr × Obj)) (xe : Value → Shared → Prop), Takes (X.tr pn xe) W → PassesOwn (model X.prog X.w) X.A X.env xe → PSs (X.tr pn xe) body (tS T W wr mb))
    (hh : ClOk X (h₀ :: hds) (hl.map fun h => (.ref (T.xcls h.c), h.slot, fun a cls dd => tH T g a cls dd h.slot h.ret)))
    (hx : ∀ h ∈ hl, ∀ c, c < g.nx → PySem.W.exmOne X.K (.ref (T.xcls c)) (.ref (T.xcls h.c)) = some (g.isa c h.c)) (hw : ∀ h ∈ hl, ∀ i, h.slot = some i → i ∈ wr) (hn : ∀ h ∈ hl, ∀ i, h.slot = some i → i < X.N.length) :
    PS X (.Try body (h₀ :: hds) [] [] pos) (tS T W wr fun ρ => match mb ρ with
      | .exc c d ρ' => evHs g hl c d ρ'
      | x => x) := by
  refine (ps_try_cl (tb := fun W => tS T W wr mb) hs hf hN tk hb hh).impL fun D σ H hlen q => ?_
  obtain ⟨F, M, ρ, cf, q⟩ := q
  refine ⟨F, M, ρ, cf, ?_⟩
  dsimp only at q
  cases z : mb ρ with
  | nx ρ1 => rw [z] at q; exact q
  | rt r ρ1 => rw [z] at q; exact q
  | bk ρ1 => rw [z] at q; exact q
  | ct ρ1 => rw [z] at q; exact q
  | stuck => rw [z] at q; exact q
  | exc c d ρ1 =>
    rw [z] at q
    have q : SOut T W wr M (evHs g hl c d ρ1) D σ := q
    intro σ1 ag v da F1 H1 cf1 hda rv
    clear hh
    show wCl X.K W D _ _ _ _ _
    induction hl with
    | nil => exact q σ1 ag v da F1 H1 cf1 hda rv
    | cons h hl ih =>
      unfold evHs at q
      by_cases hc : c < g.nx
      · rw [if_pos hc] at q
        refine ⟨g.isa c h.c, hx h (by simp) c hc, fun yes a na => ?_, fun no => ?_⟩
        · rw [if_pos yes] at q
          cases ev : h.ret.ev g c d with
          | none => rw [ev] at q; exact q.elim
          | some r =>
            rw [ev] at q
            obtain ⟨L, sl, rp⟩ := cf1
            refine ⟨c, d, v, da, r, F1, M ++ L, hc, rfl, rfl, hda, fun i e => ?_, ev, rp.val rv, fun w F' H' rp' => ?_⟩
            · rw [e]
              show (σ1.set i _)[i]? = _
              rw [List.getElem?_set_self (by rw [ag.1, hlen]; exact hn h (by simp) i e)]
            · have cf2 : Cf T F' H' ((.val r, w) :: M) ρ1 σ1 := ⟨L, sl, rp'⟩
              cases e : h.slot with
              | none =>
                rw [e] at q
                exact q σ1 w F' H' ag cf2
              | some i =>
                rw [e] at q
                exact q (σ1.set i none) w F' H' (ag.trans (.set (hw h (by simp) i e))) (cf2.forget none)
        · rw [if_neg (by rw [no]; exact Bool.false_ne_true)] at q
          exact ih (fun h' m => hx h' (List.mem_cons_of_mem _ m)) (fun h' m => hw h' (List.mem_cons_of_mem _ m)) (fun h' m => hn h' (List.mem_cons_of_mem _ m)) q q
      · rw [if_neg hc] at q; exact q.elim
end Fx
end
section
set_option linter.all false
set_option Elab.async false
set_option maxRecDepth 100000
set_option maxHeartbeats 4000000
/-! Chains, constants of the module, minus, [::-1], == of instances. -/
namespace HT
open PySem PySem.Spec PyProof.Rows
section
variable {prog : Program} {w : World} {A : Around} {E : Value → Shared → Prop} {s : Shared}
theorem fx_fmc {α β : Type} {f g : α → Option β} : ∀ {l : List α}, (∀ x ∈ l, f x = g x) → l.filterMap f = l.filterMap g
  | [], _ => rfl
  | x :: l, h => by
    simp only [List.filterMap_cons]
    rw [h x (by simp), fx_fmc fun y hy => h y (by simp [hy])]
theorem fx_adjust (n : Nat) : Builtin.Slice.sliceAdjust none none (-1) (n : Int) = ((n : Int) - 1, -1) := rfl
theorem fx_places (n : Nat) : Builtin.Slice.slicePlaces ((n : Int) - 1) (-1) (-1) = n := by
  unfold Builtin.Slice.slicePlaces
  rw [if_neg (by decide)]
  by_cases h : (n : Int) - 1 > -1
  · rw [if_pos h]
    have e : ((n : Int) - 1 - -1 - 1) / (- -1) + 1 = (n : Int) := by
      rw [show (- -1 : Int) = 1 by decide, Int.ediv_one]; omega
    rw [e]; simp
  · rw [if_neg h]; omega
theorem fx_pick (xs : Array Value) : ((List.range xs.size).filterMap fun (k : Nat) => xs[((xs.size : Int) - 1 + (k : Int) * (-1)).toNat]?).toArray = xs.toList.reverse.toArray := by
  have e : (fun (k : Nat) => xs[((xs.size : Int) - 1 + (k : Int) * (-1)).toNat]?) = fun (k : Nat) => xs[((xs.size : Int) - 1 - (k : Int)).toNat]? := by
    funext k
    rw [show (xs.size : Int) - 1 + (k : Int) * (-1) = (xs.size : Int) - 1 - (k : Int) by omega]
  rw [e]
  congr 1
  have h := PySem.W.krv_all xs
  have h2 : (List.range xs.size).filterMap (fun (k : Nat) => xs[((xs.size : Int) - 1 - (k : Int)).toNat]?) = ((List.range xs.size).map (fun k => xs.size - 1 - k)).filterMap (xs[·]?) := by
    rw [List.filterMap_map]
    refine fx_fmc fun k hk => ?_
    have := List.mem_range.mp hk
    show xs[_]? = xs[xs.size - 1 - k]?
    congr 1
    omega
  rw [h2, PySem.W.krv_range, List.filterMap_reverse, h]
theorem fx_getItem_rev {t sl : Addr} {items : Array Value} {vs : Value} {Q : Value → Shared → Prop} (ht : IsTup s.heap t items) (hs : s.heap.IsSliceOf sl .none .none vs) (ps : IsPart vs (some (-1)))
    (h : Q (.ref s.heap.objs.size) { s with heap := s.heap.push { cls := .type "tuple", data := .seq items.toList.reverse.toArray } }) (hsz : items.size ≤ sizeLine) : wpAny (model prog w) A (getItem (.ref t) (.ref sl)) Q E s := by
  have htake : sizeOk (.seq items.toList.reverse.toArray) := by
    show items.toList.reverse.toArray.size ≤ sizeLine
    rw [List.size_toArray, List.length_reverse, Array.length_toList]
    exact hsz
  obtain ⟨os, hos, hcs, hds⟩ := id hs
  have hTs : s.TypeIs (.ref sl) "slice" := ⟨os, hos, hcs⟩
  unfold getItem
  try with_reducible refine wpAny_holding ?_
  first | refine wpAny_bind (wpAny_pure ?_) | skip
  refine wpAny_bind (wpAny_sequenceKey ht.typeIs (by decide) ?_)
  refine wpAny_bind (wpAny_callSpecial?_slot (name := Str.ofString "__getitem__") ht.typeIs PyProof.Rows.slot_tuple_getitem
    (wpAny_call_entry PyProof.Rows.slot_tuple_getitem ht.typeIs entry_tuple_getitem ?_ (args_tuple_getitem _ _)))
  show wpAny _ _ (Builtin.Tuple.tupleItemsOf (.ref t) >>= _) _ _ s
  refine wpAny_bind (tupleItemsOf_ ht ?_)
  refine wpAny_bind (wpAny_typeOf hTs ?_)
  rw [if_pos (by decide)]
  have ap : ∀ {Q : Int × Int × Nat → Shared → Prop} {E : Value → Shared → Prop}, Q ((items.size : Int) - 1, -1, items.size) s → wpAny (model prog w) A.in1 (Builtin.Slice.sliceApplied (.ref sl) (pure (items.size : Int))) Q E s := by
    intro Q E h
    unfold Builtin.Slice.sliceApplied Builtin.Slice.sliceFields
    refine wpAny_bind (wpAny_bind (wpAny_field hos hds (x := .none) rfl (wpAny_bind (wpAny_field hos hds (x := .none) rfl (wpAny_bind (wpAny_field hos hds (x := vs) rfl (wpAny_pure ?_)))))))
    refine wpAny_bind (slicePart_ ps ?_)
    show wpAny _ _ (if ((-1 : Int) == 0) = true then _ else _) _ _ s
    rw [if_neg (by decide)]
    refine wpAny_bind (slicePart_none (wpAny_bind (slicePart_none (wpAny_bind (wpAny_pure ?_)))))
    show wpAny _ _ (pure ((items.size : Int) - 1, (-1 : Int), Builtin.Slice.slicePlaces ((items.size : Int) - 1) (-1) (-1))) _ _ s
    rw [fx_places]
    exact wpAny_pure h
  first
    | refine wpAny_bind (ap ?_)
    | exact ap ?_
  have hno : ¬ ((((items.size : Int) - 1) == 0 && (-1 : Int) == 1 && items.size == items.size) = true) := by
    intro q
    rw [Bool.and_eq_true, Bool.and_eq_true] at q
    exact absurd q.1.2 (by decide)
  show wpAny _ _ (if (((items.size : Int) - 1) == 0 && (-1 : Int) == 1 && items.size == items.size) = true then _ else _) _ _ s
  rw [if_neg hno, fx_pick]
  first
    | exact wpAny_bind (m := Builtin.Tuple.tupleExact _) (wpAny_newObj_type (wpAny_pure ⟨_, rfl, wpAny_pure h⟩) htake)
    | exact wpAny_bind (m := Builtin.Tuple.tupleExact _) (wpAny_newObj_type (wpAny_bind (wpAny_pure (wpAny_pure ⟨_, rfl, wpAny_pure h⟩))) htake)
    | exact wpAny_bind (wpAny_bind (m := Builtin.Tuple.tupleExact _) (wpAny_newObj_type (wpAny_pure (wpAny_pure ⟨_, rfl, wpAny_pure h⟩)) htake))
    | exact wpAny_bind (wpAny_bind (m := Builtin.Tuple.tupleExact _) (wpAny_newObj_type (wpAny_pure ⟨_, rfl, wpAny_pure h⟩) htake))
end
end HT

namespace Fx
open PySem PySem.Spec L2
variable {T : Nm} {W : WX} {X : Cx} {σ : St} {M : Lv} {g : G} {Φ : Fn}
/-! ### [::-1] -/
def tRevA (K : PySem.W.Frag) (te : TE) : TE := fun σ H Q => te σ H fun x H1 => ∃ a xs, x = .ref a ∧ ((SqL K H1 a xs ∧ ∀ p, H1 p = none → Q (.ref p) (upd H1 p (.lst xs.reverse))) ∨ (SqT K H1 a xs ∧ ∀ p, H1 p = none → Q (.ref p) (upd H1 p (.tup xs.reverse))))
theorem pe_revA {e : Expr} {te : TE} {k : Nat} {p1 p2 p3 pos : Pos} (he : PE X e te) : PE X (.Subscript e (.Slice none none (some (.UnaryOp .USub (.Constant (.int 1) k p1) p2)) p3) pos) (tRevA X.K te) := by
  refine ⟨fun pins s σ H Q I h => ?_⟩
  refine PyProof.Rows.Subscript_ (thn (he.run pins s σ H _ I h) fun v s1 ⟨x, H1, I1, r1, q1⟩ => ?_)
  obtain ⟨a, xs, ex, q⟩ := q1
  subst ex
  cases r1
  have hst : PO X (some (.UnaryOp .USub (.Constant (.int 1) k p1) p2)) (tPart (tUn (rU fun i => .int (-i)) (tC (.int 1)))) := po_some (pe_un un_neg pe_int)
  refine wpAny_Slice (thn (po_none.run pins s1 σ H1 (fun o H2 => o = none ∧ H2 = H1) I1 ⟨rfl, rfl⟩) fun vl s2 ⟨l, H2, I2, pl, el, e2⟩ => ?_)
  subst el e2
  refine thn (po_none.run pins s2 σ H2 (fun o H3 => o = none ∧ H3 = H2) I2 ⟨rfl, rfl⟩) fun vu s3 ⟨u, H3, I3, pu, eu, e3⟩ => ?_
  subst eu e3
  refine thn (hst.run pins s3 σ H3 (fun o H4 => o = some (-1) ∧ H4 = H3) I3 ⟨1, rfl, -1, rfl, rfl, rfl⟩) fun vs s4 ⟨o, H4, I4, ps, eo, e4⟩ => ?_
  subst eo e4
  have I5 : Inv X pins σ H4 { s4 with heap := s4.heap.push { cls := .type "slice", data := .fields #[vl, vu, vs] } } := I4.kept (t' := s4.toks) fun b ob q => Heap.get?_push_of_some _ q
  show wpAny (model X.prog X.w) X.A (PyProof.Rows.subscriptTail e (.Slice none none (some (.UnaryOp .USub (.Constant (.int 1) k p1) p2)) p3) (.ref a) (.ref s4.heap.objs.size)) (EP X pins σ Q) X.xe { s4 with heap := s4.heap.push { cls := .type "slice", data := .fields #[vl, vu, vs] } }
  rcases q with ⟨hx, q⟩ | ⟨hx, q⟩
  · obtain ⟨its, r, ht, hz⟩ := I5.list hx
    have hlen := r.length
    refine PyProof.Rows.tail_any (ops := [.ref a, .ref s4.heap.objs.size]) ht.isList.typeIs (PySem.slot_list_getitem.lookup) ?_ (by with_unfolding_all rfl)
    refine wpAny_getItem_list_slice ht.isList (Heap.IsSliceOf.new _ vl vu vs) pl pu ps (by decide) ?_ (by rw [List.size_toArray]; omega)
    rw [PySem.W.krv_pick]
    refine ⟨.ref _, _, I5.laid (t' := s4.toks) (o := .lst xs.reverse) (fun b ob q => Heap.get?_push_of_some _ q) (Nat.le_refl _) ?_, rfl, q _ (I5.hok.fresh (Nat.le_refl _))⟩
    exact ⟨by rw [List.length_reverse]; exact hz, _, 0, r.reverse, Heap.get?_push_size _ rfl⟩
  · obtain ⟨its, r, ht, hz⟩ := I5.tuple hx
    have hlen := r.length
    cases pl
    cases pu
    refine PyProof.Rows.tail_any (ops := [.ref a, .ref s4.heap.objs.size]) ht.typeIs (PyProof.Rows.slot_tuple_getitem.lookup) ?_ (by with_unfolding_all rfl)
    refine HT.fx_getItem_rev ht (Heap.IsSliceOf.new _ .none .none vs) ps ?_ (by rw [List.size_toArray]; omega)
    refine ⟨.ref _, _, I5.laid (t' := s4.toks) (o := .tup xs.reverse) (fun b ob q => Heap.get?_push_of_some _ q) (Nat.le_refl _) ?_, rfl, q _ (I5.hok.fresh (Nat.le_refl _))⟩
    exact ⟨by rw [List.length_reverse]; exact hz, _, r.reverse, ⟨_, Heap.get?_push_size _ rfl, rfl, _, rfl⟩⟩
theorem pe_revF {a : Expr} {k : Nat} {p1 p2 p3 pos : Pos} {ea : Env → Res Ar} (hK : X.K = T.K) (ha : PE X a (tAr T W ea)) :
    PE X (.Subscript a (.Slice none none (some (.UnaryOp .USub (.Constant (.int 1) k p1) p2)) p3) pos) (tM T W (one_ T.flds (fun x ρ => optR (revD x) ρ) ea)) := by
  refine (pe_revA ha).imp fun σ H Q h => ?_
  refine tAr_one (f := fun x ρ => optR (revD x) ρ) (K := fun M r ρ' => ∀ v F' H', Cf T F' H' ((r, v) :: M) ρ' σ → Q v H') h fun F M ρ H x dx cf rx q => ?_
  obtain ⟨r, e, k⟩ := tM_new cf q
  cases dx with
  | tup ds =>
    have rx' : Rp T F x (.tup ds) := rx
    cases rx' with
    | @tup a xs _ t rr =>
      cases e
      exact ⟨a, xs, rfl, .inr ⟨by rw [hK]; exact same_sqT cf.sub t, fun p np => k _ _ (.inr (.inl ⟨p, _, _, rfl, rfl, np, rfl, rr.rev⟩))⟩⟩
  | lst ds =>
    obtain ⟨a, xs, rfl, t, rr⟩ := rx
    cases e
    exact ⟨a, xs, rfl, .inl ⟨(by rw [hK]; exact t), fun p np => k _ _ ⟨p, _, rfl, np, rfl, rr.rev⟩⟩⟩
  | _ => cases e
/-! ### minus, constants of the module -/
theorem pe_negF {a : Expr} {pos : Pos} {m : Env → Res D} (ha : PE X a (tD T W m)) : PE X (.UnaryOp .USub a pos) (tM T W fun ρ => (m ρ).bind fun x ρ => match x with
    | .int i => .ok (.val (.int (-i))) ρ
    | _ => .stuck) := by
  refine (pe_un un_neg ha).imp fun σ H Q h => ?_
  obtain ⟨F, M, ρ, cf, q⟩ := h
  refine ⟨F, M, ρ, cf, (Out.bind q).imp fun d ρ1 k v F1 H1 cf1 => ?_⟩
  cases d with
  | int i =>
    have r := cf1.rp
    cases r
    exact ⟨i, rfl, k _ F1 H1 (cf1.tail.val (.int _))⟩
  | _ => exact k.elim
theorem pe_globF {x : Str} {v : V} {u : Value} {d : D} {gi : Nat} {p : Pos} (hg : Gl X x) (hm : X.mg x = some u) (r : RelV v u) (hd : (x == ("__debug__" : Str)) = false) (hr : ∀ F, Rp T F v d) (e : g.gl gi = some d) :
    PE X (.Name x p) (tM T W fun ρ => optR ((g.gl gi).map .val) ρ) := by
  rw [e]
  exact pe_cst (pe_glob hg hm r hd) hr
/-! ### a < b < c -/
theorem pe_cmp2F {a b c : Expr} {o1 o2 : CmpOp} {pos : Pos} {ma mb mc : Env → Res D} (hK : X.K = T.K) (hu : X.A.units + 64 < cLine) (ha : PE X a (tD T W ma)) (hb : PE X b (tD T W mb)) (hc : PE X c (tD T W mc)) (hm : lastMarks [o1, o2] [b, c] = false) :
    PE X (.Compare a [o1, o2] [b, c] pos) (tM T W fun ρ => (ma ρ).bind fun x ρ => (mb ρ).bind fun y ρ => match cmpD o1 x y with
      | some true => (mc ρ).bind fun z ρ => optR ((cmpD o2 y z).map fun k => .val (.bl k)) ρ
      | some false => .ok (.val (.bl false)) ρ
      | none => .stuck) := by
  refine (pe_chain (op_cmpF hK hu o1) (op_cmpF hK hu o2) ha hb hc hm).imp fun σ H Q h => ?_
  obtain ⟨F, M, ρ, cf, q⟩ := h
  refine ⟨F, M, ρ, cf, (Out.bind q).imp fun x ρ1 q1 vx F1 H1 cf1 => ?_⟩
  refine ⟨F1, _, ρ1, cf1, (Out.wk (Out.bind q1)).imp fun y ρ2 q2 vy F2 H2 cf2 => ?_⟩
  have ry := cf2.rp.rt cf2.sub
  have rx := cf2.tail.rp.rt cf2.sub
  cases e : cmpD o1 x y with
  | none => rw [e] at q2; exact q2.elim
  | some b =>
    rw [e] at q2
    refine ⟨F2, x, y, b, cf2.sub, rx, ry, e, b, rfl, ?_⟩
    cases b with
    | true =>
      rw [if_pos rfl]
      refine ⟨F2, _, ρ2, cf2, (Out.wkL (P := [(.val y, vy), (.val x, vx)]) (Out.bind q2)).imp fun z ρ3 q3 vz F3 H3 cf3 => ?_⟩
      obtain ⟨r, e3, k3⟩ := q3.opt
      obtain ⟨b2, e4, e5⟩ := Option.map_eq_some_iff.mp e3
      subst e5
      exact ⟨F3, y, z, b2, cf3.sub, cf3.tail.rp.rt cf3.sub, cf3.rp.rt cf3.sub, e4, k3 _ F3 H3 (cf3.tail.tail.tail.val (.bl b2))⟩
    | false =>
      rw [if_neg Bool.false_ne_true]
      exact q2 _ F2 H2 (cf2.tail.tail.val (.bl false))
theorem pt_cmp2F {a b c : Expr} {o1 o2 : CmpOp} {pos : Pos} {ma mb mc : Env → Res D} (hK : X.K = T.K) (hu : X.A.units + 64 < cLine) (ha : PE X a (tD T W ma)) (hb : PE X b (tD T W mb)) (hc : PE X c (tD T W mc)) (hm : lastMarks [o1, o2] [b, c] = false) :
    PT X (.Compare a [o1, o2] [b, c] pos) (tT T W fun ρ => (ma ρ).bind fun x ρ => (mb ρ).bind fun y ρ => match cmpD o1 x y with
      | some true => (mc ρ).bind fun z ρ => optR (cmpD o2 y z) ρ
      | some false => .ok false ρ
      | none => .stuck) := by
  refine (pt_chain (op_cmpF hK hu o1) (op_cmpF hK hu o2) ha hb hc hm).imp fun σ H Q h => ?_
  obtain ⟨F, M, ρ, cf, q⟩ := h
  show tChain _ _ _ _ _ σ H _
  refine ⟨F, M, ρ, cf, (Out.bind q).imp fun x ρ1 q1 vx F1 H1 cf1 => ?_⟩
  refine ⟨F1, _, ρ1, cf1, (Out.wk (Out.bind q1)).imp fun y ρ2 q2 vy F2 H2 cf2 => ?_⟩
  have ry := cf2.rp.rt cf2.sub
  have rx := cf2.tail.rp.rt cf2.sub
  cases e : cmpD o1 x y with
  | none => rw [e] at q2; exact q2.elim
  | some b =>
    rw [e] at q2
    refine ⟨F2, x, y, b, cf2.sub, rx, ry, e, b, rfl, ?_⟩
    cases b with
    | true =>
      rw [if_pos rfl]
      refine ⟨F2, _, ρ2, cf2, (Out.wkL (P := [(.val y, vy), (.val x, vx)]) (Out.bind q2)).imp fun z ρ3 q3 vz F3 H3 cf3 => ?_⟩
      obtain ⟨b2, e4, k3⟩ := q3.opt
      exact ⟨F3, y, z, b2, cf3.sub, cf3.tail.rp.rt cf3.sub, cf3.rp.rt cf3.sub, e4, b2, rfl, k3 F3 H3 cf3.tail.tail.tail⟩
    | false =>
      rw [if_neg Bool.false_ne_true]
      exact ⟨false, rfl, q2 F2 H2 cf2.tail.tail⟩
end Fx
end
section
set_option linter.all false
set_option Elab.async false
set_option maxRecDepth 100000
set_option maxHeartbeats 4000000
/-! == of instances with an own ==. -/
namespace Fx
open PySem PySem.Spec L2
variable {T : Nm} {W : WX} {X : Cx} {σ : St} {M : Lv} {g : G} {Φ : Fn}
structure EqKn (T : Nm) (Φ : Fn) (g : G) (X : Cx) (c : Nat) : Prop where
  ok : ∃ k fa fd ps, PySem.W.findIn X.K (.ref (T.cls c)) "__eq__" = some (some (.ref fa)) ∧ PySem.W.isFn X.K (.ref fa) = true ∧ FnOk X.prog X.w X.K X.mg X.base (L2.CX X.prog X.w) k fa fd ps (spF T Φ (g.eqf c) 2) ∧ Room k X.A ∧ Binds X.K fd ps []
  nf1 : ∀ n ∈ tyNames, PySem.W.notFirst X.K (T.cls c) (.type n) = true
  nf2 : ∀ c', c' < g.nc → PySem.W.notFirst X.K (T.cls c) (.ref (T.cls c')) = true
theorem EqKn.nf {c : Nat} (h : EqKn T Φ g X c) {y : D} (e : y.tyOk g.nc = true) : PySem.W.notFirst X.K (T.cls c) (y.ty T) = true := by
  cases y with
  | rng _ _ => cases e
  | ins c' _ => exact h.nf2 c' (by simpa [D.tyOk] using e)
  | _ => exact h.nf1 _ (by simp [tyNames])
def rEqo (T : Nm) (g : G) (Φ : Fn) : R2 := fun x y H Q => ∃ F L dx dy b, Reps T F H ((.val dx, x) :: (.val dy, y) :: L) ∧ (∀ ρ, eqoR g Φ dx dy ρ = .ok (.val (.bl b)) ρ) ∧ ∀ F' H', Reps T F' H' L → Q (.bl b) H'
theorem op_eqo (hK : X.K = T.K) (hu : X.A.units + 64 < cLine) (A : ClsAll T X.K g.nc) (kn : ∀ c, c < g.nc → g.eqk c = true → EqKn T Φ g X c) : OpR X (compareOp .Eq) (rEqo T g Φ) := by
  intro pins s σ H x y v u Q I rx ry h
  obtain ⟨F, L, dx, dy, b, rp, e, k⟩ := h
  have ax := rp.rp
  have ay := rp.tail.rp
  have plain : ∀ (b : Bool), eqD dx dy = some b → (∀ F' H', Reps T F' H' L → Q (.bl b) H') → wpAny (model X.prog X.w) X.A (compareOp .Eq v u) (EP X pins σ Q) X.xe s := fun b e k =>
    op_eqF hK hu pins s σ H x y v u Q I rx ry ⟨F, dx, dy, b, rp.sub, ax.rt rp.sub, ay.rt rp.sub, e, k F H rp.tail.tail⟩
  have plain2 : (∀ ρ : Env, optR ((eqD dx dy).map fun b => R.val (.bl b)) ρ = .ok (.val (.bl b)) ρ) → wpAny (model X.prog X.w) X.A (compareOp .Eq v u) (EP X pins σ Q) X.xe s := fun e => by
    have e := e []
    cases z : eqD dx dy with
    | none => rw [z] at e; cases e
    | some b' => rw [z] at e; cases e; exact plain b z k
  cases dx with
  | ins c ds =>
    have e := e []
    have e : (if g.eqk c = true ∧ c < g.nc ∧ dy.tyOk g.nc = true then (match Φ (g.eqf c) [.val (.ins c ds), .val dy] with
      | .ok (.val (.bl b)) _ => Res.ok (R.val (.bl b)) []
      | _ => .stuck) else .stuck) = .ok (.val (.bl b)) [] := e
    split at e
    · rename_i hh
      obtain ⟨h1, h2, h3⟩ := hh
      have K := kn c h2 h1
      obtain ⟨kk, fa, fd, ps, hs, hf, Fo, hr, hb⟩ := K.ok
      cases ax with
      | @ins a ddx _ xs _ ha hl rr =>
        have ha' := rp.sub _ _ ha
        cases (show v = Value.ref a from rx)
        obtain ⟨mA, J, _⟩ := ins_get I.hok ha'
        obtain ⟨od, J, _⟩ := J.look
        obtain ⟨m, hF⟩ := I.fr
        obtain ⟨P, KX, hP, _⟩ := kit_of I ry (Rt.ty hK A rp.sub (ay.rt rp.sub) h3)
        show wpAny (model X.prog X.w) X.A (richCompare .Eq (.ref a) u) (EP X pins σ Q) X.xe s
        refine PySem.W.cmp_K (op := .Eq) (tb := dy.ty T) (by omega) hF I.ok.mod.kin J (KX.ty _ _ I.kIn hP) (K.nf h3) hs hf ?_
        have sp : spF T Φ (g.eqf c) 2 [.ref a, y] H (fun w H' => w = .bl b ∧ Q w H') (fun _ _ _ => False) := by
          refine ⟨rfl, F, L, [.val (.ins c ds), .val dy], rfl, rp, ?_⟩
          split at e
          · rename_i b' outs z
            cases e
            rw [z]
            intro w F' H' rp'
            have rw' := rp'.rp
            cases rw'
            exact ⟨rfl, k F' H' (Reps.drop (M := lives outs [V.ref a, y]) rp'.tail)⟩
          · cases e
        refine wpAny_mono (run_fn (us := [.ref a, u]) (vs := [.ref a, y]) (dvs := []) Fo hr hb .nil passes_false I (.cons rfl (.cons ry .nil)) sp) (fun w s' z => ?_) fun _ _ x => x
        obtain ⟨z', H', I', rz, rfl, qz⟩ := z
        cases rz
        exact (⟨V.bl _, H', I', rfl, qz⟩ : EP X pins σ Q (Value.bool _) s')
    · cases e
  | _ => exact plain2 e
theorem eqo_imp {ma mb : Env → Res D} {H : Hp} {α : Type} {f : R → Env → Res α} {K : Lv → α → Env → Prop} {Q : VK} 
    (h : ∃ F M ρ, Cf T F H M ρ σ ∧ Out T W σ M ((ma ρ).bind fun x ρ => (mb ρ).bind fun y ρ => (eqoR g Φ x y ρ).bind f) (K M))
    (k : ∀ F M ρ H b, Cf T F H M ρ σ → Out T W σ M (f (.val (.bl b)) ρ) (K M) → Q (.bl b) H) : tD T W ma σ H fun x H1 => tD T W mb σ H1 fun y H2 => rEqo T g Φ x y H2 Q := by
  obtain ⟨F, M, ρ, cf, q⟩ := h
  refine ⟨F, M, ρ, cf, (Out.bind q).imp fun x ρ1 q1 vx F1 H1 cf1 => ?_⟩
  refine ⟨F1, _, ρ1, cf1, (Out.wk (Out.bind q1)).imp fun y ρ2 q2 vy F2 H2 cf2 => ?_⟩
  obtain ⟨L, sl, rp⟩ := cf2.swap
  have key : ∃ b, (∀ ρ, eqoR g Φ x y ρ = .ok (.val (.bl b)) ρ) ∧ Out T W σ M (f (.val (.bl b)) ρ2) (K M) := by
    have opt : ∀ {o : Option Bool}, Out T W σ M ((optR (o.map fun b => R.val (.bl b)) ρ2).bind f) (K M) → ∃ b, (∀ ρ, optR (o.map fun b => R.val (.bl b)) ρ = .ok (.val (.bl b)) ρ) ∧ Out T W σ M (f (.val (.bl b)) ρ2) (K M) := fun {o} q => by
      cases o with
      | none => exact q.elim
      | some b => exact ⟨b, fun _ => rfl, q⟩
    cases x with
    | ins c ds =>
      have q2 : Out T W σ M ((if g.eqk c = true ∧ c < g.nc ∧ y.tyOk g.nc = true then (match Φ (g.eqf c) [.val (.ins c ds), .val y] with
        | .ok (.val (.bl b)) _ => Res.ok (R.val (.bl b)) ρ2
        | _ => .stuck) else .stuck).bind f) (K M) := q2
      by_cases hc : g.eqk c = true ∧ c < g.nc ∧ y.tyOk g.nc = true
      · rw [if_pos hc] at q2
        split at q2
        · rename_i b outs z
          refine ⟨b, fun ρ => ?_, q2⟩
          show (if g.eqk c = true ∧ c < g.nc ∧ y.tyOk g.nc = true then _ else _) = _
          rw [if_pos hc, z]
        · exact q2.elim
      · rw [if_neg hc] at q2; exact q2.elim
    | non => exact opt (o := eqD .non y) q2
    | bl b => exact opt (o := eqD (.bl b) y) q2
    | int b => exact opt (o := eqD (.int b) y) q2
    | str b => exact opt (o := eqD (.str b) y) q2
    | tup b => exact opt (o := eqD (.tup b) y) q2
    | lst b => exact opt (o := eqD (.lst b) y) q2
    | rng b c => exact opt (o := eqD (.rng b c) y) q2
  obtain ⟨b, e, q3⟩ := key
  exact ⟨F2, M ++ L, x, y, b, rp, e, fun F' H' rp' => k F' M ρ2 H' b ⟨L, sl, rp'⟩ q3⟩
theorem res_bind_ok {α : Type} (x : Res α) : (x.bind fun a ρ => Res.ok a ρ) = x := by cases x <;> rfl
theorem pe_eqoF {a b : Expr} {pos : Pos} {ma mb : Env → Res D} (hK : X.K = T.K) (hu : X.A.units + 64 < cLine) (A : ClsAll T X.K g.nc) (kn : ∀ c, c < g.nc → g.eqk c = true → EqKn T Φ g X c) (ha : PE X a (tD T W ma)) (hb : PE X b (tD T W mb)) (hm : behindInMarks .Eq b = false) :
    PE X (.Compare a [.Eq] [b] pos) (tM T W fun ρ => (ma ρ).bind fun x ρ => (mb ρ).bind fun y ρ => eqoR g Φ x y ρ) := by
  refine (pe_cmpR (op_eqo hK hu A kn) ha hb hm).imp fun σ H Q h => ?_
  refine eqo_imp (f := fun r ρ => .ok r ρ) (K := fun M r ρ' => ∀ v F' H', Cf T F' H' ((r, v) :: M) ρ' σ → Q v H') ?_ fun F M ρ H b cf q => q _ F H (cf.val (.bl b))
  obtain ⟨F, M, ρ, cf, q⟩ := h
  exact ⟨F, M, ρ, cf, by simpa only [res_bind_ok] using q⟩
theorem pt_eqoF {a b : Expr} {pos : Pos} {ma mb : Env → Res D} (hK : X.K = T.K) (hu : X.A.units + 64 < cLine) (A : ClsAll T X.K g.nc) (kn : ∀ c, c < g.nc → g.eqk c = true → EqKn T Φ g X c) (ha : PE X a (tD T W ma)) (hb : PE X b (tD T W mb)) (hm : behindInMarks .Eq b = false) :
    PT X (.Compare a [.Eq] [b] pos) (tT T W fun ρ => (ma ρ).bind fun x ρ => (mb ρ).bind fun y ρ => (eqoR g Φ x y ρ).bind fun r ρ => optR ((fullD T.flds r).bind truD) ρ) := by
  refine (pt_cmpR (op_eqo hK hu A kn) ha hb hm).imp fun σ H Q h => ?_
  refine eqo_imp (f := fun r ρ => optR ((fullD T.flds r).bind truD) ρ) (K := fun M b ρ' => ∀ F' H', Cf T F' H' M ρ' σ → Q b H') h fun F M ρ H b cf q => ?_
  exact ⟨b, rfl, q F H cf⟩
end Fx
end
section
set_option linter.all false
set_option Elab.async false
set_option maxRecDepth 100000
set_option maxHeartbeats 4000000
/-! The text of an expression is one of the language: the check. -/
namespace Fx
open PySem PySem.Spec L2
/-- the names -/
structure Tb where
  N : List Str
  fns : List (Str × Nat)
  cls : List (Str × Nat)
  xcs : List Str
  nx : Nat
  gls : List Str
  fnm : List Str
def visB (sc : Scope) (x : Str) : Bool := match sc.names.lookup x with
  | some .local => true
  | some .cell => true
  | some .free => true
  | _ => false
def glB (sc : Scope) (x : Str) : Bool := match sc.names.lookup x with
  | some .globalImplicit => true
  | _ => false
def dbgB (x : Str) : Bool := !(x == ("__debug__" : Str)) && !(x == ("__classdict__" : Str))
section
variable (tb : Tb)
def okV (sc : Scope) (i : Nat) (x : Str) : Bool := decide (tb.N[i]? = some x) && (visB sc x && dbgB x)
def okC : D → Expr → Bool
  | .int i, .Constant (.int j) _ _ => decide (i = j)
  | .str x, .Constant (.str y) _ _ => decide (x = y)
  | .bl b, .Constant (.bool c) _ _ => decide (b = c)
  | .non, .Constant .none _ _ => true
  | _, _ => false
def okIs (sc : Scope) : IsT → Expr → Bool
  | .int, .Name x _ => decide (x = "int") && glB sc x
  | .bool, .Name x _ => decide (x = "bool") && glB sc x
  | .tuple, .Name x _ => decide (x = "tuple") && glB sc x
  | .list, .Name x _ => decide (x = "list") && glB sc x
  | .str, .Name x _ => decide (x = "str") && glB sc x
  | .cls c, .Name x _ => decide ((tb.cls[c]?).map (·.1) = some x) && (glB sc x && dbgB x)
  | .listTuple, .Tuple [.Name x _, .Name y _] _ _ => decide (x = "list") && decide (y = "tuple") && (glB sc x && glB sc y)
  | _, _ => false
/-- a target's text; own: storable -/
def stB (sc : Scope) (x : Str) : Bool := match sc.names.lookup x with
  | some .local => true
  | some .cell => true
  | _ => false
def okTN (sc : Scope) : List Nat → List Expr → Bool
  | [], [] => true
  | i :: is, .Name x _ :: es => decide (tb.N[i]? = some x) && stB sc x && okTN sc is es
  | _, _ => false
def okTg (sc : Scope) : Tg → Expr → Bool
  | .one i, .Name x _ => decide (tb.N[i]? = some x) && stB sc x
  | .many is, .Tuple es _ _ => okTN tb sc is es
  | _, _ => false
def ownP (own : List Nat) : List (Str × Nat) := own.map fun i => ((tb.N[i]?).getD "", i)
def noStar (es : List Expr) : Bool := es.all fun e => !Ex.star e
mutual
/-- t: as a test -/
def okE (t : Bool) (sc : Scope) : IE → Expr → Bool
  | .var i, .Name x _ => okV tb sc i x
  | .cst d, e => okC d e
  | .glob gi, .Name x _ => decide (tb.gls[gi]? = some x) && (glB sc x && dbgB x)
  | .tup es, .Tuple l _ _ => noStar l && okEs false sc es l
  | .lst es, .List l _ => noStar l && okEs false sc es l
  | .bin op a b, .BinOp x o y _ => decide (op = o) && (okE false sc a x && okE false sc b y)
  | .neg a, .UnaryOp .USub x _ => !t && okE false sc a x
  | .bop isAnd es, .BoolOp o l _ => decide (o = if isAnd = true then .And else .Or) && (decide (2 ≤ l.length) && okEs t sc es l)
  | .nt a, .UnaryOp .Not x _ => okE t sc a x
  | .cmp op a b, .Compare x [o] [y] _ => decide (op = o) && (!behindInMarks o y && (okE false sc a x && okE false sc b y))
  | .eqo a b, .Compare x [.Eq] [y] _ => !behindInMarks .Eq y && (okE false sc a x && okE false sc b y)
  | .cmp2 o1 o2 a b c, .Compare x [p1, p2] [y, z] _ => decide (o1 = p1) && (decide (o2 = p2) && (!lastMarks [p1, p2] [y, z] && (okE false sc a x && (okE false sc b y && okE false sc c z))))
  | .ife c a b, .IfExp c' a' b' _ => !t && (okE true sc c c' && (okE false sc a a' && okE false sc b b'))
  | .idx a b, .Subscript x y _ => ixP y && (okE false sc a x && okE false sc b y)
  | .slc a lo hi, .Subscript x (.Slice l h none _) _ => okE false sc a x && (okO sc lo l && okO sc hi h)
  | .rev a, .Subscript x (.Slice none none (some (.UnaryOp .USub (.Constant (.int 1) _ _) _)) _) _ => okE false sc a x
  | .attr a f, .Attribute x n _ => decide (tb.fnm[f]? = some n) && (!Ex.isCall x && okE false sc a x)
  | .call f es, .Call (.Name x _) l [] _ => decide (tb.fns[f]? = some (x, l.length)) && (!l.isEmpty && (noStar l && (glB sc x && (dbgB x && okEs false sc es l))))
  | .make c es, .Call (.Name x _) l [] _ => decide (tb.cls[c]? = some (x, l.length)) && (!l.isEmpty && (noStar l && (glB sc x && (dbgB x && okEs false sc es l))))
  | .cb b es, .Call (.Name x _) l [] _ => decide (x = b.name) && (!l.isEmpty && (noStar l && (glB sc x && okEs false sc es l)))
  | .isi a t, .Call (.Name x _) [y, z] [] _ => decide (x = "isinstance") && (glB sc x && (!Ex.star y && (!Ex.star z && (okE false sc a y && okIs tb sc t z))))
  | .comp elt own tg src c, .ListComp e [⟨tgE, iter, ifs, 0⟩] scope _ => blkC tb.N sc scope (ownP tb own) && (decide own.Nodup && (decide (∀ i ∈ own, i < tb.N.length) && (decide (∀ i ∈ tg.slots, i ∈ own) && (okTg tb scope tg tgE && (!Ex.isSet iter && (okI sc src iter && (okF (relS scope sc) c ifs && okE false (relS scope sc) elt e)))))))
  | .comp2 elt own own1 tg src tg1 src1 c, .ListComp e [⟨tgE, iter, [], 0⟩, ⟨tgE1, iter1, ifs1, 0⟩] scope _ => blkC tb.N sc scope (ownP tb own) && (decide own.Nodup && (decide own1.Nodup && (decide (∀ i ∈ own1, i ∈ own) && (decide (∀ i ∈ own, i < tb.N.length) && (decide (∀ i ∈ tg.slots, i ∈ own) && (decide (∀ i ∈ tg1.slots, i ∈ own1) &&
      (okTg tb scope tg tgE && (okTg tb scope tg1 tgE1 && (!Ex.isSet iter && (!Ex.isSet iter1 && (okI sc src iter && (okI (relS scope sc) src1 iter1 && (okF (relS scope sc) c ifs1 && okE false (relS scope sc) elt e)))))))))))))
  | _, _ => false
def okO (sc : Scope) : IO → Option Expr → Bool
  | .non, none => true
  | .som e, some x => okE false sc e x
  | _, _ => false
def okF (sc : Scope) : IO → List Expr → Bool
  | .non, [] => true
  | .som e, [x] => okE true sc e x
  | _, _ => false
def okEs (t : Bool) (sc : Scope) : IEs → List Expr → Bool
  | .nil, [] => true
  | .cons e es, x :: xs => okE t sc e x && okEs t sc es xs
  | _, _ => false
def okI (sc : Scope) : II → Expr → Bool
  | .seq e, x => okE false sc e x
  | _, _ => false
end
/-! ### statements -/
def slB (sc : Scope) (o : Option Nat) (y : Str) : Bool := match o with
  | some i => okV tb sc i y
  | none => false
def nmB (wr : List Nat) (sc : Scope) (o : Option Nat) (nm : Option Str) : Bool := match o, nm with
  | none, none => true
  | some i, some n => decide (tb.N[i]? = some n) && (decide (sc.names.lookup n = some .local) && decide (i ∈ wr))
  | _, _ => false
def okHE (sc : Scope) (o : Option Nat) : HE → Expr → Bool
  | .cst d, e => okC d e
  | .fld n, .Attribute (.Name y _) m _ => decide (n = m) && slB tb sc o y
  | .pair d n, .Tuple [ec, .Attribute (.Name y _) m _] _ _ => okC d ec && (decide (n = m) && slB tb sc o y)
  | _, _ => false
def okHd (wr : List Nat) (sc : Scope) (h : Hd) : ExceptHandler → Bool
  | .ExceptHandler (some (.Name x _)) nm [.Return (some e) _] _ => decide (tb.xcs[h.c]? = some x) && (glB sc x && (dbgB x && (okHE tb sc h.slot h.ret e && nmB tb wr sc h.slot nm)))
  | _ => false
def okHds (wr : List Nat) (sc : Scope) : List Hd → List ExceptHandler → Bool
  | [], [] => true
  | h :: hs, e :: es => okHd tb wr sc h e && okHds wr sc hs es
  | _, _ => false
def notTup : Expr → Bool
  | .Tuple .. => false
  | _ => true
def swB (sc : Scope) (x : Str) (p : Pos) : Expr → Bool
  | .ListComp _ _ scope pos => decide (sc.names.lookup x = some .local) && (p.line == pos.line && !(scope.names.any fun (n, k) => n == x && (k == .local || k == .cell)))
  | _ => false
def isLc : IE → Bool
  | .comp .. => true
  | .comp2 .. => true
  | _ => false
mutual
def okS (wr : List Nat) (sc : Scope) : IS → Stmt → Bool
  | .asg i e, .Assign [.Name x _] v _ => decide (tb.N[i]? = some x) && (decide (i ∈ wr) && (stB sc x && okE tb false sc e v))
  | .unp is e, .Assign [tgE] v _ => okTg tb sc (.many is) tgE && (decide (∀ i ∈ is, i ∈ wr) && (decide (∀ i ∈ is, i < tb.N.length) && (!Ex.compr v && (notTup v && okE tb false sc e v))))
  | .seti i k e, .Assign [.Subscript (.Name x _) ek _] v _ => okV tb sc i x && (!Ex.compr v && (!Ex.isSlice ek && (okE tb false sc k ek && okE tb false sc e v)))
  | .fld i f e, .Assign [.Attribute (.Name x _) n _] v _ => okV tb sc i x && (decide (tb.fnm[f]? = some n) && (!Ex.compr v && okE tb false sc e v))
  | .app i e, .Expr (.Call (.Attribute (.Name x _) m p1) [a] [] p2) _ => decide (m = "append") && (okV tb sc i x && (!Ex.star a && (p1.endLine == p2.line && okE tb false sc e a)))
  | .insr i k e, .Expr (.Call (.Attribute (.Name x _) m p1) [b, a] [] p2) _ => decide (m = "insert") && (okV tb sc i x && (!Ex.star b && (!Ex.star a && (p1.endLine == p2.line && (okE tb false sc k b && okE tb false sc e a)))))
  | .ex e, .Expr v _ => !Ex.compr v && okE tb false sc e v
  | .ifs c a b, .If c' a' b' _ => okE tb true sc c c' && (okSs wr sc a a' && okSs wr sc b b')
  | .for_ tg src body, .For tgE iter b [] _ => okI tb sc src iter && (okTg tb sc tg tgE && (decide (∀ i ∈ tg.slots, i < tb.N.length) && (decide (∀ i ∈ tg.slots, i ∈ wr) && (!Ex.isSet iter && okSs wr sc body b))))
  | .ret e, .Return (some v) _ => okE tb false sc e v
  | .retm i, .Return (some (.Name x _)) _ => okV tb sc i x
  | .rai c e, .Raise (some (.Call (.Name x _) [a] [] _)) none _ => decide (tb.xcs[c]? = some x) && (decide (c < tb.nx) && (glB sc x && (dbgB x && (!Ex.star a && okE tb false sc e a))))
  | .try_ body hs, .Try b (h :: hds) [] [] _ => okSs wr sc body b && okHds tb wr sc hs (h :: hds)
  | .brk, .Break _ => true
  | .cnt, .Continue _ => true
  | .pas, .Pass _ => true
  | _, _ => false
def okSs (wr : List Nat) (sc : Scope) : ISs → List Stmt → Bool
  | .nil, [] => true
  | .cons s ss, t :: ts => okS wr sc s t && okSs wr sc ss ts
  | _, _ => false
end
end
end Fx
end
section
set_option linter.all false
set_option Elab.async false
set_option maxRecDepth 100000
set_option maxHeartbeats 4000000
/-! The check of an expression is sound. -/
namespace Fx
open PySem PySem.Spec L2
variable {T : Nm} {W : WX} {X : Cx} {σ : St} {M : Lv} {g : G} {Φ : Fn} {tb : Tb} {sc : Scope}
/-- what a body must know of its module -/
structure Kn (T : Nm) (g : G) (Φ : Fn) (tb : Tb) (X : Cx) : Prop where
  hK : X.K = T.K
  hN : X.N = tb.N
  nd : X.N.Nodup
  hc : X.calm = true
  hu : X.A.units + 64 < cLine
  fl : g.flds = T.flds
  cl : ClsAll T X.K g.nc
  fd : ∀ f n, tb.fnm[f]? = some n → T.fname f = n
  fn : ∀ f x np, tb.fns[f]? = some (x, np) → ∃ fa, X.mg x = some (.ref fa) ∧ FnKn T Φ X f np fa
  mkk : ∀ c x np, tb.cls[c]? = some (x, np) → X.mg x = some (.ref (T.cls c)) ∧ c < g.nc ∧ MkKn T Φ g.ini X c np
  gl : ∀ i x, tb.gls[i]? = some x → ∃ u v d, X.mg x = some u ∧ RelV v u ∧ (∀ F, Rp T F v d) ∧ g.gl i = some d
  bt : ∀ b : BF, X.mg b.name = none
  bi : X.mg "isinstance" = none
  bb : X.mg "bool" = none
  eq : ∀ c, c < g.nc → g.eqk c = true → EqKn T Φ g X c
  xf : g.xf = T.xfld
  nx : tb.nx = g.nx
  xm : ∀ c x, tb.xcs[c]? = some x → X.mg x = some (.ref (T.xcls c))
  xr : ∀ c, c < g.nx → XMk T X c
  xe : ∀ c c', c < g.nx → c' < tb.xcs.length → PySem.W.exmOne X.K (.ref (T.xcls c)) (.ref (T.xcls c')) = some (g.isa c c')
theorem Kn.blk {s : Shared} {H : Hp} {scope : Scope} {env : PySem.Env} {fp : List Addr} (k : Kn T g Φ tb X) : Kn T g Φ tb (X.blk s H scope env fp) :=
  ⟨k.hK, k.hN, k.nd, k.hc, k.hu, k.fl, k.cl, k.fd, fun f x np e => let ⟨fa, h1, h2⟩ := k.fn f x np e; ⟨fa, h1, ⟨h2.kp, h2.ok⟩⟩, fun c x np e => let ⟨h1, h2, h3⟩ := k.mkk c x np e; ⟨h1, h2, ⟨h3.ok⟩⟩, k.gl, k.bt, k.bi, k.bb, fun c h1 h2 => let e := k.eq c h1 h2; ⟨e.ok, e.nf1, e.nf2⟩, k.xf, k.nx, k.xm, fun c hc => let e := k.xr c hc; ⟨e.cl, e.ok⟩, k.xe⟩
theorem Kn.tr {pn : List (Addr × Obj)} {xe : Value → Shared → Prop} (k : Kn T g Φ tb X) : Kn T g Φ tb (X.tr pn xe) :=
  ⟨k.hK, k.hN, k.nd, k.hc, k.hu, k.fl, k.cl, k.fd, fun f x np e => let ⟨fa, h1, h2⟩ := k.fn f x np e; ⟨fa, h1, ⟨h2.kp, h2.ok⟩⟩, fun c x np e => let ⟨h1, h2, h3⟩ := k.mkk c x np e; ⟨h1, h2, ⟨h3.ok⟩⟩, k.gl, k.bt, k.bi, k.bb, fun c h1 h2 => let e := k.eq c h1 h2; ⟨e.ok, e.nf1, e.nf2⟩, k.xf, k.nx, k.xm, fun c hc => let e := k.xr c hc; ⟨e.cl, e.ok⟩, k.xe⟩

/-! ### names -/
theorem gl_of {x : Str} (hsc : X.env.scope = sc) (h : glB sc x = true) : Gl X x := by
  unfold glB at h
  split at h
  · rename_i e
    show X.env.scope.names.lookup x = _
    rw [hsc]; exact e
  · cases h
theorem dbg_of {x : Str} (h : dbgB x = true) : (x == ("__debug__" : Str)) = false ∧ (x == ("__classdict__" : Str)) = false := by
  unfold dbgB at h
  simpa using h
theorem vis_of {x : Str} (h : visB sc x = true) : Vis sc x := by
  unfold visB at h
  split at h
  · exact .inl (by assumption)
  · exact .inr (.inl (by assumption))
  · exact .inr (.inr (by assumption))
  · cases h
theorem pv_of {i : Nat} {x : Str} {p : Pos} (k : X.N = tb.N) (hsc : X.env.scope = sc) (h : okV tb sc i x = true) : PE X (.Name x p) (tVar i) := by
  unfold okV at h
  simp only [Bool.and_eq_true, decide_eq_true_eq] at h
  obtain ⟨h1, h2, h3⟩ := h
  obtain ⟨h4, h5⟩ := dbg_of h3
  exact pe_var (by rw [k]; exact h1) (by rw [hsc]; exact vis_of h2) h4 h5
/-! ### values and tests -/
def tvM (fl : Nat → List Nat) (m : Env → Res R) : Env → Res Bool := fun ρ => (m ρ).bind fun r ρ => optR ((fullD fl r).bind truD) ρ
theorem pt_of {e : Expr} {m : Env → Res R} (hK : X.K = T.K) (h : PE X e (tM T W m)) (he : Ex.tst e = true) : PT X e (tT T W (tvM T.flds m)) := by
  refine (pt_truF hK (pe_arOf h) he).imp fun σ H Q q => ?_
  obtain ⟨F, M, ρ, cf, q⟩ := q
  refine ⟨F, M, ρ, cf, ?_⟩
  have e : tvM T.flds m ρ = one_ T.flds (fun d ρ => optR (truD d) ρ) (fun ρ => (m ρ).bind fun r ρ => .ok (.v r) ρ) ρ := by
    unfold tvM one_
    dsimp only
    cases m ρ with
    | ok r ρ1 =>
      show optR ((fullD T.flds r).bind truD) ρ1 = match fullD T.flds r with
        | some x => optR (truD x) ρ1
        | none => .stuck
      cases fullD T.flds r <;> rfl
    | exc _ _ _ => rfl
    | stuck => rfl
  rw [e] at q; exact q
theorem bind_asc {α β γ : Type} (x : Res α) (k : α → Env → Res β) (l : β → Env → Res γ) : (x.bind k).bind l = x.bind fun a ρ => (k a ρ).bind l := by cases x <;> rfl
theorem optR_bind {α β : Type} (o : Option α) (ρ : Env) (k : α → Env → Res β) : (optR o ρ).bind k = match o with
    | some a => k a ρ
    | none => .stuck := by cases o <;> rfl
/-- the test of an expression that is no name -/
theorem te_tv {ie : IE} (h : ie.isVar = none) : teE g Φ ie = tvM g.flds (evE g Φ ie) := by
  funext ρ
  unfold teE tvM tstA
  have e : asArg ie ρ (evE g Φ ie ρ) = (evE g Φ ie ρ).bind fun r ρ => .ok (.v r) ρ := by
    cases ie <;> first | rfl | cases h
  rw [e, bind_asc]
  rfl
theorem te_var {i : Nat} : teE g Φ (.var i) = one_ g.flds (fun d ρ => optR (truD d) ρ) (argVar i) := by
  funext ρ
  show (argVar i ρ).bind _ = (argVar i ρ).bind _
  congr 1
  funext a ρ
  cases a.d g.flds ρ <;> rfl
theorem pt_teE {ie : IE} {e : Expr} (kn : Kn T g Φ tb X) (hsc : X.env.scope = sc) (h : okE tb true sc ie e = true) (hp : PT X e (tT T W (tvM T.flds (evE g Φ ie)))) : PT X e (tT T W (teE g Φ ie)) := by
  cases z : ie.isVar with
  | none => rw [te_tv z, kn.fl]; exact hp
  | some i =>
    cases ie with
    | var j =>
      cases e with
      | Name x p =>
        rw [te_var, kn.fl]
        exact pt_truF kn.hK (pe_argVar (pv_of kn.hN hsc h)) rfl
      | _ => cases h
    | _ => cases z
/-! ### targets -/
theorem PGs.names {S : Scope} (hN : X.N = tb.N) (nd : X.N.Nodup) (hst : ∀ x, stB S x = true → Loc X.env.scope x ∧ (X.fn x = true ∨ X.env.scope.names.lookup x = some .local)) :
    ∀ {is : List Nat} {es : List Expr}, okTN tb S is es = true → PGs X es (gNames is) ∧ (assignEach es X.env).length = is.length ∧ (assignEach es X.env).findIdx? (·.1) = none
  | [], [], _ => ⟨pgs_nil, rfl, rfl⟩
  | i :: is, .Name x p :: es, h => by
    unfold okTN at h
    simp only [Bool.and_eq_true, decide_eq_true_eq] at h
    obtain ⟨⟨h1, h2⟩, h3⟩ := h
    obtain ⟨q1, q2, q3⟩ := PGs.names hN nd hst h3
    obtain ⟨l1, l2⟩ := hst x h2
    refine ⟨pgs_cons (pg_name nd (by rw [hN]; exact h1) l1 l2) q1 rfl, ?_, ?_⟩
    · show (_ :: assignEach es X.env).length = _
      rw [List.length_cons, q2]; rfl
    · show ((false, _) :: assignEach es X.env).findIdx? (·.1) = none
      rw [List.findIdx?_cons, q3]; rfl
  | [], _ :: _, h => by cases h
  | _ :: _, [], h => by cases h
  | _ :: _, .BoolOp .. :: _, h => by cases h
  | _ :: _, .NamedExpr .. :: _, h => by cases h
  | _ :: _, .BinOp .. :: _, h => by cases h
  | _ :: _, .UnaryOp .. :: _, h => by cases h
  | _ :: _, .Lambda .. :: _, h => by cases h
  | _ :: _, .IfExp .. :: _, h => by cases h
  | _ :: _, .Dict .. :: _, h => by cases h
  | _ :: _, .Set .. :: _, h => by cases h
  | _ :: _, .ListComp .. :: _, h => by cases h
  | _ :: _, .SetComp .. :: _, h => by cases h
  | _ :: _, .DictComp .. :: _, h => by cases h
  | _ :: _, .GeneratorExp .. :: _, h => by cases h
  | _ :: _, .Await .. :: _, h => by cases h
  | _ :: _, .Yield .. :: _, h => by cases h
  | _ :: _, .YieldFrom .. :: _, h => by cases h
  | _ :: _, .Compare .. :: _, h => by cases h
  | _ :: _, .Call .. :: _, h => by cases h
  | _ :: _, .FormattedValue .. :: _, h => by cases h
  | _ :: _, .JoinedStr .. :: _, h => by cases h
  | _ :: _, .Constant .. :: _, h => by cases h
  | _ :: _, .Attribute .. :: _, h => by cases h
  | _ :: _, .Subscript .. :: _, h => by cases h
  | _ :: _, .Starred .. :: _, h => by cases h
  | _ :: _, .List .. :: _, h => by cases h
  | _ :: _, .Tuple .. :: _, h => by cases h
  | _ :: _, .Slice .. :: _, h => by cases h
theorem pg_of {S : Scope} {tg : Tg} {e : Expr} (hN : X.N = tb.N) (nd : X.N.Nodup) (hc : X.calm = true) (hst : ∀ x, stB S x = true → Loc X.env.scope x ∧ (X.fn x = true ∨ X.env.scope.names.lookup x = some .local)) (h : okTg tb S tg e = true) : PG X e (tg.rd X.K) := by
  cases tg with
  | one i =>
    cases e with
    | Name x p =>
      unfold okTg at h
      simp only [Bool.and_eq_true, decide_eq_true_eq] at h
      obtain ⟨l1, l2⟩ := hst x h.2
      exact pg_name nd (by rw [hN]; exact h.1) l1 l2
    | _ => cases h
  | many is =>
    cases e with
    | Tuple es k p =>
      obtain ⟨q1, q2, q3⟩ := PGs.names hN nd hst (show okTN tb S is es = true from h)
      exact pg_tup hc q1 q2 q3
    | _ => cases h
/-- the names of a comprehension's own scope -/
theorem st_blk {s : Shared} {H : Hp} {scope : Scope} {cl : List (Str × Addr)} {C : Addr} {fp : List Addr} : ∀ x, stB scope x = true →
    Loc (X.blk s H scope (compEnvC scope cl C X.env) fp).env.scope x ∧ ((X.blk s H scope (compEnvC scope cl C X.env) fp).fn x = true ∨ (X.blk s H scope (compEnvC scope cl C X.env) fp).env.scope.names.lookup x = some .local) := by
  intro x h
  unfold stB at h
  split at h
  · rename_i e
    have e2 : (relS scope X.env.scope).names.lookup x = some .local := lookup_relS_keep (by decide) e
    exact ⟨.inl e2, .inr e2⟩
  · rename_i e
    have e2 : (relS scope X.env.scope).names.lookup x = some .cell := lookup_relS_keep (by decide) e
    exact ⟨.inr e2, .inl (by show (scope.names.lookup x == some .cell) = true; rw [e]; rfl)⟩
  · cases h
theorem is_of {t : IsT} {e : Expr} (kn : Kn T g Φ tb X) (hsc : X.env.scope = sc) (h : okIs tb sc t e = true) : PE X e (tIs T t) ∧ t.ok g.nc = true := by
  have bi : ∀ {x : Str} {p : Pos} {ty : String}, glB sc x = true → X.mg x = none → bootBuiltins x = some (.type ty) → x ≠ "__name__" → (x == ("__debug__" : Str)) = false → PE X (.Name x p) (tC (.ty ty)) := fun h1 h2 h3 h4 h5 => pe_bltn (gl_of hsc h1) h2 h3 rfl h4 h5
  cases t with
  | listTuple =>
    have h0 : ∃ x p1 y p2 k p3, e = .Tuple [.Name x p1, .Name y p2] k p3 ∧ (decide (x = "list") && decide (y = "tuple") && (glB sc x && glB sc y)) = true := by
      unfold okIs at h
      split at h <;> first | exact ⟨_, _, _, _, _, _, rfl, h⟩ | exact absurd h Bool.false_ne_true | contradiction
    obtain ⟨x, p1, y, p2, k, p3, rfl, hh⟩ := h0
    simp only [Bool.and_eq_true, decide_eq_true_eq] at hh
    obtain ⟨⟨rfl, rfl⟩, h1, h2⟩ := hh
    exact ⟨pe_tup (pa_cons (bi h1 (kn.bt .list) (BF.boot .list) (BF.nm .list) (BF.db .list)) (pa_cons (bi h2 (kn.bt .tuple) (BF.boot .tuple) (BF.nm .tuple) (BF.db .tuple)) pa_nil (star_cons [] _ rfl)) (star_cons [_] _ rfl)), rfl⟩
  | cls c =>
    cases e with
    | Name x p =>
      unfold okIs at h
      simp only [Bool.and_eq_true, decide_eq_true_eq] at h
      obtain ⟨h1, h2, h3⟩ := h
      obtain ⟨⟨x', np⟩, e1, rfl⟩ := Option.map_eq_some_iff.mp h1
      obtain ⟨m1, m2, _⟩ := kn.mkk c x' np e1
      exact ⟨pe_glob (gl_of hsc h2) m1 rfl (dbg_of h3).1, by simpa [IsT.ok] using m2⟩
    | _ => cases h
  | int =>
    cases e with
    | Name x p =>
      unfold okIs at h
      simp only [Bool.and_eq_true, decide_eq_true_eq] at h
      obtain ⟨rfl, h2⟩ := h
      exact ⟨bi h2 (kn.bt .int) (BF.boot .int) (BF.nm .int) (BF.db .int), rfl⟩
    | _ => cases h
  | bool =>
    cases e with
    | Name x p =>
      unfold okIs at h
      simp only [Bool.and_eq_true, decide_eq_true_eq] at h
      obtain ⟨rfl, h2⟩ := h
      exact ⟨bi h2 kn.bb (by decide +kernel) (by decide +kernel) (by decide +kernel), rfl⟩
    | _ => cases h
  | tuple =>
    cases e with
    | Name x p =>
      unfold okIs at h
      simp only [Bool.and_eq_true, decide_eq_true_eq] at h
      obtain ⟨rfl, h2⟩ := h
      exact ⟨bi h2 (kn.bt .tuple) (BF.boot .tuple) (BF.nm .tuple) (BF.db .tuple), rfl⟩
    | _ => cases h
  | list =>
    cases e with
    | Name x p =>
      unfold okIs at h
      simp only [Bool.and_eq_true, decide_eq_true_eq] at h
      obtain ⟨rfl, h2⟩ := h
      exact ⟨bi h2 (kn.bt .list) (BF.boot .list) (BF.nm .list) (BF.db .list), rfl⟩
    | _ => cases h
  | str =>
    cases e with
    | Name x p =>
      unfold okIs at h
      simp only [Bool.and_eq_true, decide_eq_true_eq] at h
      obtain ⟨rfl, h2⟩ := h
      exact ⟨bi h2 (kn.bt .str) (BF.boot .str) (BF.nm .str) (BF.db .str), rfl⟩
    | _ => cases h
theorem cst_of {d : D} {e : Expr} (h : okC d e = true) : PE X e (tM T W fun ρ => .ok (.val d) ρ) ∧ Ex.tst e = true := by
  unfold okC at h
  split at h
  · obtain rfl := of_decide_eq_true h; exact ⟨pe_cst pe_int fun F => .int _, rfl⟩
  · obtain rfl := of_decide_eq_true h; exact ⟨pe_cst pe_str fun F => .str _, rfl⟩
  · obtain rfl := of_decide_eq_true h; exact ⟨pe_cst pe_bl fun F => .bl _, rfl⟩
  · exact ⟨pe_cst pe_non fun F => .non, rfl⟩
  · cases h
end Fx
end
section
set_option linter.all false
set_option Elab.async false
set_option maxRecDepth 100000
set_option maxHeartbeats 4000000
/-! The check of an expression is sound: the induction. -/
namespace Fx
open PySem PySem.Spec L2
variable {T : Nm} {g : G} {Φ : Fn} {tb : Tb}
/-- an argument -/
theorem ar_of {W : WX} {X : Cx} {sc : Scope} {ie : IE} {e : Expr} (kn : Kn T g Φ tb X) (hsc : X.env.scope = sc) (h : okE tb false sc ie e = true) (hp : PE X e (tM T W (evE g Φ ie))) : PE X e (tAr T W fun ρ => asArg ie ρ (evE g Φ ie ρ)) := by
  cases z : ie.isVar with
  | none =>
    have e2 : (fun ρ => asArg ie ρ (evE g Φ ie ρ)) = fun ρ => (evE g Φ ie ρ).bind fun r ρ => .ok (.v r) ρ := by
      funext ρ
      cases ie <;> first | rfl | cases z
    rw [e2]
    exact pe_arOf hp
  | some i =>
    cases ie with
    | var j =>
      cases e with
      | Name x p => exact pe_argVar (pv_of kn.hN hsc h)
      | _ => cases h
    | _ => cases z
theorem restB_as {isAnd : Bool} {m : Env → Res R} {r : Env → Res R} {fl : Nat → List Nat} : tvM fl (fun ρ => (asD fl (m ρ)).bind fun d ρ => restB isAnd d r ρ) = fun ρ => (tvM fl m ρ).bind fun k ρ => if k = isAnd then tvM fl r ρ else .ok k ρ := by
  funext ρ
  unfold tvM asD
  dsimp only
  cases m ρ with
  | exc c d ρ1 => rfl
  | stuck => rfl
  | ok x ρ1 =>
    show (((optR (fullD fl x) ρ1).bind fun d ρ => restB isAnd d r ρ).bind fun r ρ => optR ((fullD fl r).bind truD) ρ) = (optR ((fullD fl x).bind truD) ρ1).bind _
    cases fullD fl x with
    | none => rfl
    | some d =>
      show (restB isAnd d r ρ1).bind _ = (optR (truD d) ρ1).bind _
      unfold restB
      cases e : truD d with
      | none => rfl
      | some k =>
        show (if k = isAnd then r ρ1 else .ok (.val d) ρ1).bind _ = if k = isAnd then _ else _
        split
        · rfl
        · show optR ((fullD fl (.val d)).bind truD) ρ1 = .ok k ρ1
          rw [show fullD fl (.val d) = some d from rfl]
          show optR (truD d) ρ1 = _
          rw [e]; rfl
theorem all_star {e : Expr} {l : List Expr} (h : noStar (e :: l) = true) : Ex.star e = false ∧ l.all (fun e => !Ex.star e) = true := by
  unfold noStar at h
  simpa using h
theorem own_map {own : List Nat} : (ownP tb own).map (·.2) = own := by
  unfold ownP
  rw [List.map_map]
  exact List.map_id own
theorem len_As : ∀ (es : IEs) (l : List Expr) (sc : Scope), okEs tb false sc es l = true → ∀ ρ as ρ', evAs g Φ es ρ = .ok as ρ' → as.length = l.length
  | .nil, [], _, _, ρ, as, ρ', e => by cases e; rfl
  | .cons ie es, x :: xs, sc, h, ρ, as, ρ', e => by
    have h : (okE tb false sc ie x && okEs tb false sc es xs) = true := h
    have e : (asArg ie ρ (evE g Φ ie ρ)).bind (fun a ρ => (evAs g Φ es ρ).bind fun as ρ => .ok (a :: as) ρ) = .ok as ρ' := e
    obtain ⟨a, ρ1, e1, e2⟩ := bind_ok e
    obtain ⟨as', ρ2, e3, e4⟩ := bind_ok e2
    cases e4
    rw [List.length_cons, List.length_cons, len_As es xs sc (Bool.and_eq_true_iff.mp h).2 ρ1 as' _ e3]
  | .nil, _ :: _, _, h, _, _, _, _ => by cases h
  | .cons _ _, [], _, h, _, _, _, _ => by cases h

theorem tv_tst {W : WX} {X : Cx} {e : Expr} {m : Env → Res R} (kn : Kn T g Φ tb X) (pe : PE X e (tM T W m)) (he : Ex.tst e = true) (t : Bool) : (t = false → PE X e (tM T W m)) ∧ (t = true → PT X e (tT T W (tvM T.flds m))) :=
  ⟨fun _ => pe, fun _ => pt_of kn.hK pe he⟩
theorem two_flds {α : Type} {fl fl' : Nat → List Nat} (e : fl = fl') {f : D → D → Env → Res α} {a b : Env → Res Ar} : two fl f a b = two fl' f a b := by rw [e]
def Sn (T : Nm) (W : WX) (X : Cx) (t : Bool) (e : Expr) (m : Env → Res R) : Prop := (t = false → PE X e (tM T W m)) ∧ (t = true → PT X e (tT T W (tvM T.flds m)))
def SnW (T : Nm) (W : WX) (X : Cx) (t : Bool) (e : Expr) (m : Env → Res R) : Prop := (t = false → PE X e (tM T W m)) ∧ (t = true → PW X e (tT T W (tvM T.flds m)))
theorem pts_nilF {W : WX} {X : Cx} : PTs X [] (tT T W fun ρ => .ok true ρ) := ⟨fun pins s σ H Q I h => by
  obtain ⟨F, M, ρ, cf, q⟩ := h
  exact pts_nil.run pins s σ H Q I (q F H cf)⟩
theorem pw_bop1 {W : WX} {X : Cx} {isAnd : Bool} {a : Expr} {pos : Pos} {m : Env → Res Bool} (ha : PT X a (tT T W m)) : PW X (.BoolOp (if isAnd = true then .And else .Or) [a] pos) (tT T W m) := by
  cases isAnd with
  | true => exact pw_and1 ha
  | false => exact pw_or1 ha
mutual
theorem snE : ∀ (ie : IE) (t : Bool) (sc : Scope) (e : Expr) (W : WX) (X : Cx), Kn T g Φ tb X → X.env.scope = sc → Takes X W → okE tb t sc ie e = true → Sn T W X t e (evE g Φ ie)
  | .var i, t, sc, e, W, X, kn, hsc, tk, h => by
    cases e with
    | Name x p =>
      have e2 : evE g Φ (.var i) = rdVar T.flds i := by rw [← kn.fl]; rfl
      rw [e2]
      exact tv_tst kn (pe_rd (pv_of kn.hN hsc h)) rfl t
    | _ => cases h
  | .cst d, t, sc, e, W, X, kn, hsc, tk, h => by
    obtain ⟨h1, h2⟩ := cst_of (T := T) (W := W) (X := X) (show okC d e = true by cases e <;> exact h)
    exact tv_tst kn h1 h2 t
  | .glob gi, t, sc, e, W, X, kn, hsc, tk, h => by
    cases e with
    | Name x p =>
      have h : (decide (tb.gls[gi]? = some x) && (glB sc x && dbgB x)) = true := h
      simp only [Bool.and_eq_true, decide_eq_true_eq] at h
      obtain ⟨h1, h2, h3⟩ := h
      obtain ⟨u, v, d, m1, m2, m3, m4⟩ := kn.gl gi x h1
      exact tv_tst kn (pe_globF (g := g) (gl_of hsc h2) m1 m2 (dbg_of h3).1 m3 m4) rfl t
    | _ => cases h
  | .tup es, t, sc, e, W, X, kn, hsc, tk, h => by
    cases e with
    | Tuple l k p =>
      have h : (noStar l && okEs tb false sc es l) = true := h
      simp only [Bool.and_eq_true] at h
      exact tv_tst kn (pe_tupF (snDs es sc l W X kn hsc tk h.1 h.2)) rfl t
    | _ => cases h
  | .lst es, t, sc, e, W, X, kn, hsc, tk, h => by
    cases e with
    | List l p =>
      have h : (noStar l && okEs tb false sc es l) = true := h
      simp only [Bool.and_eq_true] at h
      exact tv_tst kn (pe_lstF (snDs es sc l W X kn hsc tk h.1 h.2)) rfl t
    | _ => cases h
  | .bin op a b, t, sc, e, W, X, kn, hsc, tk, h => by
    cases e with
    | BinOp x o y p =>
      have h : (decide (op = o) && (okE tb false sc a x && okE tb false sc b y)) = true := h
      simp only [Bool.and_eq_true, decide_eq_true_eq] at h
      obtain ⟨rfl, h1, h2⟩ := h
      have ea := ar_of kn hsc h1 ((snE a false sc x W X kn hsc tk h1).1 rfl)
      have eb := ar_of kn hsc h2 ((snE b false sc y W X kn hsc tk h2).1 rfl)
      have q := pe_binF (op := op) (pos := p) kn.hK ea eb
      rw [← kn.fl] at q
      exact tv_tst kn q rfl t
    | _ => cases h
  | .neg a, t, sc, e, W, X, kn, hsc, tk, h => by
    cases e with
    | UnaryOp o x p =>
      cases o with
      | USub =>
        have h : (!t && okE tb false sc a x) = true := h
        simp only [Bool.and_eq_true, Bool.not_eq_true'] at h
        obtain ⟨rfl, h1⟩ := h
        have q := pe_negF (pos := p) (pe_asD ((snE a false sc x W X kn hsc tk h1).1 rfl))
        rw [← kn.fl] at q
        exact ⟨fun _ => q, fun z => by cases z⟩
      | _ => cases h
    | _ => cases h
  | .bop isAnd es, t, sc, e, W, X, kn, hsc, tk, h => by
    cases e with
    | BoolOp o l p =>
      have h : (decide (o = if isAnd = true then .And else .Or) && (decide (2 ≤ l.length) && okEs tb t sc es l)) = true := h
      simp only [Bool.and_eq_true, decide_eq_true_eq] at h
      obtain ⟨rfl, h1, h2⟩ := h
      exact ⟨(snB es isAnd t sc l p W X kn hsc tk h1 h2).1, fun z => ((snB es isAnd t sc l p W X kn hsc tk h1 h2).2 z).pt⟩
    | _ => cases h
  | .nt a, t, sc, e, W, X, kn, hsc, tk, h => by
    cases e with
    | UnaryOp o x p =>
      cases o with
      | Not =>
        have h : okE tb t sc a x = true := h
        have q := snE a t sc x W X kn hsc tk h
        cases t with
        | false =>
          have q := pe_notF (pos := p) kn.hK (ar_of kn hsc h (q.1 rfl))
          refine ⟨fun _ => ?_, fun z => by cases z⟩
          have e2 : evE g Φ (.nt a) = one_ T.flds (fun d ρ => (optR (truD d) ρ).bind fun b ρ => .ok (.val (.bl (!b))) ρ) fun ρ => asArg a ρ (evE g Φ a ρ) := by
            funext ρ
            rw [← kn.fl]
            show ((asArg a ρ (evE g Φ a ρ)).bind fun a ρ => optR ((a.d g.flds ρ).bind truD) ρ).bind _ = (asArg a ρ (evE g Φ a ρ)).bind _
            rw [bind_asc]
            congr 1
            funext y ρ
            cases y.d g.flds ρ <;> rfl
          rw [e2]; exact q
        | true =>
          have q := pt_notF (pos := p) (pt_teE kn hsc h (q.2 rfl))
          refine ⟨fun z => (by cases z), fun _ => ?_⟩
          have e2 : tvM T.flds (evE g Φ (.nt a)) = fun ρ => (teE g Φ a ρ).bind fun b ρ => .ok (!b) ρ := by
            funext ρ
            show ((teE g Φ a ρ).bind fun b ρ => Res.ok (R.val (D.bl (!b))) ρ).bind (fun r ρ => optR ((fullD T.flds r).bind truD) ρ) = _
            rw [bind_asc]
            rfl
          rw [e2]; exact q
      | _ => cases h
    | _ => cases h
  | .cmp op a b, t, sc, e, W, X, kn, hsc, tk, h => by
    cases e with
    | Compare x os ys p =>
      cases os with
      | nil => cases h
      | cons o os =>
        cases os with
        | cons _ _ => cases h
        | nil =>
          cases ys with
          | nil => cases h
          | cons y ys =>
            cases ys with
            | cons _ _ => cases h
            | nil =>
              have h : (decide (op = o) && (!behindInMarks o y && (okE tb false sc a x && okE tb false sc b y))) = true := h
              simp only [Bool.and_eq_true, decide_eq_true_eq, Bool.not_eq_true'] at h
              obtain ⟨rfl, h0, h1, h2⟩ := h
              have ea := ar_of kn hsc h1 ((snE a false sc x W X kn hsc tk h1).1 rfl)
              have eb := ar_of kn hsc h2 ((snE b false sc y W X kn hsc tk h2).1 rfl)
              refine ⟨fun _ => ?_, fun _ => ?_⟩
              · have q := pe_cmpF (pos := p) kn.hK kn.hu ea eb h0
                rw [← kn.fl] at q
                exact q
              · have q := pt_cmpF (pos := p) kn.hK kn.hu ea eb h0
                have e2 : tvM T.flds (evE g Φ (.cmp op a b)) = two T.flds (fun x y ρ => optR (cmpD op x y) ρ) (fun ρ => asArg a ρ (evE g Φ a ρ)) (fun ρ => asArg b ρ (evE g Φ b ρ)) := by
                  funext ρ
                  rw [← kn.fl]
                  show ((asArg a ρ (evE g Φ a ρ)).bind _).bind _ = (asArg a ρ (evE g Φ a ρ)).bind _
                  rw [bind_asc]
                  congr 1
                  funext x ρ
                  show ((asArg b ρ (evE g Φ b ρ)).bind _).bind _ = (asArg b ρ (evE g Φ b ρ)).bind _
                  rw [bind_asc]
                  congr 1
                  funext y ρ
                  cases x.d g.flds ρ with
                  | none => rfl
                  | some dx =>
                    cases y.d g.flds ρ with
                    | none => rfl
                    | some dy =>
                      show (cmpP op dx dy ρ).bind _ = optR (cmpD op dx dy) ρ
                      unfold cmpP
                      cases cmpD op dx dy <;> rfl
                rw [e2]; exact q
    | _ => cases h
  | .eqo a b, t, sc, e, W, X, kn, hsc, tk, h => by
    cases e with
    | Compare x os ys p =>
      cases os with
      | nil => cases h
      | cons o os =>
        cases os with
        | cons _ _ => cases o <;> cases h
        | nil =>
          cases ys with
          | nil => cases o <;> cases h
          | cons y ys =>
            cases ys with
            | cons _ _ => cases o <;> cases h
            | nil =>
              cases o with
              | Eq =>
                have h : (!behindInMarks .Eq y && (okE tb false sc a x && okE tb false sc b y)) = true := h
                simp only [Bool.and_eq_true, decide_eq_true_eq, Bool.not_eq_true'] at h
                obtain ⟨h0, h1, h2⟩ := h
                have ea := pe_asD ((snE a false sc x W X kn hsc tk h1).1 rfl)
                have eb := pe_asD ((snE b false sc y W X kn hsc tk h2).1 rfl)
                rw [← kn.fl] at ea eb
                refine ⟨fun _ => pe_eqoF (pos := p) kn.hK kn.hu kn.cl kn.eq ea eb h0, fun _ => ?_⟩
                have q := pt_eqoF (pos := p) kn.hK kn.hu kn.cl kn.eq ea eb h0
                have e2 : tvM T.flds (evE g Φ (.eqo a b)) = fun ρ => (asD g.flds (evE g Φ a ρ)).bind fun x ρ => (asD g.flds (evE g Φ b ρ)).bind fun y ρ => (eqoR g Φ x y ρ).bind fun r ρ => optR ((fullD T.flds r).bind truD) ρ := by
                  funext ρ
                  show ((asD g.flds (evE g Φ a ρ)).bind _).bind _ = _
                  rw [bind_asc]
                  congr 1
                  funext x ρ
                  show ((asD g.flds (evE g Φ b ρ)).bind _).bind _ = _
                  rw [bind_asc]
                rw [e2]; exact q
              | _ => cases h
    | _ => cases h
  | .cmp2 o1 o2 a b c, t, sc, e, W, X, kn, hsc, tk, h => by
    cases e with
    | Compare x os ys p =>
      obtain ⟨y, z, rfl, rfl, hh⟩ : ∃ y z, os = [o1, o2] ∧ ys = [y, z] ∧ (!lastMarks [o1, o2] [y, z] && (okE tb false sc a x && (okE tb false sc b y && okE tb false sc c z))) = true := by
        cases os with
        | nil => cases h
        | cons p1 os =>
          cases os with
          | nil => cases h
          | cons p2 os =>
            cases os with
            | cons _ _ => cases h
            | nil =>
              cases ys with
              | nil => cases h
              | cons y ys =>
                cases ys with
                | nil => cases h
                | cons z ys =>
                  cases ys with
                  | cons _ _ => cases h
                  | nil =>
                    have h : (decide (o1 = p1) && (decide (o2 = p2) && (!lastMarks [p1, p2] [y, z] && (okE tb false sc a x && (okE tb false sc b y && okE tb false sc c z))))) = true := h
                    simp only [Bool.and_eq_true, decide_eq_true_eq] at h
                    obtain ⟨rfl, rfl, h⟩ := h
                    exact ⟨y, z, rfl, rfl, by simpa only [Bool.and_eq_true] using h⟩
      simp only [Bool.and_eq_true, Bool.not_eq_true'] at hh
      obtain ⟨h0, h1, h2, h3⟩ := hh
      have ea := pe_asD ((snE a false sc x W X kn hsc tk h1).1 rfl)
      have eb := pe_asD ((snE b false sc y W X kn hsc tk h2).1 rfl)
      have ec := pe_asD ((snE c false sc z W X kn hsc tk h3).1 rfl)
      rw [← kn.fl] at ea eb ec
      refine ⟨fun _ => pe_cmp2F (pos := p) kn.hK kn.hu ea eb ec h0, fun _ => ?_⟩
      have q := pt_cmp2F (pos := p) kn.hK kn.hu ea eb ec h0
      have e2 : tvM T.flds (evE g Φ (.cmp2 o1 o2 a b c)) = fun ρ => (asD g.flds (evE g Φ a ρ)).bind fun x ρ => (asD g.flds (evE g Φ b ρ)).bind fun y ρ => match cmpD o1 x y with
          | some true => (asD g.flds (evE g Φ c ρ)).bind fun z ρ => optR (cmpD o2 y z) ρ
          | some false => .ok false ρ
          | none => .stuck := by
        funext ρ
        show ((asD g.flds (evE g Φ a ρ)).bind _).bind _ = _
        rw [bind_asc]
        congr 1
        funext x ρ
        show ((asD g.flds (evE g Φ b ρ)).bind _).bind _ = _
        rw [bind_asc]
        congr 1
        funext y ρ
        cases cmpD o1 x y with
        | none => rfl
        | some k =>
          cases k with
          | false => rfl
          | true =>
            show ((asD g.flds (evE g Φ c ρ)).bind _).bind _ = (asD g.flds (evE g Φ c ρ)).bind _
            rw [bind_asc]
            congr 1
            funext z ρ
            cases cmpD o2 y z <;> rfl
      rw [e2]; exact q
    | _ => cases h
  | .ife c a b, t, sc, e, W, X, kn, hsc, tk, h => by
    cases e with
    | IfExp c' a' b' p =>
      have h : (!t && (okE tb true sc c c' && (okE tb false sc a a' && okE tb false sc b b'))) = true := h
      simp only [Bool.and_eq_true, Bool.not_eq_true'] at h
      obtain ⟨rfl, h1, h2, h3⟩ := h
      refine ⟨fun _ => ?_, fun z => by cases z⟩
      exact pe_ifF (pos := p) (pt_teE kn hsc h1 ((snE c true sc c' W X kn hsc tk h1).2 rfl)) ((snE a false sc a' W X kn hsc tk h2).1 rfl) ((snE b false sc b' W X kn hsc tk h3).1 rfl)
    | _ => cases h
  | .idx a b, t, sc, e, W, X, kn, hsc, tk, h => by
    cases e with
    | Subscript x y p =>
      have h : (ixP y && (okE tb false sc a x && okE tb false sc b y)) = true := h
      simp only [Bool.and_eq_true] at h
      obtain ⟨h0, h1, h2⟩ := h
      have q := pe_ixF (pos := p) kn.hK (ar_of kn hsc h1 ((snE a false sc x W X kn hsc tk h1).1 rfl)) (pe_asD ((snE b false sc y W X kn hsc tk h2).1 rfl)) h0
      rw [← kn.fl] at q
      exact tv_tst kn q rfl t
    | _ => cases h
  | .slc a lo hi, t, sc, e, W, X, kn, hsc, tk, h => by
    cases e with
    | Subscript x y p =>
      cases y with
      | Slice l u s p2 =>
        cases s with
        | some _ => cases h
        | none =>
          have h : (okE tb false sc a x && (okO tb sc lo l && okO tb sc hi u)) = true := h
          simp only [Bool.and_eq_true] at h
          obtain ⟨h1, h2, h3⟩ := h
          have q := pe_slcF (pos := p) (p2 := p2) kn.hK (ar_of kn hsc h1 ((snE a false sc x W X kn hsc tk h1).1 rfl)) (snO lo sc l W X kn hsc tk h2) (snO hi sc u W X kn hsc tk h3)
          rw [← kn.fl] at q
          exact tv_tst kn q rfl t
      | _ => cases h
    | _ => cases h
  | .rev a, t, sc, e, W, X, kn, hsc, tk, h => by
    obtain ⟨x, k, p1, p2, p3, p, rfl, h⟩ : ∃ x k p1 p2 p3 p, e = .Subscript x (.Slice none none (some (.UnaryOp .USub (.Constant (.int 1) k p1) p2)) p3) p ∧ okE tb false sc a x = true := by
      unfold okE at h
      split at h <;> first | exact ⟨_, _, _, _, _, _, rfl, h⟩ | exact absurd h Bool.false_ne_true | contradiction | (rename_i z; cases z; exact ⟨_, _, _, _, _, _, rfl, h⟩)
    have q := pe_revF (k := k) (p1 := p1) (p2 := p2) (p3 := p3) (pos := p) kn.hK (ar_of kn hsc h ((snE a false sc x W X kn hsc tk h).1 rfl))
    rw [← kn.fl] at q
    exact tv_tst kn q rfl t
  | .attr a f, t, sc, e, W, X, kn, hsc, tk, h => by
    cases e with
    | Attribute x n p =>
      have h : (decide (tb.fnm[f]? = some n) && (!Ex.isCall x && okE tb false sc a x)) = true := h
      simp only [Bool.and_eq_true, decide_eq_true_eq, Bool.not_eq_true'] at h
      obtain ⟨h1, h2, h3⟩ := h
      have hn := kn.fd f n h1
      refine tv_tst kn ?_ rfl t
      cases z : a.isVar with
      | none =>
        have q := pe_fldD (g := g) (pos := p) kn.hK kn.cl rfl kn.fl hn.symm (pe_asD ((snE a false sc x W X kn hsc tk h3).1 rfl)) h2
        rw [← kn.fl] at q
        have e2 : evE g Φ (.attr a f) = fun ρ => (asD g.flds (evE g Φ a ρ)).bind fun x ρ => optR ((attrR g f x).map .val) ρ := by
          cases a <;> first | rfl | cases z
        rw [e2]; exact q
      | some i =>
        cases a with
        | var i =>
          cases x with
          | Name y p0 => exact pe_fldV (g := g) (pos := p) kn.hK kn.cl rfl kn.fl hn.symm (pv_of kn.hN hsc h3) h2
          | _ => cases h3
        | _ => cases z
    | _ => cases h
  | .call f es, t, sc, e, W, X, kn, hsc, tk, h => by
    cases e with
    | Call fe l kw p =>
      cases fe with
      | Name x p0 =>
        cases kw with
        | cons _ _ => cases h
        | nil =>
          have h : (decide (tb.fns[f]? = some (x, l.length)) && (!l.isEmpty && (noStar l && (glB sc x && (dbgB x && okEs tb false sc es l))))) = true := h
          simp only [Bool.and_eq_true, decide_eq_true_eq] at h
          obtain ⟨h1, h2, h3, h4, h5, h6⟩ := h
          cases l with
          | nil => cases h2
          | cons y ys =>
            obtain ⟨fa, m1, m2⟩ := kn.fn f x _ h1
            obtain ⟨s1, s2⟩ := all_star h3
            exact tv_tst kn (pe_callF (pos := p) (p := p0) m2 tk (gl_of hsc h4) m1 rfl (snAs es sc (y :: ys) W X kn hsc tk h3 h6) (dbg_of h5).1 s1 s2 (fun ρ as ρ' e => len_As es _ sc h6 ρ as ρ' e)) rfl t
      | _ => cases h
    | _ => cases h
  | .make c es, t, sc, e, W, X, kn, hsc, tk, h => by
    cases e with
    | Call fe l kw p =>
      cases fe with
      | Name x p0 =>
        cases kw with
        | cons _ _ => cases h
        | nil =>
          have h : (decide (tb.cls[c]? = some (x, l.length)) && (!l.isEmpty && (noStar l && (glB sc x && (dbgB x && okEs tb false sc es l))))) = true := h
          simp only [Bool.and_eq_true, decide_eq_true_eq] at h
          obtain ⟨h1, h2, h3, h4, h5, h6⟩ := h
          cases l with
          | nil => cases h2
          | cons y ys =>
            obtain ⟨m1, m0, m2⟩ := kn.mkk c x _ h1
            obtain ⟨s1, s2⟩ := all_star h3
            exact tv_tst kn (pe_makeF (pos := p) (p := p0) m2 tk (gl_of hsc h4) m1 (snAs es sc (y :: ys) W X kn hsc tk h3 h6) (dbg_of h5).1 s1 s2 (fun ρ as ρ' e => len_As es _ sc h6 ρ as ρ' e)) rfl t
      | _ => cases h
    | _ => cases h
  | .cb b es, t, sc, e, W, X, kn, hsc, tk, h => by
    cases e with
    | Call fe l kw p =>
      cases fe with
      | Name x p0 =>
        cases kw with
        | cons _ _ => cases h
        | nil =>
          have h : (decide (x = b.name) && (!l.isEmpty && (noStar l && (glB sc x && okEs tb false sc es l)))) = true := h
          simp only [Bool.and_eq_true, decide_eq_true_eq] at h
          obtain ⟨rfl, h2, h3, h4, h6⟩ := h
          cases l with
          | nil => cases h2
          | cons y ys =>
            obtain ⟨s1, s2⟩ := all_star h3
            have q := pe_cbF (b := b) (pos := p) (p := p0) kn.hK kn.hc rfl (gl_of hsc h4) (kn.bt b) (snAs es sc (y :: ys) W X kn hsc tk h3 h6) s1 s2
            rw [← kn.fl] at q
            exact tv_tst kn q rfl t
      | _ => cases h
    | _ => cases h
  | .isi a it, t, sc, e, W, X, kn, hsc, tk, h => by
    cases e with
    | Call fe l kw p =>
      cases fe with
      | Name x p0 =>
        obtain ⟨y, z, rfl, rfl, hh⟩ : ∃ y z, l = [y, z] ∧ kw = [] ∧ (decide (x = "isinstance") && (glB sc x && (!Ex.star y && (!Ex.star z && (okE tb false sc a y && okIs tb sc it z))))) = true := by
          cases l with
          | nil => cases h
          | cons y l =>
            cases l with
            | nil => cases h
            | cons z l =>
              cases l with
              | cons _ _ => cases h
              | nil =>
                cases kw with
                | cons _ _ => cases h
                | nil => exact ⟨y, z, rfl, rfl, h⟩
        simp only [Bool.and_eq_true, decide_eq_true_eq, Bool.not_eq_true'] at hh
        obtain ⟨rfl, h1, h2, h3, h4, h5⟩ := hh
        obtain ⟨i1, i2⟩ := is_of kn hsc h5
        have q := pe_isiF (pos := p) (p := p0) kn.hK kn.cl (gl_of hsc h1) kn.bi (ar_of kn hsc h4 ((snE a false sc y W X kn hsc tk h4).1 rfl)) i1 i2 h2 h3
        rw [← kn.fl] at q
        exact tv_tst kn q rfl t
      | _ => cases h
    | _ => cases h
  | .comp elt own tg src c, t, sc, e, W, X, kn, hsc, tk, h => by
    obtain ⟨el, tgE, iter, ifs, scope, p, rfl, hh⟩ : ∃ el tgE iter ifs scope p, e = .ListComp el [⟨tgE, iter, ifs, 0⟩] scope p ∧ (blkC tb.N sc scope (ownP tb own) && (decide own.Nodup && (decide (∀ i ∈ own, i < tb.N.length) && (decide (∀ i ∈ tg.slots, i ∈ own) && (okTg tb scope tg tgE && (!Ex.isSet iter && (okI tb sc src iter && (okF tb (relS scope sc) c ifs && okE tb false (relS scope sc) elt el)))))))) = true := by
      unfold okE at h
      split at h <;> first | exact ⟨_, _, _, _, _, _, rfl, h⟩ | exact absurd h Bool.false_ne_true | contradiction | (rename_i z; cases z; exact ⟨_, _, _, _, _, _, rfl, h⟩)
    simp only [Bool.and_eq_true, decide_eq_true_eq, Bool.not_eq_true'] at hh
    obtain ⟨h1, h2, h3, h4, h5, h6, h7, h8, h9⟩ := hh
    have em : (ownP tb own).map (·.2) = own := own_map
    have blk := blkOk_by h1
    rw [← hsc, ← kn.hN] at blk
    have q := pe_lcF (T := T) (W := W) (X := X) (elt := el) (tg := tgE) (iter := iter) (ifs := ifs) (scope := scope) (own := ownP tb own) (pos := p) (it := tg) (src := evI g Φ src) (c := evC g Φ c) (el := fun ρ => asD g.flds (evE g Φ elt ρ)) kn.hc kn.hK kn.nd (snI src sc tgE iter W X kn hsc tk h7) blk (by rw [em]; exact h2) (by rw [em, kn.hN]; exact h3) (by rw [em]; exact h4)
      (fun s H C cl fp => pg_of (X := X.blk s H scope (compEnvC scope cl C X.env) fp) kn.hN kn.nd kn.hc st_blk h5)
      (fun s H C cl fp => snF c (relS scope sc) ifs W0 (X.blk s H scope (compEnvC scope cl C X.env) fp) kn.blk (by rw [← hsc]; rfl) takes_none5 h8)
      (fun s H C cl fp => by
        have q := pe_asD ((snE elt false (relS scope sc) el W0 (X.blk s H scope (compEnvC scope cl C X.env) fp) kn.blk (by rw [← hsc]; rfl) takes_none5 h9).1 rfl)
        rw [← kn.fl] at q
        exact q) h6
    rw [em] at q
    exact tv_tst kn q rfl t
  | .comp2 elt own own1 tg src tg1 src1 c, t, sc, e, W, X, kn, hsc, tk, h => by
    obtain ⟨el, tgE, iter, tgE1, iter1, ifs, scope, p, rfl, hh⟩ : ∃ el tgE iter tgE1 iter1 ifs1 scope p, e = .ListComp el [⟨tgE, iter, [], 0⟩, ⟨tgE1, iter1, ifs1, 0⟩] scope p ∧ (blkC tb.N sc scope (ownP tb own) && (decide own.Nodup && (decide own1.Nodup && (decide (∀ i ∈ own1, i ∈ own) && (decide (∀ i ∈ own, i < tb.N.length) && (decide (∀ i ∈ tg.slots, i ∈ own) && (decide (∀ i ∈ tg1.slots, i ∈ own1) &&
      (okTg tb scope tg tgE && (okTg tb scope tg1 tgE1 && (!Ex.isSet iter && (!Ex.isSet iter1 && (okI tb sc src iter && (okI tb (relS scope sc) src1 iter1 && (okF tb (relS scope sc) c ifs1 && okE tb false (relS scope sc) elt el)))))))))))))) = true := by
      unfold okE at h
      split at h <;> first | exact ⟨_, _, _, _, _, _, _, _, rfl, h⟩ | exact absurd h Bool.false_ne_true | contradiction | (rename_i z; cases z; exact ⟨_, _, _, _, _, _, _, _, rfl, h⟩)
    simp only [Bool.and_eq_true, decide_eq_true_eq, Bool.not_eq_true'] at hh
    obtain ⟨h1, h2, h2', hv, h3, h4, h4', h5, h5', h6, h6', h7, h7', h8, h9⟩ := hh
    have em : (ownP tb own).map (·.2) = own := own_map
    have blk := blkOk_by h1
    rw [← hsc, ← kn.hN] at blk
    have q := pe_lc2F (T := T) (W := W) (X := X) (elt := el) (tg := tgE) (iter := iter) (tg1 := tgE1) (iter1 := iter1) (ifs1 := ifs) (scope := scope) (own := ownP tb own) (vs1 := own1) (pos := p) (it := tg) (it1 := tg1) (src := evI g Φ src) (src1 := evI g Φ src1) (c := evC g Φ c) (el := fun ρ => asD g.flds (evE g Φ elt ρ)) kn.hc kn.hK kn.nd (snI src sc tgE iter W X kn hsc tk h7) blk (by rw [em]; exact h2) (by rw [em, kn.hN]; exact h3) (by rw [em]; exact hv) h2' (by rw [em]; exact h4) h4'
      (fun s H C cl fp => pg_of (X := X.blk s H scope (compEnvC scope cl C X.env) fp) kn.hN kn.nd kn.hc st_blk h5)
      (fun s H C cl fp => snI src1 (relS scope sc) tgE1 iter1 W0 (X.blk s H scope (compEnvC scope cl C X.env) fp) kn.blk (by rw [← hsc]; rfl) takes_none5 h7')
      (fun s H C cl fp => pg_of (X := X.blk s H scope (compEnvC scope cl C X.env) fp) kn.hN kn.nd kn.hc st_blk h5')
      (fun s H C cl fp => snF c (relS scope sc) ifs W0 (X.blk s H scope (compEnvC scope cl C X.env) fp) kn.blk (by rw [← hsc]; rfl) takes_none5 h8)
      (fun s H C cl fp => by
        have q := pe_asD ((snE elt false (relS scope sc) el W0 (X.blk s H scope (compEnvC scope cl C X.env) fp) kn.blk (by rw [← hsc]; rfl) takes_none5 h9).1 rfl)
        rw [← kn.fl] at q
        exact q) h6 h6'
    rw [em] at q
    exact tv_tst kn q rfl t
theorem snO : ∀ (io : IO) (sc : Scope) (o : Option Expr) (W : WX) (X : Cx), Kn T g Φ tb X → X.env.scope = sc → Takes X W → okO tb sc io o = true → PO X o (tO T W (evO g Φ io))
  | .non, sc, o, W, X, kn, hsc, tk, h => by
    cases o with
    | none => exact po_noneF
    | some _ => cases h
  | .som ie, sc, o, W, X, kn, hsc, tk, h => by
    cases o with
    | none => cases h
    | some e =>
      have h : okE tb false sc ie e = true := h
      have q := po_someF (pe_asD ((snE ie false sc e W X kn hsc tk h).1 rfl))
      rw [← kn.fl] at q
      exact q
theorem snF : ∀ (io : IO) (sc : Scope) (l : List Expr) (W : WX) (X : Cx), Kn T g Φ tb X → X.env.scope = sc → Takes X W → okF tb sc io l = true → PTs X l (tT T W (evC g Φ io))
  | .non, sc, l, W, X, kn, hsc, tk, h => by
    cases l with
    | nil => exact pts_nilF
    | cons _ _ => cases h
  | .som ie, sc, l, W, X, kn, hsc, tk, h => by
    cases l with
    | nil => cases h
    | cons e l =>
      cases l with
      | cons _ _ => cases h
      | nil =>
        have h : okE tb true sc ie e = true := h
        exact pts_one (pt_teE kn hsc h ((snE ie true sc e W X kn hsc tk h).2 rfl))
theorem snDs : ∀ (es : IEs) (sc : Scope) (l : List Expr) (W : WX) (X : Cx), Kn T g Φ tb X → X.env.scope = sc → Takes X W → noStar l = true → okEs tb false sc es l = true → PA X l (tDs T W (evDs g Φ es))
  | .nil, sc, l, W, X, kn, hsc, tk, hn, h => by
    cases l with
    | nil => exact pa_nilF
    | cons _ _ => cases h
  | .cons ie es, sc, l, W, X, kn, hsc, tk, hn, h => by
    cases l with
    | nil => cases h
    | cons e l =>
      have h : (okE tb false sc ie e && okEs tb false sc es l) = true := h
      simp only [Bool.and_eq_true] at h
      obtain ⟨s1, s2⟩ := all_star hn
      have q := pa_consF (pe_asD ((snE ie false sc e W X kn hsc tk h.1).1 rfl)) (snDs es sc l W X kn hsc tk s2 h.2) s1
      rw [← kn.fl] at q
      exact q
theorem snAs : ∀ (es : IEs) (sc : Scope) (l : List Expr) (W : WX) (X : Cx), Kn T g Φ tb X → X.env.scope = sc → Takes X W → noStar l = true → okEs tb false sc es l = true → PA X l (tAs T W (evAs g Φ es))
  | .nil, sc, l, W, X, kn, hsc, tk, hn, h => by
    cases l with
    | nil => exact pa_nilA
    | cons _ _ => cases h
  | .cons ie es, sc, l, W, X, kn, hsc, tk, hn, h => by
    cases l with
    | nil => cases h
    | cons e l =>
      have h : (okE tb false sc ie e && okEs tb false sc es l) = true := h
      simp only [Bool.and_eq_true] at h
      obtain ⟨s1, s2⟩ := all_star hn
      exact pa_consA (ar_of kn hsc h.1 ((snE ie false sc e W X kn hsc tk h.1).1 rfl)) (snAs es sc l W X kn hsc tk s2 h.2) s1
theorem snB : ∀ (es : IEs) (isAnd t : Bool) (sc : Scope) (l : List Expr) (p : Pos) (W : WX) (X : Cx), Kn T g Φ tb X → X.env.scope = sc → Takes X W → 2 ≤ l.length → okEs tb t sc es l = true → SnW T W X t (.BoolOp (if isAnd = true then .And else .Or) l p) (evB g Φ isAnd es)
  | .nil, _, _, _, l, _, _, _, _, _, _, h0, h => by
    cases l with
    | nil => simp at h0
    | cons _ _ => cases h
  | .cons ie .nil, _, _, _, l, _, _, _, _, _, _, h0, h => by
    cases l with
    | nil => simp at h0
    | cons e l =>
      cases l with
      | nil => simp at h0
      | cons e2 l =>
        have h := (Bool.and_eq_true_iff.mp (show (_ && okEs tb _ _ .nil (e2 :: l)) = true from h)).2
        cases h
  | .cons ie (.cons ie2 .nil), isAnd, t, sc, l, p, W, X, kn, hsc, tk, h0, h => by
    cases l with
    | nil => cases h
    | cons e l =>
      cases l with
      | nil => simp at h0
      | cons e2 l =>
        cases l with
        | cons e3 l =>
          have h := (Bool.and_eq_true_iff.mp (show (_ && okEs tb _ _ (.cons ie2 .nil) (e2 :: e3 :: l)) = true from h)).2
          have h := (Bool.and_eq_true_iff.mp (show (_ && okEs tb _ _ .nil (e3 :: l)) = true from h)).2
          cases h
        | nil =>
          have h : (okE tb t sc ie e && (okE tb t sc ie2 e2 && true)) = true := h
          simp only [Bool.and_eq_true, and_true] at h
          have q1 := snE ie t sc e W X kn hsc tk h.1
          have q2 := snE ie2 t sc e2 W X kn hsc tk h.2
          cases t with
          | false =>
            refine ⟨fun _ => ?_, fun z => by cases z⟩
            have q := pe_bopF (isAnd := isAnd) (pos := p) kn.hK (pe_asD (q1.1 rfl)) (pe_one (q2.1 rfl))
            rw [← kn.fl] at q
            exact q
          | true =>
            refine ⟨fun z => (by cases z), fun _ => ?_⟩
            have q := (pw_bopF (isAnd := isAnd) (pos := p) (q1.2 rfl) (pw_bop1 (isAnd := isAnd) (pos := p) (q2.2 rfl)))
            rw [← restB_as, ← kn.fl] at q
            rw [← kn.fl]
            exact q
  | .cons ie (.cons ie2 (.cons ie3 es)), isAnd, t, sc, l, p, W, X, kn, hsc, tk, h0, h => by
    cases l with
    | nil => cases h
    | cons e l =>
      cases l with
      | nil => simp at h0
      | cons e2 l =>
        have h := Bool.and_eq_true_iff.mp (show (okE tb t sc ie e && okEs tb t sc (.cons ie2 (.cons ie3 es)) (e2 :: l)) = true from h)
        have h0' : 2 ≤ (e2 :: l).length := by
          cases l with
          | nil =>
            have h2 := (Bool.and_eq_true_iff.mp (show (_ && okEs tb t sc (.cons ie3 es) []) = true from h.2)).2
            cases h2
          | cons _ _ => simp
        have q1 := snE ie t sc e W X kn hsc tk h.1
        have q2 := snB (.cons ie2 (.cons ie3 es)) isAnd t sc (e2 :: l) p W X kn hsc tk h0' h.2
        cases t with
        | false =>
          refine ⟨fun _ => ?_, fun z => by cases z⟩
          have q := pe_bopF (isAnd := isAnd) (pos := p) kn.hK (pe_asD (q1.1 rfl)) (q2.1 rfl)
          rw [← kn.fl] at q
          exact q
        | true =>
          refine ⟨fun z => (by cases z), fun _ => ?_⟩
          have q := (pw_bopF (isAnd := isAnd) (pos := p) (q1.2 rfl) (q2.2 rfl))
          rw [← restB_as, ← kn.fl] at q
          rw [← kn.fl]
          exact q
theorem snI : ∀ (ii : II) (sc : Scope) (tgE e : Expr) (W : WX) (X : Cx), Kn T g Φ tb X → X.env.scope = sc → Takes X W → okI tb sc ii e = true → PI X tgE e (tIt T W (evI g Φ ii))
  | .seq ie, sc, tgE, e, W, X, kn, hsc, tk, h => by
    have h : okE tb false sc ie e = true := h
    have q := pi_seqF (tg := tgE) kn.hK (pe_asD ((snE ie false sc e W X kn hsc tk h).1 rfl))
    rw [← kn.fl] at q
    exact q
  | .enum _, _, _, e, _, _, _, _, _, h => by cases e <;> cases h
  | .zip _ _, _, _, e, _, _, _, _, _, h => by cases e <;> cases h
end
end Fx
end
section
set_option linter.all false
set_option Elab.async false
set_option maxRecDepth 100000
set_option maxHeartbeats 4000000
/-! The check of a statement is sound. -/
namespace Fx
open PySem PySem.Spec L2
variable {T : Nm} {g : G} {Φ : Fn} {tb : Tb} {wr : List Nat}
/-- a def's body, or what stands in a try -/
structure Bd (X : Cx) (sc : Scope) : Prop where
  sc_ : X.env.scope = sc
  hs : X.stack = X.env :: X.outer
  hf : X.env.frame = some X.env.locals
  fn : ∀ x, X.fn x = true
  kd : X.env.scope.kind = .function
theorem Bd.tr {X : Cx} {sc : Scope} {pn : List (Addr × Obj)} {xe : Value → Shared → Prop} (b : Bd X sc) : Bd (X.tr pn xe) sc := ⟨b.sc_, b.hs, b.hf, b.fn, b.kd⟩
theorem st_def {X : Cx} {sc : Scope} (b : Bd X sc) : ∀ x, stB sc x = true → Loc X.env.scope x ∧ (X.fn x = true ∨ X.env.scope.names.lookup x = some .local) := by
  intro x h
  unfold stB at h
  rw [b.sc_]
  split at h
  · exact ⟨.inl (by assumption), .inl (b.fn x)⟩
  · exact ⟨.inr (by assumption), .inl (b.fn x)⟩
  · cases h
theorem sw_eq {elt : Expr} {gs : List Comprehension} {scope : Scope} {pos py : Pos} {y : Str} {l : Nat} {env : PySem.Env} {sc : Scope} (hsc : env.scope = sc) (hk : env.scope.kind = .function) :
    swapsWith (.ListComp elt gs scope pos) (some (.Name y py)) l env = pure (swB sc y py (.ListComp elt gs scope pos)) := by
  have hb : env.blockKind = .function := by unfold Env.blockKind; rw [hk]; rfl
  have ky : env.kindOf y = sc.names.lookup y := by rw [← hsc]; rfl
  unfold swapsWith swB
  simp only [hb, ky, Expr.pos]
  show (pure (true && (sc.names.lookup y == some NameKind.local) && (py.line == pos.line) && !(scope.names.any fun (n, k) => n == y && (k == .local || k == .cell))) : Sem Bool) = _
  congr 1
  rw [Bool.true_and, Bool.and_assoc]
  congr 1
  cases sc.names.lookup y with
  | none => rfl
  | some k => cases k <;> rfl
theorem sw_any {v : Expr} {py : Pos} {y : Str} {l : Nat} {env : PySem.Env} {sc : Scope} (hsc : env.scope = sc) (hk : env.scope.kind = .function) (h : Ex.compr v = false ∨ ∃ elt gs scope pos, v = .ListComp elt gs scope pos) :
    swapsWith v (some (.Name y py)) l env = pure (swB sc y py v) := by
  rcases h with h | ⟨elt, gs, scope, pos, rfl⟩
  · rw [swaps_plain h]
    cases v <;> first | rfl | cases h
  · exact sw_eq hsc hk
theorem ps_asgW {W : WX} {X : Cx} {i : Nat} {x : Str} {pos' pos : Pos} {e : Expr} {m : Env → Res R} (hw : i ∈ wr) (hN : X.N.Nodup) (hi : X.N[i]? = some x) (hx : Loc X.env.scope x) (hf : X.fn x = true) (he : PE X e (tM T W m)) (hc : swapsWith e (some (.Name x pos')) pos.line X.env = pure false) :
    PS X (.Assign [.Name x pos'] e pos) (tS T W wr fun ρ => (m ρ).thn fun r ρ => .nx (ρ.set i (some r))) :=
  (ps_set hN hi hx he hc (.inl hf)).impL fun D σ H hl q => asg_imp hw (by rw [hl]; exact (List.getElem?_eq_some_iff.mp hi).1) q
/-- name = [..], stored at once -/
theorem ps_asgC {W : WX} {X : Cx} {sc : Scope} {i : Nat} {x : Str} {pos' pos : Pos} {ie : IE} {elt : Expr} {gs : List Comprehension} {scope : Scope} {p : Pos} (kn : Kn T g Φ tb X) (b : Bd X sc) (tk : Takes X W) (hw : i ∈ wr) (hi : X.N[i]? = some x)
    (h : okE tb false sc ie (.ListComp elt gs scope p) = true) (hsw : swB sc x pos' (.ListComp elt gs scope p) = true) :
    PS X (.Assign [.Name x pos'] (.ListComp elt gs scope p) pos) (tS T W wr fun ρ => (evE g Φ ie ρ).thn fun r ρ => .nx (ρ.set i (some r))) := by
  have hsc := b.sc_
  have hyl : X.env.scope.names.lookup x = some .local := by
    unfold swB at hsw
    rw [hsc]
    exact of_decide_eq_true (Bool.and_eq_true_iff.mp hsw).1
  have swt : swapsWith (.ListComp elt gs scope p) (some (.Name x pos')) pos.line X.env = pure true := by rw [sw_eq hsc b.kd, hsw]
  cases ie with
  | comp el own tg src c =>
    obtain ⟨tgE, iter, ifs, rfl, hh⟩ : ∃ tgE iter ifs, gs = [⟨tgE, iter, ifs, 0⟩] ∧ (blkC tb.N sc scope (ownP tb own) && (decide own.Nodup && (decide (∀ i ∈ own, i < tb.N.length) && (decide (∀ i ∈ tg.slots, i ∈ own) && (okTg tb scope tg tgE && (!Ex.isSet iter && (okI tb sc src iter && (okF tb (relS scope sc) c ifs && okE tb false (relS scope sc) el elt)))))))) = true := by
      generalize he : (Expr.ListComp elt gs scope p) = e at h
      unfold okE at h
      split at h <;> first | (cases he; exact ⟨_, _, _, rfl, h⟩) | exact absurd h Bool.false_ne_true | contradiction | (rename_i z; cases z; cases he; exact ⟨_, _, _, rfl, h⟩)
    simp only [Bool.and_eq_true, decide_eq_true_eq, Bool.not_eq_true'] at hh
    obtain ⟨h1, h2, h3, h4, h5, h6, h7, h8, h9⟩ := hh
    have em : (ownP tb own).map (·.2) = own := own_map
    have blk := blkOk_by h1
    rw [← hsc, ← kn.hN] at blk
    have q := ps_setLc (X := X) (pos := p) (spos := pos) (py := pos') (own := ownP tb own) (g := tg.rd X.K) (tt := tT T W0 (evC g Φ c)) (te := tD T W0 fun ρ => asD g.flds (evE g Φ el ρ)) kn.hc kn.nd hi hyl swt (snI src sc tgE iter W X kn hsc tk h7) blk
      (fun s H C cl fp => pg_of (X := X.blk s H scope (compEnvC scope cl C X.env) fp) kn.hN kn.nd kn.hc st_blk h5)
      (fun s H C cl fp => snF c (relS scope sc) ifs W0 (X.blk s H scope (compEnvC scope cl C X.env) fp) kn.blk (by rw [← hsc]; rfl) takes_none5 h8)
      (fun s H C cl fp => by
        have q := pe_asD ((snE el false (relS scope sc) elt W0 (X.blk s H scope (compEnvC scope cl C X.env) fp) kn.blk (by rw [← hsc]; rfl) takes_none5 h9).1 rfl)
        rw [← kn.fl] at q
        exact q) (fold_plain h6)
    refine q.impL fun D σ H hl q => lc_imp kn.hK (by rw [em]; exact h2) (n := X.N.length) (by rw [em, kn.hN]; exact h3) (by rw [em]; exact h4) hl ?_
    rw [em]
    exact asg_imp hw (by rw [hl]; exact (List.getElem?_eq_some_iff.mp hi).1) q
  | comp2 el own own1 tg src tg1 src1 c =>
    obtain ⟨tgE, iter, tgE1, iter1, ifs, rfl, hh⟩ : ∃ tgE iter tgE1 iter1 ifs1, gs = [⟨tgE, iter, [], 0⟩, ⟨tgE1, iter1, ifs1, 0⟩] ∧ (blkC tb.N sc scope (ownP tb own) && (decide own.Nodup && (decide own1.Nodup && (decide (∀ i ∈ own1, i ∈ own) && (decide (∀ i ∈ own, i < tb.N.length) && (decide (∀ i ∈ tg.slots, i ∈ own) && (decide (∀ i ∈ tg1.slots, i ∈ own1) &&
      (okTg tb scope tg tgE && (okTg tb scope tg1 tgE1 && (!Ex.isSet iter && (!Ex.isSet iter1 && (okI tb sc src iter && (okI tb (relS scope sc) src1 iter1 && (okF tb (relS scope sc) c ifs1 && okE tb false (relS scope sc) el elt)))))))))))))) = true := by
      generalize he : (Expr.ListComp elt gs scope p) = e at h
      unfold okE at h
      split at h <;> first | (cases he; exact ⟨_, _, _, _, _, rfl, h⟩) | exact absurd h Bool.false_ne_true | contradiction | (rename_i z; cases z; cases he; exact ⟨_, _, _, _, _, rfl, h⟩)
    simp only [Bool.and_eq_true, decide_eq_true_eq, Bool.not_eq_true'] at hh
    obtain ⟨h1, h2, h2', hv, h3, h4, h4', h5, h5', h6, h6', h7, h7', h8, h9⟩ := hh
    have em : (ownP tb own).map (·.2) = own := own_map
    have blk := blkOk_by h1
    rw [← hsc, ← kn.hN] at blk
    have q := ps_setLc2 (X := X) (pos := p) (spos := pos) (py := pos') (own := ownP tb own) (vs1 := own1) (g := tg.rd X.K) (g1 := tg1.rd X.K) (tt := tYes) (tt1 := tT T W0 (evC g Φ c)) (te := tD T W0 fun ρ => asD g.flds (evE g Φ el ρ)) kn.hc kn.nd hi hyl swt (snI src sc tgE iter W X kn hsc tk h7) blk (by rw [em]; exact hv)
      (fun s H C cl fp => pg_of (X := X.blk s H scope (compEnvC scope cl C X.env) fp) kn.hN kn.nd kn.hc st_blk h5)
      (fun _ _ _ _ _ => pts_nil)
      (fun s H C cl fp => snI src1 (relS scope sc) tgE1 iter1 W0 (X.blk s H scope (compEnvC scope cl C X.env) fp) kn.blk (by rw [← hsc]; rfl) takes_none5 h7')
      (fun s H C cl fp => pg_of (X := X.blk s H scope (compEnvC scope cl C X.env) fp) kn.hN kn.nd kn.hc st_blk h5')
      (fun s H C cl fp => snF c (relS scope sc) ifs W0 (X.blk s H scope (compEnvC scope cl C X.env) fp) kn.blk (by rw [← hsc]; rfl) takes_none5 h8)
      (fun s H C cl fp => by
        have q := pe_asD ((snE el false (relS scope sc) elt W0 (X.blk s H scope (compEnvC scope cl C X.env) fp) kn.blk (by rw [← hsc]; rfl) takes_none5 h9).1 rfl)
        rw [← kn.fl] at q
        exact q) (fold_plain h6) (fun _ => fold_plain h6')
    refine q.impL fun D σ H hl q => lc2_imp kn.hK (by rw [em]; exact h2) (n := X.N.length) (by rw [em, kn.hN]; exact h3) (by rw [em]; exact hv) (by rw [em]; exact h4) h4' hl ?_
    rw [em]
    exact asg_imp hw (by rw [hl]; exact (List.getElem?_eq_some_iff.mp hi).1) q
  | cst d => exact absurd h (by unfold okE; cases d <;> exact Bool.false_ne_true)
  | _ => cases h
theorem sws_of {tgE v : Expr} {env : PySem.Env} (h : notTup v = true) : swappedStores [tgE] v env = pure none := by
  cases v <;> cases tgE <;> first | rfl | cases h
/-! ### except clauses -/
theorem var_suite {X : Cx} {a : Addr} {oe : Obj} {pn : List (Addr × Obj)} {sc : Scope} {i : Nat} {y : Str} {p : Pos} (hN : X.N = tb.N) (hsc : X.env.scope = sc) (h : okV tb sc i y = true) : PE (X.suite a ((a, oe) :: pn)) (.Name y p) (tVar i) :=
  pv_of (X := X.suite a ((a, oe) :: pn)) hN hsc h
theorem cst_tC {X : Cx} {d : D} {e : Expr} (h : okC d e = true) : ∃ v, PE X e (tC v) ∧ (∀ F, Rp T F v d) ∧ Ex.star e = false := by
  unfold okC at h
  split at h
  · obtain rfl := of_decide_eq_true h; exact ⟨_, pe_int, fun F => .int _, rfl⟩
  · obtain rfl := of_decide_eq_true h; exact ⟨_, pe_str, fun F => .str _, rfl⟩
  · obtain rfl := of_decide_eq_true h; exact ⟨_, pe_bl, fun F => .bl _, rfl⟩
  · exact ⟨_, pe_non, fun F => .non, rfl⟩
  · cases h
theorem he_of {X : Cx} {sc : Scope} {a : Addr} {oe : Obj} {cls : Value} {dd : Option Addr} {pn : List (Addr × Obj)} {o : Option Nat} {he : HE} {e : Expr} {pos : Pos} (kn : Kn T g Φ tb X) (hsc : X.env.scope = sc) (hz : Zc cls dd oe) (hf : ∃ vs, oe.data = .fields vs) (h : okHE tb sc o he e = true) :
    PSs (X.suite a ((a, oe) :: pn)) [.Return (some e) pos] (tH T g a cls dd o he) := by
  cases he with
  | cst d =>
    obtain ⟨v, h1, h2, _⟩ := cst_tC (T := T) (X := X.suite a ((a, oe) :: pn)) (show okC d e = true by cases e <;> exact h)
    exact pss_hC h1 h2
  | fld n =>
    cases e with
    | Attribute x m p =>
      cases x with
      | Name y p0 =>
        have h' : (decide (n = m) && slB tb sc o y) = true := h
        simp only [Bool.and_eq_true, decide_eq_true_eq] at h'
        obtain ⟨rfl, h'⟩ := h'
        cases o with
        | none => cases h'
        | some i => exact pss_hF (nx := g.nx) rfl kn.xf (fun c hc => (kn.xr c hc).cl) hz hf (var_suite kn.hN hsc h')
      | _ => cases h
    | _ => cases h
  | pair d n =>
    obtain ⟨ec, y, p0, m, p1, k, p2, rfl, hh⟩ : ∃ ec y p0 m p1 k p2, e = .Tuple [ec, .Attribute (.Name y p0) m p1] k p2 ∧ (okC d ec && (decide (n = m) && slB tb sc o y)) = true := by
      unfold okHE at h
      split at h <;> first | exact ⟨_, _, _, _, _, _, _, rfl, h⟩ | exact absurd h Bool.false_ne_true | contradiction | (rename_i z; cases z; exact ⟨_, _, _, _, _, _, _, rfl, h⟩)
    simp only [Bool.and_eq_true, decide_eq_true_eq] at hh
    obtain ⟨h1, rfl, h3⟩ := hh
    obtain ⟨v, q1, q2, q3⟩ := cst_tC (T := T) (X := X.suite a ((a, oe) :: pn)) h1
    cases o with
    | none => cases h3
    | some i => exact pss_hP (nx := g.nx) rfl kn.xf (fun c hc => (kn.xr c hc).cl) hz hf (var_suite kn.hN hsc h3) q1 q2 q3
  | isEq c n d => cases e <;> cases h
theorem hds_of {X : Cx} {sc : Scope} (kn : Kn T g Φ tb X) (b : Bd X sc) : ∀ {hl : List Hd} {hds : List ExceptHandler}, okHds tb wr sc hl hds = true →
    ClOk X hds (hl.map fun h => (.ref (T.xcls h.c), h.slot, fun a cls dd => tH T g a cls dd h.slot h.ret)) ∧ (∀ h ∈ hl, h.c < tb.xcs.length) ∧ (∀ h ∈ hl, ∀ i, h.slot = some i → i ∈ wr) ∧ (∀ h ∈ hl, ∀ i, h.slot = some i → i < X.N.length)
  | [], [], _ => ⟨.nil, by simp, by simp, by simp⟩
  | h :: hl, e :: hds, hh => by
    have hh : (okHd tb wr sc h e && okHds tb wr sc hl hds) = true := hh
    simp only [Bool.and_eq_true] at hh
    obtain ⟨h1, h2⟩ := hh
    obtain ⟨r1, r2, r3, r4⟩ := hds_of kn b h2
    obtain ⟨c, slot, ret⟩ := h
    obtain ⟨x, p0, nm, v, p1, p2, rfl, hv⟩ : ∃ x p0 nm v p1 p2, e = .ExceptHandler (some (.Name x p0)) nm [.Return (some v) p1] p2 ∧ (decide (tb.xcs[c]? = some x) && (glB sc x && (dbgB x && (okHE tb sc slot ret v && nmB tb wr sc slot nm)))) = true := by
      unfold okHd at h1
      split at h1
      · exact ⟨_, _, _, _, _, _, rfl, h1⟩
      · cases h1
    simp only [Bool.and_eq_true, decide_eq_true_eq] at hv
    obtain ⟨a1, a2, a3, a4, a5⟩ := hv
    have nms : Names X x (.ref (T.xcls c)) := ⟨gl_of b.sc_ a2, (dbg_of a3).1, .inl (kn.xm c x a1)⟩
    have hc : c < tb.xcs.length := (List.getElem?_eq_some_iff.mp a1).1
    have su := fun (a : Addr) (oe : Obj) (cls : Value) (d : Option Addr) (pn : List (Addr × Obj)) (z : Zc cls d oe) (f : ∃ vs, oe.data = .fields vs) => he_of (a := a) (pos := p1) (pn := pn) kn b.sc_ z f a4
    cases slot with
    | none =>
      cases nm with
      | some _ => cases a5
      | none =>
        exact ⟨.bare nms su r1, fun h m => by rcases List.mem_cons.mp m with rfl | m; exact hc; exact r2 h m, fun h m i e => by rcases List.mem_cons.mp m with rfl | m; cases e; exact r3 h m i e, fun h m i e => by rcases List.mem_cons.mp m with rfl | m; cases e; exact r4 h m i e⟩
    | some i =>
      cases nm with
      | none => cases a5
      | some n =>
        have a5 : (decide (tb.N[i]? = some n) && (decide (sc.names.lookup n = some .local) && decide (i ∈ wr))) = true := a5
        simp only [Bool.and_eq_true, decide_eq_true_eq] at a5
        obtain ⟨b1, b2, b3⟩ := a5
        have hi : X.N[i]? = some n := by rw [kn.hN]; exact b1
        refine ⟨.named hi (by show X.env.scope.names.lookup n = _; rw [b.sc_]; exact b2) nms su r1, fun h m => by rcases List.mem_cons.mp m with rfl | m; exact hc; exact r2 h m, fun h m j e => ?_, fun h m j e => ?_⟩
        · rcases List.mem_cons.mp m with rfl | m
          · cases e; exact b3
          · exact r3 h m j e
        · rcases List.mem_cons.mp m with rfl | m
          · cases e; exact (List.getElem?_eq_some_iff.mp hi).1
          · exact r4 h m j e
  | [], _ :: _, h => by cases h
  | _ :: _, [], h => by cases h
mutual
theorem snS : ∀ (is : IS) (sc : Scope) (st : Stmt) (W : WX) (X : Cx), Kn T g Φ tb X → Bd X sc → Takes X W → PassesOwn (model X.prog X.w) X.A X.env X.xe → okS tb wr sc is st = true → PS X st (tS T W wr (evS g Φ is))
  | .asg i e, sc, st, W, X, kn, b, tk, po, h => by
    obtain ⟨x, px, v, p, rfl, hh⟩ : ∃ x px v p, st = .Assign [.Name x px] v p ∧ (decide (tb.N[i]? = some x) && (decide (i ∈ wr) && (stB sc x && okE tb false sc e v))) = true := by
      unfold okS at h
      split at h <;> first | exact ⟨_, _, _, _, rfl, h⟩ | exact absurd h Bool.false_ne_true | contradiction | (rename_i z; cases z; exact ⟨_, _, _, _, rfl, h⟩)
    simp only [Bool.and_eq_true, decide_eq_true_eq] at hh
    obtain ⟨h1, h2, h3, h4⟩ := hh
    have hi : X.N[i]? = some x := by rw [kn.hN]; exact h1
    by_cases sw : swB sc x px v = true
    · cases v with
      | ListComp elt gs scope p' => exact ps_asgC kn b tk h2 hi h4 sw
      | _ => cases sw
    · have hv : Ex.compr v = false ∨ ∃ elt gs scope pos, v = .ListComp elt gs scope pos := by
        cases v <;> first | exact .inl rfl | exact .inr ⟨_, _, _, _, rfl⟩ | (exfalso; revert h4; cases e <;> first | (intro h4; cases h4; done) | (rename_i d; cases d <;> (intro h4; cases h4)))
      exact ps_asgW h2 kn.nd hi (st_def b x h3).1 (b.fn x) ((snE e false sc v W X kn b.sc_ tk h4).1 rfl) (by rw [sw_any b.sc_ b.kd hv]; rw [Bool.eq_false_iff.mpr sw])
  | .unp is e, sc, st, W, X, kn, b, tk, po, h => by
    obtain ⟨tgE, v, p, rfl, hh⟩ : ∃ tgE v p, st = .Assign [tgE] v p ∧ (okTg tb sc (.many is) tgE && (decide (∀ i ∈ is, i ∈ wr) && (decide (∀ i ∈ is, i < tb.N.length) && (!Ex.compr v && (notTup v && okE tb false sc e v))))) = true := by
      unfold okS at h
      split at h <;> first | exact ⟨_, _, _, rfl, h⟩ | exact absurd h Bool.false_ne_true | contradiction | (rename_i z; cases z; exact ⟨_, _, _, rfl, h⟩)
    simp only [Bool.and_eq_true, decide_eq_true_eq, Bool.not_eq_true'] at hh
    obtain ⟨h1, h2, h3, h4, h5, h6⟩ := hh
    have he := pe_asD ((snE e false sc v W X kn b.sc_ tk h6).1 rfl)
    rw [← kn.fl] at he
    refine ps_unpF kn.hK h2 (by rw [kn.hN]; exact h3) he (pg_of kn.hN kn.nd kn.hc (st_def b) h1) h4 (sws_of h5) ?_
    cases tgE with
    | Tuple es k p' => rfl
    | _ => cases h1
  | .par is es, sc, st, W, X, kn, b, tk, po, h => by cases st <;> cases h
  | .seti i k e, sc, st, W, X, kn, b, tk, po, h => by
    obtain ⟨x, px, ek, p1, v, p, rfl, hh⟩ : ∃ x px ek p1 v p, st = .Assign [.Subscript (.Name x px) ek p1] v p ∧ (okV tb sc i x && (!Ex.compr v && (!Ex.isSlice ek && (okE tb false sc k ek && okE tb false sc e v)))) = true := by
      unfold okS at h
      split at h <;> first | exact ⟨_, _, _, _, _, _, rfl, h⟩ | exact absurd h Bool.false_ne_true | contradiction | (rename_i z; cases z; exact ⟨_, _, _, _, _, _, rfl, h⟩)
    simp only [Bool.and_eq_true, decide_eq_true_eq, Bool.not_eq_true'] at hh
    obtain ⟨h1, h2, h3, h4, h5⟩ := hh
    have q := ps_setiF (wr := wr) (pos := p) (p1 := p1) (pv_of (p := px) kn.hN b.sc_ h1) (pe_asD ((snE k false sc ek W X kn b.sc_ tk h4).1 rfl)) (pe_asD ((snE e false sc v W X kn b.sc_ tk h5).1 rfl)) h2 h3
    rw [← kn.fl] at q
    exact q
  | .fld i f e, sc, st, W, X, kn, b, tk, po, h => by
    obtain ⟨x, px, n, p1, v, p, rfl, hh⟩ : ∃ x px n p1 v p, st = .Assign [.Attribute (.Name x px) n p1] v p ∧ (okV tb sc i x && (decide (tb.fnm[f]? = some n) && (!Ex.compr v && okE tb false sc e v))) = true := by
      unfold okS at h
      split at h <;> first | exact ⟨_, _, _, _, _, _, rfl, h⟩ | exact absurd h Bool.false_ne_true | contradiction | (rename_i z; cases z; exact ⟨_, _, _, _, _, _, rfl, h⟩)
    simp only [Bool.and_eq_true, decide_eq_true_eq, Bool.not_eq_true'] at hh
    obtain ⟨h1, h2, h3, h4⟩ := hh
    have he := pe_asD ((snE e false sc v W X kn b.sc_ tk h4).1 rfl)
    rw [← kn.fl] at he
    exact ps_fldF (g := g) (wr := wr) (pos := p) kn.hK kn.cl rfl kn.fl (kn.fd f n h2).symm (pv_of (p := px) kn.hN b.sc_ h1) he h3
  | .app i e, sc, st, W, X, kn, b, tk, po, h => by
    obtain ⟨x, p0, m, p1, a, p2, p, rfl, hh⟩ : ∃ x p0 m p1 a p2 p, st = .Expr (.Call (.Attribute (.Name x p0) m p1) [a] [] p2) p ∧ (decide (m = "append") && (okV tb sc i x && (!Ex.star a && (p1.endLine == p2.line && okE tb false sc e a)))) = true := by
      unfold okS at h
      split at h <;> first | exact ⟨_, _, _, _, _, _, _, rfl, h⟩ | exact absurd h Bool.false_ne_true | contradiction | (rename_i z; cases z; exact ⟨_, _, _, _, _, _, _, rfl, h⟩)
    simp only [Bool.and_eq_true, decide_eq_true_eq, Bool.not_eq_true'] at hh
    obtain ⟨rfl, h1, h2, h3, h4⟩ := hh
    have he := pe_asD ((snE e false sc a W X kn b.sc_ tk h4).1 rfl)
    rw [← kn.fl] at he
    exact ps_appF (wr := wr) (pos := p) (pv_of (p := p0) kn.hN b.sc_ h1) he h2 h3
  | .insr i k e, sc, st, W, X, kn, b, tk, po, h => by
    obtain ⟨x, p0, m, p1, c, a, p2, p, rfl, hh⟩ : ∃ x p0 m p1 c a p2 p, st = .Expr (.Call (.Attribute (.Name x p0) m p1) [c, a] [] p2) p ∧ (decide (m = "insert") && (okV tb sc i x && (!Ex.star c && (!Ex.star a && (p1.endLine == p2.line && (okE tb false sc k c && okE tb false sc e a)))))) = true := by
      unfold okS at h
      split at h <;> first | exact ⟨_, _, _, _, _, _, _, _, rfl, h⟩ | exact absurd h Bool.false_ne_true | contradiction | (rename_i z; cases z; exact ⟨_, _, _, _, _, _, _, _, rfl, h⟩)
    simp only [Bool.and_eq_true, decide_eq_true_eq, Bool.not_eq_true'] at hh
    obtain ⟨rfl, h1, h2, h3, h4, h5, h6⟩ := hh
    have hk := pe_asD ((snE k false sc c W X kn b.sc_ tk h5).1 rfl)
    have he := pe_asD ((snE e false sc a W X kn b.sc_ tk h6).1 rfl)
    rw [← kn.fl] at he hk
    exact ps_insrF (wr := wr) (pos := p) (pv_of (p := p0) kn.hN b.sc_ h1) hk he h2 h3 h4
  | .ex e, sc, st, W, X, kn, b, tk, po, h => by
    obtain ⟨v, p, rfl, hh⟩ : ∃ v p, st = .Expr v p ∧ (!Ex.compr v && okE tb false sc e v) = true := by
      unfold okS at h
      split at h <;> first | exact ⟨_, _, rfl, h⟩ | exact absurd h Bool.false_ne_true | contradiction | (rename_i z; cases z; exact ⟨_, _, rfl, h⟩)
    simp only [Bool.and_eq_true, decide_eq_true_eq, Bool.not_eq_true'] at hh
    exact ps_exF ((snE e false sc v W X kn b.sc_ tk hh.2).1 rfl) hh.1
  | .ifs c x y, sc, st, W, X, kn, b, tk, po, h => by
    obtain ⟨c', x', y', p, rfl, hh⟩ : ∃ c' x' y' p, st = .If c' x' y' p ∧ (okE tb true sc c c' && (okSs tb wr sc x x' && okSs tb wr sc y y')) = true := by
      unfold okS at h
      split at h <;> first | exact ⟨_, _, _, _, rfl, h⟩ | exact absurd h Bool.false_ne_true | contradiction | (rename_i z; cases z; exact ⟨_, _, _, _, rfl, h⟩)
    simp only [Bool.and_eq_true] at hh
    obtain ⟨h1, h2, h3⟩ := hh
    exact ps_ifsF (pt_teE kn b.sc_ h1 ((snE c true sc c' W X kn b.sc_ tk h1).2 rfl)) (snSs x sc x' W X kn b tk po h2) (snSs y sc y' W X kn b tk po h3)
  | .for_ tg src body, sc, st, W, X, kn, b, tk, po, h => by
    obtain ⟨tgE, iter, bd, p, rfl, hh⟩ : ∃ tgE iter bd p, st = .For tgE iter bd [] p ∧ (okI tb sc src iter && (okTg tb sc tg tgE && (decide (∀ i ∈ tg.slots, i < tb.N.length) && (decide (∀ i ∈ tg.slots, i ∈ wr) && (!Ex.isSet iter && okSs tb wr sc body bd))))) = true := by
      unfold okS at h
      split at h <;> first | exact ⟨_, _, _, _, rfl, h⟩ | exact absurd h Bool.false_ne_true | contradiction | (rename_i z; cases z; exact ⟨_, _, _, _, rfl, h⟩)
    simp only [Bool.and_eq_true, decide_eq_true_eq, Bool.not_eq_true'] at hh
    obtain ⟨h1, h2, h3, h4, h5, h6⟩ := hh
    exact ps_forF po kn.hc kn.hK (snI src sc tgE iter W X kn b.sc_ tk h1) (pg_of kn.hN kn.nd kn.hc (st_def b) h2) (by rw [kn.hN]; exact h3) h4 (snSs body sc bd W X kn b tk po h6) h5
  | .ret e, sc, st, W, X, kn, b, tk, po, h => by
    obtain ⟨v, p, rfl, hh⟩ : ∃ v p, st = .Return (some v) p ∧ (okE tb false sc e v) = true := by
      unfold okS at h
      split at h <;> first | exact ⟨_, _, rfl, h⟩ | exact absurd h Bool.false_ne_true | contradiction | (rename_i z; cases z; exact ⟨_, _, rfl, h⟩)
    exact ps_retF ((snE e false sc v W X kn b.sc_ tk hh).1 rfl)
  | .retm i, sc, st, W, X, kn, b, tk, po, h => by
    obtain ⟨x, p0, p, rfl, hh⟩ : ∃ x p0 p, st = .Return (some (.Name x p0)) p ∧ (okV tb sc i x) = true := by
      unfold okS at h
      split at h <;> first | exact ⟨_, _, _, rfl, h⟩ | exact absurd h Bool.false_ne_true | contradiction | (rename_i z; cases z; exact ⟨_, _, _, rfl, h⟩)
    exact ps_retmF (pv_of (p := p0) kn.hN b.sc_ hh)
  | .rai c e, sc, st, W, X, kn, b, tk, po, h => by
    obtain ⟨x, p0, a, p1, p, rfl, hh⟩ : ∃ x p0 a p1 p, st = .Raise (some (.Call (.Name x p0) [a] [] p1)) none p ∧ (decide (tb.xcs[c]? = some x) && (decide (c < tb.nx) && (glB sc x && (dbgB x && (!Ex.star a && okE tb false sc e a))))) = true := by
      unfold okS at h
      split at h <;> first | exact ⟨_, _, _, _, _, rfl, h⟩ | exact absurd h Bool.false_ne_true | contradiction | (rename_i z; cases z; exact ⟨_, _, _, _, _, rfl, h⟩)
    simp only [Bool.and_eq_true, decide_eq_true_eq, Bool.not_eq_true'] at hh
    obtain ⟨h1, h2, h3, h4, h5, h6⟩ := hh
    have he := pe_asD ((snE e false sc a W X kn b.sc_ tk h6).1 rfl)
    rw [← kn.fl] at he
    exact ps_raiF kn.hc tk (kn.xr c (by rw [← kn.nx]; exact h2)) (gl_of b.sc_ h3) (kn.xm c x h1) he h5 (dbg_of h4).1
  | .try_ body hs, sc, st, W, X, kn, b, tk, po, h => by
    obtain ⟨bd, h0, hds, p, rfl, hh⟩ : ∃ bd h0 hds p, st = .Try bd (h0 :: hds) [] [] p ∧ (okSs tb wr sc body bd && okHds tb wr sc hs (h0 :: hds)) = true := by
      unfold okS at h
      split at h <;> first | exact ⟨_, _, _, _, rfl, h⟩ | exact absurd h Bool.false_ne_true | contradiction | (rename_i z; cases z; exact ⟨_, _, _, _, rfl, h⟩)
    simp only [Bool.and_eq_true] at hh
    obtain ⟨r1, r2, r3, r4⟩ := hds_of kn b hh.2
    exact ps_tryF b.hs b.hf kn.nd tk (fun W' pn xe tk' po' => snSs body sc bd W' (X.tr pn xe) kn.tr b.tr tk' po' hh.1) r1 (fun h m c hc => kn.xe c h.c hc (r2 h m)) r3 r4
  | .brk, sc, st, W, X, kn, b, tk, po, h => by
    cases st with
    | Break p => exact ps_brkF
    | _ => cases h
  | .cnt, sc, st, W, X, kn, b, tk, po, h => by
    cases st with
    | Continue p => exact ps_cntF
    | _ => cases h
  | .pas, sc, st, W, X, kn, b, tk, po, h => by
    cases st with
    | Pass p => exact ps_pasF
    | _ => cases h
theorem snSs : ∀ (is : ISs) (sc : Scope) (sts : List Stmt) (W : WX) (X : Cx), Kn T g Φ tb X → Bd X sc → Takes X W → PassesOwn (model X.prog X.w) X.A X.env X.xe → okSs tb wr sc is sts = true → PSs X sts (tS T W wr (evSs g Φ is))
  | .nil, sc, sts, W, X, kn, b, tk, po, h => by
    cases sts with
    | nil => exact pss_nilF
    | cons _ _ => cases h
  | .cons i is, sc, sts, W, X, kn, b, tk, po, h => by
    cases sts with
    | nil => cases h
    | cons st sts =>
      have h := Bool.and_eq_true_iff.mp (show (okS tb wr sc i st && okSs tb wr sc is sts) = true from h)
      exact pss_consF (snS i sc st W X kn b tk po h.1) (snSs is sc sts W X kn b tk po h.2)
end
end Fx
end
section
set_option linter.all false
set_option Elab.async false
set_option maxRecDepth 100000
set_option maxHeartbeats 4000000
/-! The module: its defs, what they compute, and that the model agrees. -/
namespace Fx
open PySem PySem.Spec L2
/-- a def: its statement, where it stands, its names, what it may write, its body -/
structure DefI where
  st : Stmt
  at_ : Str × Option Str
  name : Str
  qual : Str
  ps : List Str
  N : List Str
  wr : List Nat
  body : ISs
/-- an error class's __init__ -/
structure ErrI where
  x : Str
  f : Str
  st : Stmt
  qual : Str
  s : Str
  v : Str
structure Md where
  defs : List DefI
  fns : List (Str × Nat)
  cls : List (Str × Nat)
  ini : List Nat
  eqf : List (Option Nat)
  flds : List (List Nat)
  fnm : List Str
  errs : List ErrI
  /-- the classes that clauses name: first those of errs -/
  xcs : List Str
  isa : List (List Bool)
  gls : List (Str × Int)
variable (md : Md)
def Md.tb (N : List Str) : Tb := ⟨N, md.fns, md.cls, md.xcs, md.errs.length, md.gls.map (·.1), md.fnm⟩
def Md.g : G where
  nc := md.cls.length
  flds := fun c => md.flds.getD c []
  ini := fun c => md.ini.getD c 0
  eqf := fun c => (md.eqf.getD c none).getD 0
  eqk := fun c => (md.eqf.getD c none).isSome
  gl := fun i => (md.gls[i]?).map fun p => .int p.2
  isa := fun c x => (md.isa.getD c []).getD x false
  nx := md.errs.length
  xf := fun c => (md.errs.map (·.f)).getD c ""
def Md.T (K : PySem.W.Frag) : Nm where
  K := K
  cls := fun c => He.ga K ((md.cls.map (·.1)).getD c "")
  flds := fun c => md.flds.getD c []
  fname := fun f => md.fnm.getD f ""
  xcls := fun c => He.ga K (md.xcs.getD c "")
  xfld := fun c => (md.errs.map (·.f)).getD c ""
/-! ### what the defs compute -/
/-- what a body gives back of its parameters -/
def outsA (wr : List Nat) (ρ : Env) : Nat → Nat → Env
  | _, 0 => []
  | i, n + 1 => (if i ∈ wr then none else ρ.at i) :: outsA wr ρ (i + 1) n
def DefI.fin (d : DefI) (x : SRes) : FRes := match x with
  | .nx ρ => .ok (.val .non) (outsA d.wr ρ 0 d.ps.length)
  | .rt r ρ => .ok r (outsA d.wr ρ 0 d.ps.length)
  | .exc c v ρ => .exc c v (outsA d.wr ρ 0 d.ps.length)
  | _ => .stuck
def DefI.env (d : DefI) (rs : List R) : Env := rs.map some ++ List.replicate (d.N.length - rs.length) none
def Md.Φ : Nat → Fn
  | 0, _, _ => .stuck
  | n + 1, f, rs => match md.defs[f]? with
    | some d => if rs.length = d.ps.length then d.fin (evSs md.g (Md.Φ n) d.body (d.env rs)) else .stuck
    | none => .stuck
/-! ### Boolean checks -/
def DefI.okB (d : DefI) : Bool := C8.scC d.N d.ps (defScope d.st) && okSs (md.tb d.N) d.wr (defScope d.st) d.body (defBody d.st)
def notFB (K : PySem.W.Frag) (C : Addr) : Bool := tyNames.all fun n => PySem.W.notFirst K C (.type n)
def dB {α : Type} [DecidableEq α] (a b : α) : Bool := decide (a = b)
def clsB (K : PySem.W.Frag) (x : Str) (fs : List Str) : Bool :=
  (He.Fa.glo x).ok K && ((He.Fa.cls x).ok K && (fs.all (fun f => (He.Fa.noat x f).ok K) && ((He.Fa.mkr x).ok K &&
  (dB (PySem.W.findIn K (.ref (He.ga K x)) "__class__") (some (some (.builtin "object.__class__"))) &&
  (dB (PySem.W.specialIn K (.builtin "object.__class__") "__get__") (some (some (.builtin "getset_descriptor.__get__"))) &&
  (dB (PySem.W.takesIn K (.builtin "object.__class__")) (some true) &&
  (dB (PySem.W.mroIn K (He.ga K x) (.type "object")) (some true) &&
  (tyNames.all (fun n => dB (PySem.W.kitOne K (.type n) (.ref (He.ga K x))) (some false)) && tyNames.all (fun n => dB (PySem.W.kitOne K (.ref (He.ga K x)) (.type n)) (some false))))))))))
def eqB (K : PySem.W.Frag) (x : Str) : Bool :=
  dB (PySem.W.findIn K (.ref (He.ga K x)) "__eq__") (some (some (.ref (He.ma K (He.ga K x) "__eq__")))) && (PySem.W.isFn K (.ref (He.ma K (He.ga K x) "__eq__")) && notFB K (He.ga K x))
def oexB (K : PySem.W.Frag) (C : Addr) : Bool := match K.lookup C with
  | some ⟨.type "type", _, .cls cd, sl⟩ => (match cd.mro, sl.toList with
    | .ref C' :: bm, [_, _, _, _, some (.builtin n), _] => decide (C' = C) && (decide (n = "ValueError.__new__") && (!cd.hasDel && (cd.hasDict && PySem.HandSPX.refsVE bm)))
    | _, _ => false)
  | _ => false
theorem oexB_ok {K : PySem.W.Frag} {C : Addr} (h : oexB K C = true) : ∃ nm q N bs bm sn sub ab col dd k0 k1 k2 k3 k5, K.lookup C = some (excClassObj nm q C N bs bm true sn sub ab col dd k0 k1 k2 k3 k5 "ValueError.__new__") ∧ PySem.HandSPX.refsVE bm = true := by
  unfold oexB at h
  split at h
  · rename_i dd cd sl ho
    split at h
    · rename_i C' bm k0 k1 k2 k3 n k5 hm hs
      simp only [Bool.and_eq_true, decide_eq_true_eq, Bool.not_eq_true'] at h
      obtain ⟨rfl, rfl, hdel, hdict, ht⟩ := h
      obtain ⟨nm, bs, mro, ns, qn, hd, sn, sub, ab, col, del⟩ := cd
      dsimp only at hm hdel hdict
      subst hm hdel hdict
      have hsl : sl = #[k0, k1, k2, k3, some (.builtin "ValueError.__new__"), k5] := by
        obtain ⟨l⟩ := sl
        simp only at hs
        rw [hs]
      subst hsl
      exact ⟨nm, qn, ns, bs, bm, sn, sub, ab, col, dd, k0, k1, k2, k3, k5, ho, ht⟩
    · cases h
  · cases h
def errB (K : PySem.W.Frag) (x f : Str) : Bool :=
  oexB K (He.ga K x) && (dB (PySem.W.findIn K (.ref (He.ga K x)) "__setattr__") (some (some (.builtin "object.__setattr__"))) && (dB (PySem.W.subIn K (.ref (He.ga K x)) (.type "BaseException")) (some true) &&
  (dB (PySem.W.typeIn K (.ref (He.ga K x))) (some (.type "type")) && (PySem.W.keepIn K (.ref (He.ga K x)) && (xfB K (He.ga K x) && ((He.Fa.noat x f).ok K &&
  (dB (PySem.W.findIn K (.ref (He.ga K x)) "__init__") (some (some (.ref (He.ma K (He.ga K x) "__init__")))) && dB (PySem.W.typeIn K (.ref (He.ma K (He.ga K x) "__init__"))) (some (.type "function")))))))))
def bfs : List BF := [.len, .abs, .int, .str, .list, .tuple, .all, .any, .sum, .range, .sorted, .max, .min]
/-- what the run tells of the written part -/
def Md.chk (K : PySem.W.Frag) : Bool :=
  (md.fns.all fun p => dB p.1 "" || (He.Fa.glo p.1).ok K) && (((List.range md.cls.length).all fun c => clsB K ((md.cls.map (·.1)).getD c "") ((md.flds.getD c []).map fun f => md.fnm.getD f "")) &&
  (((List.range md.cls.length).all fun c => (List.range md.cls.length).all fun c' => dB (PySem.W.kitOne K (.ref (He.ga K ((md.cls.map (·.1)).getD c ""))) (.ref (He.ga K ((md.cls.map (·.1)).getD c' "")))) (some (decide (c' = c))) && PySem.W.notFirst K (He.ga K ((md.cls.map (·.1)).getD c "")) (.ref (He.ga K ((md.cls.map (·.1)).getD c' "")))) &&
  (((List.range md.cls.length).all fun c => !(md.eqf.getD c none).isSome || eqB K ((md.cls.map (·.1)).getD c "")) &&
  ((md.errs.all fun e => errB K e.x e.f) && ((md.xcs.all fun x => (He.Fa.glo x).ok K) &&
  (((List.range md.errs.length).all fun c => (List.range md.xcs.length).all fun c' => dB (PySem.W.exmOne K (.ref (He.ga K (md.xcs.getD c ""))) (.ref (He.ga K (md.xcs.getD c' "")))) (some (md.g.isa c c'))) &&
  ((bfs.all fun b => (He.Fa.free b.name).ok K) && ((He.Fa.free "isinstance").ok K && ((He.Fa.free "bool").ok K && (md.gls.all fun p => (He.Fa.int p.1 p.2).ok K))))))))))
def ErrI.okB (e : ErrI) : Bool := C8.scC [e.s, e.v] [e.s, e.v] (defScope e.st) && ((dbgB e.s && (dbgB e.v && (visB (defScope e.st) e.s && visB (defScope e.st) e.v))) && (match defBody e.st with
  | [.Assign [.Attribute (.Name s _) f _] (.Name v _) _] => dB s e.s && (dB f e.f && dB v e.v)
  | _ => false))
def lnkF (d? : Option DefI) (a : Str × Option Str) (np : Nat) : Bool := match d? with
  | some d => decide (d.at_ = a) && decide (d.ps.length = np)
  | none => false
def Md.lnk : Bool :=
  (List.range md.fns.length).all (fun f => match md.fns[f]? with
    | some (x, np) => lnkF md.defs[f]? (x, none) np
    | none => false) &&
  ((List.range md.cls.length).all (fun c => match md.cls[c]? with
    | some (x, np) => lnkF md.defs[md.g.ini c]? (x, some "__init__") (np + 1) && (!md.g.eqk c || lnkF md.defs[md.g.eqf c]? (x, some "__eq__") 2)
    | none => false))
/-- what is to be seen of the description alone -/
def Md.shape : Bool :=
  (List.range md.errs.length).all (fun c => dB ((md.errs.map (·.x)).getD c ("" : Str)) (md.xcs.getD c "")) && (decide (md.errs.length ≤ md.xcs.length) &&
  (List.range md.cls.length).all (fun c => decide (((md.flds.getD c []).map fun f => md.fnm.getD f ("" : Str)).Nodup) && decide ((md.flds.getD c []).length ≤ 900)))
end Fx
end
section
set_option linter.all false
set_option Elab.async false
set_option maxRecDepth 100000
set_option maxHeartbeats 4000000
/-! Each def keeps the promise of its level. -/
namespace Fx
open PySem PySem.Spec L2
variable {md : Md}
theorem dB_ok {α : Type} [DecidableEq α] {a b : α} (h : dB a b = true) : a = b := of_decide_eq_true h
/-- the facts -/
structure Fs (md : Md) (K : PySem.W.Frag) (mg : Str → Option Value) : Prop where
  X : ∃ h : Heap, K.In h ∧ h.Ns mainGlobals mg
  chk : md.chk K = true
  shape : md.shape = true
  lnk : md.lnk = true
  nb : ∀ (f : Nat) (x : Str) (np : Nat), md.fns[f]? = some (x, np) → x = "" → False
  defs : ∀ (f : Nat) (d : DefI), md.defs[f]? = some d → d.okB md = true ∧ ∃ fd, FunD K d.name d.qual (defArgs d.st) (defBody d.st) (defScope d.st) [] [] (He.fAd K d.at_) fd ∧ Binds K fd d.ps []
  errs : ∀ (c : Nat) (e : ErrI), md.errs[c]? = some e → e.okB = true ∧ ∃ fd, FunD K "__init__" e.qual (defArgs e.st) (defBody e.st) (defScope e.st) [] [] (He.fAd K (e.x, some "__init__")) fd ∧ Binds K fd [e.s, e.v] []
theorem all_range {n : Nat} {p : Nat → Bool} (h : (List.range n).all p = true) {i : Nat} (hi : i < n) : p i = true := List.all_eq_true.mp h i (List.mem_range.mpr hi)
theorem all_get {α : Type} {l : List α} {p : α → Bool} (h : l.all p = true) {i : Nat} {a : α} (e : l[i]? = some a) : p a = true := List.all_eq_true.mp h a (List.mem_of_getElem? e)
section
variable {P : Program} {w : World} {K : PySem.W.Frag} {mg : Str → Option Value} {base : Heap}
/-- an error's __init__ -/
theorem err_fn {CX : CXT} {e : ErrI} {fa : Addr} {fd : FuncData} (ok : e.okB = true) (F : FunD K "__init__" e.qual (defArgs e.st) (defBody e.st) (defScope e.st) [] [] fa fd) : FnOk P w K mg base CX 1 fa fd [e.s, e.v] (spI K e.f) := by
  unfold ErrI.okB at ok
  simp only [Bool.and_eq_true] at ok
  obtain ⟨h1, ⟨h2, h3, h4, h5⟩, h6⟩ := ok
  have S := C8.fnScope_by h1
  refine F.ok (k := 0) S (fun vs H Q E h => ?_) fun cdv A outer s H vs Q E hr h => ?_
  · obtain ⟨a, C, y, rfl, _⟩ := h; rfl
  · split at h6
    · rename_i s' ps f pf v pv p hb
      simp only [Bool.and_eq_true] at h6
      obtain ⟨e1, e2, e3⟩ := h6
      have e1 := dB_ok e1
      have e2 := dB_ok e2
      have e3 := dB_ok e3
      subst e1 e2 e3
      rw [hb]
      obtain ⟨d1, d2⟩ := dbg_of h2
      obtain ⟨d3, d4⟩ := dbg_of h3
      refine ⟨_, pss_one (ps_ost (pe_var (i := 0) rfl (vis_of h4) d1 d2) (pe_var (i := 1) rfl (vis_of h5) d3 d4) (swaps_plain rfl)), ?_⟩
      obtain ⟨a, C, y, rfl, oc, no, ha, k⟩ := h
      exact ⟨y, rfl, .ref a, rfl, a, C, rfl, oc, no, .inl ⟨ha, fun dx n1 n2 => k dx n1 n2⟩⟩
    · cases h6
/-! ### a body's end, from what its caller wants -/
theorem outsA_len {wr : List Nat} {ρ : Env} : ∀ {n i : Nat}, (outsA wr ρ i n).length = n
  | 0, _ => rfl
  | n + 1, i => congrArg Nat.succ outsA_len
theorem lives_sl {T : Nm} : ∀ (outs : Env) (vs : List V) (ρ : Env) (σ : St) (L : Lv), Sl ρ σ L → (∀ (i : Nat) (r : R) (v : V), outs[i]? = some (some r) → vs[i]? = some v → ρ[i]? = some (some r) ∧ σ[i]? = some (some v)) → ∃ K, L.Perm (K ++ lives outs vs)
  | [], vs, _, _, L, _, _ => ⟨L, by unfold lives; simp⟩
  | some r :: outs, [], _, _, L, _, _ => ⟨L, by unfold lives; simp⟩
  | none :: outs, [], _, _, L, _, _ => ⟨L, by unfold lives; simp⟩
  | some r :: outs, v :: vs, ρ, σ, L, sl, h => by
    obtain ⟨e1, e2⟩ := h 0 r v rfl rfl
    cases sl with
    | nil => simp at e1
    | non sl => simp at e1
    | @som ρ' σ' L' r' v' sl =>
      simp at e1 e2
      subst e1 e2
      obtain ⟨K, p⟩ := lives_sl (T := T) outs vs ρ' σ' L' sl fun i r v a b => by
        have := h (i + 1) r v (by simpa using a) (by simpa using b)
        simpa using this
      exact ⟨K, (List.Perm.cons _ p).trans List.perm_middle.symm⟩
  | none :: outs, v :: vs, ρ, σ, L, sl, h => by
    cases sl with
    | nil =>
      have hn : ∀ (os : Env) (vs : List V), (∀ (i : Nat) (r : R) (v : V), os[i]? = some (some r) → vs[i]? = some v → False) → lives os vs = [] := by
        intro os
        induction os with
        | nil => intro vs _; rfl
        | cons o os ih =>
          intro vs h
          cases vs with
          | nil => cases o <;> rfl
          | cons v vs =>
            cases o with
            | some r => exact (h 0 r v rfl rfl).elim
            | none => exact ih vs fun i r v a b => h (i + 1) r v (by simpa using a) (by simpa using b)
      refine ⟨[], ?_⟩
      have e : lives (none :: outs) (v :: vs) = [] := hn _ _ fun i r v a b => by
        have := (h i r v a b).1
        simp at this
      rw [e]; exact .refl _
    | @non ρ' σ' L' x sl =>
      obtain ⟨K, p⟩ := lives_sl (T := T) outs vs ρ' σ' L sl fun i r v a b => by
        have := h (i + 1) r v (by simpa using a) (by simpa using b)
        simpa using this
      exact ⟨K, p⟩
    | @som ρ' σ' L' r' v' sl =>
      obtain ⟨K, p⟩ := lives_sl (T := T) outs vs ρ' σ' L' sl fun i r v a b => by
        have := h (i + 1) r v (by simpa using a) (by simpa using b)
        simpa using this
      exact ⟨(r', v') :: K, List.Perm.cons _ p⟩
theorem outsA_get {wr : List Nat} {ρ : Env} : ∀ {n i j : Nat} {r : R}, (outsA wr ρ i n)[j]? = some (some r) → (i + j) ∉ wr ∧ ρ.at (i + j) = some r
  | 0, _, j, _, h => by simp [outsA] at h
  | n + 1, i, 0, r, h => by
    simp only [outsA, List.getElem?_cons_zero, Option.some.injEq] at h
    split at h
    · cases h
    · rename_i hn
      exact ⟨hn, h⟩
  | n + 1, i, j + 1, r, h => by
    have h : (outsA wr ρ (i + 1) n)[j]? = some (some r) := by simpa [outsA] using h
    have q := outsA_get h
    have e : i + 1 + j = i + (j + 1) := by omega
    rw [e] at q
    exact q
theorem back_cf {T : Nm} {F H : Hp} {M : Lv} {ρ : Env} {σ : St} {wr : List Nat} {N : List Str} {vs : List V} (cf : Cf T F H M ρ σ) (ag : Ag wr (start N vs) σ) : Reps T F H (lives (outsA wr ρ 0 vs.length) vs ++ M) := by
  obtain ⟨L, sl, rp⟩ := cf
  obtain ⟨K, p⟩ := lives_sl (T := T) (outsA wr ρ 0 vs.length) vs ρ σ L sl fun i r v a b => by
    obtain ⟨h1, h2⟩ := outsA_get a
    rw [Nat.zero_add] at h1 h2
    refine ⟨at_get h2, ?_⟩
    rw [ag.2 i h1]
    unfold L2.start
    rw [List.getElem?_append_left (by rw [List.length_map]; exact (List.getElem?_eq_some_iff.mp b).1), List.getElem?_map, b]
    rfl
  have q : Reps T F H (K ++ (lives (outsA wr ρ 0 vs.length) vs ++ M)) := rp.perm ((List.Perm.append_left M p).trans (by
    refine List.perm_append_comm.trans ?_
    rw [List.append_assoc]))
  exact q.drop
theorem start_cf {T : Nm} {F H : Hp} {L : Lv} {rs : List R} {vs : List V} {N : List Str} (hl : rs.length = vs.length) (rp : Reps T F H (rs.zip vs ++ L)) : Cf T F H L (rs.map some ++ List.replicate (N.length - rs.length) none) (start N vs) := by
  have key : ∀ (rs : List R) (vs : List V) (n : Nat), rs.length = vs.length → Sl (rs.map some ++ List.replicate n none) (vs.map some ++ List.replicate n none) (rs.zip vs) := by
    intro rs
    induction rs with
    | nil =>
      intro vs n h
      cases vs with
      | nil =>
        induction n with
        | zero => exact .nil
        | succ n ih => exact .non ih
      | cons _ _ => simp at h
    | cons r rs ih =>
      intro vs n h
      cases vs with
      | nil => simp at h
      | cons v vs => exact .som (ih vs n (by simpa using h))
  exact ⟨rs.zip vs, by unfold L2.start; rw [← hl]; exact key rs vs _ hl, rp.perm List.perm_append_comm⟩
/-- the promise from the body's reading -/
theorem body_sp {T : Nm} {g : G} {Φ : Fn} {d : DefI} {f : Nat} {F H : Hp} {L : Lv} {rs : List R} {vs : List V} {Q : VK} {E : XK} (hl : rs.length = vs.length) (hp : vs.length = d.ps.length) (rp : Reps T F H (rs.zip vs ++ L))
    (h : match d.fin (evSs g Φ d.body (d.env rs)) with
      | .ok r outs => ∀ v F' H', Reps T F' H' ((r, v) :: (lives outs vs ++ L)) → Q v H'
      | .exc c x outs => ∀ v dd F' H', Reps T F' H' (lives outs vs ++ L) → H' dd = some (.xd [(T.xfld c, v)]) → Rp T F' v x → E (.ref (T.xcls c)) (some dd) H'
      | .stuck => False) :
    tS T (fun cls dd _ H => E cls dd H) d.wr (evSs g Φ d.body) { nx := fun _ H' => Q .non H', rt := Q } (start d.N vs) H := by
  refine ⟨F, L, d.env rs, start_cf hl rp, ?_⟩
  cases z : evSs g Φ d.body (d.env rs) with
  | nx ρ =>
    rw [z] at h
    intro σ F' H' ag cf
    refine h .non F' H' ?_
    rw [← hp]
    exact (back_cf cf ag).val .non
  | rt r ρ =>
    rw [z] at h
    intro σ v F' H' ag cf
    refine h v F' H' ?_
    rw [← hp]
    exact (back_cf cf ag).perm List.perm_middle
  | bk ρ => rw [z] at h; exact h.elim
  | ct ρ => rw [z] at h; exact h.elim
  | exc c x ρ =>
    rw [z] at h
    intro σ ag v dd F' H' cf hd rv
    refine h v dd F' H' ?_ hd rv
    rw [← hp]
    exact back_cf cf ag
  | stuck => rw [z] at h; exact h.elim
end
end Fx
end
section
set_option linter.all false
set_option Elab.async false
set_option maxRecDepth 100000
set_option maxHeartbeats 4000000
/-! The levels. -/
namespace Fx
open PySem PySem.Spec L2
variable {md : Md}
section
variable {P : Program} {w : World} {K : PySem.W.Frag} {mg : Str → Option Value} {base : Heap}
theorem getD_get {α : Type} {l : List α} {i : Nat} {a d : α} (e : l[i]? = some a) : l.getD i d = a := by
  rw [List.getD_eq_getElem?_getD, e]; rfl
theorem lnkF_ok {d? : Option DefI} {a : Str × Option Str} {np : Nat} (h : lnkF d? a np = true) : ∃ d, d? = some d ∧ d.at_ = a ∧ d.ps.length = np := by
  cases d? with
  | none => cases h
  | some d =>
    have h : (decide (d.at_ = a) && decide (d.ps.length = np)) = true := h
    simp only [Bool.and_eq_true, decide_eq_true_eq] at h
    exact ⟨d, rfl, h.1, h.2⟩
theorem bfs_all (b : BF) : b ∈ bfs := by cases b <;> decide
/-- the classes, from what the run tells -/
theorem cls_kn (fs : Fs md K mg) (c : Nat) (hc : c < md.cls.length) : ClsKn (md.T K) K c ∧ Mk K ((md.T K).cls c) (He.ma K ((md.T K).cls c) "__init__") ∧ mg ((md.cls.map (·.1)).getD c ("" : Str)) = some (.ref ((md.T K).cls c)) := by
  have hk := fs.chk
  unfold Md.chk at hk
  simp only [Bool.and_eq_true] at hk
  have h := all_range hk.2.1 hc
  unfold clsB at h
  simp only [Bool.and_eq_true] at h
  obtain ⟨a1, a2, a3, a4, a5, a6, a7, a8, a9, a10⟩ := h
  obtain ⟨hp, X, G⟩ := fs.X
  have sh := fs.shape
  unfold Md.shape at sh
  simp only [Bool.and_eq_true] at sh
  have hs := all_range sh.2.2 hc
  simp only [Bool.and_eq_true, decide_eq_true_eq] at hs
  refine ⟨⟨He.cls_ok a2, fun f hf => ?_, hs.1, hs.2, dB_ok a5, dB_ok a6, dB_ok a7, dB_ok a8, fun n hn => dB_ok (List.all_eq_true.mp a9 n hn), fun n hn => dB_ok (List.all_eq_true.mp a10 n hn)⟩, He.mkr_ok a4, He.glo_ok X G a1⟩
  exact He.noat_ok (List.all_eq_true.mp a3 _ (List.mem_map.mpr ⟨f, hf, rfl⟩))
theorem err_kn (fs : Fs md K mg) (c : Nat) (hc : c < md.errs.length) : ∃ e, md.errs[c]? = some e ∧ e.x = md.xcs.getD c ("" : Str) ∧ (md.T K).xfld c = e.f ∧ XCls (md.T K) K c ∧ PySem.W.findIn K (.ref ((md.T K).xcls c)) "__init__" = some (some (.ref (He.fAd K (e.x, some "__init__")))) ∧ PySem.W.typeIn K (.ref (He.fAd K (e.x, some "__init__"))) = some (.type "function") := by
  have ee : md.errs[c]? = some md.errs[c] := List.getElem?_eq_getElem hc
  have hk := fs.chk
  unfold Md.chk at hk
  simp only [Bool.and_eq_true] at hk
  have h := all_get hk.2.2.2.2.1 ee
  unfold errB at h
  simp only [Bool.and_eq_true] at h
  obtain ⟨a1, a2, a3, a4, a5, a6, a7, a8, a9⟩ := h
  have sh := fs.shape
  unfold Md.shape at sh
  simp only [Bool.and_eq_true] at sh
  have hx : md.errs[c].x = md.xcs.getD c ("" : Str) := by
    have q := dB_ok (all_range sh.1 hc)
    rw [getD_get (by rw [List.getElem?_map, ee]; rfl)] at q
    exact q
  have hxa : (md.T K).xcls c = He.ga K md.errs[c].x := by rw [hx]; rfl
  have hf : (md.T K).xfld c = md.errs[c].f := by
    show (md.errs.map (·.f)).getD c ("" : Str) = _
    exact getD_get (by rw [List.getElem?_map, ee]; rfl)
  rw [← hxa] at a1 a2 a3 a4 a5 a6 a8
  have a7 : PySem.W.findIn K (.ref ((md.T K).xcls c)) ((md.T K).xfld c) = some none := by
    rw [hxa, hf]; exact He.noat_ok a7
  have a9' : PySem.W.typeIn K (.ref (He.fAd K (md.errs[c].x, some "__init__"))) = some (.type "function") := dB_ok a9
  refine ⟨_, ee, hx, hf, ⟨⟨oexB_ok a1, dB_ok a2, dB_ok a3, dB_ok a4, a5⟩, xfB_ok a6, a7⟩, ?_, a9'⟩
  have q := dB_ok a8
  rw [q, hxa]
  rfl
theorem funD_at {x qual : Str} {params : Arguments} {body : List Stmt} {scope : Scope} {dvs : List V} {kws : List (Str × V)} {f : Addr} {fd : FuncData} (F : FunD K x qual params body scope dvs kws f fd) : ∃ oc od osl, K.lookup f = some ⟨oc, od, .func fd, osl⟩ := by
  obtain ⟨oc, od, dV, kV, doc, pm, an, cdv, ct, osl, rfl, lk, _⟩ := F.ex
  exact ⟨oc, od, osl, lk⟩
/-- the level n of a def -/
def Lev (md : Md) (P : Program) (w : World) (K : PySem.W.Frag) (mg : Str → Option Value) (base : Heap) (n : Nat) : Prop :=
  ∀ f d, md.defs[f]? = some d → ∃ fd, FnOk P w K mg base (L2.CX P w) (2 * n + 2) (He.fAd K d.at_) fd d.ps (spF (md.T K) (md.Φ n) f d.ps.length) ∧ Binds K fd d.ps [] ∧ PySem.W.keepIn K (.ref (He.fAd K d.at_)) = true ∧ ∃ oc od osl, K.lookup (He.fAd K d.at_) = some ⟨oc, od, .func fd, osl⟩
/-- what a body of level n + 1 knows -/
theorem kn_of {X : Cx} {n : Nat} (fs : Fs md K mg) (lv : Lev md P w K mg base n) (h1 : X.prog = P) (h2 : X.w = w) (h3 : X.K = K) (h4 : X.mg = mg) (h5 : X.base = base) (hr : Room (2 * n + 3) X.A) (hN : X.N.Nodup) (hc : X.calm = true) : Kn (md.T K) md.g (md.Φ n) (md.tb X.N) X := by
  subst h1 h2 h3 h4 h5
  obtain ⟨hp, XK, G⟩ := fs.X
  have hk := fs.chk
  unfold Md.chk at hk
  simp only [Bool.and_eq_true] at hk
  obtain ⟨k1, k2, k3, k4, k5, k6, k7, k8, k9, k10, k11⟩ := hk
  have lk := fs.lnk
  unfold Md.lnk at lk
  simp only [Bool.and_eq_true] at lk
  have clk : ∀ c x np, md.cls[c]? = some (x, np) → (∃ d, md.defs[md.g.ini c]? = some d ∧ d.at_ = (x, some ("__init__" : Str)) ∧ d.ps.length = np + 1) ∧ (md.g.eqk c = true → ∃ d, md.defs[md.g.eqf c]? = some d ∧ d.at_ = (x, some ("__eq__" : Str)) ∧ d.ps.length = 2) := by
    intro c x np e
    have q := all_range lk.2 (List.getElem?_eq_some_iff.mp e).1
    rw [e] at q
    simp only [Bool.and_eq_true, Bool.or_eq_true, Bool.not_eq_true'] at q
    refine ⟨lnkF_ok q.1, fun h => ?_⟩
    rcases q.2 with q | q
    · rw [h] at q; cases q
    · exact lnkF_ok q
  have cx : ∀ (c : Nat) (x : Str) (np : Nat), md.cls[c]? = some (x, np) → (md.cls.map (·.1)).getD c ("" : Str) = x := fun c x np e => getD_get (by rw [List.getElem?_map, e]; rfl)
  refine ⟨rfl, rfl, hN, hc, hr.units, rfl, ⟨fun c h => (cls_kn fs c h).1, fun c c' h h' => ?_⟩, fun f n e => getD_get e, fun f x np e => ?_, fun c x np e => ?_, fun i x e => ?_, fun b => ?_, He.free_ok XK G k9, He.free_ok XK G k10, fun c h e => ?_, rfl, rfl, fun c x e => ?_, fun c h => ?_, fun c c' h h' => ?_⟩
  · have q := all_range (all_range k3 h) h'
    simp only [Bool.and_eq_true] at q
    exact dB_ok q.1
  · have e : md.fns[f]? = some (x, np) := e
    have q := all_range lk.1 (List.getElem?_eq_some_iff.mp e).1
    rw [e] at q
    obtain ⟨d, d1, d2, d3⟩ := lnkF_ok q
    obtain ⟨fd, F, b, kp, _⟩ := lv f d d1
    have ex : x ≠ "" ∨ x = "" := (Classical.em (x = "")).symm
    have g1 := all_get k1 e
    simp only [Bool.or_eq_true] at g1
    rw [d2] at F kp
    refine ⟨He.fAd X.K (x, none), ?_, ⟨kp, _, fd, d.ps, by rw [← d3]; exact F, hr.mono (by omega), b⟩⟩
    rcases g1 with g1 | g1
    · have := (fs.defs f d d1).1
      exact He.glo_ok XK G (by
        have g2 := dB_ok g1
        exact (fs.nb f x np e g2).elim)
    · exact He.glo_ok XK G g1
  · have e : md.cls[c]? = some (x, np) := e
    have hcl := (List.getElem?_eq_some_iff.mp e).1
    obtain ⟨q1, q2, q3⟩ := cls_kn fs c hcl
    obtain ⟨d, d1, d2, d3⟩ := (clk c x np e).1
    obtain ⟨fd, F, b, kp, _⟩ := lv _ d d1
    rw [cx c x np e] at q3
    refine ⟨q3, hcl, ⟨2 * n + 2, He.ma X.K ((md.T X.K).cls c) "__init__", fd, d.ps, q2, ?_, hr, b⟩⟩
    rw [d2, d3] at F
    have ea : He.ma X.K ((md.T X.K).cls c) "__init__" = He.fAd X.K (x, some "__init__") := by
      show He.ma X.K (He.ga X.K ((md.cls.map (·.1)).getD c ("" : Str))) "__init__" = _
      rw [cx c x np e]; rfl
    rw [ea]; exact F
  · have e : (md.gls.map (·.1))[i]? = some x := e
    rw [List.getElem?_map] at e
    obtain ⟨p, e1, rfl⟩ := Option.map_eq_some_iff.mp e
    obtain ⟨t, ht⟩ := He.int_ok XK G (all_get k11 e1)
    exact ⟨.int p.2 t, .int p.2, .int p.2, ht, ⟨t, rfl⟩, fun F => .int _, by show (md.gls[i]?).map _ = _; rw [e1]; rfl⟩
  · exact He.free_ok XK G (List.all_eq_true.mp k8 b (bfs_all b))
  · have ee : md.cls[c]? = some md.cls[c] := List.getElem?_eq_getElem h
    obtain ⟨d, d1, d2, d3⟩ := (clk c _ _ ee).2 e
    obtain ⟨fd, F, b, kp, _⟩ := lv _ d d1
    have q := all_range k4 h
    simp only [Bool.or_eq_true, Bool.not_eq_true'] at q
    have q : eqB X.K ((md.cls.map (·.1)).getD c ("" : Str)) = true := by
      rcases q with q | q
      · have e' : (md.eqf.getD c none).isSome = true := e
        rw [e'] at q; cases q
      · exact q
    rw [cx c _ _ ee] at q
    unfold eqB at q
    simp only [Bool.and_eq_true] at q
    obtain ⟨a1, a2, a3⟩ := q
    have ea : (md.T X.K).cls c = He.ga X.K md.cls[c].1 := by
      show He.ga X.K ((md.cls.map (·.1)).getD c ("" : Str)) = _
      rw [cx c _ _ ee]
      rfl
    rw [d2, d3] at F
    refine ⟨⟨2 * n + 2, He.fAd X.K (md.cls[c].1, some "__eq__"), fd, d.ps, ?_, ?_, F, hr.mono (by omega), b⟩, fun m hm => ?_, fun c' h' => ?_⟩
    · rw [ea]; exact dB_ok a1
    · exact a2
    · rw [ea]; exact List.all_eq_true.mp a3 m hm
    · have q := all_range (all_range k3 h) h'
      simp only [Bool.and_eq_true] at q
      exact q.2
  · have e : md.xcs[c]? = some x := e
    have q := He.glo_ok XK G (all_get k6 e)
    show X.mg x = some (.ref (He.ga X.K (md.xcs.getD c ("" : Str))))
    rw [getD_get e]; exact q
  · obtain ⟨e, e1, e2, e3, e4, e5, e6⟩ := err_kn fs c h
    obtain ⟨o1, fd, F, b⟩ := fs.errs c e e1
    refine ⟨e4, 1, He.fAd X.K (e.x, some "__init__"), fd, _, e5, e6, ?_, hr.mono (by omega), b⟩
    rw [e3]
    exact err_fn o1 F
  · exact dB_ok (all_range (all_range k7 h) h')
theorem Lev.zero (fs : Fs md K mg) : Lev md P w K mg base 0 := by
  intro f d e
  obtain ⟨_, fd, F, b⟩ := fs.defs f d e
  refine ⟨fd, ⟨fun vs H Q E h => h.1, fun A outer s H args us vs Q E hr e0 hb hv h => ?_⟩, b, F.kp, funD_at F⟩
  obtain ⟨_, F, L, rs, _, _, h⟩ := h
  exact h.elim
theorem Lev.succ {n : Nat} (fs : Fs md K mg) (lv : Lev md P w K mg base n) : Lev md P w K mg base (n + 1) := by
  intro f d e
  obtain ⟨ok, fd, F, b⟩ := fs.defs f d e
  unfold DefI.okB at ok
  simp only [Bool.and_eq_true] at ok
  obtain ⟨ok1, ok2⟩ := ok
  have S := C8.fnScope_by ok1
  refine ⟨fd, F.ok (k := 2 * n + 3) S (fun vs H Q E h => h.1) fun cdv A outer s H vs Q E hr h => ?_, b, F.kp, funD_at F⟩
  obtain ⟨hp, F0, L, rs, hl, rp, h⟩ := h
  have kn : Kn (md.T K) md.g (md.Φ n) (md.tb d.N) (cxOf (L2.CX P w) P w K mg base d.N d.qual (defScope d.st) (He.fAd K d.at_) cdv A outer s H E) :=
    kn_of (X := cxOf (L2.CX P w) P w K mg base d.N d.qual (defScope d.st) (He.fAd K d.at_) cdv A outer s H E) fs lv rfl rfl rfl rfl rfl hr S.nd rfl
  have tk : Takes (cxOf (L2.CX P w) P w K mg base d.N d.qual (defScope d.st) (He.fAd K d.at_) cdv A outer s H E) (fun cls dd _ H => E cls dd H) := takes_of rfl rfl rfl rfl
  have po : PassesOwn (model P w) (cxOf (L2.CX P w) P w K mg base d.N d.qual (defScope d.st) (He.fAd K d.at_) cdv A outer s H E).A (cxOf (L2.CX P w) P w K mg base d.N d.qual (defScope d.st) (He.fAd K d.at_) cdv A outer s H E).env (cxOf (L2.CX P w) P w K mg base d.N d.qual (defScope d.st) (He.fAd K d.at_) cdv A outer s H E).xe :=
    passes_of (X := cxOf (L2.CX P w) P w K mg base d.N d.qual (defScope d.st) (He.fAd K d.at_) cdv A outer s H E) rfl
  refine ⟨_, snSs d.body (defScope d.st) (defBody d.st) _ _ kn ⟨rfl, rfl, rfl, fun _ => rfl, S.kind⟩ tk po ok2, ?_⟩
  refine body_sp (f := f) hl hp rp ?_
  have e2 : md.Φ (n + 1) f rs = d.fin (evSs md.g (md.Φ n) d.body (d.env rs)) := by
    show (match md.defs[f]? with
      | some d => if rs.length = d.ps.length then d.fin (evSs md.g (md.Φ n) d.body (d.env rs)) else .stuck
      | none => .stuck) = _
    rw [e]
    show (if rs.length = d.ps.length then d.fin (evSs md.g (md.Φ n) d.body (d.env rs)) else .stuck) = _
    rw [if_pos (hl.trans hp)]
  rw [e2] at h
  exact h
theorem lev (fs : Fs md K mg) : ∀ n, Lev md P w K mg base n
  | 0 => .zero fs
  | n + 1 => .succ fs (lev fs n)
end
end Fx
end
section
set_option linter.all false
set_option Elab.async false
set_option maxRecDepth 100000
set_option maxHeartbeats 4000000
/-! The head's Hook, and the law's end. -/
namespace Fx
open PySem PySem.Spec L2
variable (md : Md)
def DefI.dd (d : DefI) : He.DefD := ⟨d.at_, d.name, d.qual, defArgs d.st, defBody d.st, defScope d.st, [], []⟩
def ErrI.dd (e : ErrI) : He.DefD := ⟨(e.x, some "__init__"), "__init__", e.qual, defArgs e.st, defBody e.st, defScope e.st, [], []⟩
def Md.fn : List He.DefD := md.defs.map DefI.dd ++ md.errs.map ErrI.dd
def Md.obsK (K : PySem.W.Frag) : He.AlD := (md.chk K && md.fn.all fun d => d.ok K, md.fn.map fun d => He.fnW K d.at_)
def Md.valK : He.AlD := (true, md.fn.map He.DefD.val)
def Md.obsG (n : Nat) (g : Addr → Option Obj) : He.AlD := md.obsK (He.frG g (He.asD g n))
def Md.hook (n : Nat) : PySem.W.Hook where
  α := He.AlD
  obs := fun s => md.obsG n s.heap.get?
  val := fun _ => md.valK
  says := fun _ h => ∃ K : PySem.W.Frag, K.In h ∧ md.obsK K = md.valK
  of := fun _ _ e => ⟨_, He.frG_in, e⟩
  keeps := fun _ _ _ ⟨K, hK, c⟩ k => ⟨K, PySem.W.Frag.In.keeps hK k, c⟩
theorem Md.obsG_eq {n : Nat} {g : Addr → Option Obj} {s : Shared} (h : ∀ a, g a = s.heap.get? a) : md.obsG n g = (md.hook n).obs s := by
  have e : g = s.heap.get? := funext h
  rw [e] <;> rfl
/-- how a def binds: every parameter is written -/
def BA (name qual : Str) (params : Arguments) (body : List Stmt) (scope : Scope) (ps : List Str) : Prop :=
  ∀ (kV doc pm : Value) (an : Option Addr) (cdv ct : Value) (us : List Value), us.length = ps.length → bindArgs (PySem.W.fnOf name qual params body scope .none kV doc pm an cdv ct) ⟨us, []⟩ = pure (ps.zip us)
def DefI.ba (d : DefI) : Prop := BA d.name d.qual (defArgs d.st) (defBody d.st) (defScope d.st) d.ps
def ErrI.ba (e : ErrI) : Prop := BA "__init__" e.qual (defArgs e.st) (defBody e.st) (defScope e.st) [e.s, e.v]
/-- for each of a list -/
def Each {α : Type} (p : α → Prop) : List α → Prop
  | [] => True
  | a :: l => p a ∧ Each p l
theorem Each.get {α : Type} {p : α → Prop} : ∀ {l : List α} {i : Nat} {a : α}, Each p l → l[i]? = some a → p a
  | [], _, _, _, e => by simp at e
  | b :: l, 0, a, h, e => by simp at e; subst e; exact h.1
  | b :: l, i + 1, a, h, e => Each.get h.2 (by simpa using e)
variable {md}
theorem obs_get {K : PySem.W.Frag} (h : md.obsK K = md.valK) : md.chk K = true ∧ ∀ (i : Nat) (d : He.DefD), md.fn[i]? = some d → ∃ fd, FunD K d.name d.qual d.params d.body d.scope (d.dvs K) (d.kws K) (He.fAd K d.at_) fd := by
  have c1 : (md.chk K && md.fn.all fun d => d.ok K) = true := congrArg (fun z : He.AlD => z.1) h
  have c2 : md.fn.map (fun d => He.fnW K d.at_) = md.fn.map He.DefD.val := congrArg (fun z : He.AlD => z.2) h
  simp only [Bool.and_eq_true] at c1
  refine ⟨c1.1, fun i d e => ?_⟩
  have e2 : (md.fn.map fun d => He.fnW K d.at_)[i]? = (md.fn.map He.DefD.val)[i]? := by rw [c2]
  rw [List.getElem?_map, List.getElem?_map, e] at e2
  exact He.DefD.funD (Option.some.inj e2) (List.all_eq_true.mp c1.2 d (List.mem_of_getElem? e))
theorem fs_of {K : PySem.W.Frag} {mg : Str → Option Value} {h : Heap} (X : K.In h) (G : h.Ns mainGlobals mg) (o : md.obsK K = md.valK) (sh : md.shape = true) (lk : md.lnk = true) (nb : ∀ (f : Nat) (x : Str) (np : Nat), md.fns[f]? = some (x, np) → x = "" → False)
    (ok : Each (fun d : DefI => d.okB md = true) md.defs) (eok : Each (fun e : ErrI => e.okB = true) md.errs) (b : Each DefI.ba md.defs) (eb : Each ErrI.ba md.errs) : Fs md K mg := by
  obtain ⟨c, g⟩ := obs_get o
  refine ⟨⟨h, X, G⟩, c, sh, lk, nb, fun f d e => ⟨ok.get e, ?_⟩, fun i e ee => ⟨eok.get ee, ?_⟩⟩
  · obtain ⟨fd, F⟩ := g f d.dd (by unfold Md.fn; rw [List.getElem?_append_left (by rw [List.length_map]; exact (List.getElem?_eq_some_iff.mp e).1), List.getElem?_map, e]; rfl)
    exact ⟨fd, F, FunD.bindsN F (b.get e)⟩
  · obtain ⟨fd, F⟩ := g (md.defs.length + i) e.dd (by
      unfold Md.fn
      rw [List.getElem?_append_right (by rw [List.length_map]; omega), List.length_map, Nat.add_sub_cancel_left, List.getElem?_map, ee]; rfl)
    exact ⟨fd, F, FunD.bindsN F (eb.get ee)⟩
/-- what a def lets out, at whatever world -/
def CXu (P : Program) : CXT := fun outer H s E u s' => ∃ w, L2.CX P w outer H s E u s'
theorem CXu_no {P : Program} : ∀ (H : Hp) (s : Shared) (e : Value) (s' : Shared), CXu P [] H s (fun _ _ _ => False) e s' → False := fun H s e s' h => by
  obtain ⟨_, _, _, _, _, _, _, _, _, _, _, _, _, q⟩ := h
  exact q
theorem fn_cxu {P : Program} {w : World} {K : PySem.W.Frag} {mg : Str → Option Value} {base : Heap} {k : Nat} {f : Addr} {fd : FuncData} {ps : List Str} {sp : Sp} (F : FnOk P w K mg base (L2.CX P w) k f fd ps sp) : FnOk P w K mg base (CXu P) k f fd ps sp :=
  ⟨F.len, fun A outer s H args us vs Q E hr e0 hb hv hs => codeAny_mono (F.run A outer s H args us vs Q E hr e0 hb hv hs) fun r s' q => by
    cases r with
    | error e => exact ⟨w, q⟩
    | ok fl => cases fl <;> exact q⟩
theorem law_F {P : Program} {n f np : Nat} {d : DefI} {x : Str} {w : World} {mg : Str → Option Value} {fa : Addr} {h : Heap} (Y : ∃ K : PySem.W.Frag, K.In h ∧ md.obsK K = md.valK) (G : h.Ns mainGlobals mg) (hm : mg ("law" : Str) = some (.ref fa))
    (hd : md.defs[f]? = some d) (hat : d.at_ = (("law" : Str), none)) (hps : d.ps = [x]) (hf : md.fns[f]? = some (("law" : Str), np))
    (sh : md.shape = true) (lk : md.lnk = true) (nb : ∀ (f : Nat) (x : Str) (np : Nat), md.fns[f]? = some (x, np) → x = "" → False)
    (ok : Each (fun d : DefI => d.okB md = true) md.defs) (eok : Each (fun e : ErrI => e.okB = true) md.errs) (b : Each DefI.ba md.defs) (eb : Each ErrI.ba md.errs)
    (tr : ∀ ns : List Int, ns.length ≤ 63 → ∃ outs, md.Φ n f [.val (.lst (ns.map .int))] = .ok (.val (.bl true)) outs) :
    ∃ (K : PySem.W.Frag) (fd : FuncData) (sp : Sp), K.In h ∧ (∀ (s : Shared) (u : Value), BindsTo s fd ⟨[u], []⟩ [(x, u)]) ∧
        (∀ (H : Hp) (a : Addr) (ns : List Int), ns.length ≤ 63 → Only H → SqL K H a (ns.map V.int) → sp [.ref a] H (fun v _ => v = .bl true) fun _ _ _ => False) ∧
        ∀ base : Heap, K.In base → base.Ns mainGlobals mg → FnOk P w K mg base (CXu P) (2 * n + 2) fa fd [x] sp := by
  obtain ⟨K, X, o⟩ := Y
  have fs := fs_of X G o sh lk nb ok eok b eb
  obtain ⟨c, g⟩ := obs_get o
  obtain ⟨fd0, F0⟩ := g f d.dd (by unfold Md.fn; rw [List.getElem?_append_left (by rw [List.length_map]; exact (List.getElem?_eq_some_iff.mp hd).1), List.getElem?_map, hd]; rfl)
  have hfa : fa = He.fAd K d.at_ := by
    have hk := fs.chk
    unfold Md.chk at hk
    simp only [Bool.and_eq_true] at hk
    have q := all_get hk.1 hf
    simp only [Bool.or_eq_true] at q
    have q : (He.Fa.glo ("law" : Str)).ok K = true := by
      rcases q with q | q
      · exact absurd (dB_ok q) (by decide)
      · exact q
    have q2 := He.glo_ok X G q
    rw [hm] at q2
    rw [hat]
    cases q2
    rfl
  refine ⟨K, fd0, spF (md.T K) (md.Φ n) f d.ps.length, X, fun s u => ?_, fun H a ns hl hO hS => ?_, fun base Xb Gb => ?_⟩
  · have q := FunD.bindsA F0 (b.get hd) s [u] (by rw [hps]; rfl)
    rw [hps] at q
    exact q
  · rw [hps]
    refine ⟨rfl, H, [], [.val (.lst (ns.map .int))], rfl, ?_, ?_⟩
    · have rl : ∀ ns : List Int, RpL (md.T K) H (ns.map V.int) (ns.map D.int) := by
        intro ns
        induction ns with
        | nil => exact .nil
        | cons i ns ih => exact .cons (.int i) ih
      exact ⟨Same.refl _, [] ++ [], .cons (.val (.lst hS (rl ns))) .nil, .nil, fun a ha => by cases ha⟩
    · obtain ⟨outs, e⟩ := tr ns hl
      rw [e]
      intro v F' H' rp
      have r := rp.rp
      cases r
      rfl
  · obtain ⟨fd, F, b', kp, oc, od, osl, l1⟩ := lev (P := P) (w := w) (base := base) fs n f d hd
    have efd : fd = fd0 := by
      obtain ⟨oc', od', osl', l2⟩ := funD_at F0
      have l2 : K.lookup (He.fAd K d.at_) = some ⟨oc', od', .func fd0, osl'⟩ := l2
      rw [l1] at l2
      have := Option.some.inj l2
      injection this with _ _ h3
      injection h3
    rw [hfa, ← hps, ← efd]
    exact fn_cxu F
end Fx
end
section
set_option linter.all false
set_option Elab.async false
set_option maxRecDepth 100000
set_option maxHeartbeats 1000000
/-! Plain laws of the evaluator: no program in sight. -/
namespace Fx
section
variable {α β : Type} {fl : Nat → List Nat} {g : G} {Φ : Fn} {ρ ρ' : Env}
theorem b_ok {a : α} {k : α → Env → Res β} : (Res.ok a ρ).bind k = k a ρ := rfl
theorem b_exc {c : Nat} {d : D} {k : α → Env → Res β} : (Res.exc c d ρ : Res α).bind k = .exc c d ρ := rfl
theorem t_ok {a : α} {k : α → Env → SRes} : (Res.ok a ρ).thn k = k a ρ := rfl
theorem t_exc {c : Nat} {d : D} {k : α → Env → SRes} : (Res.exc c d ρ : Res α).thn k = .exc c d ρ := rfl
theorem s_nx {k : Env → SRes} : (SRes.nx ρ).thn k = k ρ := rfl
theorem s_rt {r : R} {k : Env → SRes} : (SRes.rt r ρ).thn k = .rt r ρ := rfl
theorem s_exc {c : Nat} {d : D} {k : Env → SRes} : (SRes.exc c d ρ).thn k = .exc c d ρ := rfl
theorem s_bk {k : Env → SRes} : (SRes.bk ρ).thn k = .bk ρ := rfl
theorem s_ct {k : Env → SRes} : (SRes.ct ρ).thn k = .ct ρ := rfl
theorem as_val {d : D} : asD fl (.ok (.val d) ρ) = .ok d ρ := rfl
theorem as_lst {ds : List D} : asD fl (.ok (.lst ds) ρ) = .ok (.lst ds) ρ := rfl
theorem as_exc {c : Nat} {d : D} : asD fl (.exc c d ρ) = .exc c d ρ := rfl
theorem o_some {a : α} : optR (some a) ρ = .ok a ρ := rfl
theorem f_val {d : D} : fullD fl (.val d) = some d := rfl
theorem f_lst {ds : List D} : fullD fl (.lst ds) = some (.lst ds) := rfl
theorem a_v {r : R} : Ar.d fl (.v r) ρ = fullD fl r := rfl
theorem a_b {i : Nat} : Ar.d fl (.b i) ρ = (ρ.at i).bind (fullD fl) := rfl
theorem rd_val {i : Nat} {d : D} (h : ρ.at i = some (.val d)) : rdVar fl i ρ = .ok (.val d) ρ := by unfold rdVar; rw [h]
theorem rd_lst {i : Nat} {ds : List D} (h : ρ.at i = some (.lst ds)) : rdVar fl i ρ = .ok (.val (.lst ds)) (ρ.set i (some (.val (.lst ds)))) := by unfold rdVar; rw [h]; rfl
theorem av_val {i : Nat} {d : D} (h : ρ.at i = some (.val d)) : argVar i ρ = .ok (.v (.val d)) ρ := by unfold argVar; rw [h]
theorem av_lst {i : Nat} {ds : List D} (h : ρ.at i = some (.lst ds)) : argVar i ρ = .ok (.b i) ρ := by unfold argVar; rw [h]
theorem av_obj {i c : Nat} {rs : List R} (h : ρ.at i = some (.obj c rs)) : argVar i ρ = .ok (.b i) ρ := by unfold argVar; rw [h]
theorem rb_bl {isAnd b : Bool} {k : Env → Res R} : restB isAnd (.bl b) k ρ = if b = isAnd then k ρ else .ok (.val (.bl b)) ρ := rfl
theorem at0 {x : Option R} {l : Env} : Env.at (x :: l) 0 = x := rfl
theorem atS {x : Option R} {l : Env} {i : Nat} : Env.at (x :: l) (i + 1) = Env.at l i := rfl
theorem call_v {f : Nat} {as : List Ar} {rs : List R} {r : R} {outs : Env} (ha : hand as ρ = some (rs, ρ')) (h : Φ f rs = .ok r outs) : callR Φ f as ρ = .ok r (giveB as outs ρ') := by unfold callR; rw [ha]; dsimp only; rw [h]
theorem hand_vals : ∀ {ds : List D}, hand (ds.map fun d => Ar.v (.val d)) ρ = some (ds.map R.val, ρ)
  | [] => rfl
  | d :: ds => by
    show (hand (ds.map fun d => Ar.v (.val d)) ρ).map _ = _
    rw [hand_vals]; rfl
theorem give_vals : ∀ {ds : List D} {outs : Env}, giveB (ds.map fun d => Ar.v (.val d)) outs ρ = ρ
  | [], _ => rfl
  | d :: ds, [] => rfl
  | d :: ds, o :: outs => by
    show giveB (ds.map fun d => Ar.v (.val d)) outs ρ = ρ
    exact give_vals
/-- a call whose arguments are plain -/
theorem call_vals {f : Nat} {ds : List D} {r : R} (h : ∃ outs, Φ f (ds.map R.val) = .ok r outs) : callR Φ f (ds.map fun d => Ar.v (.val d)) ρ = .ok r ρ := by
  obtain ⟨outs, h⟩ := h
  rw [call_v hand_vals h, give_vals]
theorem call1 {f : Nat} {a : D} {r : R} (h : ∃ outs, Φ f [.val a] = .ok r outs) : callR Φ f [.v (.val a)] ρ = .ok r ρ := call_vals (ds := [a]) h
theorem call2 {f : Nat} {a b : D} {r : R} (h : ∃ outs, Φ f [.val a, .val b] = .ok r outs) : callR Φ f [.v (.val a), .v (.val b)] ρ = .ok r ρ := call_vals (ds := [a, b]) h
theorem call3 {f : Nat} {a b c : D} {r : R} (h : ∃ outs, Φ f [.val a, .val b, .val c] = .ok r outs) : callR Φ f [.v (.val a), .v (.val b), .v (.val c)] ρ = .ok r ρ := call_vals (ds := [a, b, c]) h
/-! ### comprehensions that change nothing -/
theorem set_at {i : Nat} (h : i < ρ.length) : ρ.set i (ρ.at i) = ρ := by
  apply List.ext_getElem?
  intro j
  by_cases e : i = j
  · subst e
    rw [List.getElem?_set_self h, List.getElem?_eq_getElem h]
    show some ((ρ[i]?).bind id) = _
    rw [List.getElem?_eq_getElem h]; rfl
  · rw [List.getElem?_set_ne e]
theorem compF_pure {i : Nat} {c : Env → Res Bool} {el : Env → Res D} {p : D → Bool} {q : D → D} : ∀ {ds acc : List D}, acc.length + ds.length ≤ LINE →
    (∀ d ∈ ds, c (ρ.set i (some (.val d))) = .ok (p d) (ρ.set i (some (.val d)))) → (∀ d ∈ ds, p d = true → el (ρ.set i (some (.val d))) = .ok (q d) (ρ.set i (some (.val d)))) →
    compF [i] (.one i) c el ds (ρ.set i none) acc = .ok (acc ++ (ds.filter p).map q) (ρ.set i none)
  | [], acc, _, _, _ => by simp [compF]
  | d :: ds, acc, hl, hc, he => by
    unfold compF
    show ((c ((ρ.set i none).set i (some (.val d)))).bind _) = _
    rw [List.set_set, hc d (by simp), b_ok]
    have hl' : acc.length + ds.length + 1 ≤ LINE := by simp at hl; omega
    cases e : p d with
    | true =>
      rw [if_pos rfl, he d (by simp) e, b_ok, if_pos (by omega)]
      show compF [i] (.one i) c el ds ((ρ.set i (some (.val d))).set i none) (acc ++ [q d]) = _
      rw [List.set_set, compF_pure (by simp; omega) (fun d h => hc d (by simp [h])) (fun d h => he d (by simp [h]))]
      simp [List.filter_cons, e]
    | false =>
      rw [if_neg Bool.false_ne_true]
      show compF [i] (.one i) c el ds ((ρ.set i (some (.val d))).set i none) acc = _
      rw [List.set_set, compF_pure (by omega) (fun d h => hc d (by simp [h])) (fun d h => he d (by simp [h]))]
      simp [List.filter_cons, e]
theorem comp_pure {i : Nat} {elt : IE} {src : II} {c : IO} {ds : List D} {p : D → Bool} {q : D → D} (hi : i < ρ.length) (hs : evI g Φ src ρ = .ok ds ρ) (hl : ds.length ≤ LINE)
    (hc : ∀ d ∈ ds, evC g Φ c (ρ.set i (some (.val d))) = .ok (p d) (ρ.set i (some (.val d)))) (he : ∀ d ∈ ds, p d = true → asD g.flds (evE g Φ elt (ρ.set i (some (.val d)))) = .ok (q d) (ρ.set i (some (.val d)))) :
    evE g Φ (.comp elt [i] (.one i) src c) ρ = .ok (.lst ((ds.filter p).map q)) ρ := by
  show ((evI g Φ src ρ).bind _) = _
  rw [hs, b_ok]
  show ((compF [i] (.one i) _ _ ds (ρ.set i none) []).bind _).calm = _
  rw [compF_pure (acc := []) (by simpa using hl) hc he, b_ok]
  show Res.ok (R.lst _) (restE ρ (ρ.set i none) [i]) = _
  have e : restE ρ (ρ.set i none) [i] = ρ := by
    show (ρ.set i none).set i (ρ.at i) = ρ
    rw [List.set_set, set_at hi]
  rw [e, List.nil_append]
theorem compF2_pure {i j : Nat} {inner : Env → Res (List D)} {c : Env → Res Bool} {el : Env → Res D} {es : D → List D} {p : D → D → Bool} {q : D → D → D} (hij : i ≠ j) : ∀ {ds acc : List D}, acc.length + (ds.flatMap es).length ≤ LINE →
    (∀ d ∈ ds, inner ((ρ.set j none).set i (some (.val d))) = .ok (es d) ((ρ.set j none).set i (some (.val d)))) →
    (∀ d ∈ ds, ∀ e ∈ es d, c (((ρ.set j none).set i (some (.val d))).set j (some (.val e))) = .ok (p d e) (((ρ.set j none).set i (some (.val d))).set j (some (.val e)))) →
    (∀ d ∈ ds, ∀ e ∈ es d, p d e = true → el (((ρ.set j none).set i (some (.val d))).set j (some (.val e))) = .ok (q d e) (((ρ.set j none).set i (some (.val d))).set j (some (.val e)))) →
    compF2 [i, j] (.one i) inner (compF [j] (.one j) c el) ds ((ρ.set j none).set i none) acc = .ok (acc ++ ds.flatMap fun d => ((es d).filter (p d)).map (q d)) ((ρ.set j none).set i none)
  | [], acc, _, _, _, _ => by simp [compF2]
  | d :: ds, acc, hl, hi, hc, he => by
    have hl' : acc.length + ((es d).length + (ds.flatMap es).length) ≤ LINE := by simpa [List.flatMap_cons] using hl
    unfold compF2
    show ((inner (((ρ.set j none).set i none).set i (some (.val d)))).bind _) = _
    rw [List.set_set, hi d (by simp), b_ok]
    have ej : ((ρ.set j none).set i (some (.val d))).set j none = (ρ.set j none).set i (some (.val d)) := by
      rw [List.set_comm _ _ hij, List.set_set]
    have h1 := compF_pure (ρ := (ρ.set j none).set i (some (.val d))) (i := j) (c := c) (el := el) (p := p d) (q := q d) (ds := es d) (acc := acc) (by omega) (fun e h => hc d (by simp) e h) (fun e h h' => he d (by simp) e h h')
    rw [ej] at h1
    rw [h1, b_ok]
    have ew : wipeE ((ρ.set j none).set i (some (.val d))) [i, j] = (ρ.set j none).set i none := by
      show (((ρ.set j none).set i (some (.val d))).set j none).set i none = _
      rw [ej, List.set_set]
    rw [ew]
    have hle : (((es d).filter (p d)).map (q d)).length ≤ (es d).length := by rw [List.length_map]; exact List.length_filter_le _ _
    rw [compF2_pure hij (by rw [List.length_append]; omega) (fun d h => hi d (by simp [h])) (fun d h => hc d (by simp [h])) (fun d h => he d (by simp [h]))]
    simp [List.flatMap_cons]
theorem comp2_pure {i j : Nat} {elt : IE} {src src1 : II} {c : IO} {ds : List D} {es : D → List D} {p : D → D → Bool} {q : D → D → D} (hij : i ≠ j) (hi : i < ρ.length) (hj : j < ρ.length) (hs : evI g Φ src ρ = .ok ds ρ) (hl : (ds.flatMap es).length ≤ LINE)
    (h1 : ∀ d ∈ ds, evI g Φ src1 ((ρ.set j none).set i (some (.val d))) = .ok (es d) ((ρ.set j none).set i (some (.val d))))
    (hc : ∀ d ∈ ds, ∀ e ∈ es d, evC g Φ c (((ρ.set j none).set i (some (.val d))).set j (some (.val e))) = .ok (p d e) (((ρ.set j none).set i (some (.val d))).set j (some (.val e))))
    (he : ∀ d ∈ ds, ∀ e ∈ es d, p d e = true → asD g.flds (evE g Φ elt (((ρ.set j none).set i (some (.val d))).set j (some (.val e)))) = .ok (q d e) (((ρ.set j none).set i (some (.val d))).set j (some (.val e)))) :
    evE g Φ (.comp2 elt [i, j] [j] (.one i) src (.one j) src1 c) ρ = .ok (.lst (ds.flatMap fun d => ((es d).filter (p d)).map (q d))) ρ := by
  show ((evI g Φ src ρ).bind _) = _
  rw [hs, b_ok]
  show ((compF2 [i, j] (.one i) (fun ρ => (evI g Φ src1 ρ).bind fun es ρ => .ok es (wipeE ρ [j])) (compF [j] (.one j) (fun ρ => evC g Φ c ρ) (fun ρ => asD g.flds (evE g Φ elt ρ))) ds ((ρ.set j none).set i none) []).bind _).calm = _
  rw [compF2_pure (es := es) (p := p) (q := q) hij (by simpa using hl) (fun d hd => by
    show (evI g Φ src1 _).bind _ = _
    rw [h1 d hd, b_ok]
    show Res.ok (es d) (((ρ.set j none).set i (some (.val d))).set j none) = _
    rw [List.set_comm _ _ hij, List.set_set]) hc he, b_ok]
  show Res.ok (R.lst _) (restE ρ ((ρ.set j none).set i none) [i, j]) = _
  have e : restE ρ ((ρ.set j none).set i none) [i, j] = ρ := by
    show (((ρ.set j none).set i none).set j (ρ.at j)).set i (ρ.at i) = ρ
    rw [List.set_comm _ _ hij, List.set_set, List.set_set, List.set_comm _ _ (Ne.symm hij), set_at hi, set_at hj]
  rw [e, List.nil_append]
/-- the source: range(a, b) -/
theorem allB_map {α : Type} (l : List α) (p : α → Bool) : allB (l.map fun x => .bl (p x)) = some (l.map p) := by
  induction l with
  | nil => rfl
  | cons x l ih => show (allB _).map _ = _; rw [ih]; rfl
end
/-! ### equality -/
mutual
theorem eqv_refl : ∀ d : D, d.plain = true → d.eqv d = true
  | .non, _ => rfl
  | .bl b, _ => by simp [D.eqv]
  | .int i, _ => by simp [D.eqv]
  | .str x, _ => by simp [D.eqv]
  | .tup ds, h => eqvs_refl ds h
  | .lst ds, h => eqvs_refl ds h
  | .rng _ _, h => by cases h
  | .ins _ _, h => by cases h
theorem eqvs_refl : ∀ ds : List D, D.plains ds = true → D.eqvs ds ds = true
  | [], _ => rfl
  | d :: ds, h => by
    have h := Bool.and_eq_true_iff.mp (show (d.plain && D.plains ds) = true from h)
    show (d.eqv d && D.eqvs ds ds) = true
    rw [eqv_refl d h.1, eqvs_refl ds h.2]; rfl
end
mutual
theorem eqv_symm : ∀ a b : D, a.eqv b = b.eqv a
  | .non, b => by cases b <;> rfl
  | .bl x, b => by
    cases b with
    | bl y => show (x == y) = (y == x); rw [Bool.eq_iff_iff, beq_iff_eq, beq_iff_eq]; exact eq_comm
    | int j => show ((if x = true then (1 : Int) else 0) == j) = (j == (if x = true then 1 else 0)); rw [Bool.eq_iff_iff, beq_iff_eq, beq_iff_eq]; exact eq_comm
    | _ => rfl
  | .int i, b => by
    cases b with
    | bl y => show (i == (if y = true then (1 : Int) else 0)) = ((if y = true then 1 else 0) == i); rw [Bool.eq_iff_iff, beq_iff_eq, beq_iff_eq]; exact eq_comm
    | int j => show (i == j) = (j == i); rw [Bool.eq_iff_iff, beq_iff_eq, beq_iff_eq]; exact eq_comm
    | _ => rfl
  | .str x, b => by
    cases b with
    | str y => show (x == y) = (y == x); rw [Bool.eq_iff_iff, beq_iff_eq, beq_iff_eq]; exact eq_comm
    | _ => rfl
  | .tup xs, b => by
    cases b with
    | tup ys => exact eqvs_symm xs ys
    | _ => rfl
  | .lst xs, b => by
    cases b with
    | lst ys => exact eqvs_symm xs ys
    | _ => rfl
  | .rng _ _, b => by cases b <;> rfl
  | .ins _ _, b => by cases b <;> rfl
theorem eqvs_symm : ∀ xs ys : List D, D.eqvs xs ys = D.eqvs ys xs
  | [], [] => rfl
  | [], _ :: _ => rfl
  | _ :: _, [] => rfl
  | x :: xs, y :: ys => by
    show (x.eqv y && D.eqvs xs ys) = (y.eqv x && D.eqvs ys xs)
    rw [eqv_symm x y, eqvs_symm xs ys]
end
theorem phi {md : Md} {n f : Nat} {d : DefI} {rs : List R} (hd : md.defs[f]? = some d) (hl : rs.length = d.ps.length) : md.Φ (n + 1) f rs = d.fin (evSs md.g (md.Φ n) d.body (d.env rs)) := by
  show (match md.defs[f]? with
    | some d => if rs.length = d.ps.length then d.fin (evSs md.g (md.Φ n) d.body (d.env rs)) else .stuck
    | none => .stuck) = _
  rw [hd]
  show (if rs.length = d.ps.length then d.fin (evSs md.g (md.Φ n) d.body (d.env rs)) else .stuck) = _
  rw [if_pos hl]
theorem phi_rt {md : Md} {n f : Nat} {d : DefI} {rs : List R} {r : R} {ρ : Env} (hd : md.defs[f]? = some d) (hl : rs.length = d.ps.length) (h : evSs md.g (md.Φ n) d.body (d.env rs) = .rt r ρ) : ∃ o, md.Φ (n + 1) f rs = .ok r o :=
  ⟨_, by rw [phi hd hl, h]; rfl⟩
theorem phi_ret {md : Md} {n f : Nat} {d : DefI} {rs : List R} {r : R} {ρ : Env} {e : IE} (hd : md.defs[f]? = some d) (hl : rs.length = d.ps.length) (hb : d.body = .cons (.ret e) .nil) (h : evE md.g (md.Φ n) e (d.env rs) = .ok r ρ) : ∃ o, md.Φ (n + 1) f rs = .ok r o := by
  refine phi_rt (ρ := ρ) hd hl ?_
  rw [hb]
  show ((evE md.g (md.Φ n) e (d.env rs)).thn fun r ρ => .rt r ρ).thn _ = _
  rw [h]; rfl
theorem at_1 {x0 x1 : Option R} {l : Env} : Env.at (x0 :: x1 :: l) 1 = x1 := rfl
theorem at_2 {x0 x1 x2 : Option R} {l : Env} : Env.at (x0 :: x1 :: x2 :: l) 2 = x2 := rfl
theorem at_3 {x0 x1 x2 x3 : Option R} {l : Env} : Env.at (x0 :: x1 :: x2 :: x3 :: l) 3 = x3 := rfl
theorem at_4 {x0 x1 x2 x3 x4 : Option R} {l : Env} : Env.at (x0 :: x1 :: x2 :: x3 :: x4 :: l) 4 = x4 := rfl
theorem at_5 {x0 x1 x2 x3 x4 x5 : Option R} {l : Env} : Env.at (x0 :: x1 :: x2 :: x3 :: x4 :: x5 :: l) 5 = x5 := rfl
theorem at_6 {x0 x1 x2 x3 x4 x5 x6 : Option R} {l : Env} : Env.at (x0 :: x1 :: x2 :: x3 :: x4 :: x5 :: x6 :: l) 6 = x6 := rfl
theorem at_7 {x0 x1 x2 x3 x4 x5 x6 x7 : Option R} {l : Env} : Env.at (x0 :: x1 :: x2 :: x3 :: x4 :: x5 :: x6 :: x7 :: l) 7 = x7 := rfl
theorem at_8 {x0 x1 x2 x3 x4 x5 x6 x7 x8 : Option R} {l : Env} : Env.at (x0 :: x1 :: x2 :: x3 :: x4 :: x5 :: x6 :: x7 :: x8 :: l) 8 = x8 := rfl
theorem at_9 {x0 x1 x2 x3 x4 x5 x6 x7 x8 x9 : Option R} {l : Env} : Env.at (x0 :: x1 :: x2 :: x3 :: x4 :: x5 :: x6 :: x7 :: x8 :: x9 :: l) 9 = x9 := rfl
theorem at_10 {x0 x1 x2 x3 x4 x5 x6 x7 x8 x9 x10 : Option R} {l : Env} : Env.at (x0 :: x1 :: x2 :: x3 :: x4 :: x5 :: x6 :: x7 :: x8 :: x9 :: x10 :: l) 10 = x10 := rfl
theorem at_11 {x0 x1 x2 x3 x4 x5 x6 x7 x8 x9 x10 x11 : Option R} {l : Env} : Env.at (x0 :: x1 :: x2 :: x3 :: x4 :: x5 :: x6 :: x7 :: x8 :: x9 :: x10 :: x11 :: l) 11 = x11 := rfl
theorem at_12 {x0 x1 x2 x3 x4 x5 x6 x7 x8 x9 x10 x11 x12 : Option R} {l : Env} : Env.at (x0 :: x1 :: x2 :: x3 :: x4 :: x5 :: x6 :: x7 :: x8 :: x9 :: x10 :: x11 :: x12 :: l) 12 = x12 := rfl
section
variable {fl : Nat → List Nat} {ρ : Env}
theorem g_nil : getDs fl ρ [] = some [] := rfl
theorem g_v {d : D} {as : List Ar} : getDs fl ρ (.v (.val d) :: as) = (getDs fl ρ as).map (d :: ·) := by
  show (match fullD fl (.val d), getDs fl ρ as with
    | some d, some ds => some (d :: ds)
    | _, _ => none) = _
  rw [f_val]
  cases getDs fl ρ as <;> rfl
theorem g_l {ds : List D} {as : List Ar} : getDs fl ρ (.v (.lst ds) :: as) = (getDs fl ρ as).map (.lst ds :: ·) := by
  show (match fullD fl (.lst ds), getDs fl ρ as with
    | some d, some ds => some (d :: ds)
    | _, _ => none) = _
  rw [f_lst]
  cases getDs fl ρ as <;> rfl
theorem g_b {i : Nat} {ds : List D} {as : List Ar} (h : ρ.at i = some (.lst ds)) : getDs fl ρ (.b i :: as) = (getDs fl ρ as).map (.lst ds :: ·) := by
  show (match (ρ.at i).bind (fullD fl), getDs fl ρ as with
    | some d, some ds => some (d :: ds)
    | _, _ => none) = _
  rw [h]
  show (match fullD fl (.lst ds), getDs fl ρ as with
    | some d, some ds => some (d :: ds)
    | _, _ => none) = _
  rw [f_lst]
  cases getDs fl ρ as <;> rfl
end
theorem c_len_t {ds : List D} : cbD .len [.tup ds] = some (.val (.int ds.length)) := rfl
theorem c_len_l {ds : List D} : cbD .len [.lst ds] = some (.val (.int ds.length)) := rfl
theorem c_abs {i : Int} : cbD .abs [.int i] = some (.val (.int (if i < 0 then -i else i))) := rfl
theorem c_int {i : Int} : cbD .int [.int i] = some (.val (.int i)) := rfl
theorem c_intb {b : Bool} : cbD .int [.bl b] = some (.val (.int (if b then 1 else 0))) := rfl
theorem c_list_t {ds : List D} : cbD .list [.tup ds] = some (.lst ds) := rfl
theorem c_list_l {ds : List D} : cbD .list [.lst ds] = some (.lst ds) := rfl
theorem c_tup_t {ds : List D} : cbD .tuple [.tup ds] = some (.val (.tup ds)) := rfl
theorem c_tup_l {ds : List D} : cbD .tuple [.lst ds] = some (.val (.tup ds)) := rfl
theorem c_all {ds : List D} : cbD .all [.lst ds] = (allB ds).map fun bs => .val (.bl (bs.all id)) := rfl
theorem c_rng1 {n : Int} : cbD .range [.int n] = some (.val (.rng 0 n)) := rfl
theorem c_rng2 {i j : Int} : cbD .range [.int i, .int j] = some (.val (.rng i j)) := rfl
theorem r_i {i j : Int} : binD .Add (.int i) (.int j) = some (.val (.int (i + j))) := rfl
theorem r_s {i j : Int} : binD .Sub (.int i) (.int j) = some (.val (.int (i - j))) := rfl
theorem l_i {i j : Int} : ltD (.int i) (.int j) = some (decide (i < j)) := rfl
theorem m_lt {x y : D} : cmpD .Lt x y = ltD x y := rfl
theorem m_gt {x y : D} : cmpD .Gt x y = ltD y x := rfl
theorem m_le {x y : D} : cmpD .LtE x y = (ltD y x).map not := rfl
theorem m_ge {x y : D} : cmpD .GtE x y = (ltD x y).map not := rfl
theorem m_eq {x y : D} : cmpD .Eq x y = eqD x y := rfl
theorem m_ne {x y : D} : cmpD .NotEq x y = (eqD x y).map not := rfl
theorem m_is {x y : D} : cmpD .Is x y = isD x y := rfl
theorem m_in {x y : D} : cmpD .In x y = inD x y := rfl
theorem m_ni {x y : D} : cmpD .NotIn x y = (inD x y).map not := rfl
theorem p_some {op : PySem.CmpOp} {x y : D} {b : Bool} {ρ : Env} (h : cmpD op x y = some b) : cmpP op x y ρ = .ok (.val (.bl b)) ρ := by unfold cmpP; rw [h]
theorem x_t {ds : List D} {k : Int} : idxD (.tup ds) (.int k) = L2.atI ds k := rfl
theorem x_l {ds : List D} {k : Int} : idxD (.lst ds) (.int k) = L2.atI ds k := rfl
theorem u_b {b : Bool} : truD (.bl b) = some b := rfl
theorem u_i {i : Int} : truD (.int i) = some (i != 0) := rfl
theorem plains_mem {ds : List D} (h : D.plains ds = true) : ∀ d ∈ ds, d.plain = true := by
  induction ds with
  | nil => intro d hd; cases hd
  | cons x ds ih =>
    have h := Bool.and_eq_true_iff.mp (show (x.plain && D.plains ds) = true from h)
    intro d hd
    rcases List.mem_cons.mp hd with rfl | hd
    · exact h.1
    · exact ih h.2 d hd
theorem plains_of {ds : List D} (h : ∀ d ∈ ds, d.plain = true) : D.plains ds = true := by
  induction ds with
  | nil => rfl
  | cons x ds ih =>
    show (x.plain && D.plains ds) = true
    rw [h x (by simp), ih fun d hd => h d (by simp [hd])]; rfl
theorem plain_ty {d : D} {nc : Nat} (h : d.plain = true) : d.tyOk nc = true := by cases d <;> first | rfl | cases h
section
variable {g : G} {Φ : Fn} {ρ : Env}
/-- all([..]) -/
theorem all_comp {e : IE} {elt : IE} {own : List Nat} {tg : Tg} {src : II} {c : IO} {bs : List Bool} (he : e = .comp elt own tg src c) (h : evE g Φ e ρ = .ok (.lst (bs.map D.bl)) ρ) : evE g Φ (.cb .all (.cons e .nil)) ρ = .ok (.val (.bl (bs.all id))) ρ := by
  have s1 : asArg e ρ (Res.ok (R.lst (bs.map D.bl)) ρ) = .ok (.v (.lst (bs.map D.bl))) ρ := by subst he; rfl
  show ((asArg e ρ (evE g Φ e ρ)).bind _).bind _ = _
  rw [h, s1]
  have hb : allB (bs.map D.bl) = some bs := by
    have := allB_map bs id
    simpa using this
  show (match getDs g.flds ρ [.v (.lst (bs.map D.bl))] with
    | some ds => optR (cbD .all ds) ρ
    | none => .stuck) = _
  rw [g_l, g_nil]
  show optR ((allB (bs.map D.bl)).map fun bs => R.val (.bl (bs.all id))) ρ = _
  rw [hb]; rfl
/-- a value that is walked -/
theorem src_t {e : IE} {ds : List D} (h : asD g.flds (evE g Φ e ρ) = .ok (.tup ds) ρ) : evI g Φ (.seq e) ρ = .ok ds ρ := by
  show (asD g.flds (evE g Φ e ρ)).bind _ = _
  rw [h]; rfl
theorem src_l {e : IE} {ds : List D} (h : asD g.flds (evE g Φ e ρ) = .ok (.lst ds) ρ) : evI g Φ (.seq e) ρ = .ok ds ρ := by
  show (asD g.flds (evE g Φ e ρ)).bind _ = _
  rw [h]; rfl
/-- and, an operand behind another -/
theorem and_ff {e e2 : IE} {es : IEs} (h : asD g.flds (evE g Φ e ρ) = .ok (.bl false) ρ) : evB g Φ true (.cons e (.cons e2 es)) ρ = .ok (.val (.bl false)) ρ := by
  show (asD g.flds (evE g Φ e ρ)).bind _ = _
  rw [h]; rfl
theorem and_tt {e e2 : IE} {es : IEs} (h : asD g.flds (evE g Φ e ρ) = .ok (.bl true) ρ) : evB g Φ true (.cons e (.cons e2 es)) ρ = evB g Φ true (.cons e2 es) ρ := by
  show (asD g.flds (evE g Φ e ρ)).bind _ = _
  rw [h]; rfl
theorem or_tt {e e2 : IE} {es : IEs} (h : asD g.flds (evE g Φ e ρ) = .ok (.bl true) ρ) : evB g Φ false (.cons e (.cons e2 es)) ρ = .ok (.val (.bl true)) ρ := by
  show (asD g.flds (evE g Φ e ρ)).bind _ = _
  rw [h]; rfl
theorem or_ff {e e2 : IE} {es : IEs} (h : asD g.flds (evE g Φ e ρ) = .ok (.bl false) ρ) : evB g Φ false (.cons e (.cons e2 es)) ρ = evB g Φ false (.cons e2 es) ρ := by
  show (asD g.flds (evE g Φ e ρ)).bind _ = _
  rw [h]; rfl
/-- two operands of and, both Boolean -/
theorem and2 {e e2 : IE} {a b : Bool} (h : evE g Φ e ρ = .ok (.val (.bl a)) ρ) (h2 : a = true → evE g Φ e2 ρ = .ok (.val (.bl b)) ρ) : evE g Φ (.bop true (.cons e (.cons e2 .nil))) ρ = .ok (.val (.bl (a && b))) ρ := by
  show evB g Φ true _ ρ = _
  cases a with
  | false => rw [and_ff (by rw [h]; rfl)]; rfl
  | true => rw [and_tt (by rw [h]; rfl)]; exact h2 rfl
theorem and3 {e e2 e3 : IE} {a b c : Bool} (h : evE g Φ e ρ = .ok (.val (.bl a)) ρ) (h2 : a = true → evE g Φ e2 ρ = .ok (.val (.bl b)) ρ) (h3 : a = true → b = true → evE g Φ e3 ρ = .ok (.val (.bl c)) ρ) : evE g Φ (.bop true (.cons e (.cons e2 (.cons e3 .nil)))) ρ = .ok (.val (.bl (a && (b && c)))) ρ := by
  show evB g Φ true _ ρ = _
  cases a with
  | false => rw [and_ff (by rw [h]; rfl)]; rfl
  | true =>
    rw [and_tt (by rw [h]; rfl)]
    cases b with
    | false => rw [and_ff (by rw [h2 rfl]; rfl)]; rfl
    | true => rw [and_tt (by rw [h2 rfl]; rfl)]; exact h3 rfl rfl
theorem or3 {e e2 e3 : IE} {a b c : Bool} (h : evE g Φ e ρ = .ok (.val (.bl a)) ρ) (h2 : a = false → evE g Φ e2 ρ = .ok (.val (.bl b)) ρ) (h3 : a = false → b = false → evE g Φ e3 ρ = .ok (.val (.bl c)) ρ) : evE g Φ (.bop false (.cons e (.cons e2 (.cons e3 .nil)))) ρ = .ok (.val (.bl (a || (b || c)))) ρ := by
  show evB g Φ false _ ρ = _
  cases a with
  | true => rw [or_tt (by rw [h]; rfl)]; rfl
  | false =>
    rw [or_ff (by rw [h]; rfl)]
    cases b with
    | true => rw [or_tt (by rw [h2 rfl]; rfl)]; rfl
    | false => rw [or_ff (by rw [h2 rfl]; rfl)]; exact h3 rfl rfl
theorem ss_cons {s : IS} {ss : ISs} : evSs g Φ (.cons s ss) ρ = (evS g Φ s ρ).thn fun ρ => evSs g Φ ss ρ := rfl
theorem ss_nil : evSs g Φ .nil ρ = .nx ρ := rfl
theorem e_asg {i : Nat} {e : IE} : evS g Φ (.asg i e) ρ = (evE g Φ e ρ).thn fun r ρ => .nx (ρ.set i (some r)) := rfl
theorem e_app {i : Nat} {e : IE} {ds : List D} {d : D} {ρ' : Env} (h0 : ρ.at i = some (.lst ds)) (h : asD g.flds (evE g Φ e ρ) = .ok d ρ') {es : List D} (h1 : ρ'.at i = some (.lst es)) (hl : es.length < LINE) : evS g Φ (.app i e) ρ = .nx (ρ'.set i (some (.lst (es ++ [d])))) := by
  show (match ρ.at i with
    | some (.lst _) => (asD g.flds (evE g Φ e ρ)).thn fun d ρ => (match ρ.at i with
      | some (.lst ds) => if ds.length < LINE then .nx (ρ.set i (some (.lst (ds ++ [d])))) else .stuck
      | _ => .stuck)
    | _ => .stuck) = _
  rw [h0]
  show (asD g.flds (evE g Φ e ρ)).thn _ = _
  rw [h, t_ok, h1]
  show (if es.length < LINE then _ else _) = _
  rw [if_pos hl]
theorem e_ret {e : IE} : evS g Φ (.ret e) ρ = (evE g Φ e ρ).thn fun r ρ => .rt r ρ := rfl
theorem e_bin {op : PySem.Operator} {a b : IE} : evE g Φ (.bin op a b) ρ = (asArg a ρ (evE g Φ a ρ)).bind fun x ρ => (asArg b ρ (evE g Φ b ρ)).bind fun y ρ => match x.d g.flds ρ, y.d g.flds ρ with
    | some x, some y => optR (binD op x y) ρ
    | _, _ => .stuck := rfl
theorem e_for {tg : Tg} {src : II} {body : ISs} {ds : List D} {ρ' : Env} (h : evI g Φ src ρ = .ok ds ρ') : evS g Φ (.for_ tg src body) ρ = forF tg (fun ρ => evSs g Φ body ρ) ds ρ' := by
  show (evI g Φ src ρ).thn _ = _
  rw [h]; rfl
theorem for_nil {tg : Tg} {body : Env → SRes} : forF tg body [] ρ = .nx ρ := rfl
theorem for_nx {i : Nat} {body : Env → SRes} {d : D} {ds : List D} {ρ2 : Env} (h : body (ρ.set i (some (.val d))) = .nx ρ2) : forF (.one i) body (d :: ds) ρ = forF (.one i) body ds ρ2 := by
  show (match body (ρ.set i (some (.val d))) with
    | .nx ρ2 => forF (.one i) body ds ρ2
    | .ct ρ2 => forF (.one i) body ds ρ2
    | .bk ρ2 => .nx ρ2
    | x => x) = _
  rw [h]
/-- a test of a Boolean -/
theorem te_bl {e : IE} {b : Bool} (hv : e.isVar = none) (h : evE g Φ e ρ = .ok (.val (.bl b)) ρ) : teE g Φ e ρ = .ok b ρ := by
  rw [te_tv hv]
  show (evE g Φ e ρ).bind _ = _
  rw [h]; rfl
theorem nt_bl {e : IE} {b : Bool} (hv : e.isVar = none) (h : evE g Φ e ρ = .ok (.val (.bl b)) ρ) : evE g Φ (.nt e) ρ = .ok (.val (.bl (!b))) ρ := by
  show (teE g Φ e ρ).bind _ = _
  rw [te_bl hv h]; rfl
end
end Fx
end
section
set_option linter.all false
set_option Elab.async false
set_option maxRecDepth 100000
set_option maxHeartbeats 4000000
namespace K02
open Fx
open PySem PySem.Spec L2
def top (i : Nat) : Stmt := PySem.Challenge.pw_chambercuts_k02_tables.main.body.getD i (.Pass ⟨0, 0, 0, 0⟩)
def meth (i j : Nat) : Stmt := match top i with
  | .ClassDef _ _ _ b _ _ _ _ _ _ _ => b.getD j (.Pass ⟨0, 0, 0, 0⟩)
  | _ => .Pass ⟨0, 0, 0, 0⟩
def b_is_integer : ISs := (.cons (.ret (.bop true (.cons (.isi (.var 0) .int) (.cons (.nt (.isi (.var 0) .bool)) .nil)))) .nil)
def b_is_within : ISs := (.cons (.ret (.bop true (.cons (.call 0 (.cons (.var 0) .nil)) (.cons (.cmp2 .LtE .LtE (.var 1) (.var 0) (.var 2)) .nil)))) .nil)
def b_is_tuple : ISs := (.cons (.ret (.bop true (.cons (.isi (.var 0) .tuple) (.cons (.cmp2 .LtE .LtE (.var 1) (.cb .len (.cons (.var 0) .nil)) (.var 2)) .nil)))) .nil)
def b_is_ascending : ISs := (.cons (.ret (.cb .all (.cons (.comp (.cmp .Lt (.idx (.var 0) (.bin .Sub (.var 1) (.cst (.int 1)))) (.idx (.var 0) (.var 1))) [1] (.one 1) (.seq (.cb .range (.cons (.cst (.int 1)) (.cons (.cb .len (.cons (.var 0) .nil)) .nil)))) .non) .nil))) .nil)
def b_is_rising : ISs := (.cons (.ret (.bop true (.cons (.isi (.var 0) .tuple) (.cons (.cb .all (.cons (.comp (.call 1 (.cons (.var 2) (.cons (.cst (.int 0)) (.cons (.var 1) .nil)))) [2] (.one 2) (.seq (.var 0)) .non) .nil)) (.cons (.call 3 (.cons (.var 0) .nil)) .nil))))) .nil)
def b_is_bunch : ISs := (.cons (.ret (.bop true (.cons (.call 4 (.cons (.var 0) (.cons (.bin .Sub (.var 1) (.cst (.int 1))) .nil))) (.cons (.cmp .Gt (.cb .len (.cons (.var 0) .nil)) (.cst (.int 0))) .nil)))) .nil)
def b_are_rows : ISs := (.cons (.ret (.bop true (.cons (.call 2 (.cons (.var 0) (.cons (.cst (.int 1)) (.cons (.glob 1) .nil)))) (.cons (.cb .all (.cons (.comp (.call 5 (.cons (.var 2) (.cons (.var 1) .nil))) [2] (.one 2) (.seq (.var 0)) .non) .nil)) .nil)))) .nil)
def b_outs : ISs := (.cons (.asg 1 (.cb .range (.cons (.cb .len (.cons (.attr (.var 0) 1) .nil)) .nil))) (.cons (.ret (.cb .tuple (.cons (.comp2 (.tup (.cons (.var 2) (.cons (.var 3) .nil))) [2, 3] [3] (.one 2) (.seq (.cb .range (.cons (.attr (.var 0) 0) .nil))) (.one 3) (.seq (.var 1)) (.som (.cmp .NotIn (.var 2) (.idx (.attr (.var 0) 1) (.var 3))))) .nil))) .nil))
def b__law_box : ISs := (.cons (.asg 2 (.bin .Add (.bin .Mult (.cst (.int 7919)) (.var 1)) (.cst (.int 101)))) (.cons (.ifs (.cmp .Lt (.var 1) (.cb .len (.cons (.var 0) .nil))) (.cons (.asg 2 (.cb .abs (.cons (.idx (.var 0) (.var 1)) .nil))) .nil) (.cons (.ifs (.cmp .Gt (.cb .len (.cons (.var 0) .nil)) (.cst (.int 0))) (.cons (.asg 2 (.bin .Add (.bin .Mult (.bin .Mod (.cb .int (.cons (.cb .abs (.cons (.idx (.var 0) (.bin .Mod (.cb .int (.cons (.var 1) .nil)) (.cb .len (.cons (.var 0) .nil)))) .nil)) .nil)) (.cst (.int 1000000007))) (.cst (.int 31))) (.bin .Mult (.cst (.int 7919)) (.var 1)))) .nil) .nil) .nil)) (.cons (.asg 3 (.idx (.lst (.cons (.cst (.int 0)) (.cons (.var 2) .nil))) (.cb .int (.cons (.cmp .GtE (.var 2) (.bin .Pow (.cst (.int 10)) (.cst (.int 18)))) .nil)))) (.cons (.ret (.lst (.cons (.var 3) (.cons (.bin .Add (.bin .Mod (.cb .int (.cons (.bin .Add (.bin .Mult (.bin .Mod (.cb .int (.cons (.var 2) .nil)) (.cst (.int 1000000007))) (.cst (.int 48271))) (.bin .Mult (.cst (.int 613)) (.var 1))) .nil)) (.cst (.int 2147483647))) (.cst (.int 1))) .nil)))) .nil))))
def b__law_take : ISs := (.cons (.ifs (.cmp .Gt (.idx (.var 0) (.cst (.int 0))) (.cst (.int 0))) (.cons (.asg 2 (.bin .Mod (.cb .int (.cons (.idx (.var 0) (.cst (.int 0))) .nil)) (.var 1))) (.cons (.seti 0 (.cst (.int 0)) (.bin .FloorDiv (.idx (.var 0) (.cst (.int 0))) (.var 1))) (.cons (.retm 2) .nil))) .nil) (.cons (.seti 0 (.cst (.int 1)) (.bin .Mod (.cb .int (.cons (.bin .Add (.bin .Mult (.idx (.var 0) (.cst (.int 1))) (.cst (.int 39373))) (.cst (.int 69621))) .nil)) (.cst (.int 2147483647)))) (.cons (.ret (.bin .Mod (.cb .int (.cons (.bin .FloorDiv (.idx (.var 0) (.cst (.int 1))) (.cst (.int 8191))) .nil)) (.var 1))) .nil)))
def b__law_pick : ISs := (.cons (.ret (.idx (.var 1) (.call 9 (.cons (.var 0) (.cons (.cb .len (.cons (.var 1) .nil)) .nil))))) .nil)
def b__law_whole : ISs := (.cons (.ret (.bop true (.cons (.isi (.var 0) .int) (.cons (.nt (.isi (.var 0) .bool)) .nil)))) .nil)
def b__law_is_numbers : ISs := (.cons (.ifs (.nt (.isi (.var 0) .tuple)) (.cons (.ret (.cst (.bl false))) .nil) .nil) (.cons (.ret (.cmp .Eq (.comp (.var 2) [2] (.one 2) (.seq (.var 0)) (.som (.bop false (.cons (.nt (.call 11 (.cons (.var 2) .nil))) (.cons (.cmp .Lt (.var 2) (.cst (.int 0))) (.cons (.cmp .GtE (.var 2) (.var 1)) .nil)))))) (.lst .nil))) .nil))
def b__law_is_due : ISs := (.cons (.ret (.ife (.var 1) (.cmp .Is (.var 0) (.cst (.bl true))) (.cmp .Is (.var 0) (.cst (.bl false))))) .nil)
def b__law_spoilt : ISs := (.cons (.ifs (.isi (.var 1) .tuple) (.cons (.asg 3 (.call 9 (.cons (.var 0) (.cons (.bin .Add (.cb .len (.cons (.var 1) .nil)) (.cst (.int 1))) .nil)))) (.cons (.ifs (.bop true (.cons (.cmp .NotEq (.var 1) (.tup .nil)) (.cons (.cmp .Gt (.var 2) (.cst (.int 0))) (.cons (.cmp .Gt (.call 9 (.cons (.var 0) (.cons (.cst (.int 5)) .nil))) (.cst (.int 0))) .nil)))) (.cons (.asg 3 (.bin .Mod (.cb .int (.cons (.var 3) .nil)) (.cb .len (.cons (.var 1) .nil)))) (.cons (.ret (.bin .Add (.bin .Add (.slc (.var 1) .non (.som (.var 3))) (.tup (.cons (.call 14 (.cons (.var 0) (.cons (.idx (.var 1) (.var 3)) (.cons (.bin .Sub (.var 2) (.cst (.int 1))) .nil)))) .nil))) (.slc (.var 1) (.som (.bin .Add (.var 3) (.cst (.int 1)))) .non))) .nil)) .nil) (.cons (.asg 4 (.call 9 (.cons (.var 0) (.cons (.cst (.int 8)) .nil)))) (.cons (.ifs (.cmp .Eq (.var 4) (.cst (.int 0))) (.cons (.ret (.cb .list (.cons (.var 1) .nil))) .nil) .nil) (.cons (.ifs (.cmp .Eq (.var 4) (.cst (.int 1))) (.cons (.ret (.bin .Add (.slc (.var 1) .non (.som (.var 3))) (.slc (.var 1) (.som (.bin .Add (.var 3) (.cst (.int 1)))) .non))) .nil) .nil) (.cons (.ifs (.cmp .Eq (.var 4) (.cst (.int 2))) (.cons (.ret (.bin .Add (.bin .Add (.slc (.var 1) .non (.som (.var 3))) (.slc (.var 1) (.som (.var 3)) (.som (.bin .Add (.var 3) (.cst (.int 1)))))) (.slc (.var 1) (.som (.var 3)) .non))) .nil) .nil) (.cons (.ifs (.cmp .Eq (.var 4) (.cst (.int 3))) (.cons (.ret (.bin .Add (.slc (.var 1) (.som (.var 3)) .non) (.slc (.var 1) .non (.som (.var 3))))) .nil) .nil) (.cons (.ifs (.cmp .Eq (.var 4) (.cst (.int 4))) (.cons (.ret (.bin .Add (.var 1) (.tup (.cons (.tup .nil) .nil)))) .nil) .nil) (.cons (.ifs (.cmp .Eq (.var 4) (.cst (.int 5))) (.cons (.ret (.bin .Add (.bin .Add (.slc (.var 1) .non (.som (.var 3))) (.tup (.cons (.cst (.int 0)) .nil))) (.slc (.var 1) (.som (.var 3)) .non))) .nil) .nil) (.cons (.ifs (.cmp .Eq (.var 4) (.cst (.int 6))) (.cons (.ret (.bin .Add (.slc (.var 1) .non (.som (.neg (.cst (.int 1))))) (.slc (.var 1) .non (.som (.cst (.int 1)))))) .nil) .nil) (.cons (.ret (.cst .non)) .nil))))))))))) .nil) (.cons (.ifs (.isi (.var 1) .str) (.cons (.ret (.call 10 (.cons (.var 0) (.cons (.lst (.cons (.bin .Add (.var 1) (.cst (.str "b"))) (.cons (.cst (.str "")) (.cons (.slc (.var 1) (.som (.cst (.int 1))) .non) (.cons (.bin .Add (.cst (.str "a")) (.var 1)) (.cons (.cst (.int 0)) .nil)))))) .nil)))) .nil) .nil) (.cons (.ifs (.call 11 (.cons (.var 1) .nil)) (.cons (.ret (.call 10 (.cons (.var 0) (.cons (.lst (.cons (.bin .Add (.var 1) (.cst (.int 1))) (.cons (.bin .Sub (.var 1) (.cst (.int 1))) (.cons (.cmp .Gt (.var 1) (.cst (.int 0))) (.cons (.bin .Sub (.neg (.cst (.int 1))) (.var 1)) (.cons (.tup (.cons (.var 1) .nil)) (.cons (.cst .non) (.cons (.cb .str (.cons (.var 1) .nil)) (.cons (.bin .Add (.var 1) (.cst (.int 16))) .nil))))))))) .nil)))) .nil) .nil) (.cons (.ret (.call 10 (.cons (.var 0) (.cons (.lst (.cons (.cst (.int 0)) (.cons (.tup .nil) (.cons (.cst (.str "none")) .nil)))) .nil)))) .nil))))
def b__law_ascends : ISs := (.cons (.ret (.cmp .Eq (.comp (.var 1) [1] (.one 1) (.seq (.cb .range (.cons (.cst (.int 1)) (.cons (.cb .len (.cons (.var 0) .nil)) .nil)))) (.som (.cmp .GtE (.idx (.var 0) (.bin .Sub (.var 1) (.cst (.int 1)))) (.idx (.var 0) (.var 1))))) (.lst .nil))) .nil)
def b__law_drawn_table : ISs := (.cons (.asg 1 (.call 8 (.cons (.var 0) (.cons (.cst (.int 0)) .nil)))) (.cons (.asg 2 (.call 10 (.cons (.var 1) (.cons (.lst (.cons (.cst (.int 5)) (.cons (.cst (.int 5)) (.cons (.cst (.int 5)) (.cons (.cst (.int 4)) (.cons (.cst (.int 4)) (.cons (.cst (.int 3)) (.cons (.cst (.int 2)) (.cons (.cst (.int 1)) .nil))))))))) .nil)))) (.cons (.asg 3 (.call 9 (.cons (.var 1) (.cons (.cst (.int 5)) .nil)))) (.cons (.asg 4 (.lst .nil)) (.cons (.for_ (.one 5) (.seq (.cb .range (.cons (.call 10 (.cons (.var 1) (.cons (.lst (.cons (.cst (.int 5)) (.cons (.cst (.int 5)) (.cons (.cst (.int 4)) (.cons (.cst (.int 3)) (.cons (.cst (.int 2)) (.cons (.cst (.int 1)) .nil))))))) .nil))) .nil))) (.cons (.asg 6 (.comp (.var 8) [8] (.one 8) (.seq (.cb .range (.cons (.var 2) .nil))) (.som (.cmp .Eq (.call 9 (.cons (.var 1) (.cons (.cst (.int 2)) .nil))) (.cst (.int 0)))))) (.cons (.asg 7 (.call 9 (.cons (.var 1) (.cons (.var 2) .nil)))) (.cons (.ifs (.cmp .Eq (.var 3) (.cst (.int 0))) (.cons (.asg 6 (.lst (.cons (.cst (.int 0)) (.cons (.var 7) .nil)))) .nil) (.cons (.ifs (.cmp .Eq (.var 3) (.cst (.int 1))) (.cons (.asg 6 (.lst (.cons (.var 7) .nil))) .nil) (.cons (.ifs (.cmp .Eq (.var 3) (.cst (.int 2))) (.cons (.asg 6 (.comp (.var 8) [8] (.one 8) (.seq (.cb .range (.cons (.var 2) .nil))) (.som (.cmp .NotEq (.var 8) (.var 7))))) .nil) .nil) .nil)) .nil)) (.cons (.ifs (.cmp .Eq (.var 6) (.lst .nil)) (.cons (.asg 6 (.lst (.cons (.var 7) .nil))) .nil) .nil) (.cons (.app 4 (.cb .tuple (.cons (.comp (.var 8) [8] (.one 8) (.seq (.cb .range (.cons (.var 2) .nil))) (.som (.cmp .In (.var 8) (.var 6)))) .nil))) .nil)))))) (.cons (.ret (.tup (.cons (.var 2) (.cons (.cb .tuple (.cons (.var 4) .nil)) .nil)))) .nil))))))
def b__law_outs : ISs := (.cons (.unp [1, 2] (.var 0)) (.cons (.asg 3 (.lst .nil)) (.cons (.for_ (.one 4) (.seq (.cb .range (.cons (.var 1) .nil))) (.cons (.asg 3 (.bin .Add (.var 3) (.comp (.tup (.cons (.var 4) (.cons (.var 5) .nil))) [5] (.one 5) (.seq (.cb .range (.cons (.cb .len (.cons (.var 2) .nil)) .nil))) (.som (.cmp .NotIn (.var 4) (.idx (.var 2) (.var 5))))))) .nil)) (.cons (.retm 3) .nil))))
def b__law_is_lot : ISs := (.cons (.ret (.bop true (.cons (.call 12 (.cons (.var 0) (.cons (.var 1) .nil))) (.cons (.cmp .NotEq (.var 0) (.tup .nil)) (.cons (.call 15 (.cons (.var 0) .nil)) .nil))))) .nil)
def b__law_told : ISs := (.cons (.try_ (.cons (.asg 2 (.make 0 (.cons (.var 0) (.cons (.var 1) .nil)))) .nil) [⟨0, some 3, (.pair (.str "number") "value")⟩, ⟨1, some 3, (.pair (.str "locks") "value")⟩]) (.cons (.ret (.tup (.cons (.cst (.str "kept")) (.cons (.attr (.var 2) 0) (.cons (.attr (.var 2) 1) .nil))))) .nil))
def b__law_due : ISs := (.cons (.ifs (.bop false (.cons (.nt (.call 11 (.cons (.var 0) .nil))) (.cons (.cmp .Lt (.var 0) (.cst (.int 1))) (.cons (.cmp .Gt (.var 0) (.cst (.int 5))) .nil)))) (.cons (.ret (.tup (.cons (.cst (.str "number")) (.cons (.var 0) .nil)))) .nil) .nil) (.cons (.ifs (.bop false (.cons (.nt (.isi (.var 1) .tuple)) (.cons (.cmp .Lt (.cb .len (.cons (.var 1) .nil)) (.cst (.int 1))) (.cons (.cmp .Gt (.cb .len (.cons (.var 1) .nil)) (.cst (.int 5))) .nil)))) (.cons (.ret (.tup (.cons (.cst (.str "locks")) (.cons (.var 1) .nil)))) .nil) .nil) (.cons (.ifs (.cmp .NotEq (.comp (.var 2) [2] (.one 2) (.seq (.var 1)) (.som (.nt (.call 18 (.cons (.var 2) (.cons (.var 0) .nil)))))) (.lst .nil)) (.cons (.ret (.tup (.cons (.cst (.str "locks")) (.cons (.var 1) .nil)))) .nil) .nil) (.cons (.ret (.tup (.cons (.cst (.str "kept")) (.cons (.var 0) (.cons (.var 1) .nil))))) .nil))))
def b_law : ISs := (.cons (.unp [1, 2] (.call 16 (.cons (.var 0) .nil))) (.cons (.asg 3 (.call 8 (.cons (.var 0) (.cons (.cst (.int 4)) .nil)))) (.cons (.asg 4 (.make 0 (.cons (.var 1) (.cons (.var 2) .nil)))) (.cons (.ifs (.bop false (.cons (.nt (.eqo (.var 4) (.make 0 (.cons (.var 1) (.cons (.var 2) .nil))))) (.cons (.eqo (.var 4) (.tup (.cons (.var 1) (.cons (.var 2) .nil)))) (.cons (.cmp .NotEq (.call 7 (.cons (.var 4) .nil)) (.cb .tuple (.cons (.call 17 (.cons (.tup (.cons (.var 1) (.cons (.var 2) .nil))) .nil)) .nil))) .nil)))) (.cons (.ret (.cst (.bl false))) .nil) .nil) (.cons (.asg 5 (.lst (.cons (.tup (.cons (.var 1) (.cons (.var 2) .nil))) (.cons (.tup (.cons (.var 1) (.cons (.cb .list (.cons (.var 2) .nil)) .nil))) (.cons (.tup (.cons (.var 1) (.cons (.tup .nil) .nil))) (.cons (.tup (.cons (.var 1) (.cons (.slc (.var 2) (.som (.cst (.int 1))) .non) .nil))) (.cons (.tup (.cons (.var 1) (.cons (.bin .Add (.var 2) (.tup (.cons (.tup .nil) .nil))) .nil))) (.cons (.tup (.cons (.var 1) (.cons (.bin .Mult (.tup (.cons (.tup (.cons (.cst (.int 0)) .nil)) .nil)) (.cst (.int 5))) .nil))) (.cons (.tup (.cons (.var 1) (.cons (.bin .Mult (.tup (.cons (.tup (.cons (.cst (.int 0)) .nil)) .nil)) (.cst (.int 6))) .nil))) .nil))))))))) (.cons (.asg 5 (.bin .Add (.var 5) (.lst (.cons (.tup (.cons (.var 1) (.cons (.rev (.var 2)) .nil))) (.cons (.tup (.cons (.var 1) (.cons (.bin .Add (.var 2) (.tup (.cons (.tup (.cons (.var 1) .nil)) .nil))) .nil))) (.cons (.tup (.cons (.var 1) (.cons (.tup (.cons (.tup (.cons (.cst (.int 0)) (.cons (.cst (.int 0)) .nil))) .nil)) .nil))) (.cons (.tup (.cons (.var 1) (.cons (.tup (.cons (.tup (.cons (.cst (.bl true)) .nil)) .nil)) .nil))) (.cons (.tup (.cons (.var 1) (.cons (.cst .non) .nil))) (.cons (.tup (.cons (.var 1) (.cons (.tup (.cons (.lst (.cons (.cst (.int 0)) .nil)) .nil)) .nil))) .nil))))))))) (.cons (.asg 5 (.bin .Add (.var 5) (.comp (.tup (.cons (.var 10) (.cons (.var 2) .nil))) [10] (.one 10) (.seq (.lst (.cons (.cst (.int 0)) (.cons (.cst (.int 6)) (.cons (.neg (.cst (.int 1))) (.cons (.cst .non) (.cons (.cst (.bl true)) (.cons (.cst (.str "2")) (.cons (.bin .Add (.var 1) (.cst (.int 1))) (.cons (.bin .Sub (.var 1) (.cst (.int 1))) (.cons (.cst (.int 5)) .nil))))))))))) .non))) (.cons (.app 5 (.tup (.cons (.var 1) (.cons (.tup (.cons (.rev (.cb .tuple (.cons (.cb .range (.cons (.var 1) .nil)) .nil))) .nil)) .nil)))) (.cons (.for_ (.one 6) (.seq (.cb .range (.cons (.cst (.int 5)) .nil))) (.cons (.app 5 (.tup (.cons (.var 1) (.cons (.call 14 (.cons (.var 3) (.cons (.var 2) (.cons (.cst (.int 2)) .nil)))) .nil)))) .nil)) (.cons (.for_ (.one 7) (.seq (.var 5)) (.cons (.asg 8 (.call 20 (.cons (.idx (.var 7) (.cst (.int 0))) (.cons (.idx (.var 7) (.cst (.int 1))) .nil)))) (.cons (.ifs (.cmp .NotEq (.call 19 (.cons (.idx (.var 7) (.cst (.int 0))) (.cons (.idx (.var 7) (.cst (.int 1))) .nil))) (.var 8)) (.cons (.ret (.cst (.bl false))) .nil) .nil) (.cons (.ifs (.cmp .Eq (.idx (.var 8) (.cst (.int 0))) (.cst (.str "kept"))) (.cons (.asg 9 (.make 0 (.cons (.idx (.var 7) (.cst (.int 0))) (.cons (.idx (.var 7) (.cst (.int 1))) .nil)))) (.cons (.ifs (.bop false (.cons (.nt (.call 13 (.cons (.eqo (.var 4) (.var 9)) (.cons (.cmp .Eq (.var 7) (.tup (.cons (.var 1) (.cons (.var 2) .nil)))) .nil)))) (.cons (.cmp .NotEq (.call 7 (.cons (.var 9) .nil)) (.cb .tuple (.cons (.call 17 (.cons (.var 7) .nil)) .nil))) .nil))) (.cons (.ret (.cst (.bl false))) .nil) .nil) .nil)) .nil) .nil)))) (.cons (.ret (.cst (.bl true))) .nil)))))))))))
def b_Table_init : ISs := (.cons (.ifs (.nt (.call 1 (.cons (.var 1) (.cons (.cst (.int 1)) (.cons (.glob 0) .nil))))) (.cons (.rai 0 (.var 1)) .nil) .nil) (.cons (.ifs (.nt (.call 6 (.cons (.var 2) (.cons (.var 1) .nil)))) (.cons (.rai 1 (.var 2)) .nil) .nil) (.cons (.fld 0 0 (.var 1)) (.cons (.fld 0 1 (.var 2)) .nil))))
def b_Table_eq : ISs := (.cons (.ret (.bop true (.cons (.isi (.var 1) (.cls 0)) (.cons (.cmp .Eq (.attr (.var 0) 0) (.attr (.var 1) 0)) (.cons (.cmp .Eq (.attr (.var 0) 1) (.attr (.var 1) 1)) .nil))))) .nil)
def d_is_integer : DefI := ⟨top 5, ("is_integer", none), "is_integer", "is_integer", ["value"], ["value"], [], b_is_integer⟩
def d_is_within : DefI := ⟨top 6, ("is_within", none), "is_within", "is_within", ["value", "low", "high"], ["value", "low", "high"], [], b_is_within⟩
def d_is_tuple : DefI := ⟨top 7, ("is_tuple", none), "is_tuple", "is_tuple", ["value", "least", "most"], ["value", "least", "most"], [], b_is_tuple⟩
def d_is_ascending : DefI := ⟨top 8, ("is_ascending", none), "is_ascending", "is_ascending", ["value"], ["value", "at"], [], b_is_ascending⟩
def d_is_rising : DefI := ⟨top 9, ("is_rising", none), "is_rising", "is_rising", ["value", "high"], ["value", "high", "part"], [], b_is_rising⟩
def d_is_bunch : DefI := ⟨top 13, ("is_bunch", none), "is_bunch", "is_bunch", ["value", "many"], ["value", "many"], [], b_is_bunch⟩
def d_are_rows : DefI := ⟨top 14, ("are_rows", none), "are_rows", "are_rows", ["value", "many"], ["value", "many", "row"], [], b_are_rows⟩
def d_outs : DefI := ⟨top 16, ("outs", none), "outs", "outs", ["table"], ["table", "locks", "key", "lock"], [1], b_outs⟩
def d__law_box : DefI := ⟨top 18, ("_law_box", none), "_law_box", "_law_box", ["script", "k"], ["script", "k", "cell", "great"], [2, 3], b__law_box⟩
def d__law_take : DefI := ⟨top 19, ("_law_take", none), "_law_take", "_law_take", ["box", "many"], ["box", "many", "got"], [2], b__law_take⟩
def d__law_pick : DefI := ⟨top 20, ("_law_pick", none), "_law_pick", "_law_pick", ["box", "some"], ["box", "some"], [], b__law_pick⟩
def d__law_whole : DefI := ⟨top 21, ("_law_whole", none), "_law_whole", "_law_whole", ["value"], ["value"], [], b__law_whole⟩
def d__law_is_numbers : DefI := ⟨top 22, ("_law_is_numbers", none), "_law_is_numbers", "_law_is_numbers", ["value", "many"], ["value", "many", "one"], [], b__law_is_numbers⟩
def d__law_is_due : DefI := ⟨top 23, ("_law_is_due", none), "_law_is_due", "_law_is_due", ["told", "due"], ["told", "due"], [], b__law_is_due⟩
def d__law_spoilt : DefI := ⟨top 24, ("_law_spoilt", none), "_law_spoilt", "_law_spoilt", ["box", "value", "deep"], ["box", "value", "deep", "at", "how"], [3, 4], b__law_spoilt⟩
def d__law_ascends : DefI := ⟨top 25, ("_law_ascends", none), "_law_ascends", "_law_ascends", ["value"], ["value", "k"], [], b__law_ascends⟩
def d__law_drawn_table : DefI := ⟨top 26, ("_law_drawn_table", none), "_law_drawn_table", "_law_drawn_table", ["script"], ["script", "box", "many", "how", "rows", "lock", "row", "one", "key"], [1, 2, 3, 4, 5, 6, 7], b__law_drawn_table⟩
def d__law_outs : DefI := ⟨top 27, ("_law_outs", none), "_law_outs", "_law_outs", ["table"], ["table", "many", "rows", "found", "key", "lock"], [1, 2, 3, 4], b__law_outs⟩
def d__law_is_lot : DefI := ⟨top 28, ("_law_is_lot", none), "_law_is_lot", "_law_is_lot", ["value", "many"], ["value", "many"], [], b__law_is_lot⟩
def d__law_told : DefI := ⟨top 29, ("_law_told", none), "_law_told", "_law_told", ["many", "rows"], ["many", "rows", "made", "e"], [2, 3], b__law_told⟩
def d__law_due : DefI := ⟨top 30, ("_law_due", none), "_law_due", "_law_due", ["many", "rows"], ["many", "rows", "row"], [], b__law_due⟩
def d_law : DefI := ⟨top 31, ("law", none), "law", "law", ["script"], ["script", "many", "rows", "box", "made", "cases", "k", "one", "due", "other", "odd"], [1, 2, 3, 4, 5, 6, 7, 8, 9], b_law⟩
def d_Table_init : DefI := ⟨meth 15 0, ("Table", some "__init__"), "__init__", "Table.__init__", ["self", "many", "rows"], ["self", "many", "rows"], [], b_Table_init⟩
def d_Table_eq : DefI := ⟨meth 15 1, ("Table", some "__eq__"), "__eq__", "Table.__eq__", ["self", "other"], ["self", "other"], [], b_Table_eq⟩
def md : Md where
  defs := [d_is_integer, d_is_within, d_is_tuple, d_is_ascending, d_is_rising, d_is_bunch, d_are_rows, d_outs, d__law_box, d__law_take, d__law_pick, d__law_whole, d__law_is_numbers, d__law_is_due, d__law_spoilt, d__law_ascends, d__law_drawn_table, d__law_outs, d__law_is_lot, d__law_told, d__law_due, d_law, d_Table_init, d_Table_eq]
  fns := [("is_integer", 1), ("is_within", 3), ("is_tuple", 3), ("is_ascending", 1), ("is_rising", 2), ("is_bunch", 2), ("are_rows", 2), ("outs", 1), ("_law_box", 2), ("_law_take", 2), ("_law_pick", 2), ("_law_whole", 1), ("_law_is_numbers", 2), ("_law_is_due", 2), ("_law_spoilt", 3), ("_law_ascends", 1), ("_law_drawn_table", 1), ("_law_outs", 1), ("_law_is_lot", 2), ("_law_told", 2), ("_law_due", 2), ("law", 1)]
  cls := [("Table", 2)]
  ini := [22]
  eqf := [some 23]
  flds := [[0, 1]]
  fnm := ["many", "rows"]
  errs := [⟨"InvalidNumber", "value", meth 2 0, "InvalidNumber.__init__", "self", "value"⟩, ⟨"InvalidLocks", "value", meth 3 0, "InvalidLocks.__init__", "self", "value"⟩]
  xcs := ["InvalidNumber", "InvalidLocks", "LockError"]
  isa := [[true, false, true], [false, true, true]]
  gls := [("MOST_KEYS", 5), ("MOST_LOCKS", 5)]
theorem t_shape : md.shape = true := by decide +kernel
theorem t_lnk : md.lnk = true := by decide +kernel
theorem t_nb : ∀ (f : Nat) (x : Str) (np : Nat), md.fns[f]? = some (x, np) → x = "" → False := by
  intro f x np e z
  have h : md.fns.all (fun p => !decide (p.1 = "")) = true := by decide +kernel
  have q := all_get h e
  subst z
  simp at q
theorem ok_is_integer : d_is_integer.okB md = true := by decide +kernel
theorem ba_is_integer : d_is_integer.ba := fun _ _ _ _ _ _ us hl => match us, hl with | [_], _ => rfl
theorem ok_is_within : d_is_within.okB md = true := by decide +kernel
theorem ba_is_within : d_is_within.ba := fun _ _ _ _ _ _ us hl => match us, hl with | [_, _, _], _ => rfl
theorem ok_is_tuple : d_is_tuple.okB md = true := by decide +kernel
theorem ba_is_tuple : d_is_tuple.ba := fun _ _ _ _ _ _ us hl => match us, hl with | [_, _, _], _ => rfl
theorem ok_is_ascending : d_is_ascending.okB md = true := by decide +kernel
theorem ba_is_ascending : d_is_ascending.ba := fun _ _ _ _ _ _ us hl => match us, hl with | [_], _ => rfl
theorem ok_is_rising : d_is_rising.okB md = true := by decide +kernel
theorem ba_is_rising : d_is_rising.ba := fun _ _ _ _ _ _ us hl => match us, hl with | [_, _], _ => rfl
theorem ok_is_bunch : d_is_bunch.okB md = true := by decide +kernel
theorem ba_is_bunch : d_is_bunch.ba := fun _ _ _ _ _ _ us hl => match us, hl with | [_, _], _ => rfl
theorem ok_are_rows : d_are_rows.okB md = true := by decide +kernel
theorem ba_are_rows : d_are_rows.ba := fun _ _ _ _ _ _ us hl => match us, hl with | [_, _], _ => rfl
theorem ok_outs : d_outs.okB md = true := by decide +kernel
theorem ba_outs : d_outs.ba := fun _ _ _ _ _ _ us hl => match us, hl with | [_], _ => rfl
theorem ok__law_box : d__law_box.okB md = true := by decide +kernel
theorem ba__law_box : d__law_box.ba := fun _ _ _ _ _ _ us hl => match us, hl with | [_, _], _ => rfl
theorem ok__law_take : d__law_take.okB md = true := by decide +kernel
theorem ba__law_take : d__law_take.ba := fun _ _ _ _ _ _ us hl => match us, hl with | [_, _], _ => rfl
theorem ok__law_pick : d__law_pick.okB md = true := by decide +kernel
theorem ba__law_pick : d__law_pick.ba := fun _ _ _ _ _ _ us hl => match us, hl with | [_, _], _ => rfl
theorem ok__law_whole : d__law_whole.okB md = true := by decide +kernel
theorem ba__law_whole : d__law_whole.ba := fun _ _ _ _ _ _ us hl => match us, hl with | [_], _ => rfl
theorem ok__law_is_numbers : d__law_is_numbers.okB md = true := by decide +kernel
theorem ba__law_is_numbers : d__law_is_numbers.ba := fun _ _ _ _ _ _ us hl => match us, hl with | [_, _], _ => rfl
theorem ok__law_is_due : d__law_is_due.okB md = true := by decide +kernel
theorem ba__law_is_due : d__law_is_due.ba := fun _ _ _ _ _ _ us hl => match us, hl with | [_, _], _ => rfl
theorem ok__law_spoilt : d__law_spoilt.okB md = true := by decide +kernel
theorem ba__law_spoilt : d__law_spoilt.ba := fun _ _ _ _ _ _ us hl => match us, hl with | [_, _, _], _ => rfl
theorem ok__law_ascends : d__law_ascends.okB md = true := by decide +kernel
theorem ba__law_ascends : d__law_ascends.ba := fun _ _ _ _ _ _ us hl => match us, hl with | [_], _ => rfl
theorem ok__law_drawn_table : d__law_drawn_table.okB md = true := by decide +kernel
theorem ba__law_drawn_table : d__law_drawn_table.ba := fun _ _ _ _ _ _ us hl => match us, hl with | [_], _ => rfl
theorem ok__law_outs : d__law_outs.okB md = true := by decide +kernel
theorem ba__law_outs : d__law_outs.ba := fun _ _ _ _ _ _ us hl => match us, hl with | [_], _ => rfl
theorem ok__law_is_lot : d__law_is_lot.okB md = true := by decide +kernel
theorem ba__law_is_lot : d__law_is_lot.ba := fun _ _ _ _ _ _ us hl => match us, hl with | [_, _], _ => rfl
theorem ok__law_told : d__law_told.okB md = true := by decide +kernel
theorem ba__law_told : d__law_told.ba := fun _ _ _ _ _ _ us hl => match us, hl with | [_, _], _ => rfl
theorem ok__law_due : d__law_due.okB md = true := by decide +kernel
theorem ba__law_due : d__law_due.ba := fun _ _ _ _ _ _ us hl => match us, hl with | [_, _], _ => rfl
theorem ok_law : d_law.okB md = true := by decide +kernel
theorem ba_law : d_law.ba := fun _ _ _ _ _ _ us hl => match us, hl with | [_], _ => rfl
theorem ok_Table_init : d_Table_init.okB md = true := by decide +kernel
theorem ba_Table_init : d_Table_init.ba := fun _ _ _ _ _ _ us hl => match us, hl with | [_, _, _], _ => rfl
theorem ok_Table_eq : d_Table_eq.okB md = true := by decide +kernel
theorem ba_Table_eq : d_Table_eq.ba := fun _ _ _ _ _ _ us hl => match us, hl with | [_, _], _ => rfl
theorem t_ok : Each (fun d : DefI => d.okB md = true) md.defs := ⟨ok_is_integer, ok_is_within, ok_is_tuple, ok_is_ascending, ok_is_rising, ok_is_bunch, ok_are_rows, ok_outs, ok__law_box, ok__law_take, ok__law_pick, ok__law_whole, ok__law_is_numbers, ok__law_is_due, ok__law_spoilt, ok__law_ascends, ok__law_drawn_table, ok__law_outs, ok__law_is_lot, ok__law_told, ok__law_due, ok_law, ok_Table_init, ok_Table_eq, trivial⟩
theorem t_ba : Each DefI.ba md.defs := ⟨ba_is_integer, ba_is_within, ba_is_tuple, ba_is_ascending, ba_is_rising, ba_is_bunch, ba_are_rows, ba_outs, ba__law_box, ba__law_take, ba__law_pick, ba__law_whole, ba__law_is_numbers, ba__law_is_due, ba__law_spoilt, ba__law_ascends, ba__law_drawn_table, ba__law_outs, ba__law_is_lot, ba__law_told, ba__law_due, ba_law, ba_Table_init, ba_Table_eq, trivial⟩
theorem t_eok : Each (fun e : ErrI => e.okB = true) md.errs := ⟨by decide +kernel, by decide +kernel, trivial⟩
theorem t_eba : Each ErrI.ba md.errs := ⟨(fun _ _ _ _ _ _ us hl => match us, hl with | [_, _], _ => rfl), (fun _ _ _ _ _ _ us hl => match us, hl with | [_, _], _ => rfl), trivial⟩
end K02
end
section
set_option linter.all false
set_option Elab.async false
set_option maxRecDepth 100000
set_option maxHeartbeats 1000000
namespace K02
open Fx
def isInt : D → Bool
  | .int _ => true
  | _ => false
def inR (lo hi : Int) : D → Bool
  | .int i => decide (lo ≤ i) && decide (i ≤ hi)
  | _ => false
theorem isI (n : Nat) (v : D) (h : v.tyOk 1 = true) : ∃ o, md.Φ (n + 1) 0 [.val v] = .ok (.val (.bl (isInt v))) o := by
  cases v with
  | rng _ _ => cases h
  | ins c ds =>
    have h : decide (c < 1) = true := h
    have h : c = 0 := by simpa using h
    subst h
    exact ⟨_, rfl⟩
  | _ => exact ⟨_, rfl⟩
theorem whole (n : Nat) (v : D) (h : v.tyOk 1 = true) : ∃ o, md.Φ (n + 1) 11 [.val v] = .ok (.val (.bl (isInt v))) o := by
  cases v with
  | rng _ _ => cases h
  | ins c ds =>
    have h : decide (c < 1) = true := h
    have h : c = 0 := by simpa using h
    subst h
    exact ⟨_, rfl⟩
  | _ => exact ⟨_, rfl⟩
theorem le2 (lo hi i : Int) (ρ : Env) : (match (some (!decide (i < lo)) : Option Bool) with
              | some true => Res.ok (R.val (D.bl !decide (hi < i))) ρ
              | some false => Res.ok (R.val (D.bl false)) ρ
              | none => Res.stuck) = .ok (.val (.bl (decide (lo ≤ i) && decide (i ≤ hi)))) ρ := by
  by_cases h : i < lo
  · have e : decide (lo ≤ i) = false := by simp; omega
    simp [h, e]
  · have e : decide (lo ≤ i) = true := by simp; omega
    have e2 : (!decide (hi < i)) = decide (i ≤ hi) := by rw [Bool.eq_iff_iff]; simp
    simp [h, e, e2]
theorem isW (n : Nat) (v : D) (lo hi : Int) (h : v.tyOk 1 = true) : ∃ o, md.Φ (n + 2) 1 [.val v, .val (.int lo), .val (.int hi)] = .ok (.val (.bl (inR lo hi v))) o := by
  have c := fun ρ => call1 (ρ := ρ) (isI n v h)
  refine phi_ret (d := d_is_within) (ρ := [some (.val v), some (.val (.int lo)), some (.val (.int hi))]) rfl rfl rfl ?_
  show evE md.g (md.Φ (n + 1)) _ [some (.val v), some (.val (.int lo)), some (.val (.int hi))] = _
  cases v <;> simp -implicitDefEqProofs [Fx.evSs, Fx.evS, Fx.evE, Fx.evB, Fx.evAs, Fx.evDs, Fx.evO, Fx.evC, Fx.evI, Fx.teE, Fx.tstA, Fx.asArg, Fx.b_ok, Fx.b_exc, Fx.t_ok, Fx.t_exc, Fx.s_nx, Fx.s_rt, Fx.s_exc, Fx.s_bk, Fx.s_ct, Fx.as_val, Fx.as_lst, Fx.as_exc, Fx.o_some, Fx.f_val, Fx.f_lst, Fx.a_v, Fx.a_b, Fx.rb_bl, Fx.rdVar, Fx.argVar, Fx.at0, Fx.at_1, Fx.at_2, Fx.at_3, Fx.at_4, Fx.at_5, Fx.at_6, Fx.at_7, Fx.at_8, Fx.at_9, Fx.at_10, Fx.at_11, Fx.at_12, Fx.cmpP, Fx.g_nil, Fx.g_v, Fx.g_l, Fx.u_b, Fx.u_i, Fx.c_len_t, Fx.c_len_l, Fx.c_abs, Fx.c_int, Fx.c_intb, Fx.c_list_t, Fx.c_list_l, Fx.c_tup_t, Fx.c_tup_l, Fx.c_all, Fx.c_rng1, Fx.c_rng2, Fx.r_i, Fx.r_s, Fx.l_i, Fx.m_lt, Fx.m_gt, Fx.m_le, Fx.m_ge, Fx.m_eq, Fx.m_ne, Fx.m_is, Fx.m_in, Fx.m_ni, Fx.x_t, Fx.x_l, Fx.DefI.fin, Fx.outsA, c, isInt, inR]
  exact le2 lo hi _ _
def tupR : D → Bool
  | .tup ds => decide (1 ≤ ds.length) && decide (ds.length ≤ 5)
  | _ => false
theorem isT (n : Nat) (v : D) (h : v.tyOk 1 = true) : ∃ o, md.Φ (n + 1) 2 [.val v, .val (.int 1), .val (.int 5)] = .ok (.val (.bl (tupR v))) o := by
  refine phi_ret (d := d_is_tuple) (ρ := [some (.val v), some (.val (.int 1)), some (.val (.int 5))]) rfl rfl rfl ?_
  show evE md.g (md.Φ n) _ [some (.val v), some (.val (.int 1)), some (.val (.int 5))] = _
  cases v with
  | tup ds =>
    simp -implicitDefEqProofs [Fx.evSs, Fx.evS, Fx.evE, Fx.evB, Fx.evAs, Fx.evDs, Fx.evO, Fx.evC, Fx.evI, Fx.teE, Fx.tstA, Fx.asArg, Fx.b_ok, Fx.b_exc, Fx.t_ok, Fx.t_exc, Fx.s_nx, Fx.s_rt, Fx.s_exc, Fx.s_bk, Fx.s_ct, Fx.as_val, Fx.as_lst, Fx.as_exc, Fx.o_some, Fx.f_val, Fx.f_lst, Fx.a_v, Fx.a_b, Fx.rb_bl, Fx.rdVar, Fx.argVar, Fx.at0, Fx.at_1, Fx.at_2, Fx.at_3, Fx.at_4, Fx.at_5, Fx.at_6, Fx.at_7, Fx.at_8, Fx.at_9, Fx.at_10, Fx.at_11, Fx.at_12, Fx.cmpP, Fx.g_nil, Fx.g_v, Fx.g_l, Fx.u_b, Fx.u_i, Fx.c_len_t, Fx.c_len_l, Fx.c_abs, Fx.c_int, Fx.c_intb, Fx.c_list_t, Fx.c_list_l, Fx.c_tup_t, Fx.c_tup_l, Fx.c_all, Fx.c_rng1, Fx.c_rng2, Fx.r_i, Fx.r_s, Fx.l_i, Fx.m_lt, Fx.m_gt, Fx.m_le, Fx.m_ge, Fx.m_eq, Fx.m_ne, Fx.m_is, Fx.m_in, Fx.m_ni, Fx.x_t, Fx.x_l, Fx.DefI.fin, Fx.outsA, isiD]
    refine (le2 1 5 (ds.length : Int) _).trans ?_
    have e1 : decide ((1 : Int) ≤ (ds.length : Int)) = decide (1 ≤ ds.length) := by rw [Bool.eq_iff_iff]; simp; omega
    have e2 : decide ((ds.length : Int) ≤ 5) = decide (ds.length ≤ 5) := by rw [Bool.eq_iff_iff]; simp; omega
    rw [e1, e2]
    rfl
  | rng _ _ => cases h
  | ins c ds =>
    have h : decide (c < 1) = true := h
    have h : c = 0 := by simpa using h
    subst h
    simp -implicitDefEqProofs [Fx.evSs, Fx.evS, Fx.evE, Fx.evB, Fx.evAs, Fx.evDs, Fx.evO, Fx.evC, Fx.evI, Fx.teE, Fx.tstA, Fx.asArg, Fx.b_ok, Fx.b_exc, Fx.t_ok, Fx.t_exc, Fx.s_nx, Fx.s_rt, Fx.s_exc, Fx.s_bk, Fx.s_ct, Fx.as_val, Fx.as_lst, Fx.as_exc, Fx.o_some, Fx.f_val, Fx.f_lst, Fx.a_v, Fx.a_b, Fx.rb_bl, Fx.rdVar, Fx.argVar, Fx.at0, Fx.at_1, Fx.at_2, Fx.at_3, Fx.at_4, Fx.at_5, Fx.at_6, Fx.at_7, Fx.at_8, Fx.at_9, Fx.at_10, Fx.at_11, Fx.at_12, Fx.cmpP, Fx.g_nil, Fx.g_v, Fx.g_l, Fx.u_b, Fx.u_i, Fx.c_len_t, Fx.c_len_l, Fx.c_abs, Fx.c_int, Fx.c_intb, Fx.c_list_t, Fx.c_list_l, Fx.c_tup_t, Fx.c_tup_l, Fx.c_all, Fx.c_rng1, Fx.c_rng2, Fx.r_i, Fx.r_s, Fx.l_i, Fx.m_lt, Fx.m_gt, Fx.m_le, Fx.m_ge, Fx.m_eq, Fx.m_ne, Fx.m_is, Fx.m_in, Fx.m_ni, Fx.x_t, Fx.x_l, Fx.DefI.fin, Fx.outsA, isiD, tupR, show md.g.nc = 1 from rfl]
  | _ => simp -implicitDefEqProofs [Fx.evSs, Fx.evS, Fx.evE, Fx.evB, Fx.evAs, Fx.evDs, Fx.evO, Fx.evC, Fx.evI, Fx.teE, Fx.tstA, Fx.asArg, Fx.b_ok, Fx.b_exc, Fx.t_ok, Fx.t_exc, Fx.s_nx, Fx.s_rt, Fx.s_exc, Fx.s_bk, Fx.s_ct, Fx.as_val, Fx.as_lst, Fx.as_exc, Fx.o_some, Fx.f_val, Fx.f_lst, Fx.a_v, Fx.a_b, Fx.rb_bl, Fx.rdVar, Fx.argVar, Fx.at0, Fx.at_1, Fx.at_2, Fx.at_3, Fx.at_4, Fx.at_5, Fx.at_6, Fx.at_7, Fx.at_8, Fx.at_9, Fx.at_10, Fx.at_11, Fx.at_12, Fx.cmpP, Fx.g_nil, Fx.g_v, Fx.g_l, Fx.u_b, Fx.u_i, Fx.c_len_t, Fx.c_len_l, Fx.c_abs, Fx.c_int, Fx.c_intb, Fx.c_list_t, Fx.c_list_l, Fx.c_tup_t, Fx.c_tup_l, Fx.c_all, Fx.c_rng1, Fx.c_rng2, Fx.r_i, Fx.r_s, Fx.l_i, Fx.m_lt, Fx.m_gt, Fx.m_le, Fx.m_ge, Fx.m_eq, Fx.m_ne, Fx.m_is, Fx.m_in, Fx.m_ni, Fx.x_t, Fx.x_l, Fx.DefI.fin, Fx.outsA, isiD, tupR]
/-- ascending, by neighbours -/
def asc : List D → Bool
  | .int i :: .int j :: r => decide (i < j) && asc (.int j :: r)
  | _ => true
def aInt (ds : List D) : Bool := ds.all isInt
theorem rngOk_len {n : Int} (h0 : 0 ≤ n) (h1 : n ≤ 16777216) : rngOk 1 n = true := by
  unfold rngOk; simp; omega
/-- what all([..]) says of neighbours -/
def cmpAt : Option D → Option D → Bool
  | some (.int i), some (.int j) => decide (i < j)
  | _, _ => false
def nb (ds : List D) : List Bool := (List.range (ds.length - 1)).map fun k => cmpAt ds[k]? ds[k + 1]?
theorem nb_asc : ∀ {ds : List D}, aInt ds = true → (nb ds).all id = asc ds
  | [], _ => rfl
  | [d], h => by cases d <;> rfl
  | .int i :: .int j :: r, h => by
    have ih := nb_asc (ds := .int j :: r) (by
      have : (isInt (.int i) && aInt (.int j :: r)) = true := h
      exact (Bool.and_eq_true_iff.mp this).2)
    unfold nb at ih ⊢
    show ((List.range (r.length + 1)).map _).all id = (decide (i < j) && asc (.int j :: r))
    rw [List.range_succ_eq_map, List.map_cons, List.all_cons, List.map_map, ← ih]
    rfl
  | .int i :: .non :: r, h => by cases h
  | .int i :: .bl _ :: r, h => by cases h
  | .int i :: .str _ :: r, h => by cases h
  | .int i :: .tup _ :: r, h => by cases h
  | .int i :: .lst _ :: r, h => by cases h
  | .int i :: .rng _ _ :: r, h => by cases h
  | .int i :: .ins _ _ :: r, h => by cases h
  | .non :: _ :: r, h => by cases h
  | .bl _ :: _ :: r, h => by cases h
  | .str _ :: _ :: r, h => by cases h
  | .tup _ :: _ :: r, h => by cases h
  | .lst _ :: _ :: r, h => by cases h
  | .rng _ _ :: _ :: r, h => by cases h
  | .ins _ _ :: _ :: r, h => by cases h
theorem int_at {ds : List D} (h : aInt ds = true) {k : Nat} (hk : k < ds.length) : ∃ i, ds[k]? = some (.int i) := by
  have e : ds[k]? = some ds[k] := List.getElem?_eq_getElem hk
  have q := List.all_eq_true.mp h _ (List.mem_of_getElem? e)
  cases z : ds[k] with
  | int i => exact ⟨i, by rw [e, z]⟩
  | _ => rw [z] at q; cases q
theorem ixN_nat {n k : Nat} (h : k < n) : L2.ixN n (k : Int) = some k := by
  unfold L2.ixN
  simp [h]
theorem at_nat {ds : List D} {k : Nat} {d : D} (h : ds[k]? = some d) : L2.atI ds (k : Int) = some d := by
  unfold L2.atI
  rw [ixN_nat (List.getElem?_eq_some_iff.mp h).1]
  exact h
theorem mem_rng {a b : Int} {d : D} (h : d ∈ rngL a b) : ∃ k : Nat, k < (b - a).toNat ∧ d = .int (a + k) := by
  unfold rngL at h
  obtain ⟨k, hk, rfl⟩ := List.mem_map.mp h
  exact ⟨k, List.mem_range.mp hk, rfl⟩
theorem rng_len {a b : Int} : (rngL a b).length = (b - a).toNat := by unfold rngL; simp
theorem filter_true {ds : List D} : ds.filter (fun _ => true) = ds := by simp
/-- range(1, len(x)) -/
theorem src1 {n : Nat} {ρ : Env} {i : Nat} {ds : List D} (h : ρ.at i = some (.val (.tup ds))) (hl : ds.length ≤ 16777216) : evI md.g (md.Φ n) (.seq (.cb .range (.cons (.cst (.int 1)) (.cons (.cb .len (.cons (.var i) .nil)) .nil)))) ρ = .ok (rngL 1 ds.length) ρ := by
  simp -implicitDefEqProofs [Fx.evSs, Fx.evS, Fx.evE, Fx.evB, Fx.evAs, Fx.evDs, Fx.evO, Fx.evC, Fx.evI, Fx.teE, Fx.tstA, Fx.asArg, Fx.b_ok, Fx.b_exc, Fx.t_ok, Fx.t_exc, Fx.s_nx, Fx.s_rt, Fx.s_exc, Fx.s_bk, Fx.s_ct, Fx.as_val, Fx.as_lst, Fx.as_exc, Fx.o_some, Fx.f_val, Fx.f_lst, Fx.a_v, Fx.a_b, Fx.rb_bl, Fx.p_some, Fx.g_nil, Fx.g_v, Fx.g_l, Fx.u_b, Fx.u_i, Fx.c_len_t, Fx.c_len_l, Fx.c_abs, Fx.c_int, Fx.c_intb, Fx.c_list_t, Fx.c_list_l, Fx.c_tup_t, Fx.c_tup_l, Fx.c_all, Fx.c_rng1, Fx.c_rng2, Fx.r_i, Fx.r_s, Fx.l_i, Fx.m_lt, Fx.m_gt, Fx.m_le, Fx.m_ge, Fx.m_eq, Fx.m_ne, Fx.m_is, Fx.m_in, Fx.m_ni, Fx.x_t, Fx.x_l, av_val h]
  exact rngOk_len (by omega) (by omega)
def lt2 (ds : List D) : D → D
  | .int k => .bl (cmpAt ds[(k - 1).toNat]? ds[k.toNat]?)
  | _ => .non
theorem isA (n : Nat) (ds : List D) (h : aInt ds = true) (hl : ds.length ≤ 16777216) : ∃ o, md.Φ (n + 1) 3 [.val (.tup ds)] = .ok (.val (.bl (asc ds))) o := by
  refine phi_ret (d := d_is_ascending) (ρ := [some (.val (.tup ds)), none]) rfl rfl rfl ?_
  show evE md.g (md.Φ n) _ [some (.val (.tup ds)), none] = _
  have hc := comp_pure (g := md.g) (Φ := md.Φ n) (ρ := [some (.val (.tup ds)), none]) (i := 1) (elt := .cmp .Lt (.idx (.var 0) (.bin .Sub (.var 1) (.cst (.int 1)))) (.idx (.var 0) (.var 1))) (src := .seq (.cb .range (.cons (.cst (.int 1)) (.cons (.cb .len (.cons (.var 0) .nil)) .nil)))) (c := .non)
    (ds := rngL 1 ds.length) (p := fun _ => true) (q := lt2 ds) (by simp) (src1 rfl hl) (by rw [rng_len]; show _ ≤ 16777216; omega) (fun d _ => rfl) (fun d hd _ => by
      obtain ⟨k, hk, rfl⟩ := mem_rng hd
      obtain ⟨i, hi⟩ := int_at h (k := k) (by omega)
      obtain ⟨j, hj⟩ := int_at h (k := k + 1) (by omega)
      have e1 : (1 : Int) + (k : Int) - 1 = (k : Int) := by omega
      have e2 : (1 : Int) + (k : Int) = ((k + 1 : Nat) : Int) := by omega
      have e3 : ((1 : Int) + (k : Int) - 1).toNat = k := by omega
      have e4 : ((1 : Int) + (k : Int)).toNat = k + 1 := by omega
      show _ = Res.ok (D.bl (cmpAt ds[((1 : Int) + (k : Int) - 1).toNat]? ds[((1 : Int) + (k : Int)).toNat]?)) _
      rw [e3, e4, hi, hj]
      have q1 := at_nat hi
      have q2 := at_nat hj
      rw [← e2] at q2
      simp -implicitDefEqProofs [Fx.evSs, Fx.evS, Fx.evE, Fx.evB, Fx.evAs, Fx.evDs, Fx.evO, Fx.evC, Fx.evI, Fx.teE, Fx.tstA, Fx.asArg, Fx.b_ok, Fx.b_exc, Fx.t_ok, Fx.t_exc, Fx.s_nx, Fx.s_rt, Fx.s_exc, Fx.s_bk, Fx.s_ct, Fx.as_val, Fx.as_lst, Fx.as_exc, Fx.o_some, Fx.f_val, Fx.f_lst, Fx.a_v, Fx.a_b, Fx.rb_bl, Fx.rdVar, Fx.argVar, Fx.at0, Fx.at_1, Fx.at_2, Fx.at_3, Fx.at_4, Fx.at_5, Fx.at_6, Fx.at_7, Fx.at_8, Fx.at_9, Fx.at_10, Fx.at_11, Fx.at_12, Fx.cmpP, Fx.g_nil, Fx.g_v, Fx.g_l, Fx.u_b, Fx.u_i, Fx.c_len_t, Fx.c_len_l, Fx.c_abs, Fx.c_int, Fx.c_intb, Fx.c_list_t, Fx.c_list_l, Fx.c_tup_t, Fx.c_tup_l, Fx.c_all, Fx.c_rng1, Fx.c_rng2, Fx.r_i, Fx.r_s, Fx.l_i, Fx.m_lt, Fx.m_gt, Fx.m_le, Fx.m_ge, Fx.m_eq, Fx.m_ne, Fx.m_is, Fx.m_in, Fx.m_ni, Fx.x_t, Fx.x_l, Fx.DefI.fin, Fx.outsA, e1, q1, q2]
      rfl)
  have e : (((rngL 1 ds.length).filter fun _ => true).map (lt2 ds)) = (nb ds).map D.bl := by
    rw [filter_true]
    unfold rngL nb
    rw [List.map_map, List.map_map]
    have el : ((ds.length : Int) - 1).toNat = ds.length - 1 := by omega
    rw [el]
    apply List.map_congr_left
    intro k _
    show D.bl (cmpAt ds[((1 : Int) + (k : Int) - 1).toNat]? ds[((1 : Int) + (k : Int)).toNat]?) = _
    have e3 : ((1 : Int) + (k : Int) - 1).toNat = k := by omega
    have e4 : ((1 : Int) + (k : Int)).toNat = k + 1 := by omega
    rw [e3, e4]
    rfl
  rw [e] at hc
  have hb : allB ((nb ds).map D.bl) = some (nb ds) := by
    have := allB_map (nb ds) id
    simpa using this
  have s1 : asArg (.comp (.cmp .Lt (.idx (.var 0) (.bin .Sub (.var 1) (.cst (.int 1)))) (.idx (.var 0) (.var 1))) [1] (.one 1) (.seq (.cb .range (.cons (.cst (.int 1)) (.cons (.cb .len (.cons (.var 0) .nil)) .nil)))) .non) [some (.val (.tup ds)), none] (Res.ok (R.lst ((nb ds).map D.bl)) [some (R.val (D.tup ds)), none]) = .ok (.v (.lst ((nb ds).map D.bl))) [some (.val (.tup ds)), none] := rfl
  show ((evAs md.g (md.Φ n) (.cons _ .nil) _).bind _) = _
  show ((asArg _ _ (evE md.g (md.Φ n) _ _)).bind _).bind _ = _
  rw [hc, s1]
  simp -implicitDefEqProofs [Fx.evSs, Fx.evS, Fx.evE, Fx.evB, Fx.evAs, Fx.evDs, Fx.evO, Fx.evC, Fx.evI, Fx.teE, Fx.tstA, Fx.asArg, Fx.b_ok, Fx.b_exc, Fx.t_ok, Fx.t_exc, Fx.s_nx, Fx.s_rt, Fx.s_exc, Fx.s_bk, Fx.s_ct, Fx.as_val, Fx.as_lst, Fx.as_exc, Fx.o_some, Fx.f_val, Fx.f_lst, Fx.a_v, Fx.a_b, Fx.rb_bl, Fx.rdVar, Fx.argVar, Fx.at0, Fx.at_1, Fx.at_2, Fx.at_3, Fx.at_4, Fx.at_5, Fx.at_6, Fx.at_7, Fx.at_8, Fx.at_9, Fx.at_10, Fx.at_11, Fx.at_12, Fx.cmpP, Fx.g_nil, Fx.g_v, Fx.g_l, Fx.u_b, Fx.u_i, Fx.c_len_t, Fx.c_len_l, Fx.c_abs, Fx.c_int, Fx.c_intb, Fx.c_list_t, Fx.c_list_l, Fx.c_tup_t, Fx.c_tup_l, Fx.c_all, Fx.c_rng1, Fx.c_rng2, Fx.r_i, Fx.r_s, Fx.l_i, Fx.m_lt, Fx.m_gt, Fx.m_le, Fx.m_ge, Fx.m_eq, Fx.m_ne, Fx.m_is, Fx.m_in, Fx.m_ni, Fx.x_t, Fx.x_l, Fx.DefI.fin, Fx.outsA, hb, nb_asc h]
end K02
end
section
set_option linter.all false
set_option Elab.async false
set_option maxRecDepth 100000
set_option maxHeartbeats 1000000
namespace K02
open Fx
theorem inR_int {lo hi : Int} {d : D} (h : inR lo hi d = true) : ∃ i, d = .int i ∧ lo ≤ i ∧ i ≤ hi := by
  cases d with
  | int i =>
    have h : (decide (lo ≤ i) && decide (i ≤ hi)) = true := h
    simp only [Bool.and_eq_true, decide_eq_true_eq] at h
    exact ⟨i, rfl, h.1, h.2⟩
  | _ => cases h
theorem all_int {lo hi : Int} {ds : List D} (h : ds.all (inR lo hi) = true) : aInt ds = true := by
  refine List.all_eq_true.mpr fun d hd => ?_
  obtain ⟨i, rfl, _⟩ := inR_int (List.all_eq_true.mp h d hd)
  rfl
def rising (hi : Int) : D → Bool
  | .tup ds => ds.all (inR 0 hi) && asc ds
  | _ => false
def short : D → Bool
  | .tup ds => decide (ds.length ≤ 16777216)
  | _ => true
theorem isR (n : Nat) (v : D) (hi : Int) (h : v.plain = true) (hl : short v = true) : ∃ o, md.Φ (n + 3) 4 [.val v, .val (.int hi)] = .ok (.val (.bl (rising hi v))) o := by
  refine phi_ret (d := d_is_rising) (ρ := [some (.val v), some (.val (.int hi)), none]) rfl rfl rfl ?_
  show evE md.g (md.Φ (n + 2)) _ [some (.val v), some (.val (.int hi)), none] = _
  cases v with
  | tup ds =>
    have hl : ds.length ≤ 16777216 := of_decide_eq_true hl
    have hc := comp_pure (g := md.g) (Φ := md.Φ (n + 2)) (ρ := [some (.val (.tup ds)), some (.val (.int hi)), none]) (i := 2) (elt := .call 1 (.cons (.var 2) (.cons (.cst (.int 0)) (.cons (.var 1) .nil)))) (src := .seq (.var 0)) (c := .non)
      (ds := ds) (p := fun _ => true) (q := fun d => .bl (inR 0 hi d)) (by simp) (src_t rfl) hl (fun d _ => rfl) (fun d hd _ => by
        have c := fun ρ => call3 (ρ := ρ) (isW n d 0 hi (plain_ty (plains_mem h d hd)))
        simp -implicitDefEqProofs [Fx.evSs, Fx.evS, Fx.evE, Fx.evB, Fx.evAs, Fx.evDs, Fx.evO, Fx.evC, Fx.evI, Fx.teE, Fx.tstA, Fx.asArg, Fx.b_ok, Fx.b_exc, Fx.t_ok, Fx.t_exc, Fx.s_nx, Fx.s_rt, Fx.s_exc, Fx.s_bk, Fx.s_ct, Fx.as_val, Fx.as_lst, Fx.as_exc, Fx.o_some, Fx.f_val, Fx.f_lst, Fx.a_v, Fx.a_b, Fx.rb_bl, Fx.rdVar, Fx.argVar, Fx.at0, Fx.at_1, Fx.at_2, Fx.at_3, Fx.at_4, Fx.at_5, Fx.at_6, Fx.at_7, Fx.at_8, Fx.at_9, Fx.at_10, Fx.at_11, Fx.at_12, Fx.cmpP, Fx.g_nil, Fx.g_v, Fx.g_l, Fx.u_b, Fx.u_i, Fx.c_len_t, Fx.c_len_l, Fx.c_abs, Fx.c_int, Fx.c_intb, Fx.c_list_t, Fx.c_list_l, Fx.c_tup_t, Fx.c_tup_l, Fx.c_all, Fx.c_rng1, Fx.c_rng2, Fx.r_i, Fx.r_s, Fx.l_i, Fx.m_lt, Fx.m_gt, Fx.m_le, Fx.m_ge, Fx.m_eq, Fx.m_ne, Fx.m_is, Fx.m_in, Fx.m_ni, Fx.x_t, Fx.x_l, Fx.DefI.fin, Fx.outsA, c])
    rw [filter_true, show ds.map (fun d => D.bl (inR 0 hi d)) = (ds.map (inR 0 hi)).map D.bl by rw [List.map_map]; rfl] at hc
    refine (and3 (a := true) (b := ds.all (inR 0 hi)) (c := asc ds) ?_ (fun _ => ?_) (fun _ hb => ?_)).trans ?_
    · simp -implicitDefEqProofs [Fx.evSs, Fx.evS, Fx.evE, Fx.evB, Fx.evAs, Fx.evDs, Fx.evO, Fx.evC, Fx.evI, Fx.teE, Fx.tstA, Fx.asArg, Fx.b_ok, Fx.b_exc, Fx.t_ok, Fx.t_exc, Fx.s_nx, Fx.s_rt, Fx.s_exc, Fx.s_bk, Fx.s_ct, Fx.as_val, Fx.as_lst, Fx.as_exc, Fx.o_some, Fx.f_val, Fx.f_lst, Fx.a_v, Fx.a_b, Fx.rb_bl, Fx.rdVar, Fx.argVar, Fx.at0, Fx.at_1, Fx.at_2, Fx.at_3, Fx.at_4, Fx.at_5, Fx.at_6, Fx.at_7, Fx.at_8, Fx.at_9, Fx.at_10, Fx.at_11, Fx.at_12, Fx.cmpP, Fx.g_nil, Fx.g_v, Fx.g_l, Fx.u_b, Fx.u_i, Fx.c_len_t, Fx.c_len_l, Fx.c_abs, Fx.c_int, Fx.c_intb, Fx.c_list_t, Fx.c_list_l, Fx.c_tup_t, Fx.c_tup_l, Fx.c_all, Fx.c_rng1, Fx.c_rng2, Fx.r_i, Fx.r_s, Fx.l_i, Fx.m_lt, Fx.m_gt, Fx.m_le, Fx.m_ge, Fx.m_eq, Fx.m_ne, Fx.m_is, Fx.m_in, Fx.m_ni, Fx.x_t, Fx.x_l, Fx.DefI.fin, Fx.outsA, isiD]
    · rw [all_comp rfl hc]
      simp [List.all_map]
    · have c := fun ρ => call1 (ρ := ρ) (isA (n + 1) ds (all_int hb) hl)
      simp -implicitDefEqProofs [Fx.evSs, Fx.evS, Fx.evE, Fx.evB, Fx.evAs, Fx.evDs, Fx.evO, Fx.evC, Fx.evI, Fx.teE, Fx.tstA, Fx.asArg, Fx.b_ok, Fx.b_exc, Fx.t_ok, Fx.t_exc, Fx.s_nx, Fx.s_rt, Fx.s_exc, Fx.s_bk, Fx.s_ct, Fx.as_val, Fx.as_lst, Fx.as_exc, Fx.o_some, Fx.f_val, Fx.f_lst, Fx.a_v, Fx.a_b, Fx.rb_bl, Fx.rdVar, Fx.argVar, Fx.at0, Fx.at_1, Fx.at_2, Fx.at_3, Fx.at_4, Fx.at_5, Fx.at_6, Fx.at_7, Fx.at_8, Fx.at_9, Fx.at_10, Fx.at_11, Fx.at_12, Fx.cmpP, Fx.g_nil, Fx.g_v, Fx.g_l, Fx.u_b, Fx.u_i, Fx.c_len_t, Fx.c_len_l, Fx.c_abs, Fx.c_int, Fx.c_intb, Fx.c_list_t, Fx.c_list_l, Fx.c_tup_t, Fx.c_tup_l, Fx.c_all, Fx.c_rng1, Fx.c_rng2, Fx.r_i, Fx.r_s, Fx.l_i, Fx.m_lt, Fx.m_gt, Fx.m_le, Fx.m_ge, Fx.m_eq, Fx.m_ne, Fx.m_is, Fx.m_in, Fx.m_ni, Fx.x_t, Fx.x_l, Fx.DefI.fin, Fx.outsA, c]
    · simp [rising]
  | rng _ _ => cases h
  | ins _ _ => cases h
  | _ => rfl
def pos : D → Bool
  | .tup ds => decide (0 < ds.length)
  | _ => false
def bunch (many : Int) : D → Bool
  | .tup ds => rising (many - 1) (.tup ds) && decide (0 < ds.length)
  | _ => false
theorem isB (n : Nat) (v : D) (many : Int) (h : v.plain = true) (hl : short v = true) : ∃ o, md.Φ (n + 4) 5 [.val v, .val (.int many)] = .ok (.val (.bl (bunch many v))) o := by
  refine phi_ret (d := d_is_bunch) (ρ := [some (.val v), some (.val (.int many))]) rfl rfl rfl ?_
  show evE md.g (md.Φ (n + 3)) _ [some (.val v), some (.val (.int many))] = _
  have c := fun ρ => call2 (ρ := ρ) (isR n v (many - 1) h hl)
  refine (and2 (a := rising (many - 1) v) (b := pos v) ?_ (fun hb => ?_)).trans ?_
  · simp -implicitDefEqProofs [Fx.evSs, Fx.evS, Fx.evE, Fx.evB, Fx.evAs, Fx.evDs, Fx.evO, Fx.evC, Fx.evI, Fx.teE, Fx.tstA, Fx.asArg, Fx.b_ok, Fx.b_exc, Fx.t_ok, Fx.t_exc, Fx.s_nx, Fx.s_rt, Fx.s_exc, Fx.s_bk, Fx.s_ct, Fx.as_val, Fx.as_lst, Fx.as_exc, Fx.o_some, Fx.f_val, Fx.f_lst, Fx.a_v, Fx.a_b, Fx.rb_bl, Fx.rdVar, Fx.argVar, Fx.at0, Fx.at_1, Fx.at_2, Fx.at_3, Fx.at_4, Fx.at_5, Fx.at_6, Fx.at_7, Fx.at_8, Fx.at_9, Fx.at_10, Fx.at_11, Fx.at_12, Fx.cmpP, Fx.g_nil, Fx.g_v, Fx.g_l, Fx.u_b, Fx.u_i, Fx.c_len_t, Fx.c_len_l, Fx.c_abs, Fx.c_int, Fx.c_intb, Fx.c_list_t, Fx.c_list_l, Fx.c_tup_t, Fx.c_tup_l, Fx.c_all, Fx.c_rng1, Fx.c_rng2, Fx.r_i, Fx.r_s, Fx.l_i, Fx.m_lt, Fx.m_gt, Fx.m_le, Fx.m_ge, Fx.m_eq, Fx.m_ne, Fx.m_is, Fx.m_in, Fx.m_ni, Fx.x_t, Fx.x_l, Fx.DefI.fin, Fx.outsA, c]
  · cases v with
    | tup ds => simp -implicitDefEqProofs [Fx.evSs, Fx.evS, Fx.evE, Fx.evB, Fx.evAs, Fx.evDs, Fx.evO, Fx.evC, Fx.evI, Fx.teE, Fx.tstA, Fx.asArg, Fx.b_ok, Fx.b_exc, Fx.t_ok, Fx.t_exc, Fx.s_nx, Fx.s_rt, Fx.s_exc, Fx.s_bk, Fx.s_ct, Fx.as_val, Fx.as_lst, Fx.as_exc, Fx.o_some, Fx.f_val, Fx.f_lst, Fx.a_v, Fx.a_b, Fx.rb_bl, Fx.rdVar, Fx.argVar, Fx.at0, Fx.at_1, Fx.at_2, Fx.at_3, Fx.at_4, Fx.at_5, Fx.at_6, Fx.at_7, Fx.at_8, Fx.at_9, Fx.at_10, Fx.at_11, Fx.at_12, Fx.cmpP, Fx.g_nil, Fx.g_v, Fx.g_l, Fx.u_b, Fx.u_i, Fx.c_len_t, Fx.c_len_l, Fx.c_abs, Fx.c_int, Fx.c_intb, Fx.c_list_t, Fx.c_list_l, Fx.c_tup_t, Fx.c_tup_l, Fx.c_all, Fx.c_rng1, Fx.c_rng2, Fx.r_i, Fx.r_s, Fx.l_i, Fx.m_lt, Fx.m_gt, Fx.m_le, Fx.m_ge, Fx.m_eq, Fx.m_ne, Fx.m_is, Fx.m_in, Fx.m_ni, Fx.x_t, Fx.x_l, Fx.DefI.fin, Fx.outsA, pos]
    | _ => cases hb
  · cases v <;> rfl
def tupA (many : Int) : D → Bool
  | .tup ds => ds.all (bunch many)
  | _ => false
def rowsOk (many : Int) : D → Bool
  | .tup ds => decide (1 ≤ ds.length) && decide (ds.length ≤ 5) && ds.all (bunch many)
  | _ => false
theorem areR (n : Nat) (v : D) (many : Int) (h : v.plain = true) (hs : ∀ ds, v = .tup ds → ∀ d ∈ ds, short d = true) : ∃ o, md.Φ (n + 5) 6 [.val v, .val (.int many)] = .ok (.val (.bl (rowsOk many v))) o := by
  refine phi_ret (d := d_are_rows) (ρ := [some (.val v), some (.val (.int many)), none]) rfl rfl rfl ?_
  show evE md.g (md.Φ (n + 4)) _ [some (.val v), some (.val (.int many)), none] = _
  have c := fun ρ => call3 (ρ := ρ) (isT (n + 3) v (plain_ty h))
  have gl : md.g.gl 1 = some (.int 5) := rfl
  refine (and2 (a := tupR v) (b := tupA many v) ?_ (fun hb => ?_)).trans ?_
  · simp -implicitDefEqProofs [Fx.evSs, Fx.evS, Fx.evE, Fx.evB, Fx.evAs, Fx.evDs, Fx.evO, Fx.evC, Fx.evI, Fx.teE, Fx.tstA, Fx.asArg, Fx.b_ok, Fx.b_exc, Fx.t_ok, Fx.t_exc, Fx.s_nx, Fx.s_rt, Fx.s_exc, Fx.s_bk, Fx.s_ct, Fx.as_val, Fx.as_lst, Fx.as_exc, Fx.o_some, Fx.f_val, Fx.f_lst, Fx.a_v, Fx.a_b, Fx.rb_bl, Fx.rdVar, Fx.argVar, Fx.at0, Fx.at_1, Fx.at_2, Fx.at_3, Fx.at_4, Fx.at_5, Fx.at_6, Fx.at_7, Fx.at_8, Fx.at_9, Fx.at_10, Fx.at_11, Fx.at_12, Fx.cmpP, Fx.g_nil, Fx.g_v, Fx.g_l, Fx.u_b, Fx.u_i, Fx.c_len_t, Fx.c_len_l, Fx.c_abs, Fx.c_int, Fx.c_intb, Fx.c_list_t, Fx.c_list_l, Fx.c_tup_t, Fx.c_tup_l, Fx.c_all, Fx.c_rng1, Fx.c_rng2, Fx.r_i, Fx.r_s, Fx.l_i, Fx.m_lt, Fx.m_gt, Fx.m_le, Fx.m_ge, Fx.m_eq, Fx.m_ne, Fx.m_is, Fx.m_in, Fx.m_ni, Fx.x_t, Fx.x_l, Fx.DefI.fin, Fx.outsA, c, gl]
  · cases v with
    | tup ds =>
      have hb : (decide (1 ≤ ds.length) && decide (ds.length ≤ 5)) = true := hb
      simp only [Bool.and_eq_true, decide_eq_true_eq] at hb
      have hc := comp_pure (g := md.g) (Φ := md.Φ (n + 4)) (ρ := [some (.val (.tup ds)), some (.val (.int many)), none]) (i := 2) (elt := .call 5 (.cons (.var 2) (.cons (.var 1) .nil))) (src := .seq (.var 0)) (c := .non)
        (ds := ds) (p := fun _ => true) (q := fun d => .bl (bunch many d)) (by simp) (src_t rfl) (Nat.le_trans hb.2 (by decide)) (fun d _ => rfl) (fun d hd _ => by
          have c := fun ρ => call2 (ρ := ρ) (isB n d many (plains_mem h d hd) (hs ds rfl d hd))
          simp -implicitDefEqProofs [Fx.evSs, Fx.evS, Fx.evE, Fx.evB, Fx.evAs, Fx.evDs, Fx.evO, Fx.evC, Fx.evI, Fx.teE, Fx.tstA, Fx.asArg, Fx.b_ok, Fx.b_exc, Fx.t_ok, Fx.t_exc, Fx.s_nx, Fx.s_rt, Fx.s_exc, Fx.s_bk, Fx.s_ct, Fx.as_val, Fx.as_lst, Fx.as_exc, Fx.o_some, Fx.f_val, Fx.f_lst, Fx.a_v, Fx.a_b, Fx.rb_bl, Fx.rdVar, Fx.argVar, Fx.at0, Fx.at_1, Fx.at_2, Fx.at_3, Fx.at_4, Fx.at_5, Fx.at_6, Fx.at_7, Fx.at_8, Fx.at_9, Fx.at_10, Fx.at_11, Fx.at_12, Fx.cmpP, Fx.g_nil, Fx.g_v, Fx.g_l, Fx.u_b, Fx.u_i, Fx.c_len_t, Fx.c_len_l, Fx.c_abs, Fx.c_int, Fx.c_intb, Fx.c_list_t, Fx.c_list_l, Fx.c_tup_t, Fx.c_tup_l, Fx.c_all, Fx.c_rng1, Fx.c_rng2, Fx.r_i, Fx.r_s, Fx.l_i, Fx.m_lt, Fx.m_gt, Fx.m_le, Fx.m_ge, Fx.m_eq, Fx.m_ne, Fx.m_is, Fx.m_in, Fx.m_ni, Fx.x_t, Fx.x_l, Fx.DefI.fin, Fx.outsA, c])
      rw [filter_true, show ds.map (fun d => D.bl (bunch many d)) = (ds.map (bunch many)).map D.bl by rw [List.map_map]; rfl] at hc
      rw [all_comp rfl hc]
      simp [List.all_map, tupA]
    | _ => cases hb
  · cases v <;> rfl
end K02
end
section
set_option linter.all false
set_option Elab.async false
set_option maxRecDepth 100000
set_option maxHeartbeats 1000000
namespace K02
open Fx
theorem eqD_nil {l : List D} (h : D.plains l = true) : eqD (.lst l) (.lst []) = some l.isEmpty := by
  unfold eqD
  have e : (D.plain (.lst l) && D.plain (.lst []) && decide (min (D.depth (.lst l)) (D.depth (.lst [])) ≤ 40)) = true := by
    rw [show D.plain (.lst l) = true from h, show D.plain (.lst []) = true from rfl]
    have : min (D.depth (.lst l)) (D.depth (.lst [])) ≤ 40 := Nat.le_trans (Nat.min_le_right _ _) (by decide)
    simp [this]
  rw [if_pos e]
  cases l <;> rfl
theorem eqD_tnil {l : List D} (h : D.plains l = true) : eqD (.tup l) (.tup []) = some l.isEmpty := by
  unfold eqD
  have e : (D.plain (.tup l) && D.plain (.tup []) && decide (min (D.depth (.tup l)) (D.depth (.tup [])) ≤ 40)) = true := by
    rw [show D.plain (.tup l) = true from h, show D.plain (.tup []) = true from rfl]
    have : min (D.depth (.tup l)) (D.depth (.tup [])) ≤ 40 := Nat.le_trans (Nat.min_le_right _ _) (by decide)
    simp [this]
  rw [if_pos e]
  cases l <;> rfl
theorem filter_empty {α : Type} {p : α → Bool} : ∀ {l : List α}, (l.filter p).isEmpty = l.all fun x => !p x
  | [] => rfl
  | x :: l => by
    rw [List.filter_cons, List.all_cons]
    cases e : p x with
    | true => simp
    | false => simp; rw [← filter_empty]
theorem plains_filter {ds : List D} {p : D → Bool} (h : D.plains ds = true) : D.plains (ds.filter p) = true := plains_of fun d hd => plains_mem h d (List.mem_filter.mp hd).1
/-- [..] == [] -/
theorem comp_nil {g : G} {Φ : Fn} {ρ : Env} {elt : IE} {own : List Nat} {tg : Tg} {src : II} {c : IO} {l : List D} {op : PySem.CmpOp} {b : Bool} (h : evE g Φ (.comp elt own tg src c) ρ = .ok (.lst l) ρ) (hb : cmpD op (.lst l) (.lst []) = some b) :
    evE g Φ (.cmp op (.comp elt own tg src c) (.lst .nil)) ρ = .ok (.val (.bl b)) ρ := by
  have s1 : asArg (.comp elt own tg src c) ρ (Res.ok (R.lst l) ρ) = .ok (.v (.lst l)) ρ := rfl
  show ((asArg _ ρ (evE g Φ (.comp elt own tg src c) ρ)).bind _) = _
  rw [h, s1]
  show cmpP op (.lst l) (.lst []) ρ = _
  exact p_some hb
def nums (many : Int) : D → Bool
  | .tup ds => ds.all (inR 0 (many - 1))
  | _ => false
theorem isN (n : Nat) (v : D) (many : Int) (h : v.plain = true) (hl : short v = true) : ∃ o, md.Φ (n + 2) 12 [.val v, .val (.int many)] = .ok (.val (.bl (nums many v))) o := by
  cases v with
  | tup ds =>
    have hl : ds.length ≤ 16777216 := of_decide_eq_true hl
    have hc := comp_pure (g := md.g) (Φ := md.Φ (n + 1)) (ρ := [some (.val (.tup ds)), some (.val (.int many)), none]) (i := 2) (elt := .var 2) (src := .seq (.var 0)) (c := .som (.bop false (.cons (.nt (.call 11 (.cons (.var 2) .nil))) (.cons (.cmp .Lt (.var 2) (.cst (.int 0))) (.cons (.cmp .GtE (.var 2) (.var 1)) .nil)))))
      (ds := ds) (p := fun d => !inR 0 (many - 1) d) (q := id) (by simp) (src_t rfl) hl (fun d hd => by
        have c := fun ρ => call1 (ρ := ρ) (whole n d (plain_ty (plains_mem h d hd)))
        refine te_bl rfl ((or3 (a := !isInt d) (b := match d with | .int i => decide (i < 0) | _ => false) (c := match d with | .int i => !decide (i < many) | _ => false) ?_ (fun ha => ?_) (fun ha hb => ?_)).trans ?_)
        · simp -implicitDefEqProofs [Fx.evSs, Fx.evS, Fx.evE, Fx.evB, Fx.evAs, Fx.evDs, Fx.evO, Fx.evC, Fx.evI, Fx.teE, Fx.tstA, Fx.asArg, Fx.b_ok, Fx.b_exc, Fx.t_ok, Fx.t_exc, Fx.s_nx, Fx.s_rt, Fx.s_exc, Fx.s_bk, Fx.s_ct, Fx.as_val, Fx.as_lst, Fx.as_exc, Fx.o_some, Fx.f_val, Fx.f_lst, Fx.a_v, Fx.a_b, Fx.rb_bl, Fx.rdVar, Fx.argVar, Fx.at0, Fx.at_1, Fx.at_2, Fx.at_3, Fx.at_4, Fx.at_5, Fx.at_6, Fx.at_7, Fx.at_8, Fx.at_9, Fx.at_10, Fx.at_11, Fx.at_12, Fx.cmpP, Fx.g_nil, Fx.g_v, Fx.g_l, Fx.u_b, Fx.u_i, Fx.c_len_t, Fx.c_len_l, Fx.c_abs, Fx.c_int, Fx.c_intb, Fx.c_list_t, Fx.c_list_l, Fx.c_tup_t, Fx.c_tup_l, Fx.c_all, Fx.c_rng1, Fx.c_rng2, Fx.r_i, Fx.r_s, Fx.l_i, Fx.m_lt, Fx.m_gt, Fx.m_le, Fx.m_ge, Fx.m_eq, Fx.m_ne, Fx.m_is, Fx.m_in, Fx.m_ni, Fx.x_t, Fx.x_l, Fx.DefI.fin, Fx.outsA, c]
        · cases d with
          | int i => simp -implicitDefEqProofs [Fx.evSs, Fx.evS, Fx.evE, Fx.evB, Fx.evAs, Fx.evDs, Fx.evO, Fx.evC, Fx.evI, Fx.teE, Fx.tstA, Fx.asArg, Fx.b_ok, Fx.b_exc, Fx.t_ok, Fx.t_exc, Fx.s_nx, Fx.s_rt, Fx.s_exc, Fx.s_bk, Fx.s_ct, Fx.as_val, Fx.as_lst, Fx.as_exc, Fx.o_some, Fx.f_val, Fx.f_lst, Fx.a_v, Fx.a_b, Fx.rb_bl, Fx.rdVar, Fx.argVar, Fx.at0, Fx.at_1, Fx.at_2, Fx.at_3, Fx.at_4, Fx.at_5, Fx.at_6, Fx.at_7, Fx.at_8, Fx.at_9, Fx.at_10, Fx.at_11, Fx.at_12, Fx.cmpP, Fx.g_nil, Fx.g_v, Fx.g_l, Fx.u_b, Fx.u_i, Fx.c_len_t, Fx.c_len_l, Fx.c_abs, Fx.c_int, Fx.c_intb, Fx.c_list_t, Fx.c_list_l, Fx.c_tup_t, Fx.c_tup_l, Fx.c_all, Fx.c_rng1, Fx.c_rng2, Fx.r_i, Fx.r_s, Fx.l_i, Fx.m_lt, Fx.m_gt, Fx.m_le, Fx.m_ge, Fx.m_eq, Fx.m_ne, Fx.m_is, Fx.m_in, Fx.m_ni, Fx.x_t, Fx.x_l, Fx.DefI.fin, Fx.outsA]
          | _ => cases ha
        · cases d with
          | int i => simp -implicitDefEqProofs [Fx.evSs, Fx.evS, Fx.evE, Fx.evB, Fx.evAs, Fx.evDs, Fx.evO, Fx.evC, Fx.evI, Fx.teE, Fx.tstA, Fx.asArg, Fx.b_ok, Fx.b_exc, Fx.t_ok, Fx.t_exc, Fx.s_nx, Fx.s_rt, Fx.s_exc, Fx.s_bk, Fx.s_ct, Fx.as_val, Fx.as_lst, Fx.as_exc, Fx.o_some, Fx.f_val, Fx.f_lst, Fx.a_v, Fx.a_b, Fx.rb_bl, Fx.rdVar, Fx.argVar, Fx.at0, Fx.at_1, Fx.at_2, Fx.at_3, Fx.at_4, Fx.at_5, Fx.at_6, Fx.at_7, Fx.at_8, Fx.at_9, Fx.at_10, Fx.at_11, Fx.at_12, Fx.cmpP, Fx.g_nil, Fx.g_v, Fx.g_l, Fx.u_b, Fx.u_i, Fx.c_len_t, Fx.c_len_l, Fx.c_abs, Fx.c_int, Fx.c_intb, Fx.c_list_t, Fx.c_list_l, Fx.c_tup_t, Fx.c_tup_l, Fx.c_all, Fx.c_rng1, Fx.c_rng2, Fx.r_i, Fx.r_s, Fx.l_i, Fx.m_lt, Fx.m_gt, Fx.m_le, Fx.m_ge, Fx.m_eq, Fx.m_ne, Fx.m_is, Fx.m_in, Fx.m_ni, Fx.x_t, Fx.x_l, Fx.DefI.fin, Fx.outsA]
          | _ => cases ha
        · cases d with
          | int i =>
            have e : (!isInt (.int i) || (decide (i < 0) || !decide (i < many))) = !inR 0 (many - 1) (.int i) := by
              rw [Bool.eq_iff_iff]
              simp [isInt, inR]
              omega
            exact congrArg (fun b => Res.ok (R.val (D.bl b)) _) e
          | _ => rfl) (fun d hd _ => rfl)
    refine phi_rt (d := d__law_is_numbers) (ρ := [some (.val (.tup ds)), some (.val (.int many)), none]) rfl rfl ?_
    show evSs md.g (md.Φ (n + 1)) b__law_is_numbers [some (.val (.tup ds)), some (.val (.int many)), none] = _
    rw [List.map_id] at hc
    have hq := comp_nil hc (op := .Eq) (eqD_nil (plains_filter h))
    rw [filter_empty] at hq
    show (evS md.g (md.Φ (n + 1)) _ _).thn _ = _
    have s1 : evS md.g (md.Φ (n + 1)) (.ifs (.nt (.isi (.var 0) .tuple)) (.cons (.ret (.cst (.bl false))) .nil) .nil) [some (.val (.tup ds)), some (.val (.int many)), none] = .nx [some (.val (.tup ds)), some (.val (.int many)), none] := by simp -implicitDefEqProofs [Fx.evSs, Fx.evS, Fx.evE, Fx.evB, Fx.evAs, Fx.evDs, Fx.evO, Fx.evC, Fx.evI, Fx.teE, Fx.tstA, Fx.asArg, Fx.b_ok, Fx.b_exc, Fx.t_ok, Fx.t_exc, Fx.s_nx, Fx.s_rt, Fx.s_exc, Fx.s_bk, Fx.s_ct, Fx.as_val, Fx.as_lst, Fx.as_exc, Fx.o_some, Fx.f_val, Fx.f_lst, Fx.a_v, Fx.a_b, Fx.rb_bl, Fx.rdVar, Fx.argVar, Fx.at0, Fx.at_1, Fx.at_2, Fx.at_3, Fx.at_4, Fx.at_5, Fx.at_6, Fx.at_7, Fx.at_8, Fx.at_9, Fx.at_10, Fx.at_11, Fx.at_12, Fx.cmpP, Fx.g_nil, Fx.g_v, Fx.g_l, Fx.u_b, Fx.u_i, Fx.c_len_t, Fx.c_len_l, Fx.c_abs, Fx.c_int, Fx.c_intb, Fx.c_list_t, Fx.c_list_l, Fx.c_tup_t, Fx.c_tup_l, Fx.c_all, Fx.c_rng1, Fx.c_rng2, Fx.r_i, Fx.r_s, Fx.l_i, Fx.m_lt, Fx.m_gt, Fx.m_le, Fx.m_ge, Fx.m_eq, Fx.m_ne, Fx.m_is, Fx.m_in, Fx.m_ni, Fx.x_t, Fx.x_l, Fx.DefI.fin, Fx.outsA, isiD]
    rw [s1]
    show ((evE md.g (md.Φ (n + 1)) _ _).thn _).thn _ = _
    rw [hq]
    rw [show (ds.all fun x => !!inR 0 (many - 1) x) = ds.all (inR 0 (many - 1)) by simp]
    rfl
  | rng _ _ => cases h
  | ins _ _ => cases h
  | _ => exact ⟨_, rfl⟩
theorem asc_ge {ds : List D} (h : aInt ds = true) : ((rngL 1 ds.length).filter fun d => match lt2 ds d with | .bl b => !b | _ => false).isEmpty = asc ds := by
  rw [filter_empty, ← nb_asc h]
  unfold rngL nb
  rw [List.all_map, List.all_map]
  have el : ((ds.length : Int) - 1).toNat = ds.length - 1 := by omega
  rw [el]
  congr 1
  funext k
  have e3 : ((1 : Int) + (k : Int) - 1).toNat = k := by omega
  have e4 : ((1 : Int) + (k : Int)).toNat = k + 1 := by omega
  simp [lt2, e3, e4]
def geB (ds : List D) (d : D) : Bool := match lt2 ds d with | .bl b => !b | _ => false
theorem isAs (n : Nat) (ds : List D) (h : aInt ds = true) (hl : ds.length ≤ 16777216) : ∃ o, md.Φ (n + 1) 15 [.val (.tup ds)] = .ok (.val (.bl (asc ds))) o := by
  refine phi_ret (d := d__law_ascends) (ρ := [some (.val (.tup ds)), none]) rfl rfl rfl ?_
  show evE md.g (md.Φ n) _ [some (.val (.tup ds)), none] = _
  have hc := comp_pure (g := md.g) (Φ := md.Φ n) (ρ := [some (.val (.tup ds)), none]) (i := 1) (elt := .var 1) (src := .seq (.cb .range (.cons (.cst (.int 1)) (.cons (.cb .len (.cons (.var 0) .nil)) .nil)))) (c := .som (.cmp .GtE (.idx (.var 0) (.bin .Sub (.var 1) (.cst (.int 1)))) (.idx (.var 0) (.var 1))))
    (ds := rngL 1 ds.length) (p := geB ds) (q := id) (by simp) (src1 rfl hl) (by rw [rng_len]; show _ ≤ 16777216; omega) (fun d hd => by
      obtain ⟨k, hk, rfl⟩ := mem_rng hd
      obtain ⟨i, hi⟩ := int_at h (k := k) (by omega)
      obtain ⟨j, hj⟩ := int_at h (k := k + 1) (by omega)
      have e1 : (1 : Int) + (k : Int) - 1 = (k : Int) := by omega
      have e2 : (1 : Int) + (k : Int) = ((k + 1 : Nat) : Int) := by omega
      have e3 : ((1 : Int) + (k : Int) - 1).toNat = k := by omega
      have e4 : ((1 : Int) + (k : Int)).toNat = k + 1 := by omega
      have eg : geB ds (.int (1 + k)) = !decide (i < j) := by
        show (!cmpAt ds[((1 : Int) + (k : Int) - 1).toNat]? ds[((1 : Int) + (k : Int)).toNat]?) = _
        rw [e3, e4, hi, hj]; rfl
      rw [eg]
      have q1 := at_nat hi
      have q2 := at_nat hj
      rw [← e2] at q2
      refine te_bl rfl ?_
      simp -implicitDefEqProofs [Fx.evSs, Fx.evS, Fx.evE, Fx.evB, Fx.evAs, Fx.evDs, Fx.evO, Fx.evC, Fx.evI, Fx.teE, Fx.tstA, Fx.asArg, Fx.b_ok, Fx.b_exc, Fx.t_ok, Fx.t_exc, Fx.s_nx, Fx.s_rt, Fx.s_exc, Fx.s_bk, Fx.s_ct, Fx.as_val, Fx.as_lst, Fx.as_exc, Fx.o_some, Fx.f_val, Fx.f_lst, Fx.a_v, Fx.a_b, Fx.rb_bl, Fx.rdVar, Fx.argVar, Fx.at0, Fx.at_1, Fx.at_2, Fx.at_3, Fx.at_4, Fx.at_5, Fx.at_6, Fx.at_7, Fx.at_8, Fx.at_9, Fx.at_10, Fx.at_11, Fx.at_12, Fx.cmpP, Fx.g_nil, Fx.g_v, Fx.g_l, Fx.u_b, Fx.u_i, Fx.c_len_t, Fx.c_len_l, Fx.c_abs, Fx.c_int, Fx.c_intb, Fx.c_list_t, Fx.c_list_l, Fx.c_tup_t, Fx.c_tup_l, Fx.c_all, Fx.c_rng1, Fx.c_rng2, Fx.r_i, Fx.r_s, Fx.l_i, Fx.m_lt, Fx.m_gt, Fx.m_le, Fx.m_ge, Fx.m_eq, Fx.m_ne, Fx.m_is, Fx.m_in, Fx.m_ni, Fx.x_t, Fx.x_l, Fx.DefI.fin, Fx.outsA, e1, q1, q2]) (fun d hd _ => rfl)
  rw [List.map_id] at hc
  have pl : D.plains (rngL 1 ds.length) = true := plains_of fun d hd => by obtain ⟨k, _, rfl⟩ := mem_rng hd; rfl
  have hq := comp_nil hc (op := .Eq) (eqD_nil (plains_filter pl))
  rw [show ((rngL 1 ds.length).filter (geB ds)).isEmpty = asc ds from asc_ge h] at hq
  exact hq
theorem isLot (n : Nat) (v : D) (many : Int) (h : v.plain = true) (hl : short v = true) : ∃ o, md.Φ (n + 3) 18 [.val v, .val (.int many)] = .ok (.val (.bl (bunch many v))) o := by
  refine phi_ret (d := d__law_is_lot) (ρ := [some (.val v), some (.val (.int many))]) rfl rfl rfl ?_
  show evE md.g (md.Φ (n + 2)) _ [some (.val v), some (.val (.int many))] = _
  have c := fun ρ => call2 (ρ := ρ) (isN n v many h hl)
  refine (and3 (a := nums many v) (b := pos v) (c := match v with | .tup ds => asc ds | _ => false) ?_ (fun ha => ?_) (fun ha hb => ?_)).trans ?_
  · simp -implicitDefEqProofs [Fx.evSs, Fx.evS, Fx.evE, Fx.evB, Fx.evAs, Fx.evDs, Fx.evO, Fx.evC, Fx.evI, Fx.teE, Fx.tstA, Fx.asArg, Fx.b_ok, Fx.b_exc, Fx.t_ok, Fx.t_exc, Fx.s_nx, Fx.s_rt, Fx.s_exc, Fx.s_bk, Fx.s_ct, Fx.as_val, Fx.as_lst, Fx.as_exc, Fx.o_some, Fx.f_val, Fx.f_lst, Fx.a_v, Fx.a_b, Fx.rb_bl, Fx.rdVar, Fx.argVar, Fx.at0, Fx.at_1, Fx.at_2, Fx.at_3, Fx.at_4, Fx.at_5, Fx.at_6, Fx.at_7, Fx.at_8, Fx.at_9, Fx.at_10, Fx.at_11, Fx.at_12, Fx.cmpP, Fx.g_nil, Fx.g_v, Fx.g_l, Fx.u_b, Fx.u_i, Fx.c_len_t, Fx.c_len_l, Fx.c_abs, Fx.c_int, Fx.c_intb, Fx.c_list_t, Fx.c_list_l, Fx.c_tup_t, Fx.c_tup_l, Fx.c_all, Fx.c_rng1, Fx.c_rng2, Fx.r_i, Fx.r_s, Fx.l_i, Fx.m_lt, Fx.m_gt, Fx.m_le, Fx.m_ge, Fx.m_eq, Fx.m_ne, Fx.m_is, Fx.m_in, Fx.m_ni, Fx.x_t, Fx.x_l, Fx.DefI.fin, Fx.outsA, c]
  · cases v with
    | tup ds =>
      have e : (cmpD .NotEq (.tup ds) (.tup [])) = some (pos (.tup ds)) := by
        show (eqD _ _).map not = _
        rw [eqD_tnil h]
        cases ds <;> rfl
      exact p_some (ρ := [some (.val (.tup ds)), some (.val (.int many))]) e
    | _ => cases ha
  · cases v with
    | tup ds =>
      have c := fun ρ => call1 (ρ := ρ) (isAs (n + 1) ds (all_int ha) (of_decide_eq_true hl))
      simp -implicitDefEqProofs [Fx.evSs, Fx.evS, Fx.evE, Fx.evB, Fx.evAs, Fx.evDs, Fx.evO, Fx.evC, Fx.evI, Fx.teE, Fx.tstA, Fx.asArg, Fx.b_ok, Fx.b_exc, Fx.t_ok, Fx.t_exc, Fx.s_nx, Fx.s_rt, Fx.s_exc, Fx.s_bk, Fx.s_ct, Fx.as_val, Fx.as_lst, Fx.as_exc, Fx.o_some, Fx.f_val, Fx.f_lst, Fx.a_v, Fx.a_b, Fx.rb_bl, Fx.rdVar, Fx.argVar, Fx.at0, Fx.at_1, Fx.at_2, Fx.at_3, Fx.at_4, Fx.at_5, Fx.at_6, Fx.at_7, Fx.at_8, Fx.at_9, Fx.at_10, Fx.at_11, Fx.at_12, Fx.cmpP, Fx.g_nil, Fx.g_v, Fx.g_l, Fx.u_b, Fx.u_i, Fx.c_len_t, Fx.c_len_l, Fx.c_abs, Fx.c_int, Fx.c_intb, Fx.c_list_t, Fx.c_list_l, Fx.c_tup_t, Fx.c_tup_l, Fx.c_all, Fx.c_rng1, Fx.c_rng2, Fx.r_i, Fx.r_s, Fx.l_i, Fx.m_lt, Fx.m_gt, Fx.m_le, Fx.m_ge, Fx.m_eq, Fx.m_ne, Fx.m_is, Fx.m_in, Fx.m_ni, Fx.x_t, Fx.x_l, Fx.DefI.fin, Fx.outsA, c]
    | _ => cases ha
  · cases v with
    | tup ds =>
      show Res.ok (R.val (D.bl (ds.all (inR 0 (many - 1)) && (decide (0 < ds.length) && asc ds)))) _ = Res.ok (R.val (D.bl (ds.all (inR 0 (many - 1)) && asc ds && decide (0 < ds.length)))) _
      rw [Bool.and_comm (decide _), Bool.and_assoc]
    | _ => rfl
end K02
end
section
set_option linter.all false
set_option Elab.async false
set_option maxRecDepth 100000
set_option maxHeartbeats 1000000
namespace K02
open Fx
def toI : D → Int
  | .int i => i
  | _ => 0
def shorts (v : D) : Prop := ∀ ds, v = .tup ds → ∀ d ∈ ds, short d = true
/-- what Table(many, rows) gives -/
def tabR (many rows : D) (ρ : Env) : Res R := if inR 1 5 many = true then (if rowsOk (toI many) rows = true then .ok (.obj 0 [.val many, .val rows]) ρ else .exc 1 rows ρ) else .exc 0 many ρ
theorem ifs_t {g : G} {Φ : Fn} {ρ ρ' : Env} {e : IE} {a b : ISs} {k : Bool} (h : teE g Φ e ρ = .ok k ρ') : evS g Φ (.ifs e a b) ρ = if k = true then evSs g Φ a ρ' else evSs g Φ b ρ' := by
  show (teE g Φ e ρ).thn _ = _
  rw [h]; rfl
theorem mkT (n : Nat) (many rows : D) (ρ : Env) (h1 : many.plain = true) (h2 : rows.plain = true) (hs : shorts rows) : makeR (md.Φ (n + 6)) md.g.ini 0 [.v (.val many), .v (.val rows)] ρ = tabR many rows ρ := by
  have c1 := fun ρ => call3 (ρ := ρ) (isW (n + 3) many 1 5 (plain_ty h1))
  have gl : md.g.gl 0 = some (.int 5) := rfl
  have e1 : ∀ ρ : Env, ρ.at 1 = some (.val many) → evE md.g (md.Φ (n + 5)) (.nt (.call 1 (.cons (.var 1) (.cons (.cst (.int 1)) (.cons (.glob 0) .nil))))) ρ = .ok (.val (.bl (!inR 1 5 many))) ρ := fun ρ h => by
    refine nt_bl rfl ?_
    simp -implicitDefEqProofs [Fx.evSs, Fx.evS, Fx.evE, Fx.evB, Fx.evAs, Fx.evDs, Fx.evO, Fx.evC, Fx.evI, Fx.teE, Fx.tstA, Fx.asArg, Fx.b_ok, Fx.b_exc, Fx.t_ok, Fx.t_exc, Fx.s_nx, Fx.s_rt, Fx.s_exc, Fx.s_bk, Fx.s_ct, Fx.as_val, Fx.as_lst, Fx.as_exc, Fx.o_some, Fx.f_val, Fx.f_lst, Fx.a_v, Fx.a_b, Fx.rb_bl, Fx.p_some, Fx.g_nil, Fx.g_v, Fx.g_l, Fx.u_b, Fx.u_i, Fx.c_len_t, Fx.c_len_l, Fx.c_abs, Fx.c_int, Fx.c_intb, Fx.c_list_t, Fx.c_list_l, Fx.c_tup_t, Fx.c_tup_l, Fx.c_all, Fx.c_rng1, Fx.c_rng2, Fx.r_i, Fx.r_s, Fx.l_i, Fx.m_lt, Fx.m_gt, Fx.m_le, Fx.m_ge, Fx.m_eq, Fx.m_ne, Fx.m_is, Fx.m_in, Fx.m_ni, Fx.x_t, Fx.x_l, av_val h, gl, c1]
  have key : md.Φ (n + 6) 22 [.obj 0 [], .val many, .val rows] = (if inR 1 5 many = true then (if rowsOk (toI many) rows = true then .ok (.val .non) [some (.obj 0 [.val many, .val rows]), some (.val many), some (.val rows)] else .exc 1 rows [some (.obj 0 []), some (.val many), some (.val rows)]) else .exc 0 many [some (.obj 0 []), some (.val many), some (.val rows)]) := by
    rw [phi (d := d_Table_init) rfl rfl]
    show d_Table_init.fin ((evS md.g (md.Φ (n + 5)) _ [some (.obj 0 []), some (.val many), some (.val rows)]).thn _) = _
    rw [ifs_t (te_bl rfl (e1 _ rfl))]
    cases q : inR 1 5 many with
    | false => rfl
    | true =>
      obtain ⟨m, rfl, _⟩ := inR_int q
      have c2 := fun ρ => call2 (ρ := ρ) (areR n rows m h2 hs)
      have e2 : evE md.g (md.Φ (n + 5)) (.nt (.call 6 (.cons (.var 2) (.cons (.var 1) .nil)))) [some (.obj 0 []), some (.val (.int m)), some (.val rows)] = .ok (.val (.bl (!rowsOk m rows))) [some (.obj 0 []), some (.val (.int m)), some (.val rows)] := by
        refine nt_bl rfl ?_
        simp -implicitDefEqProofs [Fx.evSs, Fx.evS, Fx.evE, Fx.evB, Fx.evAs, Fx.evDs, Fx.evO, Fx.evC, Fx.evI, Fx.teE, Fx.tstA, Fx.asArg, Fx.b_ok, Fx.b_exc, Fx.t_ok, Fx.t_exc, Fx.s_nx, Fx.s_rt, Fx.s_exc, Fx.s_bk, Fx.s_ct, Fx.as_val, Fx.as_lst, Fx.as_exc, Fx.o_some, Fx.f_val, Fx.f_lst, Fx.a_v, Fx.a_b, Fx.rb_bl, Fx.rdVar, Fx.argVar, Fx.at0, Fx.at_1, Fx.at_2, Fx.at_3, Fx.at_4, Fx.at_5, Fx.at_6, Fx.at_7, Fx.at_8, Fx.at_9, Fx.at_10, Fx.at_11, Fx.at_12, Fx.cmpP, Fx.g_nil, Fx.g_v, Fx.g_l, Fx.u_b, Fx.u_i, Fx.c_len_t, Fx.c_len_l, Fx.c_abs, Fx.c_int, Fx.c_intb, Fx.c_list_t, Fx.c_list_l, Fx.c_tup_t, Fx.c_tup_l, Fx.c_all, Fx.c_rng1, Fx.c_rng2, Fx.r_i, Fx.r_s, Fx.l_i, Fx.m_lt, Fx.m_gt, Fx.m_le, Fx.m_ge, Fx.m_eq, Fx.m_ne, Fx.m_is, Fx.m_in, Fx.m_ni, Fx.x_t, Fx.x_l, Fx.DefI.fin, Fx.outsA, c2]
      show d_Table_init.fin ((evS md.g (md.Φ (n + 5)) _ [some (.obj 0 []), some (.val (.int m)), some (.val rows)]).thn _) = _
      rw [ifs_t (te_bl rfl e2)]
      show _ = if rowsOk m rows = true then _ else _
      cases rowsOk m rows <;> rfl
  show (match (md.Φ (n + 6) 22 [.obj 0 [], .val many, .val rows]) with
    | .ok (.val .non) (some r :: outs) => Res.ok r (giveB [.v (.val many), .v (.val rows)] outs ρ)
    | .exc x d (_ :: outs) => .exc x d (giveB [.v (.val many), .v (.val rows)] outs ρ)
    | _ => .stuck) = _
  rw [key]
  unfold tabR
  cases inR 1 5 many with
  | false => rfl
  | true => cases rowsOk (toI many) rows <;> rfl
/-- what is told, what is due -/
def told (many rows : D) : D := if inR 1 5 many = true then (if rowsOk (toI many) rows = true then .tup [.str "kept", many, rows] else .tup [.str "locks", rows]) else .tup [.str "number", many]
theorem isTold (n : Nat) (many rows : D) (h1 : many.plain = true) (h2 : rows.plain = true) (hs : shorts rows) : ∃ o, md.Φ (n + 7) 19 [.val many, .val rows] = .ok (.val (told many rows)) o := by
  have c : evE md.g (md.Φ (n + 6)) (.make 0 (.cons (.var 0) (.cons (.var 1) .nil))) [some (.val many), some (.val rows), none, none] = tabR many rows [some (.val many), some (.val rows), none, none] := by
    rw [← mkT n many rows _ h1 h2 hs]; rfl
  rw [phi (d := d__law_told) rfl rfl]
  show ∃ o, d__law_told.fin ((evS md.g (md.Φ (n + 6)) (.try_ _ _) [some (.val many), some (.val rows), none, none]).thn _) = _
  have s1 : evSs md.g (md.Φ (n + 6)) (.cons (.asg 2 (.make 0 (.cons (.var 0) (.cons (.var 1) .nil)))) .nil) [some (.val many), some (.val rows), none, none] = ((tabR many rows [some (.val many), some (.val rows), none, none]).thn fun r ρ => .nx (ρ.set 2 (some r))).thn fun ρ => .nx ρ := by
    rw [← c]; rfl
  have s2 : evS md.g (md.Φ (n + 6)) (.try_ (.cons (.asg 2 (.make 0 (.cons (.var 0) (.cons (.var 1) .nil)))) .nil) [⟨0, some 3, (.pair (.str "number") "value")⟩, ⟨1, some 3, (.pair (.str "locks") "value")⟩]) [some (.val many), some (.val rows), none, none] =
      (match evSs md.g (md.Φ (n + 6)) (.cons (.asg 2 (.make 0 (.cons (.var 0) (.cons (.var 1) .nil)))) .nil) [some (.val many), some (.val rows), none, none] with
        | .exc c d ρ' => evHs md.g [⟨0, some 3, (.pair (.str "number") "value")⟩, ⟨1, some 3, (.pair (.str "locks") "value")⟩] c d ρ'
        | x => x) := rfl
  rw [s2, s1]
  unfold tabR told
  cases inR 1 5 many with
  | false => exact ⟨_, rfl⟩
  | true =>
    simp only [if_true]
    cases rowsOk (toI many) rows with
    | false => exact ⟨_, rfl⟩
    | true => exact ⟨_, rfl⟩
theorem rows_filter {m : Int} {ds : List D} : ((ds.filter fun d => !bunch m d).isEmpty) = ds.all (bunch m) := by
  rw [filter_empty]; simp
theorem isDue (n : Nat) (many rows : D) (h1 : many.plain = true) (h2 : rows.plain = true) (hs : shorts rows) : ∃ o, md.Φ (n + 4) 20 [.val many, .val rows] = .ok (.val (told many rows)) o := by
  have c := fun ρ => call1 (ρ := ρ) (whole (n + 2) many (plain_ty h1))
  have q1 : evE md.g (md.Φ (n + 3)) (.bop false (.cons (.nt (.call 11 (.cons (.var 0) .nil))) (.cons (.cmp .Lt (.var 0) (.cst (.int 1))) (.cons (.cmp .Gt (.var 0) (.cst (.int 5))) .nil)))) [some (.val many), some (.val rows), none] = .ok (.val (.bl (!inR 1 5 many))) [some (.val many), some (.val rows), none] := by
    refine ((or3 (a := !isInt many) (b := match many with | .int i => decide (i < 1) | _ => false) (c := match many with | .int i => decide (5 < i) | _ => false) ?_ (fun ha => ?_) (fun ha hb => ?_)).trans ?_)
    · simp -implicitDefEqProofs [Fx.evSs, Fx.evS, Fx.evE, Fx.evB, Fx.evAs, Fx.evDs, Fx.evO, Fx.evC, Fx.evI, Fx.teE, Fx.tstA, Fx.asArg, Fx.b_ok, Fx.b_exc, Fx.t_ok, Fx.t_exc, Fx.s_nx, Fx.s_rt, Fx.s_exc, Fx.s_bk, Fx.s_ct, Fx.as_val, Fx.as_lst, Fx.as_exc, Fx.o_some, Fx.f_val, Fx.f_lst, Fx.a_v, Fx.a_b, Fx.rb_bl, Fx.rdVar, Fx.argVar, Fx.at0, Fx.at_1, Fx.at_2, Fx.at_3, Fx.at_4, Fx.at_5, Fx.at_6, Fx.at_7, Fx.at_8, Fx.at_9, Fx.at_10, Fx.at_11, Fx.at_12, Fx.cmpP, Fx.g_nil, Fx.g_v, Fx.g_l, Fx.u_b, Fx.u_i, Fx.c_len_t, Fx.c_len_l, Fx.c_abs, Fx.c_int, Fx.c_intb, Fx.c_list_t, Fx.c_list_l, Fx.c_tup_t, Fx.c_tup_l, Fx.c_all, Fx.c_rng1, Fx.c_rng2, Fx.r_i, Fx.r_s, Fx.l_i, Fx.m_lt, Fx.m_gt, Fx.m_le, Fx.m_ge, Fx.m_eq, Fx.m_ne, Fx.m_is, Fx.m_in, Fx.m_ni, Fx.x_t, Fx.x_l, Fx.DefI.fin, Fx.outsA, c]
    · cases many with
      | int i => simp -implicitDefEqProofs [Fx.evSs, Fx.evS, Fx.evE, Fx.evB, Fx.evAs, Fx.evDs, Fx.evO, Fx.evC, Fx.evI, Fx.teE, Fx.tstA, Fx.asArg, Fx.b_ok, Fx.b_exc, Fx.t_ok, Fx.t_exc, Fx.s_nx, Fx.s_rt, Fx.s_exc, Fx.s_bk, Fx.s_ct, Fx.as_val, Fx.as_lst, Fx.as_exc, Fx.o_some, Fx.f_val, Fx.f_lst, Fx.a_v, Fx.a_b, Fx.rb_bl, Fx.rdVar, Fx.argVar, Fx.at0, Fx.at_1, Fx.at_2, Fx.at_3, Fx.at_4, Fx.at_5, Fx.at_6, Fx.at_7, Fx.at_8, Fx.at_9, Fx.at_10, Fx.at_11, Fx.at_12, Fx.cmpP, Fx.g_nil, Fx.g_v, Fx.g_l, Fx.u_b, Fx.u_i, Fx.c_len_t, Fx.c_len_l, Fx.c_abs, Fx.c_int, Fx.c_intb, Fx.c_list_t, Fx.c_list_l, Fx.c_tup_t, Fx.c_tup_l, Fx.c_all, Fx.c_rng1, Fx.c_rng2, Fx.r_i, Fx.r_s, Fx.l_i, Fx.m_lt, Fx.m_gt, Fx.m_le, Fx.m_ge, Fx.m_eq, Fx.m_ne, Fx.m_is, Fx.m_in, Fx.m_ni, Fx.x_t, Fx.x_l, Fx.DefI.fin, Fx.outsA]
      | _ => cases ha
    · cases many with
      | int i => simp -implicitDefEqProofs [Fx.evSs, Fx.evS, Fx.evE, Fx.evB, Fx.evAs, Fx.evDs, Fx.evO, Fx.evC, Fx.evI, Fx.teE, Fx.tstA, Fx.asArg, Fx.b_ok, Fx.b_exc, Fx.t_ok, Fx.t_exc, Fx.s_nx, Fx.s_rt, Fx.s_exc, Fx.s_bk, Fx.s_ct, Fx.as_val, Fx.as_lst, Fx.as_exc, Fx.o_some, Fx.f_val, Fx.f_lst, Fx.a_v, Fx.a_b, Fx.rb_bl, Fx.rdVar, Fx.argVar, Fx.at0, Fx.at_1, Fx.at_2, Fx.at_3, Fx.at_4, Fx.at_5, Fx.at_6, Fx.at_7, Fx.at_8, Fx.at_9, Fx.at_10, Fx.at_11, Fx.at_12, Fx.cmpP, Fx.g_nil, Fx.g_v, Fx.g_l, Fx.u_b, Fx.u_i, Fx.c_len_t, Fx.c_len_l, Fx.c_abs, Fx.c_int, Fx.c_intb, Fx.c_list_t, Fx.c_list_l, Fx.c_tup_t, Fx.c_tup_l, Fx.c_all, Fx.c_rng1, Fx.c_rng2, Fx.r_i, Fx.r_s, Fx.l_i, Fx.m_lt, Fx.m_gt, Fx.m_le, Fx.m_ge, Fx.m_eq, Fx.m_ne, Fx.m_is, Fx.m_in, Fx.m_ni, Fx.x_t, Fx.x_l, Fx.DefI.fin, Fx.outsA]
      | _ => cases ha
    · cases many with
      | int i =>
        have e : (!isInt (.int i) || (decide (i < 1) || decide (5 < i))) = !inR 1 5 (.int i) := by
          show (false || (decide (i < 1) || decide (5 < i))) = !(decide (1 ≤ i) && decide (i ≤ 5))
          rw [Bool.eq_iff_iff]
          simp only [Bool.false_or, Bool.or_eq_true, decide_eq_true_eq, Bool.not_eq_true', Bool.and_eq_false_iff, decide_eq_false_iff_not]
          omega
        exact congrArg (fun b => Res.ok (R.val (D.bl b)) _) e
      | _ => rfl
  rw [phi (d := d__law_due) rfl rfl]
  show ∃ o, d__law_due.fin ((evS md.g (md.Φ (n + 3)) _ [some (.val many), some (.val rows), none]).thn _) = _
  rw [ifs_t (te_bl rfl q1)]
  unfold told
  cases q : inR 1 5 many with
  | false => exact ⟨_, rfl⟩
  | true =>
    obtain ⟨m, rfl, _⟩ := inR_int q
    have q2 : evE md.g (md.Φ (n + 3)) (.bop false (.cons (.nt (.isi (.var 1) .tuple)) (.cons (.cmp .Lt (.cb .len (.cons (.var 1) .nil)) (.cst (.int 1))) (.cons (.cmp .Gt (.cb .len (.cons (.var 1) .nil)) (.cst (.int 5))) .nil)))) [some (.val (.int m)), some (.val rows), none] = .ok (.val (.bl (!tupR rows))) [some (.val (.int m)), some (.val rows), none] := by
      cases rows with
      | tup ds =>
        refine ((or3 (a := false) (b := decide ((ds.length : Int) < 1)) (c := decide (5 < (ds.length : Int))) ?_ (fun ha => ?_) (fun ha hb => ?_)).trans ?_)
        · simp -implicitDefEqProofs [Fx.evSs, Fx.evS, Fx.evE, Fx.evB, Fx.evAs, Fx.evDs, Fx.evO, Fx.evC, Fx.evI, Fx.teE, Fx.tstA, Fx.asArg, Fx.b_ok, Fx.b_exc, Fx.t_ok, Fx.t_exc, Fx.s_nx, Fx.s_rt, Fx.s_exc, Fx.s_bk, Fx.s_ct, Fx.as_val, Fx.as_lst, Fx.as_exc, Fx.o_some, Fx.f_val, Fx.f_lst, Fx.a_v, Fx.a_b, Fx.rb_bl, Fx.rdVar, Fx.argVar, Fx.at0, Fx.at_1, Fx.at_2, Fx.at_3, Fx.at_4, Fx.at_5, Fx.at_6, Fx.at_7, Fx.at_8, Fx.at_9, Fx.at_10, Fx.at_11, Fx.at_12, Fx.cmpP, Fx.g_nil, Fx.g_v, Fx.g_l, Fx.u_b, Fx.u_i, Fx.c_len_t, Fx.c_len_l, Fx.c_abs, Fx.c_int, Fx.c_intb, Fx.c_list_t, Fx.c_list_l, Fx.c_tup_t, Fx.c_tup_l, Fx.c_all, Fx.c_rng1, Fx.c_rng2, Fx.r_i, Fx.r_s, Fx.l_i, Fx.m_lt, Fx.m_gt, Fx.m_le, Fx.m_ge, Fx.m_eq, Fx.m_ne, Fx.m_is, Fx.m_in, Fx.m_ni, Fx.x_t, Fx.x_l, Fx.DefI.fin, Fx.outsA, isiD]
        · simp -implicitDefEqProofs [Fx.evSs, Fx.evS, Fx.evE, Fx.evB, Fx.evAs, Fx.evDs, Fx.evO, Fx.evC, Fx.evI, Fx.teE, Fx.tstA, Fx.asArg, Fx.b_ok, Fx.b_exc, Fx.t_ok, Fx.t_exc, Fx.s_nx, Fx.s_rt, Fx.s_exc, Fx.s_bk, Fx.s_ct, Fx.as_val, Fx.as_lst, Fx.as_exc, Fx.o_some, Fx.f_val, Fx.f_lst, Fx.a_v, Fx.a_b, Fx.rb_bl, Fx.rdVar, Fx.argVar, Fx.at0, Fx.at_1, Fx.at_2, Fx.at_3, Fx.at_4, Fx.at_5, Fx.at_6, Fx.at_7, Fx.at_8, Fx.at_9, Fx.at_10, Fx.at_11, Fx.at_12, Fx.cmpP, Fx.g_nil, Fx.g_v, Fx.g_l, Fx.u_b, Fx.u_i, Fx.c_len_t, Fx.c_len_l, Fx.c_abs, Fx.c_int, Fx.c_intb, Fx.c_list_t, Fx.c_list_l, Fx.c_tup_t, Fx.c_tup_l, Fx.c_all, Fx.c_rng1, Fx.c_rng2, Fx.r_i, Fx.r_s, Fx.l_i, Fx.m_lt, Fx.m_gt, Fx.m_le, Fx.m_ge, Fx.m_eq, Fx.m_ne, Fx.m_is, Fx.m_in, Fx.m_ni, Fx.x_t, Fx.x_l, Fx.DefI.fin, Fx.outsA]
        · simp -implicitDefEqProofs [Fx.evSs, Fx.evS, Fx.evE, Fx.evB, Fx.evAs, Fx.evDs, Fx.evO, Fx.evC, Fx.evI, Fx.teE, Fx.tstA, Fx.asArg, Fx.b_ok, Fx.b_exc, Fx.t_ok, Fx.t_exc, Fx.s_nx, Fx.s_rt, Fx.s_exc, Fx.s_bk, Fx.s_ct, Fx.as_val, Fx.as_lst, Fx.as_exc, Fx.o_some, Fx.f_val, Fx.f_lst, Fx.a_v, Fx.a_b, Fx.rb_bl, Fx.rdVar, Fx.argVar, Fx.at0, Fx.at_1, Fx.at_2, Fx.at_3, Fx.at_4, Fx.at_5, Fx.at_6, Fx.at_7, Fx.at_8, Fx.at_9, Fx.at_10, Fx.at_11, Fx.at_12, Fx.cmpP, Fx.g_nil, Fx.g_v, Fx.g_l, Fx.u_b, Fx.u_i, Fx.c_len_t, Fx.c_len_l, Fx.c_abs, Fx.c_int, Fx.c_intb, Fx.c_list_t, Fx.c_list_l, Fx.c_tup_t, Fx.c_tup_l, Fx.c_all, Fx.c_rng1, Fx.c_rng2, Fx.r_i, Fx.r_s, Fx.l_i, Fx.m_lt, Fx.m_gt, Fx.m_le, Fx.m_ge, Fx.m_eq, Fx.m_ne, Fx.m_is, Fx.m_in, Fx.m_ni, Fx.x_t, Fx.x_l, Fx.DefI.fin, Fx.outsA]
        · have e : (false || (decide ((ds.length : Int) < 1) || decide (5 < (ds.length : Int)))) = !tupR (.tup ds) := by
            show _ = !(decide (1 ≤ ds.length) && decide (ds.length ≤ 5))
            rw [Bool.eq_iff_iff]
            simp only [Bool.false_or, Bool.or_eq_true, decide_eq_true_eq, Bool.not_eq_true', Bool.and_eq_false_iff, decide_eq_false_iff_not]
            omega
          exact congrArg (fun b => Res.ok (R.val (D.bl b)) _) e
      | rng _ _ => cases h2
      | ins _ _ => cases h2
      | _ => rfl
    show ∃ o, d__law_due.fin ((evS md.g (md.Φ (n + 3)) _ [some (.val (.int m)), some (.val rows), none]).thn _) = _
    rw [ifs_t (te_bl rfl q2)]
    cases rows with
    | tup ds =>
      cases qt : tupR (.tup ds) with
      | false =>
        have er : rowsOk (toI (.int m)) (.tup ds) = false := by
          show (decide (1 ≤ ds.length) && decide (ds.length ≤ 5) && ds.all (bunch m)) = false
          have : (decide (1 ≤ ds.length) && decide (ds.length ≤ 5)) = false := qt
          rw [this]; rfl
        rw [er]
        exact ⟨_, rfl⟩
      | true =>
        have qt' : (decide (1 ≤ ds.length) && decide (ds.length ≤ 5)) = true := qt
        have er : rowsOk (toI (.int m)) (.tup ds) = ds.all (bunch m) := by
          show (decide (1 ≤ ds.length) && decide (ds.length ≤ 5) && ds.all (bunch m)) = _
          rw [qt']; rfl
        rw [er]
        simp only [Bool.and_eq_true, decide_eq_true_eq] at qt'
        have hc := comp_pure (g := md.g) (Φ := md.Φ (n + 3)) (ρ := [some (.val (.int m)), some (.val (.tup ds)), none]) (i := 2) (elt := .var 2) (src := .seq (.var 1)) (c := .som (.nt (.call 18 (.cons (.var 2) (.cons (.var 0) .nil)))))
          (ds := ds) (p := fun d => !bunch m d) (q := id) (by simp) (src_t rfl) (Nat.le_trans qt'.2 (by decide)) (fun d hd => by
            have c := fun ρ => call2 (ρ := ρ) (isLot n d m (plains_mem h2 d hd) (hs ds rfl d hd))
            refine te_bl rfl (nt_bl rfl ?_)
            simp -implicitDefEqProofs [Fx.evSs, Fx.evS, Fx.evE, Fx.evB, Fx.evAs, Fx.evDs, Fx.evO, Fx.evC, Fx.evI, Fx.teE, Fx.tstA, Fx.asArg, Fx.b_ok, Fx.b_exc, Fx.t_ok, Fx.t_exc, Fx.s_nx, Fx.s_rt, Fx.s_exc, Fx.s_bk, Fx.s_ct, Fx.as_val, Fx.as_lst, Fx.as_exc, Fx.o_some, Fx.f_val, Fx.f_lst, Fx.a_v, Fx.a_b, Fx.rb_bl, Fx.rdVar, Fx.argVar, Fx.at0, Fx.at_1, Fx.at_2, Fx.at_3, Fx.at_4, Fx.at_5, Fx.at_6, Fx.at_7, Fx.at_8, Fx.at_9, Fx.at_10, Fx.at_11, Fx.at_12, Fx.cmpP, Fx.g_nil, Fx.g_v, Fx.g_l, Fx.u_b, Fx.u_i, Fx.c_len_t, Fx.c_len_l, Fx.c_abs, Fx.c_int, Fx.c_intb, Fx.c_list_t, Fx.c_list_l, Fx.c_tup_t, Fx.c_tup_l, Fx.c_all, Fx.c_rng1, Fx.c_rng2, Fx.r_i, Fx.r_s, Fx.l_i, Fx.m_lt, Fx.m_gt, Fx.m_le, Fx.m_ge, Fx.m_eq, Fx.m_ne, Fx.m_is, Fx.m_in, Fx.m_ni, Fx.x_t, Fx.x_l, Fx.DefI.fin, Fx.outsA, c]) (fun d hd _ => rfl)
        rw [List.map_id] at hc
        have hq := comp_nil hc (op := .NotEq) (b := !(ds.filter fun d => !bunch m d).isEmpty) (by
          show (eqD _ _).map not = _
          rw [eqD_nil (plains_filter h2)]; rfl)
        rw [rows_filter] at hq
        show ∃ o, d__law_due.fin ((evS md.g (md.Φ (n + 3)) _ [some (.val (.int m)), some (.val (.tup ds)), none]).thn _) = _
        rw [ifs_t (te_bl rfl hq)]
        cases ds.all (bunch m) with
        | true => exact ⟨_, rfl⟩
        | false => exact ⟨_, rfl⟩
    | rng _ _ => cases h2
    | ins _ _ => cases h2
    | _ => exact ⟨_, rfl⟩
end K02
end
section
set_option linter.all false
set_option Elab.async false
set_option maxRecDepth 100000
set_option maxHeartbeats 1000000
namespace K02
open Fx
theorem at_l0 {a b : Int} : L2.atI [D.int a, .int b] 0 = some (.int a) := rfl
theorem at_l1 {a b : Int} : L2.atI [D.int a, .int b] 1 = some (.int b) := rfl
theorem ix_l0 : L2.ixN 2 0 = some 0 := rfl
theorem ix_l1 : L2.ixN 2 1 = some 1 := rfl
theorem r_m {i j : Int} (h : 0 < j) : binD .Mod (.int i) (.int j) = some (.val (.int (i % j))) := by
  show (if 0 < j then some (R.val (.int (i % j))) else none) = _
  rw [if_pos h]
theorem r_d {i j : Int} (h : 0 < j) (h2 : j < 1073741824) : binD .FloorDiv (.int i) (.int j) = some (.val (.int (i / j))) := by
  show (if 0 < j ∧ j < 1073741824 then some (R.val (.int (i / j))) else none) = _
  rw [if_pos ⟨h, h2⟩]
theorem r_x {i j : Int} (h : -18446744073709551616 < j) (h2 : j < 18446744073709551616) : binD .Mult (.int i) (.int j) = some (.val (.int (i * j))) := by
  show (if mulOk i j = true then some (R.val (.int (i * j))) else none) = _
  have : mulOk i j = true := by unfold mulOk; simp [h, h2]
  rw [if_pos this]
theorem r_x2 {i j : Int} (h : -18446744073709551616 < i) (h2 : i < 18446744073709551616) : binD .Mult (.int i) (.int j) = some (.val (.int (i * j))) := by
  show (if mulOk i j = true then some (R.val (.int (i * j))) else none) = _
  have : mulOk i j = true := by unfold mulOk; simp [h, h2]
  rw [if_pos this]
/-- a box as it stands -/
def Box (r : R) : Prop := ∃ a b : Int, r = .lst [.int a, .int b]
theorem take_ok (n : Nat) (a b m : Int) (h0 : 0 < m) (h1 : m < 1073741824) : ∃ a' b' r o, md.Φ (n + 1) 9 [.lst [.int a, .int b], .val (.int m)] = .ok (.val (.int r)) (some (.lst [.int a', .int b']) :: o) ∧ 0 ≤ r ∧ r < m := by
  rw [phi (d := d__law_take) rfl rfl]
  show ∃ a' b' r o, d__law_take.fin (evSs md.g (md.Φ n) b__law_take [some (.lst [.int a, .int b]), some (.val (.int m)), none]) = _ ∧ _
  by_cases h : 0 < a
  · refine ⟨a / m, b, a % m, [some (.val (.int m))], ?_, Int.emod_nonneg _ (by omega), Int.emod_lt_of_pos _ h0⟩
    have e : d__law_take.fin (.rt (.val (.int (a % m))) [some (.lst [.int (a / m), .int b]), some (.val (.int m)), none]) = .ok (.val (.int (a % m))) [some (.lst [.int (a / m), .int b]), some (.val (.int m))] := rfl
    rw [← e]
    congr 1
    simp -implicitDefEqProofs [Fx.evSs, Fx.evS, Fx.evE, Fx.evB, Fx.evAs, Fx.evDs, Fx.evO, Fx.evC, Fx.evI, Fx.teE, Fx.tstA, Fx.asArg, Fx.b_ok, Fx.b_exc, Fx.t_ok, Fx.t_exc, Fx.s_nx, Fx.s_rt, Fx.s_exc, Fx.s_bk, Fx.s_ct, Fx.as_val, Fx.as_lst, Fx.as_exc, Fx.o_some, Fx.f_val, Fx.f_lst, Fx.a_v, Fx.a_b, Fx.rb_bl, Fx.rdVar, Fx.argVar, Fx.at0, Fx.at_1, Fx.at_2, Fx.at_3, Fx.at_4, Fx.at_5, Fx.at_6, Fx.at_7, Fx.at_8, Fx.at_9, Fx.at_10, Fx.at_11, Fx.at_12, Fx.cmpP, Fx.g_nil, Fx.g_v, Fx.g_l, Fx.u_b, Fx.u_i, Fx.c_len_t, Fx.c_len_l, Fx.c_abs, Fx.c_int, Fx.c_intb, Fx.c_list_t, Fx.c_list_l, Fx.c_tup_t, Fx.c_tup_l, Fx.c_all, Fx.c_rng1, Fx.c_rng2, Fx.r_i, Fx.r_s, Fx.l_i, Fx.m_lt, Fx.m_gt, Fx.m_le, Fx.m_ge, Fx.m_eq, Fx.m_ne, Fx.m_is, Fx.m_in, Fx.m_ni, Fx.x_t, Fx.x_l, Fx.DefI.fin, Fx.outsA, b__law_take, at_l0, r_m h0, r_d h0 h1, h, ix_l0]
  · refine ⟨a, (b * 39373 + 69621) % 2147483647, ((b * 39373 + 69621) % 2147483647 / 8191) % m, [some (.val (.int m))], ?_, Int.emod_nonneg _ (by omega), Int.emod_lt_of_pos _ h0⟩
    have e : d__law_take.fin (.rt (.val (.int (((b * 39373 + 69621) % 2147483647 / 8191) % m))) [some (.lst [.int a, .int ((b * 39373 + 69621) % 2147483647)]), some (.val (.int m)), none]) = .ok (.val (.int (((b * 39373 + 69621) % 2147483647 / 8191) % m))) [some (.lst [.int a, .int ((b * 39373 + 69621) % 2147483647)]), some (.val (.int m))] := rfl
    rw [← e]
    congr 1
    simp -implicitDefEqProofs [Fx.evSs, Fx.evS, Fx.evE, Fx.evB, Fx.evAs, Fx.evDs, Fx.evO, Fx.evC, Fx.evI, Fx.teE, Fx.tstA, Fx.asArg, Fx.b_ok, Fx.b_exc, Fx.t_ok, Fx.t_exc, Fx.s_nx, Fx.s_rt, Fx.s_exc, Fx.s_bk, Fx.s_ct, Fx.as_val, Fx.as_lst, Fx.as_exc, Fx.o_some, Fx.f_val, Fx.f_lst, Fx.a_v, Fx.a_b, Fx.rb_bl, Fx.rdVar, Fx.argVar, Fx.at0, Fx.at_1, Fx.at_2, Fx.at_3, Fx.at_4, Fx.at_5, Fx.at_6, Fx.at_7, Fx.at_8, Fx.at_9, Fx.at_10, Fx.at_11, Fx.at_12, Fx.cmpP, Fx.g_nil, Fx.g_v, Fx.g_l, Fx.u_b, Fx.u_i, Fx.c_len_t, Fx.c_len_l, Fx.c_abs, Fx.c_int, Fx.c_intb, Fx.c_list_t, Fx.c_list_l, Fx.c_tup_t, Fx.c_tup_l, Fx.c_all, Fx.c_rng1, Fx.c_rng2, Fx.r_i, Fx.r_s, Fx.l_i, Fx.m_lt, Fx.m_gt, Fx.m_le, Fx.m_ge, Fx.m_eq, Fx.m_ne, Fx.m_is, Fx.m_in, Fx.m_ni, Fx.x_t, Fx.x_l, Fx.DefI.fin, Fx.outsA, b__law_take, at_l0, at_l1, r_m, r_d, r_x, h, ix_l0, ix_l1, h0]
theorem call_box {n : Nat} {a b m : Int} {ρ : Env} {i : Nat} (h0 : 0 < m) (h1 : m < 1073741824) (hi : ρ.at i = some (.lst [.int a, .int b])) : ∃ a' b' r, callR (md.Φ (n + 1)) 9 [.b i, .v (.val (.int m))] ρ = .ok (.val (.int r)) (ρ.set i (some (.lst [.int a', .int b']))) ∧ 0 ≤ r ∧ r < m := by
  obtain ⟨a', b', r, o, e, h2, h3⟩ := take_ok n a b m h0 h1
  refine ⟨a', b', r, ?_, h2, h3⟩
  have hh : hand [.b i, .v (.val (.int m))] ρ = some ([.lst [.int a, .int b], .val (.int m)], ρ.set i none) := by
    show (match ρ.at i with
      | some r => (hand [.v (.val (.int m))] (ρ.set i none)).map fun (p : List R × Env) => (r :: p.1, p.2)
      | none => none) = _
    rw [hi]; rfl
  rw [call_v hh e]
  show Res.ok _ ((giveB [.v (.val (.int m))] o (ρ.set i none)).set i _) = _
  have : giveB [.v (.val (.int m))] o (ρ.set i none) = ρ.set i none := by cases o <;> rfl
  rw [this, List.set_set]
theorem at_map {ns : List Int} {k : Int} (h0 : 0 ≤ k) (h1 : k < ns.length) : ∃ x, L2.atI (ns.map D.int) k = some (.int x) := by
  have hk : k.toNat < ns.length := by omega
  refine ⟨ns[k.toNat], ?_⟩
  have e : (ns.map D.int)[k.toNat]? = some (.int ns[k.toNat]) := by rw [List.getElem?_map, List.getElem?_eq_getElem hk]; rfl
  have := at_nat e
  rwa [show ((k.toNat : Nat) : Int) = k by omega] at this
theorem pw : binD .Pow (.int 10) (.int 18) = some (.val (.int 1000000000000000000)) := by
  show (if (0 : Int) ≤ 18 ∧ (18 : Int) ≤ 1000000 ∧ (10 : Int).natAbs < 18446744073709551616 then some (R.val (.int (10 ^ (18 : Int).toNat))) else none) = _
  rw [if_pos (by decide)]
  rfl
theorem at_pick {c : Int} {b : Bool} : ∃ x, L2.atI [D.int 0, .int c] (if b = true then 1 else 0) = some (.int x) := by
  cases b
  · exact ⟨0, rfl⟩
  · exact ⟨c, rfl⟩
theorem box_ok (n : Nat) (ns : List Int) (hl : ns.length ≤ 63) (k : Int) (h0 : 0 ≤ k) (h1 : k ≤ 1000) : ∃ a b o, md.Φ (n + 1) 8 [.val (.lst (ns.map .int)), .val (.int k)] = .ok (.lst [.int a, .int b]) o := by
  have s1 : evS md.g (md.Φ n) (.asg 2 (.bin .Add (.bin .Mult (.cst (.int 7919)) (.var 1)) (.cst (.int 101)))) [some (.val (.lst (ns.map .int))), some (.val (.int k)), none, none] = .nx [some (.val (.lst (ns.map .int))), some (.val (.int k)), some (.val (.int (7919 * k + 101))), none] := by
    simp -implicitDefEqProofs [Fx.evSs, Fx.evS, Fx.evE, Fx.evB, Fx.evAs, Fx.evDs, Fx.evO, Fx.evC, Fx.evI, Fx.teE, Fx.tstA, Fx.asArg, Fx.b_ok, Fx.b_exc, Fx.t_ok, Fx.t_exc, Fx.s_nx, Fx.s_rt, Fx.s_exc, Fx.s_bk, Fx.s_ct, Fx.as_val, Fx.as_lst, Fx.as_exc, Fx.o_some, Fx.f_val, Fx.f_lst, Fx.a_v, Fx.a_b, Fx.rb_bl, Fx.rdVar, Fx.argVar, Fx.at0, Fx.at_1, Fx.at_2, Fx.at_3, Fx.at_4, Fx.at_5, Fx.at_6, Fx.at_7, Fx.at_8, Fx.at_9, Fx.at_10, Fx.at_11, Fx.at_12, Fx.cmpP, Fx.g_nil, Fx.g_v, Fx.g_l, Fx.u_b, Fx.u_i, Fx.c_len_t, Fx.c_len_l, Fx.c_abs, Fx.c_int, Fx.c_intb, Fx.c_list_t, Fx.c_list_l, Fx.c_tup_t, Fx.c_tup_l, Fx.c_all, Fx.c_rng1, Fx.c_rng2, Fx.r_i, Fx.r_s, Fx.l_i, Fx.m_lt, Fx.m_gt, Fx.m_le, Fx.m_ge, Fx.m_eq, Fx.m_ne, Fx.m_is, Fx.m_in, Fx.m_ni, Fx.x_t, Fx.x_l, Fx.DefI.fin, Fx.outsA, r_x2]
  have s2 : ∃ c : Int, evS md.g (md.Φ n) (.ifs (.cmp .Lt (.var 1) (.cb .len (.cons (.var 0) .nil))) (.cons (.asg 2 (.cb .abs (.cons (.idx (.var 0) (.var 1)) .nil))) .nil) (.cons (.ifs (.cmp .Gt (.cb .len (.cons (.var 0) .nil)) (.cst (.int 0))) (.cons (.asg 2 (.bin .Add (.bin .Mult (.bin .Mod (.cb .int (.cons (.cb .abs (.cons (.idx (.var 0) (.bin .Mod (.cb .int (.cons (.var 1) .nil)) (.cb .len (.cons (.var 0) .nil)))) .nil)) .nil)) (.cst (.int 1000000007))) (.cst (.int 31))) (.bin .Mult (.cst (.int 7919)) (.var 1)))) .nil) .nil) .nil))
      [some (.val (.lst (ns.map .int))), some (.val (.int k)), some (.val (.int (7919 * k + 101))), none] = .nx [some (.val (.lst (ns.map .int))), some (.val (.int k)), some (.val (.int c)), none] := by
    by_cases hk : k < (ns.length : Int)
    · obtain ⟨x, hx⟩ := at_map h0 hk
      refine ⟨if x < 0 then -x else x, ?_⟩
      simp -implicitDefEqProofs [Fx.evSs, Fx.evS, Fx.evE, Fx.evB, Fx.evAs, Fx.evDs, Fx.evO, Fx.evC, Fx.evI, Fx.teE, Fx.tstA, Fx.asArg, Fx.b_ok, Fx.b_exc, Fx.t_ok, Fx.t_exc, Fx.s_nx, Fx.s_rt, Fx.s_exc, Fx.s_bk, Fx.s_ct, Fx.as_val, Fx.as_lst, Fx.as_exc, Fx.o_some, Fx.f_val, Fx.f_lst, Fx.a_v, Fx.a_b, Fx.rb_bl, Fx.rdVar, Fx.argVar, Fx.at0, Fx.at_1, Fx.at_2, Fx.at_3, Fx.at_4, Fx.at_5, Fx.at_6, Fx.at_7, Fx.at_8, Fx.at_9, Fx.at_10, Fx.at_11, Fx.at_12, Fx.cmpP, Fx.g_nil, Fx.g_v, Fx.g_l, Fx.u_b, Fx.u_i, Fx.c_len_t, Fx.c_len_l, Fx.c_abs, Fx.c_int, Fx.c_intb, Fx.c_list_t, Fx.c_list_l, Fx.c_tup_t, Fx.c_tup_l, Fx.c_all, Fx.c_rng1, Fx.c_rng2, Fx.r_i, Fx.r_s, Fx.l_i, Fx.m_lt, Fx.m_gt, Fx.m_le, Fx.m_ge, Fx.m_eq, Fx.m_ne, Fx.m_is, Fx.m_in, Fx.m_ni, Fx.x_t, Fx.x_l, Fx.DefI.fin, Fx.outsA, hk, hx]
    · by_cases hn : 0 < (ns.length : Int)
      · obtain ⟨x, hx⟩ := at_map (ns := ns) (k := k % ns.length) (Int.emod_nonneg _ (by omega)) (Int.emod_lt_of_pos _ hn)
        refine ⟨(if x < 0 then -x else x) % 1000000007 * 31 + 7919 * k, ?_⟩
        have hn' : 0 < ns.length := by omega
        simp -implicitDefEqProofs [Fx.evSs, Fx.evS, Fx.evE, Fx.evB, Fx.evAs, Fx.evDs, Fx.evO, Fx.evC, Fx.evI, Fx.teE, Fx.tstA, Fx.asArg, Fx.b_ok, Fx.b_exc, Fx.t_ok, Fx.t_exc, Fx.s_nx, Fx.s_rt, Fx.s_exc, Fx.s_bk, Fx.s_ct, Fx.as_val, Fx.as_lst, Fx.as_exc, Fx.o_some, Fx.f_val, Fx.f_lst, Fx.a_v, Fx.a_b, Fx.rb_bl, Fx.rdVar, Fx.argVar, Fx.at0, Fx.at_1, Fx.at_2, Fx.at_3, Fx.at_4, Fx.at_5, Fx.at_6, Fx.at_7, Fx.at_8, Fx.at_9, Fx.at_10, Fx.at_11, Fx.at_12, Fx.cmpP, Fx.g_nil, Fx.g_v, Fx.g_l, Fx.u_b, Fx.u_i, Fx.c_len_t, Fx.c_len_l, Fx.c_abs, Fx.c_int, Fx.c_intb, Fx.c_list_t, Fx.c_list_l, Fx.c_tup_t, Fx.c_tup_l, Fx.c_all, Fx.c_rng1, Fx.c_rng2, Fx.r_i, Fx.r_s, Fx.l_i, Fx.m_lt, Fx.m_gt, Fx.m_le, Fx.m_ge, Fx.m_eq, Fx.m_ne, Fx.m_is, Fx.m_in, Fx.m_ni, Fx.x_t, Fx.x_l, Fx.DefI.fin, Fx.outsA, hk, hn, hn', hx, r_m, r_x, r_x2]
      · refine ⟨7919 * k + 101, ?_⟩
        have hn' : ¬ 0 < ns.length := by omega
        simp -implicitDefEqProofs [Fx.evSs, Fx.evS, Fx.evE, Fx.evB, Fx.evAs, Fx.evDs, Fx.evO, Fx.evC, Fx.evI, Fx.teE, Fx.tstA, Fx.asArg, Fx.b_ok, Fx.b_exc, Fx.t_ok, Fx.t_exc, Fx.s_nx, Fx.s_rt, Fx.s_exc, Fx.s_bk, Fx.s_ct, Fx.as_val, Fx.as_lst, Fx.as_exc, Fx.o_some, Fx.f_val, Fx.f_lst, Fx.a_v, Fx.a_b, Fx.rb_bl, Fx.rdVar, Fx.argVar, Fx.at0, Fx.at_1, Fx.at_2, Fx.at_3, Fx.at_4, Fx.at_5, Fx.at_6, Fx.at_7, Fx.at_8, Fx.at_9, Fx.at_10, Fx.at_11, Fx.at_12, Fx.cmpP, Fx.g_nil, Fx.g_v, Fx.g_l, Fx.u_b, Fx.u_i, Fx.c_len_t, Fx.c_len_l, Fx.c_abs, Fx.c_int, Fx.c_intb, Fx.c_list_t, Fx.c_list_l, Fx.c_tup_t, Fx.c_tup_l, Fx.c_all, Fx.c_rng1, Fx.c_rng2, Fx.r_i, Fx.r_s, Fx.l_i, Fx.m_lt, Fx.m_gt, Fx.m_le, Fx.m_ge, Fx.m_eq, Fx.m_ne, Fx.m_is, Fx.m_in, Fx.m_ni, Fx.x_t, Fx.x_l, Fx.DefI.fin, Fx.outsA, hk, hn, hn']
  obtain ⟨c, s2⟩ := s2
  obtain ⟨x, hx⟩ := at_pick (c := c) (b := !decide (c < 1000000000000000000))
  have s3 : evS md.g (md.Φ n) (.asg 3 (.idx (.lst (.cons (.cst (.int 0)) (.cons (.var 2) .nil))) (.cb .int (.cons (.cmp .GtE (.var 2) (.bin .Pow (.cst (.int 10)) (.cst (.int 18)))) .nil)))) [some (.val (.lst (ns.map .int))), some (.val (.int k)), some (.val (.int c)), none] = .nx [some (.val (.lst (ns.map .int))), some (.val (.int k)), some (.val (.int c)), some (.val (.int x))] := by
    simp at hx
    simp -implicitDefEqProofs [Fx.evSs, Fx.evS, Fx.evE, Fx.evB, Fx.evAs, Fx.evDs, Fx.evO, Fx.evC, Fx.evI, Fx.teE, Fx.tstA, Fx.asArg, Fx.b_ok, Fx.b_exc, Fx.t_ok, Fx.t_exc, Fx.s_nx, Fx.s_rt, Fx.s_exc, Fx.s_bk, Fx.s_ct, Fx.as_val, Fx.as_lst, Fx.as_exc, Fx.o_some, Fx.f_val, Fx.f_lst, Fx.a_v, Fx.a_b, Fx.rb_bl, Fx.rdVar, Fx.argVar, Fx.at0, Fx.at_1, Fx.at_2, Fx.at_3, Fx.at_4, Fx.at_5, Fx.at_6, Fx.at_7, Fx.at_8, Fx.at_9, Fx.at_10, Fx.at_11, Fx.at_12, Fx.cmpP, Fx.g_nil, Fx.g_v, Fx.g_l, Fx.u_b, Fx.u_i, Fx.c_len_t, Fx.c_len_l, Fx.c_abs, Fx.c_int, Fx.c_intb, Fx.c_list_t, Fx.c_list_l, Fx.c_tup_t, Fx.c_tup_l, Fx.c_all, Fx.c_rng1, Fx.c_rng2, Fx.r_i, Fx.r_s, Fx.l_i, Fx.m_lt, Fx.m_gt, Fx.m_le, Fx.m_ge, Fx.m_eq, Fx.m_ne, Fx.m_is, Fx.m_in, Fx.m_ni, Fx.x_t, Fx.x_l, Fx.DefI.fin, Fx.outsA, pw, LINE, hx]
  have s4 : evSs md.g (md.Φ n) (.cons (.ret (.lst (.cons (.var 3) (.cons (.bin .Add (.bin .Mod (.cb .int (.cons (.bin .Add (.bin .Mult (.bin .Mod (.cb .int (.cons (.var 2) .nil)) (.cst (.int 1000000007))) (.cst (.int 48271))) (.bin .Mult (.cst (.int 613)) (.var 1))) .nil)) (.cst (.int 2147483647))) (.cst (.int 1))) .nil)))) .nil) [some (.val (.lst (ns.map .int))), some (.val (.int k)), some (.val (.int c)), some (.val (.int x))] =
      .rt (.lst [.int x, .int ((c % 1000000007 * 48271 + 613 * k) % 2147483647 + 1)]) [some (.val (.lst (ns.map .int))), some (.val (.int k)), some (.val (.int c)), some (.val (.int x))] := by
    simp -implicitDefEqProofs [Fx.evSs, Fx.evS, Fx.evE, Fx.evB, Fx.evAs, Fx.evDs, Fx.evO, Fx.evC, Fx.evI, Fx.teE, Fx.tstA, Fx.asArg, Fx.b_ok, Fx.b_exc, Fx.t_ok, Fx.t_exc, Fx.s_nx, Fx.s_rt, Fx.s_exc, Fx.s_bk, Fx.s_ct, Fx.as_val, Fx.as_lst, Fx.as_exc, Fx.o_some, Fx.f_val, Fx.f_lst, Fx.a_v, Fx.a_b, Fx.rb_bl, Fx.rdVar, Fx.argVar, Fx.at0, Fx.at_1, Fx.at_2, Fx.at_3, Fx.at_4, Fx.at_5, Fx.at_6, Fx.at_7, Fx.at_8, Fx.at_9, Fx.at_10, Fx.at_11, Fx.at_12, Fx.cmpP, Fx.g_nil, Fx.g_v, Fx.g_l, Fx.u_b, Fx.u_i, Fx.c_len_t, Fx.c_len_l, Fx.c_abs, Fx.c_int, Fx.c_intb, Fx.c_list_t, Fx.c_list_l, Fx.c_tup_t, Fx.c_tup_l, Fx.c_all, Fx.c_rng1, Fx.c_rng2, Fx.r_i, Fx.r_s, Fx.l_i, Fx.m_lt, Fx.m_gt, Fx.m_le, Fx.m_ge, Fx.m_eq, Fx.m_ne, Fx.m_is, Fx.m_in, Fx.m_ni, Fx.x_t, Fx.x_l, Fx.DefI.fin, Fx.outsA, r_m, r_x, r_x2, LINE]
  have e : evSs md.g (md.Φ n) b__law_box [some (.val (.lst (ns.map .int))), some (.val (.int k)), none, none] = .rt (.lst [.int x, .int ((c % 1000000007 * 48271 + 613 * k) % 2147483647 + 1)]) [some (.val (.lst (ns.map .int))), some (.val (.int k)), some (.val (.int c)), some (.val (.int x))] := by
    show (evS md.g (md.Φ n) _ _).thn (fun ρ => (evS md.g (md.Φ n) _ ρ).thn fun ρ => (evS md.g (md.Φ n) _ ρ).thn fun ρ => evSs md.g (md.Φ n) _ ρ) = _
    rw [s1, s_nx, s2, s_nx, s3, s_nx]
    exact s4
  obtain ⟨o, e⟩ := phi_rt (md := md) (n := n) (f := 8) (d := d__law_box) (rs := [.val (.lst (ns.map .int)), .val (.int k)]) rfl rfl e
  exact ⟨_, _, o, e⟩
/-- one of a row is picked -/
theorem pick_ok (n : Nat) (a b : Int) (ds : List D) (hp : 0 < ds.length) (hl : ds.length < 1073741824) : ∃ a' b' o, ∃ d ∈ ds, md.Φ (n + 2) 10 [.lst [.int a, .int b], .val (.lst ds)] = .ok (.val d) (some (.lst [.int a', .int b']) :: o) := by
  obtain ⟨a', b', r, c, h2, h3⟩ := call_box (n := n) (a := a) (b := b) (m := ds.length) (ρ := [some (.lst [.int a, .int b]), some (.val (.lst ds))]) (i := 0) (by omega) (by omega) rfl
  have hr : r.toNat < ds.length := by omega
  refine ⟨a', b', [some (.val (.lst ds))], ds[r.toNat], List.getElem_mem hr, ?_⟩
  have hx : L2.atI ds r = some ds[r.toNat] := by
    have := at_nat (List.getElem?_eq_getElem hr)
    rwa [show ((r.toNat : Nat) : Int) = r by omega] at this
  rw [phi (d := d__law_pick) rfl rfl]
  have e : evSs md.g (md.Φ (n + 1)) b__law_pick [some (.lst [.int a, .int b]), some (.val (.lst ds))] = .rt (.val ds[r.toNat]) [some (.lst [.int a', .int b']), some (.val (.lst ds))] := by
    simp -implicitDefEqProofs [Fx.evSs, Fx.evS, Fx.evE, Fx.evB, Fx.evAs, Fx.evDs, Fx.evO, Fx.evC, Fx.evI, Fx.teE, Fx.tstA, Fx.asArg, Fx.b_ok, Fx.b_exc, Fx.t_ok, Fx.t_exc, Fx.s_nx, Fx.s_rt, Fx.s_exc, Fx.s_bk, Fx.s_ct, Fx.as_val, Fx.as_lst, Fx.as_exc, Fx.o_some, Fx.f_val, Fx.f_lst, Fx.a_v, Fx.a_b, Fx.rb_bl, Fx.rdVar, Fx.argVar, Fx.at0, Fx.at_1, Fx.at_2, Fx.at_3, Fx.at_4, Fx.at_5, Fx.at_6, Fx.at_7, Fx.at_8, Fx.at_9, Fx.at_10, Fx.at_11, Fx.at_12, Fx.cmpP, Fx.g_nil, Fx.g_v, Fx.g_l, Fx.u_b, Fx.u_i, Fx.c_len_t, Fx.c_len_l, Fx.c_abs, Fx.c_int, Fx.c_intb, Fx.c_list_t, Fx.c_list_l, Fx.c_tup_t, Fx.c_tup_l, Fx.c_all, Fx.c_rng1, Fx.c_rng2, Fx.r_i, Fx.r_s, Fx.l_i, Fx.m_lt, Fx.m_gt, Fx.m_le, Fx.m_ge, Fx.m_eq, Fx.m_ne, Fx.m_is, Fx.m_in, Fx.m_ni, Fx.x_t, Fx.x_l, Fx.DefI.fin, Fx.outsA, b__law_pick, c, hx]
  show d__law_pick.fin (evSs md.g (md.Φ (n + 1)) b__law_pick [some (.lst [.int a, .int b]), some (.val (.lst ds))]) = _
  rw [e]; rfl
end K02
end
section
set_option linter.all false
set_option Elab.async false
set_option maxRecDepth 100000
set_option maxHeartbeats 1000000
namespace K02
open Fx
theorem isDueB (n : Nat) (a b : Bool) : ∃ o, md.Φ (n + 1) 13 [.val (.bl a), .val (.bl b)] = .ok (.val (.bl (a == b))) o := by
  cases a <;> cases b <;> exact ⟨_, rfl⟩
/-- rows of numbers -/
def Rows (rs : List D) : Prop := rs.length ≤ 5 ∧ ∀ r ∈ rs, ∃ ds, r = .tup ds ∧ D.plains ds = true
def rowAt (rs : List D) (e : D) : List D := match rs[(toI e).toNat]? with
  | some (.tup r) => r
  | _ => []
def miss (rs : List D) (d e : D) : Bool := !(rowAt rs e).any fun y => y.eqv d
def pairs (m : Int) (rs : List D) : List D := (rngL 0 m).flatMap fun d => ((rngL 0 rs.length).filter (miss rs d)).map fun e => .tup [d, e]
theorem rngOk0 {n : Int} (h0 : 0 ≤ n) (h1 : n ≤ 16777216) : rngOk 0 n = true := by
  unfold rngOk; simp; omega
theorem mem_rng0 {n : Int} {d : D} (h : d ∈ rngL 0 n) : ∃ k : Nat, (k : Int) < n ∧ d = .int k := by
  obtain ⟨k, hk, rfl⟩ := mem_rng h
  exact ⟨k, by omega, by rw [Int.zero_add]⟩
theorem row_get {rs : List D} (h : Rows rs) {k : Nat} (hk : k < rs.length) : ∃ ds, L2.atI rs (k : Int) = some (.tup ds) ∧ D.plains ds = true ∧ rowAt rs (.int k) = ds := by
  obtain ⟨ds, e, hp⟩ := h.2 rs[k] (List.getElem_mem hk)
  have eg : rs[k]? = some (.tup ds) := by rw [List.getElem?_eq_getElem hk, e]
  refine ⟨ds, at_nat eg, hp, ?_⟩
  unfold rowAt
  show (match rs[((k : Nat) : Int).toNat]? with
    | some (.tup r) => r
    | _ => []) = ds
  rw [Int.toNat_natCast, eg]
theorem inD_int {i : Int} {ds : List D} (h : D.plains ds = true) : cmpD .NotIn (.int i) (.tup ds) = some (!ds.any fun y => y.eqv (.int i)) := by
  show (inD (.int i) (.tup ds)).map not = _
  show (if ((D.plain (.int i) && D.plains ds && decide (min (D.depths ds) (D.depth (.int i)) ≤ 40)) = true) then some (ds.any fun y => y.eqv (.int i)) else none).map not = _
  have : min (D.depths ds) (D.depth (.int i)) ≤ 40 := Nat.le_trans (Nat.min_le_right _ _) (by show 0 ≤ 40; omega)
  rw [if_pos (by rw [h]; simp [D.plain, this])]
  rfl
theorem at_a0 {c : Nat} {a b : D} : attrO md.g 0 (.val (.ins 0 [a, b])) = some a := rfl
theorem at_a1 {c : Nat} {a b : D} : attrO md.g 1 (.val (.ins 0 [a, b])) = some b := rfl
theorem outs_ok (n : Nat) (m : Int) (rs : List D) (h0 : 0 ≤ m) (h1 : m ≤ 5) (h : Rows rs) : ∃ o, md.Φ (n + 1) 7 [.val (.ins 0 [.int m, .tup rs])] = .ok (.val (.tup (pairs m rs))) o := by
  have hl := h.1
  have s1 : evS md.g (md.Φ n) (.asg 1 (.cb .range (.cons (.cb .len (.cons (.attr (.var 0) 1) .nil)) .nil))) [some (.val (.ins 0 [.int m, .tup rs])), none, none, none] = .nx [some (.val (.ins 0 [.int m, .tup rs])), some (.val (.rng 0 rs.length)), none, none] := by
    simp -implicitDefEqProofs [Fx.evSs, Fx.evS, Fx.evE, Fx.evB, Fx.evAs, Fx.evDs, Fx.evO, Fx.evC, Fx.evI, Fx.teE, Fx.tstA, Fx.asArg, Fx.b_ok, Fx.b_exc, Fx.t_ok, Fx.t_exc, Fx.s_nx, Fx.s_rt, Fx.s_exc, Fx.s_bk, Fx.s_ct, Fx.as_val, Fx.as_lst, Fx.as_exc, Fx.o_some, Fx.f_val, Fx.f_lst, Fx.a_v, Fx.a_b, Fx.rb_bl, Fx.rdVar, Fx.argVar, Fx.at0, Fx.at_1, Fx.at_2, Fx.at_3, Fx.at_4, Fx.at_5, Fx.at_6, Fx.at_7, Fx.at_8, Fx.at_9, Fx.at_10, Fx.at_11, Fx.at_12, Fx.cmpP, Fx.g_nil, Fx.g_v, Fx.g_l, Fx.u_b, Fx.u_i, Fx.c_len_t, Fx.c_len_l, Fx.c_abs, Fx.c_int, Fx.c_intb, Fx.c_list_t, Fx.c_list_l, Fx.c_tup_t, Fx.c_tup_l, Fx.c_all, Fx.c_rng1, Fx.c_rng2, Fx.r_i, Fx.r_s, Fx.l_i, Fx.m_lt, Fx.m_gt, Fx.m_le, Fx.m_ge, Fx.m_eq, Fx.m_ne, Fx.m_is, Fx.m_in, Fx.m_ni, Fx.x_t, Fx.x_l, Fx.DefI.fin, Fx.outsA, at_a1 (c := 0)]
  have hc := comp2_pure (g := md.g) (Φ := md.Φ n) (ρ := [some (.val (.ins 0 [.int m, .tup rs])), some (.val (.rng 0 rs.length)), none, none]) (i := 2) (j := 3) (elt := .tup (.cons (.var 2) (.cons (.var 3) .nil))) (src := .seq (.cb .range (.cons (.attr (.var 0) 0) .nil))) (src1 := .seq (.var 1))
    (c := .som (.cmp .NotIn (.var 2) (.idx (.attr (.var 0) 1) (.var 3)))) (ds := rngL 0 m) (es := fun _ => rngL 0 rs.length) (p := miss rs) (q := fun d e => .tup [d, e]) (by decide) (by simp) (by simp)
    (by simp -implicitDefEqProofs [Fx.evSs, Fx.evS, Fx.evE, Fx.evB, Fx.evAs, Fx.evDs, Fx.evO, Fx.evC, Fx.evI, Fx.teE, Fx.tstA, Fx.asArg, Fx.b_ok, Fx.b_exc, Fx.t_ok, Fx.t_exc, Fx.s_nx, Fx.s_rt, Fx.s_exc, Fx.s_bk, Fx.s_ct, Fx.as_val, Fx.as_lst, Fx.as_exc, Fx.o_some, Fx.f_val, Fx.f_lst, Fx.a_v, Fx.a_b, Fx.rb_bl, Fx.rdVar, Fx.argVar, Fx.at0, Fx.at_1, Fx.at_2, Fx.at_3, Fx.at_4, Fx.at_5, Fx.at_6, Fx.at_7, Fx.at_8, Fx.at_9, Fx.at_10, Fx.at_11, Fx.at_12, Fx.cmpP, Fx.g_nil, Fx.g_v, Fx.g_l, Fx.u_b, Fx.u_i, Fx.c_len_t, Fx.c_len_l, Fx.c_abs, Fx.c_int, Fx.c_intb, Fx.c_list_t, Fx.c_list_l, Fx.c_tup_t, Fx.c_tup_l, Fx.c_all, Fx.c_rng1, Fx.c_rng2, Fx.r_i, Fx.r_s, Fx.l_i, Fx.m_lt, Fx.m_gt, Fx.m_le, Fx.m_ge, Fx.m_eq, Fx.m_ne, Fx.m_is, Fx.m_in, Fx.m_ni, Fx.x_t, Fx.x_l, Fx.DefI.fin, Fx.outsA, at_a0 (c := 0)]; exact rngOk0 h0 (by omega))
    (by
      rw [List.length_flatMap]
      simp only [rng_len]
      have e : (List.map (fun _ : D => ((rs.length : Int) - 0).toNat) (rngL 0 m)).sum = (rngL 0 m).length * rs.length := by
        have : ((rs.length : Int) - 0).toNat = rs.length := by omega
        rw [this]
        have key : ∀ l : List D, (List.map (fun _ : D => rs.length) l).sum = l.length * rs.length := by
          intro l
          induction l with
          | nil => simp
          | cons x l ih => rw [List.map_cons, List.sum_cons, ih, List.length_cons, Nat.succ_mul, Nat.add_comm]
        exact key _
      rw [e, rng_len]
      have : (m - 0).toNat * rs.length ≤ 5 * 5 := Nat.mul_le_mul (by omega) hl
      show _ ≤ 16777216
      omega)
    (fun d hd => by simp -implicitDefEqProofs [Fx.evSs, Fx.evS, Fx.evE, Fx.evB, Fx.evAs, Fx.evDs, Fx.evO, Fx.evC, Fx.evI, Fx.teE, Fx.tstA, Fx.asArg, Fx.b_ok, Fx.b_exc, Fx.t_ok, Fx.t_exc, Fx.s_nx, Fx.s_rt, Fx.s_exc, Fx.s_bk, Fx.s_ct, Fx.as_val, Fx.as_lst, Fx.as_exc, Fx.o_some, Fx.f_val, Fx.f_lst, Fx.a_v, Fx.a_b, Fx.rb_bl, Fx.rdVar, Fx.argVar, Fx.at0, Fx.at_1, Fx.at_2, Fx.at_3, Fx.at_4, Fx.at_5, Fx.at_6, Fx.at_7, Fx.at_8, Fx.at_9, Fx.at_10, Fx.at_11, Fx.at_12, Fx.cmpP, Fx.g_nil, Fx.g_v, Fx.g_l, Fx.u_b, Fx.u_i, Fx.c_len_t, Fx.c_len_l, Fx.c_abs, Fx.c_int, Fx.c_intb, Fx.c_list_t, Fx.c_list_l, Fx.c_tup_t, Fx.c_tup_l, Fx.c_all, Fx.c_rng1, Fx.c_rng2, Fx.r_i, Fx.r_s, Fx.l_i, Fx.m_lt, Fx.m_gt, Fx.m_le, Fx.m_ge, Fx.m_eq, Fx.m_ne, Fx.m_is, Fx.m_in, Fx.m_ni, Fx.x_t, Fx.x_l, Fx.DefI.fin, Fx.outsA]; exact rngOk0 (by omega) (by omega))
    (fun d hd e he => by
      obtain ⟨k, hk, rfl⟩ := mem_rng0 hd
      obtain ⟨l, hl2, rfl⟩ := mem_rng0 he
      obtain ⟨ds, g1, g2, g3⟩ := row_get h (k := l) (by omega)
      refine te_bl rfl ?_
      have q := inD_int (i := (k : Int)) g2
      have em : miss rs (.int k) (.int l) = !ds.any fun y => y.eqv (.int k) := by unfold miss; rw [g3]
      rw [em]
      simp -implicitDefEqProofs [Fx.evSs, Fx.evS, Fx.evE, Fx.evB, Fx.evAs, Fx.evDs, Fx.evO, Fx.evC, Fx.evI, Fx.teE, Fx.tstA, Fx.asArg, Fx.b_ok, Fx.b_exc, Fx.t_ok, Fx.t_exc, Fx.s_nx, Fx.s_rt, Fx.s_exc, Fx.s_bk, Fx.s_ct, Fx.as_val, Fx.as_lst, Fx.as_exc, Fx.o_some, Fx.f_val, Fx.f_lst, Fx.a_v, Fx.a_b, Fx.rb_bl, Fx.rdVar, Fx.argVar, Fx.at0, Fx.at_1, Fx.at_2, Fx.at_3, Fx.at_4, Fx.at_5, Fx.at_6, Fx.at_7, Fx.at_8, Fx.at_9, Fx.at_10, Fx.at_11, Fx.at_12, Fx.cmpP, Fx.g_nil, Fx.g_v, Fx.g_l, Fx.u_b, Fx.u_i, Fx.c_len_t, Fx.c_len_l, Fx.c_abs, Fx.c_int, Fx.c_intb, Fx.c_list_t, Fx.c_list_l, Fx.c_tup_t, Fx.c_tup_l, Fx.c_all, Fx.c_rng1, Fx.c_rng2, Fx.r_i, Fx.r_s, Fx.l_i, Fx.m_lt, Fx.m_gt, Fx.m_le, Fx.m_ge, Fx.m_eq, Fx.m_ne, Fx.m_is, Fx.m_in, Fx.m_ni, Fx.x_t, Fx.x_l, Fx.DefI.fin, Fx.outsA, at_a1 (c := 0), g1]
      have q2 : (inD (.int k) (.tup ds)).map not = some (!ds.any fun y => y.eqv (.int k)) := q
      rw [q2])
    (fun d hd e he _ => by simp -implicitDefEqProofs [Fx.evSs, Fx.evS, Fx.evE, Fx.evB, Fx.evAs, Fx.evDs, Fx.evO, Fx.evC, Fx.evI, Fx.teE, Fx.tstA, Fx.asArg, Fx.b_ok, Fx.b_exc, Fx.t_ok, Fx.t_exc, Fx.s_nx, Fx.s_rt, Fx.s_exc, Fx.s_bk, Fx.s_ct, Fx.as_val, Fx.as_lst, Fx.as_exc, Fx.o_some, Fx.f_val, Fx.f_lst, Fx.a_v, Fx.a_b, Fx.rb_bl, Fx.rdVar, Fx.argVar, Fx.at0, Fx.at_1, Fx.at_2, Fx.at_3, Fx.at_4, Fx.at_5, Fx.at_6, Fx.at_7, Fx.at_8, Fx.at_9, Fx.at_10, Fx.at_11, Fx.at_12, Fx.cmpP, Fx.g_nil, Fx.g_v, Fx.g_l, Fx.u_b, Fx.u_i, Fx.c_len_t, Fx.c_len_l, Fx.c_abs, Fx.c_int, Fx.c_intb, Fx.c_list_t, Fx.c_list_l, Fx.c_tup_t, Fx.c_tup_l, Fx.c_all, Fx.c_rng1, Fx.c_rng2, Fx.r_i, Fx.r_s, Fx.l_i, Fx.m_lt, Fx.m_gt, Fx.m_le, Fx.m_ge, Fx.m_eq, Fx.m_ne, Fx.m_is, Fx.m_in, Fx.m_ni, Fx.x_t, Fx.x_l, Fx.DefI.fin, Fx.outsA, LINE])
  rw [phi (d := d_outs) rfl rfl]
  refine ⟨[some (.val (.ins 0 [.int m, .tup rs]))], ?_⟩
  have e : evSs md.g (md.Φ n) b_outs [some (.val (.ins 0 [.int m, .tup rs])), none, none, none] = .rt (.val (.tup (pairs m rs))) [some (.val (.ins 0 [.int m, .tup rs])), some (.val (.rng 0 rs.length)), none, none] := by
    show (evS md.g (md.Φ n) _ _).thn (fun ρ => evSs md.g (md.Φ n) _ ρ) = _
    rw [s1, s_nx]
    show (((asArg _ _ (evE md.g (md.Φ n) (.comp2 _ _ _ _ _ _ _ _) _)).bind _).bind _ |>.thn _).thn _ = _
    rw [hc]
    rfl
  show d_outs.fin (evSs md.g (md.Φ n) b_outs [some (.val (.ins 0 [.int m, .tup rs])), none, none, none]) = _
  rw [e]; rfl
def lob : ISs := (.cons (.asg 3 (.bin .Add (.var 3) (.comp (.tup (.cons (.var 4) (.cons (.var 5) .nil))) [5] (.one 5) (.seq (.cb .range (.cons (.cb .len (.cons (.var 2) .nil)) .nil))) (.som (.cmp .NotIn (.var 4) (.idx (.var 2) (.var 5))))))) .nil)
theorem louts_ok (n : Nat) (m : Int) (rs : List D) (h0 : 0 ≤ m) (h1 : m ≤ 5) (h : Rows rs) : ∃ o, md.Φ (n + 1) 17 [.val (.tup [.int m, .tup rs])] = .ok (.lst (pairs m rs)) o := by
  have hl := h.1
  have body : ∀ (d : D) (acc : List D) (x : Option R), d ∈ rngL 0 m → acc.length ≤ 1000 → evSs md.g (md.Φ n) lob [some (.val (.tup [.int m, .tup rs])), some (.val (.int m)), some (.val (.tup rs)), some (.lst acc), some (.val d), none] =
      .nx [some (.val (.tup [.int m, .tup rs])), some (.val (.int m)), some (.val (.tup rs)), some (.lst (acc ++ ((rngL 0 rs.length).filter (miss rs d)).map fun e => .tup [d, e])), some (.val d), none] := by
    intro d acc x hd ha
    obtain ⟨k, hk, rfl⟩ := mem_rng0 hd
    have hc := comp_pure (g := md.g) (Φ := md.Φ n) (ρ := [some (.val (.tup [.int m, .tup rs])), some (.val (.int m)), some (.val (.tup rs)), some (.lst acc), some (.val (.int k)), none]) (i := 5) (elt := .tup (.cons (.var 4) (.cons (.var 5) .nil))) (src := .seq (.cb .range (.cons (.cb .len (.cons (.var 2) .nil)) .nil))) (c := .som (.cmp .NotIn (.var 4) (.idx (.var 2) (.var 5))))
      (ds := rngL 0 rs.length) (p := miss rs (.int k)) (q := fun e => .tup [.int k, e]) (by simp) (by simp -implicitDefEqProofs [Fx.evSs, Fx.evS, Fx.evE, Fx.evB, Fx.evAs, Fx.evDs, Fx.evO, Fx.evC, Fx.evI, Fx.teE, Fx.tstA, Fx.asArg, Fx.b_ok, Fx.b_exc, Fx.t_ok, Fx.t_exc, Fx.s_nx, Fx.s_rt, Fx.s_exc, Fx.s_bk, Fx.s_ct, Fx.as_val, Fx.as_lst, Fx.as_exc, Fx.o_some, Fx.f_val, Fx.f_lst, Fx.a_v, Fx.a_b, Fx.rb_bl, Fx.rdVar, Fx.argVar, Fx.at0, Fx.at_1, Fx.at_2, Fx.at_3, Fx.at_4, Fx.at_5, Fx.at_6, Fx.at_7, Fx.at_8, Fx.at_9, Fx.at_10, Fx.at_11, Fx.at_12, Fx.cmpP, Fx.g_nil, Fx.g_v, Fx.g_l, Fx.u_b, Fx.u_i, Fx.c_len_t, Fx.c_len_l, Fx.c_abs, Fx.c_int, Fx.c_intb, Fx.c_list_t, Fx.c_list_l, Fx.c_tup_t, Fx.c_tup_l, Fx.c_all, Fx.c_rng1, Fx.c_rng2, Fx.r_i, Fx.r_s, Fx.l_i, Fx.m_lt, Fx.m_gt, Fx.m_le, Fx.m_ge, Fx.m_eq, Fx.m_ne, Fx.m_is, Fx.m_in, Fx.m_ni, Fx.x_t, Fx.x_l, Fx.DefI.fin, Fx.outsA]; exact rngOk0 (by omega) (by omega)) (by rw [rng_len]; show _ ≤ 16777216; omega)
      (fun e he => by
        obtain ⟨l, hl2, rfl⟩ := mem_rng0 he
        obtain ⟨ds, g1, g2, g3⟩ := row_get h (k := l) (by omega)
        refine te_bl rfl ?_
        have q := inD_int (i := (k : Int)) g2
        have em : miss rs (.int k) (.int l) = !ds.any fun y => y.eqv (.int k) := by unfold miss; rw [g3]
        rw [em]
        simp -implicitDefEqProofs [Fx.evSs, Fx.evS, Fx.evE, Fx.evB, Fx.evAs, Fx.evDs, Fx.evO, Fx.evC, Fx.evI, Fx.teE, Fx.tstA, Fx.asArg, Fx.b_ok, Fx.b_exc, Fx.t_ok, Fx.t_exc, Fx.s_nx, Fx.s_rt, Fx.s_exc, Fx.s_bk, Fx.s_ct, Fx.as_val, Fx.as_lst, Fx.as_exc, Fx.o_some, Fx.f_val, Fx.f_lst, Fx.a_v, Fx.a_b, Fx.rb_bl, Fx.rdVar, Fx.argVar, Fx.at0, Fx.at_1, Fx.at_2, Fx.at_3, Fx.at_4, Fx.at_5, Fx.at_6, Fx.at_7, Fx.at_8, Fx.at_9, Fx.at_10, Fx.at_11, Fx.at_12, Fx.cmpP, Fx.g_nil, Fx.g_v, Fx.g_l, Fx.u_b, Fx.u_i, Fx.c_len_t, Fx.c_len_l, Fx.c_abs, Fx.c_int, Fx.c_intb, Fx.c_list_t, Fx.c_list_l, Fx.c_tup_t, Fx.c_tup_l, Fx.c_all, Fx.c_rng1, Fx.c_rng2, Fx.r_i, Fx.r_s, Fx.l_i, Fx.m_lt, Fx.m_gt, Fx.m_le, Fx.m_ge, Fx.m_eq, Fx.m_ne, Fx.m_is, Fx.m_in, Fx.m_ni, Fx.x_t, Fx.x_l, Fx.DefI.fin, Fx.outsA, g1]
        have q2 : (inD (.int k) (.tup ds)).map not = some (!ds.any fun y => y.eqv (.int k)) := q
        rw [q2])
      (fun e he _ => by simp -implicitDefEqProofs [Fx.evSs, Fx.evS, Fx.evE, Fx.evB, Fx.evAs, Fx.evDs, Fx.evO, Fx.evC, Fx.evI, Fx.teE, Fx.tstA, Fx.asArg, Fx.b_ok, Fx.b_exc, Fx.t_ok, Fx.t_exc, Fx.s_nx, Fx.s_rt, Fx.s_exc, Fx.s_bk, Fx.s_ct, Fx.as_val, Fx.as_lst, Fx.as_exc, Fx.o_some, Fx.f_val, Fx.f_lst, Fx.a_v, Fx.a_b, Fx.rb_bl, Fx.rdVar, Fx.argVar, Fx.at0, Fx.at_1, Fx.at_2, Fx.at_3, Fx.at_4, Fx.at_5, Fx.at_6, Fx.at_7, Fx.at_8, Fx.at_9, Fx.at_10, Fx.at_11, Fx.at_12, Fx.cmpP, Fx.g_nil, Fx.g_v, Fx.g_l, Fx.u_b, Fx.u_i, Fx.c_len_t, Fx.c_len_l, Fx.c_abs, Fx.c_int, Fx.c_intb, Fx.c_list_t, Fx.c_list_l, Fx.c_tup_t, Fx.c_tup_l, Fx.c_all, Fx.c_rng1, Fx.c_rng2, Fx.r_i, Fx.r_s, Fx.l_i, Fx.m_lt, Fx.m_gt, Fx.m_le, Fx.m_ge, Fx.m_eq, Fx.m_ne, Fx.m_is, Fx.m_in, Fx.m_ni, Fx.x_t, Fx.x_l, Fx.DefI.fin, Fx.outsA, LINE])
    have hlen : (((rngL 0 rs.length).filter (miss rs (.int k))).map fun e => D.tup [.int k, e]).length ≤ 5 := by
      rw [List.length_map]
      refine Nat.le_trans (List.length_filter_le _ _) ?_
      rw [rng_len]; omega
    have hb : binD .Add (.lst acc) (.lst (((rngL 0 rs.length).filter (miss rs (.int k))).map fun e => D.tup [.int k, e])) = some (.lst (acc ++ ((rngL 0 rs.length).filter (miss rs (.int k))).map fun e => D.tup [.int k, e])) := by
      show (if _ ≤ LINE then _ else none) = _
      rw [if_pos (by show _ ≤ 16777216; omega)]
    have s1 : ∀ (r : R) (e : IE), e.isVar = none → asArg e [some (.val (.tup [.int m, .tup rs])), some (.val (.int m)), some (.val (.tup rs)), some (.lst acc), some (.val (.int k)), none] (Res.ok r [some (.val (.tup [.int m, .tup rs])), some (.val (.int m)), some (.val (.tup rs)), some (.lst acc), some (.val (.int k)), none]) = .ok (.v r) [some (.val (.tup [.int m, .tup rs])), some (.val (.int m)), some (.val (.tup rs)), some (.lst acc), some (.val (.int k)), none] := fun r e h => by cases e <;> first | rfl | cases h
    show evSs md.g (md.Φ n) (.cons (.asg 3 (.bin .Add (.var 3) (.comp (.tup (.cons (.var 4) (.cons (.var 5) .nil))) [5] (.one 5) (.seq (.cb .range (.cons (.cb .len (.cons (.var 2) .nil)) .nil))) (.som (.cmp .NotIn (.var 4) (.idx (.var 2) (.var 5))))))) .nil) _ = _
    rw [ss_cons, e_asg, e_bin, show asArg (.var 3) ([some (.val (.tup [.int m, .tup rs])), some (.val (.int m)), some (.val (.tup rs)), some (.lst acc), some (.val (.int k)), none] : Env) (evE md.g (md.Φ n) (.var 3) [some (.val (.tup [.int m, .tup rs])), some (.val (.int m)), some (.val (.tup rs)), some (.lst acc), some (.val (.int k)), none]) = .ok (.b 3) [some (.val (.tup [.int m, .tup rs])), some (.val (.int m)), some (.val (.tup rs)), some (.lst acc), some (.val (.int k)), none] from rfl, b_ok, hc, s1 _ _ rfl, b_ok]
    simp only [b_ok, a_b, a_v, f_lst, at_3, Option.bind_some, hb, o_some, Fx.t_ok, s_nx, ss_nil, List.set_cons_succ, List.set_cons_zero]
  have loop : ∀ (ds : List D) (acc : List D) (x : Option R), (∀ d ∈ ds, d ∈ rngL 0 m) → acc.length + 5 * ds.length ≤ 1000 → ∃ x', forF (.one 4) (fun ρ => evSs md.g (md.Φ n) lob ρ) ds [some (.val (.tup [.int m, .tup rs])), some (.val (.int m)), some (.val (.tup rs)), some (.lst acc), x, none] =
      .nx [some (.val (.tup [.int m, .tup rs])), some (.val (.int m)), some (.val (.tup rs)), some (.lst (acc ++ ds.flatMap fun d => ((rngL 0 rs.length).filter (miss rs d)).map fun e => .tup [d, e])), x', none] := by
    intro ds
    induction ds with
    | nil => intro acc x _ _; exact ⟨x, by simp [forF]⟩
    | cons d ds ih =>
      intro acc x hd hlen
      have hb := body d acc x (hd d (by simp)) (by simp at hlen; omega)
      have hlen2 : (((rngL 0 rs.length).filter (miss rs d)).map fun e => D.tup [d, e]).length ≤ 5 := by
        rw [List.length_map]
        refine Nat.le_trans (List.length_filter_le _ _) ?_
        rw [rng_len]; omega
      obtain ⟨x', h'⟩ := ih (acc ++ ((rngL 0 rs.length).filter (miss rs d)).map fun e => D.tup [d, e]) (some (.val d)) (fun d' h => hd d' (by simp [h])) (by rw [List.length_append]; simp at hlen; omega)
      refine ⟨x', ?_⟩
      refine (for_nx (ρ := [some (.val (.tup [.int m, .tup rs])), some (.val (.int m)), some (.val (.tup rs)), some (.lst acc), x, none]) (i := 4) (d := d) (ds := ds) (body := fun ρ => evSs md.g (md.Φ n) lob ρ) (ρ2 := [some (.val (.tup [.int m, .tup rs])), some (.val (.int m)), some (.val (.tup rs)), some (.lst (acc ++ ((rngL 0 rs.length).filter (miss rs d)).map fun e => D.tup [d, e])), some (.val d), none]) hb).trans ?_
      rw [h', List.flatMap_cons, List.append_assoc]
  obtain ⟨x', hx⟩ := loop (rngL 0 m) [] none (fun d h => h) (by rw [rng_len]; simp; omega)
  have s1 : evS md.g (md.Φ n) (.unp [1, 2] (.var 0)) [some (.val (.tup [.int m, .tup rs])), none, none, none, none, none] = .nx [some (.val (.tup [.int m, .tup rs])), some (.val (.int m)), some (.val (.tup rs)), none, none, none] := rfl
  have s2 : evS md.g (md.Φ n) (.asg 3 (.lst .nil)) [some (.val (.tup [.int m, .tup rs])), some (.val (.int m)), some (.val (.tup rs)), none, none, none] = .nx [some (.val (.tup [.int m, .tup rs])), some (.val (.int m)), some (.val (.tup rs)), some (.lst []), none, none] := rfl
  have s3 : ∀ body : ISs, evS md.g (md.Φ n) (.for_ (.one 4) (.seq (.cb .range (.cons (.var 1) .nil))) body) [some (.val (.tup [.int m, .tup rs])), some (.val (.int m)), some (.val (.tup rs)), some (.lst []), none, none] = forF (.one 4) (fun ρ => evSs md.g (md.Φ n) body ρ) (rngL 0 m) [some (.val (.tup [.int m, .tup rs])), some (.val (.int m)), some (.val (.tup rs)), some (.lst []), none, none] := by
    intro body
    have q : evI md.g (md.Φ n) (.seq (.cb .range (.cons (.var 1) .nil))) [some (.val (.tup [.int m, .tup rs])), some (.val (.int m)), some (.val (.tup rs)), some (.lst []), none, none] = .ok (rngL 0 m) [some (.val (.tup [.int m, .tup rs])), some (.val (.int m)), some (.val (.tup rs)), some (.lst []), none, none] := by
      simp -implicitDefEqProofs [Fx.evSs, Fx.evS, Fx.evE, Fx.evB, Fx.evAs, Fx.evDs, Fx.evO, Fx.evC, Fx.evI, Fx.teE, Fx.tstA, Fx.asArg, Fx.b_ok, Fx.b_exc, Fx.t_ok, Fx.t_exc, Fx.s_nx, Fx.s_rt, Fx.s_exc, Fx.s_bk, Fx.s_ct, Fx.as_val, Fx.as_lst, Fx.as_exc, Fx.o_some, Fx.f_val, Fx.f_lst, Fx.a_v, Fx.a_b, Fx.rb_bl, Fx.rdVar, Fx.argVar, Fx.at0, Fx.at_1, Fx.at_2, Fx.at_3, Fx.at_4, Fx.at_5, Fx.at_6, Fx.at_7, Fx.at_8, Fx.at_9, Fx.at_10, Fx.at_11, Fx.at_12, Fx.cmpP, Fx.g_nil, Fx.g_v, Fx.g_l, Fx.u_b, Fx.u_i, Fx.c_len_t, Fx.c_len_l, Fx.c_abs, Fx.c_int, Fx.c_intb, Fx.c_list_t, Fx.c_list_l, Fx.c_tup_t, Fx.c_tup_l, Fx.c_all, Fx.c_rng1, Fx.c_rng2, Fx.r_i, Fx.r_s, Fx.l_i, Fx.m_lt, Fx.m_gt, Fx.m_le, Fx.m_ge, Fx.m_eq, Fx.m_ne, Fx.m_is, Fx.m_in, Fx.m_ni, Fx.x_t, Fx.x_l, Fx.DefI.fin, Fx.outsA]; exact rngOk0 h0 (by omega)
    exact e_for q
  rw [phi (d := d__law_outs) rfl rfl]
  refine ⟨[some (.val (.tup [.int m, .tup rs]))], ?_⟩
  have e : evSs md.g (md.Φ n) b__law_outs [some (.val (.tup [.int m, .tup rs])), none, none, none, none, none] = .rt (.lst (pairs m rs)) [some (.val (.tup [.int m, .tup rs])), some (.val (.int m)), some (.val (.tup rs)), none, x', none] := by
    show (evS md.g (md.Φ n) _ _).thn (fun ρ => (evS md.g (md.Φ n) _ ρ).thn fun ρ => (evS md.g (md.Φ n) _ ρ).thn fun ρ => evSs md.g (md.Φ n) _ ρ) = _
    rw [s1, s_nx, s2, s_nx, s3]
    show (forF (.one 4) (fun ρ => evSs md.g (md.Φ n) lob ρ) (rngL 0 m) _).thn _ = _
    rw [hx, s_nx]
    rfl
  show d__law_outs.fin (evSs md.g (md.Φ n) b__law_outs [some (.val (.tup [.int m, .tup rs])), none, none, none, none, none]) = _
  rw [e]; rfl
end K02
end
section
set_option linter.all false
set_option Elab.async false
set_option maxRecDepth 100000
set_option maxHeartbeats 1000000
namespace K02
open Fx
/-- one of a list that is handed over is picked -/
theorem pick_own (n : Nat) (a b : Int) (ds : List D) (hp : 0 < ds.length) (hl : ds.length < 1073741824) : ∃ a' b' o, ∃ d ∈ ds, md.Φ (n + 2) 10 [.lst [.int a, .int b], .lst ds] = .ok (.val d) (some (.lst [.int a', .int b']) :: o) := by
  obtain ⟨a', b', r, c, h2, h3⟩ := call_box (n := n) (a := a) (b := b) (m := ds.length) (ρ := [some (.lst [.int a, .int b]), some (.lst ds)]) (i := 0) (by omega) (by omega) rfl
  have hr : r.toNat < ds.length := by omega
  refine ⟨a', b', [some (.lst ds)], ds[r.toNat], List.getElem_mem hr, ?_⟩
  have hx : L2.atI ds r = some ds[r.toNat] := by
    have := at_nat (List.getElem?_eq_getElem hr)
    rwa [show ((r.toNat : Nat) : Int) = r by omega] at this
  rw [phi (d := d__law_pick) rfl rfl]
  have g1 : getDs md.g.flds ([some (.lst [.int a, .int b]), some (.lst ds)] : Env) [.b 1] = some [.lst ds] := rfl
  have e : evSs md.g (md.Φ (n + 1)) b__law_pick [some (.lst [.int a, .int b]), some (.lst ds)] = .rt (.val ds[r.toNat]) [some (.lst [.int a', .int b']), some (.lst ds)] := by
    simp -implicitDefEqProofs [Fx.evSs, Fx.evS, Fx.evE, Fx.evB, Fx.evAs, Fx.evDs, Fx.evO, Fx.evC, Fx.evI, Fx.teE, Fx.tstA, Fx.asArg, Fx.b_ok, Fx.b_exc, Fx.t_ok, Fx.t_exc, Fx.s_nx, Fx.s_rt, Fx.s_exc, Fx.s_bk, Fx.s_ct, Fx.as_val, Fx.as_lst, Fx.as_exc, Fx.o_some, Fx.f_val, Fx.f_lst, Fx.a_v, Fx.a_b, Fx.rb_bl, Fx.rdVar, Fx.argVar, Fx.at0, Fx.at_1, Fx.at_2, Fx.at_3, Fx.at_4, Fx.at_5, Fx.at_6, Fx.at_7, Fx.at_8, Fx.at_9, Fx.at_10, Fx.at_11, Fx.at_12, Fx.cmpP, Fx.g_nil, Fx.g_v, Fx.g_l, Fx.u_b, Fx.u_i, Fx.c_len_t, Fx.c_len_l, Fx.c_abs, Fx.c_int, Fx.c_intb, Fx.c_list_t, Fx.c_list_l, Fx.c_tup_t, Fx.c_tup_l, Fx.c_all, Fx.c_rng1, Fx.c_rng2, Fx.r_i, Fx.r_s, Fx.l_i, Fx.m_lt, Fx.m_gt, Fx.m_le, Fx.m_ge, Fx.m_eq, Fx.m_ne, Fx.m_is, Fx.m_in, Fx.m_ni, Fx.x_t, Fx.x_l, Fx.DefI.fin, Fx.outsA, b__law_pick, c, hx, g1]
  show d__law_pick.fin (evSs md.g (md.Φ (n + 1)) b__law_pick [some (.lst [.int a, .int b]), some (.lst ds)]) = _
  rw [e]; rfl
theorem call_pick {n : Nat} {a b : Int} {ds : List D} {ρ : Env} {i : Nat} (hp : 0 < ds.length) (hl : ds.length < 1073741824) (hi : ρ.at i = some (.lst [.int a, .int b])) : ∃ a' b' : Int, ∃ d ∈ ds, callR (md.Φ (n + 2)) 10 [.b i, .v (.lst ds)] ρ = .ok (.val d) (ρ.set i (some (.lst [.int a', .int b']))) := by
  obtain ⟨a', b', o, d, hd, e⟩ := pick_own n a b ds hp hl
  refine ⟨a', b', d, hd, ?_⟩
  have hh : hand [.b i, .v (.lst ds)] ρ = some ([.lst [.int a, .int b], .lst ds], ρ.set i none) := by
    show (match ρ.at i with
      | some r => (hand [.v (.lst ds)] (ρ.set i none)).map fun (p : List R × Env) => (r :: p.1, p.2)
      | none => none) = _
    rw [hi]; rfl
  rw [call_v hh e]
  show Res.ok _ ((giveB [.v (.lst ds)] o (ρ.set i none)).set i _) = _
  have : giveB [.v (.lst ds)] o (ρ.set i none) = ρ.set i none := by cases o <;> rfl
  rw [this, List.set_set]
/-- the picked list is written -/
theorem e_pick {n : Nat} {a b : Int} {es : IEs} {ds : List D} {ρ : Env} {i : Nat} (hi : ρ.at i = some (.lst [.int a, .int b])) (h : evDs md.g (md.Φ (n + 2)) es ρ = .ok ds ρ) (hp : 0 < ds.length) (hl : ds.length ≤ 1000) :
    ∃ a' b' : Int, ∃ d ∈ ds, evE md.g (md.Φ (n + 2)) (.call 10 (.cons (.var i) (.cons (.lst es) .nil))) ρ = .ok (.val d) (ρ.set i (some (.lst [.int a', .int b']))) := by
  obtain ⟨a', b', d, hd, c⟩ := call_pick (n := n) (ds := ds) (ρ := ρ) (i := i) hp (by omega) hi
  refine ⟨a', b', d, hd, ?_⟩
  rw [← c]
  have e1 : evE md.g (md.Φ (n + 2)) (.lst es) ρ = .ok (.lst ds) ρ := by
    show (evDs md.g (md.Φ (n + 2)) es ρ).bind _ = _
    rw [h, b_ok]
    show (if ds.length ≤ LINE then _ else _) = _
    rw [if_pos (by show _ ≤ 16777216; omega)]
  have e2 : evAs md.g (md.Φ (n + 2)) (.cons (.var i) (.cons (.lst es) .nil)) ρ = .ok [.b i, .v (.lst ds)] ρ := by
    show (argVar i ρ).bind (fun a ρ => ((asArg (.lst es) ρ (evE md.g (md.Φ (n + 2)) (.lst es) ρ)).bind _).bind _) = _
    rw [av_lst hi, b_ok, e1]
    rfl
  show (evAs md.g (md.Φ (n + 2)) _ ρ).bind _ = _
  rw [e2]; rfl
theorem e_take {n : Nat} {a b m : Int} {e : IE} {ρ : Env} {i : Nat} (hi : ρ.at i = some (.lst [.int a, .int b])) (he : e.isVar = none) (h : evE md.g (md.Φ (n + 1)) e ρ = .ok (.val (.int m)) ρ) (h0 : 0 < m) (h1 : m < 1073741824) :
    ∃ a' b' r : Int, evE md.g (md.Φ (n + 1)) (.call 9 (.cons (.var i) (.cons e .nil))) ρ = .ok (.val (.int r)) (ρ.set i (some (.lst [.int a', .int b']))) ∧ 0 ≤ r ∧ r < m := by
  obtain ⟨a', b', r, c, h2, h3⟩ := call_box (n := n) (ρ := ρ) (i := i) h0 h1 hi
  refine ⟨a', b', r, ?_, h2, h3⟩
  rw [← c]
  have e2 : evAs md.g (md.Φ (n + 1)) (.cons (.var i) (.cons e .nil)) ρ = .ok [.b i, .v (.val (.int m))] ρ := by
    show (argVar i ρ).bind (fun a ρ => ((asArg e ρ (evE md.g (md.Φ (n + 1)) e ρ)).bind _).bind _) = _
    rw [av_lst hi, b_ok, h]
    cases e <;> first | rfl | cases he
  show (evAs md.g (md.Φ (n + 1)) _ ρ).bind _ = _
  rw [e2]; rfl
theorem e_takeV {n : Nat} {a b m : Int} {j : Nat} {ρ : Env} {i : Nat} (hi : ρ.at i = some (.lst [.int a, .int b])) (h : ρ.at j = some (.val (.int m))) (h0 : 0 < m) (h1 : m < 1073741824) :
    ∃ a' b' r : Int, evE md.g (md.Φ (n + 1)) (.call 9 (.cons (.var i) (.cons (.var j) .nil))) ρ = .ok (.val (.int r)) (ρ.set i (some (.lst [.int a', .int b']))) ∧ 0 ≤ r ∧ r < m := by
  obtain ⟨a', b', r, c, h2, h3⟩ := call_box (n := n) (ρ := ρ) (i := i) h0 h1 hi
  refine ⟨a', b', r, ?_, h2, h3⟩
  rw [← c]
  have e2 : evAs md.g (md.Φ (n + 1)) (.cons (.var i) (.cons (.var j) .nil)) ρ = .ok [.b i, .v (.val (.int m))] ρ := by
    show (argVar i ρ).bind (fun a ρ => ((argVar j ρ).bind _).bind _) = _
    rw [av_lst hi, b_ok, av_val h]
    rfl
  show (evAs md.g (md.Φ (n + 1)) _ ρ).bind _ = _
  rw [e2]; rfl
end K02
end
section
set_option linter.all false
set_option Elab.async false
set_option maxRecDepth 100000
set_option maxHeartbeats 1000000
namespace K02
open Fx
theorem asc_pw : ∀ {l : List Nat}, l.Pairwise (· < ·) → asc (l.map fun (k : Nat) => D.int (0 + (k : Int))) = true
  | [], _ => rfl
  | [a], _ => rfl
  | a :: b :: l, h => by
    have h1 := (List.pairwise_cons.mp h).1 b (by simp)
    have h2 := asc_pw (List.pairwise_cons.mp h).2
    show (decide ((0 : Int) + (a : Int) < 0 + (b : Int)) && asc (D.int (0 + (b : Int)) :: l.map fun (k : Nat) => D.int (0 + (k : Int)))) = true
    rw [Bool.and_eq_true]
    exact ⟨by simp; omega, h2⟩
/-- a part of 0 .. m - 1, not empty -/
theorem bunch_filter {m : Int} {p : D → Bool} {d : D} (hd : d ∈ rngL 0 m) (hp : p d = true) : bunch m (.tup ((rngL 0 m).filter p)) = true := by
  show (rising (m - 1) _ && _) = true
  show (((rngL 0 m).filter p).all (inR 0 (m - 1)) && asc ((rngL 0 m).filter p) && decide (0 < ((rngL 0 m).filter p).length)) = true
  have e : (rngL 0 m).filter p = ((List.range (m - 0).toNat).filter fun (k : Nat) => p (D.int (0 + (k : Int)))).map fun (k : Nat) => D.int (0 + (k : Int)) := by
    unfold rngL
    rw [List.filter_map]
    rfl
  have hm : d ∈ (rngL 0 m).filter p := List.mem_filter.mpr ⟨hd, hp⟩
  simp only [Bool.and_eq_true, decide_eq_true_eq]
  refine ⟨⟨List.all_eq_true.mpr fun x hx => ?_, ?_⟩, List.length_pos_of_mem hm⟩
  · obtain ⟨k, hk, rfl⟩ := mem_rng0 (List.mem_filter.mp hx).1
    show (decide ((0 : Int) ≤ k) && decide ((k : Int) ≤ m - 1)) = true
    simp; omega
  · rw [e]
    exact asc_pw (List.Pairwise.filter _ List.pairwise_lt_range)
section
variable {n : Nat} {sc : D} {m h : Int}
/-- the state of the loop -/
def E (sc : D) (m h a b : Int) (rs : List D) (l r6 r7 : Option R) : Env := [some (.val sc), some (.lst [.int a, .int b]), some (.val (.int m)), some (.val (.int h)), some (.lst rs), l, r6, r7, none]
def cond2 : IE := .cmp .Eq (.call 9 (.cons (.var 1) (.cons (.cst (.int 2)) .nil))) (.cst (.int 0))
theorem drawn_comp {rs : List D} {l r6 r7 : Option R} : ∀ (ds : List D) (a b : Int) (acc : List D), acc.length + ds.length ≤ 100 → ∃ a' b' acc', compF [8] (.one 8) (fun ρ => evC md.g (md.Φ (n + 1)) (.som cond2) ρ) (fun ρ => asD md.g.flds (evE md.g (md.Φ (n + 1)) (.var 8) ρ)) ds (E sc m h a b rs l r6 r7) acc = .ok acc' (E sc m h a' b' rs l r6 r7) ∧ (∀ d ∈ acc', d ∈ acc ∨ d ∈ ds) ∧ acc'.length ≤ acc.length + ds.length
  | [], a, b, acc, _ => ⟨a, b, acc, rfl, fun d h => .inl h, by simp⟩
  | d :: ds, a, b, acc, hl => by
    obtain ⟨a1, b1, r, c, _, _⟩ := e_take (n := n) (i := 1) (a := a) (b := b) (m := 2) (e := .cst (.int 2)) (ρ := (E sc m h a b rs l r6 r7).set 8 (some (.val d))) rfl rfl rfl (by omega) (by omega)
    have hq : evC md.g (md.Φ (n + 1)) (.som cond2) ((E sc m h a b rs l r6 r7).set 8 (some (.val d))) = .ok (r == 0) ((E sc m h a1 b1 rs l r6 r7).set 8 (some (.val d))) := by
      have e1 : evE md.g (md.Φ (n + 1)) cond2 ((E sc m h a b rs l r6 r7).set 8 (some (.val d))) = .ok (.val (.bl (r == 0))) ((E sc m h a1 b1 rs l r6 r7).set 8 (some (.val d))) := by
        show ((asArg _ _ (evE md.g (md.Φ (n + 1)) (.call 9 (.cons (.var 1) (.cons (.cst (.int 2)) .nil))) _)).bind _) = _
        rw [c]
        rfl
      show teE md.g (md.Φ (n + 1)) cond2 _ = _
      rw [te_tv rfl]
      show (evE md.g (md.Φ (n + 1)) cond2 _).bind _ = _
      rw [e1]; rfl
    unfold compF
    show ∃ a' b' acc', (evC md.g (md.Φ (n + 1)) (.som cond2) ((E sc m h a b rs l r6 r7).set 8 (some (.val d)))).bind _ = _ ∧ _
    rw [hq, b_ok]
    cases r == 0 with
    | true =>
      rw [if_pos rfl]
      have e3 : asD md.g.flds (evE md.g (md.Φ (n + 1)) (.var 8) ((E sc m h a1 b1 rs l r6 r7).set 8 (some (.val d)))) = .ok d ((E sc m h a1 b1 rs l r6 r7).set 8 (some (.val d))) := rfl
      rw [e3, b_ok, if_pos (by show _ < 16777216; simp at hl; omega)]
      obtain ⟨a', b', acc', e4, hm, hq4⟩ := drawn_comp (rs := rs) (l := l) (r6 := r6) (r7 := r7) ds a1 b1 (acc ++ [d]) (by simp at hl ⊢; omega)
      refine ⟨a', b', acc', e4, fun x hx => ?_, by simp at hq4 ⊢; omega⟩
      rcases hm x hx with q | q
      · rcases List.mem_append.mp q with q | q
        · exact .inl q
        · exact .inr (by simp at q; simp [q])
      · exact .inr (by simp [q])
    | false =>
      rw [if_neg Bool.false_ne_true]
      obtain ⟨a', b', acc', e4, hm, hq4⟩ := drawn_comp (rs := rs) (l := l) (r6 := r6) (r7 := r7) ds a1 b1 acc (by simp at hl ⊢; omega)
      refine ⟨a', b', acc', e4, fun x hx => ?_, by simp at hq4 ⊢; omega⟩
      rcases hm x hx with q | q
      · exact .inl q
      · exact .inr (by simp [q])
end
end K02
end
section
set_option linter.all false
set_option Elab.async false
set_option maxRecDepth 100000
set_option maxHeartbeats 1000000
namespace K02
open Fx
def srcM : II := .seq (.cb .range (.cons (.var 2) .nil))
def c1 : IE := .comp (.var 8) [8] (.one 8) srcM (.som cond2)
def B3 : IS := .ifs (.cmp .Eq (.var 3) (.cst (.int 0))) (.cons (.asg 6 (.lst (.cons (.cst (.int 0)) (.cons (.var 7) .nil)))) .nil) (.cons (.ifs (.cmp .Eq (.var 3) (.cst (.int 1))) (.cons (.asg 6 (.lst (.cons (.var 7) .nil))) .nil) (.cons (.ifs (.cmp .Eq (.var 3) (.cst (.int 2))) (.cons (.asg 6 (.comp (.var 8) [8] (.one 8) srcM (.som (.cmp .NotEq (.var 8) (.var 7))))) .nil) .nil) .nil)) .nil)
def B4 : IS := .ifs (.cmp .Eq (.var 6) (.lst .nil)) (.cons (.asg 6 (.lst (.cons (.var 7) .nil))) .nil) .nil
def c5 : IE := .comp (.var 8) [8] (.one 8) srcM (.som (.cmp .In (.var 8) (.var 6)))
def B5 : IS := .app 4 (.cb .tuple (.cons c5 .nil))
def bodyD : ISs := .cons (.asg 6 c1) (.cons (.asg 7 (.call 9 (.cons (.var 1) (.cons (.var 2) .nil)))) (.cons B3 (.cons B4 (.cons B5 .nil))))
def neB (r : Int) : D → Bool
  | .int k => !(k == r)
  | _ => false
theorem eqD_int {i j : Int} : eqD (.int i) (.int j) = some (i == j) := rfl
section
variable {n : Nat} {sc : D} {m h : Int}
theorem srcM_ok {a b : Int} {rs : List D} {l r6 r7 : Option R} {Φ : Fn} (h0 : 0 ≤ m) (h1 : m ≤ 5) : evI md.g Φ srcM (E sc m h a b rs l r6 r7) = .ok (rngL 0 m) (E sc m h a b rs l r6 r7) := by
  unfold E srcM
  simp -implicitDefEqProofs [Fx.evSs, Fx.evS, Fx.evE, Fx.evB, Fx.evAs, Fx.evDs, Fx.evO, Fx.evC, Fx.evI, Fx.teE, Fx.tstA, Fx.asArg, Fx.b_ok, Fx.b_exc, Fx.t_ok, Fx.t_exc, Fx.s_nx, Fx.s_rt, Fx.s_exc, Fx.s_bk, Fx.s_ct, Fx.as_val, Fx.as_lst, Fx.as_exc, Fx.o_some, Fx.f_val, Fx.f_lst, Fx.a_v, Fx.a_b, Fx.rb_bl, Fx.rdVar, Fx.argVar, Fx.at0, Fx.at_1, Fx.at_2, Fx.at_3, Fx.at_4, Fx.at_5, Fx.at_6, Fx.at_7, Fx.at_8, Fx.at_9, Fx.at_10, Fx.at_11, Fx.at_12, Fx.cmpP, Fx.g_nil, Fx.g_v, Fx.g_l, Fx.u_b, Fx.u_i, Fx.c_len_t, Fx.c_len_l, Fx.c_abs, Fx.c_int, Fx.c_intb, Fx.c_list_t, Fx.c_list_l, Fx.c_tup_t, Fx.c_tup_l, Fx.c_all, Fx.c_rng1, Fx.c_rng2, Fx.r_i, Fx.r_s, Fx.l_i, Fx.m_lt, Fx.m_gt, Fx.m_le, Fx.m_ge, Fx.m_eq, Fx.m_ne, Fx.m_is, Fx.m_in, Fx.m_ni, Fx.x_t, Fx.x_l, Fx.DefI.fin, Fx.outsA]
  exact rngOk0 h0 (by omega)
theorem c1_ok {a b : Int} {rs : List D} {l r6 r7 : Option R} (h0 : 0 ≤ m) (h1 : m ≤ 5) : ∃ a' b' row, evE md.g (md.Φ (n + 1)) c1 (E sc m h a b rs l r6 r7) = .ok (.lst row) (E sc m h a' b' rs l r6 r7) ∧ (∀ d ∈ row, d ∈ rngL 0 m) ∧ row.length ≤ 100 := by
  obtain ⟨a', b', row, e, hm, hlen⟩ := drawn_comp (n := n) (sc := sc) (m := m) (h := h) (rs := rs) (l := l) (r6 := r6) (r7 := r7) (rngL 0 m) a b [] (by rw [rng_len]; simp; omega)
  refine ⟨a', b', row, ?_, fun d hd => (hm d hd).resolve_left (by simp), Nat.le_trans hlen (by rw [rng_len]; simp; omega)⟩
  show (evI md.g (md.Φ (n + 1)) srcM (E sc m h a b rs l r6 r7)).bind _ = _
  rw [srcM_ok h0 h1, b_ok]
  show ((compF [8] (.one 8) (fun ρ => evC md.g (md.Φ (n + 1)) (.som cond2) ρ) (fun ρ => asD md.g.flds (evE md.g (md.Φ (n + 1)) (.var 8) ρ)) (rngL 0 m) (E sc m h a b rs l r6 r7) []).bind _).calm = _
  rw [e, b_ok]
  rfl
/-- rows so far, a row of numbers -/
def rowI (m : Int) (row : List D) : Prop := (∀ d ∈ row, d ∈ rngL 0 m) ∧ row.length ≤ 100
theorem rowI_plain {row : List D} (hr : rowI m row) : D.plains row = true := plains_of fun d hd => by obtain ⟨k, _, rfl⟩ := mem_rng0 (hr.1 d hd); rfl
theorem B3_ok {a b r : Int} {rs row : List D} {l : Option R} (h0 : 1 ≤ m) (h1 : m ≤ 5) (hr : rowI m row) (r0 : 0 ≤ r) (r1 : r < m) : ∃ row', evS md.g (md.Φ (n + 1)) B3 (E sc m h a b rs l (some (.lst row)) (some (.val (.int r)))) = .nx (E sc m h a b rs l (some (.lst row')) (some (.val (.int r)))) ∧ rowI m row' := by
  have mr : D.int r ∈ rngL 0 m := by
    unfold rngL
    exact List.mem_map.mpr ⟨r.toNat, List.mem_range.mpr (by omega), by congr 1; omega⟩
  have m0 : D.int 0 ∈ rngL 0 m := by
    unfold rngL
    exact List.mem_map.mpr ⟨0, List.mem_range.mpr (by omega), by congr 1⟩
  by_cases q0 : h = 0
  · refine ⟨[.int 0, .int r], ?_, ⟨by simp [mr, m0], by simp⟩⟩
    unfold B3 E
    simp -implicitDefEqProofs [Fx.evSs, Fx.evS, Fx.evE, Fx.evB, Fx.evAs, Fx.evDs, Fx.evO, Fx.evC, Fx.evI, Fx.teE, Fx.tstA, Fx.asArg, Fx.b_ok, Fx.b_exc, Fx.t_ok, Fx.t_exc, Fx.s_nx, Fx.s_rt, Fx.s_exc, Fx.s_bk, Fx.s_ct, Fx.as_val, Fx.as_lst, Fx.as_exc, Fx.o_some, Fx.f_val, Fx.f_lst, Fx.a_v, Fx.a_b, Fx.rb_bl, Fx.rdVar, Fx.argVar, Fx.at0, Fx.at_1, Fx.at_2, Fx.at_3, Fx.at_4, Fx.at_5, Fx.at_6, Fx.at_7, Fx.at_8, Fx.at_9, Fx.at_10, Fx.at_11, Fx.at_12, Fx.cmpP, Fx.g_nil, Fx.g_v, Fx.g_l, Fx.u_b, Fx.u_i, Fx.c_len_t, Fx.c_len_l, Fx.c_abs, Fx.c_int, Fx.c_intb, Fx.c_list_t, Fx.c_list_l, Fx.c_tup_t, Fx.c_tup_l, Fx.c_all, Fx.c_rng1, Fx.c_rng2, Fx.r_i, Fx.r_s, Fx.l_i, Fx.m_lt, Fx.m_gt, Fx.m_le, Fx.m_ge, Fx.m_eq, Fx.m_ne, Fx.m_is, Fx.m_in, Fx.m_ni, Fx.x_t, Fx.x_l, Fx.DefI.fin, Fx.outsA, eqD_int, q0, LINE]
  · by_cases q1 : h = 1
    · refine ⟨[.int r], ?_, ⟨by simp [mr], by simp⟩⟩
      unfold B3 E
      simp -implicitDefEqProofs [Fx.evSs, Fx.evS, Fx.evE, Fx.evB, Fx.evAs, Fx.evDs, Fx.evO, Fx.evC, Fx.evI, Fx.teE, Fx.tstA, Fx.asArg, Fx.b_ok, Fx.b_exc, Fx.t_ok, Fx.t_exc, Fx.s_nx, Fx.s_rt, Fx.s_exc, Fx.s_bk, Fx.s_ct, Fx.as_val, Fx.as_lst, Fx.as_exc, Fx.o_some, Fx.f_val, Fx.f_lst, Fx.a_v, Fx.a_b, Fx.rb_bl, Fx.rdVar, Fx.argVar, Fx.at0, Fx.at_1, Fx.at_2, Fx.at_3, Fx.at_4, Fx.at_5, Fx.at_6, Fx.at_7, Fx.at_8, Fx.at_9, Fx.at_10, Fx.at_11, Fx.at_12, Fx.cmpP, Fx.g_nil, Fx.g_v, Fx.g_l, Fx.u_b, Fx.u_i, Fx.c_len_t, Fx.c_len_l, Fx.c_abs, Fx.c_int, Fx.c_intb, Fx.c_list_t, Fx.c_list_l, Fx.c_tup_t, Fx.c_tup_l, Fx.c_all, Fx.c_rng1, Fx.c_rng2, Fx.r_i, Fx.r_s, Fx.l_i, Fx.m_lt, Fx.m_gt, Fx.m_le, Fx.m_ge, Fx.m_eq, Fx.m_ne, Fx.m_is, Fx.m_in, Fx.m_ni, Fx.x_t, Fx.x_l, Fx.DefI.fin, Fx.outsA, eqD_int, q0, q1, LINE]
    · by_cases q2 : h = 2
      · have hc := comp_pure (g := md.g) (Φ := md.Φ (n + 1)) (ρ := E sc m h a b rs l (some (.lst row)) (some (.val (.int r)))) (i := 8) (elt := .var 8) (src := srcM) (c := .som (.cmp .NotEq (.var 8) (.var 7)))
          (ds := rngL 0 m) (p := neB r) (q := id) (by simp [E]) (srcM_ok (by omega) h1) (by rw [rng_len]; show _ ≤ 16777216; omega) (fun d hd => by
            obtain ⟨k, hk, rfl⟩ := mem_rng0 hd
            refine te_bl rfl ?_
            unfold E
            simp -implicitDefEqProofs [Fx.evSs, Fx.evS, Fx.evE, Fx.evB, Fx.evAs, Fx.evDs, Fx.evO, Fx.evC, Fx.evI, Fx.teE, Fx.tstA, Fx.asArg, Fx.b_ok, Fx.b_exc, Fx.t_ok, Fx.t_exc, Fx.s_nx, Fx.s_rt, Fx.s_exc, Fx.s_bk, Fx.s_ct, Fx.as_val, Fx.as_lst, Fx.as_exc, Fx.o_some, Fx.f_val, Fx.f_lst, Fx.a_v, Fx.a_b, Fx.rb_bl, Fx.rdVar, Fx.argVar, Fx.at0, Fx.at_1, Fx.at_2, Fx.at_3, Fx.at_4, Fx.at_5, Fx.at_6, Fx.at_7, Fx.at_8, Fx.at_9, Fx.at_10, Fx.at_11, Fx.at_12, Fx.cmpP, Fx.g_nil, Fx.g_v, Fx.g_l, Fx.u_b, Fx.u_i, Fx.c_len_t, Fx.c_len_l, Fx.c_abs, Fx.c_int, Fx.c_intb, Fx.c_list_t, Fx.c_list_l, Fx.c_tup_t, Fx.c_tup_l, Fx.c_all, Fx.c_rng1, Fx.c_rng2, Fx.r_i, Fx.r_s, Fx.l_i, Fx.m_lt, Fx.m_gt, Fx.m_le, Fx.m_ge, Fx.m_eq, Fx.m_ne, Fx.m_is, Fx.m_in, Fx.m_ni, Fx.x_t, Fx.x_l, Fx.DefI.fin, Fx.outsA, eqD_int, neB]) (fun d hd _ => rfl)
        rw [List.map_id] at hc
        refine ⟨(rngL 0 m).filter (neB r), ?_, ⟨fun d hd => (List.mem_filter.mp hd).1, Nat.le_trans (List.length_filter_le _ _) (by rw [rng_len]; omega)⟩⟩
        have t0 : teE md.g (md.Φ (n + 1)) (.cmp .Eq (.var 3) (.cst (.int 0))) (E sc m h a b rs l (some (.lst row)) (some (.val (.int r)))) = .ok false (E sc m h a b rs l (some (.lst row)) (some (.val (.int r)))) := by
          refine te_bl rfl ?_
          unfold E
          simp -implicitDefEqProofs [Fx.evSs, Fx.evS, Fx.evE, Fx.evB, Fx.evAs, Fx.evDs, Fx.evO, Fx.evC, Fx.evI, Fx.teE, Fx.tstA, Fx.asArg, Fx.b_ok, Fx.b_exc, Fx.t_ok, Fx.t_exc, Fx.s_nx, Fx.s_rt, Fx.s_exc, Fx.s_bk, Fx.s_ct, Fx.as_val, Fx.as_lst, Fx.as_exc, Fx.o_some, Fx.f_val, Fx.f_lst, Fx.a_v, Fx.a_b, Fx.rb_bl, Fx.rdVar, Fx.argVar, Fx.at0, Fx.at_1, Fx.at_2, Fx.at_3, Fx.at_4, Fx.at_5, Fx.at_6, Fx.at_7, Fx.at_8, Fx.at_9, Fx.at_10, Fx.at_11, Fx.at_12, Fx.cmpP, Fx.g_nil, Fx.g_v, Fx.g_l, Fx.u_b, Fx.u_i, Fx.c_len_t, Fx.c_len_l, Fx.c_abs, Fx.c_int, Fx.c_intb, Fx.c_list_t, Fx.c_list_l, Fx.c_tup_t, Fx.c_tup_l, Fx.c_all, Fx.c_rng1, Fx.c_rng2, Fx.r_i, Fx.r_s, Fx.l_i, Fx.m_lt, Fx.m_gt, Fx.m_le, Fx.m_ge, Fx.m_eq, Fx.m_ne, Fx.m_is, Fx.m_in, Fx.m_ni, Fx.x_t, Fx.x_l, Fx.DefI.fin, Fx.outsA, eqD_int, q0]
        have t1 : teE md.g (md.Φ (n + 1)) (.cmp .Eq (.var 3) (.cst (.int 1))) (E sc m h a b rs l (some (.lst row)) (some (.val (.int r)))) = .ok false (E sc m h a b rs l (some (.lst row)) (some (.val (.int r)))) := by
          refine te_bl rfl ?_
          unfold E
          simp -implicitDefEqProofs [Fx.evSs, Fx.evS, Fx.evE, Fx.evB, Fx.evAs, Fx.evDs, Fx.evO, Fx.evC, Fx.evI, Fx.teE, Fx.tstA, Fx.asArg, Fx.b_ok, Fx.b_exc, Fx.t_ok, Fx.t_exc, Fx.s_nx, Fx.s_rt, Fx.s_exc, Fx.s_bk, Fx.s_ct, Fx.as_val, Fx.as_lst, Fx.as_exc, Fx.o_some, Fx.f_val, Fx.f_lst, Fx.a_v, Fx.a_b, Fx.rb_bl, Fx.rdVar, Fx.argVar, Fx.at0, Fx.at_1, Fx.at_2, Fx.at_3, Fx.at_4, Fx.at_5, Fx.at_6, Fx.at_7, Fx.at_8, Fx.at_9, Fx.at_10, Fx.at_11, Fx.at_12, Fx.cmpP, Fx.g_nil, Fx.g_v, Fx.g_l, Fx.u_b, Fx.u_i, Fx.c_len_t, Fx.c_len_l, Fx.c_abs, Fx.c_int, Fx.c_intb, Fx.c_list_t, Fx.c_list_l, Fx.c_tup_t, Fx.c_tup_l, Fx.c_all, Fx.c_rng1, Fx.c_rng2, Fx.r_i, Fx.r_s, Fx.l_i, Fx.m_lt, Fx.m_gt, Fx.m_le, Fx.m_ge, Fx.m_eq, Fx.m_ne, Fx.m_is, Fx.m_in, Fx.m_ni, Fx.x_t, Fx.x_l, Fx.DefI.fin, Fx.outsA, eqD_int, q1]
        have t2 : teE md.g (md.Φ (n + 1)) (.cmp .Eq (.var 3) (.cst (.int 2))) (E sc m h a b rs l (some (.lst row)) (some (.val (.int r)))) = .ok true (E sc m h a b rs l (some (.lst row)) (some (.val (.int r)))) := by
          refine te_bl rfl ?_
          unfold E
          simp -implicitDefEqProofs [Fx.evSs, Fx.evS, Fx.evE, Fx.evB, Fx.evAs, Fx.evDs, Fx.evO, Fx.evC, Fx.evI, Fx.teE, Fx.tstA, Fx.asArg, Fx.b_ok, Fx.b_exc, Fx.t_ok, Fx.t_exc, Fx.s_nx, Fx.s_rt, Fx.s_exc, Fx.s_bk, Fx.s_ct, Fx.as_val, Fx.as_lst, Fx.as_exc, Fx.o_some, Fx.f_val, Fx.f_lst, Fx.a_v, Fx.a_b, Fx.rb_bl, Fx.rdVar, Fx.argVar, Fx.at0, Fx.at_1, Fx.at_2, Fx.at_3, Fx.at_4, Fx.at_5, Fx.at_6, Fx.at_7, Fx.at_8, Fx.at_9, Fx.at_10, Fx.at_11, Fx.at_12, Fx.cmpP, Fx.g_nil, Fx.g_v, Fx.g_l, Fx.u_b, Fx.u_i, Fx.c_len_t, Fx.c_len_l, Fx.c_abs, Fx.c_int, Fx.c_intb, Fx.c_list_t, Fx.c_list_l, Fx.c_tup_t, Fx.c_tup_l, Fx.c_all, Fx.c_rng1, Fx.c_rng2, Fx.r_i, Fx.r_s, Fx.l_i, Fx.m_lt, Fx.m_gt, Fx.m_le, Fx.m_ge, Fx.m_eq, Fx.m_ne, Fx.m_is, Fx.m_in, Fx.m_ni, Fx.x_t, Fx.x_l, Fx.DefI.fin, Fx.outsA, eqD_int, q2]
        unfold B3
        rw [ifs_t t0, if_neg Bool.false_ne_true, ss_cons, ifs_t t1, if_neg Bool.false_ne_true, ss_cons, ifs_t t2, if_pos rfl, ss_cons, e_asg, hc]
        rfl
      · refine ⟨row, ?_, hr⟩
        unfold B3 E
        simp -implicitDefEqProofs [Fx.evSs, Fx.evS, Fx.evE, Fx.evB, Fx.evAs, Fx.evDs, Fx.evO, Fx.evC, Fx.evI, Fx.teE, Fx.tstA, Fx.asArg, Fx.b_ok, Fx.b_exc, Fx.t_ok, Fx.t_exc, Fx.s_nx, Fx.s_rt, Fx.s_exc, Fx.s_bk, Fx.s_ct, Fx.as_val, Fx.as_lst, Fx.as_exc, Fx.o_some, Fx.f_val, Fx.f_lst, Fx.a_v, Fx.a_b, Fx.rb_bl, Fx.rdVar, Fx.argVar, Fx.at0, Fx.at_1, Fx.at_2, Fx.at_3, Fx.at_4, Fx.at_5, Fx.at_6, Fx.at_7, Fx.at_8, Fx.at_9, Fx.at_10, Fx.at_11, Fx.at_12, Fx.cmpP, Fx.g_nil, Fx.g_v, Fx.g_l, Fx.u_b, Fx.u_i, Fx.c_len_t, Fx.c_len_l, Fx.c_abs, Fx.c_int, Fx.c_intb, Fx.c_list_t, Fx.c_list_l, Fx.c_tup_t, Fx.c_tup_l, Fx.c_all, Fx.c_rng1, Fx.c_rng2, Fx.r_i, Fx.r_s, Fx.l_i, Fx.m_lt, Fx.m_gt, Fx.m_le, Fx.m_ge, Fx.m_eq, Fx.m_ne, Fx.m_is, Fx.m_in, Fx.m_ni, Fx.x_t, Fx.x_l, Fx.DefI.fin, Fx.outsA, eqD_int, q0, q1, q2]
theorem B4_ok {a b r : Int} {rs row : List D} {l : Option R} (h0 : 1 ≤ m) (hr : rowI m row) (r0 : 0 ≤ r) (r1 : r < m) : ∃ row', evS md.g (md.Φ (n + 1)) B4 (E sc m h a b rs l (some (.lst row)) (some (.val (.int r)))) = .nx (E sc m h a b rs l (some (.lst row')) (some (.val (.int r)))) ∧ rowI m row' ∧ row' ≠ [] := by
  have mr : D.int r ∈ rngL 0 m := by
    unfold rngL
    exact List.mem_map.mpr ⟨r.toNat, List.mem_range.mpr (by omega), by congr 1; omega⟩
  have t0 : teE md.g (md.Φ (n + 1)) (.cmp .Eq (.var 6) (.lst .nil)) (E sc m h a b rs l (some (.lst row)) (some (.val (.int r)))) = .ok row.isEmpty (E sc m h a b rs l (some (.lst row)) (some (.val (.int r)))) := by
    refine te_bl rfl ?_
    have q := eqD_nil (rowI_plain hr)
    unfold E
    simp -implicitDefEqProofs [Fx.evSs, Fx.evS, Fx.evE, Fx.evB, Fx.evAs, Fx.evDs, Fx.evO, Fx.evC, Fx.evI, Fx.teE, Fx.tstA, Fx.asArg, Fx.b_ok, Fx.b_exc, Fx.t_ok, Fx.t_exc, Fx.s_nx, Fx.s_rt, Fx.s_exc, Fx.s_bk, Fx.s_ct, Fx.as_val, Fx.as_lst, Fx.as_exc, Fx.o_some, Fx.f_val, Fx.f_lst, Fx.a_v, Fx.a_b, Fx.rb_bl, Fx.rdVar, Fx.argVar, Fx.at0, Fx.at_1, Fx.at_2, Fx.at_3, Fx.at_4, Fx.at_5, Fx.at_6, Fx.at_7, Fx.at_8, Fx.at_9, Fx.at_10, Fx.at_11, Fx.at_12, Fx.cmpP, Fx.g_nil, Fx.g_v, Fx.g_l, Fx.u_b, Fx.u_i, Fx.c_len_t, Fx.c_len_l, Fx.c_abs, Fx.c_int, Fx.c_intb, Fx.c_list_t, Fx.c_list_l, Fx.c_tup_t, Fx.c_tup_l, Fx.c_all, Fx.c_rng1, Fx.c_rng2, Fx.r_i, Fx.r_s, Fx.l_i, Fx.m_lt, Fx.m_gt, Fx.m_le, Fx.m_ge, Fx.m_eq, Fx.m_ne, Fx.m_is, Fx.m_in, Fx.m_ni, Fx.x_t, Fx.x_l, Fx.DefI.fin, Fx.outsA, q, LINE]
  unfold B4
  rw [ifs_t t0]
  cases row with
  | nil =>
    refine ⟨[.int r], ?_, ⟨by simp [mr], by simp⟩, by simp⟩
    unfold E
    simp -implicitDefEqProofs [Fx.evSs, Fx.evS, Fx.evE, Fx.evB, Fx.evAs, Fx.evDs, Fx.evO, Fx.evC, Fx.evI, Fx.teE, Fx.tstA, Fx.asArg, Fx.b_ok, Fx.b_exc, Fx.t_ok, Fx.t_exc, Fx.s_nx, Fx.s_rt, Fx.s_exc, Fx.s_bk, Fx.s_ct, Fx.as_val, Fx.as_lst, Fx.as_exc, Fx.o_some, Fx.f_val, Fx.f_lst, Fx.a_v, Fx.a_b, Fx.rb_bl, Fx.rdVar, Fx.argVar, Fx.at0, Fx.at_1, Fx.at_2, Fx.at_3, Fx.at_4, Fx.at_5, Fx.at_6, Fx.at_7, Fx.at_8, Fx.at_9, Fx.at_10, Fx.at_11, Fx.at_12, Fx.cmpP, Fx.g_nil, Fx.g_v, Fx.g_l, Fx.u_b, Fx.u_i, Fx.c_len_t, Fx.c_len_l, Fx.c_abs, Fx.c_int, Fx.c_intb, Fx.c_list_t, Fx.c_list_l, Fx.c_tup_t, Fx.c_tup_l, Fx.c_all, Fx.c_rng1, Fx.c_rng2, Fx.r_i, Fx.r_s, Fx.l_i, Fx.m_lt, Fx.m_gt, Fx.m_le, Fx.m_ge, Fx.m_eq, Fx.m_ne, Fx.m_is, Fx.m_in, Fx.m_ni, Fx.x_t, Fx.x_l, Fx.DefI.fin, Fx.outsA, LINE]
  | cons x row => exact ⟨_, rfl, hr, by simp⟩
theorem B5_ok {a b r : Int} {rs row : List D} {l : Option R} (h0 : 1 ≤ m) (h1 : m ≤ 5) (hr : rowI m row) (hn : row ≠ []) (hl : rs.length ≤ 100) : ∃ x, evS md.g (md.Φ (n + 1)) B5 (E sc m h a b rs l (some (.lst row)) (some (.val (.int r)))) = .nx (E sc m h a b (rs ++ [x]) l (some (.lst row)) (some (.val (.int r)))) ∧ bunch m x = true := by
  have hp := rowI_plain hr
  have hc := comp_pure (g := md.g) (Φ := md.Φ (n + 1)) (ρ := E sc m h a b rs l (some (.lst row)) (some (.val (.int r)))) (i := 8) (elt := .var 8) (src := srcM) (c := .som (.cmp .In (.var 8) (.var 6)))
    (ds := rngL 0 m) (p := fun d => row.any fun y => y.eqv d) (q := id) (by simp [E]) (srcM_ok (by omega) h1) (by rw [rng_len]; show _ ≤ 16777216; omega) (fun d hd => by
      obtain ⟨k, hk, rfl⟩ := mem_rng0 hd
      refine te_bl rfl ?_
      have q : inD (.int (k : Int)) (.lst row) = some (row.any fun y => y.eqv (.int (k : Int))) := by
        show (if (D.plain (.int (k : Int)) && D.plains row && decide (min (D.depths row) (D.depth (.int (k : Int))) ≤ 40)) = true then some (row.any fun y => y.eqv (.int (k : Int))) else none) = _
        have : min (D.depths row) (D.depth (.int (k : Int))) ≤ 40 := Nat.le_trans (Nat.min_le_right _ _) (by show 0 ≤ 40; omega)
        rw [if_pos (by rw [hp]; simp [D.plain, this])]
      unfold E
      simp -implicitDefEqProofs [Fx.evSs, Fx.evS, Fx.evE, Fx.evB, Fx.evAs, Fx.evDs, Fx.evO, Fx.evC, Fx.evI, Fx.teE, Fx.tstA, Fx.asArg, Fx.b_ok, Fx.b_exc, Fx.t_ok, Fx.t_exc, Fx.s_nx, Fx.s_rt, Fx.s_exc, Fx.s_bk, Fx.s_ct, Fx.as_val, Fx.as_lst, Fx.as_exc, Fx.o_some, Fx.f_val, Fx.f_lst, Fx.a_v, Fx.a_b, Fx.rb_bl, Fx.rdVar, Fx.argVar, Fx.at0, Fx.at_1, Fx.at_2, Fx.at_3, Fx.at_4, Fx.at_5, Fx.at_6, Fx.at_7, Fx.at_8, Fx.at_9, Fx.at_10, Fx.at_11, Fx.at_12, Fx.cmpP, Fx.g_nil, Fx.g_v, Fx.g_l, Fx.u_b, Fx.u_i, Fx.c_len_t, Fx.c_len_l, Fx.c_abs, Fx.c_int, Fx.c_intb, Fx.c_list_t, Fx.c_list_l, Fx.c_tup_t, Fx.c_tup_l, Fx.c_all, Fx.c_rng1, Fx.c_rng2, Fx.r_i, Fx.r_s, Fx.l_i, Fx.m_lt, Fx.m_gt, Fx.m_le, Fx.m_ge, Fx.m_eq, Fx.m_ne, Fx.m_is, Fx.m_in, Fx.m_ni, Fx.x_t, Fx.x_l, Fx.DefI.fin, Fx.outsA, q]) (fun d hd _ => rfl)
  rw [List.map_id] at hc
  have e1 : asD md.g.flds (evE md.g (md.Φ (n + 1)) (.cb .tuple (.cons c5 .nil)) (E sc m h a b rs l (some (.lst row)) (some (.val (.int r))))) = .ok (.tup ((rngL 0 m).filter fun d => row.any fun y => y.eqv d)) (E sc m h a b rs l (some (.lst row)) (some (.val (.int r)))) := by
    show asD md.g.flds (((asArg c5 _ (evE md.g (md.Φ (n + 1)) c5 _)).bind _).bind _) = _
    rw [show evE md.g (md.Φ (n + 1)) c5 _ = _ from hc]
    rfl
  refine ⟨.tup ((rngL 0 m).filter fun d => row.any fun y => y.eqv d), ?_, ?_⟩
  · exact e_app (ρ := E sc m h a b rs l (some (.lst row)) (some (.val (.int r)))) rfl e1 rfl (by show rs.length < 16777216; omega)
  · cases row with
    | nil => exact absurd rfl hn
    | cons x row =>
      have hx := hr.1 x (by simp)
      refine bunch_filter hx ?_
      obtain ⟨k, hk, rfl⟩ := mem_rng0 hx
      simp [D.eqv]
theorem body_ok {a b : Int} {rs : List D} {l r6 r7 : Option R} (h0 : 1 ≤ m) (h1 : m ≤ 5) (hl : rs.length ≤ 100) : ∃ a' b' x r6' r7', evSs md.g (md.Φ (n + 1)) bodyD (E sc m h a b rs l r6 r7) = .nx (E sc m h a' b' (rs ++ [x]) l r6' r7') ∧ bunch m x = true := by
  obtain ⟨a1, b1, row, e1, hm, hrl⟩ := c1_ok (n := n) (sc := sc) (m := m) (h := h) (a := a) (b := b) (rs := rs) (l := l) (r6 := r6) (r7 := r7) (by omega) h1
  obtain ⟨a2, b2, r, e2, r0, r1⟩ := e_takeV (n := n) (i := 1) (j := 2) (a := a1) (b := b1) (m := m) (ρ := E sc m h a1 b1 rs l (some (.lst row)) r7) rfl rfl (by omega) (by omega)
  have hr : rowI m row := ⟨hm, hrl⟩
  obtain ⟨row3, e3, hr3⟩ := B3_ok (n := n) (sc := sc) (h := h) (a := a2) (b := b2) (rs := rs) (l := l) h0 h1 hr r0 r1
  obtain ⟨row4, e4, hr4, hn4⟩ := B4_ok (n := n) (sc := sc) (h := h) (a := a2) (b := b2) (rs := rs) (l := l) h0 hr3 r0 r1
  obtain ⟨x, e5, hx⟩ := B5_ok (n := n) (sc := sc) (h := h) (a := a2) (b := b2) (r := r) (rs := rs) (l := l) h0 h1 hr4 hn4 hl
  refine ⟨a2, b2, x, some (.lst row4), some (.val (.int r)), ?_, hx⟩
  unfold bodyD
  rw [ss_cons, e_asg, e1, Fx.t_ok, s_nx, show (E sc m h a1 b1 rs l r6 r7).set 6 (some (.lst row)) = E sc m h a1 b1 rs l (some (.lst row)) r7 from rfl, ss_cons, e_asg, e2, Fx.t_ok, s_nx,
    show ((E sc m h a1 b1 rs l (some (.lst row)) r7).set 1 (some (.lst [.int a2, .int b2]))).set 7 (some (.val (.int r))) = E sc m h a2 b2 rs l (some (.lst row)) (some (.val (.int r))) from rfl, ss_cons, e3, s_nx, ss_cons, e4, s_nx, ss_cons, e5, s_nx]
  rfl
theorem loop_ok : ∀ (ds : List D) (a b : Int) (rs : List D) (l r6 r7 : Option R), 1 ≤ m → m ≤ 5 → rs.length + ds.length ≤ 100 → (∀ x ∈ rs, bunch m x = true) → ∃ a' b' rs' l' r6' r7', forF (.one 5) (fun ρ => evSs md.g (md.Φ (n + 1)) bodyD ρ) ds (E sc m h a b rs l r6 r7) = .nx (E sc m h a' b' rs' l' r6' r7') ∧ rs'.length = rs.length + ds.length ∧ ∀ x ∈ rs', bunch m x = true
  | [], a, b, rs, l, r6, r7, _, _, _, hb => ⟨a, b, rs, l, r6, r7, rfl, rfl, hb⟩
  | d :: ds, a, b, rs, l, r6, r7, h0, h1, hl, hb => by
    obtain ⟨a1, b1, x, r6', r7', e1, hx⟩ := body_ok (n := n) (sc := sc) (h := h) (a := a) (b := b) (rs := rs) (l := some (.val d)) (r6 := r6) (r7 := r7) h0 h1 (by simp at hl; omega)
    obtain ⟨a', b', rs', l', s6, s7, e2, h2, h3⟩ := loop_ok ds a1 b1 (rs ++ [x]) (some (.val d)) r6' r7' h0 h1 (by simp at hl ⊢; omega) (fun y hy => by
      rcases List.mem_append.mp hy with q | q
      · exact hb y q
      · simp at q; rw [q]; exact hx)
    refine ⟨a', b', rs', l', s6, s7, ?_, by simp at h2 ⊢; omega, h3⟩
    exact (for_nx (i := 5) (d := d) (ds := ds) (ρ := E sc m h a b rs l r6 r7) (body := fun ρ => evSs md.g (md.Φ (n + 1)) bodyD ρ) (ρ2 := E sc m h a1 b1 (rs ++ [x]) (some (.val d)) r6' r7') e1).trans e2
end
end K02
end
section
set_option linter.all false
set_option Elab.async false
set_option maxRecDepth 100000
set_option maxHeartbeats 1000000
namespace K02
open Fx
theorem src_rng {g : G} {Φ : Fn} {e : IE} {ρ ρ' : Env} {L : Int} (he : e.isVar = none) (h : evE g Φ e ρ = .ok (.val (.int L)) ρ') (h0 : 0 ≤ L) (h1 : L ≤ 16777216) : evI g Φ (.seq (.cb .range (.cons e .nil))) ρ = .ok (rngL 0 L) ρ' := by
  have e1 : evE g Φ (.cb .range (.cons e .nil)) ρ = .ok (.val (.rng 0 L)) ρ' := by
    show ((asArg e ρ (evE g Φ e ρ)).bind _).bind _ = _
    rw [h]
    cases e <;> first | rfl | cases he
  show (asD g.flds (evE g Φ (.cb .range (.cons e .nil)) ρ)).bind _ = _
  rw [e1, as_val, b_ok]
  show (if rngOk 0 L = true then _ else _) = _
  rw [if_pos (rngOk0 h0 h1)]
def five (m : Int) : Prop := 1 ≤ m ∧ m ≤ 5
theorem drawn_ok (n : Nat) (ns : List Int) (hl : ns.length ≤ 63) : ∃ m rs o, md.Φ (n + 3) 16 [.val (.lst (ns.map .int))] = .ok (.val (.tup [.int m, .tup rs])) o ∧ five m ∧ 1 ≤ rs.length ∧ rs.length ≤ 5 ∧ ∀ x ∈ rs, bunch m x = true := by
  obtain ⟨a, b, hb⟩ := box_ok (n + 1) ns hl 0 (by omega) (by omega)
  have c := fun ρ => call2 (ρ := ρ) hb
  obtain ⟨a2, b2, d2, hd2, e2⟩ := e_pick (n := n) (i := 1) (a := a) (b := b) (es := .cons (.cst (.int 5)) (.cons (.cst (.int 5)) (.cons (.cst (.int 5)) (.cons (.cst (.int 4)) (.cons (.cst (.int 4)) (.cons (.cst (.int 3)) (.cons (.cst (.int 2)) (.cons (.cst (.int 1)) .nil)))))))) (ds := [.int 5, .int 5, .int 5, .int 4, .int 4, .int 3, .int 2, .int 1])
    (ρ := [some (.val (.lst (ns.map .int))), some (.lst [.int a, .int b]), none, none, none, none, none, none, none]) rfl rfl (by decide) (by decide)
  obtain ⟨m, rfl, hm⟩ : ∃ m, d2 = .int m ∧ five m := by
    simp at hd2
    rcases hd2 with rfl | rfl | rfl | rfl | rfl
    · exact ⟨5, rfl, by decide, by decide⟩
    · exact ⟨4, rfl, by decide, by decide⟩
    · exact ⟨3, rfl, by decide, by decide⟩
    · exact ⟨2, rfl, by decide, by decide⟩
    · exact ⟨1, rfl, by decide, by decide⟩
  obtain ⟨a3, b3, h, e3, _, _⟩ := e_take (n := n + 1) (i := 1) (a := a2) (b := b2) (m := 5) (e := .cst (.int 5)) (ρ := [some (.val (.lst (ns.map .int))), some (.lst [.int a2, .int b2]), some (.val (.int m)), none, none, none, none, none, none]) rfl rfl rfl (by omega) (by omega)
  obtain ⟨a4, b4, d4, hd4, e4⟩ := e_pick (n := n) (i := 1) (a := a3) (b := b3) (es := .cons (.cst (.int 5)) (.cons (.cst (.int 5)) (.cons (.cst (.int 4)) (.cons (.cst (.int 3)) (.cons (.cst (.int 2)) (.cons (.cst (.int 1)) .nil)))))) (ds := [.int 5, .int 5, .int 4, .int 3, .int 2, .int 1])
    (ρ := E (.lst (ns.map .int)) m h a3 b3 [] none none none) rfl rfl (by decide) (by decide)
  obtain ⟨L, rfl, hL⟩ : ∃ m, d4 = .int m ∧ five m := by
    simp at hd4
    rcases hd4 with rfl | rfl | rfl | rfl | rfl
    · exact ⟨5, rfl, by decide, by decide⟩
    · exact ⟨4, rfl, by decide, by decide⟩
    · exact ⟨3, rfl, by decide, by decide⟩
    · exact ⟨2, rfl, by decide, by decide⟩
    · exact ⟨1, rfl, by decide, by decide⟩
  obtain ⟨a5, b5, rs, l, r6, r7, e5, h5, h6⟩ := loop_ok (n := n + 1) (sc := .lst (ns.map .int)) (h := h) (rngL 0 L) a4 b4 [] none none none hm.1 hm.2 (by rw [rng_len]; have := hL.2; simp; omega) (fun x hx => by cases hx)
  have h7 : rs.length = L.toNat := by rw [h5, rng_len]; simp
  have key : ∃ ρ, evSs md.g (md.Φ (n + 2)) b__law_drawn_table [some (.val (.lst (ns.map .int))), none, none, none, none, none, none, none, none] = .rt (.val (.tup [.int m, .tup rs])) ρ := by
    refine ⟨E (.lst (ns.map .int)) m h a5 b5 rs l r6 r7, ?_⟩
    have s1 : evS md.g (md.Φ (n + 2)) (.asg 1 (.call 8 (.cons (.var 0) (.cons (.cst (.int 0)) .nil)))) [some (.val (.lst (ns.map .int))), none, none, none, none, none, none, none, none] = .nx [some (.val (.lst (ns.map .int))), some (.lst [.int a, .int b]), none, none, none, none, none, none, none] := by
      simp -implicitDefEqProofs [Fx.evSs, Fx.evS, Fx.evE, Fx.evB, Fx.evAs, Fx.evDs, Fx.evO, Fx.evC, Fx.evI, Fx.teE, Fx.tstA, Fx.asArg, Fx.b_ok, Fx.b_exc, Fx.t_ok, Fx.t_exc, Fx.s_nx, Fx.s_rt, Fx.s_exc, Fx.s_bk, Fx.s_ct, Fx.as_val, Fx.as_lst, Fx.as_exc, Fx.o_some, Fx.f_val, Fx.f_lst, Fx.a_v, Fx.a_b, Fx.rb_bl, Fx.rdVar, Fx.argVar, Fx.at0, Fx.at_1, Fx.at_2, Fx.at_3, Fx.at_4, Fx.at_5, Fx.at_6, Fx.at_7, Fx.at_8, Fx.at_9, Fx.at_10, Fx.at_11, Fx.at_12, Fx.cmpP, Fx.g_nil, Fx.g_v, Fx.g_l, Fx.u_b, Fx.u_i, Fx.c_len_t, Fx.c_len_l, Fx.c_abs, Fx.c_int, Fx.c_intb, Fx.c_list_t, Fx.c_list_l, Fx.c_tup_t, Fx.c_tup_l, Fx.c_all, Fx.c_rng1, Fx.c_rng2, Fx.r_i, Fx.r_s, Fx.l_i, Fx.m_lt, Fx.m_gt, Fx.m_le, Fx.m_ge, Fx.m_eq, Fx.m_ne, Fx.m_is, Fx.m_in, Fx.m_ni, Fx.x_t, Fx.x_l, Fx.DefI.fin, Fx.outsA, c]
    have s5 : evS md.g (md.Φ (n + 2)) (.for_ (.one 5) (.seq (.cb .range (.cons (.call 10 (.cons (.var 1) (.cons (.lst (.cons (.cst (.int 5)) (.cons (.cst (.int 5)) (.cons (.cst (.int 4)) (.cons (.cst (.int 3)) (.cons (.cst (.int 2)) (.cons (.cst (.int 1)) .nil))))))) .nil))) .nil))) bodyD) (E (.lst (ns.map .int)) m h a3 b3 [] none none none) = .nx (E (.lst (ns.map .int)) m h a5 b5 rs l r6 r7) :=
      (e_for (src_rng rfl e4 (by have := hL.1; omega) (by have := hL.2; omega))).trans e5
    have s6 : evSs md.g (md.Φ (n + 2)) (.cons (.ret (.tup (.cons (.var 2) (.cons (.cb .tuple (.cons (.var 4) .nil)) .nil)))) .nil) (E (.lst (ns.map .int)) m h a5 b5 rs l r6 r7) = .rt (.val (.tup [.int m, .tup rs])) (E (.lst (ns.map .int)) m h a5 b5 rs l r6 r7) := rfl
    show evSs md.g (md.Φ (n + 2)) (.cons _ (.cons (.asg 2 _) (.cons (.asg 3 _) (.cons (.asg 4 (.lst .nil)) (.cons (.for_ (.one 5) _ bodyD) _))))) _ = _
    rw [ss_cons, s1, s_nx, ss_cons, e_asg, e2, Fx.t_ok, s_nx]
    rw [show (([some (.val (.lst (ns.map .int))), some (.lst [.int a, .int b]), none, none, none, none, none, none, none] : Env).set 1 (some (.lst [.int a2, .int b2]))).set 2 (some (.val (.int m))) = [some (.val (.lst (ns.map .int))), some (.lst [.int a2, .int b2]), some (.val (.int m)), none, none, none, none, none, none] from rfl, ss_cons, e_asg, e3, Fx.t_ok, s_nx]
    rw [ss_cons, show evS md.g (md.Φ (n + 2)) (.asg 4 (.lst .nil)) ((([some (.val (.lst (ns.map .int))), some (.lst [.int a2, .int b2]), some (.val (.int m)), none, none, none, none, none, none] : Env).set 1 (some (.lst [.int a3, .int b3]))).set 3 (some (.val (.int h)))) = .nx (E (.lst (ns.map .int)) m h a3 b3 [] none none none) from rfl, s_nx, ss_cons, s5, s_nx]
    exact s6
  obtain ⟨ρ, key⟩ := key
  obtain ⟨o, e⟩ := phi_rt (md := md) (n := n + 2) (f := 16) (d := d__law_drawn_table) (rs := [.val (.lst (ns.map .int))]) rfl rfl key
  exact ⟨m, rs, o, e, hm, by rw [h7]; have := hL.1; omega, by rw [h7]; have := hL.2; omega, h6⟩
end K02
end
section
set_option linter.all false
set_option Elab.async false
set_option maxRecDepth 100000
set_option maxHeartbeats 1000000
namespace K02
open Fx
/-- what is spoilt: numbers, rows of such -/
def Inp : Nat → D → Prop
  | 0, d => ∃ i : Int, d = .int i ∧ i.natAbs < 100
  | k + 1, d => ∃ ds, d = .tup ds ∧ ds.length ≤ 6 ∧ ∀ x ∈ ds, Inp k x
/-- what comes of it -/
def Out' : Nat → D → Prop
  | 0, d => d.plain = true ∧ d.depth = 0
  | k + 1, d => (d.plain = true ∧ d.depth = 0) ∨ ∃ ds, (d = .tup ds ∨ d = .lst ds) ∧ ds.length ≤ 40 ∧ ∀ x ∈ ds, Out' k x
theorem out_up : ∀ {k : Nat} {d : D}, Out' k d → Out' (k + 1) d
  | 0, d, h => .inl h
  | k + 1, d, h => by
    rcases h with h | ⟨ds, e, l, h⟩
    · exact .inl h
    · exact .inr ⟨ds, e, l, fun x hx => out_up (h x hx)⟩
theorem inp_out : ∀ {k : Nat} {d : D}, Inp k d → Out' k d
  | 0, d, ⟨i, e, _⟩ => by subst e; exact ⟨rfl, rfl⟩
  | k + 1, d, ⟨ds, e, l, h⟩ => .inr ⟨ds, .inl e, by omega, fun x hx => inp_out (h x hx)⟩
theorem depths_le {k : Nat} : ∀ {ds : List D}, (∀ d ∈ ds, d.depth ≤ k) → D.depths ds ≤ k
  | [], _ => Nat.zero_le _
  | d :: ds, h => by
    show max d.depth (D.depths ds) ≤ k
    exact Nat.max_le.mpr ⟨h d (by simp), depths_le fun x hx => h x (by simp [hx])⟩
theorem out_nice : ∀ {k : Nat} {d : D}, Out' k d → d.plain = true ∧ d.depth ≤ k ∧ short d = true
  | 0, d, h => ⟨h.1, by rw [h.2]; exact Nat.le_refl _, by cases d <;> first | rfl | (have := h.2; simp [D.depth] at this)⟩
  | k + 1, d, h => by
    rcases h with h | ⟨ds, e, l, h⟩
    · exact ⟨h.1, by rw [h.2]; omega, by cases d <;> first | rfl | (have := h.2; simp [D.depth] at this)⟩
    · have p : D.plains ds = true := plains_of fun x hx => (out_nice (h x hx)).1
      have q : D.depths ds ≤ k := depths_le fun x hx => (out_nice (h x hx)).2.1
      rcases e with rfl | rfl
      · exact ⟨p, by show D.depths ds + 1 ≤ k + 1; omega, by show decide (ds.length ≤ 16777216) = true; simp; omega⟩
      · exact ⟨p, by show D.depths ds + 1 ≤ k + 1; omega, rfl⟩
def OR (k : Nat) (r : R) : Prop := (∃ d, r = .val d ∧ Out' k d) ∨ ∃ ds, r = .lst ds ∧ Out' k (.lst ds)
theorem or_as {k : Nat} {r : R} {fl : Nat → List Nat} {ρ : Env} (h : OR k r) : ∃ d, asD fl (.ok r ρ) = .ok d ρ ∧ Out' k d := by
  rcases h with ⟨d, rfl, h⟩ | ⟨ds, rfl, h⟩
  · exact ⟨d, rfl, h⟩
  · exact ⟨_, rfl, h⟩
theorem c_str {i : Int} (h : i.natAbs < 100) : cbD .str [.int i] = some (.val (.str (PySem.Str.ofString (toString i)))) := by
  show (if i.natAbs.log2 < 1920 then some (R.val (.str _)) else none) = _
  have : i.natAbs.log2 ≤ i.natAbs := Nat.log2_le_self _
  rw [if_pos (by omega)]
theorem sp0 (n : Nat) (i deep a b : Int) (hi : i.natAbs < 100) : ∃ a' b' r o, md.Φ (n + 3) 14 [.lst [.int a, .int b], .val (.int i), .val (.int deep)] = .ok r (some (.lst [.int a', .int b']) :: o) ∧ OR 1 r := by
  obtain ⟨a', b', d, hd, e⟩ := e_pick (n := n) (i := 0) (a := a) (b := b) (es := (.cons (.bin .Add (.var 1) (.cst (.int 1))) (.cons (.bin .Sub (.var 1) (.cst (.int 1))) (.cons (.cmp .Gt (.var 1) (.cst (.int 0))) (.cons (.bin .Sub (.neg (.cst (.int 1))) (.var 1)) (.cons (.tup (.cons (.var 1) .nil)) (.cons (.cst .non) (.cons (.cb .str (.cons (.var 1) .nil)) (.cons (.bin .Add (.var 1) (.cst (.int 16))) .nil)))))))))
    (ds := [.int (i + 1), .int (i - 1), .bl (decide (0 < i)), .int (-1 - i), .tup [.int i], .non, .str (PySem.Str.ofString (toString i)), .int (i + 16)])
    (ρ := [some (.lst [.int a, .int b]), some (.val (.int i)), some (.val (.int deep)), none, none]) rfl (by
      have := c_str hi
      simp -implicitDefEqProofs [Fx.evSs, Fx.evS, Fx.evE, Fx.evB, Fx.evAs, Fx.evDs, Fx.evO, Fx.evC, Fx.evI, Fx.teE, Fx.tstA, Fx.asArg, Fx.b_ok, Fx.b_exc, Fx.t_ok, Fx.t_exc, Fx.s_nx, Fx.s_rt, Fx.s_exc, Fx.s_bk, Fx.s_ct, Fx.as_val, Fx.as_lst, Fx.as_exc, Fx.o_some, Fx.f_val, Fx.f_lst, Fx.a_v, Fx.a_b, Fx.rb_bl, Fx.rdVar, Fx.argVar, Fx.at0, Fx.at_1, Fx.at_2, Fx.at_3, Fx.at_4, Fx.at_5, Fx.at_6, Fx.at_7, Fx.at_8, Fx.at_9, Fx.at_10, Fx.at_11, Fx.at_12, Fx.cmpP, Fx.g_nil, Fx.g_v, Fx.g_l, Fx.u_b, Fx.u_i, Fx.c_len_t, Fx.c_len_l, Fx.c_abs, Fx.c_int, Fx.c_intb, Fx.c_list_t, Fx.c_list_l, Fx.c_tup_t, Fx.c_tup_l, Fx.c_all, Fx.c_rng1, Fx.c_rng2, Fx.r_i, Fx.r_s, Fx.l_i, Fx.m_lt, Fx.m_gt, Fx.m_le, Fx.m_ge, Fx.m_eq, Fx.m_ne, Fx.m_is, Fx.m_in, Fx.m_ni, Fx.x_t, Fx.x_l, Fx.DefI.fin, Fx.outsA, this, LINE]) (by simp) (by simp)
  have hd' : Out' 1 d := by
    simp at hd
    rcases hd with rfl | rfl | rfl | rfl | rfl | rfl | rfl | rfl
    all_goals first | exact .inl ⟨rfl, rfl⟩ | exact .inr ⟨_, .inl rfl, by simp, fun x hx => by simp at hx; subst hx; exact ⟨rfl, rfl⟩⟩
  refine ⟨a', b', .val d, [some (.val (.int i)), some (.val (.int deep))], ?_, .inl ⟨d, rfl, hd'⟩⟩
  rw [phi (d := d__law_spoilt) rfl rfl]
  have c := fun ρ => call1 (ρ := ρ) (whole (n + 1) (.int i) rfl)
  have t1 : teE md.g (md.Φ (n + 2)) (.isi (.var 1) .tuple) [some (.lst [.int a, .int b]), some (.val (.int i)), some (.val (.int deep)), none, none] = .ok false [some (.lst [.int a, .int b]), some (.val (.int i)), some (.val (.int deep)), none, none] := rfl
  have t2 : teE md.g (md.Φ (n + 2)) (.isi (.var 1) .str) [some (.lst [.int a, .int b]), some (.val (.int i)), some (.val (.int deep)), none, none] = .ok false [some (.lst [.int a, .int b]), some (.val (.int i)), some (.val (.int deep)), none, none] := rfl
  have t3 : teE md.g (md.Φ (n + 2)) (.call 11 (.cons (.var 1) .nil)) [some (.lst [.int a, .int b]), some (.val (.int i)), some (.val (.int deep)), none, none] = .ok true [some (.lst [.int a, .int b]), some (.val (.int i)), some (.val (.int deep)), none, none] := by
    refine te_bl rfl ?_
    simp -implicitDefEqProofs [Fx.evSs, Fx.evS, Fx.evE, Fx.evB, Fx.evAs, Fx.evDs, Fx.evO, Fx.evC, Fx.evI, Fx.teE, Fx.tstA, Fx.asArg, Fx.b_ok, Fx.b_exc, Fx.t_ok, Fx.t_exc, Fx.s_nx, Fx.s_rt, Fx.s_exc, Fx.s_bk, Fx.s_ct, Fx.as_val, Fx.as_lst, Fx.as_exc, Fx.o_some, Fx.f_val, Fx.f_lst, Fx.a_v, Fx.a_b, Fx.rb_bl, Fx.rdVar, Fx.argVar, Fx.at0, Fx.at_1, Fx.at_2, Fx.at_3, Fx.at_4, Fx.at_5, Fx.at_6, Fx.at_7, Fx.at_8, Fx.at_9, Fx.at_10, Fx.at_11, Fx.at_12, Fx.cmpP, Fx.g_nil, Fx.g_v, Fx.g_l, Fx.u_b, Fx.u_i, Fx.c_len_t, Fx.c_len_l, Fx.c_abs, Fx.c_int, Fx.c_intb, Fx.c_list_t, Fx.c_list_l, Fx.c_tup_t, Fx.c_tup_l, Fx.c_all, Fx.c_rng1, Fx.c_rng2, Fx.r_i, Fx.r_s, Fx.l_i, Fx.m_lt, Fx.m_gt, Fx.m_le, Fx.m_ge, Fx.m_eq, Fx.m_ne, Fx.m_is, Fx.m_in, Fx.m_ni, Fx.x_t, Fx.x_l, Fx.DefI.fin, Fx.outsA, c, isInt]
  have key : evSs md.g (md.Φ (n + 2)) b__law_spoilt [some (.lst [.int a, .int b]), some (.val (.int i)), some (.val (.int deep)), none, none] = .rt (.val d) [some (.lst [.int a', .int b']), some (.val (.int i)), some (.val (.int deep)), none, none] := by
    unfold b__law_spoilt
    rw [ss_cons, ifs_t t1, if_neg Bool.false_ne_true, ss_nil, s_nx, ss_cons, ifs_t t2, if_neg Bool.false_ne_true, ss_nil, s_nx, ss_cons, ifs_t t3, if_pos rfl, ss_cons, e_ret, e]
    rfl
  show d__law_spoilt.fin (evSs md.g (md.Φ (n + 2)) b__law_spoilt [some (.lst [.int a, .int b]), some (.val (.int i)), some (.val (.int deep)), none, none]) = _
  rw [key]; rfl
theorem cut_mem {ds : List D} {lo hi : Option Int} {d : D} (h : d ∈ cutD ds lo hi) : d ∈ ds := List.mem_of_mem_drop (List.mem_of_mem_take h)
theorem cut_le {ds : List D} {lo hi : Option Int} : (cutD ds lo hi).length ≤ ds.length := by
  unfold cutD
  rw [List.length_take, List.length_drop]
  omega
/-- t + u -/
theorem e_add {g : G} {Φ : Fn} {x y : IE} {a b : List D} {ρ ρ' ρ'' : Env} (hx : asArg x ρ (evE g Φ x ρ) = .ok (.v (.val (.tup a))) ρ') (hy : asArg y ρ' (evE g Φ y ρ') = .ok (.v (.val (.tup b))) ρ'') (hl : a.length + b.length ≤ 1000) : evE g Φ (.bin .Add x y) ρ = .ok (.val (.tup (a ++ b))) ρ'' := by
  rw [e_bin, hx, b_ok, hy, b_ok]
  show optR (if a.length + b.length ≤ LINE then some (R.val (.tup (a ++ b))) else none) ρ'' = _
  rw [if_pos (by show _ ≤ 16777216; omega)]
  rfl
theorem as_bin {g : G} {Φ : Fn} {op : PySem.Operator} {x y : IE} {ρ ρ' : Env} {r : R} (h : evE g Φ (.bin op x y) ρ = .ok r ρ') : asArg (.bin op x y) ρ (evE g Φ (.bin op x y) ρ) = .ok (.v r) ρ' := by
  rw [h]; rfl
end K02
end
section
set_option linter.all false
set_option Elab.async false
set_option maxRecDepth 100000
set_option maxHeartbeats 2000000
namespace K02
open Fx
theorem e_slc {g : G} {Φ : Fn} {i : Nat} {lo hi : IO} {l h : Option Int} {ds : List D} {ρ : Env} (hi1 : ρ.at i = some (.val (.tup ds))) (h1 : evO g Φ lo ρ = .ok l ρ) (h2 : evO g Φ hi ρ = .ok h ρ) : asArg (.slc (.var i) lo hi) ρ (evE g Φ (.slc (.var i) lo hi) ρ) = .ok (.v (.val (.tup (cutD ds l h)))) ρ := by
  have e : evE g Φ (.slc (.var i) lo hi) ρ = .ok (.val (.tup (cutD ds l h))) ρ := by
    show ((argVar i ρ).bind fun x ρ => (evO g Φ lo ρ).bind fun l ρ => (evO g Φ hi ρ).bind fun h ρ => match x.d g.flds ρ with
      | some x => optR (slcD x l h) ρ
      | none => .stuck) = _
    rw [av_val hi1, b_ok, h1, b_ok, h2, b_ok]
    rfl
  rw [e]; rfl
def F (ds : List D) (deep a b at_ : Int) (how : Option R) : Env := [some (.lst [.int a, .int b]), some (.val (.tup ds)), some (.val (.int deep)), some (.val (.int at_)), how]
section
variable {N k : Nat} {ds : List D} {deep : Int}
theorem cond_ok {a b at_ : Int} (hp : D.plains ds = true) : ∃ a' b' c, teE md.g (md.Φ (N + 2)) (.bop true (.cons (.cmp .NotEq (.var 1) (.tup .nil)) (.cons (.cmp .Gt (.var 2) (.cst (.int 0))) (.cons (.cmp .Gt (.call 9 (.cons (.var 0) (.cons (.cst (.int 5)) .nil))) (.cst (.int 0))) .nil)))) (F ds deep a b at_ none) = .ok c (F ds deep a' b' at_ none) ∧ (c = true → ds ≠ []) := by
  have q1 : evE md.g (md.Φ (N + 2)) (.cmp .NotEq (.var 1) (.tup .nil)) (F ds deep a b at_ none) = .ok (.val (.bl (!ds.isEmpty))) (F ds deep a b at_ none) := by
    have q := eqD_tnil hp
    unfold F
    simp -implicitDefEqProofs [Fx.evSs, Fx.evS, Fx.evE, Fx.evB, Fx.evAs, Fx.evDs, Fx.evO, Fx.evC, Fx.evI, Fx.teE, Fx.tstA, Fx.asArg, Fx.b_ok, Fx.b_exc, Fx.t_ok, Fx.t_exc, Fx.s_nx, Fx.s_rt, Fx.s_exc, Fx.s_bk, Fx.s_ct, Fx.as_val, Fx.as_lst, Fx.as_exc, Fx.o_some, Fx.f_val, Fx.f_lst, Fx.a_v, Fx.a_b, Fx.rb_bl, Fx.rdVar, Fx.argVar, Fx.at0, Fx.at_1, Fx.at_2, Fx.at_3, Fx.at_4, Fx.at_5, Fx.at_6, Fx.at_7, Fx.at_8, Fx.at_9, Fx.at_10, Fx.at_11, Fx.at_12, Fx.cmpP, Fx.g_nil, Fx.g_v, Fx.g_l, Fx.u_b, Fx.u_i, Fx.c_len_t, Fx.c_len_l, Fx.c_abs, Fx.c_int, Fx.c_intb, Fx.c_list_t, Fx.c_list_l, Fx.c_tup_t, Fx.c_tup_l, Fx.c_all, Fx.c_rng1, Fx.c_rng2, Fx.r_i, Fx.r_s, Fx.l_i, Fx.m_lt, Fx.m_gt, Fx.m_le, Fx.m_ge, Fx.m_eq, Fx.m_ne, Fx.m_is, Fx.m_in, Fx.m_ni, Fx.x_t, Fx.x_l, Fx.DefI.fin, Fx.outsA, q, LINE]
  have q2 : evE md.g (md.Φ (N + 2)) (.cmp .Gt (.var 2) (.cst (.int 0))) (F ds deep a b at_ none) = .ok (.val (.bl (decide (0 < deep)))) (F ds deep a b at_ none) := by
    unfold F
    simp -implicitDefEqProofs [Fx.evSs, Fx.evS, Fx.evE, Fx.evB, Fx.evAs, Fx.evDs, Fx.evO, Fx.evC, Fx.evI, Fx.teE, Fx.tstA, Fx.asArg, Fx.b_ok, Fx.b_exc, Fx.t_ok, Fx.t_exc, Fx.s_nx, Fx.s_rt, Fx.s_exc, Fx.s_bk, Fx.s_ct, Fx.as_val, Fx.as_lst, Fx.as_exc, Fx.o_some, Fx.f_val, Fx.f_lst, Fx.a_v, Fx.a_b, Fx.rb_bl, Fx.rdVar, Fx.argVar, Fx.at0, Fx.at_1, Fx.at_2, Fx.at_3, Fx.at_4, Fx.at_5, Fx.at_6, Fx.at_7, Fx.at_8, Fx.at_9, Fx.at_10, Fx.at_11, Fx.at_12, Fx.cmpP, Fx.g_nil, Fx.g_v, Fx.g_l, Fx.u_b, Fx.u_i, Fx.c_len_t, Fx.c_len_l, Fx.c_abs, Fx.c_int, Fx.c_intb, Fx.c_list_t, Fx.c_list_l, Fx.c_tup_t, Fx.c_tup_l, Fx.c_all, Fx.c_rng1, Fx.c_rng2, Fx.r_i, Fx.r_s, Fx.l_i, Fx.m_lt, Fx.m_gt, Fx.m_le, Fx.m_ge, Fx.m_eq, Fx.m_ne, Fx.m_is, Fx.m_in, Fx.m_ni, Fx.x_t, Fx.x_l, Fx.DefI.fin, Fx.outsA]
  obtain ⟨a', b', r, c, _, _⟩ := e_take (n := N + 1) (i := 0) (a := a) (b := b) (m := 5) (e := .cst (.int 5)) (ρ := F ds deep a b at_ none) rfl rfl rfl (by omega) (by omega)
  have q3 : evE md.g (md.Φ (N + 2)) (.cmp .Gt (.call 9 (.cons (.var 0) (.cons (.cst (.int 5)) .nil))) (.cst (.int 0))) (F ds deep a b at_ none) = .ok (.val (.bl (decide (0 < r)))) (F ds deep a' b' at_ none) := by
    show ((asArg _ _ (evE md.g (md.Φ (N + 2)) (.call 9 (.cons (.var 0) (.cons (.cst (.int 5)) .nil))) _)).bind _) = _
    rw [c]; rfl
  have fin : ∀ {c : Bool} {ρ' : Env}, evB md.g (md.Φ (N + 2)) true (.cons (.cmp .NotEq (.var 1) (.tup .nil)) (.cons (.cmp .Gt (.var 2) (.cst (.int 0))) (.cons (.cmp .Gt (.call 9 (.cons (.var 0) (.cons (.cst (.int 5)) .nil))) (.cst (.int 0))) .nil))) (F ds deep a b at_ none) = .ok (.val (.bl c)) ρ' → teE md.g (md.Φ (N + 2)) (.bop true (.cons (.cmp .NotEq (.var 1) (.tup .nil)) (.cons (.cmp .Gt (.var 2) (.cst (.int 0))) (.cons (.cmp .Gt (.call 9 (.cons (.var 0) (.cons (.cst (.int 5)) .nil))) (.cst (.int 0))) .nil)))) (F ds deep a b at_ none) = .ok c ρ' := by
    intro c ρ' h
    rw [te_tv rfl]
    show (evB md.g (md.Φ (N + 2)) true _ _).bind _ = _
    rw [h]; rfl
  cases hd : ds.isEmpty with
  | true =>
    rw [hd] at q1
    exact ⟨a, b, false, fin (and_ff (by rw [q1]; rfl)), fun z => by cases z⟩
  | false =>
    rw [hd] at q1
    by_cases h2 : 0 < deep
    · rw [decide_eq_true h2] at q2
      refine ⟨a', b', decide (0 < r), fin ?_, fun _ z => by rw [z] at hd; cases hd⟩
      rw [and_tt (by rw [q1]; rfl), and_tt (by rw [q2]; rfl)]
      exact q3
    · rw [decide_eq_false h2] at q2
      refine ⟨a, b, false, fin ?_, fun z => by cases z⟩
      rw [and_tt (by rw [q1]; rfl)]
      exact and_ff (by rw [q2]; rfl)
theorem how_t {a b at_ how j : Int} : teE md.g (md.Φ (N + 2)) (.cmp .Eq (.var 4) (.cst (.int j))) (F ds deep a b at_ (some (.val (.int how)))) = .ok (how == j) (F ds deep a b at_ (some (.val (.int how)))) := by
  refine te_bl rfl ?_
  unfold F
  simp -implicitDefEqProofs [Fx.evSs, Fx.evS, Fx.evE, Fx.evB, Fx.evAs, Fx.evDs, Fx.evO, Fx.evC, Fx.evI, Fx.teE, Fx.tstA, Fx.asArg, Fx.b_ok, Fx.b_exc, Fx.t_ok, Fx.t_exc, Fx.s_nx, Fx.s_rt, Fx.s_exc, Fx.s_bk, Fx.s_ct, Fx.as_val, Fx.as_lst, Fx.as_exc, Fx.o_some, Fx.f_val, Fx.f_lst, Fx.a_v, Fx.a_b, Fx.rb_bl, Fx.rdVar, Fx.argVar, Fx.at0, Fx.at_1, Fx.at_2, Fx.at_3, Fx.at_4, Fx.at_5, Fx.at_6, Fx.at_7, Fx.at_8, Fx.at_9, Fx.at_10, Fx.at_11, Fx.at_12, Fx.cmpP, Fx.g_nil, Fx.g_v, Fx.g_l, Fx.u_b, Fx.u_i, Fx.c_len_t, Fx.c_len_l, Fx.c_abs, Fx.c_int, Fx.c_intb, Fx.c_list_t, Fx.c_list_l, Fx.c_tup_t, Fx.c_tup_l, Fx.c_all, Fx.c_rng1, Fx.c_rng2, Fx.r_i, Fx.r_s, Fx.l_i, Fx.m_lt, Fx.m_gt, Fx.m_le, Fx.m_ge, Fx.m_eq, Fx.m_ne, Fx.m_is, Fx.m_in, Fx.m_ni, Fx.x_t, Fx.x_l, Fx.DefI.fin, Fx.outsA, eqD_int]
theorem out_tup {es : List D} (h : ∀ x ∈ es, Out' (k + 1) x) (hl : es.length ≤ 40) : OR (k + 2) (.val (.tup es)) := .inl ⟨_, rfl, .inr ⟨es, .inl rfl, hl, h⟩⟩
theorem o3 {ρ : Env} {i : Nat} {at_ : Int} (h : ρ.at i = some (.val (.int at_))) {Φ : Fn} : evO md.g Φ (.som (.var i)) ρ = .ok (some at_) ρ := by
  show (asD md.g.flds (rdVar md.g.flds i ρ)).bind _ = _
  rw [rd_val h]; rfl
theorem o0 {ρ : Env} {Φ : Fn} : evO md.g Φ .non ρ = .ok none ρ := rfl
theorem om {ρ : Env} {Φ : Fn} : evO md.g Φ (.som (.neg (.cst (.int 1)))) ρ = .ok (some (-1)) ρ := rfl
theorem oc {ρ : Env} {Φ : Fn} : evO md.g Φ (.som (.cst (.int 1))) ρ = .ok (some 1) ρ := rfl
theorem o31 {ρ : Env} {i : Nat} {at_ : Int} (h : ρ.at i = some (.val (.int at_))) {Φ : Fn} : evO md.g Φ (.som (.bin .Add (.var i) (.cst (.int 1)))) ρ = .ok (some (at_ + 1)) ρ := by
  show (asD md.g.flds ((argVar i ρ).bind _)).bind _ = _
  rw [av_val h]; rfl
theorem rest_ok {a b at_ how : Int} (hl : ds.length ≤ 6) (hin : ∀ d ∈ ds, Out' (k + 1) d) : ∃ r, OR (k + 2) r ∧ evSs md.g (md.Φ (N + 2))
   (.cons (.ifs (.cmp .Eq (.var 4) (.cst (.int 0))) (.cons (.ret (.cb .list (.cons (.var 1) .nil))) .nil) .nil) (.cons (.ifs (.cmp .Eq (.var 4) (.cst (.int 1))) (.cons (.ret (.bin .Add (.slc (.var 1) .non (.som (.var 3))) (.slc (.var 1) (.som (.bin .Add (.var 3) (.cst (.int 1)))) .non))) .nil) .nil) (.cons (.ifs (.cmp .Eq (.var 4) (.cst (.int 2))) (.cons (.ret (.bin .Add (.bin .Add (.slc (.var 1) .non (.som (.var 3))) (.slc (.var 1) (.som (.var 3)) (.som (.bin .Add (.var 3) (.cst (.int 1)))))) (.slc (.var 1) (.som (.var 3)) .non))) .nil) .nil) (.cons (.ifs (.cmp .Eq (.var 4) (.cst (.int 3))) (.cons (.ret (.bin .Add (.slc (.var 1) (.som (.var 3)) .non) (.slc (.var 1) .non (.som (.var 3))))) .nil) .nil) (.cons (.ifs (.cmp .Eq (.var 4) (.cst (.int 4))) (.cons (.ret (.bin .Add (.var 1) (.tup (.cons (.tup .nil) .nil)))) .nil) .nil) (.cons (.ifs (.cmp .Eq (.var 4) (.cst (.int 5))) (.cons (.ret (.bin .Add (.bin .Add (.slc (.var 1) .non (.som (.var 3))) (.tup (.cons (.cst (.int 0)) .nil))) (.slc (.var 1) (.som (.var 3)) .non))) .nil) .nil) (.cons (.ifs (.cmp .Eq (.var 4) (.cst (.int 6))) (.cons (.ret (.bin .Add (.slc (.var 1) .non (.som (.neg (.cst (.int 1))))) (.slc (.var 1) .non (.som (.cst (.int 1)))))) .nil) .nil) (.cons (.ret (.cst .non)) .nil))))))))
   (F ds deep a b at_ (some (.val (.int how)))) = .rt r (F ds deep a b at_ (some (.val (.int how)))) := by
  have mem2 : ∀ {x y : List D}, (∀ d ∈ x, Out' (k + 1) d) → (∀ d ∈ y, Out' (k + 1) d) → ∀ d ∈ x ++ y, Out' (k + 1) d := fun hx hy d hd => (List.mem_append.mp hd).elim (hx d) (hy d)
  have mc : ∀ lo hi, ∀ d ∈ cutD ds lo hi, Out' (k + 1) d := fun lo hi d hd => hin d (cut_mem hd)
  have lc : ∀ lo hi, (cutD ds lo hi).length ≤ 6 := fun lo hi => Nat.le_trans cut_le hl
  have at1 : (F ds deep a b at_ (some (.val (.int how)))).at 1 = some (.val (.tup ds)) := rfl
  have at3 : (F ds deep a b at_ (some (.val (.int how)))).at 3 = some (.val (.int at_)) := rfl
  have ret : ∀ {e : IE} {r : R}, evE md.g (md.Φ (N + 2)) e (F ds deep a b at_ (some (.val (.int how)))) = .ok r (F ds deep a b at_ (some (.val (.int how)))) → ∀ ss, evSs md.g (md.Φ (N + 2)) (.cons (.ret e) .nil) (F ds deep a b at_ (some (.val (.int how)))) |>.thn (fun ρ => evSs md.g (md.Φ (N + 2)) ss ρ) |> (· = SRes.rt r (F ds deep a b at_ (some (.val (.int how))))) := by
    intro e r h ss
    show ((evSs md.g (md.Φ (N + 2)) (.cons (.ret e) .nil) _).thn _) = _
    rw [ss_cons, e_ret, h]; rfl
  have z : Out' (k + 1) (.int 0) := .inl ⟨rfl, rfl⟩
  have zt : Out' (k + 1) (.tup []) := .inr ⟨[], .inl rfl, by simp, fun x hx => by cases hx⟩
  by_cases h0 : how = 0
  · refine ⟨.lst ds, .inr ⟨ds, rfl, .inr ⟨ds, .inr rfl, by omega, hin⟩⟩, ?_⟩
    rw [ss_cons, ifs_t how_t, if_pos (by simp [h0])]
    exact ret rfl _
  by_cases h1 : how = 1
  · have e := e_add (e_slc (g := md.g) (Φ := md.Φ (N + 2)) at1 o0 (o3 at3)) (e_slc (g := md.g) (Φ := md.Φ (N + 2)) at1 (o31 at3) o0) (by have := lc none (some at_); have := lc (some (at_ + 1)) none; omega)
    refine ⟨_, out_tup (mem2 (mc none (some at_)) (mc (some (at_ + 1)) none)) (by rw [List.length_append]; have := lc none (some at_); have := lc (some (at_ + 1)) none; omega), ?_⟩
    rw [ss_cons, ifs_t how_t, if_neg (by simp [h0]), ss_nil, s_nx, ss_cons, ifs_t how_t, if_pos (by simp [h1])]
    exact ret e _
  by_cases h2 : how = 2
  · have e0 := e_add (e_slc (g := md.g) (Φ := md.Φ (N + 2)) at1 o0 (o3 at3)) (e_slc (g := md.g) (Φ := md.Φ (N + 2)) at1 (o3 at3) (o31 at3)) (by have := lc none (some at_); have := lc (some at_) (some (at_ + 1)); omega)
    have e := e_add (as_bin e0) (e_slc (g := md.g) (Φ := md.Φ (N + 2)) at1 (o3 at3) o0) (by rw [List.length_append]; have := lc none (some at_); have := lc (some at_) (some (at_ + 1)); have := lc (some at_) none; omega)
    refine ⟨_, out_tup (mem2 (mem2 (mc none (some at_)) (mc (some at_) (some (at_ + 1)))) (mc (some at_) none)) (by rw [List.length_append, List.length_append]; have := lc none (some at_); have := lc (some at_) (some (at_ + 1)); have := lc (some at_) none; omega), ?_⟩
    rw [ss_cons, ifs_t how_t, if_neg (by simp [h0]), ss_nil, s_nx, ss_cons, ifs_t how_t, if_neg (by simp [h1]), ss_nil, s_nx, ss_cons, ifs_t how_t, if_pos (by simp [h2])]
    exact ret e _
  by_cases h3 : how = 3
  · have e := e_add (e_slc (g := md.g) (Φ := md.Φ (N + 2)) at1 (o3 at3) o0) (e_slc (g := md.g) (Φ := md.Φ (N + 2)) at1 o0 (o3 at3)) (by have := lc none (some at_); have := lc (some at_) none; omega)
    refine ⟨_, out_tup (mem2 (mc (some at_) none) (mc none (some at_))) (by rw [List.length_append]; have := lc none (some at_); have := lc (some at_) none; omega), ?_⟩
    rw [ss_cons, ifs_t how_t, if_neg (by simp [h0]), ss_nil, s_nx, ss_cons, ifs_t how_t, if_neg (by simp [h1]), ss_nil, s_nx, ss_cons, ifs_t how_t, if_neg (by simp [h2]), ss_nil, s_nx, ss_cons, ifs_t how_t, if_pos (by simp [h3])]
    exact ret e _
  by_cases h4 : how = 4
  · have e := e_add (g := md.g) (Φ := md.Φ (N + 2)) (x := .var 1) (y := .tup (.cons (.tup .nil) .nil)) (a := ds) (b := [.tup []]) (ρ := F ds deep a b at_ (some (.val (.int how)))) rfl rfl (by simp; omega)
    refine ⟨_, out_tup (mem2 (y := [.tup []]) hin (fun d hd => by simp at hd; rw [hd]; exact zt)) (by simp; omega), ?_⟩
    rw [ss_cons, ifs_t how_t, if_neg (by simp [h0]), ss_nil, s_nx, ss_cons, ifs_t how_t, if_neg (by simp [h1]), ss_nil, s_nx, ss_cons, ifs_t how_t, if_neg (by simp [h2]), ss_nil, s_nx, ss_cons, ifs_t how_t, if_neg (by simp [h3]), ss_nil, s_nx, ss_cons, ifs_t how_t, if_pos (by simp [h4])]
    exact ret e _
  by_cases h5 : how = 5
  · have e0 := e_add (e_slc (g := md.g) (Φ := md.Φ (N + 2)) at1 o0 (o3 at3)) (y := .tup (.cons (.cst (.int 0)) .nil)) (b := [.int 0]) rfl (by have := lc none (some at_); simp; omega)
    have e := e_add (as_bin e0) (e_slc (g := md.g) (Φ := md.Φ (N + 2)) at1 (o3 at3) o0) (by have := lc none (some at_); have := lc (some at_) none; simp; omega)
    refine ⟨_, out_tup (mem2 (mem2 (y := [.int 0]) (mc none (some at_)) (fun d hd => by simp at hd; rw [hd]; exact z)) (mc (some at_) none)) (by have := lc none (some at_); have := lc (some at_) none; simp; omega), ?_⟩
    rw [ss_cons, ifs_t how_t, if_neg (by simp [h0]), ss_nil, s_nx, ss_cons, ifs_t how_t, if_neg (by simp [h1]), ss_nil, s_nx, ss_cons, ifs_t how_t, if_neg (by simp [h2]), ss_nil, s_nx, ss_cons, ifs_t how_t, if_neg (by simp [h3]), ss_nil, s_nx, ss_cons, ifs_t how_t, if_neg (by simp [h4]), ss_nil, s_nx, ss_cons, ifs_t how_t, if_pos (by simp [h5])]
    exact ret e _
  by_cases h6 : how = 6
  · have e := e_add (e_slc (g := md.g) (Φ := md.Φ (N + 2)) (lo := .non) (hi := .som (.neg (.cst (.int 1)))) at1 o0 om) (e_slc (g := md.g) (Φ := md.Φ (N + 2)) (lo := .non) (hi := .som (.cst (.int 1))) at1 o0 oc) (by have := lc none (some (-1)); have := lc none (some 1); omega)
    refine ⟨_, out_tup (mem2 (mc none (some (-1))) (mc none (some 1))) (by rw [List.length_append]; have := lc none (some (-1)); have := lc none (some 1); omega), ?_⟩
    rw [ss_cons, ifs_t how_t, if_neg (by simp [h0]), ss_nil, s_nx, ss_cons, ifs_t how_t, if_neg (by simp [h1]), ss_nil, s_nx, ss_cons, ifs_t how_t, if_neg (by simp [h2]), ss_nil, s_nx, ss_cons, ifs_t how_t, if_neg (by simp [h3]), ss_nil, s_nx, ss_cons, ifs_t how_t, if_neg (by simp [h4]), ss_nil, s_nx, ss_cons, ifs_t how_t, if_neg (by simp [h5]), ss_nil, s_nx, ss_cons, ifs_t how_t, if_pos (by simp [h6])]
    exact ret e _
  · refine ⟨.val .non, .inl ⟨_, rfl, .inl ⟨rfl, rfl⟩⟩, ?_⟩
    rw [ss_cons, ifs_t how_t, if_neg (by simp [h0]), ss_nil, s_nx, ss_cons, ifs_t how_t, if_neg (by simp [h1]), ss_nil, s_nx, ss_cons, ifs_t how_t, if_neg (by simp [h2]), ss_nil, s_nx, ss_cons, ifs_t how_t, if_neg (by simp [h3]), ss_nil, s_nx, ss_cons, ifs_t how_t, if_neg (by simp [h4]), ss_nil, s_nx, ss_cons, ifs_t how_t, if_neg (by simp [h5]), ss_nil, s_nx, ss_cons, ifs_t how_t, if_neg (by simp [h6]), ss_nil, s_nx]
    rfl
end
end K02
end
section
set_option linter.all false
set_option Elab.async false
set_option maxRecDepth 100000
set_option maxHeartbeats 2000000
namespace K02
open Fx
theorem sp_call {N : Nat} {ds : List D} {deep a b at_ : Int} {d : D} {r : R} {a' b' : Int} {o : Env} (hx : L2.atI ds at_ = some d) (e : md.Φ (N + 2) 14 [.lst [.int a, .int b], .val d, .val (.int (deep - 1))] = .ok r (some (.lst [.int a', .int b']) :: o)) :
    evE md.g (md.Φ (N + 2)) (.call 14 (.cons (.var 0) (.cons (.idx (.var 1) (.var 3)) (.cons (.bin .Sub (.var 2) (.cst (.int 1))) .nil)))) (F ds deep a b at_ none) = .ok r (F ds deep a' b' at_ none) := by
  have e2 : evAs md.g (md.Φ (N + 2)) (.cons (.var 0) (.cons (.idx (.var 1) (.var 3)) (.cons (.bin .Sub (.var 2) (.cst (.int 1))) .nil))) (F ds deep a b at_ none) = .ok [.b 0, .v (.val d), .v (.val (.int (deep - 1)))] (F ds deep a b at_ none) := by
    unfold F
    simp -implicitDefEqProofs [Fx.evSs, Fx.evS, Fx.evE, Fx.evB, Fx.evAs, Fx.evDs, Fx.evO, Fx.evC, Fx.evI, Fx.teE, Fx.tstA, Fx.asArg, Fx.b_ok, Fx.b_exc, Fx.t_ok, Fx.t_exc, Fx.s_nx, Fx.s_rt, Fx.s_exc, Fx.s_bk, Fx.s_ct, Fx.as_val, Fx.as_lst, Fx.as_exc, Fx.o_some, Fx.f_val, Fx.f_lst, Fx.a_v, Fx.a_b, Fx.rb_bl, Fx.rdVar, Fx.argVar, Fx.at0, Fx.at_1, Fx.at_2, Fx.at_3, Fx.at_4, Fx.at_5, Fx.at_6, Fx.at_7, Fx.at_8, Fx.at_9, Fx.at_10, Fx.at_11, Fx.at_12, Fx.cmpP, Fx.g_nil, Fx.g_v, Fx.g_l, Fx.u_b, Fx.u_i, Fx.c_len_t, Fx.c_len_l, Fx.c_abs, Fx.c_int, Fx.c_intb, Fx.c_list_t, Fx.c_list_l, Fx.c_tup_t, Fx.c_tup_l, Fx.c_all, Fx.c_rng1, Fx.c_rng2, Fx.r_i, Fx.r_s, Fx.l_i, Fx.m_lt, Fx.m_gt, Fx.m_le, Fx.m_ge, Fx.m_eq, Fx.m_ne, Fx.m_is, Fx.m_in, Fx.m_ni, Fx.x_t, Fx.x_l, Fx.DefI.fin, Fx.outsA, hx]
  show (evAs md.g (md.Φ (N + 2)) _ _).bind _ = _
  rw [e2, b_ok]
  have hh : hand [.b 0, .v (.val d), .v (.val (.int (deep - 1)))] (F ds deep a b at_ none) = some ([.lst [.int a, .int b], .val d, .val (.int (deep - 1))], (F ds deep a b at_ none).set 0 none) := rfl
  rw [call_v hh e]
  show Res.ok r ((giveB [.v (.val d), .v (.val (.int (deep - 1)))] o ((F ds deep a b at_ none).set 0 none)).set 0 _) = _
  have : giveB [.v (.val d), .v (.val (.int (deep - 1)))] o ((F ds deep a b at_ none).set 0 none) = (F ds deep a b at_ none).set 0 none := by
    cases o with
    | nil => rfl
    | cons x o => cases o <;> rfl
  rw [this]; rfl
theorem sp_tup (N k : Nat) (ds : List D) (deep a b : Int) (hl : ds.length ≤ 6) (hp : D.plains ds = true) (hin : ∀ d ∈ ds, Out' (k + 1) d)
    (inner : ∀ d ∈ ds, ∀ a b : Int, ∃ a' b' r o, md.Φ (N + 2) 14 [.lst [.int a, .int b], .val d, .val (.int (deep - 1))] = .ok r (some (.lst [.int a', .int b']) :: o) ∧ OR (k + 1) r) :
    ∃ a' b' r o, md.Φ (N + 3) 14 [.lst [.int a, .int b], .val (.tup ds), .val (.int deep)] = .ok r (some (.lst [.int a', .int b']) :: o) ∧ OR (k + 2) r := by
  have t1 : teE md.g (md.Φ (N + 2)) (.isi (.var 1) .tuple) [some (.lst [.int a, .int b]), some (.val (.tup ds)), some (.val (.int deep)), none, none] = .ok true [some (.lst [.int a, .int b]), some (.val (.tup ds)), some (.val (.int deep)), none, none] := rfl
  obtain ⟨a1, b1, at_, e1, p0, p1⟩ := e_take (n := N + 1) (i := 0) (a := a) (b := b) (m := ds.length + 1) (e := .bin .Add (.cb .len (.cons (.var 1) .nil)) (.cst (.int 1))) (ρ := [some (.lst [.int a, .int b]), some (.val (.tup ds)), some (.val (.int deep)), none, none]) rfl rfl (by simp -implicitDefEqProofs [Fx.evSs, Fx.evS, Fx.evE, Fx.evB, Fx.evAs, Fx.evDs, Fx.evO, Fx.evC, Fx.evI, Fx.teE, Fx.tstA, Fx.asArg, Fx.b_ok, Fx.b_exc, Fx.t_ok, Fx.t_exc, Fx.s_nx, Fx.s_rt, Fx.s_exc, Fx.s_bk, Fx.s_ct, Fx.as_val, Fx.as_lst, Fx.as_exc, Fx.o_some, Fx.f_val, Fx.f_lst, Fx.a_v, Fx.a_b, Fx.rb_bl, Fx.rdVar, Fx.argVar, Fx.at0, Fx.at_1, Fx.at_2, Fx.at_3, Fx.at_4, Fx.at_5, Fx.at_6, Fx.at_7, Fx.at_8, Fx.at_9, Fx.at_10, Fx.at_11, Fx.at_12, Fx.cmpP, Fx.g_nil, Fx.g_v, Fx.g_l, Fx.u_b, Fx.u_i, Fx.c_len_t, Fx.c_len_l, Fx.c_abs, Fx.c_int, Fx.c_intb, Fx.c_list_t, Fx.c_list_l, Fx.c_tup_t, Fx.c_tup_l, Fx.c_all, Fx.c_rng1, Fx.c_rng2, Fx.r_i, Fx.r_s, Fx.l_i, Fx.m_lt, Fx.m_gt, Fx.m_le, Fx.m_ge, Fx.m_eq, Fx.m_ne, Fx.m_is, Fx.m_in, Fx.m_ni, Fx.x_t, Fx.x_l, Fx.DefI.fin, Fx.outsA]) (by omega) (by omega)
  obtain ⟨a2, b2, c, e2, hc⟩ := cond_ok (N := N) (deep := deep) (a := a1) (b := b1) (at_ := at_) hp
  have fin : ∀ {r : R} {a b at_ : Int} {how : Option R}, evSs md.g (md.Φ (N + 2)) b__law_spoilt [some (.lst [.int a, .int b]), some (.val (.tup ds)), some (.val (.int deep)), none, none] = .rt r (F ds deep a b at_ how) → True := fun _ => trivial
  have done : ∀ {r : R} {a' b' at' : Int} {how : Option R}, OR (k + 2) r → evSs md.g (md.Φ (N + 2)) b__law_spoilt [some (.lst [.int a, .int b]), some (.val (.tup ds)), some (.val (.int deep)), none, none] = .rt r (F ds deep a' b' at' how) →
      ∃ a' b' r o, md.Φ (N + 3) 14 [.lst [.int a, .int b], .val (.tup ds), .val (.int deep)] = .ok r (some (.lst [.int a', .int b']) :: o) ∧ OR (k + 2) r := by
    intro r a' b' at' how hr e
    refine ⟨a', b', r, [some (.val (.tup ds)), some (.val (.int deep))], ?_, hr⟩
    rw [phi (d := d__law_spoilt) rfl rfl]
    show d__law_spoilt.fin (evSs md.g (md.Φ (N + 2)) b__law_spoilt [some (.lst [.int a, .int b]), some (.val (.tup ds)), some (.val (.int deep)), none, none]) = _
    rw [e]; rfl
  have lc : ∀ lo hi, (cutD ds lo hi).length ≤ 6 := fun lo hi => Nat.le_trans cut_le hl
  cases c with
  | true =>
    have hne := hc rfl
    have hpos : 0 < ds.length := by cases ds with
      | nil => exact absurd rfl hne
      | cons _ _ => simp
    have hq0 : 0 ≤ at_ % ds.length := Int.emod_nonneg _ (by omega)
    have hq1 : at_ % ds.length < ds.length := Int.emod_lt_of_pos _ (by omega)
    have hk : (at_ % ds.length).toNat < ds.length := by omega
    have hx : L2.atI ds (at_ % ds.length) = some ds[(at_ % ds.length).toNat] := by
      have := at_nat (List.getElem?_eq_getElem hk)
      rwa [show (((at_ % ds.length).toNat : Nat) : Int) = at_ % ds.length by omega] at this
    obtain ⟨a3, b3, r, o, e3, hr⟩ := inner _ (List.getElem_mem hk) a2 b2
    have c3 := sp_call (N := N) (a := a2) (b := b2) hx e3
    obtain ⟨x, ex, hxo⟩ := or_as (fl := md.g.flds) (ρ := F ds deep a3 b3 (at_ % ds.length) none) hr
    have s3 : evS md.g (md.Φ (N + 2)) (.asg 3 (.bin .Mod (.cb .int (.cons (.var 3) .nil)) (.cb .len (.cons (.var 1) .nil)))) (F ds deep a2 b2 at_ none) = .nx (F ds deep a2 b2 (at_ % ds.length) none) := by
      have hpos' : (0 : Int) < ds.length := by omega
      unfold F
      simp -implicitDefEqProofs [Fx.evSs, Fx.evS, Fx.evE, Fx.evB, Fx.evAs, Fx.evDs, Fx.evO, Fx.evC, Fx.evI, Fx.teE, Fx.tstA, Fx.asArg, Fx.b_ok, Fx.b_exc, Fx.t_ok, Fx.t_exc, Fx.s_nx, Fx.s_rt, Fx.s_exc, Fx.s_bk, Fx.s_ct, Fx.as_val, Fx.as_lst, Fx.as_exc, Fx.o_some, Fx.f_val, Fx.f_lst, Fx.a_v, Fx.a_b, Fx.rb_bl, Fx.rdVar, Fx.argVar, Fx.at0, Fx.at_1, Fx.at_2, Fx.at_3, Fx.at_4, Fx.at_5, Fx.at_6, Fx.at_7, Fx.at_8, Fx.at_9, Fx.at_10, Fx.at_11, Fx.at_12, Fx.cmpP, Fx.g_nil, Fx.g_v, Fx.g_l, Fx.u_b, Fx.u_i, Fx.c_len_t, Fx.c_len_l, Fx.c_abs, Fx.c_int, Fx.c_intb, Fx.c_list_t, Fx.c_list_l, Fx.c_tup_t, Fx.c_tup_l, Fx.c_all, Fx.c_rng1, Fx.c_rng2, Fx.r_i, Fx.r_s, Fx.l_i, Fx.m_lt, Fx.m_gt, Fx.m_le, Fx.m_ge, Fx.m_eq, Fx.m_ne, Fx.m_is, Fx.m_in, Fx.m_ni, Fx.x_t, Fx.x_l, Fx.DefI.fin, Fx.outsA, r_m hpos']
    have et : asArg (.tup (.cons (.call 14 (.cons (.var 0) (.cons (.idx (.var 1) (.var 3)) (.cons (.bin .Sub (.var 2) (.cst (.int 1))) .nil)))) .nil)) (F ds deep a2 b2 (at_ % ds.length) none) (evE md.g (md.Φ (N + 2)) (.tup (.cons (.call 14 (.cons (.var 0) (.cons (.idx (.var 1) (.var 3)) (.cons (.bin .Sub (.var 2) (.cst (.int 1))) .nil)))) .nil)) (F ds deep a2 b2 (at_ % ds.length) none)) = .ok (.v (.val (.tup [x]))) (F ds deep a3 b3 (at_ % ds.length) none) := by
      have ev : evE md.g (md.Φ (N + 2)) (.tup (.cons (.call 14 (.cons (.var 0) (.cons (.idx (.var 1) (.var 3)) (.cons (.bin .Sub (.var 2) (.cst (.int 1))) .nil)))) .nil)) (F ds deep a2 b2 (at_ % ds.length) none) = .ok (.val (.tup [x])) (F ds deep a3 b3 (at_ % ds.length) none) := by
        show (((asD md.g.flds (evE md.g (md.Φ (N + 2)) (.call 14 _) _)).bind _).bind _) = _
        rw [c3, ex, b_ok]
        rfl
      rw [ev]; rfl
    have at1 : (F ds deep a2 b2 (at_ % ds.length) none).at 1 = some (.val (.tup ds)) := rfl
    have at3 : (F ds deep a2 b2 (at_ % ds.length) none).at 3 = some (.val (.int (at_ % ds.length))) := rfl
    have bt1 : (F ds deep a3 b3 (at_ % ds.length) none).at 1 = some (.val (.tup ds)) := rfl
    have bt3 : (F ds deep a3 b3 (at_ % ds.length) none).at 3 = some (.val (.int (at_ % ds.length))) := rfl
    have f0 := e_add (e_slc (g := md.g) (Φ := md.Φ (N + 2)) at1 o0 (o3 at3)) et (by have := lc none (some (at_ % ds.length)); simp; omega)
    have f1 := e_add (as_bin f0) (e_slc (g := md.g) (Φ := md.Φ (N + 2)) bt1 (o31 bt3) o0) (by have := lc none (some (at_ % ds.length)); have := lc (some (at_ % ds.length + 1)) none; simp; omega)
    refine done (r := .val (.tup (cutD ds none (some (at_ % ds.length)) ++ [x] ++ cutD ds (some (at_ % ds.length + 1)) none))) (a' := a3) (b' := b3) (at' := at_ % ds.length) (how := none) (out_tup (k := k) (fun y hy => ?_) ?_) ?_
    rotate_left 2
    · unfold b__law_spoilt
      rw [ss_cons, ifs_t t1, if_pos rfl, ss_cons, e_asg, e1, Fx.t_ok, s_nx]
      rw [show (([some (.lst [.int a, .int b]), some (.val (.tup ds)), some (.val (.int deep)), none, none] : Env).set 0 (some (.lst [.int a1, .int b1]))).set 3 (some (.val (.int at_))) = F ds deep a1 b1 at_ none from rfl, ss_cons, ifs_t e2, if_pos rfl, ss_cons, s3, s_nx, ss_cons, e_ret, f1]
      rfl
    · rcases List.mem_append.mp hy with q | q
      · rcases List.mem_append.mp q with q | q
        · exact hin y (cut_mem q)
        · simp at q; rw [q]; exact hxo
      · exact hin y (cut_mem q)
    · have := lc none (some (at_ % ds.length)); have := lc (some (at_ % ds.length + 1)) none; simp; omega
  | false =>
    obtain ⟨a3, b3, how, e3, _, _⟩ := e_take (n := N + 1) (i := 0) (a := a2) (b := b2) (m := 8) (e := .cst (.int 8)) (ρ := F ds deep a2 b2 at_ none) rfl rfl rfl (by omega) (by omega)
    obtain ⟨r, hr, e4⟩ := rest_ok (N := N) (k := k) (deep := deep) (a := a3) (b := b3) (at_ := at_) (how := how) hl hin
    refine done hr (a' := a3) (b' := b3) (at' := at_) (how := some (.val (.int how))) ?_
    unfold b__law_spoilt
    rw [ss_cons, ifs_t t1, if_pos rfl, ss_cons, e_asg, e1, Fx.t_ok, s_nx]
    rw [show (([some (.lst [.int a, .int b]), some (.val (.tup ds)), some (.val (.int deep)), none, none] : Env).set 0 (some (.lst [.int a1, .int b1]))).set 3 (some (.val (.int at_))) = F ds deep a1 b1 at_ none from rfl, ss_cons, ifs_t e2, if_neg Bool.false_ne_true, ss_nil, s_nx, ss_cons, e_asg, e3, Fx.t_ok, s_nx]
    rw [show ((F ds deep a2 b2 at_ none).set 0 (some (.lst [.int a3, .int b3]))).set 4 (some (.val (.int how))) = F ds deep a3 b3 at_ (some (.val (.int how))) from rfl, e4]
    rfl
theorem sp : ∀ (k n : Nat) (v : D) (deep a b : Int), Inp k v → ∃ a' b' r o, md.Φ (n + k + 3) 14 [.lst [.int a, .int b], .val v, .val (.int deep)] = .ok r (some (.lst [.int a', .int b']) :: o) ∧ OR (k + 1) r
  | 0, n, v, deep, a, b, h => by
    obtain ⟨i, rfl, hi⟩ := h
    exact sp0 n i deep a b hi
  | k + 1, n, v, deep, a, b, h => by
    obtain ⟨ds, rfl, hl, hd⟩ := h
    have e : n + (k + 1) + 3 = (n + k + 1) + 3 := by omega
    rw [e]
    exact sp_tup (n + k + 1) k ds deep a b hl (plains_of fun d hd' => (out_nice (inp_out (hd d hd'))).1) (fun d hd' => out_up (inp_out (hd d hd'))) fun d hd' a b => sp k n d (deep - 1) a b (hd d hd')
end K02
end
section
set_option linter.all false
set_option Elab.async false
set_option maxRecDepth 100000
set_option maxHeartbeats 2000000
namespace K02
open Fx
theorem eqD_ok {x y : D} (h1 : x.plain = true) (h2 : y.plain = true) (h : x.depth ≤ 40) : eqD x y = some (x.eqv y) := by
  unfold eqD
  have : min x.depth y.depth ≤ 40 := Nat.le_trans (Nat.min_le_left _ _) h
  rw [if_pos (by rw [h1, h2]; simp [this])]
theorem teq (n : Nat) (m r m2 r2 : D) (h1 : m.plain = true) (h2 : r.plain = true) (h3 : m2.plain = true) (h4 : r2.plain = true) (d1 : m.depth ≤ 40) (d2 : r.depth ≤ 40) : ∃ o, md.Φ (n + 1) 23 [.val (.ins 0 [m, r]), .val (.ins 0 [m2, r2])] = .ok (.val (.bl (m.eqv m2 && r.eqv r2))) o := by
  refine phi_ret (d := d_Table_eq) (ρ := [some (.val (.ins 0 [m, r])), some (.val (.ins 0 [m2, r2]))]) rfl rfl rfl ?_
  show evE md.g (md.Φ n) _ [some (.val (.ins 0 [m, r])), some (.val (.ins 0 [m2, r2]))] = _
  have q1 := eqD_ok h1 h3 d1
  have q2 := eqD_ok h2 h4 d2
  refine (and3 (a := true) (b := m.eqv m2) (c := r.eqv r2) rfl (fun _ => ?_) (fun _ _ => ?_)).trans rfl
  · simp -implicitDefEqProofs [Fx.evSs, Fx.evS, Fx.evE, Fx.evB, Fx.evAs, Fx.evDs, Fx.evO, Fx.evC, Fx.evI, Fx.teE, Fx.tstA, Fx.asArg, Fx.b_ok, Fx.b_exc, Fx.t_ok, Fx.t_exc, Fx.s_nx, Fx.s_rt, Fx.s_exc, Fx.s_bk, Fx.s_ct, Fx.as_val, Fx.as_lst, Fx.as_exc, Fx.o_some, Fx.f_val, Fx.f_lst, Fx.a_v, Fx.a_b, Fx.rb_bl, Fx.rdVar, Fx.argVar, Fx.at0, Fx.at_1, Fx.at_2, Fx.at_3, Fx.at_4, Fx.at_5, Fx.at_6, Fx.at_7, Fx.at_8, Fx.at_9, Fx.at_10, Fx.at_11, Fx.at_12, Fx.cmpP, Fx.g_nil, Fx.g_v, Fx.g_l, Fx.u_b, Fx.u_i, Fx.c_len_t, Fx.c_len_l, Fx.c_abs, Fx.c_int, Fx.c_intb, Fx.c_list_t, Fx.c_list_l, Fx.c_tup_t, Fx.c_tup_l, Fx.c_all, Fx.c_rng1, Fx.c_rng2, Fx.r_i, Fx.r_s, Fx.l_i, Fx.m_lt, Fx.m_gt, Fx.m_le, Fx.m_ge, Fx.m_eq, Fx.m_ne, Fx.m_is, Fx.m_in, Fx.m_ni, Fx.x_t, Fx.x_l, Fx.DefI.fin, Fx.outsA, at_a0 (c := 0), q1]
  · simp -implicitDefEqProofs [Fx.evSs, Fx.evS, Fx.evE, Fx.evB, Fx.evAs, Fx.evDs, Fx.evO, Fx.evC, Fx.evI, Fx.teE, Fx.tstA, Fx.asArg, Fx.b_ok, Fx.b_exc, Fx.t_ok, Fx.t_exc, Fx.s_nx, Fx.s_rt, Fx.s_exc, Fx.s_bk, Fx.s_ct, Fx.as_val, Fx.as_lst, Fx.as_exc, Fx.o_some, Fx.f_val, Fx.f_lst, Fx.a_v, Fx.a_b, Fx.rb_bl, Fx.rdVar, Fx.argVar, Fx.at0, Fx.at_1, Fx.at_2, Fx.at_3, Fx.at_4, Fx.at_5, Fx.at_6, Fx.at_7, Fx.at_8, Fx.at_9, Fx.at_10, Fx.at_11, Fx.at_12, Fx.cmpP, Fx.g_nil, Fx.g_v, Fx.g_l, Fx.u_b, Fx.u_i, Fx.c_len_t, Fx.c_len_l, Fx.c_abs, Fx.c_int, Fx.c_intb, Fx.c_list_t, Fx.c_list_l, Fx.c_tup_t, Fx.c_tup_l, Fx.c_all, Fx.c_rng1, Fx.c_rng2, Fx.r_i, Fx.r_s, Fx.l_i, Fx.m_lt, Fx.m_gt, Fx.m_le, Fx.m_ge, Fx.m_eq, Fx.m_ne, Fx.m_is, Fx.m_in, Fx.m_ni, Fx.x_t, Fx.x_l, Fx.DefI.fin, Fx.outsA, at_a1 (c := 0), q2]
theorem teq_t (n : Nat) (m r : D) (ds : List D) : ∃ o, md.Φ (n + 1) 23 [.val (.ins 0 [m, r]), .val (.tup ds)] = .ok (.val (.bl false)) o := ⟨_, rfl⟩
theorem eqo_i {n : Nat} {m r m2 r2 : D} {ρ : Env} (h1 : m.plain = true) (h2 : r.plain = true) (h3 : m2.plain = true) (h4 : r2.plain = true) (d1 : m.depth ≤ 40) (d2 : r.depth ≤ 40) : eqoR md.g (md.Φ (n + 1)) (.ins 0 [m, r]) (.ins 0 [m2, r2]) ρ = .ok (.val (.bl (m.eqv m2 && r.eqv r2))) ρ := by
  obtain ⟨o, e⟩ := teq n m r m2 r2 h1 h2 h3 h4 d1 d2
  show (match md.Φ (n + 1) 23 [.val (.ins 0 [m, r]), .val (.ins 0 [m2, r2])] with
    | .ok (.val (.bl b)) _ => Res.ok (R.val (.bl b)) ρ
    | _ => .stuck) = _
  rw [e]
theorem eqo_t {n : Nat} {m r : D} {ds : List D} {ρ : Env} : eqoR md.g (md.Φ (n + 1)) (.ins 0 [m, r]) (.tup ds) ρ = .ok (.val (.bl false)) ρ := by
  obtain ⟨o, e⟩ := teq_t n m r ds
  show (match md.Φ (n + 1) 23 [.val (.ins 0 [m, r]), .val (.tup ds)] with
    | .ok (.val (.bl b)) _ => Res.ok (R.val (.bl b)) ρ
    | _ => .stuck) = _
  rw [e]
theorem or_ff' {g : G} {Φ : Fn} {ρ ρ' : Env} {e e2 : IE} {es : IEs} (h : asD g.flds (evE g Φ e ρ) = .ok (.bl false) ρ') : evB g Φ false (.cons e (.cons e2 es)) ρ = evB g Φ false (.cons e2 es) ρ' := by
  show (asD g.flds (evE g Φ e ρ)).bind _ = _
  rw [h]; rfl
/-- rows that Table keeps -/
theorem rows_of {m : Int} {y : D} (h : rowsOk m y = true) (hp : y.plain = true) : ∃ rs, y = .tup rs ∧ Rows rs := by
  cases y with
  | tup rs =>
    have h : (decide (1 ≤ rs.length) && decide (rs.length ≤ 5) && rs.all (bunch m)) = true := h
    simp only [Bool.and_eq_true, decide_eq_true_eq] at h
    refine ⟨rs, rfl, h.1.2, fun r hr => ?_⟩
    have hb := List.all_eq_true.mp h.2 r hr
    have hp' := plains_mem hp r hr
    cases r with
    | tup ds => exact ⟨ds, rfl, hp'⟩
    | _ => cases hb
  | _ => cases h
theorem pairs_plain {m : Int} {rs : List D} : D.plains (pairs m rs) = true ∧ D.depths (pairs m rs) ≤ 1 := by
  have key : ∀ d ∈ pairs m rs, d.plain = true ∧ d.depth ≤ 1 := fun d hd => by
    unfold pairs at hd
    obtain ⟨x, hx, hd⟩ := List.mem_flatMap.mp hd
    obtain ⟨y, hy, rfl⟩ := List.mem_map.mp hd
    obtain ⟨k, _, rfl⟩ := mem_rng0 hx
    obtain ⟨l, _, rfl⟩ := mem_rng0 (List.mem_filter.mp hy).1
    exact ⟨rfl, Nat.le_refl _⟩
  exact ⟨plains_of fun d hd => (key d hd).1, depths_le fun d hd => (key d hd).2⟩
def CaseOk (d : D) : Prop := ∃ x y, d = .tup [x, y] ∧ x.plain = true ∧ x.depth ≤ 10 ∧ y.plain = true ∧ y.depth ≤ 10 ∧ shorts y
theorem told_nice {x y : D} (h1 : x.plain = true) (h2 : x.depth ≤ 10) (h3 : y.plain = true) (h4 : y.depth ≤ 10) : (told x y).plain = true ∧ (told x y).depth ≤ 40 := by
  unfold told
  have e3 : ∀ a : PySem.Str, D.plain (.tup [.str a, x, y]) = true := fun a => by
    show (true && (x.plain && (y.plain && true))) = true
    rw [h1, h3]; rfl
  have d3 : ∀ a : PySem.Str, D.depth (.tup [.str a, x, y]) ≤ 40 := fun a => by
    show max 0 (max x.depth (max y.depth 0)) + 1 ≤ 40
    omega
  have e2 : ∀ (a : PySem.Str) (z : D), z.plain = true → D.plain (.tup [.str a, z]) = true := fun a z h => by
    show (true && (z.plain && true)) = true
    rw [h]; rfl
  have d2 : ∀ (a : PySem.Str) (z : D), z.depth ≤ 10 → D.depth (.tup [.str a, z]) ≤ 40 := fun a z h => by
    show max 0 (max z.depth 0) + 1 ≤ 40
    omega
  split
  · split
    · exact ⟨e3 _, d3 _⟩
    · exact ⟨e2 _ _ h3, d2 _ _ h4⟩
  · exact ⟨e2 _ _ h1, d2 _ _ h2⟩
/-- the state of the law's last loop -/
def EL (sc : D) (m : Int) (rs : List D) (bx : Option R) (cs k one due other : Option R) : Env := [some (.val sc), some (.val (.int m)), some (.val (.tup rs)), bx, some (.val (.ins 0 [.int m, .tup rs])), cs, k, one, due, other, none]
def body7 : ISs := (.cons (.asg 8 (.call 20 (.cons (.idx (.var 7) (.cst (.int 0))) (.cons (.idx (.var 7) (.cst (.int 1))) .nil)))) (.cons (.ifs (.cmp .NotEq (.call 19 (.cons (.idx (.var 7) (.cst (.int 0))) (.cons (.idx (.var 7) (.cst (.int 1))) .nil))) (.var 8)) (.cons (.ret (.cst (.bl false))) .nil) .nil) (.cons (.ifs (.cmp .Eq (.idx (.var 8) (.cst (.int 0))) (.cst (.str "kept"))) (.cons (.asg 9 (.make 0 (.cons (.idx (.var 7) (.cst (.int 0))) (.cons (.idx (.var 7) (.cst (.int 1))) .nil)))) (.cons (.ifs (.bop false (.cons (.nt (.call 13 (.cons (.eqo (.var 4) (.var 9)) (.cons (.cmp .Eq (.var 7) (.tup (.cons (.var 1) (.cons (.var 2) .nil)))) .nil)))) (.cons (.cmp .NotEq (.call 7 (.cons (.var 9) .nil)) (.cb .tuple (.cons (.call 17 (.cons (.var 7) .nil)) .nil))) .nil))) (.cons (.ret (.cst (.bl false))) .nil) .nil) .nil)) .nil) .nil)))
theorem at_p0 {x y : D} : L2.atI [x, y] 0 = some x := rfl
theorem at_p1 {x y : D} : L2.atI [x, y] 1 = some y := rfl
theorem kept_case {n : Nat} {sc : D} {m m' : Int} {rs rs' : List D} {bx cs k due other : Option R} (hm : 1 ≤ m') (hm5 : m' ≤ 5) (hr : Rows rs') (hp : D.plains rs = true) (hd : D.depths rs ≤ 10) (hp' : D.plains rs' = true) (hro : rowsOk m' (.tup rs') = true) (hd' : D.depths rs' ≤ 10) (hs : shorts (.tup rs')) :
    ∃ other', evSs md.g (md.Φ (n + 7)) (.cons (.asg 9 (.make 0 (.cons (.idx (.var 7) (.cst (.int 0))) (.cons (.idx (.var 7) (.cst (.int 1))) .nil)))) (.cons (.ifs (.bop false (.cons (.nt (.call 13 (.cons (.eqo (.var 4) (.var 9)) (.cons (.cmp .Eq (.var 7) (.tup (.cons (.var 1) (.cons (.var 2) .nil)))) .nil)))) (.cons (.cmp .NotEq (.call 7 (.cons (.var 9) .nil)) (.cb .tuple (.cons (.call 17 (.cons (.var 7) .nil)) .nil))) .nil))) (.cons (.ret (.cst (.bl false))) .nil) .nil) .nil))
      (EL sc m rs bx cs k (some (.val (.tup [.int m', .tup rs']))) due other) = .nx (EL sc m rs bx cs k (some (.val (.tup [.int m', .tup rs']))) due other') := by
  have hpt : D.plain (.tup rs') = true := hp'
  have hq : inR 1 5 (.int m') = true := by show (decide (1 ≤ m') && decide (m' ≤ 5)) = true; simp [hm, hm5]
  have s1 : evE md.g (md.Φ (n + 7)) (.make 0 (.cons (.idx (.var 7) (.cst (.int 0))) (.cons (.idx (.var 7) (.cst (.int 1))) .nil))) (EL sc m rs bx cs k (some (.val (.tup [.int m', .tup rs']))) due other) = .ok (.obj 0 [.val (.int m'), .val (.tup rs')]) (EL sc m rs bx cs k (some (.val (.tup [.int m', .tup rs']))) due other) := by
    have e : evAs md.g (md.Φ (n + 7)) (.cons (.idx (.var 7) (.cst (.int 0))) (.cons (.idx (.var 7) (.cst (.int 1))) .nil)) (EL sc m rs bx cs k (some (.val (.tup [.int m', .tup rs']))) due other) = .ok [.v (.val (.int m')), .v (.val (.tup rs'))] (EL sc m rs bx cs k (some (.val (.tup [.int m', .tup rs']))) due other) := rfl
    show (evAs md.g (md.Φ (n + 7)) _ _).bind (fun as ρ => makeR (md.Φ (n + 1 + 6)) md.g.ini 0 as ρ) = _
    rw [e, b_ok, mkT (n + 1) _ _ _ rfl hpt hs]
    unfold tabR
    rw [if_pos hq, if_pos (show rowsOk (toI (.int m')) (.tup rs') = true from hro)]
  have hB : ((D.int m').eqv (.int m) && ((D.tup rs').eqv (.tup rs) && true)) = ((D.int m).eqv (.int m') && (D.tup rs).eqv (.tup rs')) := by
    rw [eqv_symm (.int m') (.int m), eqv_symm (.tup rs') (.tup rs), Bool.and_true]
  have s2 : evE md.g (md.Φ (n + 7)) (.eqo (.var 4) (.var 9)) (EL sc m rs bx cs k (some (.val (.tup [.int m', .tup rs']))) due (some (.obj 0 [.val (.int m'), .val (.tup rs')]))) = .ok (.val (.bl ((D.int m).eqv (.int m') && (D.tup rs).eqv (.tup rs')))) (EL sc m rs bx cs k (some (.val (.tup [.int m', .tup rs']))) due (some (.val (.ins 0 [.int m', .tup rs'])))) := by
    show eqoR md.g (md.Φ (n + 6 + 1)) (.ins 0 [.int m, .tup rs]) (.ins 0 [.int m', .tup rs']) _ = _
    exact eqo_i rfl hp rfl hp' (by show 0 ≤ 40; omega) (by show D.depths rs + 1 ≤ 40; omega)
  have s3 : evE md.g (md.Φ (n + 7)) (.cmp .Eq (.var 7) (.tup (.cons (.var 1) (.cons (.var 2) .nil)))) (EL sc m rs bx cs k (some (.val (.tup [.int m', .tup rs']))) due (some (.val (.ins 0 [.int m', .tup rs'])))) = .ok (.val (.bl ((D.int m).eqv (.int m') && (D.tup rs).eqv (.tup rs')))) (EL sc m rs bx cs k (some (.val (.tup [.int m', .tup rs']))) due (some (.val (.ins 0 [.int m', .tup rs'])))) := by
    have q : cmpD .Eq (.tup [.int m', .tup rs']) (.tup [.int m, .tup rs]) = some ((D.int m).eqv (.int m') && (D.tup rs).eqv (.tup rs')) := by
      rw [← hB]
      exact eqD_ok (by show (true && (D.plains rs' && true)) = true; rw [hp']; rfl) (by show (true && (D.plains rs && true)) = true; rw [hp]; rfl) (by show max 0 (max (D.depths rs' + 1) 0) + 1 ≤ 40; omega)
    show cmpP .Eq (.tup [.int m', .tup rs']) (.tup [.int m, .tup rs]) _ = _
    exact p_some q
  have s4 : evE md.g (md.Φ (n + 7)) (.call 13 (.cons (.eqo (.var 4) (.var 9)) (.cons (.cmp .Eq (.var 7) (.tup (.cons (.var 1) (.cons (.var 2) .nil)))) .nil))) (EL sc m rs bx cs k (some (.val (.tup [.int m', .tup rs']))) due (some (.obj 0 [.val (.int m'), .val (.tup rs')]))) = .ok (.val (.bl true)) (EL sc m rs bx cs k (some (.val (.tup [.int m', .tup rs']))) due (some (.val (.ins 0 [.int m', .tup rs'])))) := by
    have c := fun ρ => call2 (ρ := ρ) (isDueB (n + 6) ((D.int m).eqv (.int m') && (D.tup rs).eqv (.tup rs')) ((D.int m).eqv (.int m') && (D.tup rs).eqv (.tup rs')))
    show ((((evE md.g (md.Φ (n + 7)) (.eqo (.var 4) (.var 9)) _).bind fun r ρ => Res.ok (Ar.v r) ρ).bind fun a ρ => (((evE md.g (md.Φ (n + 7)) (.cmp .Eq (.var 7) (.tup (.cons (.var 1) (.cons (.var 2) .nil)))) ρ).bind fun r ρ => Res.ok (Ar.v r) ρ).bind fun a ρ => Res.ok [a] ρ).bind fun as ρ => Res.ok (a :: as) ρ).bind fun as ρ => callR (md.Φ (n + 7)) 13 as ρ) = _
    rw [s2, b_ok, b_ok, s3, b_ok, b_ok, b_ok, b_ok, c]
    simp
  have s5 : evE md.g (md.Φ (n + 7)) (.cmp .NotEq (.call 7 (.cons (.var 9) .nil)) (.cb .tuple (.cons (.call 17 (.cons (.var 7) .nil)) .nil))) (EL sc m rs bx cs k (some (.val (.tup [.int m', .tup rs']))) due (some (.val (.ins 0 [.int m', .tup rs'])))) = .ok (.val (.bl false)) (EL sc m rs bx cs k (some (.val (.tup [.int m', .tup rs']))) due (some (.val (.ins 0 [.int m', .tup rs'])))) := by
    have c1 := call1 (ρ := EL sc m rs bx cs k (some (.val (.tup [.int m', .tup rs']))) due (some (.val (.ins 0 [.int m', .tup rs'])))) (outs_ok (n + 6) m' rs' (by omega) hm5 hr)
    have c2 := call1 (ρ := EL sc m rs bx cs k (some (.val (.tup [.int m', .tup rs']))) due (some (.val (.ins 0 [.int m', .tup rs'])))) (louts_ok (n + 6) m' rs' (by omega) hm5 hr)
    have e1 : evE md.g (md.Φ (n + 7)) (.call 7 (.cons (.var 9) .nil)) (EL sc m rs bx cs k (some (.val (.tup [.int m', .tup rs']))) due (some (.val (.ins 0 [.int m', .tup rs'])))) = .ok (.val (.tup (pairs m' rs'))) (EL sc m rs bx cs k (some (.val (.tup [.int m', .tup rs']))) due (some (.val (.ins 0 [.int m', .tup rs'])))) := c1
    have e2 : evE md.g (md.Φ (n + 7)) (.call 17 (.cons (.var 7) .nil)) (EL sc m rs bx cs k (some (.val (.tup [.int m', .tup rs']))) due (some (.val (.ins 0 [.int m', .tup rs'])))) = .ok (.lst (pairs m' rs')) (EL sc m rs bx cs k (some (.val (.tup [.int m', .tup rs']))) due (some (.val (.ins 0 [.int m', .tup rs'])))) := c2
    have e3 : evE md.g (md.Φ (n + 7)) (.cb .tuple (.cons (.call 17 (.cons (.var 7) .nil)) .nil)) (EL sc m rs bx cs k (some (.val (.tup [.int m', .tup rs']))) due (some (.val (.ins 0 [.int m', .tup rs'])))) = .ok (.val (.tup (pairs m' rs'))) (EL sc m rs bx cs k (some (.val (.tup [.int m', .tup rs']))) due (some (.val (.ins 0 [.int m', .tup rs'])))) := by
      show ((((evE md.g (md.Φ (n + 7)) (.call 17 (.cons (.var 7) .nil)) _).bind fun r ρ => Res.ok (Ar.v r) ρ).bind fun a ρ => Res.ok [a] ρ).bind fun as ρ => match getDs md.g.flds ρ as with
        | some ds => optR (cbD .tuple ds) ρ
        | none => .stuck) = _
      rw [e2, b_ok, b_ok, b_ok, g_l, g_nil]
      rfl
    have q : cmpD .NotEq (.tup (pairs m' rs')) (.tup (pairs m' rs')) = some false := by
      show (eqD _ _).map not = _
      have pp := pairs_plain (m := m') (rs := rs')
      rw [eqD_ok (show D.plain (.tup (pairs m' rs')) = true from pp.1) (show D.plain (.tup (pairs m' rs')) = true from pp.1) (by show D.depths (pairs m' rs') + 1 ≤ 40; have := pp.2; omega), eqv_refl (.tup (pairs m' rs')) pp.1]
      rfl
    show (((evE md.g (md.Φ (n + 7)) (.call 7 (.cons (.var 9) .nil)) _).bind fun r ρ => Res.ok (Ar.v r) ρ).bind fun x ρ => ((evE md.g (md.Φ (n + 7)) (.cb .tuple (.cons (.call 17 (.cons (.var 7) .nil)) .nil)) ρ).bind fun r ρ => Res.ok (Ar.v r) ρ).bind fun y ρ => match x.d md.g.flds ρ, y.d md.g.flds ρ with
      | some x, some y => cmpP .NotEq x y ρ
      | _, _ => .stuck) = _
    rw [e1, b_ok, b_ok, e3, b_ok, b_ok]
    exact p_some (ρ := EL sc m rs bx cs k (some (.val (.tup [.int m', .tup rs']))) due (some (.val (.ins 0 [.int m', .tup rs'])))) q
  have s6 : teE md.g (md.Φ (n + 7)) (.bop false (.cons (.nt (.call 13 (.cons (.eqo (.var 4) (.var 9)) (.cons (.cmp .Eq (.var 7) (.tup (.cons (.var 1) (.cons (.var 2) .nil)))) .nil)))) (.cons (.cmp .NotEq (.call 7 (.cons (.var 9) .nil)) (.cb .tuple (.cons (.call 17 (.cons (.var 7) .nil)) .nil))) .nil))) (EL sc m rs bx cs k (some (.val (.tup [.int m', .tup rs']))) due (some (.obj 0 [.val (.int m'), .val (.tup rs')]))) = .ok false (EL sc m rs bx cs k (some (.val (.tup [.int m', .tup rs']))) due (some (.val (.ins 0 [.int m', .tup rs'])))) := by
    have n1 : evE md.g (md.Φ (n + 7)) (.nt (.call 13 (.cons (.eqo (.var 4) (.var 9)) (.cons (.cmp .Eq (.var 7) (.tup (.cons (.var 1) (.cons (.var 2) .nil)))) .nil)))) (EL sc m rs bx cs k (some (.val (.tup [.int m', .tup rs']))) due (some (.obj 0 [.val (.int m'), .val (.tup rs')]))) = .ok (.val (.bl false)) (EL sc m rs bx cs k (some (.val (.tup [.int m', .tup rs']))) due (some (.val (.ins 0 [.int m', .tup rs'])))) := by
      show (teE md.g (md.Φ (n + 7)) (.call 13 _) _).bind _ = _
      rw [te_tv rfl]
      show ((evE md.g (md.Φ (n + 7)) (.call 13 _) _).bind _).bind _ = _
      rw [s4]
      rfl
    rw [te_tv rfl]
    show (evB md.g (md.Φ (n + 7)) false _ _).bind _ = _
    rw [or_ff' (by rw [n1]; rfl)]
    show (evE md.g (md.Φ (n + 7)) (.cmp .NotEq _ _) _).bind _ = _
    rw [s5]
    rfl
  refine ⟨some (.val (.ins 0 [.int m', .tup rs'])), ?_⟩
  rw [ss_cons, e_asg, s1, Fx.t_ok, s_nx, show (EL sc m rs bx cs k (some (.val (.tup [.int m', .tup rs']))) due other).set 9 (some (.obj 0 [.val (.int m'), .val (.tup rs')])) = EL sc m rs bx cs k (some (.val (.tup [.int m', .tup rs']))) due (some (.obj 0 [.val (.int m'), .val (.tup rs')])) from rfl, ss_cons, ifs_t s6, if_neg Bool.false_ne_true, ss_nil, s_nx, ss_nil]
end K02
end
section
set_option linter.all false
set_option Elab.async false
set_option maxRecDepth 100000
set_option maxHeartbeats 2000000
namespace K02
open Fx
theorem case_ok {n : Nat} {sc : D} {m : Int} {rs : List D} {bx cs k due other : Option R} {d : D} (hp : D.plains rs = true) (hd : D.depths rs ≤ 9) (hc : CaseOk d) :
    ∃ due' other', evSs md.g (md.Φ (n + 7)) body7 (EL sc m rs bx cs k (some (.val d)) due other) = .nx (EL sc m rs bx cs k (some (.val d)) due' other') := by
  obtain ⟨x, y, rfl, h1, d1, h3, d3, hs⟩ := hc
  obtain ⟨tp, td⟩ := told_nice h1 d1 h3 d3
  have s1 : evE md.g (md.Φ (n + 7)) (.call 20 (.cons (.idx (.var 7) (.cst (.int 0))) (.cons (.idx (.var 7) (.cst (.int 1))) .nil))) (EL sc m rs bx cs k (some (.val (.tup [x, y]))) due other) = .ok (.val (told x y)) (EL sc m rs bx cs k (some (.val (.tup [x, y]))) due other) := by
    have c := call2 (ρ := EL sc m rs bx cs k (some (.val (.tup [x, y]))) due other) (isDue (n + 3) x y h1 h3 hs)
    exact c
  have s2 : evE md.g (md.Φ (n + 7)) (.call 19 (.cons (.idx (.var 7) (.cst (.int 0))) (.cons (.idx (.var 7) (.cst (.int 1))) .nil))) (EL sc m rs bx cs k (some (.val (.tup [x, y]))) (some (.val (told x y))) other) = .ok (.val (told x y)) (EL sc m rs bx cs k (some (.val (.tup [x, y]))) (some (.val (told x y))) other) := by
    have c := call2 (ρ := EL sc m rs bx cs k (some (.val (.tup [x, y]))) (some (.val (told x y))) other) (isTold n x y h1 h3 hs)
    exact c
  have q : cmpD .NotEq (told x y) (told x y) = some false := by
    show (eqD _ _).map not = _
    rw [eqD_ok tp tp td, eqv_refl _ tp]
    rfl
  have s3 : teE md.g (md.Φ (n + 7)) (.cmp .NotEq (.call 19 (.cons (.idx (.var 7) (.cst (.int 0))) (.cons (.idx (.var 7) (.cst (.int 1))) .nil))) (.var 8)) (EL sc m rs bx cs k (some (.val (.tup [x, y]))) (some (.val (told x y))) other) = .ok false (EL sc m rs bx cs k (some (.val (.tup [x, y]))) (some (.val (told x y))) other) := by
    refine te_bl rfl ?_
    show (((evE md.g (md.Φ (n + 7)) (.call 19 _) _).bind fun r ρ => Res.ok (Ar.v r) ρ).bind fun x ρ => (argVar 8 ρ).bind fun y ρ => match x.d md.g.flds ρ, y.d md.g.flds ρ with
      | some x, some y => cmpP .NotEq x y ρ
      | _, _ => .stuck) = _
    rw [s2, b_ok, b_ok, av_val rfl, b_ok]
    exact p_some (ρ := EL sc m rs bx cs k (some (.val (.tup [x, y]))) (some (.val (told x y))) other) q
  have pre : ∀ {t : SRes}, evS md.g (md.Φ (n + 7)) (.ifs (.cmp .Eq (.idx (.var 8) (.cst (.int 0))) (.cst (.str "kept"))) (.cons (.asg 9 (.make 0 (.cons (.idx (.var 7) (.cst (.int 0))) (.cons (.idx (.var 7) (.cst (.int 1))) .nil)))) (.cons (.ifs (.bop false (.cons (.nt (.call 13 (.cons (.eqo (.var 4) (.var 9)) (.cons (.cmp .Eq (.var 7) (.tup (.cons (.var 1) (.cons (.var 2) .nil)))) .nil)))) (.cons (.cmp .NotEq (.call 7 (.cons (.var 9) .nil)) (.cb .tuple (.cons (.call 17 (.cons (.var 7) .nil)) .nil))) .nil))) (.cons (.ret (.cst (.bl false))) .nil) .nil) .nil)) .nil) (EL sc m rs bx cs k (some (.val (.tup [x, y]))) (some (.val (told x y))) other) = t →
      evSs md.g (md.Φ (n + 7)) body7 (EL sc m rs bx cs k (some (.val (.tup [x, y]))) due other) = t.thn fun ρ => .nx ρ := by
    intro t ht
    unfold body7
    rw [ss_cons, e_asg, s1, Fx.t_ok, s_nx, show (EL sc m rs bx cs k (some (.val (.tup [x, y]))) due other).set 8 (some (.val (told x y))) = EL sc m rs bx cs k (some (.val (.tup [x, y]))) (some (.val (told x y))) other from rfl, ss_cons, ifs_t s3, if_neg Bool.false_ne_true, ss_nil, s_nx, ss_cons, ht]
    rfl
  cases hq : inR 1 5 x with
  | false =>
    have et : told x y = .tup [.str "number", x] := by unfold told; rw [hq]; rfl
    refine ⟨_, _, pre (t := .nx (EL sc m rs bx cs k (some (.val (.tup [x, y]))) (some (.val (told x y))) other)) ?_⟩
    rw [et]
    have t0 : teE md.g (md.Φ (n + 7)) (.cmp .Eq (.idx (.var 8) (.cst (.int 0))) (.cst (.str "kept"))) (EL sc m rs bx cs k (some (.val (.tup [x, y]))) (some (.val (.tup [.str "number", x]))) other) = .ok false (EL sc m rs bx cs k (some (.val (.tup [x, y]))) (some (.val (.tup [.str "number", x]))) other) := by
      refine te_bl rfl ?_
      have q : cmpD .Eq (.str "number") (.str "kept") = some false := by decide +kernel
      exact p_some (ρ := EL sc m rs bx cs k (some (.val (.tup [x, y]))) (some (.val (.tup [.str "number", x]))) other) q
    rw [ifs_t t0, if_neg Bool.false_ne_true, ss_nil]
  | true =>
    obtain ⟨m', rfl, hm1, hm2⟩ := inR_int hq
    cases hr : rowsOk m' y with
    | false =>
      have et : told (.int m') y = .tup [.str "locks", y] := by
        unfold told
        rw [if_pos hq, if_neg (by show ¬ rowsOk m' y = true; rw [hr]; exact Bool.false_ne_true)]
      refine ⟨_, _, pre (t := .nx (EL sc m rs bx cs k (some (.val (.tup [.int m', y]))) (some (.val (told (.int m') y))) other)) ?_⟩
      rw [et]
      have t0 : teE md.g (md.Φ (n + 7)) (.cmp .Eq (.idx (.var 8) (.cst (.int 0))) (.cst (.str "kept"))) (EL sc m rs bx cs k (some (.val (.tup [.int m', y]))) (some (.val (.tup [.str "locks", y]))) other) = .ok false (EL sc m rs bx cs k (some (.val (.tup [.int m', y]))) (some (.val (.tup [.str "locks", y]))) other) := by
        refine te_bl rfl ?_
        have q : cmpD .Eq (.str "locks") (.str "kept") = some false := by decide +kernel
        exact p_some (ρ := EL sc m rs bx cs k (some (.val (.tup [.int m', y]))) (some (.val (.tup [.str "locks", y]))) other) q
      rw [ifs_t t0, if_neg Bool.false_ne_true, ss_nil]
    | true =>
      obtain ⟨rs', rfl, hR⟩ := rows_of hr h3
      have et : told (.int m') (.tup rs') = .tup [.str "kept", .int m', .tup rs'] := by
        unfold told
        rw [if_pos hq]
        exact if_pos (show rowsOk (toI (.int m')) (.tup rs') = true from hr)
      obtain ⟨other', e⟩ := kept_case (n := n) (sc := sc) (m := m) (bx := bx) (cs := cs) (k := k) (due := some (.val (told (.int m') (.tup rs')))) (other := other) hm1 hm2 hR hp (by omega) h3 hr (by have : D.depths rs' + 1 ≤ 10 := d3; omega) hs
      refine ⟨_, other', pre (t := .nx (EL sc m rs bx cs k (some (.val (.tup [.int m', .tup rs']))) (some (.val (told (.int m') (.tup rs')))) other')) ?_⟩
      have t0 : teE md.g (md.Φ (n + 7)) (.cmp .Eq (.idx (.var 8) (.cst (.int 0))) (.cst (.str "kept"))) (EL sc m rs bx cs k (some (.val (.tup [.int m', .tup rs']))) (some (.val (told (.int m') (.tup rs')))) other) = .ok true (EL sc m rs bx cs k (some (.val (.tup [.int m', .tup rs']))) (some (.val (told (.int m') (.tup rs')))) other) := by
        rw [et]
        refine te_bl rfl ?_
        have q : cmpD .Eq (.str "kept") (.str "kept") = some true := by decide +kernel
        exact p_some (ρ := EL sc m rs bx cs k (some (.val (.tup [.int m', .tup rs']))) (some (.val (.tup [.str "kept", .int m', .tup rs']))) other) q
      rw [ifs_t t0, if_pos rfl]
      exact e
theorem cases_ok {n : Nat} {sc : D} {m : Int} {rs : List D} {bx cs k : Option R} (hp : D.plains rs = true) (hd : D.depths rs ≤ 9) : ∀ (ds : List D) (one due other : Option R), (∀ d ∈ ds, CaseOk d) → ∃ one' due' other', forF (.one 7) (fun ρ => evSs md.g (md.Φ (n + 7)) body7 ρ) ds (EL sc m rs bx cs k one due other) = .nx (EL sc m rs bx cs k one' due' other')
  | [], one, due, other, _ => ⟨one, due, other, rfl⟩
  | d :: ds, one, due, other, h => by
    obtain ⟨due1, other1, e1⟩ := case_ok (n := n) (sc := sc) (m := m) (bx := bx) (cs := cs) (k := k) (due := due) (other := other) hp hd (h d (by simp))
    obtain ⟨one', due', other', e2⟩ := cases_ok hp hd ds (some (.val d)) due1 other1 fun x hx => h x (by simp [hx])
    exact ⟨one', due', other', (for_nx (i := 7) (d := d) (ds := ds) (ρ := EL sc m rs bx cs k one due other) (body := fun ρ => evSs md.g (md.Φ (n + 7)) body7 ρ) (ρ2 := EL sc m rs bx cs k (some (.val d)) due1 other1) e1).trans e2⟩
end K02
end
section
set_option linter.all false
set_option Elab.async false
set_option maxRecDepth 100000
set_option maxHeartbeats 2000000
namespace K02
open Fx
theorem asc_len {hi : Int} : ∀ (ds : List D) (i : Int), asc (.int i :: ds) = true → (∀ d ∈ (.int i :: ds : List D), inR 0 hi d = true) → (ds.length : Int) ≤ hi - i
  | [], i, _, h => by
    obtain ⟨j, e, _, h2⟩ := inR_int (h (.int i) (by simp))
    cases e
    show ((0 : Nat) : Int) ≤ hi - i
    omega
  | e :: r, i, ha, h => by
    obtain ⟨j, rfl, _, h2⟩ := inR_int (h e (by simp))
    have ha : (decide (i < j) && asc (.int j :: r)) = true := ha
    simp only [Bool.and_eq_true, decide_eq_true_eq] at ha
    have := asc_len r j ha.2 fun d hd => h d (List.mem_cons_of_mem _ hd)
    show ((r.length + 1 : Nat) : Int) ≤ hi - i
    omega
theorem bunch_inp {m : Int} {x : D} (hm : five m) (h : bunch m x = true) : Inp 1 x := by
  cases x with
  | tup ds =>
    have h : ((ds.all (inR 0 (m - 1)) && asc ds) && decide (0 < ds.length)) = true := h
    simp only [Bool.and_eq_true, decide_eq_true_eq] at h
    have ha := List.all_eq_true.mp h.1.1
    refine ⟨ds, rfl, ?_, fun d hd => ?_⟩
    · cases ds with
      | nil => exact Nat.zero_le _
      | cons d r =>
        obtain ⟨i, rfl, h1, h2⟩ := inR_int (ha d (by simp))
        have := asc_len r i h.1.2 ha
        have := hm.2
        show r.length + 1 ≤ 6
        omega
    · obtain ⟨i, rfl, h1, h2⟩ := inR_int (ha d hd)
      have := hm.2
      exact ⟨i, rfl, by omega⟩
  | _ => cases h
theorem case_v {x y : D} (hx : x.plain = true) (hd : x.depth = 0) (h : Out' 3 y) : CaseOk (.tup [x, y]) := by
  obtain ⟨p, d, _⟩ := out_nice h
  refine ⟨x, y, rfl, hx, by omega, p, by omega, fun ds e z hz => ?_⟩
  subst e
  rcases h with ⟨_, h⟩ | ⟨es, e, _, h⟩
  · have h : D.depths ds + 1 = 0 := h
    omega
  · rcases e with e | e
    · cases e; exact (out_nice (h z hz)).2.2
    · cases e
theorem out_nil {k : Nat} : Out' (k + 1) (.tup []) := .inr ⟨[], .inl rfl, by simp, fun _ h => by cases h⟩
theorem out_flat {k : Nat} {d : D} (h : d.plain = true) (h2 : d.depth = 0) : Out' k d := by
  cases k with
  | zero => exact ⟨h, h2⟩
  | succ k => exact .inl ⟨h, h2⟩
theorem out_t {k : Nat} {ds : List D} (hl : ds.length ≤ 40) (h : ∀ x ∈ ds, Out' k x) : Out' (k + 1) (.tup ds) := .inr ⟨ds, .inl rfl, hl, h⟩
theorem out_l {k : Nat} {ds : List D} (hl : ds.length ≤ 40) (h : ∀ x ∈ ds, Out' k x) : Out' (k + 1) (.lst ds) := .inr ⟨ds, .inr rfl, hl, h⟩
/-- the first seven -/
def C1 (m : Int) (rs : List D) : List D := [.tup [.int m, .tup rs], .tup [.int m, .lst rs], .tup [.int m, .tup []], .tup [.int m, .tup (cutD rs (some 1) none)], .tup [.int m, .tup (rs ++ [.tup []])], .tup [.int m, .tup (List.replicate 5 [D.tup [.int 0]]).flatten], .tup [.int m, .tup (List.replicate 6 [D.tup [.int 0]]).flatten]]
def C2 (m : Int) (rs : List D) : List D := [.tup [.int m, .tup rs.reverse], .tup [.int m, .tup (rs ++ [.tup [.int m]])], .tup [.int m, .tup [.tup [.int 0, .int 0]]], .tup [.int m, .tup [.tup [.bl true]]], .tup [.int m, .non], .tup [.int m, .tup [.lst [.int 0]]]]
def O3 (m : Int) : List D := [.int 0, .int 6, .int (-1), .non, .bl true, .str "2", .int (m + 1), .int (m - 1), .int 5]
def C3 (m : Int) (rs : List D) : List D := (O3 m).map fun d => .tup [d, .tup rs]
theorem i0 {k : Nat} {i : Int} : Out' k (.int i) := out_flat rfl rfl
theorem C1_ok {m : Int} {rs : List D} (hl : rs.length ≤ 5) (h : ∀ x ∈ rs, Out' 2 x) : ∀ d ∈ C1 m rs, CaseOk d := by
  intro d hd
  simp only [C1, List.mem_cons, List.not_mem_nil, or_false] at hd
  rcases hd with rfl | rfl | rfl | rfl | rfl | rfl | rfl
  · exact case_v rfl rfl (out_t (by omega) h)
  · exact case_v rfl rfl (out_l (by omega) h)
  · exact case_v rfl rfl out_nil
  · exact case_v rfl rfl (out_t (Nat.le_trans cut_le (by omega)) fun x hx => h x (cut_mem hx))
  · refine case_v rfl rfl (out_t (by simp; omega) fun x hx => ?_)
    rcases List.mem_append.mp hx with hx | hx
    · exact h x hx
    · simp at hx; subst hx; exact out_nil
  · refine case_v rfl rfl (out_t (by decide) fun x hx => ?_)
    simp [List.replicate] at hx
    subst hx; exact out_t (by decide) fun y hy => by simp at hy; subst hy; exact i0
  · refine case_v rfl rfl (out_t (by decide) fun x hx => ?_)
    simp [List.replicate] at hx
    subst hx; exact out_t (by decide) fun y hy => by simp at hy; subst hy; exact i0
theorem C2_ok {m : Int} {rs : List D} (hl : rs.length ≤ 5) (h : ∀ x ∈ rs, Out' 2 x) : ∀ d ∈ C2 m rs, CaseOk d := by
  intro d hd
  simp only [C2, List.mem_cons, List.not_mem_nil, or_false] at hd
  rcases hd with rfl | rfl | rfl | rfl | rfl | rfl
  · exact case_v rfl rfl (out_t (by simp; omega) fun x hx => h x (by simpa using hx))
  · refine case_v rfl rfl (out_t (by simp; omega) fun x hx => ?_)
    rcases List.mem_append.mp hx with hx | hx
    · exact h x hx
    · simp at hx; subst hx; exact out_t (by simp) fun y hy => by simp at hy; subst hy; exact i0
  · refine case_v rfl rfl (out_t (by decide) fun x hx => ?_)
    simp at hx
    subst hx; exact out_t (by simp) fun y hy => by simp at hy; subst hy; exact i0
  · refine case_v rfl rfl (out_t (by decide) fun x hx => ?_)
    simp at hx
    subst hx; exact out_t (by decide) fun y hy => by simp at hy; subst hy; exact out_flat rfl rfl
  · exact case_v rfl rfl (out_flat rfl rfl)
  · refine case_v rfl rfl (out_t (by decide) fun x hx => ?_)
    simp at hx
    subst hx; exact out_l (by decide) fun y hy => by simp at hy; subst hy; exact i0
theorem C3_ok {m : Int} {rs : List D} (hl : rs.length ≤ 5) (h : ∀ x ∈ rs, Out' 2 x) : ∀ d ∈ C3 m rs, CaseOk d := by
  intro d hd
  obtain ⟨x, hx, rfl⟩ := List.mem_map.mp hd
  have ht : Out' 3 (.tup rs) := out_t (by omega) h
  simp only [O3, List.mem_cons, List.not_mem_nil, or_false] at hx
  rcases hx with rfl | rfl | rfl | rfl | rfl | rfl | rfl | rfl | rfl <;> exact case_v rfl rfl ht
end K02
end
section
set_option linter.all false
set_option Elab.async false
set_option maxRecDepth 100000
set_option maxHeartbeats 2000000
namespace K02
open Fx
variable {n : Nat} {sc : D} {m a b : Int} {rs : List D}
def W (sc : D) (m : Int) (rs : List D) (a b : Int) (mk cs k : Option R) : Env := [some (.val sc), some (.val (.int m)), some (.val (.tup rs)), some (.lst [.int a, .int b]), mk, cs, k, none, none, none, none]
theorem a_add {rs : List D} {xs : List D} (h : rs.length + xs.length ≤ 1000) : binD .Add (.tup rs) (.tup xs) = some (.val (.tup (rs ++ xs))) := if_pos (Nat.le_trans h (by decide))
theorem l_add {rs : List D} {xs : List D} (h : rs.length + xs.length ≤ 1000) : binD .Add (.lst rs) (.lst xs) = some (.lst (rs ++ xs)) := if_pos (Nat.le_trans h (by decide))
theorem v1 (hl : rs.length ≤ 5) {mk cs k : Option R} : evE md.g (md.Φ (n + 7)) (.lst (.cons (.tup (.cons (.var 1) (.cons (.var 2) .nil))) (.cons (.tup (.cons (.var 1) (.cons (.cb .list (.cons (.var 2) .nil)) .nil))) (.cons (.tup (.cons (.var 1) (.cons (.tup .nil) .nil))) (.cons (.tup (.cons (.var 1) (.cons (.slc (.var 2) (.som (.cst (.int 1))) .non) .nil))) (.cons (.tup (.cons (.var 1) (.cons (.bin .Add (.var 2) (.tup (.cons (.tup .nil) .nil))) .nil))) (.cons (.tup (.cons (.var 1) (.cons (.bin .Mult (.tup (.cons (.tup (.cons (.cst (.int 0)) .nil)) .nil)) (.cst (.int 5))) .nil))) (.cons (.tup (.cons (.var 1) (.cons (.bin .Mult (.tup (.cons (.tup (.cons (.cst (.int 0)) .nil)) .nil)) (.cst (.int 6))) .nil))) .nil)))))))) (W sc m rs a b mk cs k) = .ok (.lst (C1 m rs)) (W sc m rs a b mk cs k) := by
  have h1 : evE md.g (md.Φ (n + 7)) (.bin .Add (.var 2) (.tup (.cons (.tup .nil) .nil))) (W sc m rs a b mk cs k) = .ok (.val (.tup (rs ++ [.tup []]))) (W sc m rs a b mk cs k) := e_add rfl rfl (by simp; omega)
  have g1 : ∀ {e : IE} {d : D}, asD md.g.flds (evE md.g (md.Φ (n + 7)) e (W sc m rs a b mk cs k)) = .ok d (W sc m rs a b mk cs k) → asD md.g.flds (evE md.g (md.Φ (n + 7)) (.tup (.cons (.var 1) (.cons e .nil))) (W sc m rs a b mk cs k)) = .ok (.tup [.int m, d]) (W sc m rs a b mk cs k) := by
    intro e d h
    show asD md.g.flds (((asD md.g.flds (evE md.g (md.Φ (n + 7)) (.var 1) (W sc m rs a b mk cs k))).bind fun d ρ => ((asD md.g.flds (evE md.g (md.Φ (n + 7)) e ρ)).bind fun d ρ => Res.ok [d] ρ).bind fun ds ρ => .ok (d :: ds) ρ).bind _) = _
    rw [show asD md.g.flds (evE md.g (md.Φ (n + 7)) (.var 1) (W sc m rs a b mk cs k)) = .ok (.int m) (W sc m rs a b mk cs k) from rfl, b_ok, h]
    rfl
  have cc : ∀ {e : IE} {es : IEs} {d : D} {ds : List D}, asD md.g.flds (evE md.g (md.Φ (n + 7)) e (W sc m rs a b mk cs k)) = .ok d (W sc m rs a b mk cs k) → evDs md.g (md.Φ (n + 7)) es (W sc m rs a b mk cs k) = .ok ds (W sc m rs a b mk cs k) → evDs md.g (md.Φ (n + 7)) (.cons e es) (W sc m rs a b mk cs k) = .ok (d :: ds) (W sc m rs a b mk cs k) := by
    intro e es d ds h h2
    show (asD md.g.flds (evE md.g (md.Φ (n + 7)) e _)).bind _ = _
    rw [h, b_ok, h2]; rfl
  show (evDs md.g (md.Φ (n + 7)) _ _).bind _ = _
  rw [cc (g1 rfl) (cc (g1 rfl) (cc (g1 rfl) (cc (g1 rfl) (cc (g1 (by rw [h1]; rfl)) (cc (g1 rfl) (cc (g1 rfl) rfl))))))]
  rfl
theorem v2 (hl : rs.length ≤ 5) {mk k : Option R} {cs : List D} (hc : cs.length ≤ 100) : evE md.g (md.Φ (n + 7)) (.bin .Add (.var 5) (.lst (.cons (.tup (.cons (.var 1) (.cons (.rev (.var 2)) .nil))) (.cons (.tup (.cons (.var 1) (.cons (.bin .Add (.var 2) (.tup (.cons (.tup (.cons (.var 1) .nil)) .nil))) .nil))) (.cons (.tup (.cons (.var 1) (.cons (.tup (.cons (.tup (.cons (.cst (.int 0)) (.cons (.cst (.int 0)) .nil))) .nil)) .nil))) (.cons (.tup (.cons (.var 1) (.cons (.tup (.cons (.tup (.cons (.cst (.bl true)) .nil)) .nil)) .nil))) (.cons (.tup (.cons (.var 1) (.cons (.cst .non) .nil))) (.cons (.tup (.cons (.var 1) (.cons (.tup (.cons (.lst (.cons (.cst (.int 0)) .nil)) .nil)) .nil))) .nil)))))))) (W sc m rs a b mk (some (.lst cs)) k) = .ok (.lst (cs ++ C2 m rs)) (W sc m rs a b mk (some (.lst cs)) k) := by
  have h1 : evE md.g (md.Φ (n + 7)) (.bin .Add (.var 2) (.tup (.cons (.tup (.cons (.var 1) .nil)) .nil))) (W sc m rs a b mk (some (.lst cs)) k) = .ok (.val (.tup (rs ++ [.tup [.int m]]))) (W sc m rs a b mk (some (.lst cs)) k) := e_add rfl rfl (by simp; omega)
  have g1 : ∀ {e : IE} {d : D}, asD md.g.flds (evE md.g (md.Φ (n + 7)) e (W sc m rs a b mk (some (.lst cs)) k)) = .ok d (W sc m rs a b mk (some (.lst cs)) k) → asD md.g.flds (evE md.g (md.Φ (n + 7)) (.tup (.cons (.var 1) (.cons e .nil))) (W sc m rs a b mk (some (.lst cs)) k)) = .ok (.tup [.int m, d]) (W sc m rs a b mk (some (.lst cs)) k) := by
    intro e d h
    show asD md.g.flds (((asD md.g.flds (evE md.g (md.Φ (n + 7)) (.var 1) (W sc m rs a b mk (some (.lst cs)) k))).bind fun d ρ => ((asD md.g.flds (evE md.g (md.Φ (n + 7)) e ρ)).bind fun d ρ => Res.ok [d] ρ).bind fun ds ρ => .ok (d :: ds) ρ).bind _) = _
    rw [show asD md.g.flds (evE md.g (md.Φ (n + 7)) (.var 1) (W sc m rs a b mk (some (.lst cs)) k)) = .ok (.int m) (W sc m rs a b mk (some (.lst cs)) k) from rfl, b_ok, h]
    rfl
  have cc : ∀ {e : IE} {es : IEs} {d : D} {ds : List D}, asD md.g.flds (evE md.g (md.Φ (n + 7)) e (W sc m rs a b mk (some (.lst cs)) k)) = .ok d (W sc m rs a b mk (some (.lst cs)) k) → evDs md.g (md.Φ (n + 7)) es (W sc m rs a b mk (some (.lst cs)) k) = .ok ds (W sc m rs a b mk (some (.lst cs)) k) → evDs md.g (md.Φ (n + 7)) (.cons e es) (W sc m rs a b mk (some (.lst cs)) k) = .ok (d :: ds) (W sc m rs a b mk (some (.lst cs)) k) := by
    intro e es d ds h h2
    show (asD md.g.flds (evE md.g (md.Φ (n + 7)) e _)).bind _ = _
    rw [h, b_ok, h2]; rfl
  rw [e_bin, show asArg (.var 5) (W sc m rs a b mk (some (.lst cs)) k) (evE md.g (md.Φ (n + 7)) (.var 5) (W sc m rs a b mk (some (.lst cs)) k)) = .ok (.b 5) (W sc m rs a b mk (some (.lst cs)) k) from rfl, b_ok]
  show (((evDs md.g (md.Φ (n + 7)) _ (W sc m rs a b mk (some (.lst cs)) k)).bind fun ds ρ => if ds.length ≤ LINE then Res.ok (R.lst ds) ρ else .stuck).bind fun r ρ => Res.ok (Ar.v r) ρ).bind _ = _
  rw [cc (g1 rfl) (cc (g1 (by rw [h1]; rfl)) (cc (g1 rfl) (cc (g1 rfl) (cc (g1 rfl) (cc (g1 rfl) rfl)))))]
  show optR (binD .Add (.lst cs) (.lst (C2 m rs))) _ = _
  rw [l_add (by show cs.length + 6 ≤ 1000; omega)]; rfl
theorem as_comp {g : G} {Φ : Fn} {elt : IE} {own : List Nat} {tg : Tg} {src : II} {c : IO} {ρ ρ' : Env} {r : R} (h : evE g Φ (.comp elt own tg src c) ρ = .ok r ρ') : asArg (.comp elt own tg src c) ρ (evE g Φ (.comp elt own tg src c) ρ) = .ok (.v r) ρ' := by
  rw [h]; rfl
theorem v3 (hl : rs.length ≤ 5) {mk k : Option R} {cs : List D} (hc : cs.length ≤ 100) : evE md.g (md.Φ (n + 7)) (.bin .Add (.var 5) (.comp (.tup (.cons (.var 10) (.cons (.var 2) .nil))) [10] (.one 10) (.seq (.lst (.cons (.cst (.int 0)) (.cons (.cst (.int 6)) (.cons (.neg (.cst (.int 1))) (.cons (.cst .non) (.cons (.cst (.bl true)) (.cons (.cst (.str "2")) (.cons (.bin .Add (.var 1) (.cst (.int 1))) (.cons (.bin .Sub (.var 1) (.cst (.int 1))) (.cons (.cst (.int 5)) .nil))))))))))) .non)) (W sc m rs a b mk (some (.lst cs)) k) = .ok (.lst (cs ++ C3 m rs)) (W sc m rs a b mk (some (.lst cs)) k) := by
  have hc' := comp_pure (g := md.g) (Φ := md.Φ (n + 7)) (ρ := W sc m rs a b mk (some (.lst cs)) k) (i := 10) (elt := .tup (.cons (.var 10) (.cons (.var 2) .nil))) (src := .seq (.lst (.cons (.cst (.int 0)) (.cons (.cst (.int 6)) (.cons (.neg (.cst (.int 1))) (.cons (.cst .non) (.cons (.cst (.bl true)) (.cons (.cst (.str "2")) (.cons (.bin .Add (.var 1) (.cst (.int 1))) (.cons (.bin .Sub (.var 1) (.cst (.int 1))) (.cons (.cst (.int 5)) .nil))))))))))) (c := .non) (ds := O3 m) (p := fun _ => true) (q := fun d => .tup [d, .tup rs]) (by show 10 < 11; omega) (src_l rfl) (by show 9 ≤ LINE; decide) (fun d _ => rfl) (fun d _ _ => rfl)
  rw [filter_true] at hc'
  rw [e_bin, show asArg (.var 5) (W sc m rs a b mk (some (.lst cs)) k) (evE md.g (md.Φ (n + 7)) (.var 5) (W sc m rs a b mk (some (.lst cs)) k)) = .ok (.b 5) (W sc m rs a b mk (some (.lst cs)) k) from rfl, b_ok]
  rw [as_comp hc', b_ok]
  show optR (binD .Add (.lst cs) (.lst (C3 m rs))) _ = _
  rw [l_add (by show cs.length + 9 ≤ 1000; omega)]; rfl
end K02
end
section
set_option linter.all false
set_option Elab.async false
set_option maxRecDepth 100000
set_option maxHeartbeats 2000000
namespace K02
open Fx
variable {n : Nat} {sc : D} {m a b : Int} {rs : List D}
def spE : IE := .tup (.cons (.var 1) (.cons (.call 14 (.cons (.var 3) (.cons (.var 2) (.cons (.cst (.int 2)) .nil)))) .nil))
theorem sp_app {mk k : Option R} {cs : List D} (hc : cs.length ≤ 100) (hi : Inp 2 (.tup rs)) : ∃ a' b' d, CaseOk d ∧ evSs md.g (md.Φ (n + 7)) (.cons (.app 5 spE) .nil) (W sc m rs a b mk (some (.lst cs)) k) = .nx (W sc m rs a' b' mk (some (.lst (cs ++ [d]))) k) := by
  obtain ⟨a', b', r, o, e, hr⟩ := sp 2 (n + 2) (.tup rs) 2 a b hi
  obtain ⟨y, ey, hy⟩ := or_as (fl := md.g.flds) (ρ := W sc m rs a' b' mk (some (.lst cs)) k) hr
  have hh : hand [.b 3, .v (.val (.tup rs)), .v (.val (.int 2))] (W sc m rs a b mk (some (.lst cs)) k) = some ([.lst [.int a, .int b], .val (.tup rs), .val (.int 2)], (W sc m rs a b mk (some (.lst cs)) k).set 3 none) := rfl
  have e1 : evE md.g (md.Φ (n + 7)) (.call 14 (.cons (.var 3) (.cons (.var 2) (.cons (.cst (.int 2)) .nil)))) (W sc m rs a b mk (some (.lst cs)) k) = .ok r (W sc m rs a' b' mk (some (.lst cs)) k) := by
    show callR (md.Φ (n + 7)) 14 [.b 3, .v (.val (.tup rs)), .v (.val (.int 2))] (W sc m rs a b mk (some (.lst cs)) k) = _
    rw [call_v hh e]
    show Res.ok r ((giveB [.v (.val (.tup rs)), .v (.val (.int 2))] o ((W sc m rs a b mk (some (.lst cs)) k).set 3 none)).set 3 _) = _
    have : giveB [.v (.val (.tup rs)), .v (.val (.int 2))] o ((W sc m rs a b mk (some (.lst cs)) k).set 3 none) = (W sc m rs a b mk (some (.lst cs)) k).set 3 none := by
      cases o with
      | nil => rfl
      | cons x o => cases o <;> rfl
    rw [this]; rfl
  refine ⟨a', b', .tup [.int m, y], case_v rfl rfl hy, ?_⟩
  have e2 : asD md.g.flds (evE md.g (md.Φ (n + 7)) spE (W sc m rs a b mk (some (.lst cs)) k)) = .ok (.tup [.int m, y]) (W sc m rs a' b' mk (some (.lst cs)) k) := by
    unfold spE
    show asD md.g.flds (((asD md.g.flds (evE md.g (md.Φ (n + 7)) (.var 1) (W sc m rs a b mk (some (.lst cs)) k))).bind fun d ρ => ((asD md.g.flds (evE md.g (md.Φ (n + 7)) (.call 14 (.cons (.var 3) (.cons (.var 2) (.cons (.cst (.int 2)) .nil)))) ρ)).bind fun d ρ => Res.ok [d] ρ).bind fun ds ρ => .ok (d :: ds) ρ).bind _) = _
    rw [show asD md.g.flds (evE md.g (md.Φ (n + 7)) (.var 1) (W sc m rs a b mk (some (.lst cs)) k)) = .ok (.int m) (W sc m rs a b mk (some (.lst cs)) k) from rfl, b_ok, e1, ey]
    rfl
  rw [ss_cons, e_app (ds := cs) (es := cs) rfl e2 rfl (Nat.lt_of_le_of_lt hc (by decide)), s_nx, ss_nil]
  rfl
theorem sp_loop {mk : Option R} (hi : Inp 2 (.tup rs)) : ∀ (ds cs : List D) (a b : Int) (k : Option R), cs.length + ds.length ≤ 100 → (∀ d ∈ cs, CaseOk d) → ∃ a' b' k' cs', (∀ d ∈ cs', CaseOk d) ∧ forF (.one 6) (fun ρ => evSs md.g (md.Φ (n + 7)) (.cons (.app 5 spE) .nil) ρ) ds (W sc m rs a b mk (some (.lst cs)) k) = .nx (W sc m rs a' b' mk (some (.lst cs')) k')
  | [], cs, a, b, k, _, h => ⟨a, b, k, cs, h, rfl⟩
  | d :: ds, cs, a, b, k, hl, h => by
    have hl' : cs.length + (ds.length + 1) ≤ 100 := hl
    obtain ⟨a1, b1, y, hy, e1⟩ := sp_app (n := n) (sc := sc) (m := m) (a := a) (b := b) (rs := rs) (mk := mk) (k := some (.val d)) (cs := cs) (by omega) hi
    obtain ⟨a', b', k', cs', h', e2⟩ := sp_loop hi ds (cs ++ [y]) a1 b1 (some (.val d)) (by simp; omega) (fun x hx => by
      rcases List.mem_append.mp hx with hx | hx
      · exact h x hx
      · simp at hx; subst hx; exact hy)
    exact ⟨a', b', k', cs', h', (for_nx (i := 6) (d := d) (ds := ds) (ρ := W sc m rs a b mk (some (.lst cs)) k) (body := fun ρ => evSs md.g (md.Φ (n + 7)) (.cons (.app 5 spE) .nil) ρ) (ρ2 := W sc m rs a1 b1 mk (some (.lst (cs ++ [y]))) (some (.val d))) e1).trans e2⟩
theorem v4 (h0 : 1 ≤ m) (h1 : m ≤ 5) {mk k : Option R} {cs : List D} (hc : cs.length ≤ 100) : ∃ d, CaseOk d ∧ evS md.g (md.Φ (n + 7)) (.app 5 (.tup (.cons (.var 1) (.cons (.tup (.cons (.rev (.cb .tuple (.cons (.cb .range (.cons (.var 1) .nil)) .nil))) .nil)) .nil)))) (W sc m rs a b mk (some (.lst cs)) k) = .nx (W sc m rs a b mk (some (.lst (cs ++ [d]))) k) := by
  have hm : m = 1 ∨ m = 2 ∨ m = 3 ∨ m = 4 ∨ m = 5 := by omega
  refine ⟨.tup [.int m, .tup [.tup (rngL 0 m).reverse]], case_v rfl rfl (out_t (by simp) fun x hx => ?_), ?_⟩
  · simp at hx
    subst hx
    rcases hm with rfl | rfl | rfl | rfl | rfl <;> exact out_t (by decide) fun y hy => by
      obtain ⟨k, _, rfl⟩ := mem_rng0 (List.mem_reverse.mp hy)
      exact i0
  · rw [e_app (ds := cs) (es := cs) (d := .tup [.int m, .tup [.tup (rngL 0 m).reverse]]) (ρ' := W sc m rs a b mk (some (.lst cs)) k) rfl (by rcases hm with rfl | rfl | rfl | rfl | rfl <;> rfl) rfl (Nat.lt_of_le_of_lt hc (by decide))]
    rfl
end K02
end
section
set_option linter.all false
set_option Elab.async false
set_option maxRecDepth 100000
set_option maxHeartbeats 4000000
namespace K02
open Fx
theorem tr_main {n : Nat} (ns : List Int) (hl : ns.length ≤ 63) : ∃ ρ, evSs md.g (md.Φ (n + 7)) b_law [some (.val (.lst (ns.map .int))), none, none, none, none, none, none, none, none, none, none] = .rt (.val (.bl true)) ρ := by
  obtain ⟨m, rs, hdr⟩ := drawn_ok (n + 4) ns hl
  obtain ⟨o, hd, hm, hl1, hl5, hb⟩ := hdr
  obtain ⟨a, b, hbx⟩ := box_ok (n + 6) ns hl 4 (by omega) (by omega)
  have hi : ∀ x ∈ rs, Inp 1 x := fun x hx => bunch_inp hm (hb x hx)
  have h2 : ∀ x ∈ rs, Out' 2 x := fun x hx => out_up (inp_out (hi x hx))
  have hp : D.plains rs = true := plains_of fun x hx => (out_nice (h2 x hx)).1
  have hde : D.depths rs ≤ 2 := depths_le fun x hx => (out_nice (h2 x hx)).2.1
  have hro : rowsOk m (.tup rs) = true := by
    show (decide (1 ≤ rs.length) && decide (rs.length ≤ 5) && rs.all (bunch m)) = true
    simp only [Bool.and_eq_true, decide_eq_true_eq]
    exact ⟨⟨hl1, hl5⟩, List.all_eq_true.mpr hb⟩
  have hs : shorts (.tup rs) := by
    intro ds e z hz
    cases e
    exact (out_nice (h2 z hz)).2.2
  have hq : inR 1 5 (.int m) = true := by
    show (decide (1 ≤ m) && decide (m ≤ 5)) = true
    simp [hm.1, hm.2]
  generalize hsc : (D.lst (ns.map .int)) = sc at *
  have s1 : evS md.g (md.Φ (n + 7)) (.unp [1, 2] (.call 16 (.cons (.var 0) .nil))) [some (.val sc), none, none, none, none, none, none, none, none, none, none] = .nx [some (.val sc), some (.val (.int m)), some (.val (.tup rs)), none, none, none, none, none, none, none, none] := by
    have c := call1 (ρ := [some (.val sc), none, none, none, none, none, none, none, none, none, none]) ⟨o, hd⟩
    have e : evE md.g (md.Φ (n + 7)) (.call 16 (.cons (.var 0) .nil)) [some (.val sc), none, none, none, none, none, none, none, none, none, none] = .ok (.val (.tup [.int m, .tup rs])) [some (.val sc), none, none, none, none, none, none, none, none, none, none] := c
    show (asD md.g.flds (evE md.g (md.Φ (n + 7)) (.call 16 (.cons (.var 0) .nil)) _)).thn _ = _
    rw [e]; rfl
  have s2 : evE md.g (md.Φ (n + 7)) (.call 8 (.cons (.var 0) (.cons (.cst (.int 4)) .nil))) [some (.val sc), some (.val (.int m)), some (.val (.tup rs)), none, none, none, none, none, none, none, none] = .ok (.lst [.int a, .int b]) [some (.val sc), some (.val (.int m)), some (.val (.tup rs)), none, none, none, none, none, none, none, none] := by
    have c := call2 (ρ := [some (.val sc), some (.val (.int m)), some (.val (.tup rs)), none, none, none, none, none, none, none, none]) hbx
    exact c
  have mk : ∀ {x cs k : Option R}, evE md.g (md.Φ (n + 7)) (.make 0 (.cons (.var 1) (.cons (.var 2) .nil))) (W sc m rs a b x cs k) = .ok (.obj 0 [.val (.int m), .val (.tup rs)]) (W sc m rs a b x cs k) := by
    intro x cs k
    show makeR (md.Φ (n + 1 + 6)) md.g.ini 0 [.v (.val (.int m)), .v (.val (.tup rs))] _ = _
    rw [mkT (n + 1) (.int m) (.tup rs) _ rfl hp hs]
    unfold tabR
    rw [if_pos hq]
    exact if_pos (show rowsOk (toI (.int m)) (.tup rs) = true from hro)
  have q1 : evE md.g (md.Φ (n + 7)) (.eqo (.var 4) (.make 0 (.cons (.var 1) (.cons (.var 2) .nil)))) (W sc m rs a b (some (.obj 0 [.val (.int m), .val (.tup rs)])) none none) = .ok (.val (.bl true)) (W sc m rs a b (some (.val (.ins 0 [.int m, .tup rs]))) none none) := by
    show (asD md.g.flds (evE md.g (md.Φ (n + 7)) (.make 0 (.cons (.var 1) (.cons (.var 2) .nil))) (W sc m rs a b (some (.val (.ins 0 [.int m, .tup rs]))) none none))).bind (fun y ρ => eqoR md.g (md.Φ (n + 7)) (.ins 0 [.int m, .tup rs]) y ρ) = _
    rw [mk]
    show eqoR md.g (md.Φ (n + 6 + 1)) (.ins 0 [.int m, .tup rs]) (.ins 0 [.int m, .tup rs]) _ = _
    rw [eqo_i (m := .int m) (r := .tup rs) (m2 := .int m) (r2 := .tup rs) rfl hp rfl hp (by show 0 ≤ 40; omega) (by show D.depths rs + 1 ≤ 40; omega), eqv_refl (.int m) rfl, eqv_refl (.tup rs) hp]
    rfl
  have q2 : evE md.g (md.Φ (n + 7)) (.eqo (.var 4) (.tup (.cons (.var 1) (.cons (.var 2) .nil)))) (W sc m rs a b (some (.val (.ins 0 [.int m, .tup rs]))) none none) = .ok (.val (.bl false)) (W sc m rs a b (some (.val (.ins 0 [.int m, .tup rs]))) none none) := by
    show eqoR md.g (md.Φ (n + 6 + 1)) (.ins 0 [.int m, .tup rs]) (.tup [.int m, .tup rs]) _ = _
    exact eqo_t
  have q3 : evE md.g (md.Φ (n + 7)) (.cmp .NotEq (.call 7 (.cons (.var 4) .nil)) (.cb .tuple (.cons (.call 17 (.cons (.tup (.cons (.var 1) (.cons (.var 2) .nil))) .nil)) .nil))) (W sc m rs a b (some (.val (.ins 0 [.int m, .tup rs]))) none none) = .ok (.val (.bl false)) (W sc m rs a b (some (.val (.ins 0 [.int m, .tup rs]))) none none) := by
    have hr : Rows rs := ⟨hl5, fun r hr => by
      obtain ⟨ds, rfl, _, _⟩ := hi r hr
      exact ⟨ds, rfl, plains_mem hp _ hr⟩⟩
    have c1 := call1 (ρ := W sc m rs a b (some (.val (.ins 0 [.int m, .tup rs]))) none none) (outs_ok (n + 6) m rs (by have := hm.1; omega) hm.2 hr)
    have c2 := call1 (ρ := W sc m rs a b (some (.val (.ins 0 [.int m, .tup rs]))) none none) (louts_ok (n + 6) m rs (by have := hm.1; omega) hm.2 hr)
    have e1 : evE md.g (md.Φ (n + 7)) (.call 7 (.cons (.var 4) .nil)) (W sc m rs a b (some (.val (.ins 0 [.int m, .tup rs]))) none none) = .ok (.val (.tup (pairs m rs))) (W sc m rs a b (some (.val (.ins 0 [.int m, .tup rs]))) none none) := c1
    have e2 : evE md.g (md.Φ (n + 7)) (.call 17 (.cons (.tup (.cons (.var 1) (.cons (.var 2) .nil))) .nil)) (W sc m rs a b (some (.val (.ins 0 [.int m, .tup rs]))) none none) = .ok (.lst (pairs m rs)) (W sc m rs a b (some (.val (.ins 0 [.int m, .tup rs]))) none none) := c2
    have e3 : evE md.g (md.Φ (n + 7)) (.cb .tuple (.cons (.call 17 (.cons (.tup (.cons (.var 1) (.cons (.var 2) .nil))) .nil)) .nil)) (W sc m rs a b (some (.val (.ins 0 [.int m, .tup rs]))) none none) = .ok (.val (.tup (pairs m rs))) (W sc m rs a b (some (.val (.ins 0 [.int m, .tup rs]))) none none) := by
      show ((((evE md.g (md.Φ (n + 7)) (.call 17 (.cons (.tup (.cons (.var 1) (.cons (.var 2) .nil))) .nil)) _).bind fun r ρ => Res.ok (Ar.v r) ρ).bind fun a ρ => Res.ok [a] ρ).bind fun as ρ => match getDs md.g.flds ρ as with
        | some ds => optR (cbD .tuple ds) ρ
        | none => .stuck) = _
      rw [e2, b_ok, b_ok, b_ok, g_l, g_nil]
      rfl
    have q : cmpD .NotEq (.tup (pairs m rs)) (.tup (pairs m rs)) = some false := by
      show (eqD _ _).map not = _
      have pp := pairs_plain (m := m) (rs := rs)
      rw [eqD_ok (show D.plain (.tup (pairs m rs)) = true from pp.1) (show D.plain (.tup (pairs m rs)) = true from pp.1) (by show D.depths (pairs m rs) + 1 ≤ 40; have := pp.2; omega), eqv_refl (.tup (pairs m rs)) pp.1]
      rfl
    show (((evE md.g (md.Φ (n + 7)) (.call 7 (.cons (.var 4) .nil)) _).bind fun r ρ => Res.ok (Ar.v r) ρ).bind fun x ρ => ((evE md.g (md.Φ (n + 7)) (.cb .tuple (.cons (.call 17 (.cons (.tup (.cons (.var 1) (.cons (.var 2) .nil))) .nil)) .nil)) ρ).bind fun r ρ => Res.ok (Ar.v r) ρ).bind fun y ρ => match x.d md.g.flds ρ, y.d md.g.flds ρ with
      | some x, some y => cmpP .NotEq x y ρ
      | _, _ => .stuck) = _
    rw [e1, b_ok, b_ok, e3, b_ok, b_ok]
    exact p_some (ρ := W sc m rs a b (some (.val (.ins 0 [.int m, .tup rs]))) none none) q
  have s4 : teE md.g (md.Φ (n + 7)) (.bop false (.cons (.nt (.eqo (.var 4) (.make 0 (.cons (.var 1) (.cons (.var 2) .nil))))) (.cons (.eqo (.var 4) (.tup (.cons (.var 1) (.cons (.var 2) .nil)))) (.cons (.cmp .NotEq (.call 7 (.cons (.var 4) .nil)) (.cb .tuple (.cons (.call 17 (.cons (.tup (.cons (.var 1) (.cons (.var 2) .nil))) .nil)) .nil))) .nil)))) (W sc m rs a b (some (.obj 0 [.val (.int m), .val (.tup rs)])) none none) = .ok false (W sc m rs a b (some (.val (.ins 0 [.int m, .tup rs]))) none none) := by
    have n1 : evE md.g (md.Φ (n + 7)) (.nt (.eqo (.var 4) (.make 0 (.cons (.var 1) (.cons (.var 2) .nil))))) (W sc m rs a b (some (.obj 0 [.val (.int m), .val (.tup rs)])) none none) = .ok (.val (.bl false)) (W sc m rs a b (some (.val (.ins 0 [.int m, .tup rs]))) none none) := by
      show (teE md.g (md.Φ (n + 7)) (.eqo _ _) _).bind _ = _
      rw [te_tv rfl]
      show ((evE md.g (md.Φ (n + 7)) (.eqo _ _) _).bind _).bind _ = _
      rw [q1]
      rfl
    rw [te_tv rfl]
    show (evB md.g (md.Φ (n + 7)) false _ _).bind _ = _
    rw [or_ff' (by rw [n1]; rfl), or_ff' (by rw [q2]; rfl)]
    show (evE md.g (md.Φ (n + 7)) (.cmp .NotEq _ _) _).bind _ = _
    rw [q3]
    rfl
  have w1 : ([some (.val sc), some (.val (.int m)), some (.val (.tup rs)), none, none, none, none, none, none, none, none] : Env).set 3 (some (.lst [.int a, .int b])) = W sc m rs a b none none none := rfl
  have w2 : (W sc m rs a b none none none).set 4 (some (.obj 0 [.val (.int m), .val (.tup rs)])) = W sc m rs a b (some (.obj 0 [.val (.int m), .val (.tup rs)])) none none := rfl
  have w3 : ∀ {x y k v : Option R}, (W sc m rs a b x y k).set 5 v = W sc m rs a b x v k := rfl
  obtain ⟨d4, hd4, e4⟩ := v4 (n := n) (sc := sc) (m := m) (a := a) (b := b) (rs := rs) (mk := some (.val (.ins 0 [.int m, .tup rs]))) (k := none) (cs := (C1 m rs ++ C2 m rs) ++ C3 m rs) hm.1 hm.2 (by show 22 ≤ 100; omega)
  have hC : ∀ d ∈ ((C1 m rs ++ C2 m rs) ++ C3 m rs) ++ [d4], CaseOk d := by
    intro d hd
    simp only [List.mem_append, List.mem_cons, List.not_mem_nil, or_false] at hd
    rcases hd with ((hd | hd) | hd) | rfl
    · exact C1_ok hl5 h2 d hd
    · exact C2_ok hl5 h2 d hd
    · exact C3_ok hl5 h2 d hd
    · exact hd4
  obtain ⟨a', b', k', cs', hC', e5⟩ := sp_loop (n := n) (sc := sc) (m := m) (rs := rs) (mk := some (.val (.ins 0 [.int m, .tup rs]))) ⟨rs, rfl, by omega, hi⟩ (rngL 0 5) (((C1 m rs ++ C2 m rs) ++ C3 m rs) ++ [d4]) a b none (by show 23 + 5 ≤ 100; omega) hC
  obtain ⟨one', due', other', e6⟩ := cases_ok (n := n) (sc := sc) (m := m) (rs := rs) (bx := some (.lst [.int a', .int b'])) (cs := some (.val (.lst cs'))) (k := k') hp (by omega) cs' none none none hC'
  refine ⟨EL sc m rs (some (.lst [.int a', .int b'])) (some (.val (.lst cs'))) k' one' due' other', ?_⟩
  unfold b_law
  rw [ss_cons, s1, s_nx, ss_cons, e_asg, s2, Fx.t_ok, s_nx, w1, ss_cons, e_asg, mk, Fx.t_ok, s_nx, w2, ss_cons, ifs_t s4, if_neg Bool.false_ne_true, ss_nil, s_nx]
  rw [ss_cons, e_asg, v1 hl5, Fx.t_ok, s_nx, w3]
  rw [ss_cons, e_asg, v2 hl5 (by show 7 ≤ 100; omega), Fx.t_ok, s_nx, w3]
  rw [ss_cons, e_asg, v3 hl5 (by show 13 ≤ 100; omega), Fx.t_ok, s_nx, w3]
  rw [ss_cons, e4, s_nx]
  rw [ss_cons, e_for (ds := rngL 0 5) (ρ' := W sc m rs a b (some (.val (.ins 0 [.int m, .tup rs]))) (some (.lst (((C1 m rs ++ C2 m rs) ++ C3 m rs) ++ [d4]))) none) rfl]
  refine (congrArg (fun t => SRes.thn t _) e5).trans ?_
  rw [s_nx]
  rw [ss_cons, e_for (ds := cs') (ρ' := EL sc m rs (some (.lst [.int a', .int b'])) (some (.val (.lst cs'))) k' none none none) rfl]
  refine (congrArg (fun t => SRes.thn t _) e6).trans ?_
  rfl
theorem tr (ns : List Int) (hl : ns.length ≤ 63) : ∃ outs, md.Φ 9 21 [.val (.lst (ns.map .int))] = .ok (.val (.bl true)) outs := by
  obtain ⟨ρ, e⟩ := tr_main (n := 1) ns hl
  exact phi_rt (d := d_law) rfl rfl e
end K02
end
section
set_option linter.all false
set_option Elab.async false
set_option maxRecDepth 100000
set_option maxHeartbeats 0
namespace K02
open Fx PySem PySem.Spec L2 PyProof.Rows
abbrev R : PySem.W.OpenRow := PySem.W.OpenLaw.row PySem.Challenge.rw_chambercuts_k02_tables
abbrev hk : PySem.W.Hook := md.hook 5
def ob (s : PySem.W.SharedT) : He.AlD := md.obsG 5 (HandSHeadRun.getT s)
theorem ob_eq (s : PySem.W.SharedT) : ob s = hk.obs s.abs := md.obsG_eq (HandSHeadRun.getT_eq s)
def nm0 : List PySem.Str := ["LockError", "InvalidNumber", "InvalidLocks", "is_integer", "is_within", "is_tuple", "is_ascending", "is_rising", "MOST_KEYS", "MOST_LOCKS", "is_bunch", "are_rows", "Table", "outs", "_law_box", "_law_take", "_law_pick", "_law_whole", "_law_is_numbers", "_law_is_due", "_law_spoilt", "_law_ascends", "_law_drawn_table", "_law_outs", "_law_is_lot", "_law_told", "_law_due"]
def names : List PySem.Str := nm0
theorem run (w : World) : HandSHeadRun.RunEq R (PySem.W.view R.prog [31]) hk ob 30000 names w := by
  intro os
  kernel_rfl

end K02
end
section
set_option linter.all false
set_option Elab.async false
set_option maxRecDepth 100000
set_option maxHeartbeats 0
namespace K02
open Fx PySem PySem.Spec L2 PyProof.Rows
end K02
open PySem PySem.W PySem.Calls PyProof.Rows
theorem ended (tr : ∀ ns : List Int, ns.length ≤ 63 → ∃ outs, K02.md.Φ 9 21 [.val (.lst (ns.map .int))] = .ok (.val (.bl true)) outs) : PySem.Challenge.rw_chambercuts_k02_tables.Holds := by
  w_on; o_law
  refine HandSHeadRun.head_any (r := OpenLaw.row PySem.Challenge.rw_chambercuts_k02_tables) (q := view (OpenLaw.row PySem.Challenge.rw_chambercuts_k02_tables).prog [31]) (H := K02.hk) (ob := K02.ob) (M := 30000) (loose := K02.names) (d := HandSHeadRun.topDef (OpenLaw.row PySem.Challenge.rw_chambercuts_k02_tables).prog 31) (kwd := []) K02.ob_eq
    (by kernel_rfl) (fun s => by kernel_rfl) K02.run (by kernel_rfl) (by kernel_rfl) (by kernel_rfl) (by rfl) (by first | assumption | decide +kernel) (by decide +kernel) ⟨rfl, rfl, rfl, rfl, rfl, by decide +kernel⟩ ?hw ?hc
  case hw => w_witness2
  case hc =>
    refine L2.walk_ofE (l := PySem.Challenge.rw_chambercuts_k02_tables) (n := 63) (k := 2 * 9 + 2) (x := "script") (CX := Fx.CXu PySem.Challenge.rw_chambercuts_k02_tables.prog) rfl (by decide) (by kernel_rfl) ⟨rfl, by decide, by decide⟩ ?F Fx.CXu_no
    intro w mg fa h Y G hmg0
    have hmg : mg ("law" : PySem.Str) = some (.ref fa) := by
      have e : (HandSHeadRun.topDef (OpenLaw.row PySem.Challenge.rw_chambercuts_k02_tables).prog 31).name = ("law" : PySem.Str) := by kernel_rfl
      rw [← e]
      exact hmg0
    exact Fx.law_F (md := K02.md) (n := 9) (f := 21) (d := K02.d_law) (x := "script") (np := 1) Y G hmg rfl rfl rfl rfl K02.t_shape K02.t_lnk K02.t_nb K02.t_ok K02.t_eok K02.t_ba K02.t_eba tr
end
theorem PySem.Challenge.cw_chambercuts_k02_tables_holds : PySem.Challenge.rw_chambercuts_k02_tables.Holds :=
  ended K02.tr
