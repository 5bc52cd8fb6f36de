import PyProof.Rows.All
import HandS.ForExc
import HandS.Comp
import HandS.Dict
import HandS.Iter
import HandS.More
import HandS.Style
import HandS.TupAny
import HandS.TupMul
import HandS.IsInst
import HandS.Conv
import HandS.Zip
import HandS.Sort
import HandS.Flow
import HandS.CallSlots
import HandS.TryMany
import HandS.ExcField
import HandS.Defaults
import HandS.Head2
import HandS.HeadHook2
import HandS.HeadEnd
import KE.DataEq
import KE.DataCmp
import KE.SortData
import KE.KDictKeyed
import KE.KDictWalk
import KE.KDictList
import HandS.Set
import HandS.Strs
import HandS.SetKeys
import HandS.TupSets
import HandS.SortInts
import HandS.Gcd
import HandS.Deep
import KE.KDictSum
import KE.DataMinMax
import HandS.SetFor
import HandS.ExcInit
import HandS.ExcIs
import HandS.Words
import HandS.Codes
import PySem.Challenge.RW_chambercuts_k21_whole_filing
section
set_option linter.all false
set_option Elab.async false
set_option maxRecDepth 100000
set_option maxHeartbeats 4000000
/-! The value layer: Python values as plain Lean data, and how they lie in the abstract heap. -/
namespace Fx
open PySem PySem.Spec L2

/-- plain values: immutable, or never changed again -/
inductive D where
  | non | bl (b : Bool) | int (i : Int) | str (x : Str)
  | tup (ds : List D) | lst (ds : List D) | rng (lo hi : Int)
  | ins (c : Nat) (ds : List D)
  | dct (ks vs : List D)
deriving Inhabited

/-- values that a name owns alone (they may still change), or plain ones -/
inductive R where
  | val (d : D) | lst (ds : List D) | obj (c : Nat) (rs : List R) | dct (ks vs : List D)
deriving Inhabited

abbrev Env := List (Option R)

/-- the names' table: the written part, the classes, their fields -/
structure Nm where
  K : PySem.W.Frag
  cls : Nat → Addr
  flds : Nat → List Nat
  fname : Nat → Str
  xcls : Nat → Addr
  xfld : Nat → Str

def Nm.zip (T : Nm) (c : Nat) (xs : List V) : List (Str × V) := ((T.flds c).map T.fname).zip xs

variable {T : Nm}

/-! ### keys of dicts: ints, and tuples of such, nested -/
mutual
def D.isKey : D → Bool
  | .int _ => true
  | .tup ds => D.areKeys ds
  | .non | .bl _ | .str _ | .lst _ | .rng _ _ | .ins _ _ | .dct _ _ => false
def D.areKeys : List D → Bool
  | [] => true
  | d :: ds => d.isKey && D.areKeys ds
end
mutual
def D.nk : D → NestedKey
  | .int i => .num i
  | .tup ds => .tup (D.nks ds)
  | .non | .bl _ | .str _ | .lst _ | .rng _ _ | .ins _ _ | .dct _ _ => .none
def D.nks : List D → List NestedKey
  | [] => []
  | d :: ds => d.nk :: D.nks ds
end
mutual
/-- a key's hash, of whole numbers and tuples -/
def nkHash : NestedKey → Int
  | .none => 0
  | .num i => hashInt i
  | .text _ => 0
  | .tup ks => reduceHash (Builtin.Tuple.tupleHashOf (nkHashes ks))
def nkHashes : List NestedKey → List Int
  | [] => []
  | k :: ks => nkHash k :: nkHashes ks
end
/-- an int -/
def D.isInt : D → Bool
  | .int _ => true
  | _ => false
/-- a tuple that may be a key -/
def D.isTK : D → Bool
  | .tup ds => D.areKeys ds && decide ((D.nk (.tup ds)).depth ≤ 8)
  | _ => false
abbrev DEs := List (NestedKey × Addr × V)
/-- a dict's own object, its keys tuples that stand at known places -/
def dicX (a : Addr) (es : DEs) : Heap → Prop := fun h => (a == sysModules) = false ∧ es.length ≤ sizeLine ∧
  ∃ xs : List (NestedKey × Addr × Value), Paired (fun (p : NestedKey × Addr × V) (q : NestedKey × Addr × Value) => p.1 = q.1 ∧ p.2.1 = q.2.1 ∧ RelV p.2.2 q.2.2) es xs ∧
    ∃ o en ep, h.get? a = some o ∧ o.ExactDict ∧ o.data = .dict en ep ∧ en.toList = xs.map (fun x => (⟨nkHash x.1, .ref x.2.1, x.2.2⟩ : DictEntry)) ∧ (xs.map (·.1)).Nodup

mutual
inductive Rp (T : Nm) (F : Hp) : V → D → Prop
  | non : Rp T F .non .non
  | bl (b : Bool) : Rp T F (.bl b) (.bl b)
  | int (i : Int) : Rp T F (.int i) (.int i)
  | str (x : Str) : Rp T F (.str x) (.str x)
  | tup {a : Addr} {xs : List V} {ds : List D} : SqT T.K F a xs → RpL T F xs ds → Rp T F (.ref a) (.tup ds)
  | lst {a : Addr} {xs : List V} {ds : List D} : SqL T.K F a xs → RpL T F xs ds → Rp T F (.ref a) (.lst ds)
  | rng {a : Addr} {lo hi : Int} : F a = some (.rng lo hi) → Rp T F (.ref a) (.rng lo hi)
  | ins {a dx : Addr} {c : Nat} {xs : List V} {ds : List D} : F a = some (.ins (T.cls c) dx (T.zip c xs)) → xs.length = (T.flds c).length → RpL T F xs ds → Rp T F (.ref a) (.ins c ds)
  | dctI {a : Addr} {kvs : List (Int × V)} {ks vs : List D} : Rd F a (.dK (kvs.map fun p => (Sum.inl p.1, p.2))) → ks = kvs.map (fun p => D.int p.1) → RpL T F (kvs.map (·.2)) vs → Rp T F (.ref a) (.dct ks vs)
  | dctT {a : Addr} {es : DEs} {ks vs : List D} : Rd F a (.ext (dicX a es)) → es ≠ [] → ks.all D.isTK = true → es.map (·.1) = ks.map D.nk → RpL T F (es.map fun e => .ref e.2.1) ks → RpL T F (es.map fun e => e.2.2) vs → Rp T F (.ref a) (.dct ks vs)
inductive RpL (T : Nm) (F : Hp) : List V → List D → Prop
  | nil : RpL T F [] []
  | cons {v : V} {vs : List V} {d : D} {ds : List D} : Rp T F v d → RpL T F vs ds → RpL T F (v :: vs) (d :: ds)
end

theorem same_rd {H H' : Hp} {a : Addr} {o : HO} (e : Same H H') (h : Rd H a o) : Rd H' a o := by
  rcases h with h | ⟨u, h⟩
  · exact .inl (e _ _ h)
  · exact .inr ⟨u, e _ _ h⟩
theorem same_sqL {K : PySem.W.Frag} {H H' : Hp} {a : Addr} {xs : List V} (e : Same H H') (h : SqL K H a xs) : SqL K H' a xs := by
  rcases h with (h | ⟨o, h⟩) | h
  · exact .inl (.inl (e _ _ h))
  · exact .inl (.inr ⟨o, e _ _ h⟩)
  · exact .inr h
theorem same_sqT {K : PySem.W.Frag} {H H' : Hp} {a : Addr} {xs : List V} (e : Same H H') (h : SqT K H a xs) : SqT K H' a xs := by
  rcases h with (h | ⟨o, h⟩) | h
  · exact .inl (.inl (e _ _ h))
  · exact .inl (.inr ⟨o, e _ _ h⟩)
  · exact .inr h

mutual
theorem Rp.mono {F F' : Hp} (e : Same F F') : ∀ (d : D) (v : V), Rp T F v d → Rp T F' v d
  | .non, _, h => by cases h; exact .non
  | .bl b, _, h => by cases h; exact .bl b
  | .int i, _, h => by cases h; exact .int i
  | .str x, _, h => by cases h; exact .str x
  | .tup ds, _, h => by cases h with | tup h1 h2 => exact .tup (same_sqT e h1) (RpL.mono e ds _ h2)
  | .lst ds, _, h => by cases h with | lst h1 h2 => exact .lst (same_sqL e h1) (RpL.mono e ds _ h2)
  | .rng _ _, _, h => by cases h with | rng h1 => exact .rng (e _ _ h1)
  | .ins _ ds, _, h => by cases h with | ins h1 hl h2 => exact .ins (e _ _ h1) hl (RpL.mono e ds _ h2)
  | .dct ks vs, _, h => by
    cases h with
    | dctI h1 h2 h3 => exact .dctI (same_rd e h1) h2 (RpL.mono e vs _ h3)
    | dctT h1 h2 h3 h4 h5 h6 => exact .dctT (same_rd e h1) h2 h3 h4 (RpL.mono e ks _ h5) (RpL.mono e vs _ h6)
theorem RpL.mono {F F' : Hp} (e : Same F F') : ∀ (ds : List D) (vs : List V), RpL T F vs ds → RpL T F' vs ds
  | [], _, h => by cases h; exact .nil
  | d :: ds, _, h => by cases h with | cons h1 h2 => exact .cons (Rp.mono e d _ h1) (RpL.mono e ds _ h2)
end
theorem RpL.len {F : Hp} : ∀ {vs : List V} {ds : List D}, RpL T F vs ds → vs.length = ds.length
  | _, [], h => by cases h; rfl
  | _, d :: ds, h => by cases h with | cons h1 h2 => exact congrArg Nat.succ h2.len
theorem RpL.get {F : Hp} : ∀ {vs : List V} {ds : List D} {i : Nat} {d : D}, RpL T F vs ds → ds[i]? = some d → ∃ v, vs[i]? = some v ∧ Rp T F v d
  | _, [], i, d, h, e => by simp at e
  | _, d :: ds, 0, d', h, e => by
    cases h with | cons h1 h2 => simp at e; subst e; exact ⟨_, rfl, h1⟩
  | _, d :: ds, i + 1, d', h, e => by
    cases h with | cons h1 h2 =>
      obtain ⟨v, e1, e2⟩ := h2.get (i := i) (by simpa using e)
      exact ⟨v, by simpa using e1, e2⟩
theorem RpL.app {F : Hp} : ∀ {vs : List V} {ds : List D} {ws : List V} {es : List D}, RpL T F vs ds → RpL T F ws es → RpL T F (vs ++ ws) (ds ++ es)
  | _, [], _, _, h, k => by cases h; exact k
  | _, d :: ds, _, _, h, k => by cases h with | cons h1 h2 => exact .cons h1 (h2.app k)
theorem RpL.take {F : Hp} : ∀ {vs : List V} {ds : List D} (n : Nat), RpL T F vs ds → RpL T F (vs.take n) (ds.take n)
  | _, _, 0, _ => .nil
  | _, [], n + 1, h => by cases h; exact .nil
  | _, d :: ds, n + 1, h => by cases h with | cons h1 h2 => exact .cons h1 (h2.take n)
theorem RpL.drop {F : Hp} : ∀ {vs : List V} {ds : List D} (n : Nat), RpL T F vs ds → RpL T F (vs.drop n) (ds.drop n)
  | _, _, 0, h => h
  | _, [], n + 1, h => by cases h; exact .nil
  | _, d :: ds, n + 1, h => by cases h with | cons h1 h2 => exact h2.drop n
theorem RpL.set {F : Hp} {v : V} {d : D} (r : Rp T F v d) : ∀ {vs : List V} {ds : List D} (i : Nat), RpL T F vs ds → RpL T F (vs.set i v) (ds.set i d)
  | _, [], i, h => by cases h; exact .nil
  | _, _ :: _, 0, h => by cases h with | cons h1 h2 => exact .cons r h2
  | _, _ :: _, i + 1, h => by cases h with | cons h1 h2 => exact .cons h1 (RpL.set r i h2)
theorem RpL.rev {F : Hp} : ∀ {vs : List V} {ds : List D}, RpL T F vs ds → RpL T F vs.reverse ds.reverse
  | _, [], h => by cases h; exact .nil
  | _, d :: ds, h => by cases h with | cons h1 h2 => rw [List.reverse_cons, List.reverse_cons]; exact h2.rev.app (.cons h1 .nil)

/-! ### owned values: what they are, where they stand -/
/-- a dict's object o at a, its keys ks and values vs -/
def DR (T : Nm) (F : Hp) (a : Addr) (o : HO) (ks vs : List D) : Prop :=
  (∃ kvs : List (Int × V), o = .dK (kvs.map fun p => (Sum.inl p.1, p.2)) ∧ ks = kvs.map (fun p => D.int p.1) ∧ RpL T F (kvs.map (·.2)) vs) ∨
  (∃ es : DEs, o = .ext (dicX a es) ∧ es ≠ [] ∧ ks.all D.isTK = true ∧ es.map (·.1) = ks.map D.nk ∧ RpL T F (es.map fun e => .ref e.2.1) ks ∧ RpL T F (es.map fun e => e.2.2) vs)
theorem DR.mono {F F' : Hp} (e : Same F F') {a : Addr} {o : HO} {ks vs : List D} (h : DR T F a o ks vs) : DR T F' a o ks vs := by
  rcases h with ⟨kvs, h1, h2, h3⟩ | ⟨es, h1, h2, h3, h4, h5, h6⟩
  · exact .inl ⟨kvs, h1, h2, h3.mono e⟩
  · exact .inr ⟨es, h1, h2, h3, h4, h5.mono e, h6.mono e⟩
theorem DR.rp {F : Hp} {a : Addr} {o : HO} {ks vs : List D} (h : DR T F a o ks vs) (r : Rd F a o) : Rp T F (.ref a) (.dct ks vs) := by
  rcases h with ⟨kvs, rfl, h2, h3⟩ | ⟨es, rfl, h2, h3, h4, h5, h6⟩
  · exact .dctI r h2 h3
  · exact .dctT r h2 h3 h4 h5 h6
theorem Rp.dr {F : Hp} {v : V} {ks vs : List D} (h : Rp T F v (.dct ks vs)) : ∃ a o, v = .ref a ∧ Rd F a o ∧ DR T F a o ks vs := by
  cases h with
  | dctI h1 h2 h3 => exact ⟨_, _, rfl, h1, .inl ⟨_, rfl, h2, h3⟩⟩
  | dctT h1 h2 h3 h4 h5 h6 => exact ⟨_, _, rfl, h1, .inr ⟨_, rfl, h2, h3, h4, h5, h6⟩⟩
mutual
/-- an owned value as a plain one -/
def R.toD : R → D
  | .val d => d
  | .lst ds => .lst ds
  | .obj c rs => .ins c (R.toDs rs)
  | .dct ks vs => .dct ks vs
def R.toDs : List R → List D
  | [] => []
  | r :: rs => r.toD :: R.toDs rs
end
mutual
/-- fp: the owned addresses -/
inductive RR (T : Nm) (F H : Hp) : R → V → List Addr → Prop
  | val {d : D} {v : V} : Rp T F v d → RR T F H (.val d) v []
  | lst {a : Addr} {xs : List V} {ds : List D} : H a = some (.lst xs) → RpL T F xs ds → RR T F H (.lst ds) (.ref a) [a]
  | obj {a dx : Addr} {c : Nat} {xs : List V} {rs : List R} {fp : List Addr} : H a = some (.ins (T.cls c) dx (T.zip c xs)) → xs.length ≤ (T.flds c).length → RRL T F H rs xs fp → RR T F H (.obj c rs) (.ref a) (a :: fp)
  | dct {a : Addr} {o : HO} {ks vs : List D} : H a = some o → DR T F a o ks vs → RR T F H (.dct ks vs) (.ref a) [a]
inductive RRL (T : Nm) (F H : Hp) : List R → List V → List Addr → Prop
  | nil : RRL T F H [] [] []
  | cons {r : R} {rs : List R} {v : V} {vs : List V} {fp gp : List Addr} : RR T F H r v fp → RRL T F H rs vs gp → RRL T F H (r :: rs) (v :: vs) (fp ++ gp)
end
mutual
theorem RR.keep {F F' H H' : Hp} (e : Same F F') : ∀ (r : R) (v : V) (fp : List Addr), (∀ a ∈ fp, H' a = H a) → RR T F H r v fp → RR T F' H' r v fp
  | .val d, _, _, _, h => by cases h with | val h1 => exact .val (h1.mono e)
  | .lst ds, _, _, k, h => by cases h with | lst h1 h2 => exact .lst ((k _ (by simp)).trans h1) (RpL.mono e _ _ h2)
  | .obj c rs, _, _, k, h => by
    cases h with | obj h1 hl h2 => exact .obj ((k _ (by simp)).trans h1) hl (RRL.keep e rs _ _ (fun a ha => k a (List.mem_cons_of_mem _ ha)) h2)
  | .dct ks vs, _, _, k, h => by cases h with | dct h1 h2 => exact .dct ((k _ (by simp)).trans h1) (h2.mono e)
theorem RRL.keep {F F' H H' : Hp} (e : Same F F') : ∀ (rs : List R) (vs : List V) (fp : List Addr), (∀ a ∈ fp, H' a = H a) → RRL T F H rs vs fp → RRL T F' H' rs vs fp
  | [], _, _, _, h => by cases h; exact .nil
  | r :: rs, _, _, k, h => by
    cases h with | cons h1 h2 => exact .cons (RR.keep e r _ _ (fun a ha => k a (List.mem_append_left _ ha)) h1) (RRL.keep e rs _ _ (fun a ha => k a (List.mem_append_right _ ha)) h2)
end
mutual
theorem RR.at {F H : Hp} : ∀ (r : R) (v : V) (fp : List Addr), RR T F H r v fp → ∀ a ∈ fp, ∃ o, H a = some o
  | .val d, _, _, h => by cases h with | val h1 => intro a ha; cases ha
  | .lst ds, _, _, h => by cases h with | lst h1 h2 => intro b ha; simp at ha; subst ha; exact ⟨_, h1⟩
  | .obj c rs, _, _, h => by
    cases h with | obj h1 hl h2 =>
      intro b ha
      rcases List.mem_cons.mp ha with e | ha
      · subst e; exact ⟨_, h1⟩
      · exact RRL.at rs _ _ h2 b ha
  | .dct ks vs, _, _, h => by cases h with | dct h1 h2 => intro b ha; simp at ha; subst ha; exact ⟨_, h1⟩
theorem RRL.at {F H : Hp} : ∀ (rs : List R) (vs : List V) (fp : List Addr), RRL T F H rs vs fp → ∀ a ∈ fp, ∃ o, H a = some o
  | [], _, _, h => by cases h; intro a ha; cases ha
  | r :: rs, _, _, h => by
    cases h with | cons h1 h2 =>
      intro b hb
      rcases List.mem_append.mp hb with hb | hb
      · exact RR.at r _ _ h1 b hb
      · exact RRL.at rs _ _ h2 b hb
end
theorem RRL.len {F H : Hp} : ∀ {rs : List R} {vs : List V} {fp : List Addr}, RRL T F H rs vs fp → rs.length = vs.length
  | [], _, _, h => by cases h; rfl
  | _ :: _, _, _, h => by cases h with | cons h1 h2 => exact congrArg Nat.succ h2.len

/-- frozen: what is told of H at fp from now on is told of F -/
def frzAt (F H : Hp) (fp : List Addr) : Hp := fun a => if a ∈ fp then H a else F a
theorem frzAt_in {F H : Hp} {fp : List Addr} {a : Addr} (h : a ∈ fp) : frzAt F H fp a = H a := if_pos h
theorem frzAt_out {F H : Hp} {fp : List Addr} {a : Addr} (h : a ∉ fp) : frzAt F H fp a = F a := if_neg h
theorem frzAt_same {F H : Hp} {fp : List Addr} (n : ∀ a ∈ fp, F a = none) : Same F (frzAt F H fp) := fun b o e => by
  rw [frzAt_out fun z => by rw [n b z] at e; cases e]
  exact e
theorem frzAt_sub {F H : Hp} {fp : List Addr} (s : Same F H) : Same (frzAt F H fp) H := fun b o e => by
  by_cases h : b ∈ fp
  · rw [frzAt_in h] at e; exact e
  · rw [frzAt_out h] at e; exact s _ _ e
/-- a whole object: every field is there -/
inductive R.Full (T : Nm) : R → Prop
  | val (d : D) : R.Full T (.val d)
  | lst (ds : List D) : R.Full T (.lst ds)
  | dct (ks vs : List D) : R.Full T (.dct ks vs)
  | obj {c : Nat} {rs : List R} : rs.length = (T.flds c).length → (∀ r ∈ rs, R.Full T r) → R.Full T (.obj c rs)
mutual
def R.fullB (flds : Nat → List Nat) : R → Bool
  | .val _ => true
  | .lst _ => true
  | .obj c rs => decide (rs.length = (flds c).length) && R.fullBs flds rs
  | .dct _ _ => true
def R.fullBs (flds : Nat → List Nat) : List R → Bool
  | [] => true
  | r :: rs => r.fullB flds && R.fullBs flds rs
end
mutual
theorem RR.toD {F H G : Hp} (e1 : Same F G) : ∀ (r : R) (v : V) (fp : List Addr), (∀ a ∈ fp, G a = H a) → r.fullB T.flds = true → RR T F H r v fp → Rp T G v r.toD
  | .val d, _, _, _, _, h => by cases h with | val h1 => exact h1.mono e1
  | .lst ds, _, _, k, _, h => by
    cases h with | lst h1 h2 => exact .lst (.inl (.inl ((k _ (by simp)).trans h1))) (RpL.mono e1 _ _ h2)
  | .obj c rs, _, _, k, f, h => by
    cases h with | obj h1 hl h2 =>
      simp only [R.fullB, Bool.and_eq_true, decide_eq_true_eq] at f
      exact .ins ((k _ (by simp)).trans h1) (by rw [← h2.len, f.1]) (RRL.toD e1 rs _ _ (fun a ha => k a (List.mem_cons_of_mem _ ha)) f.2 h2)
  | .dct ks vs, _, _, k, _, h => by
    cases h with | dct h1 h2 => exact (h2.mono e1).rp (.inl ((k _ (by simp)).trans h1))
theorem RRL.toD {F H G : Hp} (e1 : Same F G) : ∀ (rs : List R) (vs : List V) (fp : List Addr), (∀ a ∈ fp, G a = H a) → R.fullBs T.flds rs = true → RRL T F H rs vs fp → RpL T G vs (R.toDs rs)
  | [], _, _, _, _, h => by cases h; exact .nil
  | r :: rs, _, _, k, f, h => by
    cases h with | cons h1 h2 =>
      simp only [R.fullBs, Bool.and_eq_true] at f
      exact .cons (RR.toD e1 r _ _ (fun a ha => k a (List.mem_append_left _ ha)) f.1 h1) (RRL.toD e1 rs _ _ (fun a ha => k a (List.mem_append_right _ ha)) f.2 h2)
end

/-! ### all live values together -/
abbrev Lv := List (R × V)
inductive RE (T : Nm) (F H : Hp) : Lv → List Addr → Prop
  | nil : RE T F H [] []
  | cons {r : R} {v : V} {L : Lv} {fp gp : List Addr} : RR T F H r v fp → RE T F H L gp → RE T F H ((r, v) :: L) (fp ++ gp)
theorem RE.keep {F F' H H' : Hp} (e : Same F F') : ∀ {L : Lv} {fp : List Addr}, (∀ a ∈ fp, H' a = H a) → RE T F H L fp → RE T F' H' L fp
  | [], _, _, h => by cases h; exact .nil
  | _ :: _, _, k, h => by
    cases h with | cons h1 h2 => exact .cons (h1.keep e _ _ _ fun a ha => k a (List.mem_append_left _ ha)) (h2.keep e fun a ha => k a (List.mem_append_right _ ha))
theorem RE.at {F H : Hp} : ∀ {L : Lv} {fp : List Addr}, RE T F H L fp → ∀ a ∈ fp, ∃ o, H a = some o
  | [], _, h => by cases h; intro a ha; cases ha
  | _ :: _, _, h => by
    cases h with | cons h1 h2 =>
      intro b hb
      rcases List.mem_append.mp hb with hb | hb
      · exact RR.at _ _ _ h1 b hb
      · exact h2.at b hb
theorem RE.perm {F H : Hp} {L L' : Lv} (p : L.Perm L') : ∀ {fp : List Addr}, RE T F H L fp → ∃ fp', RE T F H L' fp' ∧ fp.Perm fp' := by
  induction p with
  | nil => intro fp h; exact ⟨fp, h, .refl _⟩
  | cons x p ih =>
    intro fp h
    cases h with | cons h1 h2 =>
      obtain ⟨fp', h3, p3⟩ := ih h2
      exact ⟨_, .cons h1 h3, List.Perm.append_left _ p3⟩
  | swap x y l =>
    intro fp h
    cases h with | cons h1 h2 =>
      cases h2 with | cons h3 h4 =>
        refine ⟨_, .cons h3 (.cons h1 h4), ?_⟩
        rw [← List.append_assoc, ← List.append_assoc]
        exact List.Perm.append_right _ List.perm_append_comm
  | trans p q ih1 ih2 =>
    intro fp h
    obtain ⟨fp1, h1, p1⟩ := ih1 h
    obtain ⟨fp2, h2, p2⟩ := ih2 h1
    exact ⟨fp2, h2, p1.trans p2⟩

/-- F: what never changes again; L: the live values. The owned ones stand apart from F and from each other -/
def Reps (T : Nm) (F H : Hp) (L : Lv) : Prop := Same F H ∧ ∃ fp, RE T F H L fp ∧ fp.Nodup ∧ ∀ a ∈ fp, F a = none
section
variable {F H : Hp} {L L' : Lv} {r : R} {v : V} {d : D}
theorem Reps.perm (h : Reps T F H L) (p : L.Perm L') : Reps T F H L' := by
  obtain ⟨s, fp, h1, nd, av⟩ := h
  obtain ⟨fp', h2, q⟩ := h1.perm p
  exact ⟨s, fp', h2, q.nodup_iff.mp nd, fun a ha => av a (q.mem_iff.mpr ha)⟩
theorem Reps.tail (h : Reps T F H ((r, v) :: L)) : Reps T F H L := by
  obtain ⟨s, fp, h1, nd, av⟩ := h
  cases h1 with | cons h2 h3 => exact ⟨s, _, h3, (List.nodup_append.mp nd).2.1, fun a ha => av a (List.mem_append_right _ ha)⟩
theorem Reps.drop {M : Lv} (h : Reps T F H (M ++ L)) : Reps T F H L := by
  induction M with
  | nil => exact h
  | cons x M ih => exact ih h.tail
theorem Reps.val (h : Reps T F H L) (p : Rp T F v d) : Reps T F H ((.val d, v) :: L) := by
  obtain ⟨s, fp, h1, nd, av⟩ := h
  exact ⟨s, [] ++ fp, .cons (.val p) h1, nd, av⟩
theorem Reps.rp (h : Reps T F H ((.val d, v) :: L)) : Rp T F v d := by
  obtain ⟨s, fp, h1, nd, av⟩ := h
  cases h1 with | cons h2 h3 => cases h2 with | val h4 => exact h4
theorem Reps.sub (h : Reps T F H L) : Same F H := h.1
/-- a new immutable object -/
theorem Reps.newF {p : Addr} {o : HO} (h : Reps T F H L) (np : H p = none) : Reps T (upd F p o) (upd H p o) L ∧ Same F (upd F p o) := by
  obtain ⟨s, fp, h1, nd, av⟩ := h
  have nF : F p = none := by
    cases e : F p with
    | none => rfl
    | some o' => rw [s _ _ e] at np; cases np
  have s1 : Same F (upd F p o) := fun b o' e => by rw [upd_ne (ne_of_none e nF)]; exact e
  have nin : ∀ a ∈ fp, a ≠ p := fun a ha z => by
    obtain ⟨o', e⟩ := h1.at a ha
    rw [z, np] at e; cases e
  refine ⟨⟨fun b o' e => ?_, fp, h1.keep s1 fun a ha => upd_ne (nin a ha), nd, fun a ha => by rw [upd_ne (nin a ha)]; exact av a ha⟩, s1⟩
  by_cases z : b = p
  · subst z; rw [upd_same] at e ⊢; exact e
  · rw [upd_ne z] at e ⊢; exact s _ _ e
/-- a new object that nothing of L or F speaks of -/
theorem Reps.newH {p : Addr} {o : HO} (h : Reps T F H L) (np : H p = none) : Reps T F (upd H p o) L := by
  obtain ⟨s, fp, h1, nd, av⟩ := h
  have nin : ∀ a ∈ fp, a ≠ p := fun a ha z => by
    obtain ⟨o', e⟩ := h1.at a ha
    rw [z, np] at e; cases e
  exact ⟨fun b o' e => by rw [upd_ne (ne_of_none (s _ _ e) np)]; exact s _ _ e, fp, h1.keep (Same.refl _) fun a ha => upd_ne (nin a ha), nd, av⟩
/-- the heap has grown -/
theorem Reps.grow {H' : Hp} (h : Reps T F H L) (g : Same H H') : Reps T F H' L := by
  obtain ⟨s, fp, h1, nd, av⟩ := h
  refine ⟨fun b o e => g _ _ (s _ _ e), fp, h1.keep (Same.refl _) fun a ha => ?_, nd, av⟩
  obtain ⟨o, e⟩ := h1.at a ha
  rw [e]; exact g _ _ e
/-- a new owned list -/
theorem Reps.own {p : Addr} {xs : List V} {ds : List D} (h : Reps T F H L) (np : H p = none) (r : RpL T F xs ds) : Reps T F (upd H p (.lst xs)) ((.lst ds, .ref p) :: L) := by
  have h' := h
  obtain ⟨s, fp, h1, nd, av⟩ := h
  obtain ⟨s2, _⟩ := h'.newH (o := .lst xs) np
  have nin : ∀ a ∈ fp, a ≠ p := fun a ha z => by
    obtain ⟨o', e⟩ := h1.at a ha
    rw [z, np] at e; cases e
  have nF : F p = none := by
    cases e : F p with
    | none => rfl
    | some o' => rw [s _ _ e] at np; cases np
  refine ⟨s2, [p] ++ fp, .cons (.lst upd_same r) (h1.keep (Same.refl _) fun a ha => upd_ne (nin a ha)), ?_, fun a ha => ?_⟩
  · exact List.nodup_cons.mpr ⟨fun z => nin p z rfl, nd⟩
  · rcases List.mem_cons.mp ha with z | z
    · rw [z]; exact nF
    · exact av a z
/-- an owned list is changed in place -/
theorem Reps.put {p : Addr} {xs : List V} {ds es : List D} (h : Reps T F H ((.lst ds, .ref p) :: L)) (r : RpL T F xs es) : Reps T F (upd H p (.lst xs)) ((.lst es, .ref p) :: L) := by
  obtain ⟨s, fp, h1, nd, av⟩ := h
  cases h1 with | cons h2 h3 =>
    cases h2 with | lst h4 h5 =>
      have nF := av p (by simp)
      have nd' := List.nodup_cons.mp (show (p :: _).Nodup from nd)
      have nin : ∀ a ∈ _, a ≠ p := fun a ha z => nd'.1 (z ▸ ha)
      exact ⟨fun b o e => by rw [upd_ne (ne_of_none e nF)]; exact s _ _ e, [p] ++ _, .cons (.lst upd_same r) (h3.keep (Same.refl _) fun a ha => upd_ne (nin a ha)), nd, av⟩
/-- a new owned dict -/
theorem Reps.ownD {p : Addr} {o : HO} {ks vs : List D} (h : Reps T F H L) (np : H p = none) (r : DR T F p o ks vs) : Reps T F (upd H p o) ((.dct ks vs, .ref p) :: L) := by
  have h' := h
  obtain ⟨s, fp, h1, nd, av⟩ := h
  obtain ⟨s2, _⟩ := h'.newH (o := o) np
  have nin : ∀ a ∈ fp, a ≠ p := fun a ha z => by
    obtain ⟨o', e⟩ := h1.at a ha
    rw [z, np] at e; cases e
  have nF : F p = none := by
    cases e : F p with
    | none => rfl
    | some o' => rw [s _ _ e] at np; cases np
  refine ⟨s2, [p] ++ fp, .cons (.dct upd_same r) (h1.keep (Same.refl _) fun a ha => upd_ne (nin a ha)), ?_, fun a ha => ?_⟩
  · exact List.nodup_cons.mpr ⟨fun z => nin p z rfl, nd⟩
  · rcases List.mem_cons.mp ha with z | z
    · rw [z]; exact nF
    · exact av a z
/-- an owned dict is changed in place -/
theorem Reps.putD {p : Addr} {o : HO} {ks vs ks' vs' : List D} (h : Reps T F H ((.dct ks vs, .ref p) :: L)) (r : DR T F p o ks' vs') : Reps T F (upd H p o) ((.dct ks' vs', .ref p) :: L) := by
  obtain ⟨s, fp, h1, nd, av⟩ := h
  cases h1 with | cons h2 h3 =>
    cases h2 with | dct h4 h5 =>
      have nF := av p (by simp)
      have nd' := List.nodup_cons.mp (show (p :: _).Nodup from nd)
      have nin : ∀ a ∈ _, a ≠ p := fun a ha z => nd'.1 (z ▸ ha)
      exact ⟨fun b o e => by rw [upd_ne (ne_of_none e nF)]; exact s _ _ e, [p] ++ _, .cons (.dct upd_same r) (h3.keep (Same.refl _) fun a ha => upd_ne (nin a ha)), nd, av⟩
theorem Reps.dctAt {ks vs : List D} (h : Reps T F H ((.dct ks vs, v) :: L)) : ∃ p o, v = .ref p ∧ H p = some o ∧ DR T F p o ks vs := by
  obtain ⟨s, fp, h1, nd, av⟩ := h
  cases h1 with | cons h2 h3 => cases h2 with | dct h4 h5 => exact ⟨_, _, rfl, h4, h5⟩
theorem Reps.lstAt {p : Addr} {ds : List D} (h : Reps T F H ((.lst ds, .ref p) :: L)) : ∃ xs, H p = some (.lst xs) ∧ RpL T F xs ds := by
  obtain ⟨s, fp, h1, nd, av⟩ := h
  cases h1 with | cons h2 h3 => cases h2 with | lst h4 h5 => exact ⟨_, h4, h5⟩
theorem Reps.lstRef {ds : List D} (h : Reps T F H ((.lst ds, v) :: L)) : ∃ p, v = .ref p := by
  obtain ⟨s, fp, h1, nd, av⟩ := h
  cases h1 with | cons h2 h3 => cases h2 with | lst h4 h5 => exact ⟨_, rfl⟩
/-- what is owned never changes again -/
theorem Reps.freeze (h : Reps T F H ((r, v) :: L)) (f : r.fullB T.flds = true) : ∃ F', Same F F' ∧ Reps T F' H ((.val r.toD, v) :: L) := by
  obtain ⟨s, fp, h1, nd, av⟩ := h
  cases h1 with | @cons _ _ _ f1 f2 h2 h3 =>
    have nd2 := List.nodup_append.mp nd
    have n1 : ∀ a ∈ f1, F a = none := fun a ha => av a (List.mem_append_left _ ha)
    have s1 : Same F (frzAt F H f1) := frzAt_same n1
    refine ⟨frzAt F H f1, s1, frzAt_sub s, [] ++ f2, .cons (.val (RR.toD s1 r v f1 (fun a ha => frzAt_in ha) f h2)) (h3.keep s1 fun _ _ => rfl), nd2.2.1, fun a ha => ?_⟩
    have ha : a ∈ f2 := ha
    rw [frzAt_out fun z => nd2.2.2 a z a ha rfl]
    exact av a (List.mem_append_right _ ha)
/-- an owned value as a plain one, for a moment -/
theorem Reps.look (h : Reps T F H ((r, v) :: L)) (f : r.fullB T.flds = true) : Rp T H v r.toD := by
  obtain ⟨F', _, h'⟩ := h.freeze f
  exact h'.rp.mono h'.sub
end

/-! ### the names of a body -/
/-- which live values the slots hold -/
inductive Sl : Env → St → Lv → Prop
  | nil : Sl [] [] []
  | non {ρ : Env} {σ : St} {L : Lv} {x : Option V} : Sl ρ σ L → Sl (none :: ρ) (x :: σ) L
  | som {ρ : Env} {σ : St} {L : Lv} {r : R} {v : V} : Sl ρ σ L → Sl (some r :: ρ) (some v :: σ) ((r, v) :: L)
theorem Sl.len : ∀ {ρ : Env} {σ : St} {L : Lv}, Sl ρ σ L → ρ.length = σ.length
  | _, _, _, .nil => rfl
  | _, _, _, .non h => congrArg Nat.succ h.len
  | _, _, _, .som h => congrArg Nat.succ h.len
/-- the state of a body: temporaries and outer values M, the names -/
def Cf (T : Nm) (F H : Hp) (M : Lv) (ρ : Env) (σ : St) : Prop := ∃ L, Sl ρ σ L ∧ Reps T F H (M ++ L)
theorem Sl.take : ∀ {ρ : Env} {σ : St} {L : Lv} {i : Nat} {r : R}, Sl ρ σ L → ρ[i]? = some (some r) →
    ∃ v L', σ[i]? = some (some v) ∧ L.Perm ((r, v) :: L') ∧ Sl (ρ.set i none) σ L' ∧ ∀ r' v', ∃ L'', Sl (ρ.set i (some r')) (σ.set i (some v')) L'' ∧ L''.Perm ((r', v') :: L')
  | _, _, _, i, r, .nil, e => by simp at e
  | _, _, _, 0, r, .non h, e => by simp at e
  | _, _, _, 0, r, .som (v := v) h, e => by
    simp at e; subst e
    exact ⟨v, _, rfl, .refl _, .non h, fun r' v' => ⟨_, .som h, .refl _⟩⟩
  | _, _, _, i + 1, r, .non h, e => by
    obtain ⟨v, L', e1, p, s1, k⟩ := h.take (i := i) (by simpa using e)
    refine ⟨v, L', by simpa using e1, p, .non s1, fun r' v' => ?_⟩
    obtain ⟨L'', s2, p2⟩ := k r' v'
    exact ⟨L'', .non s2, p2⟩
  | _, _, _, i + 1, r, .som (r := r0) (v := v0) h, e => by
    obtain ⟨v, L', e1, p, s1, k⟩ := h.take (i := i) (by simpa using e)
    refine ⟨v, (r0, v0) :: L', by simpa using e1, (List.Perm.cons _ p).trans (List.Perm.swap _ _ _), .som s1, fun r' v' => ?_⟩
    obtain ⟨L'', s2, p2⟩ := k r' v'
    exact ⟨(r0, v0) :: L'', .som s2, (List.Perm.cons _ p2).trans (List.Perm.swap _ _ _)⟩
/-- a slot is stored anew -/
theorem Sl.store : ∀ {ρ : Env} {σ : St} {L : Lv} (i : Nat) (r : R) (v : V), Sl ρ σ L → i < σ.length →
    ∃ L' L'' K, Sl (ρ.set i (some r)) (σ.set i (some v)) L'' ∧ L.Perm (K ++ L') ∧ L''.Perm ((r, v) :: L')
  | _, _, _, i, r, v, .nil, hi => by simp at hi
  | _, _, _, 0, r, v, .non h, _ => ⟨_, _, [], .som h, .refl _, .refl _⟩
  | _, _, _, 0, r, v, .som (r := r0) (v := v0) h, _ => ⟨_, _, [(r0, v0)], .som h, .refl _, .refl _⟩
  | _, _, _, i + 1, r, v, .non h, hi => by
    obtain ⟨L', L'', K, s, p, q⟩ := Sl.store i r v h (by simpa using hi)
    exact ⟨L', L'', K, .non s, p, q⟩
  | _, _, _, i + 1, r, v, .som (r := r0) (v := v0) h, hi => by
    obtain ⟨L', L'', K, s, p, q⟩ := Sl.store i r v h (by simpa using hi)
    exact ⟨(r0, v0) :: L', (r0, v0) :: L'', K, .som s, (List.Perm.cons _ p).trans List.perm_middle.symm, (List.Perm.cons _ q).trans (List.Perm.swap _ _ _)⟩
/-- a slot is forgotten -/
theorem Sl.forget : ∀ {ρ : Env} {σ : St} {L : Lv} (i : Nat) (x : Option V), Sl ρ σ L → ∃ L' K, Sl (ρ.set i none) (σ.set i x) L' ∧ L.Perm (K ++ L')
  | _, _, _, i, x, .nil => ⟨[], [], by simpa using Sl.nil, .refl _⟩
  | _, _, _, 0, x, .non h => ⟨_, [], .non h, .refl _⟩
  | _, _, _, 0, x, .som (r := r0) (v := v0) h => ⟨_, [(r0, v0)], .non h, .refl _⟩
  | _, _, _, i + 1, x, .non h => by
    obtain ⟨L', K, s, p⟩ := Sl.forget i x h
    exact ⟨L', K, .non s, p⟩
  | _, _, _, i + 1, x, .som (r := r0) (v := v0) h => by
    obtain ⟨L', K, s, p⟩ := Sl.forget i x h
    exact ⟨(r0, v0) :: L', K, .som s, (List.Perm.cons _ p).trans List.perm_middle.symm⟩
section
variable {F H : Hp} {M : Lv} {ρ : Env} {σ : St} {r : R} {v : V} {d : D} {i : Nat}
theorem Cf.len (h : Cf T F H M ρ σ) : ρ.length = σ.length := let ⟨_, s, _⟩ := h; s.len
theorem Cf.sub (h : Cf T F H M ρ σ) : Same F H := let ⟨_, _, q⟩ := h; q.sub
theorem Cf.tail (h : Cf T F H ((r, v) :: M) ρ σ) : Cf T F H M ρ σ := let ⟨L, s, q⟩ := h; ⟨L, s, Reps.tail (L := M ++ L) q⟩
theorem Cf.val (h : Cf T F H M ρ σ) (p : Rp T F v d) : Cf T F H ((.val d, v) :: M) ρ σ := let ⟨L, s, q⟩ := h; ⟨L, s, Reps.val (L := M ++ L) q p⟩
theorem Cf.rp (h : Cf T F H ((.val d, v) :: M) ρ σ) : Rp T F v d := let ⟨L, _, q⟩ := h; Reps.rp (L := M ++ L) q
theorem Cf.permM {M' : Lv} (h : Cf T F H M ρ σ) (p : M.Perm M') : Cf T F H M' ρ σ := let ⟨L, s, q⟩ := h; ⟨L, s, q.perm (p.append_right L)⟩
theorem Cf.swap {x y : R × V} (h : Cf T F H (x :: y :: M) ρ σ) : Cf T F H (y :: x :: M) ρ σ := h.permM (List.Perm.swap _ _ _)
theorem Cf.freeze (h : Cf T F H ((r, v) :: M) ρ σ) (f : r.fullB T.flds = true) : ∃ F', Same F F' ∧ Cf T F' H ((.val r.toD, v) :: M) ρ σ := by
  obtain ⟨L, s, q⟩ := h
  obtain ⟨F', e, q'⟩ := Reps.freeze (L := M ++ L) q f
  exact ⟨F', e, L, s, q'⟩
theorem Cf.look (h : Cf T F H ((r, v) :: M) ρ σ) (f : r.fullB T.flds = true) : Rp T H v r.toD := let ⟨L, _, q⟩ := h; Reps.look (L := M ++ L) q f
theorem Cf.newF {p : Addr} {o : HO} (h : Cf T F H M ρ σ) (np : H p = none) : Cf T (upd F p o) (upd H p o) M ρ σ ∧ Same F (upd F p o) := by
  obtain ⟨L, s, q⟩ := h
  obtain ⟨q', e⟩ := q.newF (o := o) np
  exact ⟨⟨L, s, q'⟩, e⟩
theorem Cf.grow {H' : Hp} (h : Cf T F H M ρ σ) (g : Same H H') : Cf T F H' M ρ σ := let ⟨L, s, q⟩ := h; ⟨L, s, q.grow g⟩
theorem Cf.own {p : Addr} {xs : List V} {ds : List D} (h : Cf T F H M ρ σ) (np : H p = none) (r : RpL T F xs ds) : Cf T F (upd H p (.lst xs)) ((.lst ds, .ref p) :: M) ρ σ :=
  let ⟨L, s, q⟩ := h; ⟨L, s, Reps.own (L := M ++ L) q np r⟩
theorem Cf.put {p : Addr} {xs : List V} {ds es : List D} (h : Cf T F H ((.lst ds, .ref p) :: M) ρ σ) (r : RpL T F xs es) : Cf T F (upd H p (.lst xs)) ((.lst es, .ref p) :: M) ρ σ :=
  let ⟨L, s, q⟩ := h; ⟨L, s, Reps.put (L := M ++ L) q r⟩
theorem Cf.ownD {p : Addr} {o : HO} {ks vs : List D} (h : Cf T F H M ρ σ) (np : H p = none) (r : DR T F p o ks vs) : Cf T F (upd H p o) ((.dct ks vs, .ref p) :: M) ρ σ :=
  let ⟨L, s, q⟩ := h; ⟨L, s, Reps.ownD (L := M ++ L) q np r⟩
theorem Cf.putD {p : Addr} {o : HO} {ks vs ks' vs' : List D} (h : Cf T F H ((.dct ks vs, .ref p) :: M) ρ σ) (r : DR T F p o ks' vs') : Cf T F (upd H p o) ((.dct ks' vs', .ref p) :: M) ρ σ :=
  let ⟨L, s, q⟩ := h; ⟨L, s, Reps.putD (L := M ++ L) q r⟩
theorem Cf.dctAt {ks vs : List D} (h : Cf T F H ((.dct ks vs, v) :: M) ρ σ) : ∃ p o, v = .ref p ∧ H p = some o ∧ DR T F p o ks vs := let ⟨L, _, q⟩ := h; Reps.dctAt (L := M ++ L) q
theorem Cf.lstRef {ds : List D} (h : Cf T F H ((.lst ds, v) :: M) ρ σ) : ∃ p, v = .ref p := let ⟨L, _, q⟩ := h; Reps.lstRef (L := M ++ L) q
theorem Cf.lstAt {p : Addr} {ds : List D} (h : Cf T F H ((.lst ds, .ref p) :: M) ρ σ) : ∃ xs, H p = some (.lst xs) ∧ RpL T F xs ds := let ⟨L, _, q⟩ := h; Reps.lstAt (L := M ++ L) q
/-- the name's value is taken out of its slot -/
theorem Cf.out (h : Cf T F H M ρ σ) (e : ρ[i]? = some (some r)) : ∃ v, σ[i]? = some (some v) ∧ Cf T F H ((r, v) :: M) (ρ.set i none) σ := by
  obtain ⟨L, s, q⟩ := h
  obtain ⟨v, L', e1, p, s1, _⟩ := s.take e
  exact ⟨v, e1, L', s1, q.perm ((List.Perm.append_left M p).trans List.perm_middle)⟩
theorem Cf.slot (h : Cf T F H M ρ σ) (e : ρ[i]? = some (some r)) : ∃ v, σ[i]? = some (some v) := let ⟨v, e1, _⟩ := h.out e; ⟨v, e1⟩
/-- stored into a slot -/
theorem Cf.into (h : Cf T F H ((r, v) :: M) ρ σ) (hi : i < σ.length) : Cf T F H M (ρ.set i (some r)) (σ.set i (some v)) := by
  obtain ⟨L, s, q⟩ := h
  obtain ⟨L', L'', K, s1, p1, p2⟩ := Sl.store i r v s hi
  refine ⟨L'', s1, ?_⟩
  have q1 : Reps T F H ((r, v) :: (M ++ (K ++ L'))) := q.perm (List.Perm.cons _ (List.Perm.append_left M p1))
  have q2 : Reps T F H (K ++ ((r, v) :: (M ++ L'))) := q1.perm (by
    refine (List.Perm.cons _ ?_).trans List.perm_middle.symm
    rw [← List.append_assoc, ← List.append_assoc]
    exact List.Perm.append_right _ List.perm_append_comm)
  exact q2.drop.perm (List.perm_middle.symm.trans (List.Perm.append_left M p2.symm))
theorem set_same {α : Type} : ∀ {l : List α} {i : Nat} {x : α}, l[i]? = some x → l.set i x = l
  | [], _, _, e => by simp at e
  | a :: l, 0, x, e => by simp at e; subst e; rfl
  | a :: l, i + 1, x, e => by show a :: l.set i x = _; rw [set_same (by simpa using e)]
/-- back into its slot -/
theorem Cf.back {r' : R} (h : Cf T F H ((r', v) :: M) (ρ.set i none) σ) (e : σ[i]? = some (some v)) : Cf T F H M (ρ.set i (some r')) σ := by
  have hi : i < σ.length := (List.getElem?_eq_some_iff.mp e).1
  have q := h.into (i := i) hi
  rw [set_same e, List.set_set] at q
  exact q
theorem Cf.forget (h : Cf T F H M ρ σ) (x : Option V) : Cf T F H M (ρ.set i none) (σ.set i x) := by
  obtain ⟨L, s, q⟩ := h
  obtain ⟨L', K, s1, p⟩ := Sl.forget i x s
  refine ⟨L', s1, ?_⟩
  have q1 : Reps T F H (K ++ (M ++ L')) := q.perm ((List.Perm.append_left M p).trans (by
    rw [← List.append_assoc, ← List.append_assoc]
    exact List.Perm.append_right _ List.perm_append_comm))
  exact q1.drop
/-- a name's value is read: what is owned is frozen -/
theorem Cf.read (h : Cf T F H M ρ σ) (e : ρ[i]? = some (some r)) (f : r.fullB T.flds = true) : ∃ v F', σ[i]? = some (some v) ∧ Same F F' ∧ Cf T F' H ((.val r.toD, v) :: M) (ρ.set i (some (.val r.toD))) σ := by
  obtain ⟨v, e1, h1⟩ := h.out e
  obtain ⟨F', s, h2⟩ := h1.freeze f
  refine ⟨v, F', e1, s, ?_⟩
  exact Cf.back (h2.val h2.rp) e1
end
end Fx
end
section
set_option linter.all false
set_option Elab.async false
set_option maxRecDepth 100000
set_option maxHeartbeats 4000000
/-! The small language and what it computes. -/
namespace Fx
open PySem PySem.Spec L2

/-! ### data -/
mutual
def D.py : D → PyData
  | .non => .none
  | .bl b => .bool b
  | .int i => .int i
  | .str x => .str x
  | .tup ds => .tuple (D.pys ds)
  | .lst ds => .list (D.pys ds)
  | .rng _ _ => .dict []
  | .ins _ _ => .dict []
  | .dct _ _ => .dict []
def D.pys : List D → List PyData
  | [] => []
  | d :: ds => d.py :: D.pys ds
end
mutual
/-- no instance, no range within -/
def D.plain : D → Bool
  | .non => true
  | .bl _ => true
  | .int _ => true
  | .str _ => true
  | .tup ds => D.plains ds
  | .lst ds => D.plains ds
  | .rng _ _ => false
  | .ins _ _ => false
  | .dct _ _ => false
def D.plains : List D → Bool
  | [] => true
  | d :: ds => d.plain && D.plains ds
end
mutual
def D.depth : D → Nat
  | .tup ds => D.depths ds + 1
  | .lst ds => D.depths ds + 1
  | _ => 0
def D.depths : List D → Nat
  | [] => 0
  | d :: ds => max d.depth (D.depths ds)
end
mutual
/-- Python's == of plain data -/
def D.eqv : D → D → Bool
  | .non, .non => true
  | .bl a, .bl b => a == b
  | .bl a, .int j => (if a then 1 else 0) == j
  | .int i, .bl b => i == (if b then 1 else 0)
  | .int i, .int j => i == j
  | .str x, .str y => x == y
  | .lst xs, .lst ys => D.eqvs xs ys
  | .tup xs, .tup ys => D.eqvs xs ys
  | _, _ => false
def D.eqvs : List D → List D → Bool
  | [], [] => true
  | x :: xs, y :: ys => x.eqv y && D.eqvs xs ys
  | [], _ :: _ => false
  | _ :: _, [] => false
end

abbrev LINE : Nat := 16777216

/-! ### the language -/
/-- built-in functions that are called by name -/
inductive BF where
  | len | abs | int | str | list | tuple | all | any | sum | range | sorted | max | min
deriving DecidableEq
/-- what isinstance is asked for -/
inductive IsT where
  | int | bool | tuple | list | str | cls (c : Nat) | listTuple
deriving DecidableEq
/-- a target: a name, a tuple of names -/
inductive Tg where
  | one (i : Nat) | many (is : List Nat)
deriving DecidableEq

mutual
inductive IE where
  | var (i : Nat) | cst (d : D) | glob (g : Nat)
  | tup (es : IEs) | lst (es : IEs)
  | bin (op : Operator) (a b : IE) | neg (a : IE)
  | bop (isAnd : Bool) (es : IEs) | nt (a : IE)
  | cmp (op : CmpOp) (a b : IE) | eqo (a b : IE) | cmp2 (o1 o2 : CmpOp) (a b c : IE)
  | ife (c a b : IE)
  | idx (a b : IE) | slc (a : IE) (lo hi : IO) | rev (a : IE)
  | attr (a : IE) (f : Nat)
  | call (f : Nat) (es : IEs) | make (c : Nat) (es : IEs) | cb (b : BF) (es : IEs)
  | isi (a : IE) (t : IsT)
  | dnew | srts (a : IE)
  | comp (elt : IE) (own : List Nat) (tg : Tg) (src : II) (c : IO)
  | comp2 (elt : IE) (own own1 : List Nat) (tg : Tg) (src : II) (tg1 : Tg) (src1 : II) (c : IO)
inductive IO where
  | non | som (e : IE)
inductive IEs where
  | nil | cons (e : IE) (es : IEs)
inductive II where
  | seq (e : IE) | enum (e : IE) | zip (a b : IE) | items (e : IE)
end

/-- what an except suite returns: a constant, the error's field, a pair of a constant and it; isinstance(e, C) and e.f == d -/
inductive HE where
  | cst (d : D) | fld (n : Str) | pair (d : D) (n : Str) | isEq (c : Nat) (n : Str) (d : D)
/-- an except clause: the class, the name's slot, what is returned -/
structure Hd where
  c : Nat
  slot : Option Nat
  ret : HE
mutual
inductive IS where
  | asg (i : Nat) (e : IE) | unp (is : List Nat) (e : IE) | par (is : List Nat) (es : IEs)
  | seti (i : Nat) (k v : IE) | setd (i : Nat) (k v : IE) | fld (i : Nat) (f : Nat) (e : IE)
  | app (i : Nat) (e : IE) | insr (i : Nat) (k e : IE)
  | ex (e : IE) | ifs (c : IE) (a b : ISs) | for_ (tg : Tg) (src : II) (body : ISs)
  | ret (e : IE) | retm (i : Nat) | rai (c : Nat) (e : IE) | try_ (body : ISs) (hs : List Hd)
  | brk | cnt | pas
inductive ISs where
  | nil | cons (s : IS) (ss : ISs)
end

/-! ### outcomes -/
inductive Res (α : Type) where
  | ok (a : α) (ρ : Env) | exc (c : Nat) (d : D) (ρ : Env) | stuck
inductive FRes where
  | ok (r : R) (outs : Env) | exc (c : Nat) (d : D) (outs : Env) | stuck
inductive SRes where
  | nx (ρ : Env) | rt (r : R) (ρ : Env) | bk (ρ : Env) | ct (ρ : Env) | exc (c : Nat) (d : D) (ρ : Env) | stuck
abbrev Fn := Nat → List R → FRes

def Res.bind {α β : Type} (x : Res α) (k : α → Env → Res β) : Res β := match x with
  | .ok a ρ => k a ρ
  | .exc c d ρ => .exc c d ρ
  | .stuck => .stuck
/-- nothing may be raised here -/
def Res.calm {α : Type} (x : Res α) : Res α := match x with
  | .ok a ρ => .ok a ρ
  | .exc _ _ _ => .stuck
  | .stuck => .stuck
def Res.thn {α : Type} (x : Res α) (k : α → Env → SRes) : SRes := match x with
  | .ok a ρ => k a ρ
  | .exc c d ρ => .exc c d ρ
  | .stuck => .stuck
def SRes.thn (x : SRes) (k : Env → SRes) : SRes := match x with
  | .nx ρ => k ρ
  | .rt r ρ => .rt r ρ
  | .bk ρ => .bk ρ
  | .ct ρ => .ct ρ
  | .exc c d ρ => .exc c d ρ
  | .stuck => .stuck
def optR {α : Type} (o : Option α) (ρ : Env) : Res α := match o with
  | some a => .ok a ρ
  | none => .stuck

/-! ### operations on data -/
def ofI : D → Option Int
  | .int i => some i
  | _ => none
def mulOk (i j : Int) : Bool := (decide (-18446744073709551616 < i) && decide (i < 18446744073709551616)) || (decide (-18446744073709551616 < j) && decide (j < 18446744073709551616))
def binD (op : Operator) (x y : D) : Option R := match op, x, y with
  | .Add, .int i, .int j => some (.val (.int (i + j)))
  | .Add, .tup a, .tup b => if a.length + b.length ≤ LINE then some (.val (.tup (a ++ b))) else none
  | .Add, .lst a, .lst b => if a.length + b.length ≤ LINE then some (.lst (a ++ b)) else none
  | .Add, .str a, .str b => if a.length + b.length ≤ LINE then some (.val (.str (a ++ b))) else none
  | .Sub, .int i, .int j => some (.val (.int (i - j)))
  | .Mult, .int i, .int j => if mulOk i j = true then some (.val (.int (i * j))) else none
  | .Mult, .tup a, .int k => if a ≠ [] ∧ 2 ≤ k ∧ k ≤ 1000 ∧ a.length ≤ 1000 then some (.val (.tup (List.replicate k.toNat a).flatten)) else none
  | .FloorDiv, .int i, .int j => if 0 < j ∧ j < 1073741824 then some (.val (.int (i / j))) else none
  | .Mod, .int i, .int j => if 0 < j then some (.val (.int (i % j))) else none
  | .Pow, .int i, .int j => if 0 ≤ j ∧ j ≤ 1000000 ∧ i.natAbs < 18446744073709551616 then some (.val (.int (i ^ j.toNat))) else none
  | _, _, _ => none
def eqD (x y : D) : Option Bool := if (x.plain && y.plain && decide (min x.depth y.depth ≤ 40)) = true then some (x.eqv y) else none
/-- data that Python orders one by the other -/
def ordOk (x y : D) : Bool := x.plain && (y.plain && (decide (min x.depth y.depth ≤ 40) && (PySem.W.alike x.py y.py && !(match x with
  | .non => true
  | _ => false))))
def dltD (x y : D) : Bool := PySem.W.dataLt x.py y.py
def ltD : D → D → Option Bool
  | .int i, .int j => some (decide (i < j))
  | x, y => if ordOk x y = true then some (dltD x y) else none
/-! ### dicts -/
/-- the key k may be asked of a dict with the keys ks -/
def keyOk (ks : List D) (k : D) : Bool := (k.isInt && ks.all D.isInt) || (k.isTK && ks.all D.isTK)
def dFind (ks : List D) (k : D) : Option Nat := ks.findIdx? fun x => x.eqv k
def dGet (ks vs : List D) (k : D) : Option D := (dFind ks k).bind fun j => vs[j]?
def dPutK (ks : List D) (k : D) : List D := match dFind ks k with
  | some _ => ks
  | none => ks ++ [k]
def dPutV (ks vs : List D) (k v : D) : List D := match dFind ks k with
  | some j => vs.set j v
  | none => vs ++ [v]
/-! ### sorting -/
/-- what sorted takes -/
def sortOk (ds : List D) : Bool := D.plains ds && (decide (D.depths ds ≤ 40) && (decide (ds.length ≤ LINE) && ((ds.all fun x => ds.all fun y => PySem.W.alike x.py y.py) &&
  ((ds.all fun x => match x with
    | .tup (_ :: _) => true
    | _ => false) || ((ds.all fun x => match x with
    | .tup _ => false
    | .non => false
    | _ => true) || (match ds with
    | .tup [] :: _ => true
    | _ => false))))))
def leD (x y : D) : Bool := !dltD y x
def sortD (ds : List D) : Option (List D) := if sortOk ds = true then some (ds.mergeSort leD) else none
/-- sorted(set(..)) of ints -/
def insI (x : Int) : List Int → List Int
  | [] => [x]
  | y :: ys => if x < y then x :: y :: ys else if x = y then y :: ys else y :: insI x ys
def usort (ns : List Int) : List Int := ns.foldr insI []
def maxI : List Int → Option Int
  | [] => none
  | n :: ns => some (ns.foldl max n)
def minI : List Int → Option Int
  | [] => none
  | n :: ns => some (ns.foldl min n)
def D.isNon : D → Bool
  | .non => true
  | _ => false
def isD (x y : D) : Option Bool := match x, y with
  | x, .non => some x.isNon
  | .bl a, .bl b => some (a == b)
  | _, _ => none
def inD (x : D) : D → Option Bool
  | .tup ds => if (x.plain && D.plains ds && decide (min (D.depths ds) x.depth ≤ 40)) = true then some (ds.any fun y => y.eqv x) else none
  | .lst ds => if (x.plain && D.plains ds && decide (min (D.depths ds) x.depth ≤ 40)) = true then some (ds.any fun y => y.eqv x) else none
  | .dct ks _ => if keyOk ks x = true then some (dFind ks x).isSome else none
  | _ => none
/-- a comparison of data -/
def cmpD (op : CmpOp) (x y : D) : Option Bool := match op with
  | .Eq => eqD x y
  | .NotEq => (eqD x y).map not
  | .Lt => ltD x y
  | .Gt => ltD y x
  | .LtE => (ltD y x).map not
  | .GtE => (ltD x y).map not
  | .Is => isD x y
  | .IsNot => (isD x y).map not
  | .In => inD x y
  | .NotIn => (inD x y).map not
/-- a comparison, as a value -/
def cmpP (op : CmpOp) (x y : D) (ρ : Env) : Res R := match cmpD op x y with
  | some b => .ok (.val (.bl b)) ρ
  | none => .stuck
def truD : D → Option Bool
  | .non => some false
  | .bl b => some b
  | .int i => some (i != 0)
  | .str x => if x.length ≤ LINE then some (!decide (x.length = 0)) else none
  | .tup ds => some (!ds.isEmpty)
  | .lst ds => some (!ds.isEmpty)
  | _ => none
/-- the place i of a row of n -/
def place (n : Nat) (i : Int) : Option Nat := ixN n i
def idxD (x : D) (i : D) : Option D := match x, i with
  | .tup ds, .int k => atI ds k
  | .lst ds, .int k => atI ds k
  | .dct ks vs, k => if keyOk ks k = true then dGet ks vs k else none
  | _, _ => none
def cutD (ds : List D) (lo hi : Option Int) : List D := (ds.drop (HT.sIx ds.length 0 lo)).take (HT.sIx ds.length ds.length hi - HT.sIx ds.length 0 lo)
def slcD (x : D) (lo hi : Option Int) : Option R := match x with
  | .tup ds => some (.val (.tup (cutD ds lo hi)))
  | .lst ds => some (.lst (cutD ds lo hi))
  | _ => none
def revD : D → Option R
  | .lst ds => some (.lst ds.reverse)
  | .tup ds => some (.val (.tup ds.reverse))
  | _ => none
def rngL (lo hi : Int) : List D := (List.range (hi - lo).toNat).map fun (i : Nat) => .int (lo + i)
def zipD (xs ys : List D) : List D := (xs.zip ys).map fun p => .tup [p.1, p.2]
def enumD (ds : List D) : List D := ds.zipIdx.map fun p => .tup [.int p.2, p.1]
def rngOk (a b : Int) : Bool := decide (-4611686018427387904 ≤ a) && decide (a < 4611686018427387904) && decide (-4611686018427387904 ≤ b) && decide (b < 4611686018427387904)
def allB : List D → Option (List Bool)
  | [] => some []
  | .bl b :: ds => (allB ds).map (b :: ·)
  | _ => none
def allI : List D → Option (List Int)
  | [] => some []
  | .int i :: ds => (allI ds).map (i :: ·)
  | _ => none
def cbD (b : BF) (xs : List D) : Option R := match b, xs with
  | .len, [.tup ds] => some (.val (.int ds.length))
  | .len, [.lst ds] => some (.val (.int ds.length))
  | .abs, [.int i] => some (.val (.int (if i < 0 then -i else i)))
  | .int, [.int i] => some (.val (.int i))
  | .int, [.bl k] => some (.val (.int (if k then 1 else 0)))
  | .str, [.int i] => if i.natAbs.log2 < 1920 then some (.val (.str (toString i))) else none
  | .list, [.tup ds] => some (.lst ds)
  | .list, [.lst ds] => some (.lst ds)
  | .tuple, [.tup ds] => some (.val (.tup ds))
  | .tuple, [.lst ds] => some (.val (.tup ds))
  | .all, [.lst ds] => (allB ds).map fun bs => .val (.bl (bs.all id))
  | .any, [.lst ds] => (allB ds).map fun bs => .val (.bl (bs.any id))
  | .sum, [.lst ds] => (allI ds).map fun ns => .val (.int ns.sum)
  | .range, [.int n] => some (.val (.rng 0 n))
  | .range, [.int i, .int j] => some (.val (.rng i j))
  | .list, [.rng i j] => if rngOk i j = true ∧ (j - i).toNat ≤ LINE then some (.lst (rngL i j)) else none
  | .tuple, [.rng i j] => if rngOk i j = true ∧ (j - i).toNat ≤ LINE then some (.val (.tup (rngL i j))) else none
  | .len, [.dct ks _] => some (.val (.int ks.length))
  | .list, [.dct ks _] => some (.lst ks)
  | .sorted, [.lst ds] => (sortD ds).map .lst
  | .sorted, [.dct ds _] => (sortD ds).map .lst
  | .max, [.int i, .int j] => some (.val (.int (max i j)))
  | .min, [.int i, .int j] => some (.val (.int (min i j)))
  | .max, [.lst ds] => (allI ds).bind fun ns => (maxI ns).map fun m => .val (.int m)
  | .max, [.tup ds] => (allI ds).bind fun ns => (maxI ns).map fun m => .val (.int m)
  | .min, [.lst ds] => (allI ds).bind fun ns => (minI ns).map fun m => .val (.int m)
  | .min, [.tup ds] => (allI ds).bind fun ns => (minI ns).map fun m => .val (.int m)
  | _, _ => none
def isiD (nc : Nat) (x : D) (t : IsT) : Option Bool := match x with
  | .rng _ _ => none
  | .int _ => some (decide (t = .int))
  | .bl _ => some (decide (t = .int) || decide (t = .bool))
  | .tup _ => some (decide (t = .tuple) || decide (t = .listTuple))
  | .lst _ => some (decide (t = .list) || decide (t = .listTuple))
  | .str _ => some (decide (t = .str))
  | .ins c _ => if c < nc then some (decide (t = .cls c)) else none
  | .dct _ _ => none
  | .non => some false

def D.tyOk (nc : Nat) : D → Bool
  | .rng _ _ => false
  | .ins c _ => decide (c < nc)
  | .dct _ _ => false
  | _ => true

/-! ### arguments -/
/-- a value in hand, or what a name owns -/
inductive Ar where
  | v (r : R) | b (i : Nat)
variable (flds : Nat → List Nat)
def Env.at (ρ : Env) (i : Nat) : Option R := (ρ[i]?).bind id
def fullD (r : R) : Option D := if r.fullB flds = true then some r.toD else none
def Ar.d (a : Ar) (ρ : Env) : Option D := match a with
  | .v r => fullD flds r
  | .b i => (ρ.at i).bind (fullD flds)
def rdVar (i : Nat) (ρ : Env) : Res R := match ρ.at i with
  | some (.val d) => .ok (.val d) ρ
  | some r => if r.fullB flds = true then .ok (.val r.toD) (ρ.set i (some (.val r.toD))) else .stuck
  | none => .stuck
def argVar (i : Nat) (ρ : Env) : Res Ar := match ρ.at i with
  | some (.val d) => .ok (.v (.val d)) ρ
  | some _ => .ok (.b i) ρ
  | none => .stuck
def IE.isVar : IE → Option Nat
  | .var i => some i
  | _ => none
/-- an argument: a name that owns lends -/
def asArg (e : IE) (ρ : Env) (x : Res R) : Res Ar := match e with
  | .var i => argVar i ρ
  | _ => x.bind fun r ρ => .ok (.v r) ρ
def asD (x : Res R) : Res D := x.bind fun r ρ => optR (fullD flds r) ρ
/-- the arguments are handed over -/
def hand : List Ar → Env → Option (List R × Env)
  | [], ρ => some ([], ρ)
  | .v r :: as, ρ => (hand as ρ).map fun p => (r :: p.1, p.2)
  | .b i :: as, ρ => match ρ.at i with
    | some r => (hand as (ρ.set i none)).map fun p => (r :: p.1, p.2)
    | none => none
/-- what was lent comes back -/
def giveB : List Ar → Env → Env → Env
  | .b i :: as, o :: os, ρ => (giveB as os ρ).set i o
  | _ :: as, _ :: os, ρ => giveB as os ρ
  | _, _, ρ => ρ
def callR (Φ : Fn) (f : Nat) (as : List Ar) (ρ : Env) : Res R := match hand as ρ with
  | none => .stuck
  | some (rs, ρ') => match Φ f rs with
    | .ok r outs => .ok r (giveB as outs ρ')
    | .exc c d outs => .exc c d (giveB as outs ρ')
    | .stuck => .stuck
def getDs (ρ : Env) : List Ar → Option (List D)
  | [] => some []
  | a :: as => match a.d flds ρ, getDs ρ as with
    | some d, some ds => some (d :: ds)
    | _, _ => none
def setTg (tg : Tg) (d : D) (ρ : Env) : Option Env := match tg with
  | .one i => some (ρ.set i (some (.val d)))
  | .many is => match d with
    | .tup ds => if is.length = ds.length then some ((is.zip ds).foldl (fun ρ p => ρ.set p.1 (some (.val p.2))) ρ) else none
    | _ => none
def wipeE (ρ : Env) : List Nat → Env
  | [] => ρ
  | i :: is => (wipeE ρ is).set i none
def restE (ρ0 ρ : Env) : List Nat → Env
  | [] => ρ
  | i :: is => (restE ρ0 ρ is).set i (ρ0.at i)
/-- the turns of a comprehension -/
def compF (own : List Nat) (tg : Tg) (c : Env → Res Bool) (elt : Env → Res D) : List D → Env → List D → Res (List D)
  | [], ρ, acc => .ok acc ρ
  | d :: ds, ρ, acc => match setTg tg d ρ with
    | none => .stuck
    | some ρ1 => (c ρ1).bind fun b ρ2 => if b = true then (elt ρ2).bind fun x ρ3 => (if acc.length < LINE then compF own tg c elt ds (wipeE ρ3 own) (acc ++ [x]) else .stuck) else compF own tg c elt ds (wipeE ρ2 own) acc
/-- the turns of the first of two clauses -/
def compF2 (own : List Nat) (tg : Tg) (inner : Env → Res (List D)) (turns : List D → Env → List D → Res (List D)) : List D → Env → List D → Res (List D)
  | [], ρ, acc => .ok acc ρ
  | d :: ds, ρ, acc => match setTg tg d ρ with
    | none => .stuck
    | some ρ1 => (inner ρ1).bind fun es ρ2 => (turns es ρ2 acc).bind fun acc' ρ3 => compF2 own tg inner turns ds (wipeE ρ3 own) acc'
/-- the new instance's fields as they stand, the arguments behind -/
def makeR (Φ : Fn) (ini : Nat → Nat) (c : Nat) (as : List Ar) (ρ : Env) : Res R := match hand as ρ with
  | none => .stuck
  | some (rs, ρ') => match Φ (ini c) (.obj c [] :: rs) with
    | .ok (.val .non) (some r :: outs) => .ok r (giveB as outs ρ')
    | .exc x d (_ :: outs) => .exc x d (giveB as outs ρ')
    | _ => .stuck

/-- what is fixed: the fields of classes, their __init__ and __eq__, the module's constants, the exceptions' order -/
structure G where
  nc : Nat
  flds : Nat → List Nat
  ini : Nat → Nat
  eqf : Nat → Nat
  eqk : Nat → Bool
  gl : Nat → Option D
  isa : Nat → Nat → Bool
  nx : Nat
  xf : Nat → Str
variable (g : G)
/-- == where the left may be an instance with an own == -/
def eqoR (Φ : Fn) (x y : D) (ρ : Env) : Res R := match x with
  | .ins c _ => if g.eqk c = true ∧ c < g.nc ∧ y.tyOk g.nc = true then (match Φ (g.eqf c) [.val x, .val y] with
    | .ok (.val (.bl b)) _ => .ok (.val (.bl b)) ρ
    | _ => .stuck) else .stuck
  | _ => optR ((eqD x y).map fun b => .val (.bl b)) ρ
def attrR (f : Nat) (x : D) : Option D := match x with
  | .ins c ds => if c < g.nc then ds[(g.flds c).idxOf f]? else none
  | _ => none
/-- a field of what may still lack some -/
def attrO (f : Nat) (r : R) : Option D := match r with
  | .obj c rs => if c < g.nc then (match rs[(g.flds c).idxOf f]? with
    | some (.val d) => some d
    | _ => none) else none
  | .val d => attrR g f d
  | _ => none
/-- a test's outcome -/
def tstA (x : Res Ar) : Res Bool := x.bind fun a ρ => optR ((a.d g.flds ρ).bind truD) ρ
def restB (isAnd : Bool) (d : D) (rest : Env → Res R) (ρ : Env) : Res R := match truD d with
  | some k => if k = isAnd then rest ρ else .ok (.val d) ρ
  | none => .stuck

section
variable (Φ : Fn)
mutual
def evE : IE → Env → Res R
  | .var i, ρ => rdVar g.flds i ρ
  | .cst d, ρ => .ok (.val d) ρ
  | .glob x, ρ => optR ((g.gl x).map .val) ρ
  | .tup es, ρ => (evDs es ρ).bind fun ds ρ => if ds.length ≤ LINE then .ok (.val (.tup ds)) ρ else .stuck
  | .lst es, ρ => (evDs es ρ).bind fun ds ρ => if ds.length ≤ LINE then .ok (.lst ds) ρ else .stuck
  | .bin op a b, ρ => (asArg a ρ (evE a ρ)).bind fun x ρ => (asArg b ρ (evE b ρ)).bind fun y ρ => match x.d g.flds ρ, y.d g.flds ρ with
    | some x, some y => optR (binD op x y) ρ
    | _, _ => .stuck
  | .neg a, ρ => (asD g.flds (evE a ρ)).bind fun x ρ => match x with
    | .int i => .ok (.val (.int (-i))) ρ
    | _ => .stuck
  | .bop isAnd es, ρ => evB isAnd es ρ
  | .nt a, ρ => (tstA g (asArg a ρ (evE a ρ))).bind fun b ρ => .ok (.val (.bl (!b))) ρ
  | .cmp op a b, ρ => (asArg a ρ (evE a ρ)).bind fun x ρ => (asArg b ρ (evE b ρ)).bind fun y ρ => match x.d g.flds ρ, y.d g.flds ρ with
    | some x, some y => cmpP op x y ρ
    | _, _ => .stuck
  | .eqo a b, ρ => (asD g.flds (evE a ρ)).bind fun x ρ => (asD g.flds (evE b ρ)).bind fun y ρ => eqoR g Φ x y ρ
  | .cmp2 o1 o2 a b c, ρ => (asD g.flds (evE a ρ)).bind fun x ρ => (asD g.flds (evE b ρ)).bind fun y ρ => match cmpD o1 x y with
    | some true => (asD g.flds (evE c ρ)).bind fun z ρ => optR ((cmpD o2 y z).map fun k => .val (.bl k)) ρ
    | some false => .ok (.val (.bl false)) ρ
    | none => .stuck
  | .ife c a b, ρ => (tstA g (asArg c ρ (evE c ρ))).bind fun k ρ => if k = true then evE a ρ else evE b ρ
  | .idx a b, ρ => (asArg a ρ (evE a ρ)).bind fun x ρ => (asD g.flds (evE b ρ)).bind fun y ρ => match x.d g.flds ρ with
    | some x => optR ((idxD x y).map .val) ρ
    | none => .stuck
  | .slc a lo hi, ρ => (asArg a ρ (evE a ρ)).bind fun x ρ => (evO lo ρ).bind fun l ρ => (evO hi ρ).bind fun h ρ => match x.d g.flds ρ with
    | some x => optR (slcD x l h) ρ
    | none => .stuck
  | .rev a, ρ => (asArg a ρ (evE a ρ)).bind fun x ρ => match x.d g.flds ρ with
    | some x => optR (revD x) ρ
    | none => .stuck
  | .attr a f, ρ => match a with
    | .var i => match ρ.at i with
      | some r => optR ((attrO g f r).map .val) ρ
      | none => .stuck
    | _ => (asD g.flds (evE a ρ)).bind fun x ρ => optR ((attrR g f x).map .val) ρ
  | .call f es, ρ => (evAs es ρ).bind fun as ρ => callR Φ f as ρ
  | .make c es, ρ => (evAs es ρ).bind fun as ρ => makeR Φ g.ini c as ρ
  | .cb b es, ρ => (evAs es ρ).bind fun as ρ => match getDs g.flds ρ as with
    | some ds => optR (cbD b ds) ρ
    | none => .stuck
  | .isi a t, ρ => (asArg a ρ (evE a ρ)).bind fun x ρ => match x.d g.flds ρ with
    | some x => optR ((isiD g.nc x t).map fun b => .val (.bl b)) ρ
    | none => .stuck
  | .dnew, ρ => .ok (.dct [] []) ρ
  | .srts a, ρ => (asD g.flds (evE a ρ)).bind fun x ρ => match x with
    | .lst ds => if ds.length < 64 then optR ((allI ds).map fun ns => .lst ((usort ns).map .int)) ρ else .stuck
    | _ => .stuck
  | .comp elt own tg src c, ρ => (evI src ρ).bind fun ds ρ =>
      ((compF own tg (fun ρ => evC c ρ) (fun ρ => asD g.flds (evE elt ρ)) ds (wipeE ρ own) []).bind fun acc ρ' => .ok (.lst acc) (restE ρ ρ' own)).calm
  | .comp2 elt own own1 tg src tg1 src1 c, ρ => (evI src ρ).bind fun ds ρ =>
      ((compF2 own tg (fun ρ => (evI src1 ρ).bind fun es ρ => .ok es (wipeE ρ own1)) (compF own1 tg1 (fun ρ => evC c ρ) (fun ρ => asD g.flds (evE elt ρ))) ds (wipeE ρ own) []).bind fun acc ρ' => .ok (.lst acc) (restE ρ ρ' own)).calm
def evC : IO → Env → Res Bool
  | .non, ρ => .ok true ρ
  | .som e, ρ => tstA g (asArg e ρ (evE e ρ))
def evO : IO → Env → Res (Option Int)
  | .non, ρ => .ok none ρ
  | .som e, ρ => (asD g.flds (evE e ρ)).bind fun d ρ => match d with
    | .int i => .ok (some i) ρ
    | _ => .stuck
def evDs : IEs → Env → Res (List D)
  | .nil, ρ => .ok [] ρ
  | .cons e es, ρ => (asD g.flds (evE e ρ)).bind fun d ρ => (evDs es ρ).bind fun ds ρ => .ok (d :: ds) ρ
def evAs : IEs → Env → Res (List Ar)
  | .nil, ρ => .ok [] ρ
  | .cons e es, ρ => (asArg e ρ (evE e ρ)).bind fun a ρ => (evAs es ρ).bind fun as ρ => .ok (a :: as) ρ
/-- and, or -/
def evB (isAnd : Bool) : IEs → Env → Res R
  | .nil, ρ => .stuck
  | .cons e .nil, ρ => evE e ρ
  | .cons e (.cons e2 es), ρ => (asD g.flds (evE e ρ)).bind fun d ρ => restB isAnd d (fun ρ => evB isAnd (.cons e2 es) ρ) ρ
def evI : II → Env → Res (List D)
  | .seq e, ρ => (asD g.flds (evE e ρ)).bind fun d ρ => match d with
    | .tup ds => .ok ds ρ
    | .lst ds => .ok ds ρ
    | .rng lo hi => if rngOk lo hi = true then .ok (rngL lo hi) ρ else .stuck
    | _ => .stuck
  | .enum e, ρ => (asD g.flds (evE e ρ)).bind fun d ρ => match d with
    | .lst ds => .ok (enumD ds) ρ
    | _ => .stuck
  | .zip a b, ρ => (asD g.flds (evE a ρ)).bind fun x ρ => (asD g.flds (evE b ρ)).bind fun y ρ => match x, y with
    | .lst xs, .lst ys => .ok (zipD xs ys) ρ
    | .tup xs, .tup ys => .ok (zipD xs ys) ρ
    | _, _ => .stuck
  | .items e, ρ => .stuck
end
def teE (e : IE) (ρ : Env) : Res Bool := tstA g (asArg e ρ (evE g Φ e ρ))
/-- the turns of a for -/
def forF (tg : Tg) (body : Env → SRes) : List D → Env → SRes
  | [], ρ => .nx ρ
  | d :: ds, ρ => match setTg tg d ρ with
    | none => .stuck
    | some ρ1 => match body ρ1 with
      | .nx ρ2 => forF tg body ds ρ2
      | .ct ρ2 => forF tg body ds ρ2
      | .bk ρ2 => .nx ρ2
      | x => x
def storeL (is : List Nat) (ds : List D) (ρ : Env) : Env := (is.zip ds).foldl (fun ρ p => ρ.set p.1 (some (.val p.2))) ρ
def HE.ev (h : HE) (c : Nat) (d : D) : Option D := match h with
  | .cst x => some x
  | .fld n => if g.xf c = n then some d else none
  | .pair x n => if g.xf c = n then some (.tup [x, d]) else none
  | .isEq c' n x => if g.isa c c' = true then (if g.xf c = n then (eqD d x).map .bl else none) else some (.bl false)
def evHs : List Hd → Nat → D → Env → SRes
  | [], c, d, ρ => .exc c d ρ
  | h :: hs, c, d, ρ => if c < g.nx then (if g.isa c h.c = true then (match h.ret.ev g c d with
      | some r => .rt (.val r) (match h.slot with
        | some i => ρ.set i none
        | none => ρ)
      | none => .stuck) else evHs hs c d ρ) else .stuck
mutual
def evS : IS → Env → SRes
  | .asg i e, ρ => (evE g Φ e ρ).thn fun r ρ => .nx (ρ.set i (some r))
  | .unp is e, ρ => (asD g.flds (evE g Φ e ρ)).thn fun d ρ => match setTg (.many is) d ρ with
    | some ρ' => .nx ρ'
    | none => .stuck
  | .par is es, ρ => (evDs g Φ es ρ).thn fun ds ρ => if is.length = ds.length then .nx ((is.zip ds).foldl (fun ρ p => ρ.set p.1 (some (.val p.2))) ρ) else .stuck
  | .seti i k v, ρ => (asD g.flds (evE g Φ v ρ)).thn fun d ρ => match ρ.at i with
    | some (.lst _) => (asD g.flds (evE g Φ k ρ)).thn fun k ρ => (match ρ.at i, k with
      | some (.lst ds), .int k => (match ixN ds.length k with
        | some j => .nx (ρ.set i (some (.lst (ds.set j d))))
        | none => .stuck)
      | _, _ => .stuck)
    | _ => .stuck
  | .setd i k v, ρ => (asD g.flds (evE g Φ v ρ)).thn fun d ρ => match ρ.at i with
    | some (.dct _ _) => (asD g.flds (evE g Φ k ρ)).thn fun k ρ => (match ρ.at i with
      | some (.dct ks vs) => if keyOk ks k = true ∧ ks.length < LINE then .nx (ρ.set i (some (.dct (dPutK ks k) (dPutV ks vs k d)))) else .stuck
      | _ => .stuck)
    | _ => .stuck
  | .fld i f e, ρ => (asD g.flds (evE g Φ e ρ)).thn fun d ρ => match ρ.at i with
    | some (.obj c rs) => if c < g.nc ∧ (g.flds c).idxOf f = rs.length ∧ rs.length < (g.flds c).length then .nx (ρ.set i (some (.obj c (rs ++ [.val d])))) else .stuck
    | _ => .stuck
  | .app i e, ρ => match ρ.at i with
    | some (.lst _) => (asD g.flds (evE g Φ e ρ)).thn fun d ρ => (match ρ.at i with
      | some (.lst ds) => if ds.length < LINE then .nx (ρ.set i (some (.lst (ds ++ [d])))) else .stuck
      | _ => .stuck)
    | _ => .stuck
  | .insr i k e, ρ => match ρ.at i with
    | some (.lst _) => (asD g.flds (evE g Φ k ρ)).thn fun k ρ => (asD g.flds (evE g Φ e ρ)).thn fun d ρ => (match ρ.at i, k with
      | some (.lst ds), .int k => if ds.length < LINE ∧ 0 ≤ k ∧ k < 9223372036854775808 then .nx (ρ.set i (some (.lst (ds.take k.toNat ++ d :: ds.drop k.toNat)))) else .stuck
      | _, _ => .stuck)
    | _ => .stuck
  | .ex e, ρ => (evE g Φ e ρ).thn fun _ ρ => .nx ρ
  | .ifs c a b, ρ => (teE g Φ c ρ).thn fun k ρ => if k = true then evSs a ρ else evSs b ρ
  | .for_ tg src body, ρ => (evI g Φ src ρ).thn fun ds ρ => forF tg (fun ρ => evSs body ρ) ds ρ
  | .ret e, ρ => (evE g Φ e ρ).thn fun r ρ => .rt r ρ
  | .retm i, ρ => match ρ.at i with
    | some r => .rt r (ρ.set i none)
    | none => .stuck
  | .rai c e, ρ => (asD g.flds (evE g Φ e ρ)).thn fun d ρ => .exc c d ρ
  | .try_ body hs, ρ => match evSs body ρ with
    | .exc c d ρ' => evHs g hs c d ρ'
    | x => x
  | .brk, ρ => .bk ρ
  | .cnt, ρ => .ct ρ
  | .pas, ρ => .nx ρ
def evSs : ISs → Env → SRes
  | .nil, ρ => .nx ρ
  | .cons s ss, ρ => (evS s ρ).thn fun ρ => evSs ss ρ
end
end
end Fx
end
section
set_option linter.all false
set_option Elab.async false
set_option maxRecDepth 100000
set_option maxHeartbeats 4000000
/-! What the language computes is what the model does: values and operations. -/
namespace Fx
open PySem PySem.Spec L2
variable {T : Nm}

/-! ### a value that may be read -/
/-- v reads as d: its own object in H, what lies within in F -/
def Rt (T : Nm) (F H : Hp) (v : V) : D → Prop
  | .lst ds => ∃ a xs, v = .ref a ∧ SqL T.K H a xs ∧ RpL T F xs ds
  | .ins c ds => Rp T H v (.ins c ds)
  | .dct ks vs => ∃ a o, v = .ref a ∧ Rd H a o ∧ DR T F a o ks vs
  | d => Rp T F v d
theorem Rp.rt {F H : Hp} (s : Same F H) {v : V} {d : D} (h : Rp T F v d) : Rt T F H v d := by
  cases d with
  | lst ds => cases h with | lst h1 h2 => exact ⟨_, _, rfl, same_sqL s h1, h2⟩
  | ins c ds => exact h.mono s
  | dct ks vs =>
    obtain ⟨a, o, rfl, h1, h2⟩ := h.dr
    exact ⟨a, o, rfl, same_rd s h1, h2⟩
  | _ => exact h
theorem Rt.rp {F H : Hp} (s : Same F H) {v : V} {d : D} (h : Rt T F H v d) : Rp T H v d := by
  cases d with
  | lst ds => obtain ⟨a, xs, rfl, h1, h2⟩ := h; exact .lst h1 (RpL.mono s _ _ h2)
  | ins c ds => exact h
  | dct ks vs => obtain ⟨a, o, rfl, h1, h2⟩ := h; exact (h2.mono s).rp h1
  | _ => exact Rp.mono s _ _ h
theorem Rt.int {F H : Hp} {v : V} {i : Int} (h : Rt T F H v (.int i)) : v = .int i := by
  have h : Rp T F v (.int i) := h
  cases h; rfl
theorem Rt.bl {F H : Hp} {v : V} {i : Bool} (h : Rt T F H v (.bl i)) : v = .bl i := by
  have h : Rp T F v (.bl i) := h
  cases h; rfl
theorem Rt.str {F H : Hp} {v : V} {i : Str} (h : Rt T F H v (.str i)) : v = .str i := by
  have h : Rp T F v (.str i) := h
  cases h; rfl
theorem Rt.non {F H : Hp} {v : V} (h : Rt T F H v .non) : v = .non := by
  have h : Rp T F v .non := h
  cases h; rfl

/-- a new result: what there was, or a new object -/
def NewR (T : Nm) (F H H' : Hp) (v : V) : R → Prop
  | .val d => (H' = H ∧ Rp T F v d) ∨ (∃ p xs ds, d = .tup ds ∧ v = .ref p ∧ H p = none ∧ H' = upd H p (.tup xs) ∧ RpL T F xs ds) ∨ ∃ p lo hi, d = .rng lo hi ∧ v = .ref p ∧ H p = none ∧ H' = upd H p (.rng lo hi)
  | .lst ds => ∃ p xs, v = .ref p ∧ H p = none ∧ H' = upd H p (.lst xs) ∧ RpL T F xs ds
  | .obj _ _ => False
  | .dct ks vs => ∃ p o, v = .ref p ∧ H p = none ∧ H' = upd H p o ∧ DR T F p o ks vs
theorem Cf.new {F H H' : Hp} {M : Lv} {ρ : Env} {σ : St} {r : R} {v : V} (h : Cf T F H M ρ σ) (n : NewR T F H H' v r) : ∃ F', Cf T F' H' ((r, v) :: M) ρ σ := by
  cases r with
  | val d =>
    rcases n with ⟨rfl, n⟩ | ⟨p, xs, ds, rfl, rfl, np, rfl, n⟩ | ⟨p, lo, hi, rfl, rfl, np, rfl⟩
    · exact ⟨F, h.val n⟩
    · obtain ⟨h', e⟩ := h.newF (o := .tup xs) np
      refine ⟨_, h'.val (.tup (.inl (.inl upd_same)) (RpL.mono e _ _ n))⟩
    · obtain ⟨h', e⟩ := h.newF (o := .rng lo hi) np
      exact ⟨_, h'.val (.rng upd_same)⟩
  | lst ds =>
    obtain ⟨p, xs, rfl, np, rfl, n⟩ := n
    exact ⟨F, h.own np n⟩
  | obj c rs => exact n.elim
  | dct ks vs =>
    obtain ⟨p, o, rfl, np, rfl, n⟩ := n
    exact ⟨F, h.ownD np n⟩

/-! ### outcomes -/
variable {W : WX} {σ : St} {M : Lv}
/-- what is wanted of an exception: its own dict holds the one value -/
def ExcW (T : Nm) (W : WX) (σ : St) (M : Lv) (c : Nat) (d : D) (ρ : Env) : Prop :=
  ∀ v dd F H, Cf T F H M ρ σ → H dd = some (.xd [(T.xfld c, v)]) → Rp T F v d → W (.ref (T.xcls c)) (some dd) σ H
def Out (T : Nm) (W : WX) (σ : St) (M : Lv) {α : Type} (x : Res α) (K : α → Env → Prop) : Prop := match x with
  | .ok a ρ => K a ρ
  | .exc c d ρ => ExcW T W σ M c d ρ
  | .stuck => False
theorem Out.bind {α β : Type} {x : Res α} {k : α → Env → Res β} {K : β → Env → Prop} (h : Out T W σ M (x.bind k) K) : Out T W σ M x fun a ρ => Out T W σ M (k a ρ) K := by
  cases x with
  | ok a ρ => exact h
  | exc c d ρ => exact h
  | stuck => exact h
theorem Out.imp {α : Type} {x : Res α} {K K' : α → Env → Prop} (h : Out T W σ M x K) (k : ∀ a ρ, K a ρ → K' a ρ) : Out T W σ M x K' := by
  cases x with
  | ok a ρ => exact k _ _ h
  | exc c d ρ => exact h
  | stuck => exact h
theorem Out.wk {α : Type} {p : R × V} {x : Res α} {K : α → Env → Prop} (h : Out T W σ M x K) : Out T W σ (p :: M) x K := by
  cases x with
  | ok a ρ => exact h
  | exc c d ρ => exact fun v dd F H cf => h v dd F H cf.tail
  | stuck => exact h
theorem Out.wkL {α : Type} {P : Lv} {x : Res α} {K : α → Env → Prop} (h : Out T W σ M x K) : Out T W σ (P ++ M) x K := by
  induction P with
  | nil => exact h
  | cons p P ih => exact ih.wk
theorem Out.opt {α : Type} {o : Option α} {ρ : Env} {K : α → Env → Prop} (h : Out T W σ M (optR o ρ) K) : ∃ a, o = some a ∧ K a ρ := by
  cases o with
  | none => exact h.elim
  | some a => exact ⟨a, rfl, h⟩
theorem Out.calm {α : Type} {x : Res α} {K : α → Env → Prop} (h : Out T W σ M x.calm K) : Out T (fun _ _ _ _ => False) σ M x.calm K := by
  cases x with
  | ok a ρ => exact h
  | exc c d ρ => exact h.elim
  | stuck => exact h
theorem Out.calm_of {α : Type} {W' : WX} {σ' : St} {M' : Lv} {x : Res α} {K : α → Env → Prop} (h : Out T W σ M x.calm K) : Out T W' σ' M' x K := by
  cases x with
  | ok a ρ => exact h
  | exc c d ρ => exact h.elim
  | stuck => exact h

/-! ### readings -/
/-- an expression that computes m -/
def tM (T : Nm) (W : WX) (m : Env → Res R) : TE := fun σ H Q => ∃ F M ρ, Cf T F H M ρ σ ∧ Out T W σ M (m ρ) fun r ρ' => ∀ v F' H', Cf T F' H' ((r, v) :: M) ρ' σ → Q v H'
/-- .. a plain value -/
def tD (T : Nm) (W : WX) (m : Env → Res D) : TE := fun σ H Q => ∃ F M ρ, Cf T F H M ρ σ ∧ Out T W σ M (m ρ) fun d ρ' => ∀ v F' H', Cf T F' H' ((.val d, v) :: M) ρ' σ → Q v H'
def Ar.tmp (v : V) : Ar → Lv
  | .v r => [(r, v)]
  | .b _ => []
def Ar.in_ (v : V) (σ : St) : Ar → Prop
  | .v _ => True
  | .b i => σ[i]? = some (some v)
/-- .. an argument -/
def tAr (T : Nm) (W : WX) (m : Env → Res Ar) : TE := fun σ H Q => ∃ F M ρ, Cf T F H M ρ σ ∧ Out T W σ M (m ρ) fun a ρ' => ∀ v F' H', a.in_ v σ → Cf T F' H' (a.tmp v ++ M) ρ' σ → Q v H'
/-- a test -/
def tT (T : Nm) (W : WX) (m : Env → Res Bool) : TT := fun σ H Q => ∃ F M ρ, Cf T F H M ρ σ ∧ Out T W σ M (m ρ) fun b ρ' => ∀ F' H', Cf T F' H' M ρ' σ → Q b H'
/-- arguments -/
def tmps : List Ar → List V → Lv
  | a :: as, v :: vs => a.tmp v ++ tmps as vs
  | _, _ => []
def ins_ (σ : St) : List Ar → List V → Prop
  | [], [] => True
  | a :: as, v :: vs => a.in_ v σ ∧ ins_ σ as vs
  | _, _ => False
def tAs (T : Nm) (W : WX) (m : Env → Res (List Ar)) : TA := fun σ H Q => ∃ F M ρ, Cf T F H M ρ σ ∧ Out T W σ M (m ρ) fun as ρ' => ∀ vs F' H', ins_ σ as vs → Cf T F' H' (tmps as vs ++ M) ρ' σ → Q vs H'
/-- plain values, one behind another -/
def vals_ : List D → List V → Lv
  | d :: ds, v :: vs => (.val d, v) :: vals_ ds vs
  | _, _ => []
def tDs (T : Nm) (W : WX) (m : Env → Res (List D)) : TA := fun σ H Q => ∃ F M ρ, Cf T F H M ρ σ ∧ Out T W σ M (m ρ) fun ds ρ' => ∀ vs F' H', RpL T F' vs ds → Cf T F' H' M ρ' σ → Q vs H'

theorem _root_.L2.PE.imp {X : Cx} {e : Expr} {t t' : TE} (h : PE X e t) (k : ∀ σ H Q, t' σ H Q → t σ H Q) : PE X e t' := ⟨fun pins s σ H Q I q => h.run pins s σ H Q I (k σ H Q q)⟩
theorem _root_.L2.PT.imp {X : Cx} {e : Expr} {t t' : TT} (h : PT X e t) (k : ∀ σ H Q, t' σ H Q → t σ H Q) : PT X e t' := ⟨fun pins s σ H Q I q => h.run pins s σ H Q I (k σ H Q q)⟩
theorem _root_.L2.PW.imp {X : Cx} {e : Expr} {t t' : TT} (h : PW X e t) (k : ∀ σ H Q, t' σ H Q → t σ H Q) : PW X e t' := ⟨fun wh pins s σ H Q I q => h.run wh pins s σ H Q I (k σ H Q q)⟩
theorem _root_.L2.PA.imp {X : Cx} {es : List Expr} {t t' : TA} (h : PA X es t) (k : ∀ σ H Q, t' σ H Q → t σ H Q) : PA X es t' := ⟨fun pos pins s σ H Q I q => h.run pos pins s σ H Q I (k σ H Q q)⟩
theorem _root_.L2.PS.imp {X : Cx} {st : Stmt} {t t' : TS} (h : PS X st t) (k : ∀ D σ H, t' D σ H → t D σ H) : PS X st t' := ⟨fun pins s σ H D I q => h.run pins s σ H D I (k D σ H q)⟩
theorem _root_.L2.PSs.imp {X : Cx} {st : List Stmt} {t t' : TS} (h : PSs X st t) (k : ∀ D σ H, t' D σ H → t D σ H) : PSs X st t' := ⟨fun pins s σ H D I q => h.run pins s σ H D I (k D σ H q)⟩

theorem fullD_some {r : R} {d : D} (h : fullD T.flds r = some d) : r.fullB T.flds = true ∧ d = r.toD := by
  unfold fullD at h
  split at h
  · exact ⟨by assumption, (Option.some.inj h).symm⟩
  · cases h
/-- from an argument in hand to its data -/
theorem Cf.arD {F H : Hp} {ρ : Env} {a : Ar} {v : V} {d : D} {P : Lv} (h : Cf T F H (a.tmp v ++ M) ρ σ) (i : a.in_ v σ) (e : a.d T.flds ρ = some d) : Rt T F H v d := by
  have own : ∀ {r : R} {L : Lv} {ρ : Env}, Cf T F H ((r, v) :: L) ρ σ → fullD T.flds r = some d → Rt T F H v d := fun {r L ρ} h e => by
    obtain ⟨f, rfl⟩ := fullD_some e
    have lk := h.look f
    cases r with
    | val d => exact h.rp.rt h.sub
    | lst ds =>
      obtain ⟨p, rfl⟩ := h.lstRef
      obtain ⟨xs, h1, h2⟩ := h.lstAt
      exact ⟨p, xs, rfl, .inl (.inl h1), h2⟩
    | obj c rs => exact lk
    | dct ks vs =>
      obtain ⟨p, o, rfl, h1, h2⟩ := h.dctAt
      exact ⟨p, o, rfl, .inl h1, h2⟩
  cases a with
  | v r => exact own (L := M) h e
  | b j =>
    have e : (ρ.at j).bind (fullD T.flds) = some d := e
    cases q : ρ.at j with
    | none => rw [q] at e; cases e
    | some r =>
      rw [q] at e
      have e2 : ρ[j]? = some (some r) := by
        unfold Env.at at q
        cases z : ρ[j]? with
        | none => rw [z] at q; cases q
        | some o => rw [z] at q; cases o with
          | none => cases q
          | some r' => cases q; rfl
      obtain ⟨v', e3, h'⟩ := Cf.out (M := M) h e2
      have i : σ[j]? = some (some v) := i
      rw [i] at e3; cases e3
      exact own (L := M) (ρ := ρ.set j none) h' e

theorem at_get {ρ : Env} {i : Nat} {r : R} (h : ρ.at i = some r) : ρ[i]? = some (some r) := by
  unfold Env.at at h
  cases z : ρ[i]? with
  | none => rw [z] at h; cases h
  | some o => rw [z] at h; cases o with
    | none => cases h
    | some r' => cases h; rfl

section
variable {X : Cx}
/-! ### names -/
theorem pe_rd {e : Expr} {i : Nat} (h : PE X e (tVar i)) : PE X e (tM T W (rdVar T.flds i)) := by
  refine h.imp fun σ H Q q => ?_
  obtain ⟨F, M, ρ, cf, q⟩ := q
  unfold rdVar at q
  cases z : ρ.at i with
  | none => rw [z] at q; exact q.elim
  | some r =>
    rw [z] at q
    have e := at_get z
    cases r with
    | val d =>
      obtain ⟨v, F', e1, s, cf'⟩ := cf.read e rfl
      exact ⟨v, e1, q v F' H (by rw [show R.toD (.val d) = d from rfl, set_same e] at cf'; exact cf')⟩
    | lst ds =>
      obtain ⟨v, F', e1, s, cf'⟩ := cf.read e rfl
      exact ⟨v, e1, q v F' H cf'⟩
    | dct ks vs =>
      obtain ⟨v, F', e1, s, cf'⟩ := cf.read e rfl
      exact ⟨v, e1, q v F' H cf'⟩
    | obj c rs =>
      by_cases f : (R.obj c rs).fullB T.flds = true
      · obtain ⟨v, F', e1, s, cf'⟩ := cf.read e f
        have q : Out T W σ M (if (R.obj c rs).fullB T.flds = true then Res.ok (R.val (R.obj c rs).toD) (ρ.set i (some (.val (R.obj c rs).toD))) else .stuck) _ := q
        rw [if_pos f] at q
        exact ⟨v, e1, q v F' H cf'⟩
      · have q : Out T W σ M (if (R.obj c rs).fullB T.flds = true then Res.ok (R.val (R.obj c rs).toD) (ρ.set i (some (.val (R.obj c rs).toD))) else .stuck) _ := q
        rw [if_neg f] at q
        exact q.elim
theorem pe_argVar {e : Expr} {i : Nat} (h : PE X e (tVar i)) : PE X e (tAr T W (argVar i)) := by
  refine h.imp fun σ H Q q => ?_
  obtain ⟨F, M, ρ, cf, q⟩ := q
  unfold argVar at q
  cases z : ρ.at i with
  | none => rw [z] at q; exact q.elim
  | some r =>
    rw [z] at q
    have e := at_get z
    cases r with
    | val d =>
      obtain ⟨v, F', e1, s, cf'⟩ := cf.read e rfl
      exact ⟨v, e1, q v F' H trivial (by rw [show R.toD (.val d) = d from rfl, set_same e] at cf'; exact cf')⟩
    | lst ds =>
      obtain ⟨v, e1⟩ := cf.slot e
      exact ⟨v, e1, q v F H e1 cf⟩
    | obj c rs =>
      obtain ⟨v, e1⟩ := cf.slot e
      exact ⟨v, e1, q v F H e1 cf⟩
    | dct ks vs =>
      obtain ⟨v, e1⟩ := cf.slot e
      exact ⟨v, e1, q v F H e1 cf⟩
/-- an expression as an argument -/
theorem pe_arOf {e : Expr} {m : Env → Res R} (h : PE X e (tM T W m)) : PE X e (tAr T W fun ρ => (m ρ).bind fun r ρ => .ok (.v r) ρ) := by
  refine h.imp fun σ H Q q => ?_
  obtain ⟨F, M, ρ, cf, q⟩ := q
  exact ⟨F, M, ρ, cf, q.bind.imp fun r ρ' k v F' H' cf' => k v F' H' trivial cf'⟩
/-- an expression as plain data -/
theorem pe_asD {e : Expr} {m : Env → Res R} (h : PE X e (tM T W m)) : PE X e (tD T W fun ρ => asD T.flds (m ρ)) := by
  refine h.imp fun σ H Q q => ?_
  obtain ⟨F, M, ρ, cf, q⟩ := q
  refine ⟨F, M, ρ, cf, (Out.bind q).imp fun r ρ' k v F' H' cf' => ?_⟩
  obtain ⟨d, e, k⟩ := k.opt
  obtain ⟨f, rfl⟩ := fullD_some e
  obtain ⟨F2, s, cf2⟩ := cf'.freeze f
  exact k v F2 H' cf2
/-- plain data as a value -/
theorem pe_ofD {e : Expr} {m : Env → Res D} (h : PE X e (tD T W m)) : PE X e (tM T W fun ρ => (m ρ).bind fun d ρ => .ok (.val d) ρ) := by
  refine h.imp fun σ H Q q => ?_
  obtain ⟨F, M, ρ, cf, q⟩ := q
  exact ⟨F, M, ρ, cf, q.bind.imp fun r ρ' k => k⟩
/-- a constant -/
theorem pe_cst {e : Expr} {v : V} {d : D} (h : PE X e (tC v)) (r : ∀ F, Rp T F v d) : PE X e (tM T W fun ρ => .ok (.val d) ρ) := by
  refine h.imp fun σ H Q q => ?_
  obtain ⟨F, M, ρ, cf, q⟩ := q
  exact q v F H (cf.val (r F))

/-! ### two values and an operation -/
/-- two operands in hand -/
def two (fl : Nat → List Nat) {α : Type} (f : D → D → Env → Res α) (a b : Env → Res Ar) : Env → Res α := fun ρ => (a ρ).bind fun x ρ => (b ρ).bind fun y ρ => match x.d fl ρ, y.d fl ρ with
  | some x, some y => f x y ρ
  | _, _ => .stuck
theorem Ar.tmp_in {a : Ar} {v : V} {F H : Hp} {ρ : Env} {P : Lv} (h : Cf T F H (P ++ (a.tmp v ++ M)) ρ σ) : Cf T F H (a.tmp v ++ (P ++ M)) ρ σ := h.permM (by
  rw [← List.append_assoc, ← List.append_assoc]
  exact List.Perm.append_right _ List.perm_append_comm)
theorem Cf.dropL {F H : Hp} {ρ : Env} {P : Lv} (h : Cf T F H (P ++ M) ρ σ) : Cf T F H M ρ σ := by
  induction P with
  | nil => exact h
  | cons p P ih => exact ih h.tail
/-- both operands are known, then R -/
theorem tAr_two {α : Type} {ea eb : Env → Res Ar} {f : D → D → Env → Res α} {H : Hp} {K : Lv → α → Env → Prop} {R : V → V → Hp → Prop}
    (h : ∃ F M ρ, Cf T F H M ρ σ ∧ Out T W σ M (two T.flds f ea eb ρ) (K M))
    (k : ∀ F M ρ H x y dx dy, Cf T F H M ρ σ → Rt T F H x dx → Rt T F H y dy → Out T W σ M (f dx dy ρ) (K M) → R x y H) :
    tAr T W ea σ H fun x H1 => tAr T W eb σ H1 fun y H2 => R x y H2 := by
  obtain ⟨F, M, ρ, cf, q⟩ := h
  refine ⟨F, M, ρ, cf, (Out.bind q).imp fun a ρ1 q1 v1 F1 H1 i1 cf1 => ?_⟩
  refine ⟨F1, a.tmp v1 ++ M, ρ1, cf1, (Out.wkL (Out.bind q1)).imp fun b ρ2 q2 v2 F2 H2 i2 cf2 => ?_⟩
  cases e1 : a.d T.flds ρ2 with
  | none => rw [e1] at q2; exact q2.elim
  | some dx =>
    cases e2 : b.d T.flds ρ2 with
    | none => rw [e1, e2] at q2; exact q2.elim
    | some dy =>
      rw [e1, e2] at q2
      have r2 : Rt T F2 H2 v2 dy := Cf.arD (P := []) cf2 i2 e2
      have r1 : Rt T F2 H2 v1 dx := Cf.arD (P := []) (Ar.tmp_in cf2) i1 e1
      exact k F2 M ρ2 H2 v1 v2 dx dy cf2.dropL.dropL r1 r2 q2
/-- one operand -/
def one_ (fl : Nat → List Nat) {α : Type} (f : D → Env → Res α) (a : Env → Res Ar) : Env → Res α := fun ρ => (a ρ).bind fun x ρ => match x.d fl ρ with
  | some x => f x ρ
  | none => .stuck
theorem tAr_one {α : Type} {ea : Env → Res Ar} {f : D → Env → Res α} {H : Hp} {K : Lv → α → Env → Prop} {R : V → Hp → Prop}
    (h : ∃ F M ρ, Cf T F H M ρ σ ∧ Out T W σ M (one_ T.flds f ea ρ) (K M))
    (k : ∀ F M ρ H x dx, Cf T F H M ρ σ → Rt T F H x dx → Out T W σ M (f dx ρ) (K M) → R x H) : tAr T W ea σ H R := by
  obtain ⟨F, M, ρ, cf, q⟩ := h
  refine ⟨F, M, ρ, cf, (Out.bind q).imp fun a ρ1 q1 v1 F1 H1 i1 cf1 => ?_⟩
  cases e1 : a.d T.flds ρ1 with
  | none => rw [e1] at q1; exact q1.elim
  | some dx =>
    rw [e1] at q1
    exact k F1 M ρ1 H1 v1 dx cf1.dropL (Cf.arD (P := []) cf1 i1 e1) q1
end
end Fx
end
section
set_option linter.all false
set_option Elab.async false
set_option maxRecDepth 100000
set_option maxHeartbeats 4000000
/-! Dicts of the language against the model: in, d[k], d[k] = v, len, walks. -/
namespace Fx
open PySem PySem.Spec L2
variable {T : Nm}
/-! ### keys -/
mutual
theorem key_hash (w : World) : ∀ d : D, d.isKey = true → nkHash d.nk = d.nk.hash w
  | .int i, _ => rfl
  | .tup ds, h => by
    have h : D.areKeys ds = true := h
    show reduceHash (Builtin.Tuple.tupleHashOf (nkHashes (D.nks ds))) = reduceHash (Builtin.Tuple.tupleHashOf (NestedKey.hashes w (D.nks ds)))
    rw [keys_hash w ds h]
  | .non, h | .bl _, h | .str _, h | .lst _, h | .rng _ _, h | .ins _ _, h | .dct _ _, h => by cases h
theorem keys_hash (w : World) : ∀ ds : List D, D.areKeys ds = true → nkHashes (D.nks ds) = NestedKey.hashes w (D.nks ds)
  | [], _ => rfl
  | d :: ds, h => by
    have h := Bool.and_eq_true_iff.mp (show (d.isKey && D.areKeys ds) = true from h)
    show nkHash d.nk :: nkHashes (D.nks ds) = d.nk.hash w :: NestedKey.hashes w (D.nks ds)
    rw [key_hash w d h.1, keys_hash w ds h.2]
end
mutual
theorem key_eqv : ∀ a b : D, a.isKey = true → b.isKey = true → a.eqv b = NestedKey.beq a.nk b.nk
  | .int i, b, _, hb => by cases b <;> first | (cases hb; done) | rfl
  | .tup xs, b, ha, hb => by
    cases b with
    | tup ys => exact keys_eqv xs ys ha hb
    | int _ => rfl
    | _ => cases hb
  | .non, _, h, _ | .bl _, _, h, _ | .str _, _, h, _ | .lst _, _, h, _ | .rng _ _, _, h, _ | .ins _ _, _, h, _ | .dct _ _, _, h, _ => by cases h
theorem keys_eqv : ∀ as bs : List D, D.areKeys as = true → D.areKeys bs = true → D.eqvs as bs = NestedKey.beqAll (D.nks as) (D.nks bs)
  | [], [], _, _ => rfl
  | [], _ :: _, _, _ => rfl
  | _ :: _, [], _, _ => rfl
  | a :: as, b :: bs, ha, hb => by
    have ha := Bool.and_eq_true_iff.mp (show (a.isKey && D.areKeys as) = true from ha)
    have hb := Bool.and_eq_true_iff.mp (show (b.isKey && D.areKeys bs) = true from hb)
    show (a.eqv b && D.eqvs as bs) = (NestedKey.beq a.nk b.nk && NestedKey.beqAll (D.nks as) (D.nks bs))
    rw [key_eqv a b ha.1 hb.1, keys_eqv as bs ha.2 hb.2]
end
theorem TK_key {d : D} (h : d.isTK = true) : d.isKey = true ∧ d.nk.depth ≤ 8 ∧ ∃ ds, d = .tup ds := by
  cases d with
  | tup ds =>
    have h := Bool.and_eq_true_iff.mp (show (D.areKeys ds && decide ((D.nk (.tup ds)).depth ≤ 8)) = true from h)
    exact ⟨h.1, of_decide_eq_true h.2, ds, rfl⟩
  | _ => cases h
theorem TK_eqv {a b : D} (ha : a.isTK = true) (hb : b.isTK = true) : a.eqv b = decide (a.nk = b.nk) := by
  rw [key_eqv a b (TK_key ha).1 (TK_key hb).1, NestedKey.decide_eq]
section
variable {X : Cx} {pins : List (Addr × Obj)} {σ : St} {H F : Hp} {s : Shared}
mutual
theorem key_is (I : Inv X pins σ H s) (hK : X.K = T.K) (sF : Same F H) : ∀ (d : D) (v : V) (u : Value), d.isKey = true → Rp T F v d → RelV v u → NestedIs s.heap d.nk u
  | .int i, _, _, _, h, r => by cases h; obtain ⟨t, rfl⟩ := r; exact .int i t
  | .tup ds, _, _, p, h, r => by
    cases h with
    | tup hs ha =>
      cases r
      obtain ⟨its, rv, ⟨o, ho, hc, n, hd⟩, _⟩ := I.tuple (by rw [hK]; exact same_sqT sF hs)
      exact .tup ho hc hd (by simpa using keys_are I hK sF ds _ its p ha rv)
  | .non, _, _, p, _, _ | .bl _, _, _, p, _, _ | .str _, _, _, p, _, _ | .lst _, _, _, p, _, _ | .rng _ _, _, _, p, _, _ | .ins _ _, _, _, p, _, _ | .dct _ _, _, _, p, _, _ => by cases p
theorem keys_are (I : Inv X pins σ H s) (hK : X.K = T.K) (sF : Same F H) : ∀ (ds : List D) (vs : List V) (us : List Value), D.areKeys ds = true → RpL T F vs ds → Vals vs us → NestedAll s.heap (D.nks ds) us
  | [], _, _, _, h, r => by cases h; cases r; exact .nil
  | d :: ds, _, _, p, h, r => by
    have p := Bool.and_eq_true_iff.mp (show (d.isKey && D.areKeys ds) = true from p)
    cases h with
    | cons h1 h2 =>
      cases r with
      | cons r1 r2 => exact .cons (key_is I hK sF d _ _ p.1 h1 r1) (keys_are I hK sF ds _ _ p.2 h2 r2)
end
abbrev NKd (X : Cx) := nestedKind X.prog X.w
theorem TK_is (I : Inv X pins σ H s) (hK : X.K = T.K) (sF : Same F H) {d : D} {a : Addr} (h : d.isTK = true) (r : Rp T F (.ref a) d) : (NKd X).is s.heap d.nk a :=
  ⟨key_is I hK sF d _ _ (TK_key h).1 r rfl, (TK_key h).2.1⟩
/-! ### the two kinds of dicts -/
/-- entries, as the language sees them -/
def XR (T : Nm) (F : Hp) (xs : List (NestedKey × Addr × Value)) (ks vs : List D) : Prop :=
  xs.map (·.1) = ks.map D.nk ∧ RpL T F (xs.map fun x => .ref x.2.1) ks ∧ ∃ ws : List V, Vals ws (xs.map (·.2.2)) ∧ RpL T F ws vs
theorem dicX_vals {es : DEs} {xs : List (NestedKey × Addr × Value)} (h : Paired (fun (p : NestedKey × Addr × V) (q : NestedKey × Addr × Value) => p.1 = q.1 ∧ p.2.1 = q.2.1 ∧ RelV p.2.2 q.2.2) es xs) :
    xs.map (·.1) = es.map (·.1) ∧ (xs.map fun x => x.2.1) = (es.map fun e => e.2.1) ∧ Vals (es.map fun e => e.2.2) (xs.map (·.2.2)) := by
  induction h with
  | nil => exact ⟨rfl, rfl, .nil⟩
  | cons h t ih => exact ⟨by simp [h.1, ih.1], by simp [h.2.1, ih.2.1], .cons h.2.2 ih.2.2⟩
theorem entry_nk {P : Program} {w : World} : ∀ {xs : List (NestedKey × Addr × Value)} {ks : List D}, xs.map (·.1) = ks.map D.nk → ks.all D.isTK = true →
    xs.map (fun x => (⟨nkHash x.1, .ref x.2.1, x.2.2⟩ : DictEntry)) = xs.map (entryOfKey (nestedKind P w))
  | [], _, _, _ => rfl
  | x :: xs, [], e, _ => by simp at e
  | x :: xs, k :: ks, e, h => by
    simp only [List.map_cons, List.cons.injEq] at e
    simp only [List.all_cons, Bool.and_eq_true] at h
    rw [List.map_cons, List.map_cons, entry_nk e.2 h.2]
    congr 1
    show (⟨nkHash x.1, _, _⟩ : DictEntry) = ⟨x.1.hash w, _, _⟩
    rw [e.1, key_hash w k (TK_key h.1).1]
theorem keys_his (I : Inv X pins σ H s) (hK : X.K = T.K) (sF : Same F H) : ∀ {xs : List (NestedKey × Addr × Value)} {ks : List D}, xs.map (·.1) = ks.map D.nk → ks.all D.isTK = true → RpL T F (xs.map fun x => .ref x.2.1) ks →
    ∀ x ∈ xs, (NKd X).is s.heap x.1 x.2.1
  | [], _, _, _, _ => by simp
  | x :: xs, [], e, _, _ => by simp at e
  | x :: xs, k :: ks, e, h, r => by
    simp only [List.map_cons, List.cons.injEq] at e
    simp only [List.all_cons, Bool.and_eq_true] at h
    cases r with
    | cons r1 r2 =>
      intro y hy
      rcases List.mem_cons.mp hy with rfl | hy
      · rw [e.1]; exact TK_is I hK sF h.1 r1
      · exact keys_his I hK sF e.2 h.2 r2 y hy
theorem map_int_TK {kvs : List (Int × V)} (h : (kvs.map fun p => D.int p.1).all D.isTK = true) : kvs = [] := by
  cases kvs with
  | nil => rfl
  | cons p kvs => simp [D.isTK] at h
/-- a dict whose keys are tuples -/
theorem dictH_of (I : Inv X pins σ H s) (hK : X.K = T.K) (sF : Same F H) {a : Addr} {o : HO} {ks vs : List D} (r : Rd H a o) (d : DR T F a o ks vs) (hk : ks.all D.isTK = true) :
    (a == sysModules) = false ∧ ks.length ≤ sizeLine ∧ ∃ xs, s.heap.DictOfH (NKd X) a xs ∧ XR T F xs ks vs := by
  rcases d with ⟨kvs, rfl, rfl, hv⟩ | ⟨es, rfl, _, _, e4, r5, r6⟩
  · obtain rfl := map_int_TK hk
    cases hv
    obtain ⟨_, hd, ws, rel, o, en, ep, h1, h2, h3, _, h5, _⟩ := dk_rd I.hok r
    cases rel
    have he : en.toList = [] := by cases q : en.toList with
      | nil => rfl
      | cons x l => rw [q] at h5; cases h5
    exact ⟨hd, Nat.zero_le _, [], ⟨o, en, ep, h1, h2, h3, by rw [he]; rfl, by simp, List.nodup_nil⟩, rfl, .nil, [], .nil, .nil⟩
  · obtain ⟨⟨hd, hz, xs, pr, o, en, ep, h1, h2, h3, h4, h5⟩, _⟩ := (show ObjOk X.prog X.w H s.heap a (.ext (dicX a es)) from r.ok I.hok)
    obtain ⟨q1, q2, q3⟩ := dicX_vals pr
    have e1 : xs.map (·.1) = ks.map D.nk := q1.trans e4
    have rr : RpL T F (xs.map fun x => .ref x.2.1) ks := by
      have : (xs.map fun x => V.ref x.2.1) = es.map fun e => V.ref e.2.1 := by
        have := congrArg (List.map V.ref) q2
        simpa [List.map_map, Function.comp_def] using this
      rw [this]; exact r5
    have hl : ks.length = es.length := by rw [← r5.len, List.length_map]
    exact ⟨hd, by rw [hl]; exact hz, xs, ⟨o, en, ep, h1, h2, h3, by rw [h4]; exact entry_nk e1 hk, keys_his I hK sF e1 hk rr, h5⟩, e1, rr, _, q3, r6⟩
theorem find_int (i : Int) : ∀ kvs : List (Int × V), dFind (kvs.map fun p => D.int p.1) (.int i) = kvs.findIdx? fun p => p.1 == i
  | [] => rfl
  | p :: kvs => by
    have ih := find_int i kvs
    unfold dFind at ih ⊢
    rw [List.map_cons, List.findIdx?_cons, List.findIdx?_cons, ih]
    rfl
theorem valV_int (i : Int) : ∀ kvs : List (Int × V), valV (kvs.map fun p => ((Sum.inl p.1 : Key), p.2)) (Sum.inl i) = (kvs.findIdx? fun p => p.1 == i).bind fun j => (kvs[j]?).map (·.2)
  | [] => rfl
  | p :: kvs => by
    have ih := valV_int i kvs
    rw [List.findIdx?_cons]
    by_cases e : p.1 = i
    · rw [List.map_cons, valV_pos (by rw [e])]
      simp [e]
    · rw [List.map_cons, valV_neg (by intro z; exact e (Sum.inl.inj z)), ih]
      have e2 : (p.1 == i) = false := by simpa using e
      rw [e2]
      cases kvs.findIdx? fun p => p.1 == i <;> simp
theorem atKey_find {xs : List (NestedKey × Addr × Value)} {ks : List D} {k : D} (hk : k.isTK = true) : ∀ (_ : xs.map (·.1) = ks.map D.nk) (_ : ks.all D.isTK = true), atKey xs k.nk = (dFind ks k).bind fun j => (xs[j]?).map (·.2) := by
  induction xs generalizing ks with
  | nil =>
    intro e _
    have : ks = [] := by cases ks with
      | nil => rfl
      | cons _ _ => simp at e
    subst this
    rfl
  | cons x xs ih =>
    intro e h
    cases ks with
    | nil => simp at e
    | cons k0 ks =>
      simp only [List.map_cons, List.cons.injEq] at e
      simp only [List.all_cons, Bool.and_eq_true] at h
      have ih := ih (ks := ks) e.2 h.2
      unfold dFind at ih ⊢
      rw [List.findIdx?_cons, TK_eqv h.1 hk]
      unfold atKey at ih ⊢
      rw [List.find?_cons, e.1]
      by_cases z : k0.nk = k.nk
      · simp [z]
      · simp only [decide_eq_false z, Bool.false_eq_true, ite_false]
        rw [ih]
        cases List.findIdx? (fun x => x.eqv k) ks <;> simp
theorem rp_int {v : V} {k : D} (h : Rt T F H v k) (hk : k.isInt = true) : ∃ i, k = .int i ∧ v = .int i := by
  cases k with
  | int i => exact ⟨i, rfl, h.int⟩
  | _ => cases hk
theorem all_int_TK {ks : List D} (h1 : ks.all D.isInt = true) (h2 : ks.all D.isTK = true) : ks = [] := by
  cases ks with
  | nil => rfl
  | cons k ks =>
    simp only [List.all_cons, Bool.and_eq_true] at h1 h2
    cases k <;> first | (have := h1.1; cases this; done) | (have := h2.1; cases this; done)
theorem rp_tk {v : V} {k : D} (h : Rt T F H v k) (hk : k.isTK = true) : Rp T F v k ∧ ∃ a, v = .ref a := by
  obtain ⟨_, _, ds, rfl⟩ := TK_key hk
  have h : Rp T F v (.tup ds) := h
  refine ⟨h, ?_⟩
  cases h with | tup _ _ => exact ⟨_, rfl⟩
theorem keyOk_or {ks : List D} {k : D} (h : keyOk ks k = true) : (k.isInt = true ∧ ks.all D.isInt = true) ∨ (k.isTK = true ∧ ks.all D.isTK = true) := by
  unfold keyOk at h
  simpa only [Bool.or_eq_true, Bool.and_eq_true] using h
theorem dr_int {a : Addr} {o : HO} {ks vs : List D} (d : DR T F a o ks vs) (h : ks.all D.isInt = true) : ∃ kvs : List (Int × V), o = .dK (kvs.map fun p => (Sum.inl p.1, p.2)) ∧ ks = kvs.map (fun p => D.int p.1) ∧ RpL T F (kvs.map (·.2)) vs := by
  rcases d with d | ⟨es, _, ne, hk, _, r, _⟩
  · exact d
  · have := all_int_TK h hk
    subst this
    have := r.len
    simp at this
    exact (ne this).elim
variable {A : Around} {E : Value → Shared → Prop} {a : Addr} {o : HO} {ks vs : List D} {v : V} {u : Value} {k : D}
theorem find_get {xs : List (NestedKey × Addr × Value)} (x : XR T F xs ks vs) {j : Nat} {d : D} (h : vs[j]? = some d) : ∃ y w, xs[j]? = some y ∧ RelV w y.2.2 ∧ Rp T F w d := by
  obtain ⟨_, _, ws, rv, rp⟩ := x
  obtain ⟨w, e1, r1⟩ := rp.get h
  obtain ⟨u, e2, r2⟩ := rv.get e1
  rw [List.getElem?_map] at e2
  obtain ⟨y, e3, rfl⟩ := Option.map_eq_some_iff.mp e2
  exact ⟨y, w, e3, r2, r1⟩
theorem XR.len {xs : List (NestedKey × Addr × Value)} (x : XR T F xs ks vs) : xs.length = ks.length ∧ xs.length = vs.length := by
  obtain ⟨e, _, ws, rv, rp⟩ := x
  have e := congrArg List.length e
  simp only [List.length_map] at e
  have e2 := rv.length
  rw [List.length_map] at e2
  exact ⟨e, by rw [← e2, rp.len]⟩
theorem find_lt {j : Nat} (h : dFind ks k = some j) : j < ks.length := by
  unfold dFind at h
  rw [List.findIdx?_eq_some_iff_getElem] at h
  exact h.1
theorem dr_len (d : DR T F a o ks vs) : ks.length = vs.length := by
  rcases d with ⟨kvs, _, rfl, h⟩ | ⟨es, _, _, _, _, h1, h2⟩
  · have := h.len; simpa using this
  · have e1 := h1.len
    have e2 := h2.len
    simp only [List.length_map] at e1 e2
    omega
/-- y in d -/
theorem dF_in {Q : Value → Shared → Prop} (hu : A.units + 16 < cLine) (I : Inv X pins σ H s) (hK : X.K = T.K) (sF : Same F H) (r : Rd H a o) (d : DR T F a o ks vs) (hk : Rt T F H v k) (rv : RelV v u) (ok : keyOk ks k = true)
    (h : ∀ s', Inv X pins σ H s' → Q (.bool (dFind ks k).isSome) s') : wpAny (model X.prog X.w) A (compareOp .In u (.ref a)) Q E s := by
  rcases keyOk_or ok with ⟨k1, k2⟩ | ⟨k1, k2⟩
  · obtain ⟨i, rfl, rfl⟩ := rp_int hk k1
    obtain ⟨kvs, rfl, rfl, hv⟩ := dr_int d k2
    refine d_in (by omega) I (.inl ⟨_, Sum.inl i, r, rfl, rfl⟩) rv fun s' I' => ?_
    rw [valV_int]
    have e : ((kvs.findIdx? fun p => p.1 == i).bind fun j => (kvs[j]?).map (·.2)).isSome = (dFind (kvs.map fun p => D.int p.1) (.int i)).isSome := by
      rw [find_int]
      cases q : kvs.findIdx? fun p => p.1 == i with
      | none => rfl
      | some j =>
        have : j < kvs.length := by rw [List.findIdx?_eq_some_iff_getElem] at q; exact q.1
        simp [this]
    rw [e]; exact h s' I'
  · obtain ⟨rk, b, rfl⟩ := rp_tk hk k1
    cases rv
    obtain ⟨hd, _, xs, dd, x⟩ := dictH_of I hK sF r d k2
    refine wpAny_in_heap (knd := NKd X) (by show A.units + 1 + 8 < cLine; omega) (TK_is I hK sF k1 rk) hd dd ?_
    rw [atKey_find k1 x.1 k2]
    have e : ((dFind ks k).bind fun j => (xs[j]?).map (·.2)).isSome = (dFind ks k).isSome := by
      cases q : dFind ks k with
      | none => rfl
      | some j =>
        have : j < xs.length := by rw [x.len.1]; exact find_lt q
        simp [this]
    rw [e]; exact h _ (I.tok _)
theorem dF_notIn {Q : Value → Shared → Prop} (hu : A.units + 16 < cLine) (I : Inv X pins σ H s) (hK : X.K = T.K) (sF : Same F H) (r : Rd H a o) (d : DR T F a o ks vs) (hk : Rt T F H v k) (rv : RelV v u) (ok : keyOk ks k = true)
    (h : ∀ s', Inv X pins σ H s' → Q (.bool (!(dFind ks k).isSome)) s') : wpAny (model X.prog X.w) A (compareOp .NotIn u (.ref a)) Q E s := by
  rcases keyOk_or ok with ⟨k1, k2⟩ | ⟨k1, k2⟩
  · obtain ⟨i, rfl, rfl⟩ := rp_int hk k1
    obtain ⟨kvs, rfl, rfl, hv⟩ := dr_int d k2
    refine d_notIn (by omega) I (.inl ⟨_, Sum.inl i, r, rfl, rfl⟩) rv fun s' I' => ?_
    rw [valV_int]
    have e : ((kvs.findIdx? fun p => p.1 == i).bind fun j => (kvs[j]?).map (·.2)).isSome = (dFind (kvs.map fun p => D.int p.1) (.int i)).isSome := by
      rw [find_int]
      cases q : kvs.findIdx? fun p => p.1 == i with
      | none => rfl
      | some j =>
        have : j < kvs.length := by rw [List.findIdx?_eq_some_iff_getElem] at q; exact q.1
        simp [this]
    rw [e]; exact h s' I'
  · obtain ⟨rk, b, rfl⟩ := rp_tk hk k1
    cases rv
    obtain ⟨hd, _, xs, dd, x⟩ := dictH_of I hK sF r d k2
    refine PyProof.Rows.wpAny_notIn_heap (knd := NKd X) (by show A.units + 1 + 8 < cLine; omega) (TK_is I hK sF k1 rk) hd dd ?_
    rw [atKey_find k1 x.1 k2]
    have e : ((dFind ks k).bind fun j => (xs[j]?).map (·.2)).isSome = (dFind ks k).isSome := by
      cases q : dFind ks k with
      | none => rfl
      | some j =>
        have : j < xs.length := by rw [x.len.1]; exact find_lt q
        simp [this]
    rw [e]; exact h _ (I.tok _)
/-- d[y] -/
theorem dF_get {Q : Value → Shared → Prop} {x : D} (hu : A.units + 16 < cLine) (I : Inv X pins σ H s) (hK : X.K = T.K) (sF : Same F H) (r : Rd H a o) (d : DR T F a o ks vs) (hk : Rt T F H v k) (rv : RelV v u) (ok : keyOk ks k = true) (e : dGet ks vs k = some x)
    (h : ∀ w y s', Inv X pins σ H s' → RelV w y → Rp T F w x → Q y s') : wpAny (model X.prog X.w) A (getItem (.ref a) u) Q E s := by
  unfold dGet at e
  obtain ⟨j, e1, e2⟩ := Option.bind_eq_some_iff.mp e
  rcases keyOk_or ok with ⟨k1, k2⟩ | ⟨k1, k2⟩
  · obtain ⟨i, rfl, rfl⟩ := rp_int hk k1
    obtain ⟨kvs, rfl, rfl, hv⟩ := dr_int d k2
    obtain ⟨w, e3, rw'⟩ := hv.get e2
    refine d_getItem (v := w) (by omega) I (.inl ⟨_, Sum.inl i, r, rfl, ?_⟩) rv fun w' s' I' rr => h w w' s' I' rr rw'
    rw [valV_int, ← find_int, e1]
    rw [List.getElem?_map] at e3
    exact e3.symm
  · obtain ⟨rk, b, rfl⟩ := rp_tk hk k1
    cases rv
    obtain ⟨hd, _, xs, dd, xr⟩ := dictH_of I hK sF r d k2
    obtain ⟨y, w, e3, r1, r2⟩ := find_get xr e2
    refine wpAny_getItem_heap (knd := NKd X) (p := y.2) (by show A.units + 1 + 8 < cLine; omega) (TK_is I hK sF k1 rk) dd ?_ (h w _ _ (I.tok _) r1 r2)
    rw [atKey_find k1 xr.1 k2, e1]
    show (xs[j]?).map (·.2) = _
    rw [e3]; rfl
/-! ### stores -/
theorem putK_set {κ : Type} [DecidableEq κ] {k : κ} {y : V} : ∀ {kvs : List (κ × V)} {j : Nat}, (kvs.map (·.1)).Nodup → (kvs.findIdx? fun p => decide (p.1 = k)) = some j → putK kvs k y = kvs.set j (k, y) := by
  intro kvs j nd h
  have hj := h
  rw [List.findIdx?_eq_some_iff_getElem] at hj
  obtain ⟨hl, h1, h2⟩ := hj
  have hany : (kvs.any fun kv => decide (kv.1 = k)) = true := List.any_eq_true.mpr ⟨kvs[j], List.getElem_mem hl, h1⟩
  unfold putK
  rw [if_pos hany]
  apply List.ext_getElem?
  intro i
  rw [List.getElem?_map, List.getElem?_set]
  by_cases e : j = i
  · subst e
    rw [if_pos rfl, if_pos hl, List.getElem?_eq_getElem hl]
    have e1 : kvs[j].1 = k := of_decide_eq_true h1
    simp [e1]
  · rw [if_neg e]
    cases q : kvs[i]? with
    | none => rfl
    | some p =>
      have hne : ¬ p.1 = k := fun z => e (by
        have a1 : (kvs.map (·.1))[j]? = some k := by rw [List.getElem?_map, List.getElem?_eq_getElem hl]; exact congrArg some (of_decide_eq_true h1)
        have a2 : (kvs.map (·.1))[i]? = some k := by rw [List.getElem?_map, q]; exact congrArg some z
        exact (List.getElem?_inj (List.getElem?_eq_some_iff.mp a1).1 nd).mp (a1.trans a2.symm))
      simp [hne]
theorem storedH_set {κ : Type} [DecidableEq κ] {k : κ} {b : Addr} {y : Value} {xs : List (κ × Addr × Value)} {j : Nat} {x : κ × Addr × Value} (nd : (xs.map (·.1)).Nodup) (hx : xs[j]? = some x) (e : x.1 = k) : storedH xs k b y = xs.set j (x.1, x.2.1, y) := by
  have hl := (List.getElem?_eq_some_iff.mp hx).1
  have hs : (atKey xs k).isSome = true := by
    rw [atKey_of_get (p := x.2) nd (by rw [hx, ← e])]; rfl
  unfold storedH
  rw [if_pos hs]
  apply List.ext_getElem?
  intro i
  rw [List.getElem?_map, List.getElem?_set]
  by_cases z : j = i
  · subst z
    rw [if_pos rfl, if_pos hl, hx]
    simp [putAt, e]
  · rw [if_neg z]
    cases q : xs[i]? with
    | none => rfl
    | some p =>
      have hne : ¬ p.1 = k := fun z' => z (by
        have a1 : (xs.map (·.1))[j]? = some k := by rw [List.getElem?_map, hx]; exact congrArg some e
        have a2 : (xs.map (·.1))[i]? = some k := by rw [List.getElem?_map, q]; exact congrArg some z'
        exact (List.getElem?_inj (List.getElem?_eq_some_iff.mp a1).1 nd).mp (a1.trans a2.symm))
      simp [putAt, hne]
theorem KV_keys {κ : Type} {kvs : List (κ × V)} {ws : List (κ × Value)} (r : KV kvs ws) : kvs.map (·.1) = ws.map (·.1) := by
  induction r with
  | nil => rfl
  | cons h t ih => simp [h.1, ih]
/-- the entries of a dict with tuples as keys, as an object -/
theorem ext_ok {P : Program} {w : World} {H' : Hp} {h' : Heap} {a : Addr} {es : DEs} (h : dicX a es h') : ObjOk P w H' h' a (.ext (dicX a es)) := by
  have hh := h
  obtain ⟨hd, hz, xs, pr, o, en, ep, h1, r⟩ := h
  refine ⟨hh, ⟨o, h1⟩, fun g1 g2 p k => ?_⟩
  obtain ⟨hd, hz, xs, pr, o, en, ep, h1, r⟩ := p
  exact ⟨hd, hz, xs, pr, o, en, ep, k _ h1, r⟩
theorem vals_paired {T : Nm} {F : Hp} : ∀ {xs : List (NestedKey × Addr × Value)} {ws : List V}, Vals ws (xs.map (·.2.2)) → ∃ es : DEs, Paired (fun (p : NestedKey × Addr × V) (q : NestedKey × Addr × Value) => p.1 = q.1 ∧ p.2.1 = q.2.1 ∧ RelV p.2.2 q.2.2) es xs ∧ (es.map fun e => e.2.2) = ws ∧ es.map (·.1) = xs.map (·.1) ∧ (es.map fun e => e.2.1) = xs.map fun x => x.2.1
  | [], _, r => by cases r; exact ⟨[], .nil, rfl, rfl, rfl⟩
  | x :: xs, _, r => by
    cases r with
    | @cons w _ ws _ h t =>
      obtain ⟨es, p, e1, e2, e3⟩ := vals_paired (T := T) (F := F) t
      exact ⟨(x.1, x.2.1, w) :: es, .cons ⟨rfl, rfl, h⟩ p, by simp [e1], by simp [e2], by simp [e3]⟩
theorem find_TK (hk : k.isTK = true) (h : ks.all D.isTK = true) {j : Nat} (e : dFind ks k = some j) : ∃ k0, ks[j]? = some k0 ∧ k0.nk = k.nk := by
  unfold dFind at e
  rw [List.findIdx?_eq_some_iff_getElem] at e
  obtain ⟨hl, h1, _⟩ := e
  have := List.all_eq_true.mp h _ (List.getElem_mem hl)
  rw [TK_eqv this hk] at h1
  exact ⟨_, List.getElem?_eq_getElem hl, of_decide_eq_true h1⟩
/-- d[y] = z, of an owned dict -/
theorem dF_set {Q : Unit → Shared → Prop} {x : D} {w : V} {y : Value} (hu : A.units + 16 < cLine) (I : Inv X pins σ H s) (hK : X.K = T.K) (sF : Same F H) (r : H a = some o) (d : DR T F a o ks vs) (hk : Rt T F H v k) (rv : RelV v u) (ok : keyOk ks k = true) (hz : ks.length < LINE)
    (rw' : RelV w y) (rx : Rp T F w x) (h : ∀ o' s', DR T F a o' (dPutK ks k) (dPutV ks vs k x) → Inv X pins σ (upd H a o') s' → Q () s') : wpAny (model X.prog X.w) A (setItem (.ref a) u y) Q E s := by
  have hline : LINE = sizeLine := sizeLine_eq.symm
  rcases keyOk_or ok with ⟨k1, k2⟩ | ⟨k1, k2⟩
  · obtain ⟨i, rfl, rfl⟩ := rp_int hk k1
    obtain ⟨kvs, rfl, rfl, hv⟩ := dr_int d k2
    obtain ⟨_, _, ws, rel, dd⟩ := dk_of I.hok r
    have nd : ((kvs.map fun p => ((Sum.inl p.1 : Key), p.2)).map (·.1)).Nodup := by
      rw [KV_keys rel]
      obtain ⟨_, _, _, _, _, _, _, _, nd⟩ := dd
      exact nd
    refine d_setItem (H' := upd H a (.dK (putK (kvs.map fun p => ((Sum.inl p.1 : Key), p.2)) (Sum.inl i) w))) (by omega) I (.inl ⟨_, Sum.inl i, r, rfl, by rw [← hline, List.length_map]; simpa using hz, rfl⟩) rv rw' fun s' I' => h _ s' ?_ I'
    have ff : ((kvs.map fun p => ((Sum.inl p.1 : Key), p.2)).findIdx? fun p => decide (p.1 = Sum.inl i)) = kvs.findIdx? fun p => p.1 == i := by
      rw [List.findIdx?_map]
      congr 1
      funext p
      show decide ((Sum.inl p.1 : Key) = Sum.inl i) = _
      rw [key_ll]
    cases q : kvs.findIdx? fun p => p.1 == i with
    | some j =>
      rw [putK_set nd (ff.trans q)]
      have e1 : dFind (kvs.map fun p => D.int p.1) (.int i) = some j := by rw [find_int, q]
      refine .inl ⟨kvs.set j (i, w), ?_, ?_, ?_⟩
      · rw [List.map_set]
      · unfold dPutK
        rw [e1, List.map_set]
        rw [List.findIdx?_eq_some_iff_getElem] at q
        obtain ⟨hl, h1, _⟩ := q
        have h1 : kvs[j].1 = i := by simpa using h1
        rw [← h1]
        exact (set_same (by rw [List.getElem?_map, List.getElem?_eq_getElem hl]; rfl)).symm
      · unfold dPutV
        rw [e1, List.map_set]
        exact RpL.set rx j hv
    | none =>
      have hn : valV (kvs.map fun p => ((Sum.inl p.1 : Key), p.2)) (Sum.inl i) = none := by rw [valV_int, q]; rfl
      rw [putK_new w hn]
      have e1 : dFind (kvs.map fun p => D.int p.1) (.int i) = none := by rw [find_int, q]
      refine .inl ⟨kvs ++ [(i, w)], by simp, ?_, ?_⟩
      · unfold dPutK; rw [e1]; simp
      · unfold dPutV; rw [e1, List.map_append]; exact hv.app (.cons rx .nil)
  · obtain ⟨rk, b, rfl⟩ := rp_tk hk k1
    cases rv
    obtain ⟨hd, hz2, xs, dd, xr⟩ := dictH_of I hK sF (.inl r) d k2
    have xl := xr.len.1
    have mu : Mut (H a) := by
      rw [r]
      rcases d with ⟨_, rfl, _, _⟩ | ⟨_, rfl, _⟩ <;> exact True.intro
    refine wpAny_setItem_heap (knd := NKd X) (hsz := by rw [xl]; exact hz2) (by show A.units + 1 + 8 < cLine; omega) (TK_is I hK sF k1 rk) dd fun h' dd' hs => ?_
    obtain ⟨q, en, ep, hq, h2, h3, h4, h5, h6⟩ := dd'
    have key : ∀ ks' vs', ks'.all D.isTK = true → ks'.length ≤ sizeLine → ks' ≠ [] → XR T F (storedH xs k.nk b y) ks' vs' → ∃ es, DR T F a (.ext (dicX a es)) ks' vs' ∧ dicX a es h' := by
      intro ks' vs' a1 a2 a3 x'
      obtain ⟨b1, b2, ws, b3, b4⟩ := x'
      obtain ⟨es, p, c1, c2, c3⟩ := vals_paired (T := T) (F := F) b3
      have hl : (storedH xs k.nk b y).length = ks'.length := by
        have := congrArg List.length b1
        simpa using this
      have hel : es.length = ks'.length := by rw [← hl]; exact Paired.length p
      refine ⟨es, .inr ⟨es, rfl, ?_, a1, c2.trans b1, ?_, by rw [c1]; exact b4⟩, hd, by rw [hel]; exact a2, _, p, q, en, ep, hq, h2, h3, ?_, h6⟩
      · intro z
        subst z
        exact a3 (List.eq_nil_of_length_eq_zero hel.symm)
      · have : (es.map fun e => V.ref e.2.1) = (storedH xs k.nk b y).map fun x => V.ref x.2.1 := by
          have := congrArg (List.map V.ref) c3
          simpa [List.map_map, Function.comp_def] using this
        rw [this]; exact b2
      · rw [h4]; exact (entry_nk b1 a1).symm
    have nd : (xs.map (·.1)).Nodup := by obtain ⟨_, _, _, _, _, _, _, _, nd⟩ := dd; exact nd
    have x' : XR T F (storedH xs k.nk b y) (dPutK ks k) (dPutV ks vs k x) ∧ (dPutK ks k).all D.isTK = true ∧ (dPutK ks k).length ≤ sizeLine ∧ dPutK ks k ≠ [] := by
      obtain ⟨b1, b2, ws, b3, b4⟩ := xr
      unfold dPutK dPutV
      cases e : dFind ks k with
      | some j =>
        obtain ⟨k0, f1, f2⟩ := find_TK k1 k2 e
        have hj : j < xs.length := by rw [xl]; exact find_lt e
        have ex : xs[j]? = some xs[j] := List.getElem?_eq_getElem hj
        have e1 : xs[j].1 = k.nk := by
          have z : (xs.map (·.1))[j]? = (ks.map D.nk)[j]? := by rw [b1]
          rw [List.getElem?_map, List.getElem?_map, ex, f1] at z
          rw [← f2]
          exact Option.some.inj z
        rw [storedH_set nd ex e1]
        refine ⟨⟨?_, ?_, ws.set j w, ?_, RpL.set rx j b4⟩, k2, hz2, fun z => by have z : ks = [] := z; rw [z] at f1; simp at f1⟩
        · rw [List.map_set]
          rw [set_same (by rw [List.getElem?_map, ex]; rfl)]
          exact b1
        · rw [List.map_set]
          rw [set_same (by rw [List.getElem?_map, ex]; rfl)]
          exact b2
        · rw [List.map_set]
          exact Vals.set rw' j b3
      | none =>
        have hn : atKey xs k.nk = none := by rw [atKey_find k1 b1 k2, e]; rfl
        rw [storedH_new hn]
        refine ⟨⟨by simp [b1], ?_, ws ++ [w], ?_, b4.app (.cons rx .nil)⟩, by simp [k2, k1], by rw [List.length_append, ← hline]; exact hz, by simp⟩
        · rw [List.map_append]; exact b2.app (.cons rk .nil)
        · rw [List.map_append]; exact Vals.append b3 (.cons rw' .nil)
    obtain ⟨es, dr, dx⟩ := key _ _ x'.2.1 x'.2.2.1 x'.2.2.2 x'.1
    exact h _ _ dr (d_write I mu hs ⟨q, hq⟩ (ext_ok dx))
/-- a dict's entries -/
theorem dr_raw (I : Inv X pins σ H s) (r : Rd H a o) (d : DR T F a o ks vs) : (a == sysModules) = false ∧ ks.length ≤ sizeLine ∧ ∃ en ep, s.heap.DictRaw a en ep ∧ (∃ kv : List V, Vals kv (en.toList.map (·.key)) ∧ RpL T F kv ks) ∧ ∃ wv : List V, Vals wv (en.toList.map (·.val)) ∧ RpL T F wv vs := by
  rcases d with ⟨kvs, rfl, rfl, hv⟩ | ⟨es, rfl, _, hk, e4, r5, r6⟩
  · obtain ⟨hz, hd, ws, rel, o, en, ep, h1, h2, h3, hko, h5, nd⟩ := dk_rd I.hok r
    clear nd
    refine ⟨hd, by simpa using hz, en, ep, ⟨o, h1, h2, h3⟩, ?_, ?_⟩
    · refine ⟨kvs.map fun p => .int p.1, ?_, ?_⟩
      · clear hz hv r
        generalize en.toList = l at h5
        induction kvs generalizing ws l with
        | nil => cases rel; cases h5; exact .nil
        | cons p kvs ih =>
          cases rel with
          | cons q t =>
            cases h5 with
            | @cons e kv es' kvs' a1 a2 a3 =>
              refine .cons ?_ (ih _ t _ a3)
              rw [← q.1] at a1
              rcases keyIs_shape (show keyIs (Sum.inl p.1) e.key = true from a1) with ⟨i, t', ek, ev⟩ | ⟨z, t', ek, ev⟩
              · cases ek; show RelV _ e.key; rw [ev]; exact ⟨t', rfl⟩
              · cases ek
      · clear rel hz h5 hv r
        induction kvs with
        | nil => exact .nil
        | cons p kvs ih => exact .cons (.int _) ih
    · refine ⟨kvs.map (·.2), ?_, hv⟩
      clear hz hv r
      generalize en.toList = l at h5
      induction kvs generalizing ws l with
      | nil => cases rel; cases h5; exact .nil
      | cons p kvs ih =>
        cases rel with
        | cons q t =>
          cases h5 with
          | @cons e kv es' kvs' a1 a2 a3 => exact .cons (by show RelV _ e.val; rw [a2]; exact q.2) (ih _ t _ a3)
  · obtain ⟨⟨hd, hz, xs, pr, o, en, ep, h1, h2, h3, h4, h5⟩, _⟩ := (show ObjOk X.prog X.w H s.heap a (.ext (dicX a es)) from r.ok I.hok)
    have hl : ks.length = es.length := by rw [← r5.len, List.length_map]
    obtain ⟨q1, q2, q3⟩ := dicX_vals pr
    refine ⟨hd, by rw [hl]; exact hz, en, ep, ⟨o, h1, h2, h3⟩, ⟨_, ?_, r5⟩, ⟨_, ?_, r6⟩⟩
    · rw [h4, List.map_map]
      have e1 : (xs.map ((fun e : DictEntry => e.key) ∘ fun x => (⟨nkHash x.1, .ref x.2.1, x.2.2⟩ : DictEntry))) = (es.map fun e => e.2.1).map Value.ref := by
        rw [← q2, List.map_map]; rfl
      rw [e1]
      have e2 : (es.map fun e => V.ref e.2.1) = (es.map fun e => e.2.1).map V.ref := by rw [List.map_map]; rfl
      rw [e2]
      generalize (es.map fun e => e.2.1) = l
      induction l with
      | nil => exact .nil
      | cons a l ih => exact .cons rfl ih
    · rw [h4, List.map_map]; exact q3
theorem dr_type (I : Inv X pins σ H s) (r : Rd H a o) (d : DR T F a o ks vs) : s.TypeIs (.ref a) "dict" := by
  obtain ⟨_, _, en, ep, h, _⟩ := dr_raw I r d
  exact h.typeIs
end
end Fx
end
section
set_option linter.all false
set_option Elab.async false
set_option maxRecDepth 100000
set_option maxHeartbeats 4000000
/-! The operations on data, each against the model. -/
namespace Fx
open PySem PySem.Spec L2
variable {T : Nm}

/-! ### data, as the library says it -/
mutual
theorem D.py_plain : ∀ d : D, d.plain = true → d.py.plain = true
  | .non, _ => rfl
  | .bl _, _ => rfl
  | .int _, _ => rfl
  | .str _, _ => rfl
  | .tup ds, h => D.pys_plain ds h
  | .lst ds, h => D.pys_plain ds h
  | .rng _ _, h => by cases h
  | .ins _ _, h => by cases h
  | .dct _ _, h => by cases h
theorem D.pys_plain : ∀ ds : List D, D.plains ds = true → PyData.plainAll (D.pys ds) = true
  | [], _ => rfl
  | d :: ds, h => by
    simp only [D.plains, Bool.and_eq_true] at h
    simp only [D.pys, PyData.plainAll, D.py_plain d h.1, D.pys_plain ds h.2, Bool.and_self]
end
mutual
theorem D.py_depth : ∀ d : D, d.plain = true → d.py.depth = d.depth
  | .non, _ => rfl
  | .bl _, _ => rfl
  | .int _, _ => rfl
  | .str _, _ => rfl
  | .tup ds, h => by simp only [D.py, PyData.depth, D.depth, D.pys_depth ds h]
  | .lst ds, h => by simp only [D.py, PyData.depth, D.depth, D.pys_depth ds h]
  | .rng _ _, h => by cases h
  | .ins _ _, h => by cases h
  | .dct _ _, h => by cases h
theorem D.pys_depth : ∀ ds : List D, D.plains ds = true → PyData.depthAll (D.pys ds) = D.depths ds
  | [], _ => rfl
  | d :: ds, h => by
    simp only [D.plains, Bool.and_eq_true] at h
    simp only [D.pys, PyData.depthAll, D.depths, D.py_depth d h.1, D.pys_depth ds h.2]
end
mutual
theorem D.py_eqv : ∀ a b : D, a.plain = true → b.plain = true → PyData.eqv a.py b.py = a.eqv b
  | .non, b, _, hb => by cases b <;> first | rfl | cases hb
  | .bl _, b, _, hb => by cases b <;> first | rfl | cases hb
  | .int _, b, _, hb => by cases b <;> first | rfl | cases hb
  | .str _, b, _, hb => by cases b <;> first | rfl | cases hb
  | .tup xs, b, ha, hb => by
    cases b with
    | tup ys => exact D.pys_eqv xs ys ha hb
    | rng _ _ => cases hb
    | ins _ _ => cases hb
    | dct _ _ => cases hb
    | _ => rfl
  | .lst xs, b, ha, hb => by
    cases b with
    | lst ys => exact D.pys_eqv xs ys ha hb
    | rng _ _ => cases hb
    | ins _ _ => cases hb
    | dct _ _ => cases hb
    | _ => rfl
  | .rng _ _, _, h, _ => by cases h
  | .ins _ _, _, h, _ => by cases h
  | .dct _ _, _, h, _ => by cases h
theorem D.pys_eqv : ∀ xs ys : List D, D.plains xs = true → D.plains ys = true → PyData.eqvAll (D.pys xs) (D.pys ys) = D.eqvs xs ys
  | [], [], _, _ => rfl
  | [], _ :: _, _, _ => rfl
  | _ :: _, [], _, _ => rfl
  | x :: xs, y :: ys, h, k => by
    simp only [D.plains, Bool.and_eq_true] at h k
    simp only [D.pys, PyData.eqvAll, D.eqvs, D.py_eqv x y h.1 k.1, D.pys_eqv xs ys h.2 k.2]
end
section
variable {X : Cx} {pins : List (Addr × Obj)} {σ : St} {H : Hp} {s : Shared}
mutual
theorem Rp.reads (I : Inv X pins σ H s) (hK : X.K = T.K) : ∀ (d : D) (v : V) (u : Value), d.plain = true → Rp T H v d → RelV v u → ∃ as, Reads s.heap u d.py as
  | .non, _, _, _, h, r => by cases h; cases r; exact ⟨_, Reads.none⟩
  | .bl b, _, _, _, h, r => by cases h; cases r; exact ⟨_, Reads.bool b⟩
  | .int i, _, _, _, h, r => by cases h; obtain ⟨t, rfl⟩ := r; exact ⟨_, Reads.int i t⟩
  | .str x, _, _, _, h, r => by cases h; obtain ⟨t, rfl⟩ := r; exact ⟨_, Reads.str x t⟩
  | .tup ds, _, _, p, h, r => by
    cases h with
    | tup hs ha =>
      cases r
      obtain ⟨its, rv, ⟨o, ho, hc, n, hd⟩, _⟩ := I.tuple (by rw [hK]; exact hs)
      obtain ⟨as, hr⟩ := RpL.reads I hK ds _ its p ha rv
      exact ⟨_, Reads.tuple ho hc hd hr⟩
  | .lst ds, _, _, p, h, r => by
    cases h with
    | lst hs ha =>
      cases r
      obtain ⟨its, rv, ⟨o, n, ho, hc, _, hd⟩, _⟩ := I.list (by rw [hK]; exact hs)
      obtain ⟨as, hr⟩ := RpL.reads I hK ds _ its p ha rv
      exact ⟨_, Reads.list ho hc hd hr⟩
  | .rng _ _, _, _, p, _, _ => by cases p
  | .ins _ _, _, _, p, _, _ => by cases p
  | .dct _ _, _, _, p, _, _ => by cases p
theorem RpL.reads (I : Inv X pins σ H s) (hK : X.K = T.K) : ∀ (ds : List D) (vs : List V) (us : List Value), D.plains ds = true → RpL T H vs ds → Vals vs us → ∃ as, ReadsAll s.heap us (D.pys ds) as
  | [], _, _, _, h, r => by cases h; cases r; exact ⟨_, ReadsAll.nil⟩
  | d :: ds, _, _, p, h, r => by
    simp only [D.plains, Bool.and_eq_true] at p
    cases h with
    | cons h1 h2 =>
      cases r with
      | cons r1 r2 =>
        obtain ⟨as, q1⟩ := Rp.reads I hK d _ _ p.1 h1 r1
        obtain ⟨bs, q2⟩ := RpL.reads I hK ds _ _ p.2 h2 r2
        exact ⟨_, ReadsAll.cons q1 q2⟩
end
end

section
variable {X : Cx}
theorem line_eq : LINE = sizeLine := sizeLine_eq.symm
/-! ### comparisons -/
def rC (T : Nm) (g : D → D → Option Bool) : R2 := fun x y H Q => ∃ F dx dy b, Same F H ∧ Rt T F H x dx ∧ Rt T F H y dy ∧ g dx dy = some b ∧ Q (.bl b) H
theorem eqD_some {x y : D} {b : Bool} (h : eqD x y = some b) : x.plain = true ∧ y.plain = true ∧ min x.depth y.depth ≤ 40 ∧ b = x.eqv y := by
  unfold eqD at h
  split at h
  · rename_i c
    simp only [Bool.and_eq_true, decide_eq_true_eq] at c
    exact ⟨c.1.1, c.1.2, c.2, (Option.some.inj h).symm⟩
  · cases h
theorem op_eqF (hK : X.K = T.K) (hu : X.A.units + 64 < cLine) : OpR X (compareOp .Eq) (rC T eqD) := by
  intro pins s σ H x y v u Q I rx ry h
  obtain ⟨F, dx, dy, b, sF, hx, hy, e, q⟩ := h
  obtain ⟨p1, p2, dp, rfl⟩ := eqD_some e
  obtain ⟨as, r1⟩ := Rp.reads I hK dx x v p1 (hx.rp sF) rx
  obtain ⟨bs, r2⟩ := Rp.reads I hK dy y u p2 (hy.rp sF) ry
  exact SeqAt.eq_plain r1 r2 (D.py_plain _ p1) (D.py_plain _ p2) (by rw [D.py_depth _ p1, D.py_depth _ p2]; omega) ⟨.bl _, H, I, by rw [D.py_eqv _ _ p1 p2]; rfl, q⟩
theorem op_neF (hK : X.K = T.K) (hu : X.A.units + 64 < cLine) : OpR X (compareOp .NotEq) (rC T fun x y => (eqD x y).map not) := by
  intro pins s σ H x y v u Q I rx ry h
  obtain ⟨F, dx, dy, b, sF, hx, hy, e, q⟩ := h
  obtain ⟨b', e', rfl⟩ := Option.map_eq_some_iff.mp e
  obtain ⟨p1, p2, dp, rfl⟩ := eqD_some e'
  obtain ⟨as, r1⟩ := Rp.reads I hK dx x v p1 (hx.rp sF) rx
  obtain ⟨bs, r2⟩ := Rp.reads I hK dy y u p2 (hy.rp sF) ry
  exact SeqAt.ne_plain r1 r2 (D.py_plain _ p1) (D.py_plain _ p2) (by rw [D.py_depth _ p1, D.py_depth _ p2]; omega) ⟨.bl _, H, I, by rw [D.py_eqv _ _ p1 p2]; rfl, q⟩
theorem any_py (d : D) (p : d.plain = true) : ∀ ds : List D, D.plains ds = true → ((D.pys ds).any fun z => PyData.eqv z d.py) = ds.any fun z => z.eqv d
  | [], _ => rfl
  | x :: ds, h => by
    simp only [D.plains, Bool.and_eq_true] at h
    simp only [D.pys, List.any_cons, D.py_eqv x d h.1 p, any_py d p ds h.2]
theorem inD_some {x y : D} {b : Bool} (hn : ∀ ks vs, y ≠ .dct ks vs) (h : inD x y = some b) : ∃ ds, (y = .tup ds ∨ y = .lst ds) ∧ x.plain = true ∧ D.plains ds = true ∧ min (D.depths ds) x.depth ≤ 40 ∧ b = ds.any fun z => z.eqv x := by
  cases y with
  | tup ds =>
    simp only [inD] at h
    split at h
    · rename_i c
      simp only [Bool.and_eq_true, decide_eq_true_eq] at c
      exact ⟨ds, .inl rfl, c.1.1, c.1.2, c.2, (Option.some.inj h).symm⟩
    · cases h
  | lst ds =>
    simp only [inD] at h
    split at h
    · rename_i c
      simp only [Bool.and_eq_true, decide_eq_true_eq] at c
      exact ⟨ds, .inr rfl, c.1.1, c.1.2, c.2, (Option.some.inj h).symm⟩
    · cases h
  | dct ks vs => exact absurd rfl (hn ks vs)
  | _ => cases h
theorem inD_dct {x y : D} {b : Bool} (h : inD x y = some b) : (∃ ks vs, y = .dct ks vs ∧ keyOk ks x = true ∧ b = (dFind ks x).isSome) ∨ ∀ ks vs, y ≠ .dct ks vs := by
  cases y with
  | dct ks vs =>
    simp only [inD] at h
    split at h
    · rename_i c
      exact .inl ⟨ks, vs, rfl, c, (Option.some.inj h).symm⟩
    · cases h
  | _ => exact .inr fun _ _ z => by cases z
theorem op_inF (hK : X.K = T.K) (hu : X.A.units + 64 < cLine) : OpR X (compareOp .In) (rC T inD) := by
  intro pins s σ H x y v u Q I rx ry h
  obtain ⟨F, dx, dy, b, sF, hx, hy, e, q⟩ := h
  rcases inD_dct e with ⟨ks, vs, rfl, c, rfl⟩ | hn
  · obtain ⟨a, o, rfl, r1, r2⟩ := hy
    cases ry
    exact dF_in (by omega) I hK sF r1 r2 hx rx c fun s' I' => ⟨.bl _, H, I', rfl, q⟩
  obtain ⟨ds, ed, p1, p2, dp, rfl⟩ := inD_some hn e
  obtain ⟨as, r1⟩ := Rp.reads I hK dx x v p1 (hx.rp sF) rx
  rcases ed with rfl | rfl
  · obtain ⟨bs, r2⟩ := Rp.reads I hK (.tup ds) y u p2 (hy.rp sF) ry
    exact SeqAt.in_tuple_data r2 r1 (D.pys_plain _ p2) (D.py_plain _ p1) (by rw [D.pys_depth _ p2, D.py_depth _ p1]; omega) ⟨.bl _, H, I, by rw [any_py _ p1 _ p2]; rfl, q⟩
  · obtain ⟨bs, r2⟩ := Rp.reads I hK (.lst ds) y u p2 (hy.rp sF) ry
    exact SeqAt.in_list_data r2 r1 (D.pys_plain _ p2) (D.py_plain _ p1) (by rw [D.pys_depth _ p2, D.py_depth _ p1]; omega) ⟨.bl _, H, I, by rw [any_py _ p1 _ p2]; rfl, q⟩
theorem op_notInF (hK : X.K = T.K) (hu : X.A.units + 64 < cLine) : OpR X (compareOp .NotIn) (rC T fun x y => (inD x y).map not) := by
  intro pins s σ H x y v u Q I rx ry h
  obtain ⟨F, dx, dy, b, sF, hx, hy, e, q⟩ := h
  obtain ⟨b', e', rfl⟩ := Option.map_eq_some_iff.mp e
  rcases inD_dct e' with ⟨ks, vs, rfl, c, rfl⟩ | hn
  · obtain ⟨a, o, rfl, r1, r2⟩ := hy
    cases ry
    exact dF_notIn (by omega) I hK sF r1 r2 hx rx c fun s' I' => ⟨.bl _, H, I', rfl, q⟩
  obtain ⟨ds, ed, p1, p2, dp, rfl⟩ := inD_some hn e'
  obtain ⟨as, r1⟩ := Rp.reads I hK dx x v p1 (hx.rp sF) rx
  rcases ed with rfl | rfl
  · obtain ⟨bs, r2⟩ := Rp.reads I hK (.tup ds) y u p2 (hy.rp sF) ry
    exact SeqAt.notIn_tuple_data r2 r1 (D.pys_plain _ p2) (D.py_plain _ p1) (by rw [D.pys_depth _ p2, D.py_depth _ p1]; omega) ⟨.bl _, H, I, by rw [any_py _ p1 _ p2]; rfl, q⟩
  · obtain ⟨bs, r2⟩ := Rp.reads I hK (.lst ds) y u p2 (hy.rp sF) ry
    exact SeqAt.notIn_list_data r2 r1 (D.pys_plain _ p2) (D.py_plain _ p1) (by rw [D.pys_depth _ p2, D.py_depth _ p1]; omega) ⟨.bl _, H, I, by rw [any_py _ p1 _ p2]; rfl, q⟩
theorem ltD_some {x y : D} {b : Bool} (h : ltD x y = some b) : (∃ i j, x = .int i ∧ y = .int j ∧ b = decide (i < j)) ∨ (ordOk x y = true ∧ b = dltD x y) := by
  unfold ltD at h
  split at h
  · exact .inl ⟨_, _, rfl, rfl, (Option.some.inj h).symm⟩
  · split at h
    · rename_i c
      exact .inr ⟨c, (Option.some.inj h).symm⟩
    · cases h
theorem ordOk_and {x y : D} (h : ordOk x y = true) : x.plain = true ∧ y.plain = true ∧ min x.depth y.depth ≤ 40 ∧ PySem.W.alike x.py y.py = true ∧ x.py ≠ .none := by
  unfold ordOk at h
  simp only [Bool.and_eq_true, decide_eq_true_eq] at h
  refine ⟨h.1, h.2.1, h.2.2.1, h.2.2.2.1, fun z => ?_⟩
  have h5 := h.2.2.2.2
  cases x with
  | non => cases h5
  | _ => cases z
section
variable {pins : List (Addr × Obj)} {σ : St} {H F : Hp} {s : Shared} {x y : V} {v u : Value} {dx dy : D}
theorem ord_reads (I : Inv X pins σ H s) (hK : X.K = T.K) (sF : Same F H) (hx : Rt T F H x dx) (hy : Rt T F H y dy) (rx : RelV x v) (ry : RelV y u) (h : ordOk dx dy = true) (hu : X.A.units + 64 < cLine) :
    ∃ as bs, Reads s.heap v dx.py as ∧ Reads s.heap u dy.py bs ∧ PySem.W.alike dx.py dy.py = true ∧ dx.py ≠ .none ∧ dy.py ≠ .none ∧ X.A.units + min dx.py.depth dy.py.depth < cLine := by
  obtain ⟨p1, p2, dp, al, nn⟩ := ordOk_and h
  obtain ⟨as, r1⟩ := Rp.reads I hK dx x v p1 (hx.rp sF) rx
  obtain ⟨bs, r2⟩ := Rp.reads I hK dy y u p2 (hy.rp sF) ry
  exact ⟨as, bs, r1, r2, al, nn, PySem.W.ne_none_both al nn, by rw [D.py_depth _ p1, D.py_depth _ p2]; omega⟩
end
theorem op_ltF (hK : X.K = T.K) (hu : X.A.units + 64 < cLine) : OpR X (compareOp .Lt) (rC T ltD) := by
  intro pins s σ H x y v u Q I rx ry h
  obtain ⟨F, dx, dy, b, sF, hx, hy, e, q⟩ := h
  rcases ltD_some e with ⟨i, j, rfl, rfl, rfl⟩ | ⟨c, rfl⟩
  · exact op_lt pins s σ H x y v u Q I rx ry ⟨i, j, hx.int, hy.int, q⟩
  · obtain ⟨as, bs, r1, r2, al, nn, nn2, du⟩ := ord_reads I hK sF hx hy rx ry c hu
    exact PySem.W.lt_data r1 r2 al nn du ⟨.bl _, H, I, rfl, q⟩
theorem op_gtF (hK : X.K = T.K) (hu : X.A.units + 64 < cLine) : OpR X (compareOp .Gt) (rC T fun x y => ltD y x) := by
  intro pins s σ H x y v u Q I rx ry h
  obtain ⟨F, dx, dy, b, sF, hx, hy, e, q⟩ := h
  rcases ltD_some e with ⟨i, j, rfl, rfl, rfl⟩ | ⟨c, rfl⟩
  · exact op_gt pins s σ H x y v u Q I rx ry ⟨j, i, hx.int, hy.int, q⟩
  · obtain ⟨as, bs, r1, r2, al, nn, nn2, du⟩ := ord_reads I hK sF hy hx ry rx c hu
    exact PySem.W.gt_data r2 r1 (by rw [PySem.W.alike_comm]; exact al) nn2 (by rw [Nat.min_comm]; exact du) ⟨.bl _, H, I, rfl, q⟩
theorem op_leF (hK : X.K = T.K) (hu : X.A.units + 64 < cLine) : OpR X (compareOp .LtE) (rC T fun x y => (ltD y x).map not) := by
  intro pins s σ H x y v u Q I rx ry h
  obtain ⟨F, dx, dy, b, sF, hx, hy, e, q⟩ := h
  obtain ⟨b', e', rfl⟩ := Option.map_eq_some_iff.mp e
  rcases ltD_some e' with ⟨i, j, rfl, rfl, rfl⟩ | ⟨c, rfl⟩
  · refine op_le pins s σ H x y v u Q I rx ry ⟨j, i, hx.int, hy.int, ?_⟩
    show Q (.bl (decide (j ≤ i))) H
    rw [show decide (j ≤ i) = !decide (i < j) by rw [← decide_not]; exact decide_eq_decide.mpr Int.not_lt.symm]
    exact q
  · obtain ⟨as, bs, r1, r2, al, nn, nn2, du⟩ := ord_reads I hK sF hy hx ry rx c hu
    exact PySem.W.le_data r2 r1 (by rw [PySem.W.alike_comm]; exact al) nn2 (by rw [Nat.min_comm]; exact du) ⟨.bl _, H, I, rfl, q⟩
theorem op_geF (hK : X.K = T.K) (hu : X.A.units + 64 < cLine) : OpR X (compareOp .GtE) (rC T fun x y => (ltD x y).map not) := by
  intro pins s σ H x y v u Q I rx ry h
  obtain ⟨F, dx, dy, b, sF, hx, hy, e, q⟩ := h
  obtain ⟨b', e', rfl⟩ := Option.map_eq_some_iff.mp e
  rcases ltD_some e' with ⟨i, j, rfl, rfl, rfl⟩ | ⟨c, rfl⟩
  · refine op_ge pins s σ H x y v u Q I rx ry ⟨i, j, hx.int, hy.int, ?_⟩
    show Q (.bl (decide (j ≤ i))) H
    rw [show decide (j ≤ i) = !decide (i < j) by rw [← decide_not]; exact decide_eq_decide.mpr Int.not_lt.symm]
    exact q
  · obtain ⟨as, bs, r1, r2, al, nn, nn2, du⟩ := ord_reads I hK sF hx hy rx ry c hu
    exact PySem.W.ge_data r1 r2 al nn du ⟨.bl _, H, I, rfl, q⟩
theorem Rp.isNon {v : V} {d : D} (h : Rp T H v d) : decide (v = .non) = d.isNon := by
  cases h <;> simp [D.isNon]
theorem isD_some {x y : D} {b : Bool} (h : isD x y = some b) : (y = .non ∧ b = x.isNon) ∨ ∃ a c, x = .bl a ∧ y = .bl c ∧ b = (a == c) := by
  unfold isD at h
  split at h
  · exact .inl ⟨rfl, (Option.some.inj h).symm⟩
  · exact .inr ⟨_, _, rfl, rfl, (Option.some.inj h).symm⟩
  · cases h
theorem op_isF : OpR X (compareOp .Is) (rC T isD) := by
  intro pins s σ H x y v u Q I rx ry h
  obtain ⟨F, dx, dy, b, sF, hx, hy, e, q⟩ := h
  rcases isD_some e with ⟨rfl, rfl⟩ | ⟨a, c, rfl, rfl, rfl⟩
  · refine op_isN pins s σ H x y v u Q I rx ry ⟨hy.non, ?_⟩
    rw [(hx.rp sF).isNon]; exact q
  · refine op_isBl pins s σ H x y v u Q I rx ry ⟨a, c, hx.bl, hy.bl, ?_⟩
    rw [show decide (a = c) = (a == c) by rw [Bool.beq_eq_decide_eq]]; exact q
theorem op_isNotF : OpR X (compareOp .IsNot) (rC T fun x y => (isD x y).map not) := by
  intro pins s σ H x y v u Q I rx ry h
  obtain ⟨F, dx, dy, b, sF, hx, hy, e, q⟩ := h
  obtain ⟨b', e', rfl⟩ := Option.map_eq_some_iff.mp e
  rcases isD_some e' with ⟨rfl, rfl⟩ | ⟨a, c, rfl, rfl, rfl⟩
  · refine op_notN pins s σ H x y v u Q I rx ry ⟨hy.non, ?_⟩
    rw [(hx.rp sF).isNon]; exact q
  · refine op_notBl pins s σ H x y v u Q I rx ry ⟨a, c, hx.bl, hy.bl, ?_⟩
    rw [show decide (a = c) = (a == c) by rw [Bool.beq_eq_decide_eq]]; exact q
/-- all comparisons of plain data -/
theorem op_cmpF (hK : X.K = T.K) (hu : X.A.units + 64 < cLine) (op : CmpOp) : OpR X (compareOp op) (rC T (cmpD op)) := by
  cases op with
  | Eq => exact op_eqF hK hu
  | NotEq => exact op_neF hK hu
  | Lt => exact op_ltF hK hu
  | LtE => exact op_leF hK hu
  | Gt => exact op_gtF hK hu
  | GtE => exact op_geF hK hu
  | Is => exact op_isF
  | IsNot => exact op_isNotF
  | In => exact op_inF hK hu
  | NotIn => exact op_notInF hK hu

/-! ### arithmetic, + and * of rows -/
def rB (T : Nm) (g : D → D → Option R) : R2 := fun x y H Q => ∃ F dx dy r, Same F H ∧ Rt T F H x dx ∧ Rt T F H y dy ∧ g dx dy = some r ∧ ∀ v H', NewR T F H H' v r → Q v H'
theorem RpL.rep {F : Hp} {vs : List V} {ds : List D} (h : RpL T F vs ds) : ∀ n : Nat, RpL T F (List.replicate n vs).flatten (List.replicate n ds).flatten
  | 0 => .nil
  | n + 1 => by
    rw [List.replicate_succ, List.replicate_succ, List.flatten_cons, List.flatten_cons]
    exact h.app (h.rep n)
theorem op_catF : OpR X (binaryOp .Add) (fun x y H Q => ∃ F a b xs ys ds es, Same F H ∧ x = .ref a ∧ y = .ref b ∧ SqL X.K H a xs ∧ SqL X.K H b ys ∧ RpL T F xs ds ∧ RpL T F ys es ∧ xs.length + ys.length ≤ sizeLine ∧ ∀ v H', NewR T F H H' v (.lst (ds ++ es)) → Q v H') := by
  intro pins s σ H x y v u Q I rx ry h
  obtain ⟨F, a, b, xs, ys, ds, es, sF, rfl, rfl, h1, h2, r1, r2, hz, q⟩ := h
  cases rx
  cases ry
  obtain ⟨its, v1, p1, _⟩ := I.list h1
  obtain ⟨its2, v2, p2, _⟩ := I.list h2
  have l1 := v1.length
  have l2 := v2.length
  obtain ⟨⟨cls, dd, data, sl⟩, ho, hc, n, hd⟩ := p1.isList
  obtain ⟨⟨cls2, dd2, data2, sl2⟩, ho2, hc2, n2, hd2⟩ := p2.isList
  simp only at hc hd hc2 hd2
  subst hc hd hc2 hd2
  have ea : its.toArray ++ its2.toArray = (its ++ its2).toArray := by simp
  refine concat_meets ⟨_, ho, rfl⟩ ⟨_, ho2, rfl⟩ noFill_list_add seq_list_add PySem.F.slot_list_add PySem.F.entry_list_add (PySem.F.args_list_add_2 _ _) (PyProof.Rows.list_addW a b its.toArray its2.toArray n n2 dd dd2 sl sl2 (by rw [List.size_toArray, List.size_toArray]; omega)) ⟨ho, ho2, ?_⟩
  rw [ea]
  exact ⟨.ref _, _, I.lnew (t' := s.toks) (v1.append v2) (by rw [List.length_append]; omega), rfl, q _ _ ⟨_, _, rfl, I.fresh, rfl, r1.app r2⟩⟩
theorem mulOk_c {i j : Int} (h : mulOk i j = true) : CMul i j := by
  unfold mulOk at h
  simp only [Bool.or_eq_true, Bool.and_eq_true, decide_eq_true_eq] at h
  rcases h with h | h
  · exact .inl ⟨by omega, by omega⟩
  · exact .inr ⟨by omega, by omega⟩
theorem op_binF (hK : X.K = T.K) (op : Operator) : OpR X (binaryOp op) (rB T (binD op)) := by
  intro pins s σ H x y v u Q I rx ry h
  obtain ⟨F, dx, dy, r, sF, hx, hy, e, q⟩ := h
  have qi : ∀ i : Int, r = .val (.int i) → Q (.int i) H := fun i e => q _ _ (by rw [e]; exact .inl ⟨rfl, .int i⟩)
  unfold binD at e
  split at e
  · cases e
    exact op_add pins s σ H x y v u Q I rx ry ⟨_, _, hx.int, hy.int, qi _ rfl⟩
  · rename_i a b
    split at e
    · cases e
      have hx' : Rp T F x (.tup a) := hx
      have hy' : Rp T F y (.tup b) := hy
      cases hx' with
      | @tup p1 xs _ t1 r1 =>
        cases hy' with
        | @tup p2 ys _ t2 r2 =>
          have t1' := same_sqT sF t1
          have t2' := same_sqT sF t2
          rw [← hK] at t1' t2'
          refine op_catA pins s σ H _ _ v u Q I rx ry ⟨p1, p2, xs, ys, rfl, rfl, t1', t2', by rw [r1.len, r2.len, ← line_eq]; assumption, fun z => ?_, fun z1 z2 => ?_, fun z1 z2 p np => ?_⟩
          · subst z
            have ea : a = [] := by have := r1.len; simpa using this.symm
            subst ea
            exact q _ _ (.inl ⟨rfl, .tup t2 r2⟩)
          · subst z2
            have eb : b = [] := by have := r2.len; simpa using this.symm
            subst eb
            exact q _ _ (.inl ⟨rfl, by rw [List.append_nil]; exact .tup t1 r1⟩)
          · exact q _ _ (.inr (.inl ⟨p, xs ++ ys, a ++ b, rfl, rfl, np, rfl, r1.app r2⟩))
    · cases e
  · rename_i a b
    split at e
    · cases e
      obtain ⟨p1, xs, rfl, t1, r1⟩ := hx
      obtain ⟨p2, ys, rfl, t2, r2⟩ := hy
      rw [← hK] at t1 t2
      exact op_catF pins s σ H _ _ v u Q I rx ry ⟨F, p1, p2, xs, ys, a, b, sF, rfl, rfl, t1, t2, r1, r2, by rw [r1.len, r2.len, ← line_eq]; assumption, q⟩
    · cases e
  · rename_i a b
    split at e
    · cases e
      exact op_add_str pins s σ H x y v u Q I rx ry ⟨_, _, hx.str, hy.str, by rw [← line_eq]; assumption, q _ _ (.inl ⟨rfl, .str _⟩)⟩
    · cases e
  · cases e
    exact op_sub pins s σ H x y v u Q I rx ry ⟨_, _, hx.int, hy.int, qi _ rfl⟩
  · split at e
    · rename_i c
      cases e
      exact op_mul pins s σ H x y v u Q I rx ry ⟨_, _, hx.int, hy.int, mulOk_c c, qi _ rfl⟩
    · cases e
  · rename_i a k
    split at e
    · rename_i c
      obtain ⟨c1, c2, c3, c4⟩ := c
      cases e
      have hx' : Rp T F x (.tup a) := hx
      cases hx' with
      | @tup p1 xs _ t1 r1 =>
        have t1' := same_sqT sF t1
        rw [← hK] at t1'
        refine op_repT pins s σ H _ _ v u Q I rx ry ⟨p1, k, xs, rfl, hy.int, t1', fun z => c1 ?_, c2, c3, by rw [r1.len]; exact c4, fun p np => q _ _ (.inr (.inl ⟨p, _, _, rfl, rfl, np, rfl, r1.rep _⟩))⟩
        subst z
        have := r1.len
        simpa using this.symm
    · cases e
  · split at e
    · rename_i c
      cases e
      exact op_fdiv pins s σ H x y v u Q I rx ry ⟨_, _, hx.int, hy.int, ⟨c.1, c.2⟩, qi _ rfl⟩
    · cases e
  · split at e
    · rename_i c
      cases e
      exact op_mod pins s σ H x y v u Q I rx ry ⟨_, _, hx.int, hy.int, c, qi _ rfl⟩
    · cases e
  · split at e
    · rename_i c
      cases e
      exact op_pow pins s σ H x y v u Q I rx ry ⟨_, _, hx.int, hy.int, ⟨c.1, c.2.1, by omega⟩, qi _ rfl⟩
    · cases e
  · cases e
end
end Fx
end
section
set_option linter.all false
set_option Elab.async false
set_option maxRecDepth 100000
set_option maxHeartbeats 4000000
/-! The rules of expressions. -/
namespace Fx
open PySem PySem.Spec L2
variable {T : Nm} {W : WX} {X : Cx}

/-! ### what the shape of a text says -/
def Ex.star : Expr → Bool
  | .Starred .. => true
  | _ => false
theorem star_cons {e : Expr} (es : List Expr) (env : PySem.Env) (h : Ex.star e = false) : starEach (e :: es) env = (false, eval e env) :: starEach es env := by
  cases e <;> first | rfl | cases h
theorem star_plain {pos : Pos} {env : PySem.Env} : ∀ (es : List Expr), es.all (fun e => !Ex.star e) = true → (backTo pos (starEach es env)).any (·.1) = false
  | [], _ => rfl
  | e :: es, h => by
    simp only [List.all_cons, Bool.and_eq_true, Bool.not_eq_true'] at h
    rw [star_cons es env h.1]
    show (false || (backTo pos (starEach es env)).any (·.1)) = false
    rw [star_plain es h.2]; rfl
/-- a text whose test is its value's truth -/
def Ex.tst : Expr → Bool
  | .Name .. => true
  | .Call .. => true
  | .Subscript .. => true
  | .Attribute .. => true
  | .BinOp .. => true
  | .Tuple .. => true
  | .List .. => true
  | .ListComp .. => true
  | .Constant .. => true
  | _ => false
theorem tst_plain {e : Expr} {env : PySem.Env} (h : Ex.tst e = true) : ∀ whole, PySem.isTrue e env whole = (do let v ← whole; standAt e.pos; holding [v] (truthy v)) := by
  intro w
  cases e <;> first | rfl | cases h
def Ex.compr : Expr → Bool
  | .ListComp .. => true
  | .SetComp .. => true
  | .DictComp .. => true
  | _ => false
theorem swaps_plain {e : Expr} {t : Option Expr} {l : Nat} {env : PySem.Env} (h : Ex.compr e = false) : swapsWith e t l env = pure false := by
  cases e <;> first | rfl | cases h
def Ex.isCall : Expr → Bool
  | .Call .. => true
  | _ => false
theorem att_plain {e : Expr} {f : Str} {env : PySem.Env} (h : Ex.isCall e = false) : attributeBase e f env (eval e env) = eval e env := by
  cases e <;> first | rfl | cases h
def Ex.isSet : Expr → Bool
  | .Set .. => true
  | _ => false
theorem fold_plain {e : Expr} {env : PySem.Env} (h : Ex.isSet e = false) (x : Value) : foldedSetIterable e env x = pure x := by
  cases e <;> first | rfl | cases h
def Ex.isSlice : Expr → Bool
  | .Slice .. => true
  | _ => false
theorem behind_plain {e : Expr} {op : CmpOp} (h : Ex.isSet e = false) : behindInMarks op e = false := by
  cases e <;> first | rfl | cases h

/-! ### arithmetic and comparisons -/
theorem tM_new {σ : St} {H : Hp} {Q : VK} {F : Hp} {M : Lv} {ρ : Env} {o : Option R} (cf : Cf T F H M ρ σ) (q : Out T W σ M (optR o ρ) fun r ρ' => ∀ v F' H', Cf T F' H' ((r, v) :: M) ρ' σ → Q v H') :
    ∃ r, o = some r ∧ ∀ v H', NewR T F H H' v r → Q v H' := by
  obtain ⟨r, e, k⟩ := q.opt
  exact ⟨r, e, fun v H' n => let ⟨F', cf'⟩ := cf.new n; k v F' H' cf'⟩
theorem pe_binF {a b : Expr} {op : Operator} {pos : Pos} {ea eb : Env → Res Ar} (hK : X.K = T.K) (ha : PE X a (tAr T W ea)) (hb : PE X b (tAr T W eb)) :
    PE X (.BinOp a op b pos) (tM T W (two T.flds (fun x y ρ => optR (binD op x y) ρ) ea eb)) := by
  refine (pe_op (op_binF hK op) ha hb).imp fun σ H Q h => ?_
  refine tAr_two (K := fun M r ρ' => ∀ v F' H', Cf T F' H' ((r, v) :: M) ρ' σ → Q v H') h fun F M ρ H x y dx dy cf rx ry q => ?_
  obtain ⟨r, e, k⟩ := tM_new cf q
  exact ⟨F, dx, dy, r, cf.sub, rx, ry, e, k⟩
theorem cmpP_out {α : Type} {op : CmpOp} {dx dy : D} {σ : St} {M : Lv} {ρ : Env} {k : R → Env → Res α} {K : α → Env → Prop} (q : Out T W σ M ((cmpP op dx dy ρ).bind k) K) : ∃ b, cmpD op dx dy = some b ∧ Out T W σ M (k (.val (.bl b)) ρ) K := by
  unfold cmpP at q
  cases e : cmpD op dx dy with
  | none => rw [e] at q; exact q.elim
  | some b => rw [e] at q; exact ⟨b, rfl, q⟩
theorem pe_cmpF {a b : Expr} {op : CmpOp} {pos : Pos} {ea eb : Env → Res Ar} (hK : X.K = T.K) (hu : X.A.units + 64 < cLine) (ha : PE X a (tAr T W ea)) (hb : PE X b (tAr T W eb)) (hm : behindInMarks op b = false) :
    PE X (.Compare a [op] [b] pos) (tM T W (two T.flds (cmpP op) ea eb)) := by
  refine (pe_cmpR (op_cmpF hK hu op) ha hb hm).imp fun σ H Q h => ?_
  refine tAr_two (K := fun M r ρ' => ∀ v F' H', Cf T F' H' ((r, v) :: M) ρ' σ → Q v H') h fun F M ρ H x y dx dy cf rx ry q => ?_
  have q' : Out T W σ M ((cmpP op dx dy ρ).bind fun r ρ => .ok r ρ) fun r ρ' => ∀ v F' H', Cf T F' H' ((r, v) :: M) ρ' σ → Q v H' := by
    cases z : cmpP op dx dy ρ <;> (rw [z] at q; exact q)
  obtain ⟨c, e, k⟩ := cmpP_out q'
  exact ⟨F, dx, dy, c, cf.sub, rx, ry, e, k _ F H (cf.val (.bl c))⟩
theorem pt_cmpF {a b : Expr} {op : CmpOp} {pos : Pos} {ea eb : Env → Res Ar} (hK : X.K = T.K) (hu : X.A.units + 64 < cLine) (ha : PE X a (tAr T W ea)) (hb : PE X b (tAr T W eb)) (hm : behindInMarks op b = false) :
    PT X (.Compare a [op] [b] pos) (tT T W (two T.flds (fun x y ρ => optR (cmpD op x y) ρ) ea eb)) := by
  refine (pt_cmpR (op_cmpF hK hu op) ha hb hm).imp fun σ H Q h => ?_
  refine tAr_two (K := fun M b ρ' => ∀ F' H', Cf T F' H' M ρ' σ → Q b H') h fun F M ρ H x y dx dy cf rx ry q => ?_
  obtain ⟨c, e, k⟩ := q.opt
  exact ⟨F, dx, dy, c, cf.sub, rx, ry, e, c, rfl, k F H cf⟩

/-! ### truth -/
theorem line_len {xs : List V} {p : Addr} {pins : List (Addr × Obj)} {s : Shared} {σ : St} {H : Hp} (I : Inv X pins σ H s) (h : Rd H p (.lst xs)) : xs.length ≤ sizeLine := (h.ok I.hok).1
theorem Rt.tru {F H : Hp} {v : V} {d : D} {k : Bool} (hK : X.K = T.K) (s : Same F H) (h : Rt T F H v d) (e : truD d = some k) : TruV X.K v H k := by
  cases d with
  | non => cases h.non; exact (Option.some.inj e).symm
  | bl b => cases h.bl; exact (Option.some.inj e).symm
  | int i => cases h.int; exact (Option.some.inj e).symm
  | str x =>
    cases h.str
    simp only [truD] at e
    split at e
    · rename_i c
      refine ⟨by rw [← line_eq]; exact c, ?_⟩
      rw [← Option.some.inj e]
      by_cases z : x.length = 0
      · simp [z]
      · simp [z]
    · cases e
  | tup ds =>
    have h' : Rp T F v (.tup ds) := h
    cases h' with
    | @tup a xs _ t r =>
      refine .inr (.inl ⟨xs, by rw [hK]; exact same_sqT s t, ?_⟩)
      rw [← Option.some.inj e]
      have := r.len
      cases xs <;> cases ds <;> simp_all
  | lst ds =>
    obtain ⟨a, xs, rfl, t, r⟩ := h
    refine .inl ⟨xs, (by rw [hK]; exact t), ?_⟩
    rw [← Option.some.inj e]
    have := r.len
    cases xs <;> cases ds <;> simp_all
  | rng _ _ => cases e
  | ins _ _ => cases e
  | dct _ _ => cases e
theorem pt_truF {e : Expr} {m : Env → Res Ar} (hK : X.K = T.K) (h : PE X e (tAr T W m)) (he : Ex.tst e = true) : PT X e (tT T W (one_ T.flds (fun d ρ => optR (truD d) ρ) m)) := by
  refine (pt_truth h (tst_plain he)).imp fun σ H Q q => ?_
  refine tAr_one (K := fun M b ρ' => ∀ F' H', Cf T F' H' M ρ' σ → Q b H') q fun F M ρ H x dx cf rx q => ?_
  obtain ⟨k, e, q⟩ := q.opt
  exact ⟨k, rx.tru hK cf.sub e, q F H cf⟩
/-- not, as a value -/
theorem pe_notF {a : Expr} {pos : Pos} {m : Env → Res Ar} (hK : X.K = T.K) (h : PE X a (tAr T W m)) : PE X (.UnaryOp .Not a pos) (tM T W (one_ T.flds (fun d ρ => (optR (truD d) ρ).bind fun b ρ => .ok (.val (.bl (!b))) ρ) m)) := by
  refine (pe_notT h).imp fun σ H Q q => ?_
  refine tAr_one (K := fun M r ρ' => ∀ v F' H', Cf T F' H' ((r, v) :: M) ρ' σ → Q v H') q fun F M ρ H x dx cf rx q => ?_
  obtain ⟨k, e, q⟩ := (Out.bind q).opt
  exact ⟨k, rx.tru hK cf.sub e, q _ F H (cf.val (.bl _))⟩
theorem pt_notF {a : Expr} {pos : Pos} {m : Env → Res Bool} (h : PT X a (tT T W m)) : PT X (.UnaryOp .Not a pos) (tT T W fun ρ => (m ρ).bind fun b ρ => .ok (!b) ρ) := by
  refine (pt_not h).imp fun σ H Q q => ?_
  obtain ⟨F, M, ρ, cf, q⟩ := q
  exact ⟨F, M, ρ, cf, (Out.bind q).imp fun b ρ' k => k⟩
/-- and, or: the rest behind a first operand -/
theorem pe_bopF {isAnd : Bool} {a b : Expr} {rest : List Expr} {pos : Pos} {m : Env → Res D} {r : Env → Res R} (hK : X.K = T.K) (ha : PE X a (tD T W m)) (hb : PE X (.BoolOp (if isAnd = true then .And else .Or) (b :: rest) pos) (tM T W r)) :
    PE X (.BoolOp (if isAnd = true then .And else .Or) (a :: b :: rest) pos) (tM T W fun ρ => (m ρ).bind fun d ρ => restB isAnd d r ρ) := by
  have key : ∀ (σ : St) (H : Hp) (Q : VK), tM T W (fun ρ => (m ρ).bind fun d ρ => restB isAnd d r ρ) σ H Q → tD T W m σ H fun x H1 => ∃ k, TruV X.K x H1 k ∧ if k = isAnd then tM T W r σ H1 Q else Q x H1 := by
    intro σ H Q q
    obtain ⟨F, M, ρ, cf, q⟩ := q
    refine ⟨F, M, ρ, cf, (Out.bind q).imp fun d ρ1 q1 v1 F1 H1 cf1 => ?_⟩
    unfold restB at q1
    cases e : truD d with
    | none => rw [e] at q1; exact q1.elim
    | some k =>
      rw [e] at q1
      refine ⟨k, cf1.rp.rt cf1.sub |>.tru hK cf1.sub e, ?_⟩
      have q1 : Out T W σ M (if k = isAnd then r ρ1 else .ok (.val d) ρ1) _ := q1
      split
      · rename_i z; rw [if_pos z] at q1; exact ⟨F1, M, ρ1, cf1.tail, q1⟩
      · rename_i z; rw [if_neg z] at q1; exact q1 v1 F1 H1 cf1
  cases isAnd with
  | true =>
    refine (pe_andT ha hb).imp fun σ H Q q => ?_
    obtain ⟨F, M, ρ, cf, q⟩ := key σ H Q q
    exact ⟨F, M, ρ, cf, q.imp fun d ρ' k v F' H' cf' => let ⟨b, t, z⟩ := k v F' H' cf'; ⟨b, t, z⟩⟩
  | false =>
    refine (pe_orT ha hb).imp fun σ H Q q => ?_
    obtain ⟨F, M, ρ, cf, q⟩ := key σ H Q q
    refine ⟨F, M, ρ, cf, q.imp fun d ρ' k v F' H' cf' => ?_⟩
    obtain ⟨b, t, z⟩ := k v F' H' cf'
    refine ⟨b, t, ?_⟩
    cases b with
    | true => exact z
    | false => exact z
theorem pw_bopF {isAnd : Bool} {a b : Expr} {rest : List Expr} {pos : Pos} {m r : Env → Res Bool} (ha : PT X a (tT T W m)) (hb : PW X (.BoolOp (if isAnd = true then .And else .Or) (b :: rest) pos) (tT T W r)) :
    PW X (.BoolOp (if isAnd = true then .And else .Or) (a :: b :: rest) pos) (tT T W fun ρ => (m ρ).bind fun k ρ => if k = isAnd then r ρ else .ok k ρ) := by
  have key : ∀ (σ : St) (H : Hp) (Q : Bool → Hp → Prop), tT T W (fun ρ => (m ρ).bind fun k ρ => if k = isAnd then r ρ else .ok k ρ) σ H Q → tT T W m σ H fun k H1 => if k = isAnd then tT T W r σ H1 Q else Q k H1 := by
    intro σ H Q q
    obtain ⟨F, M, ρ, cf, q⟩ := q
    refine ⟨F, M, ρ, cf, (Out.bind q).imp fun k ρ1 q1 F1 H1 cf1 => ?_⟩
    show if k = isAnd then tT T W r σ H1 Q else Q k H1
    split
    · rename_i z; rw [if_pos z] at q1; exact ⟨F1, M, ρ1, cf1, q1⟩
    · rename_i z; rw [if_neg z] at q1; exact q1 F1 H1 cf1
  cases isAnd with
  | true =>
    refine (pw_and ha hb).imp fun σ H Q q => ?_
    obtain ⟨F, M, ρ, cf, q⟩ := key σ H Q q
    refine ⟨F, M, ρ, cf, q.imp fun k ρ' z F' H' cf' => ?_⟩
    have z := z F' H' cf'
    cases k with
    | true => exact z
    | false => exact z
  | false =>
    refine (pw_or ha hb).imp fun σ H Q q => ?_
    obtain ⟨F, M, ρ, cf, q⟩ := key σ H Q q
    refine ⟨F, M, ρ, cf, q.imp fun k ρ' z F' H' cf' => ?_⟩
    have z := z F' H' cf'
    cases k with
    | true => exact z
    | false => exact z
/-- a if t else b -/
theorem pe_ifF {c a b : Expr} {pos : Pos} {m : Env → Res Bool} {ea eb : Env → Res R} (hc : PT X c (tT T W m)) (ha : PE X a (tM T W ea)) (hb : PE X b (tM T W eb)) : PE X (.IfExp c a b pos) (tM T W fun ρ => (m ρ).bind fun k ρ => if k = true then ea ρ else eb ρ) := by
  refine (pe_ifExp hc ha hb).imp fun σ H Q q => ?_
  obtain ⟨F, M, ρ, cf, q⟩ := q
  refine ⟨F, M, ρ, cf, (Out.bind q).imp fun k ρ1 q1 F1 H1 cf1 => ?_⟩
  cases k with
  | true => exact ⟨F1, M, ρ1, cf1, q1⟩
  | false => exact ⟨F1, M, ρ1, cf1, q1⟩

/-! ### subscripts -/
def rI (T : Nm) (g : D → D → Option D) : R2 := fun x y H Q => ∃ F dx dy d, Same F H ∧ Rt T F H x dx ∧ Rt T F H y dy ∧ g dx dy = some d ∧ ∀ v, Rp T F v d → Q v H
theorem atI_map {α β : Type} {xs : List α} {ys : List β} {i : Int} {y : β} (l : xs.length = ys.length) (h : atI ys i = some y) : ∃ j, ixN ys.length i = some j ∧ ys[j]? = some y ∧ atI xs i = xs[j]? := by
  unfold atI at h
  cases e : ixN ys.length i with
  | none => rw [e] at h; cases h
  | some j =>
    rw [e] at h
    exact ⟨j, rfl, h, by unfold atI; rw [l, e]; rfl⟩
theorem ix_F (hK : X.K = T.K) (hu : X.A.units + 64 < cLine) : IxR X (rI T idxD) := by
  intro value slice pins s σ H x y v u Q I rx ry h hs
  obtain ⟨F, dx, dy, d, sF, hx, hy, e, q⟩ := h
  unfold idxD at e
  split at e
  · have hx' : Rp T F x (.tup _) := hx
    cases hx' with
    | @tup a xs ds t r =>
      obtain ⟨j, e1, e2, e3⟩ := atI_map (xs := xs) r.len e
      obtain ⟨w, e4, rw'⟩ := r.get e2
      exact ix_tup value slice pins s σ H _ _ v u Q I rx ry ⟨a, xs, _, w, rfl, hy.int, by rw [hK]; exact same_sqT sF t, by rw [e3, e4], q w rw'⟩ hs
  · obtain ⟨a, xs, rfl, t, r⟩ := hx
    obtain ⟨j, e1, e2, e3⟩ := atI_map (xs := xs) r.len e
    obtain ⟨w, e4, rw'⟩ := r.get e2
    exact ix_list value slice pins s σ H _ _ v u Q I rx ry ⟨a, xs, _, w, rfl, hy.int, (by rw [hK]; exact t), by rw [e3, e4], q w rw'⟩ hs
  · split at e
    · rename_i c
      obtain ⟨a, o, rfl, r1, r2⟩ := hx
      cases rx
      exact PyProof.Rows.tail_any (dr_type I r1 r2) PySem.F.slot_dict_getitem.lookup (dF_get (by omega) I hK sF r1 r2 hy ry c e fun w z s' I' rz rw' => ⟨w, H, I', rz, q w rw'⟩) hs
    · cases e
  · cases e
def ixP (b : Expr) : Bool := match b with
  | .Slice .. => false
  | _ => true
theorem plainIx {b : Expr} (h : ixP b = true) : PlainIx b := by
  intro o i
  cases b <;> first | rfl | cases h

/-- an operand in hand, then plain data -/
theorem tAr_D {α : Type} {σ : St} {ea : Env → Res Ar} {eb : Env → Res D} {f : D → D → Env → Res α} {H : Hp} {K : Lv → α → Env → Prop} {R : V → V → Hp → Prop}
    (h : ∃ F M ρ, Cf T F H M ρ σ ∧ Out T W σ M ((ea ρ).bind fun x ρ => (eb ρ).bind fun y ρ => match x.d T.flds ρ with
      | some x => f x y ρ
      | none => .stuck) (K M))
    (k : ∀ F M ρ H x y dx dy, Cf T F H M ρ σ → Rt T F H x dx → Rt T F H y dy → Out T W σ M (f dx dy ρ) (K M) → R x y H) :
    tAr T W ea σ H fun x H1 => tD T W eb σ H1 fun y H2 => R x y H2 := by
  obtain ⟨F, M, ρ, cf, q⟩ := h
  refine ⟨F, M, ρ, cf, (Out.bind q).imp fun a ρ1 q1 v1 F1 H1 i1 cf1 => ?_⟩
  refine ⟨F1, a.tmp v1 ++ M, ρ1, cf1, (Out.wkL (Out.bind q1)).imp fun dy ρ2 q2 v2 F2 H2 cf2 => ?_⟩
  cases e1 : a.d T.flds ρ2 with
  | none => rw [e1] at q2; exact q2.elim
  | some dx =>
    rw [e1] at q2
    have r1 : Rt T F2 H2 v1 dx := Cf.arD (P := []) (cf2.tail) i1 e1
    exact k F2 M ρ2 H2 v1 v2 dx dy cf2.tail.dropL r1 (cf2.rp.rt cf2.sub) q2
theorem pe_ixF {a b : Expr} {pos : Pos} {ea : Env → Res Ar} {eb : Env → Res D} (hK : X.K = T.K) (hu : X.A.units + 64 < cLine) (ha : PE X a (tAr T W ea)) (hb : PE X b (tD T W eb)) (hs : ixP b = true) :
    PE X (.Subscript a b pos) (tM T W fun ρ => (ea ρ).bind fun x ρ => (eb ρ).bind fun y ρ => match x.d T.flds ρ with
      | some x => optR ((idxD x y).map .val) ρ
      | none => .stuck) := by
  refine (pe_ix (ix_F hK hu) ha hb (plainIx hs)).imp fun σ H Q h => ?_
  refine tAr_D (f := fun x y ρ => optR ((idxD x y).map R.val) ρ) (K := fun M r ρ' => ∀ v F' H', Cf T F' H' ((r, v) :: M) ρ' σ → Q v H') h fun F M ρ H x y dx dy cf rx ry q => ?_
  obtain ⟨r, e, k⟩ := q.opt
  obtain ⟨d, e2, e3⟩ := Option.map_eq_some_iff.mp e
  subst e3
  exact ⟨F, dx, dy, d, cf.sub, rx, ry, e2, fun v r => k v F H (cf.val r)⟩

/-! ### slices -/
def tO (T : Nm) (W : WX) (m : Env → Res (Option Int)) : TO := fun σ H Q => ∃ F M ρ, Cf T F H M ρ σ ∧ Out T W σ M (m ρ) fun o ρ' => ∀ F' H', Cf T F' H' M ρ' σ → Q o H'
theorem po_noneF : PO X none (tO T W fun ρ => .ok none ρ) := by
  refine ⟨fun pins s σ H Q I h => po_none.run pins s σ H Q I ?_⟩
  obtain ⟨F, M, ρ, cf, q⟩ := h
  exact q F H cf
theorem po_someF {e : Expr} {m : Env → Res D} (h : PE X e (tD T W m)) : PO X (some e) (tO T W fun ρ => (m ρ).bind fun d ρ => match d with
    | .int i => .ok (some i) ρ
    | _ => .stuck) := by
  refine ⟨fun pins s σ H Q I q => (po_some h).run pins s σ H Q I ?_⟩
  obtain ⟨F, M, ρ, cf, q⟩ := q
  refine ⟨F, M, ρ, cf, (Out.bind q).imp fun d ρ' k v F' H' cf' => ?_⟩
  cases d with
  | int i =>
    have r := cf'.rp
    cases r
    exact ⟨i, rfl, k F' H' cf'.tail⟩
  | _ => exact k.elim
def rSl (T : Nm) : V → Option Int → Option Int → Hp → VK → Prop := fun x lo hi H Q => ∃ F dx r, Same F H ∧ Rt T F H x dx ∧ slcD dx lo hi = some r ∧ ∀ v H', NewR T F H H' v r → Q v H'
theorem cut_len {xs : List V} {ds : List D} {F : Hp} (r : RpL T F xs ds) (lo hi : Option Int) : RpL T F (cutV xs lo hi) (cutD ds lo hi) := by
  unfold cutV cutD
  rw [r.len]
  exact (r.drop _).take _
theorem cut_whole {ds : List D} {lo hi : Option Int} (h : HT.sIx ds.length 0 lo = 0 ∧ HT.sIx ds.length ds.length hi = ds.length) : cutD ds lo hi = ds := by
  unfold cutD
  rw [h.1, h.2]
  simp
theorem sl_F (hK : X.K = T.K) : SlR X (rSl T) := by
  intro pins s σ H x v vl vu lo hi sl Q I rx hs pl pu h
  obtain ⟨F, dx, r, sF, hx, e, q⟩ := h
  cases dx with
  | tup ds =>
    have hx' : Rp T F x (.tup ds) := hx
    cases hx' with
    | @tup a xs _ t rr =>
      simp only [slcD, Option.some.injEq] at e
      subst e
      refine sl_tupA pins s σ H _ v vl vu lo hi sl Q I rx hs pl pu ⟨a, xs, rfl, by rw [hK]; exact same_sqT sF t, fun w => q _ _ (.inl ⟨rfl, ?_⟩), fun w p np => q _ _ (.inr (.inl ⟨p, _, _, rfl, rfl, np, rfl, cut_len rr lo hi⟩))⟩
      rw [rr.len] at w
      rw [cut_whole w]
      exact .tup t rr
  | lst ds =>
    obtain ⟨a, xs, rfl, t, rr⟩ := hx
    simp only [slcD, Option.some.injEq] at e
    subst e
    exact sl_list pins s σ H _ v vl vu lo hi sl Q I rx hs pl pu ⟨a, xs, rfl, (by rw [hK]; exact t), fun p np => q _ _ ⟨p, _, rfl, np, rfl, cut_len rr lo hi⟩⟩
  | _ => cases e
theorem pe_slcF {a : Expr} {lo hi : Option Expr} {p2 pos : Pos} {ea : Env → Res Ar} {el eh : Env → Res (Option Int)} (hK : X.K = T.K) (ha : PE X a (tAr T W ea)) (hl : PO X lo (tO T W el)) (hh : PO X hi (tO T W eh)) :
    PE X (.Subscript a (.Slice lo hi none p2) pos) (tM T W fun ρ => (ea ρ).bind fun x ρ => (el ρ).bind fun l ρ => (eh ρ).bind fun h ρ => match x.d T.flds ρ with
      | some x => optR (slcD x l h) ρ
      | none => .stuck) := by
  refine (pe_slice (sl_F hK) ha hl hh).imp fun σ H Q h => ?_
  obtain ⟨F, M, ρ, cf, q⟩ := h
  refine ⟨F, M, ρ, cf, (Out.bind q).imp fun a ρ1 q1 v1 F1 H1 i1 cf1 => ?_⟩
  refine ⟨F1, a.tmp v1 ++ M, ρ1, cf1, (Out.wkL (Out.bind q1)).imp fun l ρ2 q2 F2 H2 cf2 => ?_⟩
  refine ⟨F2, a.tmp v1 ++ M, ρ2, cf2, (Out.wkL (Out.bind q2)).imp fun h ρ3 q3 F3 H3 cf3 => ?_⟩
  cases e1 : a.d T.flds ρ3 with
  | none => rw [e1] at q3; exact q3.elim
  | some dx =>
    rw [e1] at q3
    obtain ⟨r, e, k⟩ := tM_new cf3.dropL q3
    exact ⟨F3, dx, r, cf3.sub, Cf.arD (P := []) cf3 i1 e1, e, k⟩

/-! ### displays -/
theorem pa_nilF : PA X [] (tDs T W fun ρ => .ok [] ρ) := by
  refine pa_nil.imp fun σ H Q h => ?_
  obtain ⟨F, M, ρ, cf, q⟩ := h
  exact q [] F H .nil cf
theorem pa_consF {e : Expr} {es : List Expr} {m : Env → Res D} {ms : Env → Res (List D)} (he : PE X e (tD T W m)) (hs : PA X es (tDs T W ms)) (st : Ex.star e = false) :
    PA X (e :: es) (tDs T W fun ρ => (m ρ).bind fun d ρ => (ms ρ).bind fun ds ρ => .ok (d :: ds) ρ) := by
  refine (pa_cons he hs (star_cons es _ st)).imp fun σ H Q h => ?_
  obtain ⟨F, M, ρ, cf, q⟩ := h
  refine ⟨F, M, ρ, cf, (Out.bind q).imp fun d ρ1 q1 v1 F1 H1 cf1 => ?_⟩
  refine ⟨F1, (.val d, v1) :: M, ρ1, cf1, (Out.wk (Out.bind q1)).imp fun ds ρ2 q2 vs F2 H2 r2 cf2 => ?_⟩
  exact q2 (v1 :: vs) F2 H2 (.cons cf2.rp r2) cf2.tail
theorem pe_tupF {es : List Expr} {k : Nat} {pos : Pos} {ms : Env → Res (List D)} (h : PA X es (tDs T W ms)) : PE X (.Tuple es k pos) (tM T W fun ρ => (ms ρ).bind fun ds ρ => if ds.length ≤ LINE then .ok (.val (.tup ds)) ρ else .stuck) := by
  refine (pe_tup h).imp fun σ H Q h => ?_
  obtain ⟨F, M, ρ, cf, q⟩ := h
  refine ⟨F, M, ρ, cf, (Out.bind q).imp fun ds ρ1 q1 vs F1 H1 r1 cf1 => ?_⟩
  split at q1
  · rename_i c
    refine ⟨by rw [r1.len, ← line_eq]; exact c, fun p np => ?_⟩
    obtain ⟨F2, cf2⟩ := cf1.new (r := .val (.tup ds)) (.inr (.inl ⟨p, vs, ds, rfl, rfl, np, rfl, r1⟩))
    exact q1 _ F2 _ cf2
  · exact q1.elim
theorem pe_lstF {es : List Expr} {pos : Pos} {ms : Env → Res (List D)} (h : PA X es (tDs T W ms)) : PE X (.List es pos) (tM T W fun ρ => (ms ρ).bind fun ds ρ => if ds.length ≤ LINE then .ok (.lst ds) ρ else .stuck) := by
  refine (pe_lst h).imp fun σ H Q h => ?_
  obtain ⟨F, M, ρ, cf, q⟩ := h
  refine ⟨F, M, ρ, cf, (Out.bind q).imp fun ds ρ1 q1 vs F1 H1 r1 cf1 => ?_⟩
  split at q1
  · rename_i c
    exact ⟨by rw [r1.len, ← line_eq]; exact c, fun p np => q1 _ F1 _ (cf1.own np r1)⟩
  · exact q1.elim
end Fx
end
section
set_option linter.all false
set_option Elab.async false
set_option maxRecDepth 100000
set_option maxHeartbeats 4000000
/-! sorted, max, min; len and list of dicts: against the model. -/
namespace Fx
open PySem PySem.Spec L2
/-! ### sorting tuples of which the first is () -/
section
open PySem.W PySem.Calls PyProof.Rows
variable {prog : Program} {w : World} {A : Around} {E : Value → Shared → Prop} {s : Shared}
theorem fx_tup_lt {xs ys : List PyData} {a b : Value} {as bs : List Addr} {Q : Bool → Shared → Prop} (ra : Reads s.heap a (.tuple xs) as) (rb : Reads s.heap b (.tuple ys) bs) (h : alikeAll xs ys = true)
    (hu : A.units + min (PyData.tuple xs).depth (PyData.tuple ys).depth < cLine) (hq : Q (dataLt (.tuple xs) (.tuple ys)) s) : wpAny (model prog w) A (oneLt' true a b) Q E s := by
  cases ra with
  | @tuple l o vs n _ as₁ h1 h2 h3 h4 =>
    cases rb with
    | @tuple l' o' vs' n' _ bs₁ k1 k2 k3 k4 =>
      have z1 : vs.size = xs.length := by have := SeqAt.ReadsAll.length _ _ _ h4; simpa using this
      have z2 : vs'.size = ys.length := by have := SeqAt.ReadsAll.length _ _ _ k4; simpa using this
      rw [dataLt_tuple, ← firstLt_toks xs ys h, ← z1, ← z2] at hq
      rw [oneLt'_eq]
      obtain ⟨cls, dd, data, sl⟩ := o
      obtain ⟨cls2, dd2, data2, sl2⟩ := o'
      simp only at h2 h3 k2 k3
      subst h2 h3 k2 k3
      simp only [if_true]
      refine wpAny_bind (wpAny_cRoomFor (SeqAt.room_here hu) ?_)
      refine wpAny_bind (wpAny_callSpecialIfBound?_slot (T := "tuple") ⟨_, h1, rfl⟩ F.slot_tuple_lt ?_)
      refine call_meets F.slot_tuple_lt ⟨_, h1, rfl⟩ F.entry_tuple_lt (F.args_tuple_lt_2 _ _) (SeqAt.tuple_ltAt l l' vs vs' n n' dd dd2 sl sl2 (SeqAt.pairEq xs ys) fun j => dataLt (xs.getD j .none) (ys.getD j .none)) ⟨h1, k1, fun j j1 j2 => ?_, fun j j1 j2 hj => ?_, wpAny_truthy_bool hq⟩
      · have q := eqAt_alikeAll xs ys A.in1 s vs.toList vs'.toList _ _ h4 k4 h (SeqAt.room_in hu) j (by simpa using j1) (by simpa using j2)
        simpa using q
      · have q := rcLt_alikeAll xs ys A.in1 s vs.toList vs'.toList _ _ h4 k4 h (SeqAt.room_in hu) j (by simpa using j1) (by simpa using j2) hj
        simpa using q
theorem fx_firsts : ∀ (vs : List Value) (ds : List PyData) {Q : List (Option Value) → Shared → Prop}, EachIs (fun v d => ∃ as, Reads s.heap v d as) vs ds → (∀ d ∈ ds, ∃ xs, d = .tuple xs) →
    (∀ os : List (Option Value), EachIs (fun o d => d = PyData.tuple [] → o = none) os ds → Q os s) → wpAny (model prog w) A (vs.mapM firstOfTuple') Q E s
  | _, _, Q, .nil, _, h => by rw [List.mapM_nil]; exact wpAny_pure (h [] .nil)
  | v :: vs, d :: ds, Q, .cons hv t, hd, h => by
    obtain ⟨xs, rfl⟩ := hd d (by simp)
    obtain ⟨as, hr⟩ := hv
    rw [List.mapM_cons]
    refine wpAny_bind ?_
    rw [kas_first_eq]
    cases hr with
    | @tuple a o ys n _ _ ho hc hdt hrs =>
      refine wpAny_bind (Looks.here (show Looks (model prog w) s.heap (typeOf (.ref a)) o.cls from (Looks.ld ho).andThen .now) ?_)
      rw [hc, if_neg (by first | decide | simp)]
      refine wpAny_bind (listItems_at ho hdt (wpAny_pure ?_))
      refine wpAny_bind (fx_firsts vs ds (Q := fun bs s' => wpAny (model prog w) A (pure (ys[0]? :: bs)) Q E s') t (fun d hd' => hd d (by simp [hd'])) fun os ho' => wpAny_pure (h _ (.cons (fun e => ?_) ho')))
      cases e
      have z : ys.toList = [] := by
        cases q : ys.toList with
        | nil => rfl
        | cons x l => rw [q] at hrs; cases hrs
      have : ys.size = 0 := by rw [← Array.length_toList, z]; rfl
      simp [this]
theorem fx_kind {v : Value} {vs : List Value} {ds : List PyData} {Q : SortKind → Shared → Prop} (e : EachIs (fun v d => ∃ as, Reads s.heap v d as) (v :: vs) (.tuple [] :: ds)) (ht : ∀ d ∈ ds, ∃ xs, d = .tuple xs) (hq : Q oneType' s) :
    wpAny (model prog w) A (keyKind' (v :: vs).toArray) Q E s := by
  have all : ∀ d ∈ (PyData.tuple [] :: ds), ∃ xs, d = PyData.tuple xs := fun d hd => by
    rcases List.mem_cons.mp hd with rfl | hd
    · exact ⟨_, rfl⟩
    · exact ht d hd
  rw [keyKind'_eq, List.mapM_toArray, map_eq_pure_bind]
  refine wpAny_bind (wpAny_bind (fx_firsts _ _ e all fun os ho => wpAny_pure ?_))
  cases ho with
  | @cons o _ os _ h1 h2 =>
    obtain rfl := h1 rfl
    rw [if_neg (by simp), if_neg (by simp)]
    rw [oneTypeOnly'_eq, List.mapM_toArray, map_eq_pure_bind]
    refine wpAny_bind (wpAny_bind (wpAny_bind (kas_mapM (r := Value.type "tuple") _ (fun u hu Q' hq' => ?_) (wpAny_pure ?_))))
    · obtain ⟨d, hd, as, r⟩ := e.left u hu
      obtain ⟨xs, rfl⟩ := all d hd
      exact (looks_reads r).here hq'
    · have hall : ((List.map (fun _ => Value.type "tuple") (v :: vs)).toArray.all fun x => x == Value.type "tuple") = true := by
        simp only [List.all_toArray, List.all_map, List.all_eq_true]
        intro _ _
        rfl
      have h0 : (List.map (fun _ => Value.type "tuple") (v :: vs)).toArray[0]? = some (Value.type "tuple") := by simp
      rw [h0]
      simp only [hall, if_true]
      exact wpAny_pure (wpAny_pure hq)
theorem fx_sorts {vs : List Value} {ds : List PyData} (e : EachIs (fun v d => ∃ as, Reads s.heap v d as) vs ds) (hal : AllAlike ds) (hk : Sortable ds ∨ ds.head? = some (.tuple [])) (hu : ∀ d, d ∈ ds → A.units + d.depth < cLine) : SortsAt prog w A s (dataKind s.heap ds) vs := by
  rcases hk with hk | hk
  · exact .data e hal hk hu
  · cases ds with
    | nil => simp at hk
    | cons d ds =>
      obtain rfl : d = .tuple [] := by simpa using hk
      cases vs with
      | nil => cases e
      | cons v vs =>
        have ht : ∀ d ∈ (PyData.tuple [] :: ds), ∃ xs, d = PyData.tuple xs := fun d hd => by
          have q := hal d hd _ (List.mem_cons_self ..)
          cases d with
          | tuple xs => exact ⟨xs, rfl⟩
          | _ => simp [alike] at q
        refine ⟨fun u hu' => ?_, oneType', ?_, fun h2 E Q hq => fx_kind e (fun d hd => ht d (by simp [hd])) hq⟩
        · obtain ⟨d, hd, as, r⟩ := e.left u hu'
          exact ⟨_, dataKind_some hal hd r⟩
        · intro E x y a b Q ha hb hq
          obtain ⟨d, as, hd, ra, rfl⟩ := dataKind_inv ha
          obtain ⟨d', as', hd', rb, rfl⟩ := dataKind_inv hb
          have al := hal d hd d' hd'
          obtain ⟨xs, rfl⟩ := ht d hd
          obtain ⟨ys, rfl⟩ := ht d' hd'
          rw [keyLt'_oneType]
          exact fx_tup_lt ra rb (by simpa [alike] using al) (Nat.lt_of_le_of_lt (Nat.add_le_add_left (Nat.min_le_left _ _) _) (hu _ hd)) hq
end
/-! ### sorted of data -/
variable {T : Nm} {X : Cx}
def RV (T : Nm) (F : Hp) (u : Value) (d : D) : Prop := ∃ x : V, RelV x u ∧ Rp T F x d
theorem RpL.each {F : Hp} : ∀ {ds : List D} {vs : List V} {us : List Value}, RpL T F vs ds → Vals vs us → PySem.W.EachIs (RV T F) us ds
  | [], _, _, h, r => by cases h; cases r; exact .nil
  | d :: ds, _, _, h, r => by
    cases h with | cons h1 h2 => cases r with | cons r1 r2 => exact .cons ⟨_, r1, h1⟩ (h2.each r2)
theorem each_rpl {F : Hp} : ∀ {ds : List D} {us : List Value}, PySem.W.EachIs (RV T F) us ds → ∃ vs, Vals vs us ∧ RpL T F vs ds
  | _, _, .nil => ⟨[], .nil, .nil⟩
  | _, _, .cons ⟨x, r, h⟩ t => by
    obtain ⟨vs, r2, h2⟩ := each_rpl t
    exact ⟨x :: vs, .cons r r2, .cons h h2⟩
theorem sortOk_and {ds : List D} (h : sortOk ds = true) : D.plains ds = true ∧ D.depths ds ≤ 40 ∧ ds.length ≤ LINE ∧ PySem.W.AllAlike (ds.map D.py) ∧ (PySem.W.Sortable (ds.map D.py) ∨ (ds.map D.py).head? = some (.tuple [])) := by
  unfold sortOk at h
  simp only [Bool.and_eq_true, Bool.or_eq_true, decide_eq_true_eq] at h
  obtain ⟨h1, h2, h3, h4, h5⟩ := h
  refine ⟨h1, h2, h3, fun d hd d' hd' => ?_, ?_⟩
  · obtain ⟨x, hx, rfl⟩ := List.mem_map.mp hd
    obtain ⟨y, hy, rfl⟩ := List.mem_map.mp hd'
    exact List.all_eq_true.mp (List.all_eq_true.mp h4 x hx) y hy
  · rcases h5 with h5 | h5 | h5
    · refine .inl (.inl fun d hd => ?_)
      obtain ⟨x, hx, rfl⟩ := List.mem_map.mp hd
      have q := List.all_eq_true.mp h5 x hx
      cases x with
      | tup xs => cases xs with
        | nil => cases q
        | cons a l => exact ⟨_, _, rfl⟩
      | _ => cases q
    · refine .inl (.inr fun d hd => ?_)
      obtain ⟨x, hx, rfl⟩ := List.mem_map.mp hd
      have q := List.all_eq_true.mp h5 x hx
      cases x with
      | tup xs => cases q
      | non => cases q
      | _ => exact ⟨by simp [D.py], by simp [D.py]⟩
    · refine .inr ?_
      cases ds with
      | nil => cases h5
      | cons d ds => cases d with
        | tup xs => cases xs with
          | nil => rfl
          | cons _ _ => cases h5
        | _ => cases h5
theorem depths_mem : ∀ {ds : List D} {d : D}, d ∈ ds → d.depth ≤ D.depths ds
  | d :: ds, e, h => by
    have q : D.depths (d :: ds) = max d.depth (D.depths ds) := rfl
    rcases List.mem_cons.mp h with rfl | h
    · omega
    · have := depths_mem h; omega
theorem plains_of {ds : List D} {d : D} (h : D.plains ds = true) (hd : d ∈ ds) : d.plain = true := by
  induction ds with
  | nil => cases hd
  | cons e ds ih =>
    have h := Bool.and_eq_true_iff.mp (show (e.plain && D.plains ds) = true from h)
    rcases List.mem_cons.mp hd with rfl | hd
    · exact h.1
    · exact ih h.2 hd
theorem leD_eq : leD = PySem.W.dataLe false D.py := by
  funext x y
  rfl
section
variable {pins : List (Addr × Obj)} {σ : St} {H F : Hp} {s : Shared} {E : Value → Shared → Prop}
theorem reads_each (I : Inv X pins σ H s) (hK : X.K = T.K) (sF : Same F H) {ds : List D} {us : List Value} (p : D.plains ds = true) (e : PySem.W.EachIs (RV T F) us ds) : PySem.W.EachIs (fun v d => ∃ as, Reads s.heap v d.py as) us ds := by
  induction e with
  | nil => exact .nil
  | cons h t ih =>
    obtain ⟨x, r, hx⟩ := h
    have p := Bool.and_eq_true_iff.mp (show (D.plain _ && D.plains _) = true from p)
    exact .cons (Rp.reads I hK _ x _ p.1 (hx.mono sF) r) (ih p.2)
/-- sorted(xs) of a list -/
theorem sorted_F (I : Inv X pins σ H s) (hK : X.K = T.K) (hu : X.A.units + 64 < cLine) {a : Addr} {xs : List V} {ds : List D} (sF : Same F H) (hs : SqL T.K H a xs) (hr : RpL T F xs ds) (ok : sortOk ds = true) {Q : VK}
    (q : ∀ p ys, H p = none → RpL T F ys (ds.mergeSort leD) → Q (.ref p) (upd H p (.lst ys))) : wpAny (model X.prog X.w) X.A (call (.builtin "sorted") [.ref a]) (EP X pins σ Q) X.xe s := by
  obtain ⟨p1, p2, p3, p4, p5⟩ := sortOk_and ok
  obtain ⟨its, rv, pl, hz⟩ := I.list (by rw [hK]; exact hs)
  have e := hr.each rv
  have er := reads_each I hK sF p1 e
  have hl : its.length = ds.length := e.length
  have hz2 : its.length ≤ sizeLine := by rw [hl, ← line_eq]; exact p3
  have er' : PySem.W.EachIs (fun v d => ∃ as, Reads (PySem.W.sortingHeap (PySem.W.copyHeap s.heap its) (s.heap.objs.size + 1) its) v d.py as) its ds := er.mono fun _ _ ⟨as, r⟩ => ⟨as, PyProof.Rows.Reads.keeps (fun _ _ => PySem.W.sorting_copy_old) r⟩
  refine PySem.W.sorted_vals pl.isList (fx_sorts (s := { s with heap := PySem.W.sortingHeap (PySem.W.copyHeap s.heap its) (s.heap.objs.size + 1) its }) (PySem.W.each_map (R := fun v d => ∃ as, Reads (PySem.W.sortingHeap (PySem.W.copyHeap s.heap its) (s.heap.objs.size + 1) its) v d as) D.py er') p4 p5 fun d hd => ?_) hz2 ?_
  · obtain ⟨x, hx, rfl⟩ := List.mem_map.mp hd
    rw [D.py_depth _ (plains_of p1 hx)]
    have := depths_mem hx
    show X.A.units + 1 + 1 + _ < cLine
    omega
  · obtain ⟨ys, r1, r2⟩ := each_rpl (PySem.W.sortVals_data (enc := D.py) (R := RV T F) false e er' p4)
    rw [← leD_eq] at r2
    generalize hout : PySem.W.sortVals (PySem.W.dataKind (PySem.W.sortingHeap (PySem.W.copyHeap s.heap its) (s.heap.objs.size + 1) its) (ds.map D.py)) false its its = out at r1
    have hlen : out.length = its.length := by rw [← hout]; exact PySem.W.sortVals_length false rfl
    obtain ⟨ep, he⟩ := PyProof.Rows.sortedAll_at s.heap its (List.toArray out)
    have hn : H (s.heap.objs.size + 1) = none := I.hok.fresh (Nat.le_succ _)
    refine ⟨.ref (s.heap.objs.size + 1), upd H (s.heap.objs.size + 1) (.lst ys), ?_, rfl, q _ _ hn r2⟩
    exact I.laid (t' := s.toks) (fun b u hb => PyProof.Rows.sortedAll_old hb) (Nat.le_succ _) ⟨by rw [r1.length, hlen]; exact hz2, out, ep, r1, he⟩
/-- what a dict's keys are collected to -/
theorem keys_items {en : Array DictEntry} {acc : Array Value} (h : ItemsOf (fun i v => ∃ hi : i < en.size, v = en[i].key) acc en.size) : acc.toList = en.toList.map (·.key) := by
  apply List.ext_getElem?
  intro i
  by_cases hi : i < en.size
  · have hi' : i < acc.size := by rw [h.1]; exact hi
    have e1 : acc[i]? = some acc[i] := Array.getElem?_eq_getElem hi'
    obtain ⟨h1, h2⟩ := h.2 i acc[i] e1
    rw [Array.getElem?_toList, e1, h2, List.getElem?_map, Array.getElem?_toList, Array.getElem?_eq_getElem hi]
    rfl
  · have hi' : acc.size ≤ i := by rw [h.1]; omega
    rw [Array.getElem?_toList, Array.getElem?_eq_none hi', List.getElem?_map, Array.getElem?_toList, Array.getElem?_eq_none (by omega)]
    rfl
/-- sorted(d) of a dict -/
theorem sorted_D (I : Inv X pins σ H s) (hK : X.K = T.K) (hc : X.calm = true) (hu : X.A.units + 64 < cLine) {a : Addr} {o : HO} {ks vs : List D} (sF : Same F H) (hr : Rd H a o) (hd : DR T F a o ks vs) (ok : sortOk ks = true) {Q : VK}
    (q : ∀ p ys, H p = none → RpL T F ys (ks.mergeSort leD) → Q (.ref p) (upd H p (.lst ys))) : wpAny (model X.prog X.w) X.A (call (.builtin "sorted") [.ref a]) (EP X pins σ Q) X.xe s := by
  obtain ⟨p1, p2, p3, p4, p5⟩ := sortOk_and ok
  obtain ⟨lo, hz, en, ep, raw, ⟨kv, rk, rp⟩, _⟩ := dr_raw I hr hd
  have hsz : en.size = ks.length := by
    rw [← rp.len, rk.length, List.length_map, Array.length_toList]
  refine Calls.call_function_entry PyProof.Rows.kind_sorted PyProof.Rows.plain_sorted PyProof.Rows.entry_sorted (PyProof.Rows.args_sorted1 _) ?_
  unfold Builtin.«sorted»
  refine wpAny_bind (m := checkCount "sorted" 1 1 _) (wpAny_pure ?_)
  refine wpAny_bind (PySem.W.kdu_collect (A := X.A.in1) (KdlSrc.rawDict (es := en) (ep := ep) lo) (I.ok.hd hc) raw (by rw [hsz]; exact hz) fun h' tk acc hk hacc => ?_)
  have ea := keys_items hacc
  have I1 : Inv X pins σ H { s with heap := h', toks := tk } := I.kept hk
  have e : PySem.W.EachIs (RV T F) acc.toList ks := by rw [ea]; exact rp.each rk
  have hl : acc.toList.length = ks.length := e.length
  have hz2 : acc.toList.length ≤ sizeLine := by rw [hl]; exact hz
  refine wpAny_bind (wpAny_newList ?_ hz2)
  have hoL : (h'.push (PyProof.Rows.seqObj "list" acc.toList.toArray 0)).get? h'.objs.size = some (PyProof.Rows.seqObj "list" acc.toList.toArray 0) := Heap.get?_push_size _ rfl
  show wpAny _ _ _ _ _ { s with heap := h'.push (PyProof.Rows.seqObj "list" acc.toList.toArray 0), toks := tk }
  have kp : ∀ b o, h'.get? b = some o → (PySem.W.sortingHeap (h'.push (PyProof.Rows.seqObj "list" acc.toList.toArray 0)) h'.objs.size acc.toList).get? b = some o := fun b o hb => PySem.W.sortingHeap_old (Nat.ne_of_lt (Heap.lt_size hb)) (Heap.get?_push_of_some _ hb)
  have er := reads_each I1 hK sF p1 e
  have er' : PySem.W.EachIs (fun v d => ∃ as, Reads (PySem.W.sortingHeap (h'.push (PyProof.Rows.seqObj "list" acc.toList.toArray 0)) h'.objs.size acc.toList) v d.py as) acc.toList ks := er.mono fun _ _ ⟨as, r⟩ => ⟨as, PyProof.Rows.Reads.keeps kp r⟩
  refine wpAny_bind (wpAny_holding (wpAny_call_entry PyProof.Rows.slot_list_sort ⟨_, hoL, rfl⟩ PyProof.Rows.entry_list_sort
    (PySem.W.list_sort_vals (κ := PySem.W.dataKind (PySem.W.sortingHeap (h'.push (PyProof.Rows.seqObj "list" acc.toList.toArray 0)) h'.objs.size acc.toList) (ks.map D.py)) (s := { s with heap := h'.push (PyProof.Rows.seqObj "list" acc.toList.toArray 0), toks := tk }) hoL
      (fx_sorts (s := { s with heap := PySem.W.sortingHeap (h'.push (PyProof.Rows.seqObj "list" acc.toList.toArray 0)) h'.objs.size acc.toList, toks := tk }) (PySem.W.each_map (R := fun v d => ∃ as, Reads (PySem.W.sortingHeap (h'.push (PyProof.Rows.seqObj "list" acc.toList.toArray 0)) h'.objs.size acc.toList) v d as) D.py er') p4 p5 fun d hd => ?_) hz2 ⟨_, rfl, ?_⟩) (PyProof.Rows.args_list_sort _)))
  · obtain ⟨x, hx, rfl⟩ := List.mem_map.mp hd
    rw [D.py_depth _ (plains_of p1 hx)]
    have := depths_mem hx
    show X.A.units + 1 + 1 + _ < cLine
    omega
  · obtain ⟨ys, r1, r2⟩ := each_rpl (PySem.W.sortVals_data (enc := D.py) (R := RV T F) false e er' p4)
    rw [← leD_eq] at r2
    generalize hout : PySem.W.sortVals (PySem.W.dataKind (PySem.W.sortingHeap (h'.push (PyProof.Rows.seqObj "list" acc.toList.toArray 0)) h'.objs.size acc.toList) (ks.map D.py)) false acc.toList acc.toList = out at r1 ⊢
    have hlen : out.length = acc.toList.length := by rw [← hout]; exact PySem.W.sortVals_length false rfl
    obtain ⟨e', he'⟩ := PyProof.Rows.sortedHeap_at (vs := acc.toList) (out := List.toArray out) hoL
    refine wpAny_pure ⟨_, rfl, .ref h'.objs.size, upd H h'.objs.size (.lst ys), I1.laid (t' := tk) (fun b u eb => ?_) (Nat.le_refl _)
      (show ObjOk X.prog X.w _ _ _ (.lst ys) from ⟨by rw [r1.length, hlen]; exact hz2, out, e', r1, he'⟩), rfl, q _ _ (I1.hok.fresh (Nat.le_refl _)) r2⟩
    have hb : b < h'.objs.size := Heap.lt_size eb
    rw [PyProof.Rows.sortedHeap_old (Nat.ne_of_lt hb) (by rw [PyProof.Rows.size_push']; exact Nat.lt_succ_of_lt hb)]
    exact Heap.get?_push_of_some _ eb
/-- list(d) -/
theorem list_D (I : Inv X pins σ H s) (hc : X.calm = true) {a : Addr} {o : HO} {ks vs : List D} (hr : Rd H a o) (hd : DR T F a o ks vs) {Q : VK}
    (q : ∀ p ys, H p = none → RpL T F ys ks → Q (.ref p) (upd H p (.lst ys))) : wpAny (model X.prog X.w) X.A (call (.type "list") [.ref a]) (EP X pins σ Q) X.xe s := by
  obtain ⟨lo, hz, en, ep, raw, ⟨kv, rk, rp⟩, _⟩ := dr_raw I hr hd
  have hsz : en.size = ks.length := by
    rw [← rp.len, rk.length, List.length_map, Array.length_toList]
  refine PySem.W.kdl_call (KdlSrc.rawDict (es := en) (ep := ep) lo) (I.ok.hd hc) raw (by rw [hsz]; exact hz) fun h' tk acc c hk ho hacc => ?_
  have ea := keys_items hacc
  refine ⟨.ref s.heap.objs.size, upd H s.heap.objs.size (.lst kv), I.laid (t' := tk) hk (Nat.le_refl _) ⟨by rw [rp.len]; exact hz, acc.toList, c, by rw [ea]; exact rk, by rw [ho]⟩, rfl, q _ _ (I.hok.fresh (Nat.le_refl _)) rp⟩
/-- len(d) -/
theorem len_D (I : Inv X pins σ H s) {a : Addr} {o : HO} {ks vs : List D} (hr : Rd H a o) (hd : DR T F a o ks vs) {Q : VK} (q : Q (.int ks.length) H) : wpAny (model X.prog X.w) X.A (call (.builtin "len") [.ref a]) (EP X pins σ Q) X.xe s := by
  obtain ⟨lo, hz, en, ep, raw, ⟨kv, rk, rp⟩, _⟩ := dr_raw I hr hd
  have hsz : en.size = ks.length := by
    rw [← rp.len, rk.length, List.length_map, Array.length_toList]
  have h63 : (ks.length : Int) < 2 ^ 63 := by
    have := sizeLine_eq
    omega
  refine PyProof.Rows.call_len_slot (n := (ks.length : Int)) raw.typeIs PySem.F.slot_dict_len (fun Q' hq => call_len_raw lo raw (by rw [hsz]; exact hq)) (by omega) (by omega) ⟨.int ks.length, H, I.tok _, ⟨_, rfl⟩, q⟩
end
/-! ### max, min -/
theorem maxI_le : ∀ {ns : List Int} {n : Int}, n ≤ ns.foldl max n ∧ ∀ m ∈ ns, m ≤ ns.foldl max n
  | [], n => ⟨Int.le_refl _, by simp⟩
  | a :: ns, n => by
    obtain ⟨h1, h2⟩ := maxI_le (ns := ns) (n := max n a)
    simp only [List.foldl_cons]
    refine ⟨by omega, fun m hm => ?_⟩
    rcases List.mem_cons.mp hm with rfl | hm
    · omega
    · exact h2 m hm
theorem maxI_mem : ∀ {ns : List Int} {n : Int}, ns.foldl max n = n ∨ ns.foldl max n ∈ ns
  | [], n => .inl rfl
  | a :: ns, n => by
    simp only [List.foldl_cons]
    rcases maxI_mem (ns := ns) (n := max n a) with h | h
    · rw [h]
      by_cases z : a ≤ n
      · exact .inl (by omega)
      · refine .inr (List.mem_cons.mpr (.inl (by omega)))
    · exact .inr (List.mem_cons_of_mem _ h)
theorem maxI_is {ns : List Int} {m m' : Int} (h : maxI ns = some m) (h1 : m' ∈ ns) (h2 : ∀ y ∈ ns, y ≤ m') : m' = m := by
  cases ns with
  | nil => cases h
  | cons n ns =>
    have h : ns.foldl max n = m := Option.some.inj h
    obtain ⟨g1, g2⟩ := maxI_le (ns := ns) (n := n)
    have a1 : m' ≤ m := by
      rw [← h]
      rcases List.mem_cons.mp h1 with rfl | h1
      · exact g1
      · exact g2 _ h1
    have a2 : m ≤ m' := by
      rcases maxI_mem (ns := ns) (n := n) with z | z
      · rw [← h, z]; exact h2 n (by simp)
      · rw [← h]; exact h2 _ (List.mem_cons_of_mem _ z)
    omega
theorem minI_le : ∀ {ns : List Int} {n : Int}, ns.foldl min n ≤ n ∧ ∀ m ∈ ns, ns.foldl min n ≤ m
  | [], n => ⟨Int.le_refl _, by simp⟩
  | a :: ns, n => by
    obtain ⟨h1, h2⟩ := minI_le (ns := ns) (n := min n a)
    simp only [List.foldl_cons]
    refine ⟨by omega, fun m hm => ?_⟩
    rcases List.mem_cons.mp hm with rfl | hm
    · omega
    · exact h2 m hm
theorem minI_mem : ∀ {ns : List Int} {n : Int}, ns.foldl min n = n ∨ ns.foldl min n ∈ ns
  | [], n => .inl rfl
  | a :: ns, n => by
    simp only [List.foldl_cons]
    rcases minI_mem (ns := ns) (n := min n a) with h | h
    · rw [h]
      by_cases z : n ≤ a
      · exact .inl (by omega)
      · refine .inr (List.mem_cons.mpr (.inl (by omega)))
    · exact .inr (List.mem_cons_of_mem _ h)
theorem minI_is {ns : List Int} {m m' : Int} (h : minI ns = some m) (h1 : m' ∈ ns) (h2 : ∀ y ∈ ns, m' ≤ y) : m' = m := by
  cases ns with
  | nil => cases h
  | cons n ns =>
    have h : ns.foldl min n = m := Option.some.inj h
    obtain ⟨g1, g2⟩ := minI_le (ns := ns) (n := n)
    have a1 : m ≤ m' := by
      rw [← h]
      rcases List.mem_cons.mp h1 with rfl | h1
      · exact g1
      · exact g2 _ h1
    have a2 : m' ≤ m := by
      rcases minI_mem (ns := ns) (n := n) with z | z
      · rw [← h, z]; exact h2 n (by simp)
      · rw [← h]; exact h2 _ (List.mem_cons_of_mem _ z)
    omega
end Fx
end
section
set_option linter.all false
set_option Elab.async false
set_option maxRecDepth 100000
set_option maxHeartbeats 4000000
/-! Calls, instances, built-in functions. -/
namespace Fx
open PySem PySem.Spec L2
variable {T : Nm} {W : WX} {X : Cx} {σ : St} {M : Lv}

/-! ### arguments -/
theorem pa_nilA : PA X [] (tAs T W fun ρ => .ok [] ρ) := by
  refine pa_nil.imp fun σ H Q h => ?_
  obtain ⟨F, M, ρ, cf, q⟩ := h
  exact q [] F H trivial cf
theorem pa_consA {e : Expr} {es : List Expr} {m : Env → Res Ar} {ms : Env → Res (List Ar)} (he : PE X e (tAr T W m)) (hs : PA X es (tAs T W ms)) (st : Ex.star e = false) :
    PA X (e :: es) (tAs T W fun ρ => (m ρ).bind fun a ρ => (ms ρ).bind fun as ρ => .ok (a :: as) ρ) := by
  refine (pa_cons he hs (star_cons es _ st)).imp fun σ H Q h => ?_
  obtain ⟨F, M, ρ, cf, q⟩ := h
  refine ⟨F, M, ρ, cf, (Out.bind q).imp fun a ρ1 q1 v1 F1 H1 i1 cf1 => ?_⟩
  refine ⟨F1, a.tmp v1 ++ M, ρ1, cf1, (Out.wkL (Out.bind q1)).imp fun as ρ2 q2 vs F2 H2 i2 cf2 => ?_⟩
  refine q2 (v1 :: vs) F2 H2 ⟨i1, i2⟩ ?_
  show Cf T F2 H2 ((a.tmp v1 ++ tmps as vs) ++ M) ρ2 σ
  rw [List.append_assoc]
  exact Ar.tmp_in cf2
theorem perm_out {α : Type} {A B : List α} {x : α} : (A ++ x :: B).Perm (x :: (A ++ B)) := List.perm_middle
/-- the arguments are handed over: their values stand apart -/
theorem hand_ok {F H : Hp} : ∀ {as : List Ar} {vs : List V} {M : Lv} {ρ ρ' : Env} {rs : List R}, Cf T F H (tmps as vs ++ M) ρ σ → ins_ σ as vs → hand as ρ = some (rs, ρ') → Cf T F H (rs.zip vs ++ M) ρ' σ ∧ rs.length = vs.length
  | [], [], M, ρ, ρ', rs, cf, _, e => by cases e; exact ⟨cf, rfl⟩
  | [], _ :: _, _, _, _, _, _, i, _ => i.elim
  | _ :: _, [], _, _, _, _, _, i, _ => i.elim
  | .v r :: as, v :: vs, M, ρ, ρ', rs, cf, i, e => by
    obtain ⟨⟨rs', ρ2⟩, e1, e2⟩ := Option.map_eq_some_iff.mp (show (hand as ρ).map (fun p => (r :: p.1, p.2)) = some (rs, ρ') from e)
    cases e2
    have cf1 : Cf T F H (tmps as vs ++ ((r, v) :: M)) ρ σ := Cf.permM (M := (r, v) :: (tmps as vs ++ M)) cf perm_out.symm
    obtain ⟨cf2, l⟩ := hand_ok cf1 i.2 e1
    exact ⟨cf2.permM perm_out, congrArg Nat.succ l⟩
  | .b j :: as, v :: vs, M, ρ, ρ', rs, cf, i, e => by
    have e : (match ρ.at j with
      | some r => (hand as (ρ.set j none)).map fun p => (r :: p.1, p.2)
      | none => none) = some (rs, ρ') := e
    cases z : ρ.at j with
    | none => rw [z] at e; cases e
    | some r =>
      rw [z] at e
      obtain ⟨⟨rs', ρ2⟩, e1, e2⟩ := Option.map_eq_some_iff.mp (show (hand as (ρ.set j none)).map (fun p => (r :: p.1, p.2)) = some (rs, ρ') from e)
      cases e2
      obtain ⟨v', e3, cf'⟩ := Cf.out (M := tmps as vs ++ M) cf (at_get z)
      have i1 : σ[j]? = some (some v) := i.1
      rw [i1] at e3; cases e3
      have cf1 : Cf T F H (tmps as vs ++ ((r, v) :: M)) (ρ.set j none) σ := Cf.permM cf' perm_out.symm
      obtain ⟨cf2, l⟩ := hand_ok cf1 i.2 e1
      exact ⟨cf2.permM perm_out, congrArg Nat.succ l⟩
/-- what is live of a row -/
def lives : Env → List V → Lv
  | some r :: os, v :: vs => (r, v) :: lives os vs
  | none :: os, _ :: vs => lives os vs
  | _, _ => []
theorem lives_sub {F H : Hp} {L : Lv} : ∀ {os : Env} {vs : List V}, Reps T F H (lives os vs ++ L) → Reps T F H L := fun h => h.drop
theorem set_id {l : List (Option V)} {i : Nat} {v : V} (h : l[i]? = some (some v)) : l.set i (some v) = l := set_same h
/-- what was lent comes back -/
theorem give_ok {F H : Hp} : ∀ {as : List Ar} {outs : Env} {vs : List V} {M : Lv} {ρ : Env}, Cf T F H (lives outs vs ++ M) ρ σ → ins_ σ as vs → Cf T F H M (giveB as outs ρ) σ
  | [], _, _, _, _, cf, _ => by
    show Cf T F H _ _ σ
    exact cf.dropL
  | .v r :: as, [], vs, _, _, cf, _ => cf.dropL
  | .b j :: as, [], vs, _, _, cf, _ => cf.dropL
  | _ :: _, _ :: _, [], _, _, _, i => i.elim
  | .v r :: as, none :: os, v :: vs, M, ρ, cf, i => give_ok (as := as) (outs := os) (vs := vs) cf i.2
  | .v r :: as, some o :: os, v :: vs, M, ρ, cf, i => give_ok (as := as) (outs := os) (vs := vs) (Cf.tail (M := lives os vs ++ M) cf) i.2
  | .b j :: as, none :: os, v :: vs, M, ρ, cf, i => by
    have q := give_ok (as := as) (outs := os) (vs := vs) cf i.2
    have i1 : σ[j]? = some (some v) := i.1
    have q' := Cf.forget (i := j) q (some v)
    rw [set_id i1] at q'
    exact q'
  | .b j :: as, some o :: os, v :: vs, M, ρ, cf, i => by
    have i1 : σ[j]? = some (some v) := i.1
    have cf1 : Cf T F H (lives os vs ++ ((o, v) :: M)) ρ σ := Cf.permM (M := (o, v) :: (lives os vs ++ M)) cf perm_out.symm
    have q := give_ok (as := as) (outs := os) (vs := vs) cf1 i.2
    have q' := Cf.into (i := j) q (List.getElem?_eq_some_iff.mp i1).1
    rw [set_id i1] at q'
    exact q'

/-! ### a def's promise -/
/-- called with rs, the outcome Φ says -/
def spF (T : Nm) (Φ : Fn) (f np : Nat) : Sp := fun vs H Q E => vs.length = np ∧ ∃ F L rs, rs.length = vs.length ∧ Reps T F H (rs.zip vs ++ L) ∧ match Φ f rs with
  | .ok r outs => ∀ v F' H', Reps T F' H' ((r, v) :: (lives outs vs ++ L)) → Q v H'
  | .exc c d outs => ∀ v dd F' H', Reps T F' H' (lives outs vs ++ L) → H' dd = some (.xd [(T.xfld c, v)]) → Rp T F' v d → E (.ref (T.xcls c)) (some dd) H'
  | .stuck => False
/-- what a body must know of a def that it calls -/
structure FnKn (T : Nm) (Φ : Fn) (X : Cx) (f np : Nat) (fa : Addr) : Prop where
  kp : PySem.W.keepIn X.K (.ref fa) = true
  ok : ∃ k fd ps, FnOk X.prog X.w X.K X.mg X.base (L2.CX X.prog X.w) k fa fd ps (spF T Φ f np) ∧ Room k X.A ∧ Binds X.K fd ps []
theorem callR_sp {Φ : Fn} {f np : Nat} {F H : Hp} {as : List Ar} {vs : List V} {ρ : Env} {Q : VK} (cf : Cf T F H (tmps as vs ++ M) ρ σ) (i : ins_ σ as vs) (hl : vs.length = np)
    (q : Out T W σ M (callR Φ f as ρ) fun r ρ' => ∀ v F' H', Cf T F' H' ((r, v) :: M) ρ' σ → Q v H') : spF T Φ f np vs H Q (WE W σ) := by
  unfold callR at q
  cases e : hand as ρ with
  | none => rw [e] at q; exact q.elim
  | some p =>
    obtain ⟨rs, ρ'⟩ := p
    rw [e] at q
    obtain ⟨cf1, l⟩ := hand_ok cf i e
    obtain ⟨L, sl, rp⟩ := cf1
    refine ⟨hl, F, M ++ L, rs, l, by rw [← List.append_assoc]; exact rp, ?_⟩
    have q : Out T W σ M (match Φ f rs with
      | .ok r outs => Res.ok r (giveB as outs ρ')
      | .exc c d outs => .exc c d (giveB as outs ρ')
      | .stuck => .stuck) _ := q
    cases z : Φ f rs with
    | ok r outs =>
      rw [z] at q
      intro v F' H' rp'
      refine q v F' H' ?_
      have cf2 : Cf T F' H' (lives outs vs ++ ((r, v) :: M)) ρ' σ := ⟨L, sl, by
        refine rp'.perm ?_
        rw [List.append_assoc, List.cons_append]
        exact perm_out.symm⟩
      exact give_ok cf2 i
    | exc c d outs =>
      rw [z] at q
      intro v dd F' H' rp' hd rv
      exact q v dd F' H' (give_ok ⟨L, sl, by rw [List.append_assoc]; exact rp'⟩ i) hd rv
    | stuck => rw [z] at q; exact q.elim
theorem pe_callF {Φ : Fn} {f np : Nat} {fa : Addr} {x : Str} {p pos : Pos} {e : Expr} {es : List Expr} {ms : Env → Res (List Ar)} (kn : FnKn T Φ X f np fa) (tk : Takes X W) (hg : Gl X x) (hm : X.mg x = some (.ref fa)) (hn : (e :: es).length = np)
    (ha : PA X (e :: es) (tAs T W ms)) (hdb : (x == ("__debug__" : Str)) = false) (h1 : Ex.star e = false) (h2 : es.all (fun e => !Ex.star e) = true)
    (hln : ∀ ρ, ∀ as ρ', ms ρ = .ok as ρ' → as.length = np) :
    PE X (.Call (.Name x p) (e :: es) [] pos) (tM T W fun ρ => (ms ρ).bind fun as ρ => callR Φ f as ρ) := by
  obtain ⟨k, fd, ps, F, hr, hb⟩ := kn.ok
  refine (pe_callS F hr hg hm kn.kp hb (fun σ => passAt tk σ) ha hdb (star_cons es _ h1) (star_plain es h2)).imp fun σ H Q h => ?_
  obtain ⟨F, M, ρ, cf, q⟩ := h
  have q := Out.bind q
  refine ⟨F, M, ρ, cf, ?_⟩
  cases z : ms ρ with
  | stuck => rw [z] at q; exact q.elim
  | exc c d ρ1 =>
    rw [z] at q
    exact q
  | ok as ρ1 =>
    rw [z] at q
    have q : Out T W σ M _ _ := q
    intro vs F1 H1 i cf1
    have hl := hln ρ as ρ1 z
    have hv : as.length = vs.length := by
      have key : ∀ (as : List Ar) (vs : List V), ins_ σ as vs → as.length = vs.length := by
        intro as
        induction as with
        | nil => intro vs i; cases vs with
          | nil => rfl
          | cons _ _ => exact i.elim
        | cons a as ih => intro vs i; cases vs with
          | nil => exact i.elim
          | cons v vs => exact congrArg Nat.succ (ih vs i.2)
      exact key as vs i
    exact callR_sp cf1 i (hv.symm.trans hl) q

/-! ### new instances -/
theorem run_makeS {CX : CXT} {k : Nat} {f C : Addr} {fd : FuncData} {ps : List Str} {sp : Sp} {E : XK} {pins : List (Addr × Obj)} {σ : St} {H : Hp} {s : Shared} {Q : VK} {us : List Value} {vs : List V} (Mk : Mk X.K C f) (F : FnOk X.prog X.w X.K X.mg X.base CX k f fd ps sp) (hr : Room (k + 1) X.A) (hb : Binds X.K fd ps [])
    (hx : PassesAt CX X σ E) (I : Inv X pins σ H s) (r : Vals vs us)
    (h : ∀ x dx, H x = none → H dx = none → dx ≠ x → sp (.ref x :: vs) (upd (upd H dx (.own x)) x (.ins C dx [])) (fun v H2 => v = .non ∧ Q (.ref x) H2) E) :
    wpAny (model X.prog X.w) X.A (call (.ref C) us) (EP X pins σ Q) X.xe s := by
  have hq := h (s.heap.objs.size + 1) s.heap.objs.size (I.hok.fresh (Nat.le_succ _)) (I.hok.fresh (Nat.le_refl _)) (Nat.ne_of_lt (Nat.lt_succ_self _))
  have I2 := Inv.made (C := C) I
  have r2 : Vals (V.ref (s.heap.objs.size + 1) :: vs) (Value.ref (s.heap.objs.size + 1) :: us) := .cons rfl r
  have hl : (Value.ref (s.heap.objs.size + 1) :: us).length = ps.length := by
    have e := r2.length
    rw [F.len _ _ _ _ hq] at e
    exact e.symm
  have hb2 := hb _ (Value.ref (s.heap.objs.size + 1) :: us) I2.kIn (by rw [List.append_nil]; exact hl)
  rw [List.append_nil] at hb2
  refine wpAny_call (make_map (f := f) I.kIn Mk.makes Mk.init (beq_iff_eq.mp Mk.fn) (codeAny_mono (F.run _ X.stack _ _ ⟨Value.ref (s.heap.objs.size + 1) :: us, []⟩ (Value.ref (s.heap.objs.size + 1) :: us) _ _ E (hr.make C us [])
    (I2.env0.make C us []) hb2 r2 hq) fun r s' hq' => ?_))
  cases r with
  | error e => exact hx pins _ _ e s' I2 hq'
  | ok fl =>
    cases fl with
    | ret u =>
      obtain ⟨v, H', I3, rv, ev, q3⟩ := I2.after hq'
      subst ev
      exact ⟨rv, ⟨V.ref (s.heap.objs.size + 1), H', I3, rfl, q3⟩⟩
    | next => exact False.elim hq'
    | brk => exact False.elim hq'
    | cont => exact False.elim hq'
def tMakeS (C : Addr) (sp : Sp) (E : St → XK) (t : TA) : TE := fun σ H Q => t σ H fun vs H1 => ∀ x dx, H1 x = none → H1 dx = none → dx ≠ x →
  sp (.ref x :: vs) (upd (upd H1 dx (.own x)) x (.ins C dx [])) (fun v H2 => v = .non ∧ Q (.ref x) H2) (E σ)
theorem pe_makeS {CX : CXT} {k : Nat} {f C : Addr} {fd : FuncData} {ps : List Str} {sp : Sp} {E : St → XK} {x : Str} {p pos : Pos} {e : Expr} {es : List Expr} {t : TA} (Mk : Mk X.K C f) (F : FnOk X.prog X.w X.K X.mg X.base CX k f fd ps sp) (hr : Room (k + 1) X.A) (hg : Gl X x) (hm : X.mg x = some (.ref C)) (hb : Binds X.K fd ps []) (hx : ∀ σ, PassesAt CX X σ (E σ))
    (ha : PA X (e :: es) t) (hdb : (x == ("__debug__" : Str)) = false) (he : starEach (e :: es) X.env = (false, eval e X.env) :: starEach es X.env) (hpl : (backTo pos (starEach es X.env)).any (·.1) = false) :
    PE X (.Call (.Name x p) (e :: es) [] pos) (tMakeS C sp E t) := by
  refine ⟨fun pins s σ H Q I h => ?_⟩
  refine wpAny_Call_Name_kw (ld_glob I hg hm ?_ hdb)
  refine PySem.W.callWith_K (h₀ := X.base) I.ok.mod.kin Mk.kp (thn (ha.run pos pins s σ H _ I h) fun us s1 ⟨vs, H1, I1, r, q⟩ => ⟨I1.kIn, ?_⟩) he hpl
  exact run_makeS Mk F hr hb (hx σ) I1 r q
theorem Reps.newObj {F H : Hp} {L : Lv} {x dx : Addr} {c : Nat} (h : Reps T F H L) (nx : H x = none) (nd : H dx = none) (ne : dx ≠ x) : Reps T F (upd (upd H dx (.own x)) x (.ins (T.cls c) dx [])) ((.obj c [], .ref x) :: L) := by
  have h1 := h.newH (o := .own x) nd
  have nx1 : (upd H dx (.own x)) x = none := by rw [upd_ne (Ne.symm ne)]; exact nx
  obtain ⟨s, fp, h2, ndp, av⟩ := h1
  have h3 := Reps.newH (o := .ins (T.cls c) dx []) ⟨s, fp, h2, ndp, av⟩ nx1
  have nin : ∀ a ∈ fp, a ≠ x := fun a ha z => by
    obtain ⟨o', e⟩ := h2.at a ha
    rw [z, nx1] at e; cases e
  have nF : F x = none := by
    cases e : F x with
    | none => rfl
    | some o' => rw [s _ _ e] at nx1; cases nx1
  refine ⟨h3.1, [x] ++ fp, .cons (.obj (dx := dx) (xs := []) (by rw [upd_same]; unfold Nm.zip; simp) (Nat.zero_le _) .nil) (h2.keep (Same.refl _) fun a ha => upd_ne (nin a ha)), ?_, fun a ha => ?_⟩
  · exact List.nodup_cons.mpr ⟨fun z => nin x z rfl, ndp⟩
  · rcases List.mem_cons.mp ha with z | z
    · rw [z]; exact nF
    · exact av a z
theorem makeR_sp {Φ : Fn} {ini : Nat → Nat} {c np : Nat} {F H : Hp} {as : List Ar} {vs : List V} {ρ : Env} {Q : VK} (cf : Cf T F H (tmps as vs ++ M) ρ σ) (i : ins_ σ as vs) (hl : vs.length + 1 = np)
    (q : Out T W σ M (makeR Φ ini c as ρ) fun r ρ' => ∀ v F' H', Cf T F' H' ((r, v) :: M) ρ' σ → Q v H') : ∀ x dx, H x = none → H dx = none → dx ≠ x →
      spF T Φ (ini c) np (.ref x :: vs) (upd (upd H dx (.own x)) x (.ins (T.cls c) dx [])) (fun v H2 => v = .non ∧ Q (.ref x) H2) (WE W σ) := by
  intro x dx nx nd ne
  unfold makeR at q
  cases e : hand as ρ with
  | none => rw [e] at q; exact q.elim
  | some p =>
    obtain ⟨rs, ρ'⟩ := p
    rw [e] at q
    obtain ⟨cf1, l⟩ := hand_ok cf i e
    obtain ⟨L, sl, rp⟩ := cf1
    refine ⟨hl, F, M ++ L, .obj c [] :: rs, congrArg Nat.succ l, by
      have := rp.newObj (c := c) nx nd ne
      rw [List.append_assoc] at this
      exact this, ?_⟩
    have q : Out T W σ M (match Φ (ini c) (.obj c [] :: rs) with
      | .ok (.val .non) (some r :: outs) => Res.ok r (giveB as outs ρ')
      | .exc x d (_ :: outs) => .exc x d (giveB as outs ρ')
      | _ => .stuck) _ := q
    cases z : Φ (ini c) (.obj c [] :: rs) with
    | ok r outs =>
      rw [z] at q
      cases r with
      | val d =>
        cases d with
        | non =>
          cases outs with
          | nil => exact q.elim
          | cons o outs =>
            cases o with
            | none => exact q.elim
            | some r =>
              intro v F' H' rp'
              have ev : v = .non := by have := rp'.rp; cases this; rfl
              refine ⟨ev, q (.ref x) F' H' ?_⟩
              have rp2 : Reps T F' H' ((r, .ref x) :: (lives outs vs ++ (M ++ L))) := rp'.tail
              have cf2 : Cf T F' H' (lives outs vs ++ ((r, .ref x) :: M)) ρ' σ := ⟨L, sl, by
                refine rp2.perm ?_
                rw [List.append_assoc, List.cons_append]
                exact perm_out.symm⟩
              exact give_ok cf2 i
        | _ => exact q.elim
      | _ => exact q.elim
    | exc c' d outs =>
      rw [z] at q
      cases outs with
      | nil => exact q.elim
      | cons o outs =>
        intro v dd F' H' rp' hd rv
        have rp2 : Reps T F' H' (lives outs vs ++ (M ++ L)) := by
          cases o with
          | none => exact rp'
          | some r => exact Reps.tail (L := lives outs vs ++ (M ++ L)) rp'
        exact q v dd F' H' (give_ok ⟨L, sl, by rw [List.append_assoc]; exact rp2⟩ i) hd rv
    | stuck => rw [z] at q; exact q.elim
/-- what a body must know of a class that it makes instances of -/
structure MkKn (T : Nm) (Φ : Fn) (ini : Nat → Nat) (X : Cx) (c np : Nat) : Prop where
  ok : ∃ k fa fd ps, Mk X.K (T.cls c) fa ∧ FnOk X.prog X.w X.K X.mg X.base (L2.CX X.prog X.w) k fa fd ps (spF T Φ (ini c) (np + 1)) ∧ Room (k + 1) X.A ∧ Binds X.K fd ps []
theorem ins_len : ∀ {as : List Ar} {vs : List V}, ins_ σ as vs → as.length = vs.length
  | [], [], _ => rfl
  | [], _ :: _, i => i.elim
  | _ :: _, [], i => i.elim
  | _ :: as, _ :: vs, i => congrArg Nat.succ (ins_len i.2)
theorem pe_makeF {Φ : Fn} {ini : Nat → Nat} {c np : Nat} {x : Str} {p pos : Pos} {e : Expr} {es : List Expr} {ms : Env → Res (List Ar)} (kn : MkKn T Φ ini X c np) (tk : Takes X W) (hg : Gl X x) (hm : X.mg x = some (.ref (T.cls c)))
    (ha : PA X (e :: es) (tAs T W ms)) (hdb : (x == ("__debug__" : Str)) = false) (h1 : Ex.star e = false) (h2 : es.all (fun e => !Ex.star e) = true)
    (hln : ∀ ρ, ∀ as ρ', ms ρ = .ok as ρ' → as.length = np) :
    PE X (.Call (.Name x p) (e :: es) [] pos) (tM T W fun ρ => (ms ρ).bind fun as ρ => makeR Φ ini c as ρ) := by
  obtain ⟨k, fa, fd, ps, mk, F, hr, hb⟩ := kn.ok
  refine (pe_makeS mk F hr hg hm hb (fun σ => passAt tk σ) ha hdb (star_cons es _ h1) (star_plain es h2)).imp fun σ H Q h => ?_
  obtain ⟨F, M, ρ, cf, q⟩ := h
  have q := Out.bind q
  refine ⟨F, M, ρ, cf, ?_⟩
  cases z : ms ρ with
  | stuck => rw [z] at q; exact q.elim
  | exc c d ρ1 =>
    rw [z] at q
    exact q
  | ok as ρ1 =>
    rw [z] at q
    have q : Out T W σ M _ _ := q
    intro vs F1 H1 i cf1
    have hl := hln ρ as ρ1 z
    exact makeR_sp cf1 i (by rw [← ins_len i, hl]) q

/-! ### built-in functions -/
def RtL (T : Nm) (F H : Hp) : List V → List D → Prop
  | [], [] => True
  | v :: vs, d :: ds => Rt T F H v d ∧ RtL T F H vs ds
  | _, _ => False
def rCb (T : Nm) (b : BF) : List V → Hp → VK → Prop := fun xs H Q => ∃ F ds r, Same F H ∧ RtL T F H xs ds ∧ cbD b ds = some r ∧ ∀ v H', NewR T F H H' v r → Q v H'
def BF.val : BF → Value
  | .len => .builtin "len"
  | .abs => .builtin "abs"
  | .int => .type "int"
  | .str => .type "str"
  | .list => .type "list"
  | .tuple => .type "tuple"
  | .all => .builtin "all"
  | .any => .builtin "any"
  | .sum => .builtin "sum"
  | .range => .type "range"
  | .sorted => .builtin "sorted"
  | .max => .builtin "max"
  | .min => .builtin "min"
theorem allB_vals {F : Hp} : ∀ {ds : List D} {bs : List Bool} {xs : List V}, allB ds = some bs → RpL T F xs ds → xs = bs.map V.bl
  | [], _, _, e, r => by cases e; cases r; rfl
  | d :: ds, bs, _, e, r => by
    cases r with | cons r1 r2 =>
      cases d with
      | bl b =>
        obtain ⟨bs', e1, rfl⟩ := Option.map_eq_some_iff.mp (show (allB ds).map (b :: ·) = some bs from e)
        cases r1
        rw [allB_vals e1 r2]; rfl
      | _ => cases e
theorem allI_vals {F : Hp} : ∀ {ds : List D} {ns : List Int} {xs : List V}, allI ds = some ns → RpL T F xs ds → xs = ns.map V.int
  | [], _, _, e, r => by cases e; cases r; rfl
  | d :: ds, bs, _, e, r => by
    cases r with | cons r1 r2 =>
      cases d with
      | int b =>
        obtain ⟨bs', e1, rfl⟩ := Option.map_eq_some_iff.mp (show (allI ds).map (b :: ·) = some bs from e)
        cases r1
        rw [allI_vals e1 r2]; rfl
      | _ => cases e
theorem RtL.one {F H : Hp} {xs : List V} {d : D} (h : RtL T F H xs [d]) : ∃ v, xs = [v] ∧ Rt T F H v d := by
  cases xs with
  | nil => exact h.elim
  | cons v vs => cases vs with
    | nil => exact ⟨v, rfl, h.1⟩
    | cons _ _ => exact h.2.elim
theorem RtL.two {F H : Hp} {xs : List V} {d e : D} (h : RtL T F H xs [d, e]) : ∃ v w, xs = [v, w] ∧ Rt T F H v d ∧ Rt T F H w e := by
  cases xs with
  | nil => exact h.elim
  | cons v vs =>
    obtain ⟨w, rfl, h2⟩ := RtL.one h.2
    exact ⟨v, w, rfl, h.1, h2⟩
theorem rngL_rp {F : Hp} (a b : Int) : RpL T F (rgV a b) (rngL a b) := by
  have key : ∀ l : List Nat, RpL T F (l.map fun (i : Nat) => V.int (a + (i : Int))) (l.map fun (i : Nat) => D.int (a + (i : Int))) := by
    intro l
    induction l with
    | nil => exact .nil
    | cons x l ih => exact .cons (.int _) ih
  exact key _
theorem rngOk_ok {a b : Int} (h : rngOk a b = true) : -(2 ^ 62) ≤ a ∧ a < 2 ^ 62 ∧ -(2 ^ 62) ≤ b ∧ b < 2 ^ 62 := by
  unfold rngOk at h
  simp only [Bool.and_eq_true, decide_eq_true_eq] at h
  omega
theorem rng_obj {a : Addr} {lo hi : Int} {F H : Hp} (s : Same F H) (h : Rt T F H (.ref a) (.rng lo hi)) : H a = some (.rng lo hi) := by
  have h : Rp T F (.ref a) (.rng lo hi) := h
  cases h with | rng h => exact s _ _ h
theorem ints_reads {h : Heap} : ∀ {ns : List Int} {us : List Value}, Vals (ns.map V.int) us → ∃ as, ReadsAll h us (ns.map PyData.int) as
  | [], _, r => by cases r; exact ⟨_, .nil⟩
  | n :: ns, _, r => by
    cases r with
    | cons r1 r2 =>
      obtain ⟨t, rfl⟩ := r1
      obtain ⟨as, q⟩ := ints_reads (h := h) r2
      exact ⟨_, .cons (.int n t) q⟩
theorem ints_alike {n : Int} {ns : List Int} : PySem.W.AlikeAll (PyData.int n :: ns.map PyData.int) := by
  have all : ∀ x ∈ (PyData.int n :: ns.map PyData.int), ∃ i, x = .int i := fun x hx => by
    rcases List.mem_cons.mp hx with rfl | hx
    · exact ⟨_, rfl⟩
    · obtain ⟨i, _, rfl⟩ := List.mem_map.mp hx; exact ⟨i, rfl⟩
  refine ⟨fun x hx y hy => ?_, fun x hx => ?_⟩
  · obtain ⟨i, rfl⟩ := all x hx
    obtain ⟨j, rfl⟩ := all y hy
    simp [PySem.W.alike]
  · obtain ⟨i, rfl⟩ := all x hx
    simp
theorem call_cb (hK : X.K = T.K) (hc : X.calm = true) (hu : X.A.units + 64 < cLine) (b : BF) : CallR X b.val (rCb T b) := by
  intro pins s σ H xs us Q I r h
  obtain ⟨F, ds, res, sF, hx, e, q⟩ := h
  have seqT : ∀ {v : V} {ds : List D}, Rt T F H v (.tup ds) → ∃ p ys, v = .ref p ∧ SqT X.K H p ys ∧ RpL T F ys ds ∧ Rp T F v (.tup ds) := fun {v ds} h => by
    have h' : Rp T F v (.tup ds) := h
    have h2 := h'
    cases h' with
    | @tup a xs _ t r => exact ⟨a, xs, rfl, by rw [hK]; exact same_sqT sF t, r, h2⟩
  unfold cbD at e
  split at e
  · obtain ⟨v, rfl, h1⟩ := hx.one
    obtain ⟨p, ys, rfl, t, rr, _⟩ := seqT h1
    cases e
    exact call_len_seq pins s σ H _ us Q I r ⟨p, ys, rfl, .inr t, by rw [rr.len]; exact q _ _ (.inl ⟨rfl, .int _⟩)⟩
  · obtain ⟨v, rfl, p, ys, rfl, t, rr⟩ := hx.one
    cases e
    exact call_len_seq pins s σ H _ us Q I r ⟨p, ys, rfl, .inl (by rw [hK]; exact t), by rw [rr.len]; exact q _ _ (.inl ⟨rfl, .int _⟩)⟩
  · obtain ⟨v, rfl, h1⟩ := hx.one
    cases e
    cases h1.int
    exact call_abs pins s σ H _ us Q I r ⟨_, rfl, q _ _ (.inl ⟨rfl, .int _⟩)⟩
  · obtain ⟨v, rfl, h1⟩ := hx.one
    cases e
    cases h1.int
    exact call_int1 pins s σ H _ us Q I r (.inl ⟨_, rfl, q _ _ (.inl ⟨rfl, .int _⟩)⟩)
  · obtain ⟨v, rfl, h1⟩ := hx.one
    cases e
    cases h1.bl
    exact call_int1 pins s σ H _ us Q I r (.inr ⟨_, rfl, q _ _ (.inl ⟨rfl, .int _⟩)⟩)
  · obtain ⟨v, rfl, h1⟩ := hx.one
    split at e
    · rename_i c
      cases e
      cases h1.int
      exact call_str_int pins s σ H _ us Q I r ⟨_, rfl, c, q _ _ (.inl ⟨rfl, .str _⟩)⟩
    · cases e
  · obtain ⟨v, rfl, h1⟩ := hx.one
    obtain ⟨p, ys, rfl, t, rr, _⟩ := seqT h1
    cases e
    exact call_list_of pins s σ H _ us Q I r ⟨p, ys, rfl, .inr t, fun l np => q _ _ ⟨l, ys, rfl, np, rfl, rr⟩⟩
  · obtain ⟨v, rfl, p, ys, rfl, t, rr⟩ := hx.one
    cases e
    exact call_list_of pins s σ H _ us Q I r ⟨p, ys, rfl, .inl (by rw [hK]; exact t), fun l np => q _ _ ⟨l, ys, rfl, np, rfl, rr⟩⟩
  · obtain ⟨v, rfl, h1⟩ := hx.one
    obtain ⟨p, ys, rfl, t, rr, h2⟩ := seqT h1
    cases e
    exact call_tuple_of pins s σ H _ us Q I r ⟨p, ys, rfl, .inr ⟨t, q _ _ (.inl ⟨rfl, h2⟩)⟩⟩
  · obtain ⟨v, rfl, p, ys, rfl, t, rr⟩ := hx.one
    cases e
    exact call_tuple_of pins s σ H _ us Q I r ⟨p, ys, rfl, .inl ⟨(by rw [hK]; exact t), fun l np => q _ _ (.inr (.inl ⟨l, ys, _, rfl, rfl, np, rfl, rr⟩))⟩⟩
  · obtain ⟨v, rfl, p, ys, rfl, t, rr⟩ := hx.one
    obtain ⟨bs, e1, e2⟩ := Option.map_eq_some_iff.mp e
    subst e2
    have ey := allB_vals e1 rr
    subst ey
    exact cr_all hc pins s σ H _ us Q I r ⟨p, bs, rfl, (by rw [hK]; exact t), q _ _ (.inl ⟨rfl, .bl _⟩)⟩
  · obtain ⟨v, rfl, p, ys, rfl, t, rr⟩ := hx.one
    obtain ⟨bs, e1, e2⟩ := Option.map_eq_some_iff.mp e
    subst e2
    have ey := allB_vals e1 rr
    subst ey
    exact cr_any hc pins s σ H _ us Q I r ⟨p, bs, rfl, (by rw [hK]; exact t), q _ _ (.inl ⟨rfl, .bl _⟩)⟩
  · obtain ⟨v, rfl, p, ys, rfl, t, rr⟩ := hx.one
    obtain ⟨bs, e1, e2⟩ := Option.map_eq_some_iff.mp e
    subst e2
    have ey := allI_vals e1 rr
    subst ey
    exact cr_sum hc pins s σ H _ us Q I r ⟨p, bs, rfl, (by rw [hK]; exact t), q _ _ (.inl ⟨rfl, .int _⟩)⟩
  · obtain ⟨v, rfl, h1⟩ := hx.one
    cases e
    cases h1.int
    obtain ⟨u, rfl, t, rfl⟩ := vals1 r
    exact call_range_1 ⟨.ref s.heap.objs.size, upd H s.heap.objs.size (.rng 0 _), I.laid (o := .rng 0 _) (fun b o e => Heap.get?_push_of_some _ e) (Nat.le_refl _) ⟨_, _, _, Heap.get?_push_size _ rfl⟩, rfl, q _ _ (.inr (.inr ⟨_, _, _, rfl, rfl, I.hok.fresh (Nat.le_refl _), rfl⟩))⟩
  · obtain ⟨v, w, rfl, h1, h2⟩ := hx.two
    cases e
    cases h1.int
    cases h2.int
    exact cr_range2 pins s σ H _ us Q I r ⟨_, _, rfl, fun p np => q _ _ (.inr (.inr ⟨p, _, _, rfl, rfl, np, rfl⟩))⟩
  · obtain ⟨v, rfl, h1⟩ := hx.one
    split at e
    · rename_i a b c
      cases e
      obtain ⟨u, rfl, ru⟩ := vals1 r
      obtain ⟨p, rfl⟩ : ∃ p, v = .ref p := by
        have h1 : Rp T F v (.rng a b) := h1
        cases h1; exact ⟨_, rfl⟩
      cases ru
      obtain ⟨b1, b2, b3, b4⟩ := rngOk_ok c.1
      obtain ⟨t, u, w, hr⟩ : ∃ t u v, s.heap.get? p = some { cls := .type "range", data := .fields #[.int a t, .int b u, .int 1 v] } := I.hok p _ (rng_obj sF h1)
      refine PySem.call_list_range (n := (b - a).toNat) (I.ok.hd hc) hr (small_one b1 b2 b3 b4) (PyProof.Rows.rangeSize_nat a b) (by have := c.2; simpa using this) fun h' tk acc c' hk e' hi => ?_
      refine ⟨.ref s.heap.objs.size, upd H s.heap.objs.size (.lst (rgV a b)), I.laid hk (Nat.le_refl _) (show ObjOk X.prog X.w _ _ _ (.lst (rgV a b)) from ⟨?_, acc.toList, c', vals_rg hi, ?_⟩), rfl, q _ _ ⟨_, _, rfl, I.hok.fresh (Nat.le_refl _), rfl, rngL_rp a b⟩⟩
      · rw [rgV_length, sizeLine_eq]; exact c.2
      · rw [Array.toArray_toList]; exact e'
    · cases e
  · obtain ⟨v, rfl, h1⟩ := hx.one
    split at e
    · rename_i a b c
      cases e
      obtain ⟨u, rfl, ru⟩ := vals1 r
      obtain ⟨p, rfl⟩ : ∃ p, v = .ref p := by
        have h1 : Rp T F v (.rng a b) := h1
        cases h1; exact ⟨_, rfl⟩
      cases ru
      obtain ⟨b1, b2, b3, b4⟩ := rngOk_ok c.1
      obtain ⟨t, u, w, hr⟩ : ∃ t u v, s.heap.get? p = some { cls := .type "range", data := .fields #[.int a t, .int b u, .int 1 v] } := I.hok p _ (rng_obj sF h1)
      refine call_tuple_range (n := (b - a).toNat) (I.ok.hd hc) hr (small_one b1 b2 b3 b4) (PyProof.Rows.rangeSize_nat a b) (by have := c.2; simpa using this) fun h' tk acc hk hi => ?_
      have I2 : Inv X pins σ H { s with heap := h', toks := tk } := I.kept hk
      refine ⟨.ref h'.objs.size, upd H h'.objs.size (.tup (rgV a b)), I2.laid (t' := tk) (fun c o e => Heap.get?_push_of_some _ e) (Nat.le_refl _) (show ObjOk X.prog X.w _ _ _ (.tup (rgV a b)) from ⟨?_, acc.toList, vals_rg hi, ?_⟩), rfl, q _ _ (.inr (.inl ⟨_, _, _, rfl, rfl, I2.hok.fresh (Nat.le_refl _), rfl, rngL_rp a b⟩))⟩
      · rw [rgV_length, sizeLine_eq]; exact c.2
      · rw [Array.toArray_toList]; exact PyProof.Rows.IsTup.new _ _
    · cases e
  · obtain ⟨v, rfl, a, o, rfl, r1, r2⟩ := hx.one
    cases e
    obtain ⟨u, rfl, ru⟩ := vals1 r
    cases ru
    exact len_D I r1 r2 (q _ _ (.inl ⟨rfl, .int _⟩))
  · obtain ⟨v, rfl, a, o, rfl, r1, r2⟩ := hx.one
    cases e
    obtain ⟨u, rfl, ru⟩ := vals1 r
    cases ru
    exact list_D I hc r1 r2 fun p ys np rr => q _ _ ⟨p, ys, rfl, np, rfl, rr⟩
  · obtain ⟨v, rfl, a, ys, rfl, t, rr⟩ := hx.one
    obtain ⟨ds', e1, e2⟩ := Option.map_eq_some_iff.mp e
    subst e2
    unfold sortD at e1
    split at e1
    · rename_i c
      cases e1
      obtain ⟨u, rfl, ru⟩ := vals1 r
      cases ru
      exact sorted_F I hK hu sF t rr c fun p ys np rr => q _ _ ⟨p, ys, rfl, np, rfl, rr⟩
    · cases e1
  · obtain ⟨v, rfl, a, o, rfl, r1, r2⟩ := hx.one
    obtain ⟨ds', e1, e2⟩ := Option.map_eq_some_iff.mp e
    subst e2
    unfold sortD at e1
    split at e1
    · rename_i c
      cases e1
      obtain ⟨u, rfl, ru⟩ := vals1 r
      cases ru
      exact sorted_D I hK hc hu sF r1 r2 c fun p ys np rr => q _ _ ⟨p, ys, rfl, np, rfl, rr⟩
    · cases e1
  · obtain ⟨v, w, rfl, h1, h2⟩ := hx.two
    cases e
    cases h1.int
    cases h2.int
    refine call_max2 hc pins s σ H _ us Q I r ⟨_, _, rfl, ?_⟩
    rename_i i j
    rw [show (if j > i then j else i) = max i j by split <;> omega]
    exact q _ _ (.inl ⟨rfl, .int _⟩)
  · obtain ⟨v, w, rfl, h1, h2⟩ := hx.two
    cases e
    cases h1.int
    cases h2.int
    refine call_min2 hc pins s σ H _ us Q I r ⟨_, _, rfl, ?_⟩
    rename_i i j
    rw [show (if j < i then j else i) = min i j by split <;> omega]
    exact q _ _ (.inl ⟨rfl, .int _⟩)
  · obtain ⟨v, rfl, p, ys, rfl, t, rr⟩ := hx.one
    obtain ⟨ns, e1, e2⟩ := Option.bind_eq_some_iff.mp e
    obtain ⟨m, e3, e4⟩ := Option.map_eq_some_iff.mp e2
    subst e4
    have ey := allI_vals e1 rr
    subst ey
    refine cr_max hc pins s σ H _ us Q I r ⟨p, ns, rfl, (by rw [hK]; exact t), ?_, fun m' g1 g2 => ?_⟩
    · cases ns with
      | nil => cases e3
      | cons _ _ => simp
    · rw [maxI_is e3 g1 g2]; exact q _ _ (.inl ⟨rfl, .int _⟩)
  · obtain ⟨v, rfl, h1⟩ := hx.one
    obtain ⟨p, ys, rfl, t, rr, _⟩ := seqT h1
    obtain ⟨ns, e1, e2⟩ := Option.bind_eq_some_iff.mp e
    obtain ⟨m, e3, e4⟩ := Option.map_eq_some_iff.mp e2
    subst e4
    have ey := allI_vals e1 rr
    subst ey
    cases ns with
    | nil => cases e3
    | cons n ns =>
      obtain ⟨its, rv, tp, _⟩ := I.tuple t
      obtain ⟨as, ra⟩ := ints_reads (h := s.heap) rv
      obtain ⟨u, rfl, ru⟩ := vals1 r
      cases ru
      refine PySem.W.max_tuple_data (x := .int n) (xs := ns.map .int) (I.ok.hd hc) tp (by simpa using ra) ints_alike (by
        have : PyData.depthAll (PyData.int n :: ns.map PyData.int) = 0 := PySem.W.depth_ints (n :: ns)
        rw [this]
        show X.A.units + 1 + 0 < cLine
        omega) fun i v' h' tk bs hi hr hk => ?_
      rw [PySem.W.maxD_ints] at hr
      cases hr
      have e5 : ns.foldl max n = m := Option.some.inj e3
      rw [← e5] at q
      exact ⟨.int _, H, I.kept hk, ⟨_, rfl⟩, q _ _ (.inl ⟨rfl, .int _⟩)⟩
  · obtain ⟨v, rfl, p, ys, rfl, t, rr⟩ := hx.one
    obtain ⟨ns, e1, e2⟩ := Option.bind_eq_some_iff.mp e
    obtain ⟨m, e3, e4⟩ := Option.map_eq_some_iff.mp e2
    subst e4
    have ey := allI_vals e1 rr
    subst ey
    refine cr_min hc pins s σ H _ us Q I r ⟨p, ns, rfl, (by rw [hK]; exact t), ?_, fun m' g1 g2 => ?_⟩
    · cases ns with
      | nil => cases e3
      | cons _ _ => simp
    · rw [minI_is e3 g1 g2]; exact q _ _ (.inl ⟨rfl, .int _⟩)
  · obtain ⟨v, rfl, h1⟩ := hx.one
    obtain ⟨p, ys, rfl, t, rr, _⟩ := seqT h1
    obtain ⟨ns, e1, e2⟩ := Option.bind_eq_some_iff.mp e
    obtain ⟨m, e3, e4⟩ := Option.map_eq_some_iff.mp e2
    subst e4
    have ey := allI_vals e1 rr
    subst ey
    cases ns with
    | nil => cases e3
    | cons n ns =>
      obtain ⟨its, rv, tp, _⟩ := I.tuple t
      obtain ⟨as, ra⟩ := ints_reads (h := s.heap) rv
      obtain ⟨u, rfl, ru⟩ := vals1 r
      cases ru
      refine PySem.W.min_tuple_data (x := .int n) (xs := ns.map .int) (I.ok.hd hc) tp (by simpa using ra) ints_alike (by
        have : PyData.depthAll (PyData.int n :: ns.map PyData.int) = 0 := PySem.W.depth_ints (n :: ns)
        rw [this]
        show X.A.units + 1 + 0 < cLine
        omega) fun i v' h' tk bs hi hr hk => ?_
      rw [PySem.W.minD_ints] at hr
      cases hr
      have e5 : ns.foldl min n = m := Option.some.inj e3
      rw [← e5] at q
      exact ⟨.int _, H, I.kept hk, ⟨_, rfl⟩, q _ _ (.inl ⟨rfl, .int _⟩)⟩
  · cases e
end Fx
end
section
set_option linter.all false
set_option Elab.async false
set_option maxRecDepth 100000
set_option maxHeartbeats 4000000
/-! sorted(set([..])) of ints. -/
namespace Fx
open PySem PySem.Spec PyProof.Rows L2
/-- a set as it is laid -/
def fxSet (w : World) : Obj := { cls := .type "set", dict := none, data := .set #[] 0 (.fresh 0 0 (!w.params.followText "set-order")) }
section
variable {P : Program} {w : World} {A : Around} {E : Value → Shared → Prop} {s : Shared}
set_option maxHeartbeats 8000000 in
theorem fx_setL {p : Addr} {its : Array Value} (zs : List Int) {Q : Value → Shared → Prop} (hand : A.handled = none) (at_ : s.heap.IsList p its) (ii : IntsAre its.toList zs) (few : zs.length + 1 < scanBound)
    (fin : ∀ (h' : Heap) (tk c : Nat), L2.SetR w h' s.heap.objs.size (fun j => decide (j ∈ zs)) c → c ≤ zs.length → (∀ b o, s.heap.get? b = some o → h'.get? b = some o) → Q (.ref s.heap.objs.size) { s with heap := h', toks := tk }) :
    wpAny (model P w) A (call (.type "set") [.ref p]) Q E s := by
  have isz : its.size = zs.length := by have q := IntsAre.length ii; rw [Array.length_toList] at q; exact q
  obtain ⟨c, tl, mro⟩ := F.called_set.mro
  have made := F.called_set.made
  have sub := F.called_set.sub
  refine wpAny_call (codeAny_of_tree ?_)
  show wpAny _ _ (callAny (.type "set") _) _ _ _
  refine wpAny_pure ⟨Code.quiet_builtin _ (by decide +kernel), codeAny_builtin F.entry_type_call ?_⟩
  rw [Around.under_plain (weight_type_call_type "set" [.ref p] []) rfl]
  have g1 := F.called_set.notType
  have g2 := F.called_set.canCreate
  have g3 := F.typeCall_set_1 (.ref p)
  repeat (any_goals (first | assumption | wp_step))

  refine codeAny_mono (L2.code_set_led1 (.ref p) (E := E) (Q₁ := fun obj s₁ => obj = .ref s.heap.objs.size ∧ s₁ = { s with heap := s.heap.push (fxSet w) }) ⟨rfl, rfl⟩) fun r s₁ hr => ?_
  cases r with
  | error e => exact hr
  | ok fl =>
    cases fl with
    | ret obj =>
      obtain ⟨rfl, rfl⟩ := hr
      have new : (s.heap.push (fxSet w)).get? s.heap.objs.size = some (fxSet w) := Heap.get?_push_size _ rfl
      have ty : Shared.TypeIs { s with heap := s.heap.push (fxSet w) } (.ref s.heap.objs.size) "set" := ⟨_, new, rfl⟩
      have i1 := F.called_set.init.lookup
      have i2 := F.called_set.init.bind (.ref s.heap.objs.size)
      repeat (any_goals (first | assumption | wp_step))

      refine codeAny_mono (codeAny_call_builtin (R := wants (fun r s₂ => r = .none ∧ ∃ h' tk c, s₂ = { s with heap := h', toks := tk } ∧ L2.SetR w h' s.heap.objs.size (fun j => decide (j ∈ zs)) c ∧ c ≤ zs.length ∧
          (∀ b o, s.heap.get? b = some o → h'.get? b = some o)) E) F.called_set.init.plain F.entry_set_init (check_set_init_1 ty ?_)) fun r₂ s₂ hr₂ => ?_
      · obtain ⟨ol, hol, hcl, nl, hdl⟩ := at_
        obtain ⟨oc, od, oda, osl⟩ := ol
        simp only at hcl hdl
        subst hcl; subst hdl
        have there : (s.heap.push (fxSet w)).get? p = some { cls := .type "list", dict := od, data := .seq its nl, slots := osl } := Heap.get?_push_of_some _ hol
        have u1 := F.sub_list_set
        have u2 := F.sub_list_frozenset
        have u3 : (Value.type "list" == Value.type "dict") = false := by decide
        have isl : (s.heap.push (fxSet w)).IsList p its := ⟨_, there, rfl, nl, rfl⟩
        unfold Builtin.«set.__init__» noKeywords Builtin.Frozenset.updateFrom
        generalize hPI : pyIter = PI
        wp_walk
        subst hPI

        refine wpAny_pyIter_list isl ?_
        refine wpAny_bind (wpAny_runValue ?_)
        have pS : p < s.heap.objs.size := Heap.lt_size hol
        have hh3 : A.in1.in1.in1.handled = none := by simp [hand]
        have pI : p ≠ (s.heap.push (fxSet w)).objs.size := by rw [Heap.size_push]; exact Nat.ne_of_lt (Nat.lt_succ_of_lt pS)
        have Sf : s.heap.objs.size ∉ [(s.heap.push (fxSet w)).objs.size, p] := by
          rw [Heap.size_push]
          simp only [List.mem_cons, List.mem_singleton, List.not_mem_nil, or_false, not_or]
          exact ⟨Nat.ne_of_lt (Nat.lt_succ_self _), Nat.ne_of_gt pS⟩
        have val : ∀ (i : Nat) (v : Value), its[i]? = some v → ∃ k t, zs[i]? = some k ∧ v = .int k t := fun i v hv => by
          have hi : i < zs.length := by rw [← isz]; exact (Array.getElem?_eq_some_iff.mp hv).1
          obtain ⟨t, e⟩ := PyProof.Rows.IntsAre.int_at ii i v (by rw [Array.getElem?_toList]; exact hv)
          exact ⟨zs[i], t, List.getElem?_eq_getElem hi, by rw [e, List.getD_eq_getElem?_getD, List.getElem?_eq_getElem hi] <;> rfl⟩
        refine L2.set_update_ints ((Walks.list hh3 _ p pI its).toS) s.heap.objs.size Sf zs isz few val (its.size - 0) 0 _ (by omega) (Nat.zero_le _) ⟨⟨_, Heap.get?_push_size _ rfl, rfl, rfl⟩, (isl.push _)⟩ ?z0 ?zR
        case z0 =>
          have there2 : ((s.heap.push (fxSet w)).push { cls := .type "list_iterator", data := .fields #[.ref p, .int 0 0] }).get? s.heap.objs.size = some (fxSet w) := Heap.get?_push_of_some _ new
          exact ⟨0, Nat.le_refl 0, L2.setR_new_at there2⟩
        case zR =>
          intro s' c' hm hc' hS'
          obtain ⟨h', g2, d', tk', os'⟩ := s'
          have z1 : g2 = s.gens := hm.gens
          have z2 : d' = s.drawn := hm.drawn
          have z3 : os' = s.os := hm.os
          subst z1; subst z2; subst z3
          show wpAny _ _ _ _ _ _
          refine wpAny_pure ?_
          show wpAny _ _ (ret Value.none) _ _ _
          rw [isz] at hc'
          refine wpAny_pure ⟨rfl, h', tk', c', rfl, hS', hc', fun b o e => ?_⟩
          have b0 : b < s.heap.objs.size := Heap.lt_size e
          have b2 : b ≠ (s.heap.push (fxSet w)).objs.size := by rw [Heap.size_push]; exact Nat.ne_of_lt (Nat.lt_succ_of_lt b0)
          exact hm.heap b o (by simp only [List.mem_cons, List.mem_singleton, List.not_mem_nil, or_false, not_or]; exact ⟨Nat.ne_of_lt b0, b2⟩) (Heap.get?_push_of_some _ (Heap.get?_push_of_some _ e))
      · cases r₂ with
        | error e => exact hr₂
        | ok f2 =>
          cases f2 with
          | ret v2 =>
            obtain ⟨rfl, h', tk, c, rfl, a1, a2, a3⟩ := hr₂
            repeat (any_goals (first | assumption | exact ⟨_, rfl, fin h' tk c a1 a2 a3⟩ | exact fin h' tk c a1 a2 a3 | wp_step))
          | _ => exact hr₂
    | _ => exact hr
end
end Fx
end
section
set_option linter.all false
set_option Elab.async false
set_option maxRecDepth 100000
set_option maxHeartbeats 4000000
/-! Built-in functions by name, isinstance, fields. -/
namespace Fx
open PySem PySem.Spec L2
variable {T : Nm} {W : WX} {X : Cx} {σ : St} {M : Lv}

def BF.name : BF → Str
  | .len => "len"
  | .abs => "abs"
  | .int => "int"
  | .str => "str"
  | .list => "list"
  | .tuple => "tuple"
  | .all => "all"
  | .any => "any"
  | .sum => "sum"
  | .range => "range"
  | .sorted => "sorted"
  | .max => "max"
  | .min => "min"
theorem BF.boot (b : BF) : bootBuiltins b.name = some b.val := by cases b <;> decide +kernel
theorem BF.nm (b : BF) : b.name ≠ "__name__" := by cases b <;> decide +kernel
theorem BF.db (b : BF) : (b.name == ("__debug__" : Str)) = false := by cases b <;> decide +kernel
theorem getDs_ok {F H : Hp} {ρ : Env} : ∀ {as : List Ar} {vs : List V} {M : Lv} {ds : List D}, Cf T F H (tmps as vs ++ M) ρ σ → ins_ σ as vs → getDs T.flds ρ as = some ds → RtL T F H vs ds
  | [], [], _, _, _, _, e => by cases e; trivial
  | [], _ :: _, _, _, _, i, _ => i.elim
  | _ :: _, [], _, _, _, i, _ => i.elim
  | a :: as, v :: vs, M, ds, cf, i, e => by
    have e : (match a.d T.flds ρ, getDs T.flds ρ as with
      | some d, some ds => some (d :: ds)
      | _, _ => none) = some ds := e
    have cf : Cf T F H ((a.tmp v ++ tmps as vs) ++ M) ρ σ := cf
    rw [List.append_assoc] at cf
    cases e1 : a.d T.flds ρ with
    | none => rw [e1] at e; cases e
    | some d =>
      cases e2 : getDs T.flds ρ as with
      | none => rw [e1, e2] at e; cases e
      | some ds' =>
        rw [e1, e2] at e
        cases e
        exact ⟨Cf.arD (P := []) cf i.1 e1, getDs_ok cf.dropL i.2 e2⟩
theorem pe_cbF {b : BF} {x : Str} {p pos : Pos} {e : Expr} {es : List Expr} {ms : Env → Res (List Ar)} (hK : X.K = T.K) (hc : X.calm = true) (hu : X.A.units + 64 < cLine) (hx : x = b.name) (hg : Gl X x) (hm : X.mg x = none)
    (ha : PA X (e :: es) (tAs T W ms)) (h1 : Ex.star e = false) (h2 : es.all (fun e => !Ex.star e) = true) :
    PE X (.Call (.Name x p) (e :: es) [] pos) (tM T W fun ρ => (ms ρ).bind fun as ρ => match getDs T.flds ρ as with
      | some ds => optR (cbD b ds) ρ
      | none => .stuck) := by
  subst hx
  have key : PE X (.Call (.Name b.name p) (e :: es) [] pos) (tCB (rCb T b) (tAs T W ms)) := by
    have hcb := call_cb hK hc hu b
    have hv := b.boot
    cases hb : b.val with
    | builtin id => rw [hb] at hcb hv; exact pe_callB hcb hg hm hv ha b.nm b.db (star_cons es _ h1) (star_plain es h2)
    | type n => rw [hb] at hcb hv; exact pe_callTy hcb hg hm hv ha b.nm b.db (star_cons es _ h1) (star_plain es h2)
    | _ => cases b <;> cases hb
  refine key.imp fun σ H Q h => ?_
  obtain ⟨F, M, ρ, cf, q⟩ := h
  refine ⟨F, M, ρ, cf, (Out.bind q).imp fun as ρ1 q1 vs F1 H1 i cf1 => ?_⟩
  cases e1 : getDs T.flds ρ1 as with
  | none => rw [e1] at q1; exact q1.elim
  | some ds =>
    rw [e1] at q1
    obtain ⟨r, e2, k⟩ := tM_new cf1.dropL q1
    exact ⟨F1, ds, r, cf1.sub, getDs_ok cf1 i e1, e2, k⟩

/-! ### classes -/
def tyNames : List String := ["NoneType", "bool", "int", "str", "tuple", "list"]
structure ClsKn (T : Nm) (K : PySem.W.Frag) (c : Nat) : Prop where
  cl : Cls K (T.cls c)
  na : ∀ f ∈ T.flds c, NoAttr K (T.cls c) (T.fname f)
  nd : ((T.flds c).map T.fname).Nodup
  ln : (T.flds c).length ≤ 900
  ha : PySem.W.findIn K (.ref (T.cls c)) "__class__" = some (some (.builtin "object.__class__"))
  hn : PySem.W.specialIn K (.builtin "object.__class__") "__get__" = some (some (.builtin "getset_descriptor.__get__"))
  ht : PySem.W.takesIn K (.builtin "object.__class__") = some true
  hm : PySem.W.mroIn K (T.cls c) (.type "object") = some true
  k1 : ∀ n ∈ tyNames, PySem.W.kitOne K (.type n) (.ref (T.cls c)) = some false
  k2 : ∀ n ∈ tyNames, PySem.W.kitOne K (.ref (T.cls c)) (.type n) = some false
structure ClsAll (T : Nm) (K : PySem.W.Frag) (nc : Nat) : Prop where
  of : ∀ c, c < nc → ClsKn T K c
  two : ∀ c c', c < nc → c' < nc → PySem.W.kitOne K (.ref (T.cls c)) (.ref (T.cls c')) = some (decide (c' = c))
def D.ty (T : Nm) : D → Value
  | .non => .type "NoneType"
  | .bl _ => .type "bool"
  | .int _ => .type "int"
  | .str _ => .type "str"
  | .tup _ => .type "tuple"
  | .lst _ => .type "list"
  | .rng _ _ => .type "range"
  | .ins c _ => .ref (T.cls c)
  | .dct _ _ => .type "dict"
theorem isiD_ok {nc : Nat} {d : D} {t : IsT} {b : Bool} (e : isiD nc d t = some b) : d.tyOk nc = true := by
  cases d with
  | rng _ _ => cases e
  | dct _ _ => cases e
  | ins c _ =>
    simp only [isiD] at e
    split at e
    · simpa [D.tyOk]
    · cases e
  | _ => rfl
theorem Rt.ty {F H : Hp} {nc : Nat} {v : V} {d : D} (hK : X.K = T.K) (A : ClsAll T X.K nc) (s : Same F H) (h : Rt T F H v d) (hd : d.tyOk nc = true) : TyX X.K H v (d.ty T) := by
  cases d with
  | non => cases h.non; exact .base .non
  | bl b => cases h.bl; exact .base (.bl b)
  | int b => cases h.int; exact .base (.int b)
  | str b => cases h.str; exact .base (.str b)
  | tup ds =>
    have h' : Rp T F v (.tup ds) := h
    cases h' with
    | @tup a xs _ t r =>
      rcases same_sqT s t with (t | ⟨o, t⟩) | ⟨o, its, n, t, hc, _⟩
      · exact .base (.tup t)
      · exact .fTuple t
      · exact .kTuple (by rw [hK]; exact t) hc
  | lst ds =>
    obtain ⟨a, xs, rfl, t, r⟩ := h
    rcases t with (t | ⟨o, t⟩) | ⟨o, its, n, t, hc, _⟩
    · exact .base (.lst t)
    · exact .base (.frz t)
    · exact .kList (by rw [hK]; exact t) hc
  | rng _ _ => cases hd
  | dct _ _ => cases hd
  | ins c ds =>
    have h' : Rp T H v (.ins c ds) := h
    have kn := A.of c (by simpa [D.tyOk] using hd)
    cases h' with
    | ins h1 _ _ => exact .base (.ins h1 kn.cl kn.ha kn.hn kn.ht kn.hm)
/-- what isinstance is asked for, as a value -/
def tIs (T : Nm) : IsT → TE
  | .int => tC (.ty "int")
  | .bool => tC (.ty "bool")
  | .tuple => tC (.ty "tuple")
  | .list => tC (.ty "list")
  | .str => tC (.ty "str")
  | .cls c => tC (.ref (T.cls c))
  | .listTuple => tTup (tCons (tC (.ty "list")) (tCons (tC (.ty "tuple")) tNil))
def IsT.one (T : Nm) : IsT → Option (V × Value)
  | .int => some (.ty "int", .type "int")
  | .bool => some (.ty "bool", .type "bool")
  | .tuple => some (.ty "tuple", .type "tuple")
  | .list => some (.ty "list", .type "list")
  | .str => some (.ty "str", .type "str")
  | .cls c => some (.ref (T.cls c), .ref (T.cls c))
  | .listTuple => none
def IsT.ok (nc : Nat) : IsT → Bool
  | .cls c => decide (c < nc)
  | _ => true
theorem kit_one {K : PySem.W.Frag} {nc : Nat} (A : ClsAll T K nc) {d : D} {t : IsT} {b : Bool} {c : V} {u : Value} (e : isiD nc d t = some b) (ht : t.ok nc = true) (h : t.one T = some (c, u)) : ClsV c u ∧ PySem.W.kitOne K (d.ty T) u = some b := by
  have K2 : ∀ {x y : String} {r : Bool}, kitB x y = some r → PySem.W.kitOne K (.type x) (.type y) = some r := fun h => kit_ty h
  cases t with
  | listTuple => cases h
  | cls c' =>
    cases h
    have hc : c' < nc := by simpa [IsT.ok] using ht
    refine ⟨.own _, ?_⟩
    have kn := A.of c' hc
    cases d with
    | rng _ _ => cases e
    | dct _ _ => cases e
    | ins c2 ds =>
      simp only [isiD] at e
      split at e
      · rename_i h2
        cases e
        refine (A.two c2 c' h2 hc).trans ?_
        simp
      · cases e
    | non => simp [isiD] at e; subst e; exact kn.k1 _ (by decide)
    | bl _ => simp [isiD] at e; subst e; exact kn.k1 _ (by decide)
    | int _ => simp [isiD] at e; subst e; exact kn.k1 _ (by decide)
    | str _ => simp [isiD] at e; subst e; exact kn.k1 _ (by decide)
    | tup _ => simp [isiD] at e; subst e; exact kn.k1 _ (by decide)
    | lst _ => simp [isiD] at e; subst e; exact kn.k1 _ (by decide)
  | _ =>
    cases h
    refine ⟨.ty _, ?_⟩
    cases d with
    | rng _ _ => cases e
    | dct _ _ => cases e
    | ins c2 ds =>
      simp only [isiD] at e
      split at e
      · rename_i h2
        simp at e
        subst e
        exact (A.of c2 h2).k2 _ (by decide)
      · cases e
    | _ =>
      simp [isiD] at e
      subst e
      exact K2 (by decide +kernel)
theorem pe_isiF {nc : Nat} {a t : Expr} {it : IsT} {p pos : Pos} {m : Env → Res Ar} (hK : X.K = T.K) (A : ClsAll T X.K nc) (hg : Gl X "isinstance") (hm : X.mg "isinstance" = none) (ha : PE X a (tAr T W m)) (ht : PE X t (tIs T it)) (hok : it.ok nc = true)
    (h1 : Ex.star a = false) (h2 : Ex.star t = false) :
    PE X (.Call (.Name "isinstance" p) [a, t] [] pos) (tM T W (one_ T.flds (fun x ρ => optR ((isiD nc x it).map fun b => .val (.bl b)) ρ) m)) := by
  have key := pe_callB (pos := pos) (p := p) (id := "isinstance") (CallR.or (call_isi (X := X)) call_isiT) hg hm (by decide +kernel) (pa_cons ha (pa_cons ht pa_nil (star_cons [] _ h2)) (star_cons [t] _ h1)) (by decide +kernel) (by decide +kernel) (star_cons [t] _ h1) (star_plain [t] (by simp [h2]))
  refine key.imp fun σ H Q h => ?_
  show tAr T W m σ H fun x H1 => tIs T it σ H1 fun y H2 => _
  refine tAr_one (f := fun x ρ => optR ((isiD nc x it).map fun b => R.val (.bl b)) ρ) (K := fun M r ρ' => ∀ v F' H', Cf T F' H' ((r, v) :: M) ρ' σ → Q v H') h fun F M ρ H x dx cf rx q => ?_
  obtain ⟨r, e, k⟩ := q.opt
  obtain ⟨b, e2, e3⟩ := Option.map_eq_some_iff.mp e
  subst e3
  have hd := isiD_ok e2
  cases z : it.one T with
  | some p =>
    obtain ⟨c, u⟩ := p
    obtain ⟨cv, ko⟩ := kit_one A e2 hok z
    have et : tIs T it = tC c := by cases it <;> first | (cases z; rfl) | cases z
    rw [et]
    exact .inl ⟨x, c, dx.ty T, u, b, rfl, cv, rx.ty hK A cf.sub hd, ko, k _ F H (cf.val (.bl b))⟩
  | none =>
    have et : it = .listTuple := by cases it <;> first | rfl | cases z
    subst et
    refine ⟨by show 2 ≤ sizeLine; decide, fun p np => .inr ?_⟩
    obtain ⟨cf2, s2⟩ := cf.newF (o := .tup [.ty "list", .ty "tuple"]) np
    have grow : Same H (upd H p (.tup [.ty "list", .ty "tuple"])) := fun b o e => by rw [upd_ne (ne_of_none e np)]; exact e
    have rx2 : Rt T F (upd H p (.tup [.ty "list", .ty "tuple"])) x dx := by
      cases dx with
      | lst ds => obtain ⟨a, xs, rfl, t, r⟩ := rx; exact ⟨a, xs, rfl, same_sqL grow t, r⟩
      | ins c ds => exact Rp.mono grow _ _ (show Rp T H x (.ins c ds) from rx)
      | dct ks vs => obtain ⟨a, o, rfl, h1, h2⟩ := rx; exact ⟨a, o, rfl, same_rd grow h1, h2⟩
      | _ => exact rx
    have ty := rx2.ty hK A (fun b o e => grow _ _ (cf.sub _ _ e)) hd
    refine ⟨x, p, [.ty "list", .ty "tuple"], dx.ty T, [.type "list", .type "tuple"], b, rfl, upd_same, .cons (.ty _) (.cons (.ty _) .nil), ty, ?_, k _ _ _ (cf2.val (.bl b))⟩
    have two : ∀ {x y : Bool}, PySem.W.kitOne X.K (dx.ty T) (.type "list") = some x → PySem.W.kitOne X.K (dx.ty T) (.type "tuple") = some y → b = (x || y) → PySem.W.kitAny X.K (dx.ty T) [.type "list", .type "tuple"] = some b := fun {x y} h1 h2 e => by
      subst e
      refine kitAny_cons h1 (fun z => ?_) (fun z => by rw [z]; rfl)
      subst z
      exact kitAny_cons h2 (fun z => by subst z; exact kitAny_nil) (fun z => by rw [z]; rfl)
    have kt : ∀ {x y : String} {r : Bool}, kitB x y = some r → PySem.W.kitOne X.K (.type x) (.type y) = some r := fun h => kit_ty h
    cases dx with
    | rng _ _ => cases hd
    | dct _ _ => cases hd
    | ins c ds =>
      have hc : c < nc := by simpa [D.tyOk] using hd
      have kn := A.of c hc
      simp only [isiD, if_pos hc] at e2
      exact two (kn.k2 "list" (by decide)) (kn.k2 "tuple" (by decide)) (by simp at e2; simp [e2])
    | tup _ => exact two (x := false) (y := true) (kt (by decide +kernel)) (kt (by decide +kernel)) (by simp [isiD] at e2; simp [e2])
    | lst _ => exact two (x := true) (y := false) (kt (by decide +kernel)) (kt (by decide +kernel)) (by simp [isiD] at e2; simp [e2])
    | _ => exact two (x := false) (y := false) (kt (by decide +kernel)) (kt (by decide +kernel)) (by simp [isiD] at e2; simp [e2])

/-! ### fields -/
theorem zip_look (f : Nat) (fn : Nat → Str) : ∀ (L : List Nat) (xs : List V) (v : V), (L.map fn).Nodup → xs[L.idxOf f]? = some v → f ∈ L → ((L.map fn).zip xs).lookup (fn f) = some v
  | [], _, _, _, _, h => by cases h
  | g :: L, [], v, _, e, _ => by simp at e
  | g :: L, x :: xs, v, nd, e, h => by
    simp only [List.map_cons, List.nodup_cons] at nd
    by_cases z : g = f
    · subst z
      simp at e
      subst e
      simp [List.lookup]
    · have hf : f ∈ L := by
        rcases List.mem_cons.mp h with q | q
        · exact absurd q.symm z
        · exact q
      have ne : fn f ≠ fn g := fun q => nd.1 (q ▸ List.mem_map.mpr ⟨f, hf, rfl⟩)
      have e' : xs[L.idxOf f]? = some v := by
        rw [List.idxOf_cons] at e
        have : (g == f) = false := by simpa using z
        rw [this] at e
        simpa using e
      simp only [List.map_cons, List.zip_cons_cons, List.lookup_cons]
      have : (fn f == fn g) = false := by simpa using ne
      rw [this]
      exact zip_look f fn L xs v nd.2 e' hf
theorem idx_mem {L : List Nat} {f : Nat} (h : L.idxOf f < L.length) : f ∈ L := by
  rw [← List.idxOf_lt_length_iff]; exact h
theorem RRL.get {F H : Hp} : ∀ {rs : List R} {vs : List V} {fp : List Addr} {i : Nat} {r : R}, RRL T F H rs vs fp → rs[i]? = some r → ∃ v fp', vs[i]? = some v ∧ RR T F H r v fp'
  | [], _, _, i, r, _, e => by simp at e
  | _ :: _, _, _, 0, r, h, e => by
    cases h with | cons h1 h2 => simp at e; subst e; exact ⟨_, _, rfl, h1⟩
  | _ :: _, _, _, i + 1, r, h, e => by
    cases h with | cons h1 h2 =>
      obtain ⟨v, fp', e1, q⟩ := h2.get (i := i) (by simpa using e)
      exact ⟨v, fp', by simpa using e1, q⟩
/-- the field of a value in hand -/
theorem fld_val {F H : Hp} {nc : Nat} {g : G} (hK : X.K = T.K) (A : ClsAll T X.K nc) (hnc : g.nc = nc) (hfl : g.flds = T.flds) {v : V} {d x : D} {f : Nat} (s : Same F H) (h : Rp T F v d) (e : attrR g f d = some x) :
    ∃ a C dx fs w, v = .ref a ∧ H a = some (.ins C dx fs) ∧ Cls X.K C ∧ NoAttr X.K C (T.fname f) ∧ fs.lookup (T.fname f) = some w ∧ Rp T F w x := by
  unfold attrR at e
  cases d with
  | ins c ds =>
    dsimp only at e
    split at e
    · rename_i hc
      rw [hnc] at hc
      rw [hfl] at e
      have kn := A.of c hc
      cases h with
      | @ins a dx _ xs _ h1 hl hr =>
        obtain ⟨w, e1, rw'⟩ := hr.get e
        have hi : (T.flds c).idxOf f < (T.flds c).length := by
          have := (List.getElem?_eq_some_iff.mp e1).1
          omega
        exact ⟨a, T.cls c, dx, _, w, rfl, s _ _ h1, kn.cl, kn.na f (idx_mem hi), zip_look f T.fname _ xs w kn.nd e1 (idx_mem hi), rw'⟩
    · cases e
  | _ => cases e
theorem pe_fldD {nc : Nat} {g : G} {e : Expr} {pos : Pos} {m : Env → Res D} {f : Nat} {n : Str} (hK : X.K = T.K) (A : ClsAll T X.K nc) (hnc : g.nc = nc) (hfl : g.flds = T.flds) (hn : n = T.fname f) (h : PE X e (tD T W m)) (hb : Ex.isCall e = false) :
    PE X (.Attribute e n pos) (tM T W fun ρ => (m ρ).bind fun x ρ => optR ((attrR g f x).map .val) ρ) := by
  subst hn
  refine (pe_fld h (att_plain hb)).imp fun σ H Q q => ?_
  obtain ⟨F, M, ρ, cf, q⟩ := q
  refine ⟨F, M, ρ, cf, (Out.bind q).imp fun d ρ1 q1 v1 F1 H1 cf1 => ?_⟩
  obtain ⟨r, e1, k⟩ := q1.opt
  obtain ⟨x, e2, e3⟩ := Option.map_eq_some_iff.mp e1
  subst e3
  obtain ⟨a, C, dx, fs, w, ev, h1, cl, na, l, rw'⟩ := fld_val hK A hnc hfl cf1.sub cf1.rp e2
  exact ⟨a, C, dx, fs, w, ev, h1, cl, na, l, k w F1 H1 (cf1.tail.val rw')⟩
theorem pe_fldV {nc : Nat} {g : G} {e : Expr} {pos : Pos} {i f : Nat} {n : Str} (hK : X.K = T.K) (A : ClsAll T X.K nc) (hnc : g.nc = nc) (hfl : g.flds = T.flds) (hn : n = T.fname f) (h : PE X e (tVar i)) (hb : Ex.isCall e = false) :
    PE X (.Attribute e n pos) (tM T W fun ρ => match ρ.at i with
      | some r => optR ((attrO g f r).map .val) ρ
      | none => .stuck) := by
  subst hn
  refine (pe_fld h (att_plain hb)).imp fun σ H Q q => ?_
  obtain ⟨F, M, ρ, cf, q⟩ := q
  dsimp only at q
  cases z : ρ.at i with
  | none => rw [z] at q; exact q.elim
  | some r =>
    rw [z] at q
    obtain ⟨r', e1, k⟩ := Out.opt q
    obtain ⟨x, e2, e3⟩ := Option.map_eq_some_iff.mp e1
    subst e3
    have ez := at_get z
    cases r with
    | val d =>
      obtain ⟨v, F', ev, s, cf'⟩ := cf.read ez rfl
      rw [show R.toD (.val d) = d from rfl, set_same ez] at cf'
      obtain ⟨a, C, dx, fs, w, rfl, h1, cl, na, l, rw'⟩ := fld_val hK A hnc hfl cf'.sub cf'.rp e2
      exact ⟨.ref a, ev, a, C, dx, fs, w, rfl, h1, cl, na, l, k w F' H (cf'.tail.val rw')⟩
    | lst ds => cases e2
    | dct _ _ => cases e2
    | obj c rs =>
      obtain ⟨v, ev, cf'⟩ := cf.out ez
      obtain ⟨L, sl, sF, fp, h1, nd, av⟩ := cf'
      simp only [attrO] at e2
      split at e2
      · rename_i hc
        rw [hnc] at hc
        rw [hfl] at e2
        have kn := A.of c hc
        split at e2
        · rename_i d eq
          cases e2
          cases h1 with | cons h2 h3 =>
            cases h2 with | @obj a dx _ xs _ gp h4 hl h5 =>
              obtain ⟨w, fp', e5, r5⟩ := h5.get eq
              cases r5 with | val rw' =>
                have hi : (T.flds c).idxOf f < (T.flds c).length := by
                  have := (List.getElem?_eq_some_iff.mp e5).1
                  omega
                exact ⟨.ref a, ev, a, T.cls c, dx, _, w, rfl, h4, kn.cl, kn.na f (idx_mem hi), zip_look f T.fname _ xs w kn.nd e5 (idx_mem hi), k w F H (cf.val rw')⟩
        · cases e2
      · cases e2
end Fx
end
section
set_option linter.all false
set_option Elab.async false
set_option maxRecDepth 100000
set_option maxHeartbeats 4000000
/-! What is walked; targets; comprehensions. -/
namespace Fx
open PySem PySem.Spec L2
variable {T : Nm} {W : WX} {X : Cx} {σ : St} {M : Lv}

/-! ### what a loop walks -/
/-- J walks the data ds, as long as the source S is live -/
def ItOk (T : Nm) (J : It) (S : Lv) (ds : List D) : Prop := ∀ F H L i, Reps T F H (S ++ L) → (ds.length ≤ i → J.stop i H) ∧ ∀ d, ds[i]? = some d → J.go i H ∧ ∀ x H', J.yld i H x H' → ∃ F', Reps T F' H' ((.val d, x) :: (S ++ L))
theorem ItOk.stop {J : It} {S : Lv} {ds : List D} (h : ItOk T J S ds) {F H : Hp} {M : Lv} {ρ : Env} {i : Nat} (cf : Cf T F H (S ++ M) ρ σ) (hi : ds.length ≤ i) : J.stop i H := by
  obtain ⟨L, sl, rp⟩ := cf
  rw [List.append_assoc] at rp
  exact (h F H _ i rp).1 hi
theorem ItOk.go {J : It} {S : Lv} {ds : List D} (h : ItOk T J S ds) {F H : Hp} {M : Lv} {ρ : Env} {i : Nat} {d : D} (cf : Cf T F H (S ++ M) ρ σ) (hi : ds[i]? = some d) : J.go i H ∧ ∀ x H', J.yld i H x H' → ∃ F', Cf T F' H' ((.val d, x) :: (S ++ M)) ρ σ := by
  obtain ⟨L, sl, rp⟩ := cf
  rw [List.append_assoc] at rp
  obtain ⟨g, y⟩ := (h F H _ i rp).2 d hi
  refine ⟨g, fun x H' e => ?_⟩
  obtain ⟨F', rp'⟩ := y x H' e
  exact ⟨F', L, sl, by rw [List.cons_append, List.append_assoc]; exact rp'⟩
def tIt (T : Nm) (W : WX) (m : Env → Res (List D)) : TI := fun σ H R => ∃ F M ρ, Cf T F H M ρ σ ∧ Out T W σ M (m ρ) fun ds ρ' => ∀ J S F' H', ItOk T J S ds → Cf T F' H' (S ++ M) ρ' σ → R J H'
theorem _root_.L2.PI.imp {X : Cx} {tg e : Expr} {t t' : TI} (h : PI X tg e t) (k : ∀ σ H R, t' σ H R → t σ H R) : PI X tg e t' := ⟨fun pins s σ H R I q => h.run pins s σ H R I (k σ H R q)⟩
def iAny (K : PySem.W.Frag) (tl : TE) : TI := fun σ H R => tl σ H fun x H1 => ∃ a, x = .ref a ∧ (((∃ xs, SqL K H1 a xs) ∧ R (Itl K a) H1) ∨ ((∃ xs, SqT K H1 a xs) ∧ R (Itt K a) H1) ∨
  ∃ lo hi : Int, H1 a = some (.rng lo hi) ∧ (-(2 ^ 62) ≤ lo ∧ lo < 2 ^ 62 ∧ -(2 ^ 62) ≤ hi ∧ hi < 2 ^ 62) ∧ R (Itr lo (hi - lo).toNat) H1)
theorem pi_any {tg l : Expr} {tl : TE} (hl : PE X l tl) : PI X tg l (iAny X.K tl) := by
  refine ⟨fun pins s σ H R I h => ?_⟩
  refine thn (hl.run pins s σ H _ I h) fun v s1 ⟨x, H1, I1, r1, q1⟩ => ?_
  obtain ⟨a, e, ⟨⟨xs, hq⟩, q⟩ | ⟨⟨xs, hq⟩, q⟩ | ⟨lo, hi, hq, ⟨b1, b2, b3, b4⟩, q⟩⟩ := q1
  · subst e
    cases r1
    obtain ⟨its, rv, p, hz⟩ := I1.list hq
    refine wpAny_pyIter_list p.isList ?_
    refine ⟨s1.heap.objs.size, [s1.heap.objs.size], _, _, H1, rfl, I1.kept (t' := s1.toks) fun b o e => Heap.get?_push_of_some _ e, turn_list a _, ⟨_, Heap.get?_push_size _ rfl, rfl, rfl⟩, fun b hb => ?_, q⟩
    have e : b = s1.heap.objs.size := by simpa using hb
    subst e
    exact I1.fpOk (Nat.le_refl _) (I1.hok.fresh (Nat.le_refl _))
  · subst e
    cases r1
    obtain ⟨its, rv, p, hz⟩ := I1.tuple hq
    refine wpAny_pyIter_tuple (show s1.heap.IsTuple a its.toArray from p) ?_
    refine ⟨s1.heap.objs.size, [s1.heap.objs.size], _, _, H1, rfl, I1.kept (t' := s1.toks) fun b o e => Heap.get?_push_of_some _ e, turn_tuple a _, ⟨_, Heap.get?_push_size _ rfl, rfl, rfl⟩, fun b hb => ?_, q⟩
    have e : b = s1.heap.objs.size := by simpa using hb
    subst e
    exact I1.fpOk (Nat.le_refl _) (I1.hok.fresh (Nat.le_refl _))
  · subst e
    cases r1
    obtain ⟨t, u, w, hr⟩ : ∃ t u v, s1.heap.get? a = some { cls := .type "range", data := .fields #[.int lo t, .int hi u, .int 1 v] } := I1.hok a _ hq
    refine wpAny_pyIter_range hr (small_one b1 b2 b3 b4) ?_
    refine ⟨s1.heap.objs.size, [s1.heap.objs.size], _, _, H1, rfl, I1.kept (t' := s1.toks) fun b o e => Heap.get?_push_of_some _ e, turn_range _ lo (hi - lo).toNat, ?_, fun b hb => ?_, q⟩
    · have e1 : lo + ((0 : Nat) : Int) * 1 = lo := by simp
      have e2 : (((hi - lo).toNat : Nat) : Int) - ((0 : Nat) : Int) = Builtin.Range.rangeSize lo hi 1 := by rw [rangeSize_one]; split <;> omega
      show IsRangeIter _ _ (lo + ((0 : Nat) : Int) * 1) ((((hi - lo).toNat : Nat) : Int) - ((0 : Nat) : Int)) 1
      rw [e1, e2]
      exact Heap.get?_push_size _ rfl
    · have e : b = s1.heap.objs.size := by simpa using hb
      subst e
      exact I1.fpOk (Nat.le_refl _) (I1.hok.fresh (Nat.le_refl _))
theorem itok_tup {a : Addr} {ds : List D} : ItOk T (Itt T.K a) [(.val (.tup ds), .ref a)] ds := by
  intro F H L i rp
  have r := rp.rp
  cases r with
  | @tup _ xs _ t r =>
    have t' := same_sqT rp.sub t
    refine ⟨fun hi => ⟨xs, t', by rw [r.len]; exact hi⟩, fun d hd => ?_⟩
    obtain ⟨v, e, rv⟩ := r.get hd
    refine ⟨⟨xs, v, t', e⟩, fun x H' y => ?_⟩
    obtain ⟨e1, e2⟩ := y
    subst e1
    have e3 := e2 xs t'
    rw [e] at e3
    cases e3
    exact ⟨F, rp.val rv⟩
theorem itok_lst {a : Addr} {ds : List D} : ItOk T (Itl T.K a) [(.val (.lst ds), .ref a)] ds := by
  intro F H L i rp
  have r := rp.rp
  cases r with
  | @lst _ xs _ t r =>
    have t' : SqL T.K H a xs := same_sqL rp.sub t
    refine ⟨fun hi => ⟨xs, t', by rw [r.len]; exact hi⟩, fun d hd => ?_⟩
    obtain ⟨v, e, rv⟩ := r.get hd
    refine ⟨⟨xs, v, t', e⟩, fun x H' y => ?_⟩
    obtain ⟨e1, e2⟩ := y
    subst e1
    have e3 := e2 xs t'
    rw [e] at e3
    cases e3
    exact ⟨F, rp.val rv⟩
theorem itok_rng {lo hi : Int} : ItOk T (Itr lo (hi - lo).toNat) [] (rngL lo hi) := by
  intro F H L i rp
  have hl : (rngL lo hi).length = (hi - lo).toNat := by unfold rngL; simp
  refine ⟨fun h => by rw [hl] at h; exact h, fun d hd => ?_⟩
  have hi' : i < (hi - lo).toNat := by have := (List.getElem?_eq_some_iff.mp hd).1; rw [hl] at this; exact this
  have ed : d = .int (lo + (i : Int)) := by
    unfold rngL at hd
    rw [List.getElem?_map, List.getElem?_range hi'] at hd
    exact (Option.some.inj hd).symm
  subst ed
  refine ⟨hi', fun x H' y => ?_⟩
  obtain ⟨e1, e2⟩ := y
  subst e1 e2
  exact ⟨F, rp.val (.int _)⟩
theorem pi_seqF {tg e : Expr} {m : Env → Res D} (hK : X.K = T.K) (h : PE X e (tD T W m)) : PI X tg e (tIt T W fun ρ => (m ρ).bind fun d ρ => match d with
    | .tup ds => .ok ds ρ
    | .lst ds => .ok ds ρ
    | .rng lo hi => if rngOk lo hi = true then .ok (rngL lo hi) ρ else .stuck
    | _ => .stuck) := by
  refine (pi_any h).imp fun σ H R q => ?_
  obtain ⟨F, M, ρ, cf, q⟩ := q
  refine ⟨F, M, ρ, cf, (Out.bind q).imp fun d ρ1 q1 v1 F1 H1 cf1 => ?_⟩
  cases d with
  | tup ds =>
    obtain ⟨a, rfl⟩ : ∃ a, v1 = .ref a := by have r := cf1.rp; cases r; exact ⟨_, rfl⟩
    refine ⟨a, rfl, .inr (.inl ⟨?_, q1 _ _ F1 H1 (by rw [hK]; exact itok_tup) cf1⟩)⟩
    have r := cf1.rp
    cases r with | tup t r => exact ⟨_, by rw [hK]; exact same_sqT cf1.sub t⟩
  | lst ds =>
    obtain ⟨a, rfl⟩ : ∃ a, v1 = .ref a := by have r := cf1.rp; cases r; exact ⟨_, rfl⟩
    refine ⟨a, rfl, .inl ⟨?_, q1 _ _ F1 H1 (by rw [hK]; exact itok_lst) cf1⟩⟩
    have r := cf1.rp
    cases r with | lst t r => exact ⟨_, by rw [hK]; exact same_sqL cf1.sub t⟩
  | rng lo hi =>
    dsimp only at q1
    split at q1
    · rename_i c
      have r := cf1.rp
      cases r with
      | @rng a _ _ t => exact ⟨a, rfl, .inr (.inr ⟨lo, hi, cf1.sub _ _ t, rngOk_ok c, q1 _ [] F1 H1 itok_rng cf1.tail⟩)⟩
    · exact q1.elim
  | _ => exact q1.elim

/-! ### zip, enumerate -/
theorem zip_get {xs ys : List D} {i : Nat} {d : D} (h : (zipD xs ys)[i]? = some d) : ∃ x y, xs[i]? = some x ∧ ys[i]? = some y ∧ d = .tup [x, y] := by
  unfold zipD at h
  rw [List.getElem?_map] at h
  obtain ⟨p, h1, rfl⟩ := Option.map_eq_some_iff.mp h
  rw [List.getElem?_zip_eq_some] at h1
  exact ⟨p.1, p.2, h1.1, h1.2, rfl⟩
theorem zip_len {xs ys : List D} : (zipD xs ys).length = min xs.length ys.length := by
  unfold zipD
  rw [List.length_map, List.length_zip]
theorem itok_zipT {a b : Addr} {xs ys : List D} : ItOk T (RZ.ItzT T.K a b) [(.val (.tup xs), .ref a), (.val (.tup ys), .ref b)] (zipD xs ys) := by
  intro F H L i rp
  have r1 := rp.rp
  have r2 := rp.tail.rp
  cases r1 with
  | @tup _ vs _ t1 q1 =>
    cases r2 with
    | @tup _ ws _ t2 q2 =>
      have t1' := same_sqT rp.sub t1
      have t2' := same_sqT rp.sub t2
      refine ⟨fun hi => ⟨vs, ws, t1', t2', by rw [q1.len, q2.len]; rw [zip_len] at hi; omega⟩, fun d hd => ?_⟩
      obtain ⟨x, y, hx, hy, rfl⟩ := zip_get hd
      obtain ⟨v, e1, rv⟩ := q1.get hx
      obtain ⟨w, e2, rw'⟩ := q2.get hy
      refine ⟨⟨vs, ws, v, w, t1', t2', e1, e2⟩, fun z H' h => ?_⟩
      obtain ⟨p, v', w', rfl, np, rfl, h1, h2⟩ := h
      have e3 := h1 vs t1'
      have e4 := h2 ws t2'
      rw [e1] at e3
      rw [e2] at e4
      cases e3
      cases e4
      obtain ⟨rp', sm⟩ := Reps.newF (o := .tup [v, w]) rp np
      exact ⟨_, rp'.val (.tup (.inl (.inl upd_same)) (.cons (rv.mono sm) (.cons (rw'.mono sm) .nil)))⟩
theorem itok_zipL {a b : Addr} {xs ys : List D} : ItOk T (Itz T.K a b) [(.val (.lst xs), .ref a), (.val (.lst ys), .ref b)] (zipD xs ys) := by
  intro F H L i rp
  have r1 := rp.rp
  have r2 := rp.tail.rp
  cases r1 with
  | @lst _ vs _ t1 q1 =>
    cases r2 with
    | @lst _ ws _ t2 q2 =>
      have t1' : SqL T.K H a vs := same_sqL rp.sub t1
      have t2' : SqL T.K H b ws := same_sqL rp.sub t2
      refine ⟨fun hi => ⟨vs, ws, t1', t2', by rw [q1.len, q2.len]; rw [zip_len] at hi; omega⟩, fun d hd => ?_⟩
      obtain ⟨x, y, hx, hy, rfl⟩ := zip_get hd
      obtain ⟨v, e1, rv⟩ := q1.get hx
      obtain ⟨w, e2, rw'⟩ := q2.get hy
      refine ⟨⟨vs, ws, v, w, t1', t2', e1, e2⟩, fun z H' h => ?_⟩
      obtain ⟨p, v', w', rfl, np, rfl, h1, h2⟩ := h
      have e3 := h1 vs t1'
      have e4 := h2 ws t2'
      rw [e1] at e3
      rw [e2] at e4
      cases e3
      cases e4
      obtain ⟨rp', sm⟩ := Reps.newF (o := .tup [v, w]) rp np
      exact ⟨_, rp'.val (.tup (.inl (.inl upd_same)) (.cons (rv.mono sm) (.cons (rw'.mono sm) .nil)))⟩
theorem enum_get {ds : List D} {i : Nat} {d : D} (h : (enumD ds)[i]? = some d) : ∃ x, ds[i]? = some x ∧ d = .tup [.int i, x] := by
  unfold enumD at h
  rw [List.getElem?_map] at h
  obtain ⟨p, h1, rfl⟩ := Option.map_eq_some_iff.mp h
  rw [List.getElem?_zipIdx] at h1
  obtain ⟨x, h2, rfl⟩ := Option.map_eq_some_iff.mp h1
  exact ⟨x, h2, by simp⟩
theorem itok_enumL {a : Addr} {ds : List D} : ItOk T (Ite T.K a) [(.val (.lst ds), .ref a)] (enumD ds) := by
  intro F H L i rp
  have r1 := rp.rp
  cases r1 with
  | @lst _ vs _ t1 q1 =>
    have t1' : SqL T.K H a vs := same_sqL rp.sub t1
    refine ⟨fun hi => ⟨vs, t1', by rw [q1.len]; unfold enumD at hi; simpa using hi⟩, fun d hd => ?_⟩
    obtain ⟨x, hx, rfl⟩ := enum_get hd
    obtain ⟨v, e1, rv⟩ := q1.get hx
    refine ⟨⟨vs, v, t1', e1⟩, fun z H' h => ?_⟩
    obtain ⟨p, v', rfl, np, rfl, h1⟩ := h
    have e3 := h1 vs t1'
    rw [e1] at e3
    cases e3
    obtain ⟨rp', sm⟩ := Reps.newF (o := .tup [.int (i : Nat), v]) rp np
    exact ⟨_, rp'.val (.tup (.inl (.inl upd_same)) (.cons (.int _) (.cons (rv.mono sm) .nil)))⟩
theorem pi_zipF {x : Str} {e e2 : Expr} {p pos tpos : Pos} {elts : List Expr} {kk : Nat} {ma mb : Env → Res D} (hK : X.K = T.K) (hg : Gl X "zip") (hm : X.mg "zip" = none) (h1 : PE X e (tD T W ma)) (h2 : PE X e2 (tD T W mb)) (s1 : Ex.star e = false) (s2 : Ex.star e2 = false) :
    PI X (.Tuple elts kk tpos) (.Call (.Name "zip" p) [e, e2] [] pos) (tIt T W fun ρ => (ma ρ).bind fun x ρ => (mb ρ).bind fun y ρ => match x, y with
      | .lst xs, .lst ys => .ok (zipD xs ys) ρ
      | .tup xs, .tup ys => .ok (zipD xs ys) ρ
      | _, _ => .stuck) := by
  refine (RZ.pi_zipA (elts := elts) (kk := kk) (tpos := tpos) hg hm (pa_cons h1 (pa_cons h2 pa_nil (star_cons [] _ s2)) (star_cons [e2] _ s1)) (star_cons [e2] _ s1) (star_plain [e2] (by simp [s2]))).imp fun σ H R q => ?_
  obtain ⟨F, M, ρ, cf, q⟩ := q
  refine ⟨F, M, ρ, cf, (Out.bind q).imp fun dx ρ1 q1 v1 F1 H1 cf1 => ?_⟩
  refine ⟨F1, (.val dx, v1) :: M, ρ1, cf1, (Out.wkL (P := [_]) (Out.bind q1)).imp fun dy ρ2 q2 v2 F2 H2 cf2 => ?_⟩
  have ry := cf2.rp
  have rx := cf2.tail.rp
  cases dx with
  | lst xs =>
    cases dy with
    | lst ys =>
      cases rx with
      | @lst a vs _ t1 r1 =>
        cases ry with
        | @lst b ws _ t2 r2 =>
          refine ⟨a, b, vs, ws, rfl, .inl ⟨by rw [hK]; exact same_sqL cf2.sub t1, by rw [hK]; exact same_sqL cf2.sub t2, ?_⟩⟩
          rw [hK]
          exact q2 _ _ F2 H2 itok_zipL cf2.swap
    | _ => exact q2.elim
  | tup xs =>
    cases dy with
    | tup ys =>
      cases rx with
      | @tup a vs _ t1 r1 =>
        cases ry with
        | @tup b ws _ t2 r2 =>
          refine ⟨a, b, vs, ws, rfl, .inr ⟨by rw [hK]; exact same_sqT cf2.sub t1, by rw [hK]; exact same_sqT cf2.sub t2, ?_⟩⟩
          rw [hK]
          exact q2 _ _ F2 H2 itok_zipT cf2.swap
    | _ => exact q2.elim
  | _ => exact q2.elim
theorem pi_enumF {e : Expr} {p pos tpos : Pos} {elts : List Expr} {kk : Nat} {m : Env → Res D} (hK : X.K = T.K) (hg : Gl X "enumerate") (hm : X.mg "enumerate" = none) (h1 : PE X e (tD T W m)) (s1 : Ex.star e = false) :
    PI X (.Tuple elts kk tpos) (.Call (.Name "enumerate" p) [e] [] pos) (tIt T W fun ρ => (m ρ).bind fun d ρ => match d with
      | .lst ds => .ok (enumD ds) ρ
      | _ => .stuck) := by
  refine (pi_enum (elts := elts) (kk := kk) (tpos := tpos) hg hm (pa_cons h1 pa_nil (star_cons [] _ s1)) (star_cons [] _ s1)).imp fun σ H R q => ?_
  obtain ⟨F, M, ρ, cf, q⟩ := q
  refine ⟨F, M, ρ, cf, (Out.bind q).imp fun d ρ1 q1 v1 F1 H1 cf1 => ?_⟩
  have r := cf1.rp
  cases d with
  | lst ds =>
    cases r with
    | @lst a vs _ t1 r1 =>
      refine ⟨a, vs, rfl, by rw [hK]; exact same_sqL cf1.sub t1, ?_⟩
      rw [hK]
      exact q1 _ _ F1 H1 itok_enumL cf1
  | _ => exact q1.elim

/-! ### targets -/
def Tg.slots : Tg → List Nat
  | .one i => [i]
  | .many is => is
/-- the reading of a target, and what the language does -/
def TgOk (T : Nm) (t : TG) (tg : Tg) : Prop := ∀ F H M ρ ρ1 σ x d (Q : St → Hp → Prop), Cf T F H ((.val d, x) :: M) ρ σ → setTg tg d ρ = some ρ1 →
  (∀ σ2, Cf T F H M ρ1 σ2 → σ2.length = σ.length → (∀ j, j ∉ tg.slots → σ2[j]? = σ[j]?) → Q σ2 H) → t x σ H Q
theorem tgok_one {i : Nat} (hi : ∀ (σ : St), X.N.length = σ.length → i < σ.length) : True := trivial
/-- the names one behind another -/
def gNames : List Nat → TGs
  | [] => gNil
  | i :: is => gCons (gName i) (gNames is)
theorem store_many {F H : Hp} : ∀ {is : List Nat} {ds : List D} {vs : List V} {M : Lv} {ρ : Env} {σ : St} (Q : St → Hp → Prop), Cf T F H M ρ σ → RpL T F vs ds → is.length = ds.length → (∀ i ∈ is, i < σ.length) →
    (∀ σ2, Cf T F H M ((is.zip ds).foldl (fun ρ p => ρ.set p.1 (some (.val p.2))) ρ) σ2 → σ2.length = σ.length → (∀ j, j ∉ is → σ2[j]? = σ[j]?) → Q σ2 H) → gNames is vs σ H Q
  | [], [], vs, M, ρ, σ, Q, cf, r, _, _, k => by
    cases r
    exact ⟨rfl, k σ cf rfl fun _ _ => rfl⟩
  | i :: is, d :: ds, _, M, ρ, σ, Q, cf, r, l, hi, k => by
    cases r with
    | @cons v vs _ _ r1 r2 =>
      refine ⟨v, vs, rfl, ?_⟩
      have hi0 := hi i (by simp)
      have cf1 := Cf.into (i := i) (cf.val r1) hi0
      refine store_many (is := is) (ds := ds) Q cf1 r2 (by simpa using l) (fun j hj => by rw [List.length_set]; exact hi j (by simp [hj])) fun σ2 cf2 l2 e2 => ?_
      refine k σ2 cf2 (by rw [l2, List.length_set]) fun j hj => ?_
      simp only [List.mem_cons, not_or] at hj
      rw [e2 j hj.2, List.getElem?_set_ne (Ne.symm hj.1)]
  | [], _ :: _, _, _, _, _, _, _, _, l, _, _ => by simp at l
  | _ :: _, [], _, _, _, _, _, _, _, l, _, _ => by simp at l
def Tg.rd (K : PySem.W.Frag) : Tg → TG
  | .one i => gName i
  | .many is => gTup K is.length (gNames is)
/-- its slots are there -/
def TgIn (n : Nat) (tg : Tg) : Prop := ∀ i ∈ tg.slots, i < n
theorem tg_ok {K : PySem.W.Frag} {n : Nat} (hK : K = T.K) {tg : Tg} (hi : TgIn n tg) {F H : Hp} {ρ ρ1 : Env} {x : V} {d : D} {Q : St → Hp → Prop} (hn : σ.length = n) (cf : Cf T F H ((.val d, x) :: M) ρ σ) (e : setTg tg d ρ = some ρ1)
    (k : ∀ σ2, Cf T F H M ρ1 σ2 → σ2.length = σ.length → (∀ j, j ∉ tg.slots → σ2[j]? = σ[j]?) → Q σ2 H) : tg.rd K x σ H Q := by
  cases tg with
  | one i =>
    cases e
    have h0 : i < σ.length := by rw [hn]; exact hi i (by simp [Tg.slots])
    refine k _ (cf.into h0) (by simp) fun j hj => ?_
    have : j ≠ i := fun z => hj (by simp [Tg.slots, z])
    rw [List.getElem?_set_ne (Ne.symm this)]
  | many is =>
    cases d with
    | tup ds =>
      have e : (if is.length = ds.length then some ((is.zip ds).foldl (fun ρ p => ρ.set p.1 (some (R.val p.2))) ρ) else none) = some ρ1 := e
      split at e
      · rename_i l
        cases e
        have r := cf.rp
        cases r with
        | @tup a xs _ t r =>
          refine ⟨a, xs, rfl, by rw [hK]; exact same_sqT cf.sub t, by rw [r.len, l], ?_⟩
          exact store_many Q cf.tail r l (fun i hj => by rw [hn]; exact hi i hj) k
      · cases e
    | _ => cases e

/-! ### the slots of a comprehension's own names -/
theorem wipe_set_ne {σ : St} {i : Nat} {x : Option V} : ∀ {vs : List Nat}, i ∉ vs → wipe (σ.set i x) vs = (wipe σ vs).set i x
  | [], _ => rfl
  | v :: vs, h => by
    simp only [List.mem_cons, not_or] at h
    unfold wipe
    rw [wipe_set_ne h.2, List.set_comm _ _ (fun z => h.1 z)]
theorem wipe_get {σ : St} : ∀ {vs : List Nat} {j : Nat}, j ∉ vs → (wipe σ vs)[j]? = σ[j]?
  | [], _, _ => rfl
  | v :: vs, j, h => by
    simp only [List.mem_cons, not_or] at h
    unfold wipe
    rw [List.getElem?_set_ne (fun z => h.1 z.symm), wipe_get h.2]
theorem wipe_none {σ : St} : ∀ {vs : List Nat} {j : Nat}, j ∈ vs → j < σ.length → (wipe σ vs)[j]? = some none
  | v :: vs, j, h, hl => by
    unfold wipe
    by_cases e : v = j
    · subst e; rw [List.getElem?_set_self (by rw [wipe_length]; exact hl)]
    · rw [List.getElem?_set_ne e]
      exact wipe_none (by rcases List.mem_cons.mp h with q | q; exact absurd q.symm e; exact q) hl
/-- equal outside the slots: equal when they are wiped -/
theorem wipe_eq {σ τ : St} {vs : List Nat} (hl : σ.length = τ.length) (h : ∀ j, j ∉ vs → σ[j]? = τ[j]?) : wipe σ vs = wipe τ vs := by
  apply List.ext_getElem?
  intro j
  by_cases hj : j ∈ vs
  · by_cases hlt : j < σ.length
    · rw [wipe_none hj hlt, wipe_none hj (by rw [← hl]; exact hlt)]
    · rw [List.getElem?_eq_none (by rw [wipe_length]; omega), List.getElem?_eq_none (by rw [wipe_length, ← hl]; omega)]
  · rw [wipe_get hj, wipe_get hj, h j hj]
theorem wipe_wipe {σ : St} {vs ws : List Nat} (h : ∀ j ∈ ws, j ∈ vs) : wipe (wipe σ ws) vs = wipe σ vs :=
  wipe_eq (by rw [wipe_length]) fun j hj => wipe_get fun z => hj (h j z)
theorem wipeE_at {ρ : Env} : ∀ {vs : List Nat} {j : Nat}, j ∉ vs → (wipeE ρ vs)[j]? = ρ[j]?
  | [], _, _ => rfl
  | v :: vs, j, h => by
    simp only [List.mem_cons, not_or] at h
    unfold wipeE
    rw [List.getElem?_set_ne (fun z => h.1 z.symm), wipeE_at h.2]
theorem restE_set {ρ0 ρ : Env} {i : Nat} {x : Option R} : ∀ {vs : List Nat}, i ∉ vs → restE ρ0 (ρ.set i x) vs = (restE ρ0 ρ vs).set i x
  | [], _ => rfl
  | v :: vs, h => by
    simp only [List.mem_cons, not_or] at h
    unfold restE
    rw [restE_set h.2, List.set_comm _ _ (fun z => h.1 z)]
/-- the own names' values are put aside, and come back -/
theorem Cf.aside {F H : Hp} {ρ : Env} : ∀ {vs : List Nat}, vs.Nodup → (∀ i ∈ vs, i < σ.length) → Cf T F H M ρ σ → ∃ S : Lv, Cf T F H (S ++ M) (wipeE ρ vs) (wipe σ vs) ∧
    ∀ F' H' M' ρ', Cf T F' H' (S ++ M') ρ' (wipe σ vs) → Cf T F' H' M' (restE ρ ρ' vs) σ
  | [], _, _, cf => ⟨[], cf, fun F' H' M' ρ' q => q⟩
  | i :: vs, nd, hi, cf => by
    simp only [List.nodup_cons] at nd
    obtain ⟨S, c1, back⟩ := Cf.aside (vs := vs) nd.2 (fun j hj => hi j (by simp [hj])) cf
    have hlt : i < σ.length := hi i (by simp)
    cases z : ρ.at i with
    | none =>
      have c2 := Cf.forget (i := i) c1 none
      refine ⟨S, c2, fun F' H' M' ρ' q => ?_⟩
      have q1 := Cf.forget (i := i) q (σ[i])
      have e1 : (((wipe σ vs).set i none).set i (σ[i])) = wipe σ vs := by
        rw [List.set_set]
        refine set_same ?_
        rw [wipe_get nd.1, List.getElem?_eq_getElem hlt]
      rw [show wipe σ (i :: vs) = (wipe σ vs).set i none from rfl, e1] at q1
      have q2 := back F' H' M' _ q1
      rw [restE_set nd.1] at q2
      show Cf T F' H' M' ((restE ρ ρ' vs).set i (ρ.at i)) σ
      rw [z]
      exact q2
    | some r =>
      have ez := at_get z
      have ez2 : (wipeE ρ vs)[i]? = some (some r) := by rw [wipeE_at nd.1]; exact ez
      obtain ⟨v, ev, c2⟩ := Cf.out (M := S ++ M) c1 ez2
      have c3 := Cf.forget (i := i) c2 none
      rw [List.set_set] at c3
      refine ⟨(r, v) :: S, c3, fun F' H' M' ρ' q => ?_⟩
      have q1 := Cf.into (i := i) (M := S ++ M') q (by rw [wipe_length]; exact hlt)
      have e1 : ((wipe σ (i :: vs)).set i (some v)) = wipe σ vs := by
        show (((wipe σ vs).set i none).set i (some v)) = _
        rw [List.set_set]
        exact set_same ev
      rw [e1] at q1
      have q2 := back F' H' M' _ q1
      rw [restE_set nd.1] at q2
      show Cf T F' H' M' ((restE ρ ρ' vs).set i (ρ.at i)) σ
      rw [z]
      exact q2
theorem Cf.wipeAll {F H : Hp} {ρ : Env} (cf : Cf T F H M ρ σ) : ∀ vs : List Nat, Cf T F H M (wipeE ρ vs) (wipe σ vs)
  | [] => cf
  | v :: vs => (Cf.wipeAll cf vs).forget none

/-! ### comprehensions -/
abbrev W0 : WX := fun _ _ _ _ => False
theorem Out.of_calm {α : Type} {x : Res α} {K : α → Env → Prop} (h : Out T W σ M x.calm K) : ∃ a ρ, x = .ok a ρ ∧ K a ρ := by
  cases x with
  | ok a ρ => exact ⟨a, ρ, rfl, h⟩
  | exc c d ρ => exact h.elim
  | stuck => exact h.elim
theorem bind_ok {α β : Type} {x : Res α} {k : α → Env → Res β} {b : β} {ρ : Env} (h : x.bind k = .ok b ρ) : ∃ a ρ1, x = .ok a ρ1 ∧ k a ρ1 = .ok b ρ := by
  cases x with
  | ok a ρ1 => exact ⟨a, ρ1, rfl, h⟩
  | exc c d ρ => cases h
  | stuck => cases h
theorem _root_.L2.PE.impL {X : Cx} {e : Expr} {t t' : TE} (h : PE X e t) (k : ∀ σ H Q, σ.length = X.N.length → t' σ H Q → t σ H Q) : PE X e t' := ⟨fun pins s σ H Q I q => h.run pins s σ H Q I (k σ H Q I.len q)⟩
theorem perm_rot {α : Type} {A B C : List α} : (A ++ (B ++ C)).Perm (B ++ (A ++ C)) := by
  rw [← List.append_assoc, ← List.append_assoc]
  exact List.Perm.append_right _ List.perm_append_comm
theorem perm_in {α : Type} {x : α} {A B C : List α} : (x :: (A ++ (B ++ C))).Perm (B ++ (x :: (A ++ C))) := (List.Perm.cons _ perm_rot).trans perm_out.symm
theorem perm_in2 {α : Type} {x : α} {A B : List α} : (x :: (A ++ B)).Perm (A ++ (x :: B)) := perm_out.symm
/-- a turn's end: one more item -/
theorem Cf.push {F H : Hp} {ρ : Env} {D : Addr} {acc : List Fx.D} {x : Fx.D} {v : V} (cf : Cf T F H ((.val x, v) :: (.lst acc, .ref D) :: M) ρ σ) : ∃ av, H D = some (.lst av) ∧ av.length = acc.length ∧ Cf T F (upd H D (.lst (av ++ [v]))) ((.lst (acc ++ [x]), .ref D) :: M) ρ σ := by
  have r := cf.rp
  have c1 := cf.swap
  obtain ⟨av, e, rr⟩ := c1.lstAt
  exact ⟨av, e, rr.len, (c1.put (rr.app (.cons r .nil))).swap.tail⟩
/-- the invariant of a comprehension's turns -/
theorem lc_turns {own : List Nat} {it : Tg} {c : Env → Res Bool} {el : Env → Res D} {S Sv : Lv} {ds acc : List D} {ρ2 : Env} {J : It} {D : Addr} {Qd : Hp → Prop} {n : Nat} {τ : St} {K : PySem.W.Frag} (hK : K = T.K)
    (itk : ItOk T J S ds) (hn : τ.length = n) (hin : TgIn n it) (htg : ∀ i ∈ it.slots, i ∈ own) (hw : wipe τ own = τ) {F1 H1 : Hp} {ρ1 : Env} {acc1 : List Fx.D} (cf : Cf T F1 H1 ((.lst acc1, .ref D) :: (Sv ++ (S ++ M))) ρ1 τ)
    (e : compF own it c el ds ρ1 acc1 = .ok acc ρ2)
    (fin : ∀ F H, Cf T F H ((.lst acc, .ref D) :: (Sv ++ (S ++ M))) ρ2 τ → Qd H) :
    ∃ Wv : Nat → Nat → Hp → Prop, (∃ m, Wv 0 m H1) ∧ ∀ i m H, Wv i m H →
      (J.stop i H ∧ Qd H) ∨ (J.go i H ∧ ∃ Nx : Hp → Prop, (∀ H', Nx H' → ∃ m', m' < m ∧ Wv (i + 1) m' H') ∧ ∀ x H', J.yld i H x H' → (it.rd K) x τ H' fun σ2 H2 => wipe σ2 own = τ ∧ tT T W0 c σ2 H2 fun b H3 =>
        if b = true then tD T W0 el σ2 H3 fun y H4 => ∃ acc, H4 D = some (.lst acc) ∧ acc.length < sizeLine ∧ Nx (upd H4 D (.lst (acc ++ [y]))) else Nx H3) := by
  refine ⟨fun i m H => m = ds.length - i ∧ i ≤ ds.length ∧ ∃ F ρ a0, Cf T F H ((.lst a0, .ref D) :: (Sv ++ (S ++ M))) ρ τ ∧ compF own it c el (ds.drop i) ρ a0 = .ok acc ρ2, ⟨_, rfl, Nat.zero_le _, F1, ρ1, acc1, cf, e⟩, ?_⟩
  rintro i m H ⟨rfl, hi, F, ρ, a0, cf, e⟩
  by_cases hlt : i < ds.length
  · right
    rw [List.drop_eq_getElem_cons hlt] at e
    obtain ⟨g, y⟩ := itk.go (cf.permM perm_in) (List.getElem?_eq_getElem hlt)
    refine ⟨g, fun H' => ∃ F ρ a0, Cf T F H' ((.lst a0, .ref D) :: (Sv ++ (S ++ M))) ρ τ ∧ compF own it c el (ds.drop (i + 1)) ρ a0 = .ok acc ρ2, fun H' p => ⟨ds.length - (i + 1), by omega, rfl, hlt, p⟩, fun x H' yx => ?_⟩
    obtain ⟨F', cf'⟩ := y x H' yx
    have cf2 : Cf T F' H' ((.val ds[i], x) :: ((.lst a0, .ref D) :: (Sv ++ (S ++ M)))) ρ τ := cf'.permM (List.Perm.cons _ perm_in.symm)
    unfold compF at e
    cases es : setTg it ds[i] ρ with
    | none => rw [es] at e; cases e
    | some ρa =>
      rw [es] at e
      obtain ⟨b, ρb, ec, e⟩ := bind_ok e
      refine tg_ok hK hin hn cf2 es fun σ2 cfa l2 o2 => ?_
      have ew : wipe σ2 own = τ := (wipe_eq l2 fun j hj => o2 j fun z => hj (htg j z)).trans hw
      refine ⟨ew, F', _, ρa, cfa, ?_⟩
      rw [ec]
      intro F3 H3 cfb
      cases b with
      | true =>
        obtain ⟨xd, ρc, ee, e⟩ := bind_ok (show ((el ρb).bind _) = _ from e)
        split at e
        · rename_i hl
          rw [if_pos rfl]
          refine ⟨F3, _, ρb, cfb, ?_⟩
          rw [ee]
          intro v F4 H4 cf4
          obtain ⟨av, e4, l4, cf5⟩ := cf4.push
          refine ⟨av, e4, by rw [l4, ← line_eq]; exact hl, F4, wipeE ρc own, a0 ++ [xd], ?_, e⟩
          have c6 := cf5.wipeAll own
          rw [ew] at c6
          exact c6
        · cases e
      | false =>
        rw [if_neg Bool.false_ne_true]
        have c6 := cfb.wipeAll own
        rw [ew] at c6
        exact ⟨F3, wipeE ρb own, a0, c6, e⟩
  · left
    have ei : i = ds.length := by omega
    subst ei
    rw [List.drop_length] at e
    cases e
    exact ⟨itk.stop (cf.permM perm_in) (Nat.le_refl _), fin F H cf⟩
theorem lc_imp {K : PySem.W.Frag} {n : Nat} {own : List (Str × Nat)} {it : Tg} {src : Env → Res (List D)} {c : Env → Res Bool} {el : Env → Res D}
    (hK : K = T.K) (nd : (own.map (·.2)).Nodup) (hin : ∀ i ∈ own.map (·.2), i < n) (htg : ∀ i ∈ it.slots, i ∈ own.map (·.2)) {H : Hp} {Q : VK} (hl : σ.length = n)
    (q : (tM T W (fun ρ => (src ρ).bind fun ds ρ => ((compF (own.map (·.2)) it c el ds (wipeE ρ (own.map (·.2))) []).bind fun acc ρ' => .ok (.lst acc) (restE ρ ρ' (own.map (·.2)))).calm)) σ H Q) : tLc (tIt T W src) (it.rd K) (tT T W0 c) (tD T W0 el) (own.map (·.2)) σ H Q := by
  obtain ⟨F, M, ρ, cf, q⟩ := q
  refine ⟨F, M, ρ, cf, (Out.bind q).imp fun ds ρ1 q1 J S F1 H1 itk cf1 D nD => ?_⟩
  obtain ⟨r, ρ', e, k⟩ := Out.of_calm q1
  obtain ⟨acc, ρ2, e1, e2⟩ := bind_ok e
  cases e2
  obtain ⟨Sv, c2, back⟩ := cf1.aside nd (fun i hi => by rw [hl]; exact hin i hi)
  have c3 := c2.own nD .nil
  refine lc_turns (Qd := fun H => Q (.ref D) H) hK itk (by rw [wipe_length]; exact hl) (fun i hi => hin i (htg i hi)) htg (wipe_wipe fun _ h => h) c3 e1 fun F H cfe => ?_
  have c4 := back F H ((.lst acc, .ref D) :: (S ++ M)) ρ2 (cfe.permM perm_in2)
  exact k _ F H (Cf.dropL (P := S) (c4.permM perm_in2))
theorem pe_lcF {elt tg iter : Expr} {ifs : List Expr} {scope : Scope} {own : List (Str × Nat)} {pos : Pos} {it : Tg} {src : Env → Res (List D)} {c : Env → Res Bool} {el : Env → Res D}
    (hc : X.calm = true) (hK : X.K = T.K) (hN : X.N.Nodup) (hi : PI X tg iter (tIt T W src)) (ok : BlkOk X.N X.env.scope scope own) (nd : (own.map (·.2)).Nodup) (hin : ∀ i ∈ own.map (·.2), i < X.N.length)
    (htg : ∀ i ∈ it.slots, i ∈ own.map (·.2))
    (hg : ∀ (s : Shared) (H : Hp) (C : Addr) (cl : List (Str × Addr)) (fp : List Addr), PG (X.blk s H scope (compEnvC scope cl C X.env) fp) tg (it.rd X.K)) (ht : ∀ (s : Shared) (H : Hp) (C : Addr) (cl : List (Str × Addr)) (fp : List Addr), PTs (X.blk s H scope (compEnvC scope cl C X.env) fp) ifs (tT T W0 c))
    (he : ∀ (s : Shared) (H : Hp) (C : Addr) (cl : List (Str × Addr)) (fp : List Addr), PE (X.blk s H scope (compEnvC scope cl C X.env) fp) elt (tD T W0 el)) (hs : Ex.isSet iter = false) :
    PE X (.ListComp elt [⟨tg, iter, ifs, 0⟩] scope pos) (tM T W fun ρ => (src ρ).bind fun ds ρ => ((compF (own.map (·.2)) it c el ds (wipeE ρ (own.map (·.2))) []).bind fun acc ρ' => .ok (.lst acc) (restE ρ ρ' (own.map (·.2)))).calm) := by
  exact (pe_lc hc hN hi ok hg ht he (fold_plain hs)).impL fun σ H Q hl q => lc_imp hK nd hin htg hl q
theorem lc2_imp {K : PySem.W.Frag} {n : Nat} {own : List (Str × Nat)} {vs1 : List Nat} {it it1 : Tg} {src src1 : Env → Res (List D)} {c : Env → Res Bool} {el : Env → Res D}
    (hK : K = T.K) (nd : (own.map (·.2)).Nodup) (hin : ∀ i ∈ own.map (·.2), i < n) (hv : ∀ i ∈ vs1, i ∈ own.map (·.2)) (htg : ∀ i ∈ it.slots, i ∈ own.map (·.2)) (htg1 : ∀ i ∈ it1.slots, i ∈ vs1) {H : Hp} {Q : VK} (hl : σ.length = n)
    (q : (tM T W (fun ρ => (src ρ).bind fun ds ρ => ((compF2 (own.map (·.2)) it (fun ρ => (src1 ρ).bind fun es ρ => .ok es (wipeE ρ vs1)) (compF vs1 it1 c el) ds (wipeE ρ (own.map (·.2))) []).bind fun acc ρ' => .ok (.lst acc) (restE ρ ρ' (own.map (·.2)))).calm)) σ H Q) : tLc2 (tIt T W src) (it.rd K) tYes (tIt T W0 src1) (it1.rd K) (tT T W0 c) (tD T W0 el) (own.map (·.2)) vs1 σ H Q := by
  obtain ⟨F, M, ρ, cf, q⟩ := q
  refine ⟨F, M, ρ, cf, (Out.bind q).imp fun ds ρ1 q1 J S F1 H1 itk cf1 D nD => ?_⟩
  obtain ⟨r, ρ', e, k⟩ := Out.of_calm q1
  obtain ⟨acc, ρ2, e1, e2⟩ := bind_ok e
  cases e2
  obtain ⟨Sv, c2, back⟩ := cf1.aside nd (fun i hi => by rw [hl]; exact hin i hi)
  have c3 := c2.own nD .nil
  generalize hvs : own.map (·.2) = vs at *
  have hw : wipe (wipe σ vs) vs = wipe σ vs := wipe_wipe fun _ h => h
  refine ⟨fun i m H => m = ds.length - i ∧ i ≤ ds.length ∧ ∃ F ρ a0, Cf T F H ((.lst a0, .ref D) :: (Sv ++ (S ++ M))) ρ (wipe σ vs) ∧ compF2 vs it (fun ρ => (src1 ρ).bind fun es ρ => .ok es (wipeE ρ vs1)) (compF vs1 it1 c el) (ds.drop i) ρ a0 = .ok acc ρ2, ⟨_, rfl, Nat.zero_le _, F1, _, [], c3, e1⟩, ?_⟩
  rintro i m H ⟨rfl, hi, F, ρ, a0, cf, e⟩
  by_cases hlt : i < ds.length
  · right
    rw [List.drop_eq_getElem_cons hlt] at e
    obtain ⟨g, y⟩ := itk.go (cf.permM perm_in) (List.getElem?_eq_getElem hlt)
    refine ⟨g, fun H' => ∃ F ρ a0, Cf T F H' ((.lst a0, .ref D) :: (Sv ++ (S ++ M))) ρ (wipe σ vs) ∧ compF2 vs it (fun ρ => (src1 ρ).bind fun es ρ => .ok es (wipeE ρ vs1)) (compF vs1 it1 c el) (ds.drop (i + 1)) ρ a0 = .ok acc ρ2, fun H' p => ⟨ds.length - (i + 1), by omega, rfl, hlt, p⟩, fun x H' yx => ?_⟩
    obtain ⟨F', cf'⟩ := y x H' yx
    have cf2 : Cf T F' H' ((.val ds[i], x) :: ((.lst a0, .ref D) :: (Sv ++ (S ++ M)))) ρ (wipe σ vs) := cf'.permM (List.Perm.cons _ perm_in.symm)
    unfold compF2 at e
    cases es : setTg it ds[i] ρ with
    | none => rw [es] at e; cases e
    | some ρa =>
      rw [es] at e
      obtain ⟨es', ρb, ec, e⟩ := bind_ok e
      obtain ⟨es2, ρb', ec1, ec2⟩ := bind_ok (k := fun es ρ => Res.ok es (wipeE ρ vs1)) ec
      cases ec2
      obtain ⟨acc', ρc, ei, e⟩ := bind_ok e
      refine tg_ok hK (fun i hi => hin i (htg i hi)) (by rw [wipe_length]; exact hl) cf2 es fun σ2 cfa l2 o2 => ?_
      have ew : wipe σ2 vs = wipe σ vs := (wipe_eq l2 fun j hj => o2 j fun z => hj (htg j z)).trans hw
      refine ⟨ew, ?_⟩
      dsimp only [tYes]
      rw [if_pos rfl]
      refine ⟨F', _, ρa, cfa, ?_⟩
      rw [ec1]
      intro J1 S1 F3 H3 itk1 cfb
      have cfw := cfb.wipeAll vs1
      have l2' : σ2.length = n := by rw [l2, wipe_length]; exact hl
      refine lc_turns (Sv := []) (M := Sv ++ (S ++ M)) (S := S1) (own := vs1) (it := it1) (τ := wipe σ2 vs1) hK itk1 (by rw [wipe_length]; exact l2') (fun i hi => hin i (hv i (htg1 i hi))) htg1 (wipe_wipe fun _ h => h) (cfw.permM perm_in2.symm) ei fun F4 H4 cfe => ?_
      have c5 : Cf T F4 H4 ((.lst acc', .ref D) :: (Sv ++ (S ++ M))) ρc (wipe σ2 vs1) := Cf.dropL (P := S1) (Cf.permM cfe (show ((R.lst acc', V.ref D) :: (S1 ++ (Sv ++ (S ++ M)))).Perm _ from perm_in2))
      have c6 := c5.wipeAll vs
      rw [wipe_wipe hv, ew] at c6
      exact ⟨F4, _, acc', c6, e⟩
  · left
    have ei : i = ds.length := by omega
    subst ei
    rw [List.drop_length] at e
    cases e
    refine ⟨itk.stop (cf.permM perm_in) (Nat.le_refl _), ?_⟩
    have c4 := back F H ((.lst acc, .ref D) :: (S ++ M)) ρ2 (cf.permM perm_in2)
    exact k _ F H (Cf.dropL (P := S) (c4.permM perm_in2))
/-- the turns of the first of two clauses -/
theorem pe_lc2F {elt tg iter tg1 iter1 : Expr} {ifs1 : List Expr} {scope : Scope} {own : List (Str × Nat)} {vs1 : List Nat} {pos : Pos} {it it1 : Tg} {src src1 : Env → Res (List D)} {c : Env → Res Bool} {el : Env → Res D}
    (hc : X.calm = true) (hK : X.K = T.K) (hN : X.N.Nodup) (hi : PI X tg iter (tIt T W src)) (ok : BlkOk X.N X.env.scope scope own) (nd : (own.map (·.2)).Nodup) (hin : ∀ i ∈ own.map (·.2), i < X.N.length) (hv : ∀ i ∈ vs1, i ∈ own.map (·.2)) (nd1 : vs1.Nodup)
    (htg : ∀ i ∈ it.slots, i ∈ own.map (·.2)) (htg1 : ∀ i ∈ it1.slots, i ∈ vs1)
    (hg : ∀ (s : Shared) (H : Hp) (C : Addr) (cl : List (Str × Addr)) (fp : List Addr), PG (X.blk s H scope (compEnvC scope cl C X.env) fp) tg (it.rd X.K))
    (hi1 : ∀ (s : Shared) (H : Hp) (C : Addr) (cl : List (Str × Addr)) (fp : List Addr), PI (X.blk s H scope (compEnvC scope cl C X.env) fp) tg1 iter1 (tIt T W0 src1))
    (hg1 : ∀ (s : Shared) (H : Hp) (C : Addr) (cl : List (Str × Addr)) (fp : List Addr), PG (X.blk s H scope (compEnvC scope cl C X.env) fp) tg1 (it1.rd X.K)) (ht1 : ∀ (s : Shared) (H : Hp) (C : Addr) (cl : List (Str × Addr)) (fp : List Addr), PTs (X.blk s H scope (compEnvC scope cl C X.env) fp) ifs1 (tT T W0 c))
    (he : ∀ (s : Shared) (H : Hp) (C : Addr) (cl : List (Str × Addr)) (fp : List Addr), PE (X.blk s H scope (compEnvC scope cl C X.env) fp) elt (tD T W0 el)) (hs : Ex.isSet iter = false) (hs1 : Ex.isSet iter1 = false) :
    PE X (.ListComp elt [⟨tg, iter, [], 0⟩, ⟨tg1, iter1, ifs1, 0⟩] scope pos) (tM T W fun ρ => (src ρ).bind fun ds ρ => ((compF2 (own.map (·.2)) it (fun ρ => (src1 ρ).bind fun es ρ => .ok es (wipeE ρ vs1)) (compF vs1 it1 c el) ds (wipeE ρ (own.map (·.2))) []).bind fun acc ρ' => .ok (.lst acc) (restE ρ ρ' (own.map (·.2)))).calm) := by
  exact (pe_lc2 hc hN hi ok hv hg (fun _ _ _ _ _ => pts_nil) hi1 hg1 ht1 he (fold_plain hs) (fun _ => fold_plain hs1)).impL fun σ H Q hl q => lc2_imp hK nd hin hv htg htg1 hl q
end Fx
end
section
set_option linter.all false
set_option Elab.async false
set_option maxRecDepth 100000
set_option maxHeartbeats 4000000
/-! What the language computes is what the model does: statements. -/
namespace Fx
open PySem PySem.Spec L2
variable {T : Nm} {W : WX} {X : Cx} {σ : St} {M : Lv} {g : G} {Φ : Fn} {wr : List Nat}

/-- the slots outside wr are as they were -/
def Ag (wr : List Nat) (σ σ' : St) : Prop := σ'.length = σ.length ∧ ∀ j, j ∉ wr → σ'[j]? = σ[j]?
theorem Ag.refl : Ag wr σ σ := ⟨rfl, fun _ _ => rfl⟩
theorem Ag.trans {σ1 σ2 σ3 : St} (a : Ag wr σ1 σ2) (b : Ag wr σ2 σ3) : Ag wr σ1 σ3 := ⟨b.1.trans a.1, fun j hj => (b.2 j hj).trans (a.2 j hj)⟩
theorem Ag.set {i : Nat} {x : Option V} (hi : i ∈ wr) : Ag wr σ (σ.set i x) := ⟨by simp, fun j hj => List.getElem?_set_ne fun (e : i = j) => hj (by rw [← e]; exact hi)⟩
theorem Ag.of {l : List Nat} {σ2 : St} (h1 : σ2.length = σ.length) (h2 : ∀ j, j ∉ l → σ2[j]? = σ[j]?) (s : ∀ i ∈ l, i ∈ wr) : Ag wr σ σ2 := ⟨h1, fun j hj => h2 j fun z => hj (s j z)⟩

/-- what is wanted behind a statement -/
def SOut (T : Nm) (W : WX) (wr : List Nat) (M : Lv) (x : SRes) (D : Ends) (σ0 : St) : Prop := match x with
  | .nx ρ => ∀ σ F H, Ag wr σ0 σ → Cf T F H M ρ σ → D.nx σ H
  | .rt r ρ => ∀ σ v F H, Ag wr σ0 σ → Cf T F H ((r, v) :: M) ρ σ → D.rt v H
  | .bk ρ => ∀ σ F H, Ag wr σ0 σ → Cf T F H M ρ σ → D.bk σ H
  | .ct ρ => ∀ σ F H, Ag wr σ0 σ → Cf T F H M ρ σ → D.ct σ H
  | .exc c d ρ => ∀ σ, Ag wr σ0 σ → ExcW T W σ M c d ρ
  | .stuck => False
def tS (T : Nm) (W : WX) (wr : List Nat) (m : Env → SRes) : TS := fun D σ H => ∃ F M ρ, Cf T F H M ρ σ ∧ SOut T W wr M (m ρ) D σ
theorem SOut.ag {x : SRes} {D : Ends} {σ0 σ1 : St} (h : SOut T W wr M x D σ0) (a : Ag wr σ0 σ1) : SOut T W wr M x D σ1 := by
  cases x with
  | nx ρ => exact fun σ F H b => h σ F H (a.trans b)
  | rt r ρ => exact fun σ v F H b => h σ v F H (a.trans b)
  | bk ρ => exact fun σ F H b => h σ F H (a.trans b)
  | ct ρ => exact fun σ F H b => h σ F H (a.trans b)
  | exc c d ρ => exact fun σ b => h σ (a.trans b)
  | stuck => exact h
theorem SOut.wkL {P : Lv} {x : SRes} {D : Ends} {σ0 : St} (h : SOut T W wr M x D σ0) : SOut T W wr (P ++ M) x D σ0 := by
  cases x with
  | nx ρ => exact fun σ F H a cf => h σ F H a cf.dropL
  | rt r ρ => exact fun σ v F H a cf => h σ v F H a (Cf.dropL (P := P) (cf.permM perm_in2))
  | bk ρ => exact fun σ F H a cf => h σ F H a cf.dropL
  | ct ρ => exact fun σ F H a cf => h σ F H a cf.dropL
  | exc c d ρ => exact fun σ a v dd F H cf => h σ a v dd F H cf.dropL
  | stuck => exact h
/-- an expression, then a statement's rest -/
theorem SOut.thn {α : Type} {x : Res α} {k : α → Env → SRes} {D : Ends} (h : SOut T W wr M (x.thn k) D σ) : Out T W σ M x fun a ρ => SOut T W wr M (k a ρ) D σ := by
  cases x with
  | ok a ρ => exact h
  | exc c d ρ => exact h σ .refl
  | stuck => exact h
theorem _root_.L2.PS.impL {X : Cx} {st : Stmt} {t t' : TS} (h : PS X st t) (k : ∀ D σ H, σ.length = X.N.length → t' D σ H → t D σ H) : PS X st t' := ⟨fun pins s σ H D I q => h.run pins s σ H D I (k D σ H I.len q)⟩

section
variable {st : Stmt} {sts : List Stmt} {pos : Pos} {e : Expr}
/-! ### one behind another -/
theorem pss_nilF : PSs X [] (tS T W wr fun ρ => .nx ρ) := pss_nil.imp fun D σ H ⟨F, M, ρ, cf, q⟩ => q σ F H .refl cf
theorem pss_consF {m k : Env → SRes} (h1 : PS X st (tS T W wr m)) (h2 : PSs X sts (tS T W wr k)) : PSs X (st :: sts) (tS T W wr fun ρ => (m ρ).thn k) := by
  refine (pss_cons h1 h2).imp fun D σ H q => ?_
  obtain ⟨F, M, ρ, cf, q⟩ := q
  refine ⟨F, M, ρ, cf, ?_⟩
  have q : SOut T W wr M ((m ρ).thn k) D σ := q
  cases z : m ρ with
  | nx ρ1 =>
    rw [z] at q
    have q : SOut T W wr M (k ρ1) D σ := q
    exact fun σ1 F1 H1 a cf1 => ⟨F1, M, ρ1, cf1, q.ag a⟩
  | rt r ρ1 => rw [z] at q; exact q
  | bk ρ1 => rw [z] at q; exact q
  | ct ρ1 => rw [z] at q; exact q
  | exc c d ρ1 => rw [z] at q; exact q
  | stuck => rw [z] at q; exact q
theorem ps_pasF : PS X (.Pass pos) (tS T W wr fun ρ => .nx ρ) := ps_pass.imp fun D σ H ⟨F, M, ρ, cf, q⟩ => q σ F H .refl cf
theorem ps_brkF : PS X (.Break pos) (tS T W wr fun ρ => .bk ρ) := ps_break.imp fun D σ H ⟨F, M, ρ, cf, q⟩ => q σ F H .refl cf
theorem ps_cntF : PS X (.Continue pos) (tS T W wr fun ρ => .ct ρ) := ps_continue.imp fun D σ H ⟨F, M, ρ, cf, q⟩ => q σ F H .refl cf
/-! ### stores -/
theorem asg_imp {m : Env → Res R} {i : Nat} (hw : i ∈ wr) {D : Ends} {H : Hp} (hi : i < σ.length) (q : tS T W wr (fun ρ => (m ρ).thn fun r ρ => .nx (ρ.set i (some r))) D σ H) : tM T W m σ H fun x H1 => gName i x σ H1 D.nx := by
  obtain ⟨F, M, ρ, cf, q⟩ := q
  exact ⟨F, M, ρ, cf, q.thn.imp fun r ρ1 k v F1 H1 cf1 => k _ F1 H1 (.set hw) (cf1.into hi)⟩
theorem ps_asgF {i : Nat} {x : Str} {pos' : Pos} {m : Env → Res R} (hw : i ∈ wr) (hN : X.N.Nodup) (hi : X.N[i]? = some x) (hx : X.env.scope.names.lookup x = some .local ∨ (X.env.scope.names.lookup x = some .cell ∧ X.fn x = true)) (he : PE X e (tM T W m)) (hc : Ex.compr e = false) :
    PS X (.Assign [.Name x pos'] e pos) (tS T W wr fun ρ => (m ρ).thn fun r ρ => .nx (ρ.set i (some r))) := by
  refine (ps_set hN hi (hx.imp id And.left) he (swaps_plain hc) (hx.symm.imp And.right id)).impL fun D σ H hl q => asg_imp hw (by rw [hl]; exact (List.getElem?_eq_some_iff.mp hi).1) q
theorem ps_unpF {tg : Expr} {is : List Nat} {m : Env → Res D} (hK : X.K = T.K) (hw : ∀ i ∈ is, i ∈ wr) (hn : ∀ i ∈ is, i < X.N.length) (he : PE X e (tD T W m)) (hg : PG X tg ((Tg.many is).rd X.K)) (hc : Ex.compr e = false)
    (hs : swappedStores [tg] e X.env = pure none) (h1 : (assignEach [tg] X.env).map (·.2) = [assign tg X.env]) :
    PS X (.Assign [tg] e pos) (tS T W wr fun ρ => (m ρ).thn fun d ρ => match setTg (.many is) d ρ with
      | some ρ' => .nx ρ'
      | none => .stuck) := by
  refine (ps_asg he hg (by unfold swapsWithSole; exact swaps_plain hc) hs h1).impL fun D σ H hl q => ?_
  obtain ⟨F, M, ρ, cf, q⟩ := q
  refine ⟨F, M, ρ, cf, q.thn.imp fun d ρ1 k v F1 H1 cf1 => ?_⟩
  cases z : setTg (.many is) d ρ1 with
  | none => rw [z] at k; exact k.elim
  | some ρ2 =>
    rw [z] at k
    exact tg_ok hK (n := X.N.length) (tg := Tg.many is) hn hl cf1 z fun σ2 cf2 l2 o2 => k σ2 F1 H1 (.of l2 o2 hw) cf2
/-! ### ends -/
theorem ps_retF {m : Env → Res R} (he : PE X e (tM T W m)) : PS X (.Return (some e) pos) (tS T W wr fun ρ => (m ρ).thn fun r ρ => .rt r ρ) := by
  refine (ps_ret he).imp fun D σ H q => ?_
  obtain ⟨F, M, ρ, cf, q⟩ := q
  exact ⟨F, M, ρ, cf, q.thn.imp fun r ρ1 k v F1 H1 cf1 => k σ v F1 H1 .refl cf1⟩
theorem ps_retmF {i : Nat} (he : PE X e (tVar i)) : PS X (.Return (some e) pos) (tS T W wr fun ρ => match ρ.at i with
    | some r => .rt r (ρ.set i none)
    | none => .stuck) := by
  refine (ps_ret he).imp fun D σ H q => ?_
  obtain ⟨F, M, ρ, cf, q⟩ := q
  dsimp only at q
  cases z : ρ.at i with
  | none => rw [z] at q; exact q.elim
  | some r =>
    rw [z] at q
    obtain ⟨v, e1, cf1⟩ := cf.out (at_get z)
    exact ⟨v, e1, q σ v F H .refl cf1⟩
theorem ps_ret0F : PS X (.Return none pos) (tS T W wr fun ρ => .rt (.val .non) ρ) := by
  refine ps_retN.imp fun D σ H q => ?_
  obtain ⟨F, M, ρ, cf, q⟩ := q
  exact q σ .non F H .refl (cf.val .non)
theorem ps_exF {m : Env → Res R} (he : PE X e (tM T W m)) (hc : Ex.compr e = false) : PS X (.Expr e pos) (tS T W wr fun ρ => (m ρ).thn fun _ ρ => .nx ρ) := by
  refine (ps_expr he (swaps_plain hc)).imp fun D σ H q => ?_
  obtain ⟨F, M, ρ, cf, q⟩ := q
  exact ⟨F, M, ρ, cf, q.thn.imp fun r ρ1 k v F1 H1 cf1 => k σ F1 H1 .refl cf1.tail⟩
theorem ps_ifsF {c : Expr} {a b : List Stmt} {mc : Env → Res Bool} {ma mb : Env → SRes} (hc : PT X c (tT T W mc)) (ha : PSs X a (tS T W wr ma)) (hb : PSs X b (tS T W wr mb)) :
    PS X (.If c a b pos) (tS T W wr fun ρ => (mc ρ).thn fun k ρ => if k = true then ma ρ else mb ρ) := by
  refine (ps_if hc ha hb).imp fun D σ H q => ?_
  obtain ⟨F, M, ρ, cf, q⟩ := q
  refine ⟨F, M, ρ, cf, q.thn.imp fun k ρ1 q1 F1 H1 cf1 => ?_⟩
  cases k with
  | true => rw [if_pos rfl] at q1 ⊢; exact ⟨F1, M, ρ1, cf1, q1⟩
  | false => rw [if_neg Bool.false_ne_true] at q1 ⊢; exact ⟨F1, M, ρ1, cf1, q1⟩
/-! ### loops -/
theorem SOut.lp {x : SRes} {D : Ends} {σ0 : St} {k : Env → SRes} {N : St → Hp → Prop} (h : SOut T W wr M (match x with
      | .nx ρ2 => k ρ2
      | .ct ρ2 => k ρ2
      | .bk ρ2 => .nx ρ2
      | x => x) D σ0) (hN : ∀ ρ σ F H, SOut T W wr M (k ρ) D σ0 → Ag wr σ0 σ → Cf T F H M ρ σ → N σ H) : SOut T W wr M x { D with nx := N, ct := N, bk := D.nx } σ0 := by
  cases x with
  | nx ρ2 => exact fun σ F H a cf => hN ρ2 σ F H h a cf
  | ct ρ2 => exact fun σ F H a cf => hN ρ2 σ F H h a cf
  | bk ρ2 => exact h
  | rt r ρ => exact h
  | exc c d ρ => exact h
  | stuck => exact h
theorem ps_forF {iter tgE : Expr} {body : List Stmt} {tg : Tg} {src : Env → Res (List D)} {mb : Env → SRes} (hp : PassesOwn (model X.prog X.w) X.A X.env X.xe) (hc : X.calm = true) (hK : X.K = T.K) (hi : PI X tgE iter (tIt T W src)) (hg : PG X tgE (tg.rd X.K))
    (hin : TgIn X.N.length tg) (hw : ∀ i ∈ tg.slots, i ∈ wr) (hb : PSs X body (tS T W wr mb)) (hs : Ex.isSet iter = false) :
    PS X (.For tgE iter body [] pos) (tS T W wr fun ρ => (src ρ).thn fun ds ρ => forF tg mb ds ρ) := by
  refine (ps_for hp hc hi hg hb (fold_plain hs)).impL fun D σ H hl q => ?_
  obtain ⟨F, M, ρ, cf, q⟩ := q
  refine ⟨F, M, ρ, cf, q.thn.imp fun ds ρ1 q1 J S F1 H1 itk cf1 => ?_⟩
  refine ⟨fun i m σ' H => m = ds.length - i ∧ i ≤ ds.length ∧ Ag wr σ σ' ∧ ∃ F ρ, Cf T F H (S ++ M) ρ σ' ∧ SOut T W wr (S ++ M) (forF tg mb (ds.drop i) ρ) D σ, ⟨_, rfl, Nat.zero_le _, .refl, F1, ρ1, cf1, q1.wkL⟩, ?_⟩
  rintro i m σ' H ⟨rfl, hi, ag, F, ρ, cf, q⟩
  by_cases hlt : i < ds.length
  · right
    rw [List.drop_eq_getElem_cons hlt] at q
    obtain ⟨go, y⟩ := itk.go cf (List.getElem?_eq_getElem hlt)
    refine ⟨go, fun σ' H' => Ag wr σ σ' ∧ ∃ F ρ, Cf T F H' (S ++ M) ρ σ' ∧ SOut T W wr (S ++ M) (forF tg mb (ds.drop (i + 1)) ρ) D σ, fun σ' H' p => ⟨ds.length - (i + 1), by omega, rfl, hlt, p⟩, fun x H' yx => ?_⟩
    obtain ⟨F', cf'⟩ := y x H' yx
    unfold forF at q
    cases es : setTg tg ds[i] ρ with
    | none => rw [es] at q; exact q.elim
    | some ρa =>
      rw [es] at q
      refine tg_ok hK hin (ag.1.trans hl) cf' es fun σ2 cfa l2 o2 => ?_
      refine ⟨F', S ++ M, ρa, cfa, ?_⟩
      have a2 : Ag wr σ σ2 := ag.trans (.of l2 o2 hw)
      exact (SOut.lp q fun ρ σ3 F3 H3 h a3 cf3 => ⟨a3, F3, ρ, cf3, h⟩).ag a2
  · left
    have ei : i = ds.length := by omega
    subst ei
    rw [List.drop_length] at q
    exact ⟨itk.stop cf (Nat.le_refl _), q σ' F H ag cf⟩
end
end Fx
end
section
set_option linter.all false
set_option Elab.async false
set_option maxRecDepth 100000
set_option maxHeartbeats 4000000
/-! Statements that change lists and instances. -/
namespace Fx
open PySem PySem.Spec L2
variable {T : Nm} {W : WX} {X : Cx} {σ : St} {M : Lv} {g : G} {Φ : Fn} {wr : List Nat}

section
variable {pos : Pos} {e o : Expr}
/-- the list that a slot owns -/
theorem Cf.lst {F H : Hp} {ρ : Env} {i : Nat} {ds : List D} (cf : Cf T F H M ρ σ) (e : ρ.at i = some (.lst ds)) : ∃ p xs, σ[i]? = some (some (.ref p)) ∧ H p = some (.lst xs) ∧ RpL T F xs ds ∧ Cf T F H ((.lst ds, .ref p) :: M) (ρ.set i none) σ := by
  obtain ⟨v, e1, cf1⟩ := cf.out (at_get e)
  obtain ⟨p, rfl⟩ := cf1.lstRef
  obtain ⟨xs, h1, h2⟩ := cf1.lstAt
  exact ⟨p, xs, e1, h1, h2, cf1⟩
theorem ps_appF {x : Str} {i : Nat} {p0 p1 p2 : Pos} {m : Env → Res D} (ho : PE X (.Name x p0) (tVar i)) (he : PE X e (tD T W m)) (h1 : Ex.star e = false) (hl : (p1.endLine == p2.line) = true) :
    PS X (.Expr (.Call (.Attribute (.Name x p0) "append" p1) [e] [] p2) pos) (tS T W wr fun ρ => match ρ.at i with
    | some (.lst _) => (m ρ).thn fun d ρ => (match ρ.at i with
      | some (.lst ds) => if ds.length < LINE then .nx (ρ.set i (some (.lst (ds ++ [d])))) else .stuck
      | _ => .stuck)
    | _ => .stuck) := by
  refine (ps_expr (pe_bm (X := X) PySem.F.plainAttrs_list PySem.F.slot_list_append PySem.F.type_list_append mt_append ho (pa_cons he pa_nil (star_cons [] _ h1)) (att_plain rfl) (by rw [star_cons [] _ h1]; rfl) hl (star_cons [] _ h1) rfl) (swaps_plain rfl)).imp fun D σ H q => ?_
  obtain ⟨F, M, ρ, cf, q⟩ := q
  dsimp only at q
  cases z : ρ.at i with
  | none => rw [z] at q; exact q.elim
  | some r =>
    cases r with
    | lst ds0 =>
      rw [z] at q
      obtain ⟨p, xs, e1, e2, e3, _⟩ := cf.lst z
      refine ⟨_, e1, .inl ⟨rfl, xs, .inl (.inl e2)⟩, F, M, ρ, cf, (SOut.thn q).imp fun d ρ1 k v F1 H1 cf1 => ?_⟩
      cases z1 : ρ1.at i with
      | none => rw [z1] at k; exact k.elim
      | some r1 =>
        cases r1 with
        | lst ds =>
          rw [z1] at k
          dsimp only at k
          split at k
          · rename_i hlt
            have rv := cf1.rp
            obtain ⟨p', xs', f1, f2, f3, cf2⟩ := cf1.tail.lst z1
            rw [e1] at f1; cases f1
            refine ⟨p, xs', v, rfl, rfl, f2, by rw [f3.len, ← line_eq]; exact hlt, ?_⟩
            exact k _ F1 _ .refl ((cf2.put (f3.app (.cons rv .nil))).back e1)
          · exact k.elim
        | _ => rw [z1] at k; exact k.elim
    | _ => rw [z] at q; exact q.elim
theorem RpL.ins {F : Hp} {v : V} {d : D} {xs : List V} {ds : List D} (n : Nat) (r : Rp T F v d) (h : RpL T F xs ds) : RpL T F (xs.take n ++ [v] ++ xs.drop n) (ds.take n ++ d :: ds.drop n) := by
  rw [List.append_assoc]
  exact (h.take n).app (.cons r (h.drop n))
theorem ps_insrF {x : Str} {i : Nat} {ek : Expr} {p0 p1 p2 : Pos} {mk m : Env → Res D} (ho : PE X (.Name x p0) (tVar i)) (hk : PE X ek (tD T W mk)) (he : PE X e (tD T W m)) (h1 : Ex.star ek = false) (h2 : Ex.star e = false) (hl : (p1.endLine == p2.line) = true) :
    PS X (.Expr (.Call (.Attribute (.Name x p0) "insert" p1) [ek, e] [] p2) pos) (tS T W wr fun ρ => match ρ.at i with
    | some (.lst _) => (mk ρ).thn fun k ρ => (m ρ).thn fun d ρ => (match ρ.at i, k with
      | some (.lst ds), .int k => if ds.length < LINE ∧ 0 ≤ k ∧ k < 9223372036854775808 then .nx (ρ.set i (some (.lst (ds.take k.toNat ++ d :: ds.drop k.toNat)))) else .stuck
      | _, _ => .stuck)
    | _ => .stuck) := by
  refine (ps_expr (pe_bm (X := X) PySem.F.plainAttrs_list PySem.F.slot_list_insert PySem.F.type_list_insert mt_insert ho (pa_cons hk (pa_cons he pa_nil (star_cons [] _ h2)) (star_cons [e] _ h1)) (att_plain rfl) (by rw [star_cons [e] _ h1, star_cons [] _ h2]; rfl) hl (star_cons [e] _ h1) (by rw [star_cons [] _ h2]; rfl)) (swaps_plain rfl)).imp fun D σ H q => ?_
  obtain ⟨F, M, ρ, cf, q⟩ := q
  dsimp only at q
  cases z : ρ.at i with
  | none => rw [z] at q; exact q.elim
  | some r =>
    cases r with
    | lst ds0 =>
      rw [z] at q
      obtain ⟨p, xs, e1, e2, e3, _⟩ := cf.lst z
      refine ⟨_, e1, .inl ⟨rfl, xs, .inl (.inl e2)⟩, F, M, ρ, cf, (SOut.thn q).imp fun kd ρ1 k v F1 H1 cf1 => ?_⟩
      refine ⟨F1, _, ρ1, cf1, (SOut.thn (SOut.wkL (P := [(.val kd, v)]) k)).imp fun d ρ2 k v2 F2 H2 cf2 => ?_⟩
      cases z1 : ρ2.at i with
      | none => rw [z1] at k; exact k.elim
      | some r1 =>
        cases r1 with
        | lst ds =>
          cases kd with
          | int kn =>
            rw [z1] at k
            dsimp only at k
            split at k
            · rename_i hlt
              have rv := cf2.rp
              have rk := cf2.tail.rp
              cases rk
              obtain ⟨p', xs', f1, f2, f3, cf3⟩ := cf2.tail.tail.lst z1
              rw [e1] at f1; cases f1
              refine ⟨p, xs', kn, v2, rfl, rfl, f2, by rw [f3.len, ← line_eq]; exact hlt.1, hlt.2.1, by have := hlt.2.2; omega, ?_⟩
              have cf4 := ((cf3.put (f3.ins kn.toNat rv)).back e1).val (d := .int kn) (v := .int kn) (.int kn)
              exact k _ F2 _ .refl cf4
            · exact k.elim
          | _ => rw [z1] at k; exact k.elim
        | _ => rw [z1] at k; exact k.elim
    | _ => rw [z] at q; exact q.elim
theorem ps_setiF {x : Str} {i : Nat} {p0 p1 : Pos} {ek : Expr} {mk m : Env → Res D} (ho : PE X (.Name x p0) (tVar i)) (hk : PE X ek (tD T W mk)) (he : PE X e (tD T W m)) (hc : Ex.compr e = false) (hsl : Ex.isSlice ek = false) :
    PS X (.Assign [.Subscript (.Name x p0) ek p1] e pos) (tS T W wr fun ρ => (m ρ).thn fun d ρ => match ρ.at i with
    | some (.lst _) => (mk ρ).thn fun k ρ => (match ρ.at i, k with
      | some (.lst ds), .int k => (match ixN ds.length k with
        | some j => .nx (ρ.set i (some (.lst (ds.set j d))))
        | none => .stuck)
      | _, _ => .stuck)
    | _ => .stuck) := by
  have ha : ∀ v, assign (.Subscript (.Name x p0) ek p1) X.env v = (do
      let ov ← holding [v] (eval (.Name x p0) X.env)
      let iv ← holding [v, ov] (eval ek X.env)
      standAt p1
      holding [v, ov, iv] (setItem ov iv v)
      release [v, ov, iv] []) := by
    intro v
    cases ek <;> first | rfl | cases hsl
  refine (ps_asg he (pg_sub ho hk set_list ha) (by unfold swapsWithSole; exact swaps_plain hc) rfl rfl).imp fun D σ H q => ?_
  obtain ⟨F, M, ρ, cf, q⟩ := q
  refine ⟨F, M, ρ, cf, (SOut.thn q).imp fun d ρ1 k v F1 H1 cf1 => ?_⟩
  cases z : ρ1.at i with
  | none => rw [z] at k; exact k.elim
  | some r =>
    cases r with
    | lst ds0 =>
      rw [z] at k
      obtain ⟨p, xs, e1, e2, e3, _⟩ := cf1.lst z
      refine ⟨_, e1, F1, _, ρ1, cf1, (SOut.thn (SOut.wkL (P := [(.val d, v)]) k)).imp fun kd ρ2 k v2 F2 H2 cf2 => ?_⟩
      cases z1 : ρ2.at i with
      | none => rw [z1] at k; exact k.elim
      | some r1 =>
        cases r1 with
        | lst ds =>
          cases kd with
          | int kn =>
            rw [z1] at k
            dsimp only at k
            cases hj : ixN ds.length kn with
            | none => rw [hj] at k; exact k.elim
            | some j =>
              rw [hj] at k
              have rk := cf2.rp
              cases rk
              have rv := cf2.tail.rp
              obtain ⟨p', xs', f1, f2, f3, cf3⟩ := cf2.tail.tail.lst z1
              rw [e1] at f1; cases f1
              refine ⟨p, xs', kn, j, rfl, rfl, f2, by rw [f3.len]; exact hj, ?_⟩
              exact k _ F2 _ .refl (((cf3.put (RpL.set rv j f3)).back e1).val rv)
          | _ => rw [z1] at k; exact k.elim
        | _ => rw [z1] at k; exact k.elim
    | _ => rw [z] at k; exact k.elim

/-! ### a new field -/
theorem putF_zip (f : Str) (v : V) : ∀ (L : List Str) (xs : List V), L.Nodup → L[xs.length]? = some f → putF f v (L.zip xs) = L.zip (xs ++ [v])
  | [], xs, _, e => by simp at e
  | g :: L, [], nd, e => by
    simp at e; subst e; simp [putF]
  | g :: L, x :: xs, nd, e => by
    simp only [List.nodup_cons] at nd
    have e' : L[xs.length]? = some f := by simpa using e
    have ne : g ≠ f := fun z => nd.1 (z ▸ List.mem_of_getElem? e')
    show (if g = f then _ else _) = _
    rw [if_neg ne]
    show (g, x) :: putF f v (L.zip xs) = (g, x) :: L.zip (xs ++ [v])
    rw [putF_zip f v L xs nd.2 e']
theorem RRL.appV {F H : Hp} {v : V} {d : D} (r : Rp T F v d) : ∀ {rs : List R} {vs : List V} {fp : List Addr}, RRL T F H rs vs fp → RRL T F H (rs ++ [.val d]) (vs ++ [v]) fp
  | [], _, _, h => by cases h; exact .cons (.val r) .nil
  | _ :: _, _, _, h => by cases h with | cons h1 h2 => exact .cons h1 (h2.appV r)
theorem Cf.objAt {F H : Hp} {ρ : Env} {v : V} {c : Nat} {rs : List R} (h : Cf T F H ((.obj c rs, v) :: M) ρ σ) : ∃ p dx xs, v = .ref p ∧ H p = some (.ins (T.cls c) dx (T.zip c xs)) ∧ rs.length = xs.length ∧ xs.length ≤ (T.flds c).length := by
  obtain ⟨L, sl, s, fp, h1, nd, av⟩ := h
  cases h1 with | cons h2 h3 => cases h2 with | obj h4 hl h5 => exact ⟨_, _, _, rfl, h4, h5.len, hl⟩
theorem Cf.putObj {F H : Hp} {ρ : Env} {p dx : Addr} {c : Nat} {rs : List R} {xs : List V} {d : D} {w : V} (h : Cf T F H ((.obj c rs, .ref p) :: M) ρ σ) (hp : H p = some (.ins (T.cls c) dx (T.zip c xs))) (hx : rs.length = xs.length)
    (hlt : rs.length < (T.flds c).length) (r : Rp T F w d) : Cf T F (upd H p (.ins (T.cls c) dx (T.zip c (xs ++ [w])))) ((.obj c (rs ++ [.val d]), .ref p) :: M) ρ σ := by
  obtain ⟨L, sl, s, fp, h1, nd, av⟩ := h
  refine ⟨L, sl, ?_⟩
  cases h1 with | cons h2 h3 =>
    cases h2 with | @obj a dx' c' xs' rs' fp' h4 hl h5 =>
      have e := hp.symm.trans h4
      have e1 : dx = dx' ∧ T.zip c xs = T.zip c xs' := by
        have := Option.some.inj e
        injection this with e1 e2 e3
        exact ⟨e2, e3⟩
      have e2 : xs = xs' := by
        have l := h5.len
        have e3 : ((T.flds c).map T.fname).zip xs = ((T.flds c).map T.fname).zip xs' := e1.2
        have key : ∀ (L : List Str) (a b : List V), a.length = b.length → a.length ≤ L.length → L.zip a = L.zip b → a = b := by
          intro L
          induction L with
          | nil => intro a b h1 h2 _; cases a with
            | nil => cases b with
              | nil => rfl
              | cons _ _ => simp at h1
            | cons _ _ => simp at h2
          | cons x L ih =>
            intro a b h1 h2 h3
            cases a with
            | nil => cases b with
              | nil => rfl
              | cons _ _ => simp at h1
            | cons y a => cases b with
              | nil => simp at h1
              | cons z b =>
                simp only [List.zip_cons_cons, List.cons.injEq, Prod.mk.injEq, true_and] at h3
                rw [h3.1, ih a b (by simpa using h1) (by simpa using h2) h3.2]
        exact key _ _ _ (by rw [← hx, l]) (by rw [List.length_map, ← hx]; omega) e3
      obtain ⟨rfl, _⟩ := e1
      subst e2
      have nF := av p (by simp)
      have nd' := List.nodup_cons.mp (show (p :: (fp' ++ _)).Nodup from nd)
      refine ⟨fun b o e => by rw [upd_ne (ne_of_none e nF)]; exact s _ _ e, (p :: fp') ++ _, .cons (.obj (dx := dx) upd_same (by rw [List.length_append, ← hx]; exact hlt) ?_) (h3.keep (Same.refl _) fun a ha => upd_ne fun z => nd'.1 (z ▸ List.mem_append_right _ ha)), nd, av⟩
      exact RRL.appV r (RRL.keep (Same.refl _) _ _ _ (fun a ha => upd_ne fun z => nd'.1 (z ▸ List.mem_append_left _ ha)) h5)
theorem ps_fldF {nc : Nat} {x n : Str} {i f : Nat} {p0 p1 : Pos} {m : Env → Res D} (hK : X.K = T.K) (A : ClsAll T X.K nc) (hnc : g.nc = nc) (hfl : g.flds = T.flds) (hn : n = T.fname f) (ho : PE X (.Name x p0) (tVar i)) (he : PE X e (tD T W m)) (hc : Ex.compr e = false) :
    PS X (.Assign [.Attribute (.Name x p0) n p1] e pos) (tS T W wr fun ρ => (m ρ).thn fun d ρ => match ρ.at i with
    | some (.obj c rs) => if c < g.nc ∧ (g.flds c).idxOf f = rs.length ∧ rs.length < (g.flds c).length then .nx (ρ.set i (some (.obj c (rs ++ [.val d])))) else .stuck
    | _ => .stuck) := by
  subst hn
  refine (ps_fld ho he (swaps_plain hc)).imp fun D σ H q => ?_
  obtain ⟨F, M, ρ, cf, q⟩ := q
  refine ⟨F, M, ρ, cf, (SOut.thn q).imp fun d ρ1 k v F1 H1 cf1 => ?_⟩
  cases z : ρ1.at i with
  | none => rw [z] at k; exact k.elim
  | some r =>
    cases r with
    | obj c rs =>
      rw [z] at k
      dsimp only at k
      split at k
      · rename_i hh
        obtain ⟨h1, h2, h3⟩ := hh
        rw [hfl] at h2 h3
        rw [hnc] at h1
        have kn := A.of c h1
        have rv := cf1.rp
        obtain ⟨w, e1, cf2⟩ := cf1.tail.out (at_get z)
        obtain ⟨p, dx, xs, rfl, hp, hx, hl⟩ := cf2.objAt
        have hf : f ∈ T.flds c := idx_mem (by rw [h2]; exact h3)
        have hget : ((T.flds c).map T.fname)[xs.length]? = some (T.fname f) := by
          rw [List.getElem?_map, ← hx, ← h2, List.getElem?_eq_getElem (by rw [h2]; exact h3), List.getElem_idxOf]
          rfl
        refine ⟨_, e1, p, T.cls c, dx, _, rfl, hp, kn.cl, kn.na f hf, ?_, ?_⟩
        · have := kn.ln
          unfold Nm.zip
          rw [List.length_zip]
          omega
        · have ep : putF (T.fname f) v (T.zip c xs) = T.zip c (xs ++ [v]) := putF_zip _ _ _ _ kn.nd hget
          rw [ep]
          exact k _ F1 _ .refl ((cf2.putObj hp hx h3 rv).back e1)
      · exact k.elim
    | _ => rw [z] at k; exact k.elim
end
end Fx
end
section
set_option linter.all false
set_option Elab.async false
set_option maxRecDepth 100000
set_option maxHeartbeats 4000000
/-! Exceptions: raise, try with several clauses, each with or without a name. -/
namespace Fx
open PySem PySem.Spec L2 PyProof.Rows
abbrev Clz := List (Value × Option Nat × (Addr → Value → Option Addr → TS))
/-- what is wanted behind a suite whose clause binds slot i -/
def Ends.un (D : Ends) : Option Nat → Ends
  | none => D
  | some i => { nx := fun σ H => D.nx (σ.set i none) H, rt := D.rt, bk := fun σ H => D.bk (σ.set i none) H, ct := fun σ H => D.ct (σ.set i none) H }
def bindX (σ : L2.St) (a : Addr) : Option Nat → L2.St
  | none => σ
  | some i => σ.set i (some (.ref a))
/-- the clauses' wish, one after the other -/
def wCl (K : PySem.W.Frag) (Wout : WX) (D : Ends) : Clz → WX
  | [] => Wout
  | (c, oi, ts) :: r => fun cls d σ H => ∃ b, PySem.W.exmOne K cls c = some b ∧ (b = true → ∀ a, H a = none → ts a cls d (Ends.un D oi) (bindX σ a oi) H) ∧ (b = false → wCl K Wout D r cls d σ H)
inductive ClOk (X : Cx) : List ExceptHandler → Clz → Prop
  | nil : ClOk X [] []
  | bare {x : Str} {c : Value} {ts : Addr → Value → Option Addr → TS} {b₀ : Stmt} {suite : List Stmt} {np pos' : Pos} {hds : List ExceptHandler} {l : Clz} (hc : Names X x c)
      (hsu : ∀ (a : Addr) (oe : Obj) (cls : Value) (d : Option Addr) (pn : List (Addr × Obj)), Zc cls d oe → (∃ vs, oe.data = .fields vs) → PSs (X.suite a ((a, oe) :: pn)) (b₀ :: suite) (ts a cls d)) (r : ClOk X hds l) :
      ClOk X (.ExceptHandler (some (.Name x np)) none (b₀ :: suite) pos' :: hds) ((c, none, ts) :: l)
  | named {x n : Str} {i : Nat} {c : Value} {ts : Addr → Value → Option Addr → TS} {b₀ : Stmt} {suite : List Stmt} {np pos' : Pos} {hds : List ExceptHandler} {l : Clz} (hi : X.N[i]? = some n) (hln : X.env.kindOf n = some .local) (hc : Names X x c)
      (hsu : ∀ (a : Addr) (oe : Obj) (cls : Value) (d : Option Addr) (pn : List (Addr × Obj)), Zc cls d oe → (∃ vs, oe.data = .fields vs) → PSs (X.suite a ((a, oe) :: pn)) (b₀ :: suite) (ts a cls d)) (r : ClOk X hds l) :
      ClOk X (.ExceptHandler (some (.Name x np)) (some n) (b₀ :: suite) pos' :: hds) ((c, some i, ts) :: l)
section
variable {X : Cx} {body : List Stmt} {h₀ : ExceptHandler} {hds : List ExceptHandler} {l : Clz} {pos : Pos} {tb : WX → TS} {Wout : WX}
/-- the clauses are gone through -/
theorem clauses_ok {pins : List (Addr × Obj)} {s' sI : Shared} {h3 B : Heap} {a : Addr} {cls : Value} {d : Option Addr} {σ' : L2.St} {H' : Hp} {D : Ends} (ok : X.Ok) (hs : X.stack = X.env :: X.outer) (hf : X.env.frame = some X.env.locals) (hN : X.N.Nodup) (tk : Takes X Wout)
    (J : Inv X pins σ' H' sI) (nb : ∀ b o, sI.heap.get? b = some o → b ∉ frs X.stack → B.get? b = some o) (up : sI.heap.UpToSlots s'.heap) (na : H' a = none) (os : s'.os = sI.os) (ag : AllBare s'.gens)
    (fl3 : HandSPX.FlyingZ B (X.env :: X.outer) a (Zc cls d) h3) (up3 : s'.heap.UpToSlots h3) : ∀ {hds : List ExceptHandler} {l : Clz}, ClOk X hds l → wCl X.K Wout D l cls d σ' H' →
      wpAny (model X.prog X.w) X.A (handleBy (.ref a) X.env hds) (SP X pins D) X.xe { s' with heap := h3 } := by
  have J3 : Inv X pins σ' H' { s' with heap := h3 } := J.landed nb fl3.1 (up.trans up3) os ag
  obtain ⟨oe3, vs3, he3, hz3, hd3⟩ := fl3.there
  have nfr : a ∉ frs (X.env :: X.outer) := fun hm => by
    obtain ⟨_, o', e', hnf⟩ := fl3.2.2.1.mem hm
    rw [he3] at e'; cases e'
    exact hnf _ hd3
  have nL : a ≠ X.env.locals := fun z => nfr (List.mem_filterMap.mpr ⟨X.env, List.mem_cons_self, by rw [hf, z]⟩)
  have nF : a ∉ X.fs := fun hm => by
    obtain ⟨e, he, q⟩ := List.mem_filterMap.mp hm
    exact nfr (List.mem_filterMap.mpr ⟨e, List.mem_cons_of_mem _ he, q⟩)
  have S3 := J3.suite he3 hd3 na nL nF
  have LT : PySem.W.Looks (model X.prog X.w) h3 (typeOf (.ref a)) cls := fun A Q E s k q => wpAny_typeOf_ref (k _ _ he3) (by rw [hz3.1]; exact q)
  have test : ∀ {x : Str} {c : Value} {np : Pos} {Q : Value → Shared → Prop} {E : Value → Shared → Prop}, Names X x c → Q c { s' with heap := h3 } → wpAny (model X.prog X.w) (X.A.mark (some (.ref a))) (eval (.Name x np) X.env) Q E { s' with heap := h3 } := fun {x c np Q E} hc q => by
    obtain ⟨hg, hdbg, hm | ⟨hm, hv, hnn⟩⟩ := hc
    · exact ld_glob (X := X.suite a ((a, oe3) :: (X.pn ++ pins))) S3 hg hm q hdbg
    · exact ld_blt (X := X.suite a ((a, oe3) :: (X.pn ++ pins))) S3 hg hm hv q hnn hdbg
  intro hds l hk
  induction hk with
  | nil =>
    intro w
    refine wpAny_handleBy_nil ?_
    obtain ⟨k1, k2, k3, oe, vs, T, oT, ts', he, hz, hd, h1, hr⟩ := id fl3
    unfold PySem.passOn
    refine wpAny_bind (wpAny_field he hd h1 ?_)
    rw [if_neg (show ¬ ((Value.ref T == Value.none) = true) from by simp)]
    have fin : wpAny (model X.prog X.w) X.A (setFlight (.ref a) X.env.frame) (fun _ s4 => wpAny (model X.prog X.w) X.A (throw (.ref a) : Sem Flow) (SP X pins D) X.xe s4) X.xe { s' with heap := h3 } := by
      rw [hf]
      refine HandSPX.setFlight_upZ fl3 fun h4 hh4 up4 => wpAny_throw (tk _ _ ?_)
      exact ⟨a, B, sI, pins, σ', H', cls, d, rfl, J, nb, (up.trans up3).trans up4, .inr (.inr (by rw [hs]; exact hh4)), na, os, ag, w⟩
    first
      | exact wpAny_bind (wpAny_pure (wpAny_bind fin))
      | exact wpAny_bind fin
  | @bare x c ts b₀ suite np pos' hds2 l2 hc hsu r ih =>
    intro w
    obtain ⟨b, hb1, hyes, hno⟩ := w
    refine wpAny_handleBy_cons (codeAny_handlers_test ?_) (by intro q; cases q)
    refine test hc ((PySem.W.exm_one (M := model X.prog X.w) (J3.kIn) LT hb1).here ?_)
    cases b with
    | false => exact ih (hno rfl)
    | true =>
      refine codeAny_handlers_suite (HandSPX.lands_againZ fl3 fun h4 fl4 up4 => ?_)
      have J4 : Inv X pins σ' H' { s' with heap := h4 } := J.landed nb fl4.1 ((up.trans up3).trans up4) os ag
      obtain ⟨oe4, vs4, he4, hz4, hd4⟩ := fl4.there
      refine wpAny_mono ((hsu a oe4 cls d (X.pn ++ pins) hz4 ⟨_, hd4⟩).run [] _ _ H' _ (J4.suite he4 hd4 na nL nF) (hyes rfl a na)) (fun f s6 hsp => ?_) (fun _ _ z => False.elim z)
      cases f <;> first
        | (obtain ⟨σ6, H6, S6, q6⟩ := hsp; exact ⟨_, _, S6.unsuite ok, q6⟩)
        | (obtain ⟨v6, σ6, H6, S6, r6, q6⟩ := hsp; exact ⟨_, _, _, S6.unsuite ok, r6, q6⟩)
  | @named x n i c ts b₀ suite np pos' hds2 l2 hi hln hc hsu r ih =>
    intro w
    obtain ⟨b, hb1, hyes, hno⟩ := w
    refine wpAny_handleBy_cons (codeAny_handlers_test ?_) (by intro q; cases q)
    refine test hc ((PySem.W.exm_one (M := model X.prog X.w) (J3.kIn) LT hb1).here ?_)
    cases b with
    | false => exact ih (hno rfl)
    | true =>
      refine codeAny_handlers_suite_as (HandSPX.lands_againZ fl3 fun h4 fl4 up4 => ?_)
      have J4 : Inv X pins σ' H' { s' with heap := h4 } := J.landed nb fl4.1 ((up.trans up3).trans up4) os ag
      obtain ⟨oe4, vs4, he4, hz4, hd4⟩ := fl4.there
      refine store_ok (X := X.suite a ((a, oe4) :: (X.pn ++ pins))) (v := .ref a) (J4.suite he4 hd4 na nL nF) hN hi (.inl hln) rfl (fun s5 S5 => ?_) (.inr hln)
      refine wpAny_mono ((hsu a oe4 cls d (X.pn ++ pins) hz4 ⟨_, hd4⟩).run [] s5 _ H' _ S5 (hyes rfl a na)) (fun f s6 hsp => ?_) (fun _ _ z => False.elim z)
      have end_ : ∀ {σ6 : L2.St} {H6 : Hp} {Q : Shared → Prop}, Inv (X.suite a ((a, oe4) :: (X.pn ++ pins))) [] σ6 H6 s6 → (∀ s7, Inv X pins (σ6.set i none) H6 s7 → Q s7) →
          wpAny (model X.prog X.w) X.A (do bindName X.env n .none; unbindBehindTheSuite X.env n pos') (fun _ s7 => Q s7) X.xe s6 := fun {σ6 H6 Q} S6 hq => gone_ok (S6.unsuite ok) hN hi hln hq
      cases f <;> first
        | (obtain ⟨σ6, H6, S6, q6⟩ := hsp; exact end_ S6 fun s7 J7 => ⟨_, _, J7, q6⟩)
        | (obtain ⟨v6, σ6, H6, S6, r6, q6⟩ := hsp; exact end_ S6 fun s7 J7 => ⟨_, _, _, J7, r6, q6⟩)
theorem ps_try_cl (hs : X.stack = X.env :: X.outer) (hf : X.env.frame = some X.env.locals) (hN : X.N.Nodup) (tk : Takes X Wout)
    (hb : ∀ (W : WX) (pn : List (Addr × Obj)) (xe : Value → Shared → Prop), Takes (X.tr pn xe) W → PassesOwn (model X.prog X.w) X.A X.env xe → PSs (X.tr pn xe) body (tb W))
    (hh : ClOk X (h₀ :: hds) l) : PS X (.Try body (h₀ :: hds) [] [] pos) (fun D σ H => tb (wCl X.K Wout D l) D σ H) := by
  refine ⟨fun pins s σ H D I h => ?_⟩
  have ok := I.ok
  have hfr : X.A.frames = some (X.env :: X.outer) := by rw [ok.frames, hs]
  refine wpAny_Try_except ?_
  refine wpAny_mono ((hb (wCl X.K Wout D l) (X.pn ++ pins) (fun e s₁ => wpAny (model X.prog X.w) X.A (noteFrame e X.env) (fun _ s₂ => wpAny (model X.prog X.w) X.A (setFlight e none) (fun _ s₃ =>
    wpAny (model X.prog X.w) X.A (handleBy e X.env (h₀ :: hds)) (SP X pins D) X.xe s₃) X.xe s₂) X.xe s₁) (fun u s' xx => ?_) PassesOwn.looking).run [] s σ H D (I.toTry _) h) (fun f s1 hsp => ?_) (fun e s1 he => he)
  · obtain ⟨a, B, sI, pins', σ', H', cls, d, rfl, J', nb, up, sky, na, os, ag, w⟩ := xx
    have sky' : Sky B (X.env :: X.outer) a (Zc cls d) X.env.locals s'.heap := by rw [← hs]; exact sky
    exact Sky.land Zc.steady hfr hf sky' fun h3 fl3 up3 => clauses_ok ok hs hf hN tk (J'.ofTry ok) nb up na os ag fl3 up3 hh w
  · cases f with
    | next => obtain ⟨σ', H', J', q⟩ := hsp; exact wpAny_execs_nil ⟨σ', H', J'.ofTry ok, q⟩
    | brk => obtain ⟨σ', H', J', q⟩ := hsp; exact ⟨σ', H', J'.ofTry ok, q⟩
    | cont => obtain ⟨σ', H', J', q⟩ := hsp; exact ⟨σ', H', J'.ofTry ok, q⟩
    | ret u => obtain ⟨v, σ', H', J', r, q⟩ := hsp; exact ⟨v, σ', H', J'.ofTry ok, r, q⟩
end
end Fx
end
section
set_option linter.all false
set_option Elab.async false
set_option maxRecDepth 100000
set_option maxHeartbeats 4000000
/-! raise and try, as the language has them. -/
namespace Fx
open PySem PySem.Spec L2
variable {T : Nm} {W : WX} {X : Cx} {σ : St} {M : Lv} {g : G} {Φ : Fn} {wr : List Nat}

/-- what an error's own __init__ keeps: self.f = value -/
def spI (K : PySem.W.Frag) (f : Str) : Sp := fun vs H Q E => ∃ (a C : Addr) (y : V), vs = [.ref a, y] ∧ OexC K C ∧ PySem.W.findIn K (.ref C) f = some none ∧ H a = some (exo a C none) ∧
  ∀ dx, H dx = none → dx ≠ a → Q .non (upd (upd H dx (exd dx [(f, y)])) a (exo a C (some dx)))
structure XCls (T : Nm) (K : PySem.W.Frag) (c : Nat) : Prop where
  oc : OexC K (T.xcls c)
  xf : XfC K (T.xcls c)
  no : PySem.W.findIn K (.ref (T.xcls c)) (T.xfld c) = some none
structure XMk (T : Nm) (X : Cx) (c : Nat) : Prop where
  cl : XCls T X.K c
  ok : ∃ k fI fd ps, PySem.W.findIn X.K (.ref (T.xcls c)) "__init__" = some (some (.ref fI)) ∧ PySem.W.typeIn X.K (.ref fI) = some (.type "function") ∧
    FnOk X.prog X.w X.K X.mg X.base (L2.CX X.prog X.w) k fI fd ps (spI X.K (T.xfld c)) ∧ Room (k + 1) X.A ∧ Binds X.K fd ps []
theorem passes_false : Passes (L2.CX X.prog X.w) X (fun _ _ _ => False) := fun pins σ H s e s' I h => by
  obtain ⟨_, _, _, _, _, _, _, _, _, _, _, _, q⟩ := h
  exact q.elim
theorem ps_raiF {c : Nat} {x : Str} {e : Expr} {p pos pos2 : Pos} {m : Env → Res D} (hc : X.calm = true) (tk : Takes X W) (kn : XMk T X c) (hg : Gl X x) (hm : X.mg x = some (.ref (T.xcls c))) (he : PE X e (tD T W m)) (h1 : Ex.star e = false) (hdb : (x == ("__debug__" : Str)) = false) :
    PS X (.Raise (some (.Call (.Name x p) [e] [] pos)) none pos2) (tS T W wr fun ρ => (m ρ).thn fun d ρ => .exc c d ρ) := by
  obtain ⟨k, fI, fd, ps, iC, tI, F1, hr, hb⟩ := kn.ok
  refine (ps_raise hc tk (pmk_oex (ds := []) (dvs := []) kn.cl.oc iC tI F1 hr hb .nil passes_false hg hm (pa_cons he pa_nil (star_cons [] _ h1)) hdb (star_cons [] _ h1) rfl)).imp fun D σ H q => ?_
  obtain ⟨F, M, ρ, cf, q⟩ := q
  refine ⟨F, M, ρ, cf, (SOut.thn q).imp fun d ρ1 k v F1 H1 cf1 => ⟨by simp, fun a na => ?_⟩⟩
  refine ⟨a, T.xcls c, v, rfl, kn.cl.oc, kn.cl.no, upd_same, fun dx nd ne => ⟨rfl, dx, _, upd_same, (upd_ne ne).trans upd_same, ?_, ?_⟩⟩
  · rw [← nd, upd_ne ne]
  · have nd1 : H1 dx = none := by rw [← nd, upd_ne ne]
    have rv := cf1.rp
    refine k σ .refl v dx F1 _ (cf1.tail.grow fun b o e => ?_) upd_same rv
    have n1 : b ≠ a := ne_of_none e na
    have n2 : b ≠ dx := ne_of_none e nd1
    rw [upd_ne n2, del_ne n1, upd_ne n1, upd_ne n2, upd_ne n1]
    exact e
/-! ### except suites -/
section
variable {a : Addr} {oe : Obj} {cls : Value} {dd : Option Addr} {pn : List (Addr × Obj)}
/-- the error's field, read in the suite -/
def tXA (T : Nm) (nx : Nat) (a : Addr) (cls : Value) (dd : Option Addr) (i : Nat) (n : Str) : TE := fun σ H Q => ∃ c v da, c < nx ∧ T.xfld c = n ∧ cls = .ref (T.xcls c) ∧ dd = some da ∧ H da = some (.xd [(n, v)]) ∧ σ[i]? = some (some (.ref a)) ∧ Q v H
theorem pe_xA {nx i : Nat} {x n : Str} {p pos : Pos} (XA : ∀ c, c < nx → XCls T X.K c) (hz : Zc cls dd oe) (hf : ∃ vs, oe.data = .fields vs) (hv : PE (X.suite a ((a, oe) :: pn)) (.Name x p) (tVar i)) :
    PE (X.suite a ((a, oe) :: pn)) (.Attribute (.Name x p) n pos) (tXA T nx a cls dd i n) := by
  refine ⟨fun pins s σ H Q I h => ?_⟩
  obtain ⟨c, v, da, hc, rfl, rfl, rfl, hda, hi, q⟩ := h
  exact (pe_xf (XA c hc).xf (XA c hc).no hz hf hv (att_plain rfl)).run pins s σ H Q I ⟨_, hi, rfl, rfl, da, _, v, rfl, hda, by simp [List.lookup], q⟩
/-- a suite's reading: the error's class and its one field are known -/
def tH (T : Nm) (g : G) (a : Addr) (cls : Value) (dd : Option Addr) (o : Option Nat) (h : HE) : TS := fun D σ H => ∃ c d v da r F L, c < g.nx ∧ cls = .ref (T.xcls c) ∧ dd = some da ∧ H da = some (.xd [(T.xfld c, v)]) ∧ (∀ i, o = some i → σ[i]? = some (some (.ref a))) ∧ h.ev g c d = some r ∧
  Reps T F H ((.val d, v) :: L) ∧ ∀ w F' H', Reps T F' H' ((.val r, w) :: L) → D.rt w H'
theorem pss_hC {e : Expr} {pos : Pos} {v : V} {x : D} {o : Option Nat} (he : PE (X.suite a ((a, oe) :: pn)) e (tC v)) (r : ∀ F, Rp T F v x) : PSs (X.suite a ((a, oe) :: pn)) [.Return (some e) pos] (tH T g a cls dd o (.cst x)) := by
  refine (pss_one (ps_ret he)).imp fun D σ H q => ?_
  obtain ⟨c, d, w, da, r', F, L, _, _, _, _, _, e, rp, k⟩ := q
  cases e
  exact k v F H (rp.tail.val (r F))
theorem pss_hF {nx i : Nat} {x n : Str} {p pos pos2 : Pos} (hnx : g.nx = nx) (hxf : g.xf = T.xfld) (XA : ∀ c, c < nx → XCls T X.K c) (hz : Zc cls dd oe) (hf : ∃ vs, oe.data = .fields vs) (hv : PE (X.suite a ((a, oe) :: pn)) (.Name x p) (tVar i)) :
    PSs (X.suite a ((a, oe) :: pn)) [.Return (some (.Attribute (.Name x p) n pos)) pos2] (tH T g a cls dd (some i) (.fld n)) := by
  refine (pss_one (ps_ret (pe_xA (nx := nx) XA hz hf hv))).imp fun D σ H q => ?_
  obtain ⟨c, d, w, da, r', F, L, h1, h2, h3, h4, h5, e, rp, k⟩ := q
  have e : (if g.xf c = n then some d else none) = some r' := e
  split at e
  · rename_i hn
    cases e
    rw [hxf] at hn
    subst hn
    exact ⟨c, w, da, by rw [← hnx]; exact h1, rfl, h2, h3, h4, h5 i rfl, k w F H rp⟩
  · cases e
theorem pss_hP {nx i k1 : Nat} {x n : Str} {p pos pos2 pos3 : Pos} {ec : Expr} {v0 : V} {x0 : D} (hnx : g.nx = nx) (hxf : g.xf = T.xfld) (XA : ∀ c, c < nx → XCls T X.K c) (hz : Zc cls dd oe) (hf : ∃ vs, oe.data = .fields vs) (hv : PE (X.suite a ((a, oe) :: pn)) (.Name x p) (tVar i))
    (he : PE (X.suite a ((a, oe) :: pn)) ec (tC v0)) (r0 : ∀ F, Rp T F v0 x0) (hst : Ex.star ec = false) :
    PSs (X.suite a ((a, oe) :: pn)) [.Return (some (.Tuple [ec, .Attribute (.Name x p) n pos] k1 pos3)) pos2] (tH T g a cls dd (some i) (.pair x0 n)) := by
  refine (pss_one (ps_ret (pe_tup (pa_cons he (pa_cons (pe_xA (nx := nx) (n := n) (pos := pos) XA hz hf hv) pa_nil (star_cons [] _ rfl)) (star_cons [_] _ hst))))).imp fun D σ H q => ?_
  obtain ⟨c, d, w, da, r', F, L, h1, h2, h3, h4, h5, e, rp, k⟩ := q
  have e : (if g.xf c = n then some (Fx.D.tup [x0, d]) else none) = some r' := e
  split at e
  · rename_i hn
    cases e
    rw [hxf] at hn
    subst hn
    refine ⟨c, w, da, by rw [← hnx]; exact h1, rfl, h2, h3, h4, h5 i rfl, (by rw [← line_eq]; show 2 ≤ 16777216; omega), fun q nq => ?_⟩
    obtain ⟨rp2, s2⟩ := rp.newF (o := .tup [v0, w]) nq
    exact k _ _ _ (rp2.tail.val (.tup (.inl (.inl upd_same)) (.cons (r0 _) (.cons rp2.rp .nil))))
  · cases e
end
/-! ### try -/
theorem ps_tryF {body : List Stmt} {h₀ : ExceptHandler} {hds : List ExceptHandler} {hl : List Hd} {mb : Env → SRes} {pos : Pos} (hs : X.stack = X.env :: X.outer) (hf : X.env.frame = some X.env.locals) (hN : X.N.Nodup) (tk : Takes X W)
    (hb : ∀ (W : WX) (pn : List (Addr × Obj)) (xe : Value → Shared → Prop), Takes (X.tr pn xe) W → PassesOwn (model X.prog X.w) X.A X.env xe → PSs (X.tr pn xe) body (tS T W wr mb))
    (hh : ClOk X (h₀ :: hds) (hl.map fun h => (.ref (T.xcls h.c), h.slot, fun a cls dd => tH T g a cls dd h.slot h.ret)))
    (hx : ∀ h ∈ hl, ∀ c, c < g.nx → PySem.W.exmOne X.K (.ref (T.xcls c)) (.ref (T.xcls h.c)) = some (g.isa c h.c)) (hw : ∀ h ∈ hl, ∀ i, h.slot = some i → i ∈ wr) (hn : ∀ h ∈ hl, ∀ i, h.slot = some i → i < X.N.length) :
    PS X (.Try body (h₀ :: hds) [] [] pos) (tS T W wr fun ρ => match mb ρ with
      | .exc c d ρ' => evHs g hl c d ρ'
      | x => x) := by
  refine (ps_try_cl (tb := fun W => tS T W wr mb) hs hf hN tk hb hh).impL fun D σ H hlen q => ?_
  obtain ⟨F, M, ρ, cf, q⟩ := q
  refine ⟨F, M, ρ, cf, ?_⟩
  dsimp only at q
  cases z : mb ρ with
  | nx ρ1 => rw [z] at q; exact q
  | rt r ρ1 => rw [z] at q; exact q
  | bk ρ1 => rw [z] at q; exact q
  | ct ρ1 => rw [z] at q; exact q
  | stuck => rw [z] at q; exact q
  | exc c d ρ1 =>
    rw [z] at q
    have q : SOut T W wr M (evHs g hl c d ρ1) D σ := q
    intro σ1 ag v da F1 H1 cf1 hda rv
    clear hh
    show wCl X.K W D _ _ _ _ _
    induction hl with
    | nil => exact q σ1 ag v da F1 H1 cf1 hda rv
    | cons h hl ih =>
      unfold evHs at q
      by_cases hc : c < g.nx
      · rw [if_pos hc] at q
        refine ⟨g.isa c h.c, hx h (by simp) c hc, fun yes a na => ?_, fun no => ?_⟩
        · rw [if_pos yes] at q
          cases ev : h.ret.ev g c d with
          | none => rw [ev] at q; exact q.elim
          | some r =>
            rw [ev] at q
            obtain ⟨L, sl, rp⟩ := cf1
            refine ⟨c, d, v, da, r, F1, M ++ L, hc, rfl, rfl, hda, fun i e => ?_, ev, rp.val rv, fun w F' H' rp' => ?_⟩
            · rw [e]
              show (σ1.set i _)[i]? = _
              rw [List.getElem?_set_self (by rw [ag.1, hlen]; exact hn h (by simp) i e)]
            · have cf2 : Cf T F' H' ((.val r, w) :: M) ρ1 σ1 := ⟨L, sl, rp'⟩
              cases e : h.slot with
              | none =>
                rw [e] at q
                exact q σ1 w F' H' ag cf2
              | some i =>
                rw [e] at q
                exact q (σ1.set i none) w F' H' (ag.trans (.set (hw h (by simp) i e))) (cf2.forget none)
        · rw [if_neg (by rw [no]; exact Bool.false_ne_true)] at q
          exact ih (fun h' m => hx h' (List.mem_cons_of_mem _ m)) (fun h' m => hw h' (List.mem_cons_of_mem _ m)) (fun h' m => hn h' (List.mem_cons_of_mem _ m)) q q
      · rw [if_neg hc] at q; exact q.elim
end Fx
end
section
set_option linter.all false
set_option Elab.async false
set_option maxRecDepth 100000
set_option maxHeartbeats 4000000
/-! Chains, constants of the module, minus, [::-1], == of instances. -/
namespace HT
open PySem PySem.Spec PyProof.Rows
section
variable {prog : Program} {w : World} {A : Around} {E : Value → Shared → Prop} {s : Shared}
theorem fx_fmc {α β : Type} {f g : α → Option β} : ∀ {l : List α}, (∀ x ∈ l, f x = g x) → l.filterMap f = l.filterMap g
  | [], _ => rfl
  | x :: l, h => by
    simp only [List.filterMap_cons]
    rw [h x (by simp), fx_fmc fun y hy => h y (by simp [hy])]
theorem fx_adjust (n : Nat) : Builtin.Slice.sliceAdjust none none (-1) (n : Int) = ((n : Int) - 1, -1) := rfl
theorem fx_places (n : Nat) : Builtin.Slice.slicePlaces ((n : Int) - 1) (-1) (-1) = n := by
  unfold Builtin.Slice.slicePlaces
  rw [if_neg (by decide)]
  by_cases h : (n : Int) - 1 > -1
  · rw [if_pos h]
    have e : ((n : Int) - 1 - -1 - 1) / (- -1) + 1 = (n : Int) := by
      rw [show (- -1 : Int) = 1 by decide, Int.ediv_one]; omega
    rw [e]; simp
  · rw [if_neg h]; omega
theorem fx_pick (xs : Array Value) : ((List.range xs.size).filterMap fun (k : Nat) => xs[((xs.size : Int) - 1 + (k : Int) * (-1)).toNat]?).toArray = xs.toList.reverse.toArray := by
  have e : (fun (k : Nat) => xs[((xs.size : Int) - 1 + (k : Int) * (-1)).toNat]?) = fun (k : Nat) => xs[((xs.size : Int) - 1 - (k : Int)).toNat]? := by
    funext k
    rw [show (xs.size : Int) - 1 + (k : Int) * (-1) = (xs.size : Int) - 1 - (k : Int) by omega]
  rw [e]
  congr 1
  have h := PySem.W.krv_all xs
  have h2 : (List.range xs.size).filterMap (fun (k : Nat) => xs[((xs.size : Int) - 1 - (k : Int)).toNat]?) = ((List.range xs.size).map (fun k => xs.size - 1 - k)).filterMap (xs[·]?) := by
    rw [List.filterMap_map]
    refine fx_fmc fun k hk => ?_
    have := List.mem_range.mp hk
    show xs[_]? = xs[xs.size - 1 - k]?
    congr 1
    omega
  rw [h2, PySem.W.krv_range, List.filterMap_reverse, h]
theorem fx_getItem_rev {t sl : Addr} {items : Array Value} {vs : Value} {Q : Value → Shared → Prop} (ht : IsTup s.heap t items) (hs : s.heap.IsSliceOf sl .none .none vs) (ps : IsPart vs (some (-1)))
    (h : Q (.ref s.heap.objs.size) { s with heap := s.heap.push { cls := .type "tuple", data := .seq items.toList.reverse.toArray } }) (hsz : items.size ≤ sizeLine) : wpAny (model prog w) A (getItem (.ref t) (.ref sl)) Q E s := by
  have htake : sizeOk (.seq items.toList.reverse.toArray) := by
    show items.toList.reverse.toArray.size ≤ sizeLine
    rw [List.size_toArray, List.length_reverse, Array.length_toList]
    exact hsz
  obtain ⟨os, hos, hcs, hds⟩ := id hs
  have hTs : s.TypeIs (.ref sl) "slice" := ⟨os, hos, hcs⟩
  unfold getItem
  try with_reducible refine wpAny_holding ?_
  first | refine wpAny_bind (wpAny_pure ?_) | skip
  refine wpAny_bind (wpAny_sequenceKey ht.typeIs (by decide) ?_)
  refine wpAny_bind (wpAny_callSpecial?_slot (name := Str.ofString "__getitem__") ht.typeIs PyProof.Rows.slot_tuple_getitem
    (wpAny_call_entry PyProof.Rows.slot_tuple_getitem ht.typeIs entry_tuple_getitem ?_ (args_tuple_getitem _ _)))
  show wpAny _ _ (Builtin.Tuple.tupleItemsOf (.ref t) >>= _) _ _ s
  refine wpAny_bind (tupleItemsOf_ ht ?_)
  refine wpAny_bind (wpAny_typeOf hTs ?_)
  rw [if_pos (by decide)]
  have ap : ∀ {Q : Int × Int × Nat → Shared → Prop} {E : Value → Shared → Prop}, Q ((items.size : Int) - 1, -1, items.size) s → wpAny (model prog w) A.in1 (Builtin.Slice.sliceApplied (.ref sl) (pure (items.size : Int))) Q E s := by
    intro Q E h
    unfold Builtin.Slice.sliceApplied Builtin.Slice.sliceFields
    refine wpAny_bind (wpAny_bind (wpAny_field hos hds (x := .none) rfl (wpAny_bind (wpAny_field hos hds (x := .none) rfl (wpAny_bind (wpAny_field hos hds (x := vs) rfl (wpAny_pure ?_)))))))
    refine wpAny_bind (slicePart_ ps ?_)
    show wpAny _ _ (if ((-1 : Int) == 0) = true then _ else _) _ _ s
    rw [if_neg (by decide)]
    refine wpAny_bind (slicePart_none (wpAny_bind (slicePart_none (wpAny_bind (wpAny_pure ?_)))))
    show wpAny _ _ (pure ((items.size : Int) - 1, (-1 : Int), Builtin.Slice.slicePlaces ((items.size : Int) - 1) (-1) (-1))) _ _ s
    rw [fx_places]
    exact wpAny_pure h
  first
    | refine wpAny_bind (ap ?_)
    | exact ap ?_
  have hno : ¬ ((((items.size : Int) - 1) == 0 && (-1 : Int) == 1 && items.size == items.size) = true) := by
    intro q
    rw [Bool.and_eq_true, Bool.and_eq_true] at q
    exact absurd q.1.2 (by decide)
  show wpAny _ _ (if (((items.size : Int) - 1) == 0 && (-1 : Int) == 1 && items.size == items.size) = true then _ else _) _ _ s
  rw [if_neg hno, fx_pick]
  first
    | exact wpAny_bind (m := Builtin.Tuple.tupleExact _) (wpAny_newObj_type (wpAny_pure ⟨_, rfl, wpAny_pure h⟩) htake)
    | exact wpAny_bind (m := Builtin.Tuple.tupleExact _) (wpAny_newObj_type (wpAny_bind (wpAny_pure (wpAny_pure ⟨_, rfl, wpAny_pure h⟩))) htake)
    | exact wpAny_bind (wpAny_bind (m := Builtin.Tuple.tupleExact _) (wpAny_newObj_type (wpAny_pure (wpAny_pure ⟨_, rfl, wpAny_pure h⟩)) htake))
    | exact wpAny_bind (wpAny_bind (m := Builtin.Tuple.tupleExact _) (wpAny_newObj_type (wpAny_pure ⟨_, rfl, wpAny_pure h⟩) htake))
end
end HT

namespace Fx
open PySem PySem.Spec L2
variable {T : Nm} {W : WX} {X : Cx} {σ : St} {M : Lv} {g : G} {Φ : Fn}
/-! ### [::-1] -/
def tRevA (K : PySem.W.Frag) (te : TE) : TE := fun σ H Q => te σ H fun x H1 => ∃ a xs, x = .ref a ∧ ((SqL K H1 a xs ∧ ∀ p, H1 p = none → Q (.ref p) (upd H1 p (.lst xs.reverse))) ∨ (SqT K H1 a xs ∧ ∀ p, H1 p = none → Q (.ref p) (upd H1 p (.tup xs.reverse))))
theorem pe_revA {e : Expr} {te : TE} {k : Nat} {p1 p2 p3 pos : Pos} (he : PE X e te) : PE X (.Subscript e (.Slice none none (some (.UnaryOp .USub (.Constant (.int 1) k p1) p2)) p3) pos) (tRevA X.K te) := by
  refine ⟨fun pins s σ H Q I h => ?_⟩
  refine PyProof.Rows.Subscript_ (thn (he.run pins s σ H _ I h) fun v s1 ⟨x, H1, I1, r1, q1⟩ => ?_)
  obtain ⟨a, xs, ex, q⟩ := q1
  subst ex
  cases r1
  have hst : PO X (some (.UnaryOp .USub (.Constant (.int 1) k p1) p2)) (tPart (tUn (rU fun i => .int (-i)) (tC (.int 1)))) := po_some (pe_un un_neg pe_int)
  refine wpAny_Slice (thn (po_none.run pins s1 σ H1 (fun o H2 => o = none ∧ H2 = H1) I1 ⟨rfl, rfl⟩) fun vl s2 ⟨l, H2, I2, pl, el, e2⟩ => ?_)
  subst el e2
  refine thn (po_none.run pins s2 σ H2 (fun o H3 => o = none ∧ H3 = H2) I2 ⟨rfl, rfl⟩) fun vu s3 ⟨u, H3, I3, pu, eu, e3⟩ => ?_
  subst eu e3
  refine thn (hst.run pins s3 σ H3 (fun o H4 => o = some (-1) ∧ H4 = H3) I3 ⟨1, rfl, -1, rfl, rfl, rfl⟩) fun vs s4 ⟨o, H4, I4, ps, eo, e4⟩ => ?_
  subst eo e4
  have I5 : Inv X pins σ H4 { s4 with heap := s4.heap.push { cls := .type "slice", data := .fields #[vl, vu, vs] } } := I4.kept (t' := s4.toks) fun b ob q => Heap.get?_push_of_some _ q
  show wpAny (model X.prog X.w) X.A (PyProof.Rows.subscriptTail e (.Slice none none (some (.UnaryOp .USub (.Constant (.int 1) k p1) p2)) p3) (.ref a) (.ref s4.heap.objs.size)) (EP X pins σ Q) X.xe { s4 with heap := s4.heap.push { cls := .type "slice", data := .fields #[vl, vu, vs] } }
  rcases q with ⟨hx, q⟩ | ⟨hx, q⟩
  · obtain ⟨its, r, ht, hz⟩ := I5.list hx
    have hlen := r.length
    refine PyProof.Rows.tail_any (ops := [.ref a, .ref s4.heap.objs.size]) ht.isList.typeIs (PySem.slot_list_getitem.lookup) ?_ (by with_unfolding_all rfl)
    refine wpAny_getItem_list_slice ht.isList (Heap.IsSliceOf.new _ vl vu vs) pl pu ps (by decide) ?_ (by rw [List.size_toArray]; omega)
    rw [PySem.W.krv_pick]
    refine ⟨.ref _, _, I5.laid (t' := s4.toks) (o := .lst xs.reverse) (fun b ob q => Heap.get?_push_of_some _ q) (Nat.le_refl _) ?_, rfl, q _ (I5.hok.fresh (Nat.le_refl _))⟩
    exact ⟨by rw [List.length_reverse]; exact hz, _, 0, r.reverse, Heap.get?_push_size _ rfl⟩
  · obtain ⟨its, r, ht, hz⟩ := I5.tuple hx
    have hlen := r.length
    cases pl
    cases pu
    refine PyProof.Rows.tail_any (ops := [.ref a, .ref s4.heap.objs.size]) ht.typeIs (PyProof.Rows.slot_tuple_getitem.lookup) ?_ (by with_unfolding_all rfl)
    refine HT.fx_getItem_rev ht (Heap.IsSliceOf.new _ .none .none vs) ps ?_ (by rw [List.size_toArray]; omega)
    refine ⟨.ref _, _, I5.laid (t' := s4.toks) (o := .tup xs.reverse) (fun b ob q => Heap.get?_push_of_some _ q) (Nat.le_refl _) ?_, rfl, q _ (I5.hok.fresh (Nat.le_refl _))⟩
    exact ⟨by rw [List.length_reverse]; exact hz, _, r.reverse, ⟨_, Heap.get?_push_size _ rfl, rfl, _, rfl⟩⟩
theorem pe_revF {a : Expr} {k : Nat} {p1 p2 p3 pos : Pos} {ea : Env → Res Ar} (hK : X.K = T.K) (ha : PE X a (tAr T W ea)) :
    PE X (.Subscript a (.Slice none none (some (.UnaryOp .USub (.Constant (.int 1) k p1) p2)) p3) pos) (tM T W (one_ T.flds (fun x ρ => optR (revD x) ρ) ea)) := by
  refine (pe_revA ha).imp fun σ H Q h => ?_
  refine tAr_one (f := fun x ρ => optR (revD x) ρ) (K := fun M r ρ' => ∀ v F' H', Cf T F' H' ((r, v) :: M) ρ' σ → Q v H') h fun F M ρ H x dx cf rx q => ?_
  obtain ⟨r, e, k⟩ := tM_new cf q
  cases dx with
  | tup ds =>
    have rx' : Rp T F x (.tup ds) := rx
    cases rx' with
    | @tup a xs _ t rr =>
      cases e
      exact ⟨a, xs, rfl, .inr ⟨by rw [hK]; exact same_sqT cf.sub t, fun p np => k _ _ (.inr (.inl ⟨p, _, _, rfl, rfl, np, rfl, rr.rev⟩))⟩⟩
  | lst ds =>
    obtain ⟨a, xs, rfl, t, rr⟩ := rx
    cases e
    exact ⟨a, xs, rfl, .inl ⟨(by rw [hK]; exact t), fun p np => k _ _ ⟨p, _, rfl, np, rfl, rr.rev⟩⟩⟩
  | _ => cases e
/-! ### minus, constants of the module -/
theorem pe_negF {a : Expr} {pos : Pos} {m : Env → Res D} (ha : PE X a (tD T W m)) : PE X (.UnaryOp .USub a pos) (tM T W fun ρ => (m ρ).bind fun x ρ => match x with
    | .int i => .ok (.val (.int (-i))) ρ
    | _ => .stuck) := by
  refine (pe_un un_neg ha).imp fun σ H Q h => ?_
  obtain ⟨F, M, ρ, cf, q⟩ := h
  refine ⟨F, M, ρ, cf, (Out.bind q).imp fun d ρ1 k v F1 H1 cf1 => ?_⟩
  cases d with
  | int i =>
    have r := cf1.rp
    cases r
    exact ⟨i, rfl, k _ F1 H1 (cf1.tail.val (.int _))⟩
  | _ => exact k.elim
theorem pe_globF {x : Str} {v : V} {u : Value} {d : D} {gi : Nat} {p : Pos} (hg : Gl X x) (hm : X.mg x = some u) (r : RelV v u) (hd : (x == ("__debug__" : Str)) = false) (hr : ∀ F, Rp T F v d) (e : g.gl gi = some d) :
    PE X (.Name x p) (tM T W fun ρ => optR ((g.gl gi).map .val) ρ) := by
  rw [e]
  exact pe_cst (pe_glob hg hm r hd) hr
/-! ### a < b < c -/
theorem pe_cmp2F {a b c : Expr} {o1 o2 : CmpOp} {pos : Pos} {ma mb mc : Env → Res D} (hK : X.K = T.K) (hu : X.A.units + 64 < cLine) (ha : PE X a (tD T W ma)) (hb : PE X b (tD T W mb)) (hc : PE X c (tD T W mc)) (hm : lastMarks [o1, o2] [b, c] = false) :
    PE X (.Compare a [o1, o2] [b, c] pos) (tM T W fun ρ => (ma ρ).bind fun x ρ => (mb ρ).bind fun y ρ => match cmpD o1 x y with
      | some true => (mc ρ).bind fun z ρ => optR ((cmpD o2 y z).map fun k => .val (.bl k)) ρ
      | some false => .ok (.val (.bl false)) ρ
      | none => .stuck) := by
  refine (pe_chain (op_cmpF hK hu o1) (op_cmpF hK hu o2) ha hb hc hm).imp fun σ H Q h => ?_
  obtain ⟨F, M, ρ, cf, q⟩ := h
  refine ⟨F, M, ρ, cf, (Out.bind q).imp fun x ρ1 q1 vx F1 H1 cf1 => ?_⟩
  refine ⟨F1, _, ρ1, cf1, (Out.wk (Out.bind q1)).imp fun y ρ2 q2 vy F2 H2 cf2 => ?_⟩
  have ry := cf2.rp.rt cf2.sub
  have rx := cf2.tail.rp.rt cf2.sub
  cases e : cmpD o1 x y with
  | none => rw [e] at q2; exact q2.elim
  | some b =>
    rw [e] at q2
    refine ⟨F2, x, y, b, cf2.sub, rx, ry, e, b, rfl, ?_⟩
    cases b with
    | true =>
      rw [if_pos rfl]
      refine ⟨F2, _, ρ2, cf2, (Out.wkL (P := [(.val y, vy), (.val x, vx)]) (Out.bind q2)).imp fun z ρ3 q3 vz F3 H3 cf3 => ?_⟩
      obtain ⟨r, e3, k3⟩ := q3.opt
      obtain ⟨b2, e4, e5⟩ := Option.map_eq_some_iff.mp e3
      subst e5
      exact ⟨F3, y, z, b2, cf3.sub, cf3.tail.rp.rt cf3.sub, cf3.rp.rt cf3.sub, e4, k3 _ F3 H3 (cf3.tail.tail.tail.val (.bl b2))⟩
    | false =>
      rw [if_neg Bool.false_ne_true]
      exact q2 _ F2 H2 (cf2.tail.tail.val (.bl false))
theorem pt_cmp2F {a b c : Expr} {o1 o2 : CmpOp} {pos : Pos} {ma mb mc : Env → Res D} (hK : X.K = T.K) (hu : X.A.units + 64 < cLine) (ha : PE X a (tD T W ma)) (hb : PE X b (tD T W mb)) (hc : PE X c (tD T W mc)) (hm : lastMarks [o1, o2] [b, c] = false) :
    PT X (.Compare a [o1, o2] [b, c] pos) (tT T W fun ρ => (ma ρ).bind fun x ρ => (mb ρ).bind fun y ρ => match cmpD o1 x y with
      | some true => (mc ρ).bind fun z ρ => optR (cmpD o2 y z) ρ
      | some false => .ok false ρ
      | none => .stuck) := by
  refine (pt_chain (op_cmpF hK hu o1) (op_cmpF hK hu o2) ha hb hc hm).imp fun σ H Q h => ?_
  obtain ⟨F, M, ρ, cf, q⟩ := h
  show tChain _ _ _ _ _ σ H _
  refine ⟨F, M, ρ, cf, (Out.bind q).imp fun x ρ1 q1 vx F1 H1 cf1 => ?_⟩
  refine ⟨F1, _, ρ1, cf1, (Out.wk (Out.bind q1)).imp fun y ρ2 q2 vy F2 H2 cf2 => ?_⟩
  have ry := cf2.rp.rt cf2.sub
  have rx := cf2.tail.rp.rt cf2.sub
  cases e : cmpD o1 x y with
  | none => rw [e] at q2; exact q2.elim
  | some b =>
    rw [e] at q2
    refine ⟨F2, x, y, b, cf2.sub, rx, ry, e, b, rfl, ?_⟩
    cases b with
    | true =>
      rw [if_pos rfl]
      refine ⟨F2, _, ρ2, cf2, (Out.wkL (P := [(.val y, vy), (.val x, vx)]) (Out.bind q2)).imp fun z ρ3 q3 vz F3 H3 cf3 => ?_⟩
      obtain ⟨b2, e4, k3⟩ := q3.opt
      exact ⟨F3, y, z, b2, cf3.sub, cf3.tail.rp.rt cf3.sub, cf3.rp.rt cf3.sub, e4, b2, rfl, k3 F3 H3 cf3.tail.tail.tail⟩
    | false =>
      rw [if_neg Bool.false_ne_true]
      exact ⟨false, rfl, q2 F2 H2 cf2.tail.tail⟩
end Fx
end
section
set_option linter.all false
set_option Elab.async false
set_option maxRecDepth 100000
set_option maxHeartbeats 4000000
/-! == of instances with an own ==. -/
namespace Fx
open PySem PySem.Spec L2
variable {T : Nm} {W : WX} {X : Cx} {σ : St} {M : Lv} {g : G} {Φ : Fn}
structure EqKn (T : Nm) (Φ : Fn) (g : G) (X : Cx) (c : Nat) : Prop where
  ok : ∃ k fa fd ps, PySem.W.findIn X.K (.ref (T.cls c)) "__eq__" = some (some (.ref fa)) ∧ PySem.W.isFn X.K (.ref fa) = true ∧ FnOk X.prog X.w X.K X.mg X.base (L2.CX X.prog X.w) k fa fd ps (spF T Φ (g.eqf c) 2) ∧ Room k X.A ∧ Binds X.K fd ps []
  nf1 : ∀ n ∈ tyNames, PySem.W.notFirst X.K (T.cls c) (.type n) = true
  nf2 : ∀ c', c' < g.nc → PySem.W.notFirst X.K (T.cls c) (.ref (T.cls c')) = true
theorem EqKn.nf {c : Nat} (h : EqKn T Φ g X c) {y : D} (e : y.tyOk g.nc = true) : PySem.W.notFirst X.K (T.cls c) (y.ty T) = true := by
  cases y with
  | rng _ _ => cases e
  | dct _ _ => cases e
  | ins c' _ => exact h.nf2 c' (by simpa [D.tyOk] using e)
  | _ => exact h.nf1 _ (by simp [tyNames])
def rEqo (T : Nm) (g : G) (Φ : Fn) : R2 := fun x y H Q => ∃ F L dx dy b, Reps T F H ((.val dx, x) :: (.val dy, y) :: L) ∧ (∀ ρ, eqoR g Φ dx dy ρ = .ok (.val (.bl b)) ρ) ∧ ∀ F' H', Reps T F' H' L → Q (.bl b) H'
theorem op_eqo (hK : X.K = T.K) (hu : X.A.units + 64 < cLine) (A : ClsAll T X.K g.nc) (kn : ∀ c, c < g.nc → g.eqk c = true → EqKn T Φ g X c) : OpR X (compareOp .Eq) (rEqo T g Φ) := by
  intro pins s σ H x y v u Q I rx ry h
  obtain ⟨F, L, dx, dy, b, rp, e, k⟩ := h
  have ax := rp.rp
  have ay := rp.tail.rp
  have plain : ∀ (b : Bool), eqD dx dy = some b → (∀ F' H', Reps T F' H' L → Q (.bl b) H') → wpAny (model X.prog X.w) X.A (compareOp .Eq v u) (EP X pins σ Q) X.xe s := fun b e k =>
    op_eqF hK hu pins s σ H x y v u Q I rx ry ⟨F, dx, dy, b, rp.sub, ax.rt rp.sub, ay.rt rp.sub, e, k F H rp.tail.tail⟩
  have plain2 : (∀ ρ : Env, optR ((eqD dx dy).map fun b => R.val (.bl b)) ρ = .ok (.val (.bl b)) ρ) → wpAny (model X.prog X.w) X.A (compareOp .Eq v u) (EP X pins σ Q) X.xe s := fun e => by
    have e := e []
    cases z : eqD dx dy with
    | none => rw [z] at e; cases e
    | some b' => rw [z] at e; cases e; exact plain b z k
  cases dx with
  | ins c ds =>
    have e := e []
    have e : (if g.eqk c = true ∧ c < g.nc ∧ dy.tyOk g.nc = true then (match Φ (g.eqf c) [.val (.ins c ds), .val dy] with
      | .ok (.val (.bl b)) _ => Res.ok (R.val (.bl b)) []
      | _ => .stuck) else .stuck) = .ok (.val (.bl b)) [] := e
    split at e
    · rename_i hh
      obtain ⟨h1, h2, h3⟩ := hh
      have K := kn c h2 h1
      obtain ⟨kk, fa, fd, ps, hs, hf, Fo, hr, hb⟩ := K.ok
      cases ax with
      | @ins a ddx _ xs _ ha hl rr =>
        have ha' := rp.sub _ _ ha
        cases (show v = Value.ref a from rx)
        obtain ⟨mA, J, _⟩ := ins_get I.hok ha'
        obtain ⟨od, J, _⟩ := J.look
        obtain ⟨m, hF⟩ := I.fr
        obtain ⟨P, KX, hP, _⟩ := kit_of I ry (Rt.ty hK A rp.sub (ay.rt rp.sub) h3)
        show wpAny (model X.prog X.w) X.A (richCompare .Eq (.ref a) u) (EP X pins σ Q) X.xe s
        refine PySem.W.cmp_K (op := .Eq) (tb := dy.ty T) (by omega) hF I.ok.mod.kin J (KX.ty _ _ I.kIn hP) (K.nf h3) hs hf ?_
        have sp : spF T Φ (g.eqf c) 2 [.ref a, y] H (fun w H' => w = .bl b ∧ Q w H') (fun _ _ _ => False) := by
          refine ⟨rfl, F, L, [.val (.ins c ds), .val dy], rfl, rp, ?_⟩
          split at e
          · rename_i b' outs z
            cases e
            rw [z]
            intro w F' H' rp'
            have rw' := rp'.rp
            cases rw'
            exact ⟨rfl, k F' H' (Reps.drop (M := lives outs [V.ref a, y]) rp'.tail)⟩
          · cases e
        refine wpAny_mono (run_fn (us := [.ref a, u]) (vs := [.ref a, y]) (dvs := []) Fo hr hb .nil passes_false I (.cons rfl (.cons ry .nil)) sp) (fun w s' z => ?_) fun _ _ x => x
        obtain ⟨z', H', I', rz, rfl, qz⟩ := z
        cases rz
        exact (⟨V.bl _, H', I', rfl, qz⟩ : EP X pins σ Q (Value.bool _) s')
    · cases e
  | _ => exact plain2 e
theorem eqo_imp {ma mb : Env → Res D} {H : Hp} {α : Type} {f : R → Env → Res α} {K : Lv → α → Env → Prop} {Q : VK} 
    (h : ∃ F M ρ, Cf T F H M ρ σ ∧ Out T W σ M ((ma ρ).bind fun x ρ => (mb ρ).bind fun y ρ => (eqoR g Φ x y ρ).bind f) (K M))
    (k : ∀ F M ρ H b, Cf T F H M ρ σ → Out T W σ M (f (.val (.bl b)) ρ) (K M) → Q (.bl b) H) : tD T W ma σ H fun x H1 => tD T W mb σ H1 fun y H2 => rEqo T g Φ x y H2 Q := by
  obtain ⟨F, M, ρ, cf, q⟩ := h
  refine ⟨F, M, ρ, cf, (Out.bind q).imp fun x ρ1 q1 vx F1 H1 cf1 => ?_⟩
  refine ⟨F1, _, ρ1, cf1, (Out.wk (Out.bind q1)).imp fun y ρ2 q2 vy F2 H2 cf2 => ?_⟩
  obtain ⟨L, sl, rp⟩ := cf2.swap
  have key : ∃ b, (∀ ρ, eqoR g Φ x y ρ = .ok (.val (.bl b)) ρ) ∧ Out T W σ M (f (.val (.bl b)) ρ2) (K M) := by
    have opt : ∀ {o : Option Bool}, Out T W σ M ((optR (o.map fun b => R.val (.bl b)) ρ2).bind f) (K M) → ∃ b, (∀ ρ, optR (o.map fun b => R.val (.bl b)) ρ = .ok (.val (.bl b)) ρ) ∧ Out T W σ M (f (.val (.bl b)) ρ2) (K M) := fun {o} q => by
      cases o with
      | none => exact q.elim
      | some b => exact ⟨b, fun _ => rfl, q⟩
    cases x with
    | ins c ds =>
      have q2 : Out T W σ M ((if g.eqk c = true ∧ c < g.nc ∧ y.tyOk g.nc = true then (match Φ (g.eqf c) [.val (.ins c ds), .val y] with
        | .ok (.val (.bl b)) _ => Res.ok (R.val (.bl b)) ρ2
        | _ => .stuck) else .stuck).bind f) (K M) := q2
      by_cases hc : g.eqk c = true ∧ c < g.nc ∧ y.tyOk g.nc = true
      · rw [if_pos hc] at q2
        split at q2
        · rename_i b outs z
          refine ⟨b, fun ρ => ?_, q2⟩
          show (if g.eqk c = true ∧ c < g.nc ∧ y.tyOk g.nc = true then _ else _) = _
          rw [if_pos hc, z]
        · exact q2.elim
      · rw [if_neg hc] at q2; exact q2.elim
    | non => exact opt (o := eqD .non y) q2
    | bl b => exact opt (o := eqD (.bl b) y) q2
    | int b => exact opt (o := eqD (.int b) y) q2
    | str b => exact opt (o := eqD (.str b) y) q2
    | tup b => exact opt (o := eqD (.tup b) y) q2
    | dct a b => exact opt (o := eqD (.dct a b) y) q2
    | lst b => exact opt (o := eqD (.lst b) y) q2
    | rng b c => exact opt (o := eqD (.rng b c) y) q2
  obtain ⟨b, e, q3⟩ := key
  exact ⟨F2, M ++ L, x, y, b, rp, e, fun F' H' rp' => k F' M ρ2 H' b ⟨L, sl, rp'⟩ q3⟩
theorem res_bind_ok {α : Type} (x : Res α) : (x.bind fun a ρ => Res.ok a ρ) = x := by cases x <;> rfl
theorem pe_eqoF {a b : Expr} {pos : Pos} {ma mb : Env → Res D} (hK : X.K = T.K) (hu : X.A.units + 64 < cLine) (A : ClsAll T X.K g.nc) (kn : ∀ c, c < g.nc → g.eqk c = true → EqKn T Φ g X c) (ha : PE X a (tD T W ma)) (hb : PE X b (tD T W mb)) (hm : behindInMarks .Eq b = false) :
    PE X (.Compare a [.Eq] [b] pos) (tM T W fun ρ => (ma ρ).bind fun x ρ => (mb ρ).bind fun y ρ => eqoR g Φ x y ρ) := by
  refine (pe_cmpR (op_eqo hK hu A kn) ha hb hm).imp fun σ H Q h => ?_
  refine eqo_imp (f := fun r ρ => .ok r ρ) (K := fun M r ρ' => ∀ v F' H', Cf T F' H' ((r, v) :: M) ρ' σ → Q v H') ?_ fun F M ρ H b cf q => q _ F H (cf.val (.bl b))
  obtain ⟨F, M, ρ, cf, q⟩ := h
  exact ⟨F, M, ρ, cf, by simpa only [res_bind_ok] using q⟩
theorem pt_eqoF {a b : Expr} {pos : Pos} {ma mb : Env → Res D} (hK : X.K = T.K) (hu : X.A.units + 64 < cLine) (A : ClsAll T X.K g.nc) (kn : ∀ c, c < g.nc → g.eqk c = true → EqKn T Φ g X c) (ha : PE X a (tD T W ma)) (hb : PE X b (tD T W mb)) (hm : behindInMarks .Eq b = false) :
    PT X (.Compare a [.Eq] [b] pos) (tT T W fun ρ => (ma ρ).bind fun x ρ => (mb ρ).bind fun y ρ => (eqoR g Φ x y ρ).bind fun r ρ => optR ((fullD T.flds r).bind truD) ρ) := by
  refine (pt_cmpR (op_eqo hK hu A kn) ha hb hm).imp fun σ H Q h => ?_
  refine eqo_imp (f := fun r ρ => optR ((fullD T.flds r).bind truD) ρ) (K := fun M b ρ' => ∀ F' H', Cf T F' H' M ρ' σ → Q b H') h fun F M ρ H b cf q => ?_
  exact ⟨b, rfl, q F H cf⟩
end Fx
end
section
set_option linter.all false
set_option Elab.async false
set_option maxRecDepth 100000
set_option maxHeartbeats 4000000
/-! The rules of sorted(set(..)), {}, d[k] = v, a, b = e, f. -/
namespace Fx
open PySem PySem.Spec L2
variable {T : Nm} {W : WX} {X : Cx} {σ : St} {M : Lv} {wr : List Nat}
/-! ### sorted(set(..)) -/
theorem insI_mem (x k : Int) : ∀ l : List Int, k ∈ insI x l ↔ k = x ∨ k ∈ l
  | [] => by simp [insI]
  | y :: ys => by
    unfold insI
    split
    · simp
    · split
      · rename_i h; subst h; simp
      · rw [List.mem_cons, insI_mem x k ys, List.mem_cons]
        constructor
        · rintro (h | h | h) <;> simp [h]
        · rintro (h | h | h) <;> simp [h]
theorem insI_lt (x : Int) : ∀ l : List Int, l.Pairwise (· < ·) → (insI x l).Pairwise (· < ·)
  | [], _ => by simp [insI]
  | y :: ys, h => by
    obtain ⟨h1, h2⟩ := List.pairwise_cons.mp h
    unfold insI
    split
    · rename_i c
      refine List.pairwise_cons.mpr ⟨fun z hz => ?_, h⟩
      rcases List.mem_cons.mp hz with rfl | hz
      · exact c
      · have := h1 z hz; omega
    · split
      · exact h
      · rename_i c1 c2
        refine List.pairwise_cons.mpr ⟨fun z hz => ?_, insI_lt x ys h2⟩
        rcases (insI_mem x z ys).mp hz with rfl | hz
        · omega
        · exact h1 z hz
theorem usort_mem (k : Int) : ∀ l : List Int, k ∈ usort l ↔ k ∈ l
  | [] => by simp [usort]
  | x :: l => by
    show k ∈ insI x (usort l) ↔ _
    rw [insI_mem, usort_mem k l, List.mem_cons]
theorem usort_lt : ∀ l : List Int, (usort l).Pairwise (· < ·)
  | [] => by simp [usort]
  | x :: l => insI_lt x _ (usort_lt l)
theorem lt_uniq : ∀ {l m : List Int}, l.Pairwise (· < ·) → m.Pairwise (· < ·) → (∀ k, k ∈ l ↔ k ∈ m) → l = m
  | [], [], _, _, _ => rfl
  | [], y :: m, _, _, h => by have := (h y).mpr (by simp); cases this
  | x :: l, [], _, _, h => by have := (h x).mp (by simp); cases this
  | x :: l, y :: m, hl, hm, h => by
    obtain ⟨l1, l2⟩ := List.pairwise_cons.mp hl
    obtain ⟨m1, m2⟩ := List.pairwise_cons.mp hm
    have e : x = y := by
      have a := (h x).mp (by simp)
      have b := (h y).mpr (by simp)
      rcases List.mem_cons.mp a with e | a
      · exact e
      · rcases List.mem_cons.mp b with e | b
        · exact e.symm
        · have := m1 x a; have := l1 y b; omega
    subst e
    rw [lt_uniq l2 m2 fun k => ?_]
    have hk := h k
    rw [List.mem_cons, List.mem_cons] at hk
    constructor
    · intro q
      rcases hk.mp (.inr q) with e | q'
      · subst e; have := l1 k q; omega
      · exact q'
    · intro q
      rcases hk.mpr (.inr q) with e | q'
      · subst e; have := m1 k q; omega
      · exact q'
def rSetL (K : PySem.W.Frag) (w : World) : List V → Hp → VK → Prop := fun xs H Q => ∃ (a : Addr) (ns : List Int), xs = [.ref a] ∧ SqL K H a (ns.map V.int) ∧ ns.length < 64 ∧
  ∀ p n, H p = none → n ≤ ns.length → Q (.ref p) (upd H p (SetO w p (fun j => decide (j ∈ ns)) n))
theorem cr_setL (hc : X.calm = true) : CallR X (.type "set") (rSetL X.K X.w) := by
  intro pins s σ H xs us Q I r h
  obtain ⟨a, ns, rfl, hs, hl, q⟩ := h
  obtain ⟨its, rv, pl, hz⟩ := I.list hs
  obtain ⟨u, rfl, ru⟩ := vals1 r
  cases ru
  refine fx_setL ns (I.ok.hd hc) pl.isList (by simpa using rv.ints) (by unfold scanBound; omega) fun h' tk c R hle k => ?_
  exact ⟨.ref s.heap.objs.size, upd H s.heap.objs.size (SetO X.w s.heap.objs.size (fun j => decide (j ∈ ns)) c), I.laid (t' := tk) k (Nat.le_refl _) (setO_new R), rfl, q _ _ (I.hok.fresh (Nat.le_refl _)) hle⟩
theorem pe_srtsF {e : Expr} {p1 p2 p3 p4 : Pos} {m : Env → Res D} (hK : X.K = T.K) (hc : X.calm = true) (hg1 : Gl X "sorted") (hm1 : X.mg "sorted" = none) (hg2 : Gl X "set") (hm2 : X.mg "set" = none) (he : PE X e (tD T W m)) (st : Ex.star e = false) :
    PE X (.Call (.Name "sorted" p1) [.Call (.Name "set" p2) [e] [] p3] [] p4) (tM T W fun ρ => (m ρ).bind fun x ρ => match x with
      | .lst ds => if ds.length < 64 then optR ((allI ds).map fun ns => .lst ((usort ns).map .int)) ρ else .stuck
      | _ => .stuck) := by
  have h1 := pe_callTy (pos := p3) (p := p2) (cr_setL (X := X) hc) hg2 hm2 (by decide +kernel) (pa_cons he pa_nil (star_cons [] _ st)) (by decide) (by decide) (star_cons [] _ st) (star_plain [] rfl)
  have h2 := pe_callB (pos := p4) (p := p1) (cr_sortedSet (X := X) hc) hg1 hm1 (by decide +kernel) (pa_cons h1 pa_nil (star_cons [] _ rfl)) (by decide) (by decide) (star_cons [] _ rfl) (star_plain [] rfl)
  refine h2.imp fun σ H Q q => ?_
  obtain ⟨F, M, ρ, cf, q⟩ := q
  refine ⟨F, M, ρ, cf, (Out.bind q).imp fun d ρ1 q1 v1 F1 H1 cf1 => ?_⟩
  cases d with
  | lst ds =>
    dsimp only at q1
    split at q1
    · rename_i hl
      obtain ⟨r, e1, k⟩ := Out.opt q1
      obtain ⟨ns, e2, e3⟩ := Option.map_eq_some_iff.mp e1
      subst e3
      have rp := cf1.rp
      cases rp with
      | @lst a xs _ t rr =>
        have ex := allI_vals e2 rr
        subst ex
        refine ⟨a, ns, rfl, by rw [hK]; exact same_sqL cf1.sub t, by have := rr.len; rw [List.length_map] at this; omega, fun p n np hle => ?_⟩
        refine ⟨p, _, n, rfl, upd_same, by have := rr.len; rw [List.length_map] at this; omega, fun ns' p' h1 h2 _ np' => ?_⟩
        have eu : ns' = usort ns := lt_uniq h1 (usort_lt ns) fun k => by rw [h2, decide_eq_true_eq, usort_mem]
        subst eu
        have gr : Same H1 (upd H1 p (SetO X.w p (fun j => decide (j ∈ ns)) n)) := fun b o e => by rw [upd_ne (ne_of_none e np)]; exact e
        have cf2 := cf1.tail.grow gr
        have rl : ∀ l : List Int, RpL T F1 (l.map V.int) (l.map D.int) := by
          intro l
          induction l with
          | nil => exact .nil
          | cons i l ih => exact .cons (.int i) ih
        exact k (.ref p') _ _ (cf2.own np' (rl _))
    · exact q1.elim
  | _ => exact q1.elim
/-! ### {} -/
theorem pe_dnewF {pos : Pos} : PE X (.Dict [] [] pos) (tM T W fun ρ => .ok (.dct [] []) ρ) := by
  refine pe_dnewK.imp fun σ H Q q => ?_
  obtain ⟨F, M, ρ, cf, q⟩ := q
  intro p np
  exact q (.ref p) F _ (cf.ownD np (.inl ⟨[], rfl, rfl, .nil⟩))
/-! ### d[k] = v -/
def rSetD (T : Nm) : V → V → V → Hp → (Hp → Prop) → Prop := fun o i v H Q => ∃ (F : Hp) (p : Addr) (ob : HO) (ks vs : List D) (k d : D), Same F H ∧ o = .ref p ∧ H p = some ob ∧ DR T F p ob ks vs ∧ Rt T F H i k ∧ keyOk ks k = true ∧ ks.length < LINE ∧ Rp T F v d ∧
  ∀ o', DR T F p o' (dPutK ks k) (dPutV ks vs k d) → Q (upd H p o')
theorem set_dF (hK : X.K = T.K) (hu : X.A.units + 64 < cLine) : PSet X (rSetD T) := by
  intro pins s σ H o i v ov iv u Q I ro ri rv h
  obtain ⟨F, p, ob, ks, vs, k, d, sF, rfl, hp, dr, rk, ok, hz, rd, q⟩ := h
  cases ro
  exact dF_set (by omega) I hK sF hp dr rk ri ok hz rv rd fun o' s' dr' I' => ⟨_, I', q o' dr'⟩
theorem Cf.dct {F H : Hp} {ρ : Env} {i : Nat} {ks vs : List D} (cf : Cf T F H M ρ σ) (e : ρ.at i = some (.dct ks vs)) : ∃ p o, σ[i]? = some (some (.ref p)) ∧ H p = some o ∧ DR T F p o ks vs ∧ Cf T F H ((.dct ks vs, .ref p) :: M) (ρ.set i none) σ := by
  obtain ⟨v, e1, cf'⟩ := cf.out (at_get e)
  obtain ⟨p, o, rfl, h1, h2⟩ := cf'.dctAt
  exact ⟨p, o, e1, h1, h2, cf'⟩
theorem ps_setdF {x : Str} {i : Nat} {p0 p1 pos : Pos} {ek e : Expr} {mk m : Env → Res D} (hK : X.K = T.K) (hu : X.A.units + 64 < cLine) (ho : PE X (.Name x p0) (tVar i)) (hk : PE X ek (tD T W mk)) (he : PE X e (tD T W m)) (hc : Ex.compr e = false) (hsl : Ex.isSlice ek = false) :
    PS X (.Assign [.Subscript (.Name x p0) ek p1] e pos) (tS T W wr fun ρ => (m ρ).thn fun d ρ => match ρ.at i with
    | some (.dct _ _) => (mk ρ).thn fun k ρ => (match ρ.at i with
      | some (.dct ks vs) => if keyOk ks k = true ∧ ks.length < LINE then .nx (ρ.set i (some (.dct (dPutK ks k) (dPutV ks vs k d)))) else .stuck
      | _ => .stuck)
    | _ => .stuck) := by
  have ha : ∀ v, assign (.Subscript (.Name x p0) ek p1) X.env v = (do
      let ov ← holding [v] (eval (.Name x p0) X.env)
      let iv ← holding [v, ov] (eval ek X.env)
      standAt p1
      holding [v, ov, iv] (setItem ov iv v)
      release [v, ov, iv] []) := by
    intro v
    cases ek <;> first | rfl | cases hsl
  refine (ps_asg he (pg_sub ho hk (set_dF hK hu) ha) (by unfold swapsWithSole; exact swaps_plain hc) rfl rfl).imp fun D σ H q => ?_
  obtain ⟨F, M, ρ, cf, q⟩ := q
  refine ⟨F, M, ρ, cf, (SOut.thn q).imp fun d ρ1 k v F1 H1 cf1 => ?_⟩
  cases z : ρ1.at i with
  | none => rw [z] at k; exact k.elim
  | some r =>
    cases r with
    | dct ks0 vs0 =>
      rw [z] at k
      obtain ⟨p, o, e1, e2, e3, _⟩ := cf1.dct z
      refine ⟨_, e1, F1, _, ρ1, cf1, (SOut.thn (SOut.wkL (P := [(.val d, v)]) k)).imp fun kd ρ2 k v2 F2 H2 cf2 => ?_⟩
      cases z1 : ρ2.at i with
      | none => rw [z1] at k; exact k.elim
      | some r1 =>
        cases r1 with
        | dct ks vs =>
          rw [z1] at k
          dsimp only at k
          split at k
          · rename_i c
            have rk := cf2.rp
            have rv := cf2.tail.rp
            obtain ⟨p', o', f1, f2, f3, cf3⟩ := cf2.tail.tail.dct z1
            rw [e1] at f1; cases f1
            refine ⟨F2, p, o', ks, vs, kd, d, cf2.sub, rfl, f2, f3, rk.rt cf2.sub, c.1, c.2, rv, fun o2 dr2 => ?_⟩
            exact k _ F2 _ .refl (((cf3.putD dr2).back e1).val rv)
          · exact k.elim
        | _ => rw [z1] at k; exact k.elim
    | _ => rw [z] at k; exact k.elim
/-! ### a, b = e, f -/
theorem par_fold {is : List Nat} {ds : List D} {ρ : Env} : setTg (.many is) (.tup ds) ρ = if is.length = ds.length then some ((is.zip ds).foldl (fun ρ p => ρ.set p.1 (some (.val p.2))) ρ) else none := rfl
end Fx
end
section
set_option linter.all false
set_option Elab.async false
set_option maxRecDepth 100000
set_option maxHeartbeats 4000000
/-! The text of an expression is one of the language: the check. -/
namespace Fx
open PySem PySem.Spec L2
/-- the names -/
structure Tb where
  N : List Str
  fns : List (Str × Nat)
  cls : List (Str × Nat)
  xcs : List Str
  nx : Nat
  gls : List Str
  fnm : List Str
def visB (sc : Scope) (x : Str) : Bool := match sc.names.lookup x with
  | some .local => true
  | some .cell => true
  | some .free => true
  | _ => false
def glB (sc : Scope) (x : Str) : Bool := match sc.names.lookup x with
  | some .globalImplicit => true
  | _ => false
def dbgB (x : Str) : Bool := !(x == ("__debug__" : Str)) && !(x == ("__classdict__" : Str))
section
variable (tb : Tb)
def okV (sc : Scope) (i : Nat) (x : Str) : Bool := decide (tb.N[i]? = some x) && (visB sc x && dbgB x)
def okC : D → Expr → Bool
  | .int i, .Constant (.int j) _ _ => decide (i = j)
  | .str x, .Constant (.str y) _ _ => decide (x = y)
  | .bl b, .Constant (.bool c) _ _ => decide (b = c)
  | .non, .Constant .none _ _ => true
  | _, _ => false
def okIs (sc : Scope) : IsT → Expr → Bool
  | .int, .Name x _ => decide (x = "int") && glB sc x
  | .bool, .Name x _ => decide (x = "bool") && glB sc x
  | .tuple, .Name x _ => decide (x = "tuple") && glB sc x
  | .list, .Name x _ => decide (x = "list") && glB sc x
  | .str, .Name x _ => decide (x = "str") && glB sc x
  | .cls c, .Name x _ => decide ((tb.cls[c]?).map (·.1) = some x) && (glB sc x && dbgB x)
  | .listTuple, .Tuple [.Name x _, .Name y _] _ _ => decide (x = "list") && decide (y = "tuple") && (glB sc x && glB sc y)
  | _, _ => false
/-- a target's text; own: storable -/
def stB (sc : Scope) (x : Str) : Bool := match sc.names.lookup x with
  | some .local => true
  | some .cell => true
  | _ => false
def okTN (sc : Scope) : List Nat → List Expr → Bool
  | [], [] => true
  | i :: is, .Name x _ :: es => decide (tb.N[i]? = some x) && stB sc x && okTN sc is es
  | _, _ => false
def okTg (sc : Scope) : Tg → Expr → Bool
  | .one i, .Name x _ => decide (tb.N[i]? = some x) && stB sc x
  | .many is, .Tuple es _ _ => okTN tb sc is es
  | _, _ => false
def ownP (own : List Nat) : List (Str × Nat) := own.map fun i => ((tb.N[i]?).getD "", i)
def noStar (es : List Expr) : Bool := es.all fun e => !Ex.star e
mutual
/-- t: as a test -/
def okE (t : Bool) (sc : Scope) : IE → Expr → Bool
  | .var i, .Name x _ => okV tb sc i x
  | .cst d, e => okC d e
  | .glob gi, .Name x _ => decide (tb.gls[gi]? = some x) && (glB sc x && dbgB x)
  | .tup es, .Tuple l _ _ => noStar l && okEs false sc es l
  | .lst es, .List l _ => noStar l && okEs false sc es l
  | .bin op a b, .BinOp x o y _ => decide (op = o) && (okE false sc a x && okE false sc b y)
  | .neg a, .UnaryOp .USub x _ => !t && okE false sc a x
  | .bop isAnd es, .BoolOp o l _ => decide (o = if isAnd = true then .And else .Or) && (decide (2 ≤ l.length) && okEs t sc es l)
  | .nt a, .UnaryOp .Not x _ => okE t sc a x
  | .cmp op a b, .Compare x [o] [y] _ => decide (op = o) && (!behindInMarks o y && (okE false sc a x && okE false sc b y))
  | .eqo a b, .Compare x [.Eq] [y] _ => !behindInMarks .Eq y && (okE false sc a x && okE false sc b y)
  | .cmp2 o1 o2 a b c, .Compare x [p1, p2] [y, z] _ => decide (o1 = p1) && (decide (o2 = p2) && (!lastMarks [p1, p2] [y, z] && (okE false sc a x && (okE false sc b y && okE false sc c z))))
  | .ife c a b, .IfExp c' a' b' _ => !t && (okE true sc c c' && (okE false sc a a' && okE false sc b b'))
  | .idx a b, .Subscript x y _ => ixP y && (okE false sc a x && okE false sc b y)
  | .slc a lo hi, .Subscript x (.Slice l h none _) _ => okE false sc a x && (okO sc lo l && okO sc hi h)
  | .rev a, .Subscript x (.Slice none none (some (.UnaryOp .USub (.Constant (.int 1) _ _) _)) _) _ => okE false sc a x
  | .attr a f, .Attribute x n _ => decide (tb.fnm[f]? = some n) && (!Ex.isCall x && okE false sc a x)
  | .call f es, .Call (.Name x _) l [] _ => decide (tb.fns[f]? = some (x, l.length)) && (!l.isEmpty && (noStar l && (glB sc x && (dbgB x && okEs false sc es l))))
  | .make c es, .Call (.Name x _) l [] _ => decide (tb.cls[c]? = some (x, l.length)) && (!l.isEmpty && (noStar l && (glB sc x && (dbgB x && okEs false sc es l))))
  | .cb b es, .Call (.Name x _) l [] _ => decide (x = b.name) && (!l.isEmpty && (noStar l && (glB sc x && okEs false sc es l)))
  | .isi a t, .Call (.Name x _) [y, z] [] _ => decide (x = "isinstance") && (glB sc x && (!Ex.star y && (!Ex.star z && (okE false sc a y && okIs tb sc t z))))
  | .dnew, .Dict [] [] _ => !t
  | .srts a, .Call (.Name x _) [.Call (.Name y _) [e] [] _] [] _ => decide (x = "sorted") && (decide (y = "set") && (glB sc x && (glB sc y && (!Ex.star e && okE false sc a e))))
  | .comp elt own tg src c, .ListComp e [⟨tgE, iter, ifs, 0⟩] scope _ => blkC tb.N sc scope (ownP tb own) && (decide own.Nodup && (decide (∀ i ∈ own, i < tb.N.length) && (decide (∀ i ∈ tg.slots, i ∈ own) && (okTg tb scope tg tgE && (!Ex.isSet iter && (okI sc src tgE iter && (okF (relS scope sc) c ifs && okE false (relS scope sc) elt e)))))))
  | .comp2 elt own own1 tg src tg1 src1 c, .ListComp e [⟨tgE, iter, [], 0⟩, ⟨tgE1, iter1, ifs1, 0⟩] scope _ => blkC tb.N sc scope (ownP tb own) && (decide own.Nodup && (decide own1.Nodup && (decide (∀ i ∈ own1, i ∈ own) && (decide (∀ i ∈ own, i < tb.N.length) && (decide (∀ i ∈ tg.slots, i ∈ own) && (decide (∀ i ∈ tg1.slots, i ∈ own1) &&
      (okTg tb scope tg tgE && (okTg tb scope tg1 tgE1 && (!Ex.isSet iter && (!Ex.isSet iter1 && (okI sc src tgE iter && (okI (relS scope sc) src1 tgE1 iter1 && (okF (relS scope sc) c ifs1 && okE false (relS scope sc) elt e)))))))))))))
  | _, _ => false
def okO (sc : Scope) : IO → Option Expr → Bool
  | .non, none => true
  | .som e, some x => okE false sc e x
  | _, _ => false
def okF (sc : Scope) : IO → List Expr → Bool
  | .non, [] => true
  | .som e, [x] => okE true sc e x
  | _, _ => false
def okEs (t : Bool) (sc : Scope) : IEs → List Expr → Bool
  | .nil, [] => true
  | .cons e es, x :: xs => okE t sc e x && okEs t sc es xs
  | _, _ => false
def okI (sc : Scope) : II → Expr → Expr → Bool
  | .seq e, _, x => okE false sc e x
  | .zip a b, .Tuple _ _ _, .Call (.Name x _) [e1, e2] [] _ => decide (x = "zip") && (glB sc x && (!Ex.star e1 && (!Ex.star e2 && (okE false sc a e1 && okE false sc b e2))))
  | .enum a, .Tuple _ _ _, .Call (.Name x _) [e1] [] _ => decide (x = "enumerate") && (glB sc x && (!Ex.star e1 && okE false sc a e1))
  | _, _, _ => false
end
/-! ### statements -/
def slB (sc : Scope) (o : Option Nat) (y : Str) : Bool := match o with
  | some i => okV tb sc i y
  | none => false
def nmB (wr : List Nat) (sc : Scope) (o : Option Nat) (nm : Option Str) : Bool := match o, nm with
  | none, none => true
  | some i, some n => decide (tb.N[i]? = some n) && (decide (sc.names.lookup n = some .local) && decide (i ∈ wr))
  | _, _ => false
def okHE (sc : Scope) (o : Option Nat) : HE → Expr → Bool
  | .cst d, e => okC d e
  | .fld n, .Attribute (.Name y _) m _ => decide (n = m) && slB tb sc o y
  | .pair d n, .Tuple [ec, .Attribute (.Name y _) m _] _ _ => okC d ec && (decide (n = m) && slB tb sc o y)
  | _, _ => false
def okHd (wr : List Nat) (sc : Scope) (h : Hd) : ExceptHandler → Bool
  | .ExceptHandler (some (.Name x _)) nm [.Return (some e) _] _ => decide (tb.xcs[h.c]? = some x) && (glB sc x && (dbgB x && (okHE tb sc h.slot h.ret e && nmB tb wr sc h.slot nm)))
  | _ => false
def okHds (wr : List Nat) (sc : Scope) : List Hd → List ExceptHandler → Bool
  | [], [] => true
  | h :: hs, e :: es => okHd tb wr sc h e && okHds wr sc hs es
  | _, _ => false
def notTup : Expr → Bool
  | .Tuple .. => false
  | _ => true
def swB (sc : Scope) (x : Str) (p : Pos) : Expr → Bool
  | .ListComp _ _ scope pos => decide (sc.names.lookup x = some .local) && (p.line == pos.line && !(scope.names.any fun (n, k) => n == x && (k == .local || k == .cell)))
  | _ => false
def isLc : IE → Bool
  | .comp .. => true
  | .comp2 .. => true
  | _ => false
mutual
def okS (wr : List Nat) (sc : Scope) : IS → Stmt → Bool
  | .asg i e, .Assign [.Name x _] v _ => decide (tb.N[i]? = some x) && (decide (i ∈ wr) && (stB sc x && okE tb false sc e v))
  | .unp is e, .Assign [tgE] v _ => okTg tb sc (.many is) tgE && (decide (∀ i ∈ is, i ∈ wr) && (decide (∀ i ∈ is, i < tb.N.length) && (!Ex.compr v && (notTup v && okE tb false sc e v))))
  | .seti i k e, .Assign [.Subscript (.Name x _) ek _] v _ => okV tb sc i x && (!Ex.compr v && (!Ex.isSlice ek && (okE tb false sc k ek && okE tb false sc e v)))
  | .setd i k e, .Assign [.Subscript (.Name x _) ek _] v _ => okV tb sc i x && (!Ex.compr v && (!Ex.isSlice ek && (okE tb false sc k ek && okE tb false sc e v)))
  | .fld i f e, .Assign [.Attribute (.Name x _) n _] v _ => okV tb sc i x && (decide (tb.fnm[f]? = some n) && (!Ex.compr v && okE tb false sc e v))
  | .app i e, .Expr (.Call (.Attribute (.Name x _) m p1) [a] [] p2) _ => decide (m = "append") && (okV tb sc i x && (!Ex.star a && (p1.endLine == p2.line && okE tb false sc e a)))
  | .insr i k e, .Expr (.Call (.Attribute (.Name x _) m p1) [b, a] [] p2) _ => decide (m = "insert") && (okV tb sc i x && (!Ex.star b && (!Ex.star a && (p1.endLine == p2.line && (okE tb false sc k b && okE tb false sc e a)))))
  | .ex e, .Expr v _ => !Ex.compr v && okE tb false sc e v
  | .ifs c a b, .If c' a' b' _ => okE tb true sc c c' && (okSs wr sc a a' && okSs wr sc b b')
  | .for_ tg src body, .For tgE iter b [] _ => okI tb sc src tgE iter && (okTg tb sc tg tgE && (decide (∀ i ∈ tg.slots, i < tb.N.length) && (decide (∀ i ∈ tg.slots, i ∈ wr) && (!Ex.isSet iter && okSs wr sc body b))))
  | .ret e, .Return (some v) _ => okE tb false sc e v
  | .retm i, .Return (some (.Name x _)) _ => okV tb sc i x
  | .rai c e, .Raise (some (.Call (.Name x _) [a] [] _)) none _ => decide (tb.xcs[c]? = some x) && (decide (c < tb.nx) && (glB sc x && (dbgB x && (!Ex.star a && okE tb false sc e a))))
  | .try_ body hs, .Try b (h :: hds) [] [] _ => okSs wr sc body b && okHds tb wr sc hs (h :: hds)
  | .brk, .Break _ => true
  | .cnt, .Continue _ => true
  | .pas, .Pass _ => true
  | _, _ => false
def okSs (wr : List Nat) (sc : Scope) : ISs → List Stmt → Bool
  | .nil, [] => true
  | .cons s ss, t :: ts => okS wr sc s t && okSs wr sc ss ts
  | _, _ => false
end
end
end Fx
end
section
set_option linter.all false
set_option Elab.async false
set_option maxRecDepth 100000
set_option maxHeartbeats 4000000
/-! The check of an expression is sound. -/
namespace Fx
open PySem PySem.Spec L2
variable {T : Nm} {W : WX} {X : Cx} {σ : St} {M : Lv} {g : G} {Φ : Fn} {tb : Tb} {sc : Scope}
def frees : List Str := ["set", "zip", "enumerate"]
/-- what a body must know of its module -/
structure Kn (T : Nm) (g : G) (Φ : Fn) (tb : Tb) (X : Cx) : Prop where
  hK : X.K = T.K
  hN : X.N = tb.N
  nd : X.N.Nodup
  hc : X.calm = true
  hu : X.A.units + 64 < cLine
  fl : g.flds = T.flds
  cl : ClsAll T X.K g.nc
  fd : ∀ f n, tb.fnm[f]? = some n → T.fname f = n
  fn : ∀ f x np, tb.fns[f]? = some (x, np) → ∃ fa, X.mg x = some (.ref fa) ∧ FnKn T Φ X f np fa
  mkk : ∀ c x np, tb.cls[c]? = some (x, np) → X.mg x = some (.ref (T.cls c)) ∧ c < g.nc ∧ MkKn T Φ g.ini X c np
  gl : ∀ i x, tb.gls[i]? = some x → ∃ u v d, X.mg x = some u ∧ RelV v u ∧ (∀ F, Rp T F v d) ∧ g.gl i = some d
  bt : ∀ b : BF, X.mg b.name = none
  bi : X.mg "isinstance" = none
  bb : X.mg "bool" = none
  fr : ∀ x ∈ frees, X.mg x = none
  eq : ∀ c, c < g.nc → g.eqk c = true → EqKn T Φ g X c
  xf : g.xf = T.xfld
  nx : tb.nx = g.nx
  xm : ∀ c x, tb.xcs[c]? = some x → X.mg x = some (.ref (T.xcls c))
  xr : ∀ c, c < g.nx → XMk T X c
  xe : ∀ c c', c < g.nx → c' < tb.xcs.length → PySem.W.exmOne X.K (.ref (T.xcls c)) (.ref (T.xcls c')) = some (g.isa c c')
theorem Kn.blk {s : Shared} {H : Hp} {scope : Scope} {env : PySem.Env} {fp : List Addr} (k : Kn T g Φ tb X) : Kn T g Φ tb (X.blk s H scope env fp) :=
  ⟨k.hK, k.hN, k.nd, k.hc, k.hu, k.fl, k.cl, k.fd, fun f x np e => let ⟨fa, h1, h2⟩ := k.fn f x np e; ⟨fa, h1, ⟨h2.kp, h2.ok⟩⟩, fun c x np e => let ⟨h1, h2, h3⟩ := k.mkk c x np e; ⟨h1, h2, ⟨h3.ok⟩⟩, k.gl, k.bt, k.bi, k.bb, k.fr, fun c h1 h2 => let e := k.eq c h1 h2; ⟨e.ok, e.nf1, e.nf2⟩, k.xf, k.nx, k.xm, fun c hc => let e := k.xr c hc; ⟨e.cl, e.ok⟩, k.xe⟩
theorem Kn.tr {pn : List (Addr × Obj)} {xe : Value → Shared → Prop} (k : Kn T g Φ tb X) : Kn T g Φ tb (X.tr pn xe) :=
  ⟨k.hK, k.hN, k.nd, k.hc, k.hu, k.fl, k.cl, k.fd, fun f x np e => let ⟨fa, h1, h2⟩ := k.fn f x np e; ⟨fa, h1, ⟨h2.kp, h2.ok⟩⟩, fun c x np e => let ⟨h1, h2, h3⟩ := k.mkk c x np e; ⟨h1, h2, ⟨h3.ok⟩⟩, k.gl, k.bt, k.bi, k.bb, k.fr, fun c h1 h2 => let e := k.eq c h1 h2; ⟨e.ok, e.nf1, e.nf2⟩, k.xf, k.nx, k.xm, fun c hc => let e := k.xr c hc; ⟨e.cl, e.ok⟩, k.xe⟩

/-! ### names -/
theorem gl_of {x : Str} (hsc : X.env.scope = sc) (h : glB sc x = true) : Gl X x := by
  unfold glB at h
  split at h
  · rename_i e
    show X.env.scope.names.lookup x = _
    rw [hsc]; exact e
  · cases h
theorem dbg_of {x : Str} (h : dbgB x = true) : (x == ("__debug__" : Str)) = false ∧ (x == ("__classdict__" : Str)) = false := by
  unfold dbgB at h
  simpa using h
theorem vis_of {x : Str} (h : visB sc x = true) : Vis sc x := by
  unfold visB at h
  split at h
  · exact .inl (by assumption)
  · exact .inr (.inl (by assumption))
  · exact .inr (.inr (by assumption))
  · cases h
theorem pv_of {i : Nat} {x : Str} {p : Pos} (k : X.N = tb.N) (hsc : X.env.scope = sc) (h : okV tb sc i x = true) : PE X (.Name x p) (tVar i) := by
  unfold okV at h
  simp only [Bool.and_eq_true, decide_eq_true_eq] at h
  obtain ⟨h1, h2, h3⟩ := h
  obtain ⟨h4, h5⟩ := dbg_of h3
  exact pe_var (by rw [k]; exact h1) (by rw [hsc]; exact vis_of h2) h4 h5
/-! ### values and tests -/
def tvM (fl : Nat → List Nat) (m : Env → Res R) : Env → Res Bool := fun ρ => (m ρ).bind fun r ρ => optR ((fullD fl r).bind truD) ρ
theorem pt_of {e : Expr} {m : Env → Res R} (hK : X.K = T.K) (h : PE X e (tM T W m)) (he : Ex.tst e = true) : PT X e (tT T W (tvM T.flds m)) := by
  refine (pt_truF hK (pe_arOf h) he).imp fun σ H Q q => ?_
  obtain ⟨F, M, ρ, cf, q⟩ := q
  refine ⟨F, M, ρ, cf, ?_⟩
  have e : tvM T.flds m ρ = one_ T.flds (fun d ρ => optR (truD d) ρ) (fun ρ => (m ρ).bind fun r ρ => .ok (.v r) ρ) ρ := by
    unfold tvM one_
    dsimp only
    cases m ρ with
    | ok r ρ1 =>
      show optR ((fullD T.flds r).bind truD) ρ1 = match fullD T.flds r with
        | some x => optR (truD x) ρ1
        | none => .stuck
      cases fullD T.flds r <;> rfl
    | exc _ _ _ => rfl
    | stuck => rfl
  rw [e] at q; exact q
theorem bind_asc {α β γ : Type} (x : Res α) (k : α → Env → Res β) (l : β → Env → Res γ) : (x.bind k).bind l = x.bind fun a ρ => (k a ρ).bind l := by cases x <;> rfl
theorem optR_bind {α β : Type} (o : Option α) (ρ : Env) (k : α → Env → Res β) : (optR o ρ).bind k = match o with
    | some a => k a ρ
    | none => .stuck := by cases o <;> rfl
/-- the test of an expression that is no name -/
theorem te_tv {ie : IE} (h : ie.isVar = none) : teE g Φ ie = tvM g.flds (evE g Φ ie) := by
  funext ρ
  unfold teE tvM tstA
  have e : asArg ie ρ (evE g Φ ie ρ) = (evE g Φ ie ρ).bind fun r ρ => .ok (.v r) ρ := by
    cases ie <;> first | rfl | cases h
  rw [e, bind_asc]
  rfl
theorem te_var {i : Nat} : teE g Φ (.var i) = one_ g.flds (fun d ρ => optR (truD d) ρ) (argVar i) := by
  funext ρ
  show (argVar i ρ).bind _ = (argVar i ρ).bind _
  congr 1
  funext a ρ
  cases a.d g.flds ρ <;> rfl
theorem pt_teE {ie : IE} {e : Expr} (kn : Kn T g Φ tb X) (hsc : X.env.scope = sc) (h : okE tb true sc ie e = true) (hp : PT X e (tT T W (tvM T.flds (evE g Φ ie)))) : PT X e (tT T W (teE g Φ ie)) := by
  cases z : ie.isVar with
  | none => rw [te_tv z, kn.fl]; exact hp
  | some i =>
    cases ie with
    | var j =>
      cases e with
      | Name x p =>
        rw [te_var, kn.fl]
        exact pt_truF kn.hK (pe_argVar (pv_of kn.hN hsc h)) rfl
      | _ => cases h
    | _ => cases z
/-! ### targets -/
theorem PGs.names {S : Scope} (hN : X.N = tb.N) (nd : X.N.Nodup) (hst : ∀ x, stB S x = true → Loc X.env.scope x ∧ (X.fn x = true ∨ X.env.scope.names.lookup x = some .local)) :
    ∀ {is : List Nat} {es : List Expr}, okTN tb S is es = true → PGs X es (gNames is) ∧ (assignEach es X.env).length = is.length ∧ (assignEach es X.env).findIdx? (·.1) = none
  | [], [], _ => ⟨pgs_nil, rfl, rfl⟩
  | i :: is, .Name x p :: es, h => by
    unfold okTN at h
    simp only [Bool.and_eq_true, decide_eq_true_eq] at h
    obtain ⟨⟨h1, h2⟩, h3⟩ := h
    obtain ⟨q1, q2, q3⟩ := PGs.names hN nd hst h3
    obtain ⟨l1, l2⟩ := hst x h2
    refine ⟨pgs_cons (pg_name nd (by rw [hN]; exact h1) l1 l2) q1 rfl, ?_, ?_⟩
    · show (_ :: assignEach es X.env).length = _
      rw [List.length_cons, q2]; rfl
    · show ((false, _) :: assignEach es X.env).findIdx? (·.1) = none
      rw [List.findIdx?_cons, q3]; rfl
  | [], _ :: _, h => by cases h
  | _ :: _, [], h => by cases h
  | _ :: _, .BoolOp .. :: _, h => by cases h
  | _ :: _, .NamedExpr .. :: _, h => by cases h
  | _ :: _, .BinOp .. :: _, h => by cases h
  | _ :: _, .UnaryOp .. :: _, h => by cases h
  | _ :: _, .Lambda .. :: _, h => by cases h
  | _ :: _, .IfExp .. :: _, h => by cases h
  | _ :: _, .Dict .. :: _, h => by cases h
  | _ :: _, .Set .. :: _, h => by cases h
  | _ :: _, .ListComp .. :: _, h => by cases h
  | _ :: _, .SetComp .. :: _, h => by cases h
  | _ :: _, .DictComp .. :: _, h => by cases h
  | _ :: _, .GeneratorExp .. :: _, h => by cases h
  | _ :: _, .Await .. :: _, h => by cases h
  | _ :: _, .Yield .. :: _, h => by cases h
  | _ :: _, .YieldFrom .. :: _, h => by cases h
  | _ :: _, .Compare .. :: _, h => by cases h
  | _ :: _, .Call .. :: _, h => by cases h
  | _ :: _, .FormattedValue .. :: _, h => by cases h
  | _ :: _, .JoinedStr .. :: _, h => by cases h
  | _ :: _, .Constant .. :: _, h => by cases h
  | _ :: _, .Attribute .. :: _, h => by cases h
  | _ :: _, .Subscript .. :: _, h => by cases h
  | _ :: _, .Starred .. :: _, h => by cases h
  | _ :: _, .List .. :: _, h => by cases h
  | _ :: _, .Tuple .. :: _, h => by cases h
  | _ :: _, .Slice .. :: _, h => by cases h
theorem pg_of {S : Scope} {tg : Tg} {e : Expr} (hN : X.N = tb.N) (nd : X.N.Nodup) (hc : X.calm = true) (hst : ∀ x, stB S x = true → Loc X.env.scope x ∧ (X.fn x = true ∨ X.env.scope.names.lookup x = some .local)) (h : okTg tb S tg e = true) : PG X e (tg.rd X.K) := by
  cases tg with
  | one i =>
    cases e with
    | Name x p =>
      unfold okTg at h
      simp only [Bool.and_eq_true, decide_eq_true_eq] at h
      obtain ⟨l1, l2⟩ := hst x h.2
      exact pg_name nd (by rw [hN]; exact h.1) l1 l2
    | _ => cases h
  | many is =>
    cases e with
    | Tuple es k p =>
      obtain ⟨q1, q2, q3⟩ := PGs.names hN nd hst (show okTN tb S is es = true from h)
      exact pg_tup hc q1 q2 q3
    | _ => cases h
/-- the names of a comprehension's own scope -/
theorem st_blk {s : Shared} {H : Hp} {scope : Scope} {cl : List (Str × Addr)} {C : Addr} {fp : List Addr} : ∀ x, stB scope x = true →
    Loc (X.blk s H scope (compEnvC scope cl C X.env) fp).env.scope x ∧ ((X.blk s H scope (compEnvC scope cl C X.env) fp).fn x = true ∨ (X.blk s H scope (compEnvC scope cl C X.env) fp).env.scope.names.lookup x = some .local) := by
  intro x h
  unfold stB at h
  split at h
  · rename_i e
    have e2 : (relS scope X.env.scope).names.lookup x = some .local := lookup_relS_keep (by decide) e
    exact ⟨.inl e2, .inr e2⟩
  · rename_i e
    have e2 : (relS scope X.env.scope).names.lookup x = some .cell := lookup_relS_keep (by decide) e
    exact ⟨.inr e2, .inl (by show (scope.names.lookup x == some .cell) = true; rw [e]; rfl)⟩
  · cases h
theorem is_of {t : IsT} {e : Expr} (kn : Kn T g Φ tb X) (hsc : X.env.scope = sc) (h : okIs tb sc t e = true) : PE X e (tIs T t) ∧ t.ok g.nc = true := by
  have bi : ∀ {x : Str} {p : Pos} {ty : String}, glB sc x = true → X.mg x = none → bootBuiltins x = some (.type ty) → x ≠ "__name__" → (x == ("__debug__" : Str)) = false → PE X (.Name x p) (tC (.ty ty)) := fun h1 h2 h3 h4 h5 => pe_bltn (gl_of hsc h1) h2 h3 rfl h4 h5
  cases t with
  | listTuple =>
    have h0 : ∃ x p1 y p2 k p3, e = .Tuple [.Name x p1, .Name y p2] k p3 ∧ (decide (x = "list") && decide (y = "tuple") && (glB sc x && glB sc y)) = true := by
      unfold okIs at h
      split at h <;> first | exact ⟨_, _, _, _, _, _, rfl, h⟩ | exact absurd h Bool.false_ne_true | contradiction
    obtain ⟨x, p1, y, p2, k, p3, rfl, hh⟩ := h0
    simp only [Bool.and_eq_true, decide_eq_true_eq] at hh
    obtain ⟨⟨rfl, rfl⟩, h1, h2⟩ := hh
    exact ⟨pe_tup (pa_cons (bi h1 (kn.bt .list) (BF.boot .list) (BF.nm .list) (BF.db .list)) (pa_cons (bi h2 (kn.bt .tuple) (BF.boot .tuple) (BF.nm .tuple) (BF.db .tuple)) pa_nil (star_cons [] _ rfl)) (star_cons [_] _ rfl)), rfl⟩
  | cls c =>
    cases e with
    | Name x p =>
      unfold okIs at h
      simp only [Bool.and_eq_true, decide_eq_true_eq] at h
      obtain ⟨h1, h2, h3⟩ := h
      obtain ⟨⟨x', np⟩, e1, rfl⟩ := Option.map_eq_some_iff.mp h1
      obtain ⟨m1, m2, _⟩ := kn.mkk c x' np e1
      exact ⟨pe_glob (gl_of hsc h2) m1 rfl (dbg_of h3).1, by simpa [IsT.ok] using m2⟩
    | _ => cases h
  | int =>
    cases e with
    | Name x p =>
      unfold okIs at h
      simp only [Bool.and_eq_true, decide_eq_true_eq] at h
      obtain ⟨rfl, h2⟩ := h
      exact ⟨bi h2 (kn.bt .int) (BF.boot .int) (BF.nm .int) (BF.db .int), rfl⟩
    | _ => cases h
  | bool =>
    cases e with
    | Name x p =>
      unfold okIs at h
      simp only [Bool.and_eq_true, decide_eq_true_eq] at h
      obtain ⟨rfl, h2⟩ := h
      exact ⟨bi h2 kn.bb (by decide +kernel) (by decide +kernel) (by decide +kernel), rfl⟩
    | _ => cases h
  | tuple =>
    cases e with
    | Name x p =>
      unfold okIs at h
      simp only [Bool.and_eq_true, decide_eq_true_eq] at h
      obtain ⟨rfl, h2⟩ := h
      exact ⟨bi h2 (kn.bt .tuple) (BF.boot .tuple) (BF.nm .tuple) (BF.db .tuple), rfl⟩
    | _ => cases h
  | list =>
    cases e with
    | Name x p =>
      unfold okIs at h
      simp only [Bool.and_eq_true, decide_eq_true_eq] at h
      obtain ⟨rfl, h2⟩ := h
      exact ⟨bi h2 (kn.bt .list) (BF.boot .list) (BF.nm .list) (BF.db .list), rfl⟩
    | _ => cases h
  | str =>
    cases e with
    | Name x p =>
      unfold okIs at h
      simp only [Bool.and_eq_true, decide_eq_true_eq] at h
      obtain ⟨rfl, h2⟩ := h
      exact ⟨bi h2 (kn.bt .str) (BF.boot .str) (BF.nm .str) (BF.db .str), rfl⟩
    | _ => cases h
theorem cst_of {d : D} {e : Expr} (h : okC d e = true) : PE X e (tM T W fun ρ => .ok (.val d) ρ) ∧ Ex.tst e = true := by
  unfold okC at h
  split at h
  · obtain rfl := of_decide_eq_true h; exact ⟨pe_cst pe_int fun F => .int _, rfl⟩
  · obtain rfl := of_decide_eq_true h; exact ⟨pe_cst pe_str fun F => .str _, rfl⟩
  · obtain rfl := of_decide_eq_true h; exact ⟨pe_cst pe_bl fun F => .bl _, rfl⟩
  · exact ⟨pe_cst pe_non fun F => .non, rfl⟩
  · cases h
end Fx
end
section
set_option linter.all false
set_option Elab.async false
set_option maxRecDepth 100000
set_option maxHeartbeats 4000000
/-! The check of an expression is sound: the induction. -/
namespace Fx
open PySem PySem.Spec L2
variable {T : Nm} {g : G} {Φ : Fn} {tb : Tb}
/-- an argument -/
theorem ar_of {W : WX} {X : Cx} {sc : Scope} {ie : IE} {e : Expr} (kn : Kn T g Φ tb X) (hsc : X.env.scope = sc) (h : okE tb false sc ie e = true) (hp : PE X e (tM T W (evE g Φ ie))) : PE X e (tAr T W fun ρ => asArg ie ρ (evE g Φ ie ρ)) := by
  cases z : ie.isVar with
  | none =>
    have e2 : (fun ρ => asArg ie ρ (evE g Φ ie ρ)) = fun ρ => (evE g Φ ie ρ).bind fun r ρ => .ok (.v r) ρ := by
      funext ρ
      cases ie <;> first | rfl | cases z
    rw [e2]
    exact pe_arOf hp
  | some i =>
    cases ie with
    | var j =>
      cases e with
      | Name x p => exact pe_argVar (pv_of kn.hN hsc h)
      | _ => cases h
    | _ => cases z
theorem restB_as {isAnd : Bool} {m : Env → Res R} {r : Env → Res R} {fl : Nat → List Nat} : tvM fl (fun ρ => (asD fl (m ρ)).bind fun d ρ => restB isAnd d r ρ) = fun ρ => (tvM fl m ρ).bind fun k ρ => if k = isAnd then tvM fl r ρ else .ok k ρ := by
  funext ρ
  unfold tvM asD
  dsimp only
  cases m ρ with
  | exc c d ρ1 => rfl
  | stuck => rfl
  | ok x ρ1 =>
    show (((optR (fullD fl x) ρ1).bind fun d ρ => restB isAnd d r ρ).bind fun r ρ => optR ((fullD fl r).bind truD) ρ) = (optR ((fullD fl x).bind truD) ρ1).bind _
    cases fullD fl x with
    | none => rfl
    | some d =>
      show (restB isAnd d r ρ1).bind _ = (optR (truD d) ρ1).bind _
      unfold restB
      cases e : truD d with
      | none => rfl
      | some k =>
        show (if k = isAnd then r ρ1 else .ok (.val d) ρ1).bind _ = if k = isAnd then _ else _
        split
        · rfl
        · show optR ((fullD fl (.val d)).bind truD) ρ1 = .ok k ρ1
          rw [show fullD fl (.val d) = some d from rfl]
          show optR (truD d) ρ1 = _
          rw [e]; rfl
theorem all_star {e : Expr} {l : List Expr} (h : noStar (e :: l) = true) : Ex.star e = false ∧ l.all (fun e => !Ex.star e) = true := by
  unfold noStar at h
  simpa using h
theorem own_map {own : List Nat} : (ownP tb own).map (·.2) = own := by
  unfold ownP
  rw [List.map_map]
  exact List.map_id own
theorem len_As : ∀ (es : IEs) (l : List Expr) (sc : Scope), okEs tb false sc es l = true → ∀ ρ as ρ', evAs g Φ es ρ = .ok as ρ' → as.length = l.length
  | .nil, [], _, _, ρ, as, ρ', e => by cases e; rfl
  | .cons ie es, x :: xs, sc, h, ρ, as, ρ', e => by
    have h : (okE tb false sc ie x && okEs tb false sc es xs) = true := h
    have e : (asArg ie ρ (evE g Φ ie ρ)).bind (fun a ρ => (evAs g Φ es ρ).bind fun as ρ => .ok (a :: as) ρ) = .ok as ρ' := e
    obtain ⟨a, ρ1, e1, e2⟩ := bind_ok e
    obtain ⟨as', ρ2, e3, e4⟩ := bind_ok e2
    cases e4
    rw [List.length_cons, List.length_cons, len_As es xs sc (Bool.and_eq_true_iff.mp h).2 ρ1 as' _ e3]
  | .nil, _ :: _, _, h, _, _, _, _ => by cases h
  | .cons _ _, [], _, h, _, _, _, _ => by cases h

theorem tv_tst {W : WX} {X : Cx} {e : Expr} {m : Env → Res R} (kn : Kn T g Φ tb X) (pe : PE X e (tM T W m)) (he : Ex.tst e = true) (t : Bool) : (t = false → PE X e (tM T W m)) ∧ (t = true → PT X e (tT T W (tvM T.flds m))) :=
  ⟨fun _ => pe, fun _ => pt_of kn.hK pe he⟩
theorem two_flds {α : Type} {fl fl' : Nat → List Nat} (e : fl = fl') {f : D → D → Env → Res α} {a b : Env → Res Ar} : two fl f a b = two fl' f a b := by rw [e]
def Sn (T : Nm) (W : WX) (X : Cx) (t : Bool) (e : Expr) (m : Env → Res R) : Prop := (t = false → PE X e (tM T W m)) ∧ (t = true → PT X e (tT T W (tvM T.flds m)))
def SnW (T : Nm) (W : WX) (X : Cx) (t : Bool) (e : Expr) (m : Env → Res R) : Prop := (t = false → PE X e (tM T W m)) ∧ (t = true → PW X e (tT T W (tvM T.flds m)))
theorem pts_nilF {W : WX} {X : Cx} : PTs X [] (tT T W fun ρ => .ok true ρ) := ⟨fun pins s σ H Q I h => by
  obtain ⟨F, M, ρ, cf, q⟩ := h
  exact pts_nil.run pins s σ H Q I (q F H cf)⟩
theorem pw_bop1 {W : WX} {X : Cx} {isAnd : Bool} {a : Expr} {pos : Pos} {m : Env → Res Bool} (ha : PT X a (tT T W m)) : PW X (.BoolOp (if isAnd = true then .And else .Or) [a] pos) (tT T W m) := by
  cases isAnd with
  | true => exact pw_and1 ha
  | false => exact pw_or1 ha
mutual
theorem snE : ∀ (ie : IE) (t : Bool) (sc : Scope) (e : Expr) (W : WX) (X : Cx), Kn T g Φ tb X → X.env.scope = sc → Takes X W → okE tb t sc ie e = true → Sn T W X t e (evE g Φ ie)
  | .var i, t, sc, e, W, X, kn, hsc, tk, h => by
    cases e with
    | Name x p =>
      have e2 : evE g Φ (.var i) = rdVar T.flds i := by rw [← kn.fl]; rfl
      rw [e2]
      exact tv_tst kn (pe_rd (pv_of kn.hN hsc h)) rfl t
    | _ => cases h
  | .cst d, t, sc, e, W, X, kn, hsc, tk, h => by
    obtain ⟨h1, h2⟩ := cst_of (T := T) (W := W) (X := X) (show okC d e = true by cases e <;> exact h)
    exact tv_tst kn h1 h2 t
  | .glob gi, t, sc, e, W, X, kn, hsc, tk, h => by
    cases e with
    | Name x p =>
      have h : (decide (tb.gls[gi]? = some x) && (glB sc x && dbgB x)) = true := h
      simp only [Bool.and_eq_true, decide_eq_true_eq] at h
      obtain ⟨h1, h2, h3⟩ := h
      obtain ⟨u, v, d, m1, m2, m3, m4⟩ := kn.gl gi x h1
      exact tv_tst kn (pe_globF (g := g) (gl_of hsc h2) m1 m2 (dbg_of h3).1 m3 m4) rfl t
    | _ => cases h
  | .tup es, t, sc, e, W, X, kn, hsc, tk, h => by
    cases e with
    | Tuple l k p =>
      have h : (noStar l && okEs tb false sc es l) = true := h
      simp only [Bool.and_eq_true] at h
      exact tv_tst kn (pe_tupF (snDs es sc l W X kn hsc tk h.1 h.2)) rfl t
    | _ => cases h
  | .lst es, t, sc, e, W, X, kn, hsc, tk, h => by
    cases e with
    | List l p =>
      have h : (noStar l && okEs tb false sc es l) = true := h
      simp only [Bool.and_eq_true] at h
      exact tv_tst kn (pe_lstF (snDs es sc l W X kn hsc tk h.1 h.2)) rfl t
    | _ => cases h
  | .bin op a b, t, sc, e, W, X, kn, hsc, tk, h => by
    cases e with
    | BinOp x o y p =>
      have h : (decide (op = o) && (okE tb false sc a x && okE tb false sc b y)) = true := h
      simp only [Bool.and_eq_true, decide_eq_true_eq] at h
      obtain ⟨rfl, h1, h2⟩ := h
      have ea := ar_of kn hsc h1 ((snE a false sc x W X kn hsc tk h1).1 rfl)
      have eb := ar_of kn hsc h2 ((snE b false sc y W X kn hsc tk h2).1 rfl)
      have q := pe_binF (op := op) (pos := p) kn.hK ea eb
      rw [← kn.fl] at q
      exact tv_tst kn q rfl t
    | _ => cases h
  | .neg a, t, sc, e, W, X, kn, hsc, tk, h => by
    cases e with
    | UnaryOp o x p =>
      cases o with
      | USub =>
        have h : (!t && okE tb false sc a x) = true := h
        simp only [Bool.and_eq_true, Bool.not_eq_true'] at h
        obtain ⟨rfl, h1⟩ := h
        have q := pe_negF (pos := p) (pe_asD ((snE a false sc x W X kn hsc tk h1).1 rfl))
        rw [← kn.fl] at q
        exact ⟨fun _ => q, fun z => by cases z⟩
      | _ => cases h
    | _ => cases h
  | .bop isAnd es, t, sc, e, W, X, kn, hsc, tk, h => by
    cases e with
    | BoolOp o l p =>
      have h : (decide (o = if isAnd = true then .And else .Or) && (decide (2 ≤ l.length) && okEs tb t sc es l)) = true := h
      simp only [Bool.and_eq_true, decide_eq_true_eq] at h
      obtain ⟨rfl, h1, h2⟩ := h
      exact ⟨(snB es isAnd t sc l p W X kn hsc tk h1 h2).1, fun z => ((snB es isAnd t sc l p W X kn hsc tk h1 h2).2 z).pt⟩
    | _ => cases h
  | .nt a, t, sc, e, W, X, kn, hsc, tk, h => by
    cases e with
    | UnaryOp o x p =>
      cases o with
      | Not =>
        have h : okE tb t sc a x = true := h
        have q := snE a t sc x W X kn hsc tk h
        cases t with
        | false =>
          have q := pe_notF (pos := p) kn.hK (ar_of kn hsc h (q.1 rfl))
          refine ⟨fun _ => ?_, fun z => by cases z⟩
          have e2 : evE g Φ (.nt a) = one_ T.flds (fun d ρ => (optR (truD d) ρ).bind fun b ρ => .ok (.val (.bl (!b))) ρ) fun ρ => asArg a ρ (evE g Φ a ρ) := by
            funext ρ
            rw [← kn.fl]
            show ((asArg a ρ (evE g Φ a ρ)).bind fun a ρ => optR ((a.d g.flds ρ).bind truD) ρ).bind _ = (asArg a ρ (evE g Φ a ρ)).bind _
            rw [bind_asc]
            congr 1
            funext y ρ
            cases y.d g.flds ρ <;> rfl
          rw [e2]; exact q
        | true =>
          have q := pt_notF (pos := p) (pt_teE kn hsc h (q.2 rfl))
          refine ⟨fun z => (by cases z), fun _ => ?_⟩
          have e2 : tvM T.flds (evE g Φ (.nt a)) = fun ρ => (teE g Φ a ρ).bind fun b ρ => .ok (!b) ρ := by
            funext ρ
            show ((teE g Φ a ρ).bind fun b ρ => Res.ok (R.val (D.bl (!b))) ρ).bind (fun r ρ => optR ((fullD T.flds r).bind truD) ρ) = _
            rw [bind_asc]
            rfl
          rw [e2]; exact q
      | _ => cases h
    | _ => cases h
  | .cmp op a b, t, sc, e, W, X, kn, hsc, tk, h => by
    cases e with
    | Compare x os ys p =>
      cases os with
      | nil => cases h
      | cons o os =>
        cases os with
        | cons _ _ => cases h
        | nil =>
          cases ys with
          | nil => cases h
          | cons y ys =>
            cases ys with
            | cons _ _ => cases h
            | nil =>
              have h : (decide (op = o) && (!behindInMarks o y && (okE tb false sc a x && okE tb false sc b y))) = true := h
              simp only [Bool.and_eq_true, decide_eq_true_eq, Bool.not_eq_true'] at h
              obtain ⟨rfl, h0, h1, h2⟩ := h
              have ea := ar_of kn hsc h1 ((snE a false sc x W X kn hsc tk h1).1 rfl)
              have eb := ar_of kn hsc h2 ((snE b false sc y W X kn hsc tk h2).1 rfl)
              refine ⟨fun _ => ?_, fun _ => ?_⟩
              · have q := pe_cmpF (pos := p) kn.hK kn.hu ea eb h0
                rw [← kn.fl] at q
                exact q
              · have q := pt_cmpF (pos := p) kn.hK kn.hu ea eb h0
                have e2 : tvM T.flds (evE g Φ (.cmp op a b)) = two T.flds (fun x y ρ => optR (cmpD op x y) ρ) (fun ρ => asArg a ρ (evE g Φ a ρ)) (fun ρ => asArg b ρ (evE g Φ b ρ)) := by
                  funext ρ
                  rw [← kn.fl]
                  show ((asArg a ρ (evE g Φ a ρ)).bind _).bind _ = (asArg a ρ (evE g Φ a ρ)).bind _
                  rw [bind_asc]
                  congr 1
                  funext x ρ
                  show ((asArg b ρ (evE g Φ b ρ)).bind _).bind _ = (asArg b ρ (evE g Φ b ρ)).bind _
                  rw [bind_asc]
                  congr 1
                  funext y ρ
                  cases x.d g.flds ρ with
                  | none => rfl
                  | some dx =>
                    cases y.d g.flds ρ with
                    | none => rfl
                    | some dy =>
                      show (cmpP op dx dy ρ).bind _ = optR (cmpD op dx dy) ρ
                      unfold cmpP
                      cases cmpD op dx dy <;> rfl
                rw [e2]; exact q
    | _ => cases h
  | .eqo a b, t, sc, e, W, X, kn, hsc, tk, h => by
    cases e with
    | Compare x os ys p =>
      cases os with
      | nil => cases h
      | cons o os =>
        cases os with
        | cons _ _ => cases o <;> cases h
        | nil =>
          cases ys with
          | nil => cases o <;> cases h
          | cons y ys =>
            cases ys with
            | cons _ _ => cases o <;> cases h
            | nil =>
              cases o with
              | Eq =>
                have h : (!behindInMarks .Eq y && (okE tb false sc a x && okE tb false sc b y)) = true := h
                simp only [Bool.and_eq_true, decide_eq_true_eq, Bool.not_eq_true'] at h
                obtain ⟨h0, h1, h2⟩ := h
                have ea := pe_asD ((snE a false sc x W X kn hsc tk h1).1 rfl)
                have eb := pe_asD ((snE b false sc y W X kn hsc tk h2).1 rfl)
                rw [← kn.fl] at ea eb
                refine ⟨fun _ => pe_eqoF (pos := p) kn.hK kn.hu kn.cl kn.eq ea eb h0, fun _ => ?_⟩
                have q := pt_eqoF (pos := p) kn.hK kn.hu kn.cl kn.eq ea eb h0
                have e2 : tvM T.flds (evE g Φ (.eqo a b)) = fun ρ => (asD g.flds (evE g Φ a ρ)).bind fun x ρ => (asD g.flds (evE g Φ b ρ)).bind fun y ρ => (eqoR g Φ x y ρ).bind fun r ρ => optR ((fullD T.flds r).bind truD) ρ := by
                  funext ρ
                  show ((asD g.flds (evE g Φ a ρ)).bind _).bind _ = _
                  rw [bind_asc]
                  congr 1
                  funext x ρ
                  show ((asD g.flds (evE g Φ b ρ)).bind _).bind _ = _
                  rw [bind_asc]
                rw [e2]; exact q
              | _ => cases h
    | _ => cases h
  | .cmp2 o1 o2 a b c, t, sc, e, W, X, kn, hsc, tk, h => by
    cases e with
    | Compare x os ys p =>
      obtain ⟨y, z, rfl, rfl, hh⟩ : ∃ y z, os = [o1, o2] ∧ ys = [y, z] ∧ (!lastMarks [o1, o2] [y, z] && (okE tb false sc a x && (okE tb false sc b y && okE tb false sc c z))) = true := by
        cases os with
        | nil => cases h
        | cons p1 os =>
          cases os with
          | nil => cases h
          | cons p2 os =>
            cases os with
            | cons _ _ => cases h
            | nil =>
              cases ys with
              | nil => cases h
              | cons y ys =>
                cases ys with
                | nil => cases h
                | cons z ys =>
                  cases ys with
                  | cons _ _ => cases h
                  | nil =>
                    have h : (decide (o1 = p1) && (decide (o2 = p2) && (!lastMarks [p1, p2] [y, z] && (okE tb false sc a x && (okE tb false sc b y && okE tb false sc c z))))) = true := h
                    simp only [Bool.and_eq_true, decide_eq_true_eq] at h
                    obtain ⟨rfl, rfl, h⟩ := h
                    exact ⟨y, z, rfl, rfl, by simpa only [Bool.and_eq_true] using h⟩
      simp only [Bool.and_eq_true, Bool.not_eq_true'] at hh
      obtain ⟨h0, h1, h2, h3⟩ := hh
      have ea := pe_asD ((snE a false sc x W X kn hsc tk h1).1 rfl)
      have eb := pe_asD ((snE b false sc y W X kn hsc tk h2).1 rfl)
      have ec := pe_asD ((snE c false sc z W X kn hsc tk h3).1 rfl)
      rw [← kn.fl] at ea eb ec
      refine ⟨fun _ => pe_cmp2F (pos := p) kn.hK kn.hu ea eb ec h0, fun _ => ?_⟩
      have q := pt_cmp2F (pos := p) kn.hK kn.hu ea eb ec h0
      have e2 : tvM T.flds (evE g Φ (.cmp2 o1 o2 a b c)) = fun ρ => (asD g.flds (evE g Φ a ρ)).bind fun x ρ => (asD g.flds (evE g Φ b ρ)).bind fun y ρ => match cmpD o1 x y with
          | some true => (asD g.flds (evE g Φ c ρ)).bind fun z ρ => optR (cmpD o2 y z) ρ
          | some false => .ok false ρ
          | none => .stuck := by
        funext ρ
        show ((asD g.flds (evE g Φ a ρ)).bind _).bind _ = _
        rw [bind_asc]
        congr 1
        funext x ρ
        show ((asD g.flds (evE g Φ b ρ)).bind _).bind _ = _
        rw [bind_asc]
        congr 1
        funext y ρ
        cases cmpD o1 x y with
        | none => rfl
        | some k =>
          cases k with
          | false => rfl
          | true =>
            show ((asD g.flds (evE g Φ c ρ)).bind _).bind _ = (asD g.flds (evE g Φ c ρ)).bind _
            rw [bind_asc]
            congr 1
            funext z ρ
            cases cmpD o2 y z <;> rfl
      rw [e2]; exact q
    | _ => cases h
  | .ife c a b, t, sc, e, W, X, kn, hsc, tk, h => by
    cases e with
    | IfExp c' a' b' p =>
      have h : (!t && (okE tb true sc c c' && (okE tb false sc a a' && okE tb false sc b b'))) = true := h
      simp only [Bool.and_eq_true, Bool.not_eq_true'] at h
      obtain ⟨rfl, h1, h2, h3⟩ := h
      refine ⟨fun _ => ?_, fun z => by cases z⟩
      exact pe_ifF (pos := p) (pt_teE kn hsc h1 ((snE c true sc c' W X kn hsc tk h1).2 rfl)) ((snE a false sc a' W X kn hsc tk h2).1 rfl) ((snE b false sc b' W X kn hsc tk h3).1 rfl)
    | _ => cases h
  | .idx a b, t, sc, e, W, X, kn, hsc, tk, h => by
    cases e with
    | Subscript x y p =>
      have h : (ixP y && (okE tb false sc a x && okE tb false sc b y)) = true := h
      simp only [Bool.and_eq_true] at h
      obtain ⟨h0, h1, h2⟩ := h
      have q := pe_ixF (pos := p) kn.hK kn.hu (ar_of kn hsc h1 ((snE a false sc x W X kn hsc tk h1).1 rfl)) (pe_asD ((snE b false sc y W X kn hsc tk h2).1 rfl)) h0
      rw [← kn.fl] at q
      exact tv_tst kn q rfl t
    | _ => cases h
  | .slc a lo hi, t, sc, e, W, X, kn, hsc, tk, h => by
    cases e with
    | Subscript x y p =>
      cases y with
      | Slice l u s p2 =>
        cases s with
        | some _ => cases h
        | none =>
          have h : (okE tb false sc a x && (okO tb sc lo l && okO tb sc hi u)) = true := h
          simp only [Bool.and_eq_true] at h
          obtain ⟨h1, h2, h3⟩ := h
          have q := pe_slcF (pos := p) (p2 := p2) kn.hK (ar_of kn hsc h1 ((snE a false sc x W X kn hsc tk h1).1 rfl)) (snO lo sc l W X kn hsc tk h2) (snO hi sc u W X kn hsc tk h3)
          rw [← kn.fl] at q
          exact tv_tst kn q rfl t
      | _ => cases h
    | _ => cases h
  | .rev a, t, sc, e, W, X, kn, hsc, tk, h => by
    obtain ⟨x, k, p1, p2, p3, p, rfl, h⟩ : ∃ x k p1 p2 p3 p, e = .Subscript x (.Slice none none (some (.UnaryOp .USub (.Constant (.int 1) k p1) p2)) p3) p ∧ okE tb false sc a x = true := by
      unfold okE at h
      split at h <;> first | exact ⟨_, _, _, _, _, _, rfl, h⟩ | exact absurd h Bool.false_ne_true | contradiction | (rename_i z; cases z; exact ⟨_, _, _, _, _, _, rfl, h⟩)
    have q := pe_revF (k := k) (p1 := p1) (p2 := p2) (p3 := p3) (pos := p) kn.hK (ar_of kn hsc h ((snE a false sc x W X kn hsc tk h).1 rfl))
    rw [← kn.fl] at q
    exact tv_tst kn q rfl t
  | .attr a f, t, sc, e, W, X, kn, hsc, tk, h => by
    cases e with
    | Attribute x n p =>
      have h : (decide (tb.fnm[f]? = some n) && (!Ex.isCall x && okE tb false sc a x)) = true := h
      simp only [Bool.and_eq_true, decide_eq_true_eq, Bool.not_eq_true'] at h
      obtain ⟨h1, h2, h3⟩ := h
      have hn := kn.fd f n h1
      refine tv_tst kn ?_ rfl t
      cases z : a.isVar with
      | none =>
        have q := pe_fldD (g := g) (pos := p) kn.hK kn.cl rfl kn.fl hn.symm (pe_asD ((snE a false sc x W X kn hsc tk h3).1 rfl)) h2
        rw [← kn.fl] at q
        have e2 : evE g Φ (.attr a f) = fun ρ => (asD g.flds (evE g Φ a ρ)).bind fun x ρ => optR ((attrR g f x).map .val) ρ := by
          cases a <;> first | rfl | cases z
        rw [e2]; exact q
      | some i =>
        cases a with
        | var i =>
          cases x with
          | Name y p0 => exact pe_fldV (g := g) (pos := p) kn.hK kn.cl rfl kn.fl hn.symm (pv_of kn.hN hsc h3) h2
          | _ => cases h3
        | _ => cases z
    | _ => cases h
  | .call f es, t, sc, e, W, X, kn, hsc, tk, h => by
    cases e with
    | Call fe l kw p =>
      cases fe with
      | Name x p0 =>
        cases kw with
        | cons _ _ => cases h
        | nil =>
          have h : (decide (tb.fns[f]? = some (x, l.length)) && (!l.isEmpty && (noStar l && (glB sc x && (dbgB x && okEs tb false sc es l))))) = true := h
          simp only [Bool.and_eq_true, decide_eq_true_eq] at h
          obtain ⟨h1, h2, h3, h4, h5, h6⟩ := h
          cases l with
          | nil => cases h2
          | cons y ys =>
            obtain ⟨fa, m1, m2⟩ := kn.fn f x _ h1
            obtain ⟨s1, s2⟩ := all_star h3
            exact tv_tst kn (pe_callF (pos := p) (p := p0) m2 tk (gl_of hsc h4) m1 rfl (snAs es sc (y :: ys) W X kn hsc tk h3 h6) (dbg_of h5).1 s1 s2 (fun ρ as ρ' e => len_As es _ sc h6 ρ as ρ' e)) rfl t
      | _ => cases h
    | _ => cases h
  | .make c es, t, sc, e, W, X, kn, hsc, tk, h => by
    cases e with
    | Call fe l kw p =>
      cases fe with
      | Name x p0 =>
        cases kw with
        | cons _ _ => cases h
        | nil =>
          have h : (decide (tb.cls[c]? = some (x, l.length)) && (!l.isEmpty && (noStar l && (glB sc x && (dbgB x && okEs tb false sc es l))))) = true := h
          simp only [Bool.and_eq_true, decide_eq_true_eq] at h
          obtain ⟨h1, h2, h3, h4, h5, h6⟩ := h
          cases l with
          | nil => cases h2
          | cons y ys =>
            obtain ⟨m1, m0, m2⟩ := kn.mkk c x _ h1
            obtain ⟨s1, s2⟩ := all_star h3
            exact tv_tst kn (pe_makeF (pos := p) (p := p0) m2 tk (gl_of hsc h4) m1 (snAs es sc (y :: ys) W X kn hsc tk h3 h6) (dbg_of h5).1 s1 s2 (fun ρ as ρ' e => len_As es _ sc h6 ρ as ρ' e)) rfl t
      | _ => cases h
    | _ => cases h
  | .cb b es, t, sc, e, W, X, kn, hsc, tk, h => by
    cases e with
    | Call fe l kw p =>
      cases fe with
      | Name x p0 =>
        cases kw with
        | cons _ _ => cases h
        | nil =>
          have h : (decide (x = b.name) && (!l.isEmpty && (noStar l && (glB sc x && okEs tb false sc es l)))) = true := h
          simp only [Bool.and_eq_true, decide_eq_true_eq] at h
          obtain ⟨rfl, h2, h3, h4, h6⟩ := h
          cases l with
          | nil => cases h2
          | cons y ys =>
            obtain ⟨s1, s2⟩ := all_star h3
            have q := pe_cbF (b := b) (pos := p) (p := p0) kn.hK kn.hc kn.hu rfl (gl_of hsc h4) (kn.bt b) (snAs es sc (y :: ys) W X kn hsc tk h3 h6) s1 s2
            rw [← kn.fl] at q
            exact tv_tst kn q rfl t
      | _ => cases h
    | _ => cases h
  | .isi a it, t, sc, e, W, X, kn, hsc, tk, h => by
    cases e with
    | Call fe l kw p =>
      cases fe with
      | Name x p0 =>
        obtain ⟨y, z, rfl, rfl, hh⟩ : ∃ y z, l = [y, z] ∧ kw = [] ∧ (decide (x = "isinstance") && (glB sc x && (!Ex.star y && (!Ex.star z && (okE tb false sc a y && okIs tb sc it z))))) = true := by
          cases l with
          | nil => cases h
          | cons y l =>
            cases l with
            | nil => cases h
            | cons z l =>
              cases l with
              | cons _ _ => cases h
              | nil =>
                cases kw with
                | cons _ _ => cases h
                | nil => exact ⟨y, z, rfl, rfl, h⟩
        simp only [Bool.and_eq_true, decide_eq_true_eq, Bool.not_eq_true'] at hh
        obtain ⟨rfl, h1, h2, h3, h4, h5⟩ := hh
        obtain ⟨i1, i2⟩ := is_of kn hsc h5
        have q := pe_isiF (pos := p) (p := p0) kn.hK kn.cl (gl_of hsc h1) kn.bi (ar_of kn hsc h4 ((snE a false sc y W X kn hsc tk h4).1 rfl)) i1 i2 h2 h3
        rw [← kn.fl] at q
        exact tv_tst kn q rfl t
      | _ => cases h
    | _ => cases h
  | .dnew, t, sc, e, W, X, kn, hsc, tk, h => by
    obtain ⟨p, rfl, ht⟩ : ∃ p, e = .Dict [] [] p ∧ (!t) = true := by
      unfold okE at h
      split at h <;> first | exact ⟨_, rfl, h⟩ | exact absurd h Bool.false_ne_true | contradiction | (rename_i z; cases z; exact ⟨_, rfl, h⟩)
    refine ⟨fun _ => pe_dnewF, fun z => ?_⟩
    rw [z] at ht
    cases ht
  | .srts a, t, sc, e, W, X, kn, hsc, tk, h => by
    obtain ⟨x, p1, y, p2, e1, p3, p4, rfl, hh⟩ : ∃ x p1 y p2 e1 p3 p4, e = .Call (.Name x p1) [.Call (.Name y p2) [e1] [] p3] [] p4 ∧ (decide (x = "sorted") && (decide (y = "set") && (glB sc x && (glB sc y && (!Ex.star e1 && okE tb false sc a e1))))) = true := by
      unfold okE at h
      split at h <;> first | exact ⟨_, _, _, _, _, _, _, rfl, h⟩ | exact absurd h Bool.false_ne_true | contradiction | (rename_i z; cases z; exact ⟨_, _, _, _, _, _, _, rfl, h⟩)
    simp only [Bool.and_eq_true, decide_eq_true_eq, Bool.not_eq_true'] at hh
    obtain ⟨rfl, rfl, h1, h2, h3, h4⟩ := hh
    have ea := pe_asD ((snE a false sc e1 W X kn hsc tk h4).1 rfl)
    rw [← kn.fl] at ea
    exact tv_tst kn (pe_srtsF (p1 := p1) (p2 := p2) (p3 := p3) (p4 := p4) kn.hK kn.hc (gl_of hsc h1) (kn.bt .sorted) (gl_of hsc h2) (kn.fr _ (by simp [frees])) ea h3) rfl t
  | .comp elt own tg src c, t, sc, e, W, X, kn, hsc, tk, h => by
    obtain ⟨el, tgE, iter, ifs, scope, p, rfl, hh⟩ : ∃ el tgE iter ifs scope p, e = .ListComp el [⟨tgE, iter, ifs, 0⟩] scope p ∧ (blkC tb.N sc scope (ownP tb own) && (decide own.Nodup && (decide (∀ i ∈ own, i < tb.N.length) && (decide (∀ i ∈ tg.slots, i ∈ own) && (okTg tb scope tg tgE && (!Ex.isSet iter && (okI tb sc src tgE iter && (okF tb (relS scope sc) c ifs && okE tb false (relS scope sc) elt el)))))))) = true := by
      unfold okE at h
      split at h <;> first | exact ⟨_, _, _, _, _, _, rfl, h⟩ | exact absurd h Bool.false_ne_true | contradiction | (rename_i z; cases z; exact ⟨_, _, _, _, _, _, rfl, h⟩)
    simp only [Bool.and_eq_true, decide_eq_true_eq, Bool.not_eq_true'] at hh
    obtain ⟨h1, h2, h3, h4, h5, h6, h7, h8, h9⟩ := hh
    have em : (ownP tb own).map (·.2) = own := own_map
    have blk := blkOk_by h1
    rw [← hsc, ← kn.hN] at blk
    have q := pe_lcF (T := T) (W := W) (X := X) (elt := el) (tg := tgE) (iter := iter) (ifs := ifs) (scope := scope) (own := ownP tb own) (pos := p) (it := tg) (src := evI g Φ src) (c := evC g Φ c) (el := fun ρ => asD g.flds (evE g Φ elt ρ)) kn.hc kn.hK kn.nd (snI src sc tgE iter W X kn hsc tk h7) blk (by rw [em]; exact h2) (by rw [em, kn.hN]; exact h3) (by rw [em]; exact h4)
      (fun s H C cl fp => pg_of (X := X.blk s H scope (compEnvC scope cl C X.env) fp) kn.hN kn.nd kn.hc st_blk h5)
      (fun s H C cl fp => snF c (relS scope sc) ifs W0 (X.blk s H scope (compEnvC scope cl C X.env) fp) kn.blk (by rw [← hsc]; rfl) takes_none5 h8)
      (fun s H C cl fp => by
        have q := pe_asD ((snE elt false (relS scope sc) el W0 (X.blk s H scope (compEnvC scope cl C X.env) fp) kn.blk (by rw [← hsc]; rfl) takes_none5 h9).1 rfl)
        rw [← kn.fl] at q
        exact q) h6
    rw [em] at q
    exact tv_tst kn q rfl t
  | .comp2 elt own own1 tg src tg1 src1 c, t, sc, e, W, X, kn, hsc, tk, h => by
    obtain ⟨el, tgE, iter, tgE1, iter1, ifs, scope, p, rfl, hh⟩ : ∃ el tgE iter tgE1 iter1 ifs1 scope p, e = .ListComp el [⟨tgE, iter, [], 0⟩, ⟨tgE1, iter1, ifs1, 0⟩] scope p ∧ (blkC tb.N sc scope (ownP tb own) && (decide own.Nodup && (decide own1.Nodup && (decide (∀ i ∈ own1, i ∈ own) && (decide (∀ i ∈ own, i < tb.N.length) && (decide (∀ i ∈ tg.slots, i ∈ own) && (decide (∀ i ∈ tg1.slots, i ∈ own1) &&
      (okTg tb scope tg tgE && (okTg tb scope tg1 tgE1 && (!Ex.isSet iter && (!Ex.isSet iter1 && (okI tb sc src tgE iter && (okI tb (relS scope sc) src1 tgE1 iter1 && (okF tb (relS scope sc) c ifs1 && okE tb false (relS scope sc) elt el)))))))))))))) = true := by
      unfold okE at h
      split at h <;> first | exact ⟨_, _, _, _, _, _, _, _, rfl, h⟩ | exact absurd h Bool.false_ne_true | contradiction | (rename_i z; cases z; exact ⟨_, _, _, _, _, _, _, _, rfl, h⟩)
    simp only [Bool.and_eq_true, decide_eq_true_eq, Bool.not_eq_true'] at hh
    obtain ⟨h1, h2, h2', hv, h3, h4, h4', h5, h5', h6, h6', h7, h7', h8, h9⟩ := hh
    have em : (ownP tb own).map (·.2) = own := own_map
    have blk := blkOk_by h1
    rw [← hsc, ← kn.hN] at blk
    have q := pe_lc2F (T := T) (W := W) (X := X) (elt := el) (tg := tgE) (iter := iter) (tg1 := tgE1) (iter1 := iter1) (ifs1 := ifs) (scope := scope) (own := ownP tb own) (vs1 := own1) (pos := p) (it := tg) (it1 := tg1) (src := evI g Φ src) (src1 := evI g Φ src1) (c := evC g Φ c) (el := fun ρ => asD g.flds (evE g Φ elt ρ)) kn.hc kn.hK kn.nd (snI src sc tgE iter W X kn hsc tk h7) blk (by rw [em]; exact h2) (by rw [em, kn.hN]; exact h3) (by rw [em]; exact hv) h2' (by rw [em]; exact h4) h4'
      (fun s H C cl fp => pg_of (X := X.blk s H scope (compEnvC scope cl C X.env) fp) kn.hN kn.nd kn.hc st_blk h5)
      (fun s H C cl fp => snI src1 (relS scope sc) tgE1 iter1 W0 (X.blk s H scope (compEnvC scope cl C X.env) fp) kn.blk (by rw [← hsc]; rfl) takes_none5 h7')
      (fun s H C cl fp => pg_of (X := X.blk s H scope (compEnvC scope cl C X.env) fp) kn.hN kn.nd kn.hc st_blk h5')
      (fun s H C cl fp => snF c (relS scope sc) ifs W0 (X.blk s H scope (compEnvC scope cl C X.env) fp) kn.blk (by rw [← hsc]; rfl) takes_none5 h8)
      (fun s H C cl fp => by
        have q := pe_asD ((snE elt false (relS scope sc) el W0 (X.blk s H scope (compEnvC scope cl C X.env) fp) kn.blk (by rw [← hsc]; rfl) takes_none5 h9).1 rfl)
        rw [← kn.fl] at q
        exact q) h6 h6'
    rw [em] at q
    exact tv_tst kn q rfl t
theorem snO : ∀ (io : IO) (sc : Scope) (o : Option Expr) (W : WX) (X : Cx), Kn T g Φ tb X → X.env.scope = sc → Takes X W → okO tb sc io o = true → PO X o (tO T W (evO g Φ io))
  | .non, sc, o, W, X, kn, hsc, tk, h => by
    cases o with
    | none => exact po_noneF
    | some _ => cases h
  | .som ie, sc, o, W, X, kn, hsc, tk, h => by
    cases o with
    | none => cases h
    | some e =>
      have h : okE tb false sc ie e = true := h
      have q := po_someF (pe_asD ((snE ie false sc e W X kn hsc tk h).1 rfl))
      rw [← kn.fl] at q
      exact q
theorem snF : ∀ (io : IO) (sc : Scope) (l : List Expr) (W : WX) (X : Cx), Kn T g Φ tb X → X.env.scope = sc → Takes X W → okF tb sc io l = true → PTs X l (tT T W (evC g Φ io))
  | .non, sc, l, W, X, kn, hsc, tk, h => by
    cases l with
    | nil => exact pts_nilF
    | cons _ _ => cases h
  | .som ie, sc, l, W, X, kn, hsc, tk, h => by
    cases l with
    | nil => cases h
    | cons e l =>
      cases l with
      | cons _ _ => cases h
      | nil =>
        have h : okE tb true sc ie e = true := h
        exact pts_one (pt_teE kn hsc h ((snE ie true sc e W X kn hsc tk h).2 rfl))
theorem snDs : ∀ (es : IEs) (sc : Scope) (l : List Expr) (W : WX) (X : Cx), Kn T g Φ tb X → X.env.scope = sc → Takes X W → noStar l = true → okEs tb false sc es l = true → PA X l (tDs T W (evDs g Φ es))
  | .nil, sc, l, W, X, kn, hsc, tk, hn, h => by
    cases l with
    | nil => exact pa_nilF
    | cons _ _ => cases h
  | .cons ie es, sc, l, W, X, kn, hsc, tk, hn, h => by
    cases l with
    | nil => cases h
    | cons e l =>
      have h : (okE tb false sc ie e && okEs tb false sc es l) = true := h
      simp only [Bool.and_eq_true] at h
      obtain ⟨s1, s2⟩ := all_star hn
      have q := pa_consF (pe_asD ((snE ie false sc e W X kn hsc tk h.1).1 rfl)) (snDs es sc l W X kn hsc tk s2 h.2) s1
      rw [← kn.fl] at q
      exact q
theorem snAs : ∀ (es : IEs) (sc : Scope) (l : List Expr) (W : WX) (X : Cx), Kn T g Φ tb X → X.env.scope = sc → Takes X W → noStar l = true → okEs tb false sc es l = true → PA X l (tAs T W (evAs g Φ es))
  | .nil, sc, l, W, X, kn, hsc, tk, hn, h => by
    cases l with
    | nil => exact pa_nilA
    | cons _ _ => cases h
  | .cons ie es, sc, l, W, X, kn, hsc, tk, hn, h => by
    cases l with
    | nil => cases h
    | cons e l =>
      have h : (okE tb false sc ie e && okEs tb false sc es l) = true := h
      simp only [Bool.and_eq_true] at h
      obtain ⟨s1, s2⟩ := all_star hn
      exact pa_consA (ar_of kn hsc h.1 ((snE ie false sc e W X kn hsc tk h.1).1 rfl)) (snAs es sc l W X kn hsc tk s2 h.2) s1
theorem snB : ∀ (es : IEs) (isAnd t : Bool) (sc : Scope) (l : List Expr) (p : Pos) (W : WX) (X : Cx), Kn T g Φ tb X → X.env.scope = sc → Takes X W → 2 ≤ l.length → okEs tb t sc es l = true → SnW T W X t (.BoolOp (if isAnd = true then .And else .Or) l p) (evB g Φ isAnd es)
  | .nil, _, _, _, l, _, _, _, _, _, _, h0, h => by
    cases l with
    | nil => simp at h0
    | cons _ _ => cases h
  | .cons ie .nil, _, _, _, l, _, _, _, _, _, _, h0, h => by
    cases l with
    | nil => simp at h0
    | cons e l =>
      cases l with
      | nil => simp at h0
      | cons e2 l =>
        have h := (Bool.and_eq_true_iff.mp (show (_ && okEs tb _ _ .nil (e2 :: l)) = true from h)).2
        cases h
  | .cons ie (.cons ie2 .nil), isAnd, t, sc, l, p, W, X, kn, hsc, tk, h0, h => by
    cases l with
    | nil => cases h
    | cons e l =>
      cases l with
      | nil => simp at h0
      | cons e2 l =>
        cases l with
        | cons e3 l =>
          have h := (Bool.and_eq_true_iff.mp (show (_ && okEs tb _ _ (.cons ie2 .nil) (e2 :: e3 :: l)) = true from h)).2
          have h := (Bool.and_eq_true_iff.mp (show (_ && okEs tb _ _ .nil (e3 :: l)) = true from h)).2
          cases h
        | nil =>
          have h : (okE tb t sc ie e && (okE tb t sc ie2 e2 && true)) = true := h
          simp only [Bool.and_eq_true, and_true] at h
          have q1 := snE ie t sc e W X kn hsc tk h.1
          have q2 := snE ie2 t sc e2 W X kn hsc tk h.2
          cases t with
          | false =>
            refine ⟨fun _ => ?_, fun z => by cases z⟩
            have q := pe_bopF (isAnd := isAnd) (pos := p) kn.hK (pe_asD (q1.1 rfl)) (pe_one (q2.1 rfl))
            rw [← kn.fl] at q
            exact q
          | true =>
            refine ⟨fun z => (by cases z), fun _ => ?_⟩
            have q := (pw_bopF (isAnd := isAnd) (pos := p) (q1.2 rfl) (pw_bop1 (isAnd := isAnd) (pos := p) (q2.2 rfl)))
            rw [← restB_as, ← kn.fl] at q
            rw [← kn.fl]
            exact q
  | .cons ie (.cons ie2 (.cons ie3 es)), isAnd, t, sc, l, p, W, X, kn, hsc, tk, h0, h => by
    cases l with
    | nil => cases h
    | cons e l =>
      cases l with
      | nil => simp at h0
      | cons e2 l =>
        have h := Bool.and_eq_true_iff.mp (show (okE tb t sc ie e && okEs tb t sc (.cons ie2 (.cons ie3 es)) (e2 :: l)) = true from h)
        have h0' : 2 ≤ (e2 :: l).length := by
          cases l with
          | nil =>
            have h2 := (Bool.and_eq_true_iff.mp (show (_ && okEs tb t sc (.cons ie3 es) []) = true from h.2)).2
            cases h2
          | cons _ _ => simp
        have q1 := snE ie t sc e W X kn hsc tk h.1
        have q2 := snB (.cons ie2 (.cons ie3 es)) isAnd t sc (e2 :: l) p W X kn hsc tk h0' h.2
        cases t with
        | false =>
          refine ⟨fun _ => ?_, fun z => by cases z⟩
          have q := pe_bopF (isAnd := isAnd) (pos := p) kn.hK (pe_asD (q1.1 rfl)) (q2.1 rfl)
          rw [← kn.fl] at q
          exact q
        | true =>
          refine ⟨fun z => (by cases z), fun _ => ?_⟩
          have q := (pw_bopF (isAnd := isAnd) (pos := p) (q1.2 rfl) (q2.2 rfl))
          rw [← restB_as, ← kn.fl] at q
          rw [← kn.fl]
          exact q
theorem snI : ∀ (ii : II) (sc : Scope) (tgE e : Expr) (W : WX) (X : Cx), Kn T g Φ tb X → X.env.scope = sc → Takes X W → okI tb sc ii tgE e = true → PI X tgE e (tIt T W (evI g Φ ii))
  | .seq ie, sc, tgE, e, W, X, kn, hsc, tk, h => by
    have h : okE tb false sc ie e = true := h
    have q := pi_seqF (tg := tgE) kn.hK (pe_asD ((snE ie false sc e W X kn hsc tk h).1 rfl))
    rw [← kn.fl] at q
    exact q
  | .enum a, sc, tgE, e, W, X, kn, hsc, tk, h => by
    obtain ⟨l, k, p0, x, p1, e1, p2, rfl, rfl, hh⟩ : ∃ l k p0 x p1 e1 p2, tgE = .Tuple l k p0 ∧ e = .Call (.Name x p1) [e1] [] p2 ∧ (decide (x = "enumerate") && (glB sc x && (!Ex.star e1 && okE tb false sc a e1))) = true := by
      unfold okI at h
      split at h <;> first | exact ⟨_, _, _, _, _, _, _, rfl, rfl, h⟩ | exact absurd h Bool.false_ne_true | contradiction | (injections; subst_vars; exact ⟨_, _, _, _, _, _, _, rfl, rfl, h⟩)
    simp only [Bool.and_eq_true, decide_eq_true_eq, Bool.not_eq_true'] at hh
    obtain ⟨rfl, h1, h2, h3⟩ := hh
    have ea := pe_asD ((snE a false sc e1 W X kn hsc tk h3).1 rfl)
    rw [← kn.fl] at ea
    exact pi_enumF kn.hK (gl_of hsc h1) (kn.fr _ (by simp [frees])) ea h2
  | .zip a b, sc, tgE, e, W, X, kn, hsc, tk, h => by
    obtain ⟨l, k, p0, x, p1, e1, e2, p2, rfl, rfl, hh⟩ : ∃ l k p0 x p1 e1 e2 p2, tgE = .Tuple l k p0 ∧ e = .Call (.Name x p1) [e1, e2] [] p2 ∧ (decide (x = "zip") && (glB sc x && (!Ex.star e1 && (!Ex.star e2 && (okE tb false sc a e1 && okE tb false sc b e2))))) = true := by
      unfold okI at h
      split at h <;> first | exact ⟨_, _, _, _, _, _, _, _, rfl, rfl, h⟩ | exact absurd h Bool.false_ne_true | contradiction | (injections; subst_vars; exact ⟨_, _, _, _, _, _, _, _, rfl, rfl, h⟩)
    simp only [Bool.and_eq_true, decide_eq_true_eq, Bool.not_eq_true'] at hh
    obtain ⟨rfl, h1, h2, h3, h4, h5⟩ := hh
    have ea := pe_asD ((snE a false sc e1 W X kn hsc tk h4).1 rfl)
    have eb := pe_asD ((snE b false sc e2 W X kn hsc tk h5).1 rfl)
    rw [← kn.fl] at ea eb
    exact pi_zipF (x := "zip") kn.hK (gl_of hsc h1) (kn.fr _ (by simp [frees])) ea eb h2 h3
  | .items _, _, _, e, _, _, _, _, _, h => by cases e <;> cases h
end
end Fx
end
section
set_option linter.all false
set_option Elab.async false
set_option maxRecDepth 100000
set_option maxHeartbeats 4000000
/-! The check of a statement is sound. -/
namespace Fx
open PySem PySem.Spec L2
variable {T : Nm} {g : G} {Φ : Fn} {tb : Tb} {wr : List Nat}
/-- a def's body, or what stands in a try -/
structure Bd (X : Cx) (sc : Scope) : Prop where
  sc_ : X.env.scope = sc
  hs : X.stack = X.env :: X.outer
  hf : X.env.frame = some X.env.locals
  fn : ∀ x, X.fn x = true
  kd : X.env.scope.kind = .function
theorem Bd.tr {X : Cx} {sc : Scope} {pn : List (Addr × Obj)} {xe : Value → Shared → Prop} (b : Bd X sc) : Bd (X.tr pn xe) sc := ⟨b.sc_, b.hs, b.hf, b.fn, b.kd⟩
theorem st_def {X : Cx} {sc : Scope} (b : Bd X sc) : ∀ x, stB sc x = true → Loc X.env.scope x ∧ (X.fn x = true ∨ X.env.scope.names.lookup x = some .local) := by
  intro x h
  unfold stB at h
  rw [b.sc_]
  split at h
  · exact ⟨.inl (by assumption), .inl (b.fn x)⟩
  · exact ⟨.inr (by assumption), .inl (b.fn x)⟩
  · cases h
theorem sw_eq {elt : Expr} {gs : List Comprehension} {scope : Scope} {pos py : Pos} {y : Str} {l : Nat} {env : PySem.Env} {sc : Scope} (hsc : env.scope = sc) (hk : env.scope.kind = .function) :
    swapsWith (.ListComp elt gs scope pos) (some (.Name y py)) l env = pure (swB sc y py (.ListComp elt gs scope pos)) := by
  have hb : env.blockKind = .function := by unfold Env.blockKind; rw [hk]; rfl
  have ky : env.kindOf y = sc.names.lookup y := by rw [← hsc]; rfl
  unfold swapsWith swB
  simp only [hb, ky, Expr.pos]
  show (pure (true && (sc.names.lookup y == some NameKind.local) && (py.line == pos.line) && !(scope.names.any fun (n, k) => n == y && (k == .local || k == .cell))) : Sem Bool) = _
  congr 1
  rw [Bool.true_and, Bool.and_assoc]
  congr 1
  cases sc.names.lookup y with
  | none => rfl
  | some k => cases k <;> rfl
theorem sw_any {v : Expr} {py : Pos} {y : Str} {l : Nat} {env : PySem.Env} {sc : Scope} (hsc : env.scope = sc) (hk : env.scope.kind = .function) (h : Ex.compr v = false ∨ ∃ elt gs scope pos, v = .ListComp elt gs scope pos) :
    swapsWith v (some (.Name y py)) l env = pure (swB sc y py v) := by
  rcases h with h | ⟨elt, gs, scope, pos, rfl⟩
  · rw [swaps_plain h]
    cases v <;> first | rfl | cases h
  · exact sw_eq hsc hk
theorem ps_asgW {W : WX} {X : Cx} {i : Nat} {x : Str} {pos' pos : Pos} {e : Expr} {m : Env → Res R} (hw : i ∈ wr) (hN : X.N.Nodup) (hi : X.N[i]? = some x) (hx : Loc X.env.scope x) (hf : X.fn x = true) (he : PE X e (tM T W m)) (hc : swapsWith e (some (.Name x pos')) pos.line X.env = pure false) :
    PS X (.Assign [.Name x pos'] e pos) (tS T W wr fun ρ => (m ρ).thn fun r ρ => .nx (ρ.set i (some r))) :=
  (ps_set hN hi hx he hc (.inl hf)).impL fun D σ H hl q => asg_imp hw (by rw [hl]; exact (List.getElem?_eq_some_iff.mp hi).1) q
/-- name = [..], stored at once -/
theorem ps_asgC {W : WX} {X : Cx} {sc : Scope} {i : Nat} {x : Str} {pos' pos : Pos} {ie : IE} {elt : Expr} {gs : List Comprehension} {scope : Scope} {p : Pos} (kn : Kn T g Φ tb X) (b : Bd X sc) (tk : Takes X W) (hw : i ∈ wr) (hi : X.N[i]? = some x)
    (h : okE tb false sc ie (.ListComp elt gs scope p) = true) (hsw : swB sc x pos' (.ListComp elt gs scope p) = true) :
    PS X (.Assign [.Name x pos'] (.ListComp elt gs scope p) pos) (tS T W wr fun ρ => (evE g Φ ie ρ).thn fun r ρ => .nx (ρ.set i (some r))) := by
  have hsc := b.sc_
  have hyl : X.env.scope.names.lookup x = some .local := by
    unfold swB at hsw
    rw [hsc]
    exact of_decide_eq_true (Bool.and_eq_true_iff.mp hsw).1
  have swt : swapsWith (.ListComp elt gs scope p) (some (.Name x pos')) pos.line X.env = pure true := by rw [sw_eq hsc b.kd, hsw]
  cases ie with
  | comp el own tg src c =>
    obtain ⟨tgE, iter, ifs, rfl, hh⟩ : ∃ tgE iter ifs, gs = [⟨tgE, iter, ifs, 0⟩] ∧ (blkC tb.N sc scope (ownP tb own) && (decide own.Nodup && (decide (∀ i ∈ own, i < tb.N.length) && (decide (∀ i ∈ tg.slots, i ∈ own) && (okTg tb scope tg tgE && (!Ex.isSet iter && (okI tb sc src tgE iter && (okF tb (relS scope sc) c ifs && okE tb false (relS scope sc) el elt)))))))) = true := by
      generalize he : (Expr.ListComp elt gs scope p) = e at h
      unfold okE at h
      split at h <;> first | (cases he; exact ⟨_, _, _, rfl, h⟩) | exact absurd h Bool.false_ne_true | contradiction | (rename_i z; cases z; cases he; exact ⟨_, _, _, rfl, h⟩)
    simp only [Bool.and_eq_true, decide_eq_true_eq, Bool.not_eq_true'] at hh
    obtain ⟨h1, h2, h3, h4, h5, h6, h7, h8, h9⟩ := hh
    have em : (ownP tb own).map (·.2) = own := own_map
    have blk := blkOk_by h1
    rw [← hsc, ← kn.hN] at blk
    have q := ps_setLc (X := X) (pos := p) (spos := pos) (py := pos') (own := ownP tb own) (g := tg.rd X.K) (tt := tT T W0 (evC g Φ c)) (te := tD T W0 fun ρ => asD g.flds (evE g Φ el ρ)) kn.hc kn.nd hi hyl swt (snI src sc tgE iter W X kn hsc tk h7) blk
      (fun s H C cl fp => pg_of (X := X.blk s H scope (compEnvC scope cl C X.env) fp) kn.hN kn.nd kn.hc st_blk h5)
      (fun s H C cl fp => snF c (relS scope sc) ifs W0 (X.blk s H scope (compEnvC scope cl C X.env) fp) kn.blk (by rw [← hsc]; rfl) takes_none5 h8)
      (fun s H C cl fp => by
        have q := pe_asD ((snE el false (relS scope sc) elt W0 (X.blk s H scope (compEnvC scope cl C X.env) fp) kn.blk (by rw [← hsc]; rfl) takes_none5 h9).1 rfl)
        rw [← kn.fl] at q
        exact q) (fold_plain h6)
    refine q.impL fun D σ H hl q => lc_imp kn.hK (by rw [em]; exact h2) (n := X.N.length) (by rw [em, kn.hN]; exact h3) (by rw [em]; exact h4) hl ?_
    rw [em]
    exact asg_imp hw (by rw [hl]; exact (List.getElem?_eq_some_iff.mp hi).1) q
  | comp2 el own own1 tg src tg1 src1 c =>
    obtain ⟨tgE, iter, tgE1, iter1, ifs, rfl, hh⟩ : ∃ tgE iter tgE1 iter1 ifs1, gs = [⟨tgE, iter, [], 0⟩, ⟨tgE1, iter1, ifs1, 0⟩] ∧ (blkC tb.N sc scope (ownP tb own) && (decide own.Nodup && (decide own1.Nodup && (decide (∀ i ∈ own1, i ∈ own) && (decide (∀ i ∈ own, i < tb.N.length) && (decide (∀ i ∈ tg.slots, i ∈ own) && (decide (∀ i ∈ tg1.slots, i ∈ own1) &&
      (okTg tb scope tg tgE && (okTg tb scope tg1 tgE1 && (!Ex.isSet iter && (!Ex.isSet iter1 && (okI tb sc src tgE iter && (okI tb (relS scope sc) src1 tgE1 iter1 && (okF tb (relS scope sc) c ifs1 && okE tb false (relS scope sc) el elt)))))))))))))) = true := by
      generalize he : (Expr.ListComp elt gs scope p) = e at h
      unfold okE at h
      split at h <;> first | (cases he; exact ⟨_, _, _, _, _, rfl, h⟩) | exact absurd h Bool.false_ne_true | contradiction | (rename_i z; cases z; cases he; exact ⟨_, _, _, _, _, rfl, h⟩)
    simp only [Bool.and_eq_true, decide_eq_true_eq, Bool.not_eq_true'] at hh
    obtain ⟨h1, h2, h2', hv, h3, h4, h4', h5, h5', h6, h6', h7, h7', h8, h9⟩ := hh
    have em : (ownP tb own).map (·.2) = own := own_map
    have blk := blkOk_by h1
    rw [← hsc, ← kn.hN] at blk
    have q := ps_setLc2 (X := X) (pos := p) (spos := pos) (py := pos') (own := ownP tb own) (vs1 := own1) (g := tg.rd X.K) (g1 := tg1.rd X.K) (tt := tYes) (tt1 := tT T W0 (evC g Φ c)) (te := tD T W0 fun ρ => asD g.flds (evE g Φ el ρ)) kn.hc kn.nd hi hyl swt (snI src sc tgE iter W X kn hsc tk h7) blk (by rw [em]; exact hv)
      (fun s H C cl fp => pg_of (X := X.blk s H scope (compEnvC scope cl C X.env) fp) kn.hN kn.nd kn.hc st_blk h5)
      (fun _ _ _ _ _ => pts_nil)
      (fun s H C cl fp => snI src1 (relS scope sc) tgE1 iter1 W0 (X.blk s H scope (compEnvC scope cl C X.env) fp) kn.blk (by rw [← hsc]; rfl) takes_none5 h7')
      (fun s H C cl fp => pg_of (X := X.blk s H scope (compEnvC scope cl C X.env) fp) kn.hN kn.nd kn.hc st_blk h5')
      (fun s H C cl fp => snF c (relS scope sc) ifs W0 (X.blk s H scope (compEnvC scope cl C X.env) fp) kn.blk (by rw [← hsc]; rfl) takes_none5 h8)
      (fun s H C cl fp => by
        have q := pe_asD ((snE el false (relS scope sc) elt W0 (X.blk s H scope (compEnvC scope cl C X.env) fp) kn.blk (by rw [← hsc]; rfl) takes_none5 h9).1 rfl)
        rw [← kn.fl] at q
        exact q) (fold_plain h6) (fun _ => fold_plain h6')
    refine q.impL fun D σ H hl q => lc2_imp kn.hK (by rw [em]; exact h2) (n := X.N.length) (by rw [em, kn.hN]; exact h3) (by rw [em]; exact hv) (by rw [em]; exact h4) h4' hl ?_
    rw [em]
    exact asg_imp hw (by rw [hl]; exact (List.getElem?_eq_some_iff.mp hi).1) q
  | cst d => exact absurd h (by unfold okE; cases d <;> exact Bool.false_ne_true)
  | _ => cases h
theorem sws_of {tgE v : Expr} {env : PySem.Env} (h : notTup v = true) : swappedStores [tgE] v env = pure none := by
  cases v <;> cases tgE <;> first | rfl | cases h
/-! ### except clauses -/
theorem var_suite {X : Cx} {a : Addr} {oe : Obj} {pn : List (Addr × Obj)} {sc : Scope} {i : Nat} {y : Str} {p : Pos} (hN : X.N = tb.N) (hsc : X.env.scope = sc) (h : okV tb sc i y = true) : PE (X.suite a ((a, oe) :: pn)) (.Name y p) (tVar i) :=
  pv_of (X := X.suite a ((a, oe) :: pn)) hN hsc h
theorem cst_tC {X : Cx} {d : D} {e : Expr} (h : okC d e = true) : ∃ v, PE X e (tC v) ∧ (∀ F, Rp T F v d) ∧ Ex.star e = false := by
  unfold okC at h
  split at h
  · obtain rfl := of_decide_eq_true h; exact ⟨_, pe_int, fun F => .int _, rfl⟩
  · obtain rfl := of_decide_eq_true h; exact ⟨_, pe_str, fun F => .str _, rfl⟩
  · obtain rfl := of_decide_eq_true h; exact ⟨_, pe_bl, fun F => .bl _, rfl⟩
  · exact ⟨_, pe_non, fun F => .non, rfl⟩
  · cases h
theorem he_of {X : Cx} {sc : Scope} {a : Addr} {oe : Obj} {cls : Value} {dd : Option Addr} {pn : List (Addr × Obj)} {o : Option Nat} {he : HE} {e : Expr} {pos : Pos} (kn : Kn T g Φ tb X) (hsc : X.env.scope = sc) (hz : Zc cls dd oe) (hf : ∃ vs, oe.data = .fields vs) (h : okHE tb sc o he e = true) :
    PSs (X.suite a ((a, oe) :: pn)) [.Return (some e) pos] (tH T g a cls dd o he) := by
  cases he with
  | cst d =>
    obtain ⟨v, h1, h2, _⟩ := cst_tC (T := T) (X := X.suite a ((a, oe) :: pn)) (show okC d e = true by cases e <;> exact h)
    exact pss_hC h1 h2
  | fld n =>
    cases e with
    | Attribute x m p =>
      cases x with
      | Name y p0 =>
        have h' : (decide (n = m) && slB tb sc o y) = true := h
        simp only [Bool.and_eq_true, decide_eq_true_eq] at h'
        obtain ⟨rfl, h'⟩ := h'
        cases o with
        | none => cases h'
        | some i => exact pss_hF (nx := g.nx) rfl kn.xf (fun c hc => (kn.xr c hc).cl) hz hf (var_suite kn.hN hsc h')
      | _ => cases h
    | _ => cases h
  | pair d n =>
    obtain ⟨ec, y, p0, m, p1, k, p2, rfl, hh⟩ : ∃ ec y p0 m p1 k p2, e = .Tuple [ec, .Attribute (.Name y p0) m p1] k p2 ∧ (okC d ec && (decide (n = m) && slB tb sc o y)) = true := by
      unfold okHE at h
      split at h <;> first | exact ⟨_, _, _, _, _, _, _, rfl, h⟩ | exact absurd h Bool.false_ne_true | contradiction | (rename_i z; cases z; exact ⟨_, _, _, _, _, _, _, rfl, h⟩)
    simp only [Bool.and_eq_true, decide_eq_true_eq] at hh
    obtain ⟨h1, rfl, h3⟩ := hh
    obtain ⟨v, q1, q2, q3⟩ := cst_tC (T := T) (X := X.suite a ((a, oe) :: pn)) h1
    cases o with
    | none => cases h3
    | some i => exact pss_hP (nx := g.nx) rfl kn.xf (fun c hc => (kn.xr c hc).cl) hz hf (var_suite kn.hN hsc h3) q1 q2 q3
  | isEq c n d => cases e <;> cases h
theorem hds_of {X : Cx} {sc : Scope} (kn : Kn T g Φ tb X) (b : Bd X sc) : ∀ {hl : List Hd} {hds : List ExceptHandler}, okHds tb wr sc hl hds = true →
    ClOk X hds (hl.map fun h => (.ref (T.xcls h.c), h.slot, fun a cls dd => tH T g a cls dd h.slot h.ret)) ∧ (∀ h ∈ hl, h.c < tb.xcs.length) ∧ (∀ h ∈ hl, ∀ i, h.slot = some i → i ∈ wr) ∧ (∀ h ∈ hl, ∀ i, h.slot = some i → i < X.N.length)
  | [], [], _ => ⟨.nil, by simp, by simp, by simp⟩
  | h :: hl, e :: hds, hh => by
    have hh : (okHd tb wr sc h e && okHds tb wr sc hl hds) = true := hh
    simp only [Bool.and_eq_true] at hh
    obtain ⟨h1, h2⟩ := hh
    obtain ⟨r1, r2, r3, r4⟩ := hds_of kn b h2
    obtain ⟨c, slot, ret⟩ := h
    obtain ⟨x, p0, nm, v, p1, p2, rfl, hv⟩ : ∃ x p0 nm v p1 p2, e = .ExceptHandler (some (.Name x p0)) nm [.Return (some v) p1] p2 ∧ (decide (tb.xcs[c]? = some x) && (glB sc x && (dbgB x && (okHE tb sc slot ret v && nmB tb wr sc slot nm)))) = true := by
      unfold okHd at h1
      split at h1
      · exact ⟨_, _, _, _, _, _, rfl, h1⟩
      · cases h1
    simp only [Bool.and_eq_true, decide_eq_true_eq] at hv
    obtain ⟨a1, a2, a3, a4, a5⟩ := hv
    have nms : Names X x (.ref (T.xcls c)) := ⟨gl_of b.sc_ a2, (dbg_of a3).1, .inl (kn.xm c x a1)⟩
    have hc : c < tb.xcs.length := (List.getElem?_eq_some_iff.mp a1).1
    have su := fun (a : Addr) (oe : Obj) (cls : Value) (d : Option Addr) (pn : List (Addr × Obj)) (z : Zc cls d oe) (f : ∃ vs, oe.data = .fields vs) => he_of (a := a) (pos := p1) (pn := pn) kn b.sc_ z f a4
    cases slot with
    | none =>
      cases nm with
      | some _ => cases a5
      | none =>
        exact ⟨.bare nms su r1, fun h m => by rcases List.mem_cons.mp m with rfl | m; exact hc; exact r2 h m, fun h m i e => by rcases List.mem_cons.mp m with rfl | m; cases e; exact r3 h m i e, fun h m i e => by rcases List.mem_cons.mp m with rfl | m; cases e; exact r4 h m i e⟩
    | some i =>
      cases nm with
      | none => cases a5
      | some n =>
        have a5 : (decide (tb.N[i]? = some n) && (decide (sc.names.lookup n = some .local) && decide (i ∈ wr))) = true := a5
        simp only [Bool.and_eq_true, decide_eq_true_eq] at a5
        obtain ⟨b1, b2, b3⟩ := a5
        have hi : X.N[i]? = some n := by rw [kn.hN]; exact b1
        refine ⟨.named hi (by show X.env.scope.names.lookup n = _; rw [b.sc_]; exact b2) nms su r1, fun h m => by rcases List.mem_cons.mp m with rfl | m; exact hc; exact r2 h m, fun h m j e => ?_, fun h m j e => ?_⟩
        · rcases List.mem_cons.mp m with rfl | m
          · cases e; exact b3
          · exact r3 h m j e
        · rcases List.mem_cons.mp m with rfl | m
          · cases e; exact (List.getElem?_eq_some_iff.mp hi).1
          · exact r4 h m j e
  | [], _ :: _, h => by cases h
  | _ :: _, [], h => by cases h
mutual
theorem snS : ∀ (is : IS) (sc : Scope) (st : Stmt) (W : WX) (X : Cx), Kn T g Φ tb X → Bd X sc → Takes X W → PassesOwn (model X.prog X.w) X.A X.env X.xe → okS tb wr sc is st = true → PS X st (tS T W wr (evS g Φ is))
  | .asg i e, sc, st, W, X, kn, b, tk, po, h => by
    obtain ⟨x, px, v, p, rfl, hh⟩ : ∃ x px v p, st = .Assign [.Name x px] v p ∧ (decide (tb.N[i]? = some x) && (decide (i ∈ wr) && (stB sc x && okE tb false sc e v))) = true := by
      unfold okS at h
      split at h <;> first | exact ⟨_, _, _, _, rfl, h⟩ | exact absurd h Bool.false_ne_true | contradiction | (rename_i z; cases z; exact ⟨_, _, _, _, rfl, h⟩)
    simp only [Bool.and_eq_true, decide_eq_true_eq] at hh
    obtain ⟨h1, h2, h3, h4⟩ := hh
    have hi : X.N[i]? = some x := by rw [kn.hN]; exact h1
    by_cases sw : swB sc x px v = true
    · cases v with
      | ListComp elt gs scope p' => exact ps_asgC kn b tk h2 hi h4 sw
      | _ => cases sw
    · have hv : Ex.compr v = false ∨ ∃ elt gs scope pos, v = .ListComp elt gs scope pos := by
        cases v <;> first | exact .inl rfl | exact .inr ⟨_, _, _, _, rfl⟩ | (exfalso; revert h4; cases e <;> first | (intro h4; cases h4; done) | (rename_i d; cases d <;> (intro h4; cases h4)))
      exact ps_asgW h2 kn.nd hi (st_def b x h3).1 (b.fn x) ((snE e false sc v W X kn b.sc_ tk h4).1 rfl) (by rw [sw_any b.sc_ b.kd hv]; rw [Bool.eq_false_iff.mpr sw])
  | .unp is e, sc, st, W, X, kn, b, tk, po, h => by
    obtain ⟨tgE, v, p, rfl, hh⟩ : ∃ tgE v p, st = .Assign [tgE] v p ∧ (okTg tb sc (.many is) tgE && (decide (∀ i ∈ is, i ∈ wr) && (decide (∀ i ∈ is, i < tb.N.length) && (!Ex.compr v && (notTup v && okE tb false sc e v))))) = true := by
      unfold okS at h
      split at h <;> first | exact ⟨_, _, _, rfl, h⟩ | exact absurd h Bool.false_ne_true | contradiction | (rename_i z; cases z; exact ⟨_, _, _, rfl, h⟩)
    simp only [Bool.and_eq_true, decide_eq_true_eq, Bool.not_eq_true'] at hh
    obtain ⟨h1, h2, h3, h4, h5, h6⟩ := hh
    have he := pe_asD ((snE e false sc v W X kn b.sc_ tk h6).1 rfl)
    rw [← kn.fl] at he
    refine ps_unpF kn.hK h2 (by rw [kn.hN]; exact h3) he (pg_of kn.hN kn.nd kn.hc (st_def b) h1) h4 (sws_of h5) ?_
    cases tgE with
    | Tuple es k p' => rfl
    | _ => cases h1
  | .par is es, sc, st, W, X, kn, b, tk, po, h => by cases st <;> cases h
  | .seti i k e, sc, st, W, X, kn, b, tk, po, h => by
    obtain ⟨x, px, ek, p1, v, p, rfl, hh⟩ : ∃ x px ek p1 v p, st = .Assign [.Subscript (.Name x px) ek p1] v p ∧ (okV tb sc i x && (!Ex.compr v && (!Ex.isSlice ek && (okE tb false sc k ek && okE tb false sc e v)))) = true := by
      unfold okS at h
      split at h <;> first | exact ⟨_, _, _, _, _, _, rfl, h⟩ | exact absurd h Bool.false_ne_true | contradiction | (rename_i z; cases z; exact ⟨_, _, _, _, _, _, rfl, h⟩)
    simp only [Bool.and_eq_true, decide_eq_true_eq, Bool.not_eq_true'] at hh
    obtain ⟨h1, h2, h3, h4, h5⟩ := hh
    have q := ps_setiF (wr := wr) (pos := p) (p1 := p1) (pv_of (p := px) kn.hN b.sc_ h1) (pe_asD ((snE k false sc ek W X kn b.sc_ tk h4).1 rfl)) (pe_asD ((snE e false sc v W X kn b.sc_ tk h5).1 rfl)) h2 h3
    rw [← kn.fl] at q
    exact q
  | .setd i k e, sc, st, W, X, kn, b, tk, po, h => by
    obtain ⟨x, px, ek, p1, v, p, rfl, hh⟩ : ∃ x px ek p1 v p, st = .Assign [.Subscript (.Name x px) ek p1] v p ∧ (okV tb sc i x && (!Ex.compr v && (!Ex.isSlice ek && (okE tb false sc k ek && okE tb false sc e v)))) = true := by
      unfold okS at h
      split at h <;> first | exact ⟨_, _, _, _, _, _, rfl, h⟩ | exact absurd h Bool.false_ne_true | contradiction | (rename_i z; cases z; exact ⟨_, _, _, _, _, _, rfl, h⟩)
    simp only [Bool.and_eq_true, decide_eq_true_eq, Bool.not_eq_true'] at hh
    obtain ⟨h1, h2, h3, h4, h5⟩ := hh
    have q := ps_setdF (wr := wr) (pos := p) (p1 := p1) kn.hK kn.hu (pv_of (p := px) kn.hN b.sc_ h1) (pe_asD ((snE k false sc ek W X kn b.sc_ tk h4).1 rfl)) (pe_asD ((snE e false sc v W X kn b.sc_ tk h5).1 rfl)) h2 h3
    rw [← kn.fl] at q
    exact q
  | .fld i f e, sc, st, W, X, kn, b, tk, po, h => by
    obtain ⟨x, px, n, p1, v, p, rfl, hh⟩ : ∃ x px n p1 v p, st = .Assign [.Attribute (.Name x px) n p1] v p ∧ (okV tb sc i x && (decide (tb.fnm[f]? = some n) && (!Ex.compr v && okE tb false sc e v))) = true := by
      unfold okS at h
      split at h <;> first | exact ⟨_, _, _, _, _, _, rfl, h⟩ | exact absurd h Bool.false_ne_true | contradiction | (rename_i z; cases z; exact ⟨_, _, _, _, _, _, rfl, h⟩)
    simp only [Bool.and_eq_true, decide_eq_true_eq, Bool.not_eq_true'] at hh
    obtain ⟨h1, h2, h3, h4⟩ := hh
    have he := pe_asD ((snE e false sc v W X kn b.sc_ tk h4).1 rfl)
    rw [← kn.fl] at he
    exact ps_fldF (g := g) (wr := wr) (pos := p) kn.hK kn.cl rfl kn.fl (kn.fd f n h2).symm (pv_of (p := px) kn.hN b.sc_ h1) he h3
  | .app i e, sc, st, W, X, kn, b, tk, po, h => by
    obtain ⟨x, p0, m, p1, a, p2, p, rfl, hh⟩ : ∃ x p0 m p1 a p2 p, st = .Expr (.Call (.Attribute (.Name x p0) m p1) [a] [] p2) p ∧ (decide (m = "append") && (okV tb sc i x && (!Ex.star a && (p1.endLine == p2.line && okE tb false sc e a)))) = true := by
      unfold okS at h
      split at h <;> first | exact ⟨_, _, _, _, _, _, _, rfl, h⟩ | exact absurd h Bool.false_ne_true | contradiction | (rename_i z; cases z; exact ⟨_, _, _, _, _, _, _, rfl, h⟩)
    simp only [Bool.and_eq_true, decide_eq_true_eq, Bool.not_eq_true'] at hh
    obtain ⟨rfl, h1, h2, h3, h4⟩ := hh
    have he := pe_asD ((snE e false sc a W X kn b.sc_ tk h4).1 rfl)
    rw [← kn.fl] at he
    exact ps_appF (wr := wr) (pos := p) (pv_of (p := p0) kn.hN b.sc_ h1) he h2 h3
  | .insr i k e, sc, st, W, X, kn, b, tk, po, h => by
    obtain ⟨x, p0, m, p1, c, a, p2, p, rfl, hh⟩ : ∃ x p0 m p1 c a p2 p, st = .Expr (.Call (.Attribute (.Name x p0) m p1) [c, a] [] p2) p ∧ (decide (m = "insert") && (okV tb sc i x && (!Ex.star c && (!Ex.star a && (p1.endLine == p2.line && (okE tb false sc k c && okE tb false sc e a)))))) = true := by
      unfold okS at h
      split at h <;> first | exact ⟨_, _, _, _, _, _, _, _, rfl, h⟩ | exact absurd h Bool.false_ne_true | contradiction | (rename_i z; cases z; exact ⟨_, _, _, _, _, _, _, _, rfl, h⟩)
    simp only [Bool.and_eq_true, decide_eq_true_eq, Bool.not_eq_true'] at hh
    obtain ⟨rfl, h1, h2, h3, h4, h5, h6⟩ := hh
    have hk := pe_asD ((snE k false sc c W X kn b.sc_ tk h5).1 rfl)
    have he := pe_asD ((snE e false sc a W X kn b.sc_ tk h6).1 rfl)
    rw [← kn.fl] at he hk
    exact ps_insrF (wr := wr) (pos := p) (pv_of (p := p0) kn.hN b.sc_ h1) hk he h2 h3 h4
  | .ex e, sc, st, W, X, kn, b, tk, po, h => by
    obtain ⟨v, p, rfl, hh⟩ : ∃ v p, st = .Expr v p ∧ (!Ex.compr v && okE tb false sc e v) = true := by
      unfold okS at h
      split at h <;> first | exact ⟨_, _, rfl, h⟩ | exact absurd h Bool.false_ne_true | contradiction | (rename_i z; cases z; exact ⟨_, _, rfl, h⟩)
    simp only [Bool.and_eq_true, decide_eq_true_eq, Bool.not_eq_true'] at hh
    exact ps_exF ((snE e false sc v W X kn b.sc_ tk hh.2).1 rfl) hh.1
  | .ifs c x y, sc, st, W, X, kn, b, tk, po, h => by
    obtain ⟨c', x', y', p, rfl, hh⟩ : ∃ c' x' y' p, st = .If c' x' y' p ∧ (okE tb true sc c c' && (okSs tb wr sc x x' && okSs tb wr sc y y')) = true := by
      unfold okS at h
      split at h <;> first | exact ⟨_, _, _, _, rfl, h⟩ | exact absurd h Bool.false_ne_true | contradiction | (rename_i z; cases z; exact ⟨_, _, _, _, rfl, h⟩)
    simp only [Bool.and_eq_true] at hh
    obtain ⟨h1, h2, h3⟩ := hh
    exact ps_ifsF (pt_teE kn b.sc_ h1 ((snE c true sc c' W X kn b.sc_ tk h1).2 rfl)) (snSs x sc x' W X kn b tk po h2) (snSs y sc y' W X kn b tk po h3)
  | .for_ tg src body, sc, st, W, X, kn, b, tk, po, h => by
    obtain ⟨tgE, iter, bd, p, rfl, hh⟩ : ∃ tgE iter bd p, st = .For tgE iter bd [] p ∧ (okI tb sc src tgE iter && (okTg tb sc tg tgE && (decide (∀ i ∈ tg.slots, i < tb.N.length) && (decide (∀ i ∈ tg.slots, i ∈ wr) && (!Ex.isSet iter && okSs tb wr sc body bd))))) = true := by
      unfold okS at h
      split at h <;> first | exact ⟨_, _, _, _, rfl, h⟩ | exact absurd h Bool.false_ne_true | contradiction | (rename_i z; cases z; exact ⟨_, _, _, _, rfl, h⟩)
    simp only [Bool.and_eq_true, decide_eq_true_eq, Bool.not_eq_true'] at hh
    obtain ⟨h1, h2, h3, h4, h5, h6⟩ := hh
    exact ps_forF po kn.hc kn.hK (snI src sc tgE iter W X kn b.sc_ tk h1) (pg_of kn.hN kn.nd kn.hc (st_def b) h2) (by rw [kn.hN]; exact h3) h4 (snSs body sc bd W X kn b tk po h6) h5
  | .ret e, sc, st, W, X, kn, b, tk, po, h => by
    obtain ⟨v, p, rfl, hh⟩ : ∃ v p, st = .Return (some v) p ∧ (okE tb false sc e v) = true := by
      unfold okS at h
      split at h <;> first | exact ⟨_, _, rfl, h⟩ | exact absurd h Bool.false_ne_true | contradiction | (rename_i z; cases z; exact ⟨_, _, rfl, h⟩)
    exact ps_retF ((snE e false sc v W X kn b.sc_ tk hh).1 rfl)
  | .retm i, sc, st, W, X, kn, b, tk, po, h => by
    obtain ⟨x, p0, p, rfl, hh⟩ : ∃ x p0 p, st = .Return (some (.Name x p0)) p ∧ (okV tb sc i x) = true := by
      unfold okS at h
      split at h <;> first | exact ⟨_, _, _, rfl, h⟩ | exact absurd h Bool.false_ne_true | contradiction | (rename_i z; cases z; exact ⟨_, _, _, rfl, h⟩)
    exact ps_retmF (pv_of (p := p0) kn.hN b.sc_ hh)
  | .rai c e, sc, st, W, X, kn, b, tk, po, h => by
    obtain ⟨x, p0, a, p1, p, rfl, hh⟩ : ∃ x p0 a p1 p, st = .Raise (some (.Call (.Name x p0) [a] [] p1)) none p ∧ (decide (tb.xcs[c]? = some x) && (decide (c < tb.nx) && (glB sc x && (dbgB x && (!Ex.star a && okE tb false sc e a))))) = true := by
      unfold okS at h
      split at h <;> first | exact ⟨_, _, _, _, _, rfl, h⟩ | exact absurd h Bool.false_ne_true | contradiction | (rename_i z; cases z; exact ⟨_, _, _, _, _, rfl, h⟩)
    simp only [Bool.and_eq_true, decide_eq_true_eq, Bool.not_eq_true'] at hh
    obtain ⟨h1, h2, h3, h4, h5, h6⟩ := hh
    have he := pe_asD ((snE e false sc a W X kn b.sc_ tk h6).1 rfl)
    rw [← kn.fl] at he
    exact ps_raiF kn.hc tk (kn.xr c (by rw [← kn.nx]; exact h2)) (gl_of b.sc_ h3) (kn.xm c x h1) he h5 (dbg_of h4).1
  | .try_ body hs, sc, st, W, X, kn, b, tk, po, h => by
    obtain ⟨bd, h0, hds, p, rfl, hh⟩ : ∃ bd h0 hds p, st = .Try bd (h0 :: hds) [] [] p ∧ (okSs tb wr sc body bd && okHds tb wr sc hs (h0 :: hds)) = true := by
      unfold okS at h
      split at h <;> first | exact ⟨_, _, _, _, rfl, h⟩ | exact absurd h Bool.false_ne_true | contradiction | (rename_i z; cases z; exact ⟨_, _, _, _, rfl, h⟩)
    simp only [Bool.and_eq_true] at hh
    obtain ⟨r1, r2, r3, r4⟩ := hds_of kn b hh.2
    exact ps_tryF b.hs b.hf kn.nd tk (fun W' pn xe tk' po' => snSs body sc bd W' (X.tr pn xe) kn.tr b.tr tk' po' hh.1) r1 (fun h m c hc => kn.xe c h.c hc (r2 h m)) r3 r4
  | .brk, sc, st, W, X, kn, b, tk, po, h => by
    cases st with
    | Break p => exact ps_brkF
    | _ => cases h
  | .cnt, sc, st, W, X, kn, b, tk, po, h => by
    cases st with
    | Continue p => exact ps_cntF
    | _ => cases h
  | .pas, sc, st, W, X, kn, b, tk, po, h => by
    cases st with
    | Pass p => exact ps_pasF
    | _ => cases h
theorem snSs : ∀ (is : ISs) (sc : Scope) (sts : List Stmt) (W : WX) (X : Cx), Kn T g Φ tb X → Bd X sc → Takes X W → PassesOwn (model X.prog X.w) X.A X.env X.xe → okSs tb wr sc is sts = true → PSs X sts (tS T W wr (evSs g Φ is))
  | .nil, sc, sts, W, X, kn, b, tk, po, h => by
    cases sts with
    | nil => exact pss_nilF
    | cons _ _ => cases h
  | .cons i is, sc, sts, W, X, kn, b, tk, po, h => by
    cases sts with
    | nil => cases h
    | cons st sts =>
      have h := Bool.and_eq_true_iff.mp (show (okS tb wr sc i st && okSs tb wr sc is sts) = true from h)
      exact pss_consF (snS i sc st W X kn b tk po h.1) (snSs is sc sts W X kn b tk po h.2)
end
end Fx
end
section
set_option linter.all false
set_option Elab.async false
set_option maxRecDepth 100000
set_option maxHeartbeats 4000000
/-! The module: its defs, what they compute, and that the model agrees. -/
namespace Fx
open PySem PySem.Spec L2
/-- a constant of the module -/
inductive GlV where
  | int (i : Int) | txs (zs : List Str)
def GlV.d : GlV → D
  | .int i => .int i
  | .txs zs => .tup (zs.map .str)
def strsB : List Str → List Value → Bool
  | [], [] => true
  | z :: zs, .str y _ :: vs => decide (y = z) && strsB zs vs
  | _, _ => false
/-- a tuple of texts of the written part -/
def tupB (K : PySem.W.Frag) (x : Str) (zs : List Str) : Bool := (He.Fa.glo x).ok K && (match K.lookup (He.ga K x) with
  | some ⟨.type "tuple", _, .seq its _, _⟩ => strsB zs its.toList && decide (its.size ≤ 1000)
  | _ => false)
def GlV.okB (K : PySem.W.Frag) (x : Str) : GlV → Bool
  | .int i => (He.Fa.int x i).ok K
  | .txs zs => tupB K x zs
/-- a def: its statement, where it stands, its names, what it may write, its body -/
structure DefI where
  st : Stmt
  at_ : Str × Option Str
  name : Str
  qual : Str
  ps : List Str
  N : List Str
  wr : List Nat
  body : ISs
/-- an error class's __init__ -/
structure ErrI where
  x : Str
  f : Str
  st : Stmt
  qual : Str
  s : Str
  v : Str
structure Md where
  defs : List DefI
  fns : List (Str × Nat)
  cls : List (Str × Nat)
  ini : List Nat
  eqf : List (Option Nat)
  flds : List (List Nat)
  fnm : List Str
  errs : List ErrI
  /-- the classes that clauses name: first those of errs -/
  xcs : List Str
  isa : List (List Bool)
  gls : List (Str × GlV)
variable (md : Md)
def Md.tb (N : List Str) : Tb := ⟨N, md.fns, md.cls, md.xcs, md.errs.length, md.gls.map (·.1), md.fnm⟩
def Md.g : G where
  nc := md.cls.length
  flds := fun c => md.flds.getD c []
  ini := fun c => md.ini.getD c 0
  eqf := fun c => (md.eqf.getD c none).getD 0
  eqk := fun c => (md.eqf.getD c none).isSome
  gl := fun i => (md.gls[i]?).map fun p => p.2.d
  isa := fun c x => (md.isa.getD c []).getD x false
  nx := md.errs.length
  xf := fun c => (md.errs.map (·.f)).getD c ""
def Md.T (K : PySem.W.Frag) : Nm where
  K := K
  cls := fun c => He.ga K ((md.cls.map (·.1)).getD c "")
  flds := fun c => md.flds.getD c []
  fname := fun f => md.fnm.getD f ""
  xcls := fun c => He.ga K (md.xcs.getD c "")
  xfld := fun c => (md.errs.map (·.f)).getD c ""
/-! ### what the defs compute -/
/-- what a body gives back of its parameters -/
def outsA (wr : List Nat) (ρ : Env) : Nat → Nat → Env
  | _, 0 => []
  | i, n + 1 => (if i ∈ wr then none else ρ.at i) :: outsA wr ρ (i + 1) n
def DefI.fin (d : DefI) (x : SRes) : FRes := match x with
  | .nx ρ => .ok (.val .non) (outsA d.wr ρ 0 d.ps.length)
  | .rt r ρ => .ok r (outsA d.wr ρ 0 d.ps.length)
  | .exc c v ρ => .exc c v (outsA d.wr ρ 0 d.ps.length)
  | _ => .stuck
def DefI.env (d : DefI) (rs : List R) : Env := rs.map some ++ List.replicate (d.N.length - rs.length) none
def Md.Φ : Nat → Fn
  | 0, _, _ => .stuck
  | n + 1, f, rs => match md.defs[f]? with
    | some d => if rs.length = d.ps.length then d.fin (evSs md.g (Md.Φ n) d.body (d.env rs)) else .stuck
    | none => .stuck
/-! ### Boolean checks -/
def DefI.okB (d : DefI) : Bool := C8.scC d.N d.ps (defScope d.st) && okSs (md.tb d.N) d.wr (defScope d.st) d.body (defBody d.st)
def notFB (K : PySem.W.Frag) (C : Addr) : Bool := tyNames.all fun n => PySem.W.notFirst K C (.type n)
def dB {α : Type} [DecidableEq α] (a b : α) : Bool := decide (a = b)
def clsB (K : PySem.W.Frag) (x : Str) (fs : List Str) : Bool :=
  (He.Fa.glo x).ok K && ((He.Fa.cls x).ok K && (fs.all (fun f => (He.Fa.noat x f).ok K) && ((He.Fa.mkr x).ok K &&
  (dB (PySem.W.findIn K (.ref (He.ga K x)) "__class__") (some (some (.builtin "object.__class__"))) &&
  (dB (PySem.W.specialIn K (.builtin "object.__class__") "__get__") (some (some (.builtin "getset_descriptor.__get__"))) &&
  (dB (PySem.W.takesIn K (.builtin "object.__class__")) (some true) &&
  (dB (PySem.W.mroIn K (He.ga K x) (.type "object")) (some true) &&
  (tyNames.all (fun n => dB (PySem.W.kitOne K (.type n) (.ref (He.ga K x))) (some false)) && tyNames.all (fun n => dB (PySem.W.kitOne K (.ref (He.ga K x)) (.type n)) (some false))))))))))
def eqB (K : PySem.W.Frag) (x : Str) : Bool :=
  dB (PySem.W.findIn K (.ref (He.ga K x)) "__eq__") (some (some (.ref (He.ma K (He.ga K x) "__eq__")))) && (PySem.W.isFn K (.ref (He.ma K (He.ga K x) "__eq__")) && notFB K (He.ga K x))
def oexB (K : PySem.W.Frag) (C : Addr) : Bool := match K.lookup C with
  | some ⟨.type "type", _, .cls cd, sl⟩ => (match cd.mro, sl.toList with
    | .ref C' :: bm, [_, _, _, _, some (.builtin n), _] => decide (C' = C) && (decide (n = "ValueError.__new__") && (!cd.hasDel && (cd.hasDict && PySem.HandSPX.refsVE bm)))
    | _, _ => false)
  | _ => false
theorem oexB_ok {K : PySem.W.Frag} {C : Addr} (h : oexB K C = true) : ∃ nm q N bs bm sn sub ab col dd k0 k1 k2 k3 k5, K.lookup C = some (excClassObj nm q C N bs bm true sn sub ab col dd k0 k1 k2 k3 k5 "ValueError.__new__") ∧ PySem.HandSPX.refsVE bm = true := by
  unfold oexB at h
  split at h
  · rename_i dd cd sl ho
    split at h
    · rename_i C' bm k0 k1 k2 k3 n k5 hm hs
      simp only [Bool.and_eq_true, decide_eq_true_eq, Bool.not_eq_true'] at h
      obtain ⟨rfl, rfl, hdel, hdict, ht⟩ := h
      obtain ⟨nm, bs, mro, ns, qn, hd, sn, sub, ab, col, del⟩ := cd
      dsimp only at hm hdel hdict
      subst hm hdel hdict
      have hsl : sl = #[k0, k1, k2, k3, some (.builtin "ValueError.__new__"), k5] := by
        obtain ⟨l⟩ := sl
        simp only at hs
        rw [hs]
      subst hsl
      exact ⟨nm, qn, ns, bs, bm, sn, sub, ab, col, dd, k0, k1, k2, k3, k5, ho, ht⟩
    · cases h
  · cases h
def errB (K : PySem.W.Frag) (x f : Str) : Bool :=
  oexB K (He.ga K x) && (dB (PySem.W.findIn K (.ref (He.ga K x)) "__setattr__") (some (some (.builtin "object.__setattr__"))) && (dB (PySem.W.subIn K (.ref (He.ga K x)) (.type "BaseException")) (some true) &&
  (dB (PySem.W.typeIn K (.ref (He.ga K x))) (some (.type "type")) && (PySem.W.keepIn K (.ref (He.ga K x)) && (xfB K (He.ga K x) && ((He.Fa.noat x f).ok K &&
  (dB (PySem.W.findIn K (.ref (He.ga K x)) "__init__") (some (some (.ref (He.ma K (He.ga K x) "__init__")))) && dB (PySem.W.typeIn K (.ref (He.ma K (He.ga K x) "__init__"))) (some (.type "function")))))))))
def bfs : List BF := [.len, .abs, .int, .str, .list, .tuple, .all, .any, .sum, .range, .sorted, .max, .min]
/-- what the run tells of the written part -/
def Md.chk (K : PySem.W.Frag) : Bool :=
  (md.fns.all fun p => dB p.1 "" || (He.Fa.glo p.1).ok K) && (((List.range md.cls.length).all fun c => clsB K ((md.cls.map (·.1)).getD c "") ((md.flds.getD c []).map fun f => md.fnm.getD f "")) &&
  (((List.range md.cls.length).all fun c => (List.range md.cls.length).all fun c' => dB (PySem.W.kitOne K (.ref (He.ga K ((md.cls.map (·.1)).getD c ""))) (.ref (He.ga K ((md.cls.map (·.1)).getD c' "")))) (some (decide (c' = c))) && PySem.W.notFirst K (He.ga K ((md.cls.map (·.1)).getD c "")) (.ref (He.ga K ((md.cls.map (·.1)).getD c' "")))) &&
  (((List.range md.cls.length).all fun c => !(md.eqf.getD c none).isSome || eqB K ((md.cls.map (·.1)).getD c "")) &&
  ((md.errs.all fun e => errB K e.x e.f) && ((md.xcs.all fun x => (He.Fa.glo x).ok K) &&
  (((List.range md.errs.length).all fun c => (List.range md.xcs.length).all fun c' => dB (PySem.W.exmOne K (.ref (He.ga K (md.xcs.getD c ""))) (.ref (He.ga K (md.xcs.getD c' "")))) (some (md.g.isa c c'))) &&
  ((bfs.all fun b => (He.Fa.free b.name).ok K) && ((He.Fa.free "isinstance").ok K && ((He.Fa.free "bool").ok K && ((frees.all fun x => (He.Fa.free x).ok K) && md.gls.all fun p => p.2.okB K p.1))))))))))
def ErrI.okB (e : ErrI) : Bool := C8.scC [e.s, e.v] [e.s, e.v] (defScope e.st) && ((dbgB e.s && (dbgB e.v && (visB (defScope e.st) e.s && visB (defScope e.st) e.v))) && (match defBody e.st with
  | [.Assign [.Attribute (.Name s _) f _] (.Name v _) _] => dB s e.s && (dB f e.f && dB v e.v)
  | _ => false))
def lnkF (d? : Option DefI) (a : Str × Option Str) (np : Nat) : Bool := match d? with
  | some d => decide (d.at_ = a) && decide (d.ps.length = np)
  | none => false
def Md.lnk : Bool :=
  (List.range md.fns.length).all (fun f => match md.fns[f]? with
    | some (x, np) => lnkF md.defs[f]? (x, none) np
    | none => false) &&
  ((List.range md.cls.length).all (fun c => match md.cls[c]? with
    | some (x, np) => lnkF md.defs[md.g.ini c]? (x, some "__init__") (np + 1) && (!md.g.eqk c || lnkF md.defs[md.g.eqf c]? (x, some "__eq__") 2)
    | none => false))
/-- what is to be seen of the description alone -/
def Md.shape : Bool :=
  (List.range md.errs.length).all (fun c => dB ((md.errs.map (·.x)).getD c ("" : Str)) (md.xcs.getD c "")) && (decide (md.errs.length ≤ md.xcs.length) &&
  (List.range md.cls.length).all (fun c => decide (((md.flds.getD c []).map fun f => md.fnm.getD f ("" : Str)).Nodup) && decide ((md.flds.getD c []).length ≤ 900)))
end Fx
end
section
set_option linter.all false
set_option Elab.async false
set_option maxRecDepth 100000
set_option maxHeartbeats 4000000
/-! Each def keeps the promise of its level. -/
namespace Fx
open PySem PySem.Spec L2
variable {md : Md}
theorem dB_ok {α : Type} [DecidableEq α] {a b : α} (h : dB a b = true) : a = b := of_decide_eq_true h
/-- the facts -/
structure Fs (md : Md) (K : PySem.W.Frag) (mg : Str → Option Value) : Prop where
  X : ∃ h : Heap, K.In h ∧ h.Ns mainGlobals mg
  chk : md.chk K = true
  shape : md.shape = true
  lnk : md.lnk = true
  nb : ∀ (f : Nat) (x : Str) (np : Nat), md.fns[f]? = some (x, np) → x = "" → False
  defs : ∀ (f : Nat) (d : DefI), md.defs[f]? = some d → d.okB md = true ∧ ∃ fd, FunD K d.name d.qual (defArgs d.st) (defBody d.st) (defScope d.st) [] [] (He.fAd K d.at_) fd ∧ Binds K fd d.ps []
  errs : ∀ (c : Nat) (e : ErrI), md.errs[c]? = some e → e.okB = true ∧ ∃ fd, FunD K "__init__" e.qual (defArgs e.st) (defBody e.st) (defScope e.st) [] [] (He.fAd K (e.x, some "__init__")) fd ∧ Binds K fd [e.s, e.v] []
theorem all_range {n : Nat} {p : Nat → Bool} (h : (List.range n).all p = true) {i : Nat} (hi : i < n) : p i = true := List.all_eq_true.mp h i (List.mem_range.mpr hi)
theorem all_get {α : Type} {l : List α} {p : α → Bool} (h : l.all p = true) {i : Nat} {a : α} (e : l[i]? = some a) : p a = true := List.all_eq_true.mp h a (List.mem_of_getElem? e)
section
variable {P : Program} {w : World} {K : PySem.W.Frag} {mg : Str → Option Value} {base : Heap}
/-- an error's __init__ -/
theorem err_fn {CX : CXT} {e : ErrI} {fa : Addr} {fd : FuncData} (ok : e.okB = true) (F : FunD K "__init__" e.qual (defArgs e.st) (defBody e.st) (defScope e.st) [] [] fa fd) : FnOk P w K mg base CX 1 fa fd [e.s, e.v] (spI K e.f) := by
  unfold ErrI.okB at ok
  simp only [Bool.and_eq_true] at ok
  obtain ⟨h1, ⟨h2, h3, h4, h5⟩, h6⟩ := ok
  have S := C8.fnScope_by h1
  refine F.ok (k := 0) S (fun vs H Q E h => ?_) fun cdv A outer s H vs Q E hr h => ?_
  · obtain ⟨a, C, y, rfl, _⟩ := h; rfl
  · split at h6
    · rename_i s' ps f pf v pv p hb
      simp only [Bool.and_eq_true] at h6
      obtain ⟨e1, e2, e3⟩ := h6
      have e1 := dB_ok e1
      have e2 := dB_ok e2
      have e3 := dB_ok e3
      subst e1 e2 e3
      rw [hb]
      obtain ⟨d1, d2⟩ := dbg_of h2
      obtain ⟨d3, d4⟩ := dbg_of h3
      refine ⟨_, pss_one (ps_ost (pe_var (i := 0) rfl (vis_of h4) d1 d2) (pe_var (i := 1) rfl (vis_of h5) d3 d4) (swaps_plain rfl)), ?_⟩
      obtain ⟨a, C, y, rfl, oc, no, ha, k⟩ := h
      exact ⟨y, rfl, .ref a, rfl, a, C, rfl, oc, no, .inl ⟨ha, fun dx n1 n2 => k dx n1 n2⟩⟩
    · cases h6
/-! ### a body's end, from what its caller wants -/
theorem outsA_len {wr : List Nat} {ρ : Env} : ∀ {n i : Nat}, (outsA wr ρ i n).length = n
  | 0, _ => rfl
  | n + 1, i => congrArg Nat.succ outsA_len
theorem lives_sl {T : Nm} : ∀ (outs : Env) (vs : List V) (ρ : Env) (σ : St) (L : Lv), Sl ρ σ L → (∀ (i : Nat) (r : R) (v : V), outs[i]? = some (some r) → vs[i]? = some v → ρ[i]? = some (some r) ∧ σ[i]? = some (some v)) → ∃ K, L.Perm (K ++ lives outs vs)
  | [], vs, _, _, L, _, _ => ⟨L, by unfold lives; simp⟩
  | some r :: outs, [], _, _, L, _, _ => ⟨L, by unfold lives; simp⟩
  | none :: outs, [], _, _, L, _, _ => ⟨L, by unfold lives; simp⟩
  | some r :: outs, v :: vs, ρ, σ, L, sl, h => by
    obtain ⟨e1, e2⟩ := h 0 r v rfl rfl
    cases sl with
    | nil => simp at e1
    | non sl => simp at e1
    | @som ρ' σ' L' r' v' sl =>
      simp at e1 e2
      subst e1 e2
      obtain ⟨K, p⟩ := lives_sl (T := T) outs vs ρ' σ' L' sl fun i r v a b => by
        have := h (i + 1) r v (by simpa using a) (by simpa using b)
        simpa using this
      exact ⟨K, (List.Perm.cons _ p).trans List.perm_middle.symm⟩
  | none :: outs, v :: vs, ρ, σ, L, sl, h => by
    cases sl with
    | nil =>
      have hn : ∀ (os : Env) (vs : List V), (∀ (i : Nat) (r : R) (v : V), os[i]? = some (some r) → vs[i]? = some v → False) → lives os vs = [] := by
        intro os
        induction os with
        | nil => intro vs _; rfl
        | cons o os ih =>
          intro vs h
          cases vs with
          | nil => cases o <;> rfl
          | cons v vs =>
            cases o with
            | some r => exact (h 0 r v rfl rfl).elim
            | none => exact ih vs fun i r v a b => h (i + 1) r v (by simpa using a) (by simpa using b)
      refine ⟨[], ?_⟩
      have e : lives (none :: outs) (v :: vs) = [] := hn _ _ fun i r v a b => by
        have := (h i r v a b).1
        simp at this
      rw [e]; exact .refl _
    | @non ρ' σ' L' x sl =>
      obtain ⟨K, p⟩ := lives_sl (T := T) outs vs ρ' σ' L sl fun i r v a b => by
        have := h (i + 1) r v (by simpa using a) (by simpa using b)
        simpa using this
      exact ⟨K, p⟩
    | @som ρ' σ' L' r' v' sl =>
      obtain ⟨K, p⟩ := lives_sl (T := T) outs vs ρ' σ' L' sl fun i r v a b => by
        have := h (i + 1) r v (by simpa using a) (by simpa using b)
        simpa using this
      exact ⟨(r', v') :: K, List.Perm.cons _ p⟩
theorem outsA_get {wr : List Nat} {ρ : Env} : ∀ {n i j : Nat} {r : R}, (outsA wr ρ i n)[j]? = some (some r) → (i + j) ∉ wr ∧ ρ.at (i + j) = some r
  | 0, _, j, _, h => by simp [outsA] at h
  | n + 1, i, 0, r, h => by
    simp only [outsA, List.getElem?_cons_zero, Option.some.injEq] at h
    split at h
    · cases h
    · rename_i hn
      exact ⟨hn, h⟩
  | n + 1, i, j + 1, r, h => by
    have h : (outsA wr ρ (i + 1) n)[j]? = some (some r) := by simpa [outsA] using h
    have q := outsA_get h
    have e : i + 1 + j = i + (j + 1) := by omega
    rw [e] at q
    exact q
theorem back_cf {T : Nm} {F H : Hp} {M : Lv} {ρ : Env} {σ : St} {wr : List Nat} {N : List Str} {vs : List V} (cf : Cf T F H M ρ σ) (ag : Ag wr (start N vs) σ) : Reps T F H (lives (outsA wr ρ 0 vs.length) vs ++ M) := by
  obtain ⟨L, sl, rp⟩ := cf
  obtain ⟨K, p⟩ := lives_sl (T := T) (outsA wr ρ 0 vs.length) vs ρ σ L sl fun i r v a b => by
    obtain ⟨h1, h2⟩ := outsA_get a
    rw [Nat.zero_add] at h1 h2
    refine ⟨at_get h2, ?_⟩
    rw [ag.2 i h1]
    unfold L2.start
    rw [List.getElem?_append_left (by rw [List.length_map]; exact (List.getElem?_eq_some_iff.mp b).1), List.getElem?_map, b]
    rfl
  have q : Reps T F H (K ++ (lives (outsA wr ρ 0 vs.length) vs ++ M)) := rp.perm ((List.Perm.append_left M p).trans (by
    refine List.perm_append_comm.trans ?_
    rw [List.append_assoc]))
  exact q.drop
theorem start_cf {T : Nm} {F H : Hp} {L : Lv} {rs : List R} {vs : List V} {N : List Str} (hl : rs.length = vs.length) (rp : Reps T F H (rs.zip vs ++ L)) : Cf T F H L (rs.map some ++ List.replicate (N.length - rs.length) none) (start N vs) := by
  have key : ∀ (rs : List R) (vs : List V) (n : Nat), rs.length = vs.length → Sl (rs.map some ++ List.replicate n none) (vs.map some ++ List.replicate n none) (rs.zip vs) := by
    intro rs
    induction rs with
    | nil =>
      intro vs n h
      cases vs with
      | nil =>
        induction n with
        | zero => exact .nil
        | succ n ih => exact .non ih
      | cons _ _ => simp at h
    | cons r rs ih =>
      intro vs n h
      cases vs with
      | nil => simp at h
      | cons v vs => exact .som (ih vs n (by simpa using h))
  exact ⟨rs.zip vs, by unfold L2.start; rw [← hl]; exact key rs vs _ hl, rp.perm List.perm_append_comm⟩
/-- the promise from the body's reading -/
theorem body_sp {T : Nm} {g : G} {Φ : Fn} {d : DefI} {f : Nat} {F H : Hp} {L : Lv} {rs : List R} {vs : List V} {Q : VK} {E : XK} (hl : rs.length = vs.length) (hp : vs.length = d.ps.length) (rp : Reps T F H (rs.zip vs ++ L))
    (h : match d.fin (evSs g Φ d.body (d.env rs)) with
      | .ok r outs => ∀ v F' H', Reps T F' H' ((r, v) :: (lives outs vs ++ L)) → Q v H'
      | .exc c x outs => ∀ v dd F' H', Reps T F' H' (lives outs vs ++ L) → H' dd = some (.xd [(T.xfld c, v)]) → Rp T F' v x → E (.ref (T.xcls c)) (some dd) H'
      | .stuck => False) :
    tS T (fun cls dd _ H => E cls dd H) d.wr (evSs g Φ d.body) { nx := fun _ H' => Q .non H', rt := Q } (start d.N vs) H := by
  refine ⟨F, L, d.env rs, start_cf hl rp, ?_⟩
  cases z : evSs g Φ d.body (d.env rs) with
  | nx ρ =>
    rw [z] at h
    intro σ F' H' ag cf
    refine h .non F' H' ?_
    rw [← hp]
    exact (back_cf cf ag).val .non
  | rt r ρ =>
    rw [z] at h
    intro σ v F' H' ag cf
    refine h v F' H' ?_
    rw [← hp]
    exact (back_cf cf ag).perm List.perm_middle
  | bk ρ => rw [z] at h; exact h.elim
  | ct ρ => rw [z] at h; exact h.elim
  | exc c x ρ =>
    rw [z] at h
    intro σ ag v dd F' H' cf hd rv
    refine h v dd F' H' ?_ hd rv
    rw [← hp]
    exact back_cf cf ag
  | stuck => rw [z] at h; exact h.elim
end
end Fx
end
section
set_option linter.all false
set_option Elab.async false
set_option maxRecDepth 100000
set_option maxHeartbeats 4000000
/-! The levels. -/
namespace Fx
open PySem PySem.Spec L2
variable {md : Md}
section
variable {P : Program} {w : World} {K : PySem.W.Frag} {mg : Str → Option Value} {base : Heap}
theorem getD_get {α : Type} {l : List α} {i : Nat} {a d : α} (e : l[i]? = some a) : l.getD i d = a := by
  rw [List.getD_eq_getElem?_getD, e]; rfl
theorem lnkF_ok {d? : Option DefI} {a : Str × Option Str} {np : Nat} (h : lnkF d? a np = true) : ∃ d, d? = some d ∧ d.at_ = a ∧ d.ps.length = np := by
  cases d? with
  | none => cases h
  | some d =>
    have h : (decide (d.at_ = a) && decide (d.ps.length = np)) = true := h
    simp only [Bool.and_eq_true, decide_eq_true_eq] at h
    exact ⟨d, rfl, h.1, h.2⟩
theorem bfs_all (b : BF) : b ∈ bfs := by cases b <;> decide
/-- the classes, from what the run tells -/
theorem cls_kn (fs : Fs md K mg) (c : Nat) (hc : c < md.cls.length) : ClsKn (md.T K) K c ∧ Mk K ((md.T K).cls c) (He.ma K ((md.T K).cls c) "__init__") ∧ mg ((md.cls.map (·.1)).getD c ("" : Str)) = some (.ref ((md.T K).cls c)) := by
  have hk := fs.chk
  unfold Md.chk at hk
  simp only [Bool.and_eq_true] at hk
  have h := all_range hk.2.1 hc
  unfold clsB at h
  simp only [Bool.and_eq_true] at h
  obtain ⟨a1, a2, a3, a4, a5, a6, a7, a8, a9, a10⟩ := h
  obtain ⟨hp, X, G⟩ := fs.X
  have sh := fs.shape
  unfold Md.shape at sh
  simp only [Bool.and_eq_true] at sh
  have hs := all_range sh.2.2 hc
  simp only [Bool.and_eq_true, decide_eq_true_eq] at hs
  refine ⟨⟨He.cls_ok a2, fun f hf => ?_, hs.1, hs.2, dB_ok a5, dB_ok a6, dB_ok a7, dB_ok a8, fun n hn => dB_ok (List.all_eq_true.mp a9 n hn), fun n hn => dB_ok (List.all_eq_true.mp a10 n hn)⟩, He.mkr_ok a4, He.glo_ok X G a1⟩
  exact He.noat_ok (List.all_eq_true.mp a3 _ (List.mem_map.mpr ⟨f, hf, rfl⟩))
theorem err_kn (fs : Fs md K mg) (c : Nat) (hc : c < md.errs.length) : ∃ e, md.errs[c]? = some e ∧ e.x = md.xcs.getD c ("" : Str) ∧ (md.T K).xfld c = e.f ∧ XCls (md.T K) K c ∧ PySem.W.findIn K (.ref ((md.T K).xcls c)) "__init__" = some (some (.ref (He.fAd K (e.x, some "__init__")))) ∧ PySem.W.typeIn K (.ref (He.fAd K (e.x, some "__init__"))) = some (.type "function") := by
  have ee : md.errs[c]? = some md.errs[c] := List.getElem?_eq_getElem hc
  have hk := fs.chk
  unfold Md.chk at hk
  simp only [Bool.and_eq_true] at hk
  have h := all_get hk.2.2.2.2.1 ee
  unfold errB at h
  simp only [Bool.and_eq_true] at h
  obtain ⟨a1, a2, a3, a4, a5, a6, a7, a8, a9⟩ := h
  have sh := fs.shape
  unfold Md.shape at sh
  simp only [Bool.and_eq_true] at sh
  have hx : md.errs[c].x = md.xcs.getD c ("" : Str) := by
    have q := dB_ok (all_range sh.1 hc)
    rw [getD_get (by rw [List.getElem?_map, ee]; rfl)] at q
    exact q
  have hxa : (md.T K).xcls c = He.ga K md.errs[c].x := by rw [hx]; rfl
  have hf : (md.T K).xfld c = md.errs[c].f := by
    show (md.errs.map (·.f)).getD c ("" : Str) = _
    exact getD_get (by rw [List.getElem?_map, ee]; rfl)
  rw [← hxa] at a1 a2 a3 a4 a5 a6 a8
  have a7 : PySem.W.findIn K (.ref ((md.T K).xcls c)) ((md.T K).xfld c) = some none := by
    rw [hxa, hf]; exact He.noat_ok a7
  have a9' : PySem.W.typeIn K (.ref (He.fAd K (md.errs[c].x, some "__init__"))) = some (.type "function") := dB_ok a9
  refine ⟨_, ee, hx, hf, ⟨⟨oexB_ok a1, dB_ok a2, dB_ok a3, dB_ok a4, a5⟩, xfB_ok a6, a7⟩, ?_, a9'⟩
  have q := dB_ok a8
  rw [q, hxa]
  rfl
theorem funD_at {x qual : Str} {params : Arguments} {body : List Stmt} {scope : Scope} {dvs : List V} {kws : List (Str × V)} {f : Addr} {fd : FuncData} (F : FunD K x qual params body scope dvs kws f fd) : ∃ oc od osl, K.lookup f = some ⟨oc, od, .func fd, osl⟩ := by
  obtain ⟨oc, od, dV, kV, doc, pm, an, cdv, ct, osl, rfl, lk, _⟩ := F.ex
  exact ⟨oc, od, osl, lk⟩
/-- the level n of a def -/
def Lev (md : Md) (P : Program) (w : World) (K : PySem.W.Frag) (mg : Str → Option Value) (base : Heap) (n : Nat) : Prop :=
  ∀ f d, md.defs[f]? = some d → ∃ fd, FnOk P w K mg base (L2.CX P w) (2 * n + 2) (He.fAd K d.at_) fd d.ps (spF (md.T K) (md.Φ n) f d.ps.length) ∧ Binds K fd d.ps [] ∧ PySem.W.keepIn K (.ref (He.fAd K d.at_)) = true ∧ ∃ oc od osl, K.lookup (He.fAd K d.at_) = some ⟨oc, od, .func fd, osl⟩
/-- what a body of level n + 1 knows -/
theorem strs_vals : ∀ {zs : List Str} {vs : List Value}, strsB zs vs = true → Vals (zs.map V.str) vs
  | [], [], _ => .nil
  | [], v :: vs, h => by simp [strsB] at h
  | z :: zs, [], h => by simp [strsB] at h
  | z :: zs, v :: vs, h => by
    cases v with
    | str y t =>
      simp only [strsB, Bool.and_eq_true, decide_eq_true_eq] at h
      obtain ⟨rfl, h⟩ := h
      exact .cons ⟨t, rfl⟩ (strs_vals h)
    | _ => simp [strsB] at h
theorem strs_rp {T : Nm} {F : Hp} : ∀ {zs : List Str}, RpL T F (zs.map V.str) (zs.map D.str)
  | [] => .nil
  | z :: zs => .cons (.str z) strs_rp
theorem kn_of {X : Cx} {n : Nat} (fs : Fs md K mg) (lv : Lev md P w K mg base n) (h1 : X.prog = P) (h2 : X.w = w) (h3 : X.K = K) (h4 : X.mg = mg) (h5 : X.base = base) (hr : Room (2 * n + 3) X.A) (hN : X.N.Nodup) (hc : X.calm = true) : Kn (md.T K) md.g (md.Φ n) (md.tb X.N) X := by
  subst h1 h2 h3 h4 h5
  obtain ⟨hp, XK, G⟩ := fs.X
  have hk := fs.chk
  unfold Md.chk at hk
  simp only [Bool.and_eq_true] at hk
  obtain ⟨k1, k2, k3, k4, k5, k6, k7, k8, k9, k10, k12, k11⟩ := hk
  have lk := fs.lnk
  unfold Md.lnk at lk
  simp only [Bool.and_eq_true] at lk
  have clk : ∀ c x np, md.cls[c]? = some (x, np) → (∃ d, md.defs[md.g.ini c]? = some d ∧ d.at_ = (x, some ("__init__" : Str)) ∧ d.ps.length = np + 1) ∧ (md.g.eqk c = true → ∃ d, md.defs[md.g.eqf c]? = some d ∧ d.at_ = (x, some ("__eq__" : Str)) ∧ d.ps.length = 2) := by
    intro c x np e
    have q := all_range lk.2 (List.getElem?_eq_some_iff.mp e).1
    rw [e] at q
    simp only [Bool.and_eq_true, Bool.or_eq_true, Bool.not_eq_true'] at q
    refine ⟨lnkF_ok q.1, fun h => ?_⟩
    rcases q.2 with q | q
    · rw [h] at q; cases q
    · exact lnkF_ok q
  have cx : ∀ (c : Nat) (x : Str) (np : Nat), md.cls[c]? = some (x, np) → (md.cls.map (·.1)).getD c ("" : Str) = x := fun c x np e => getD_get (by rw [List.getElem?_map, e]; rfl)
  refine ⟨rfl, rfl, hN, hc, hr.units, rfl, ⟨fun c h => (cls_kn fs c h).1, fun c c' h h' => ?_⟩, fun f n e => getD_get e, fun f x np e => ?_, fun c x np e => ?_, fun i x e => ?_, fun b => ?_, He.free_ok XK G k9, He.free_ok XK G k10, fun x hx => He.free_ok XK G (List.all_eq_true.mp k12 x hx), fun c h e => ?_, rfl, rfl, fun c x e => ?_, fun c h => ?_, fun c c' h h' => ?_⟩
  · have q := all_range (all_range k3 h) h'
    simp only [Bool.and_eq_true] at q
    exact dB_ok q.1
  · have e : md.fns[f]? = some (x, np) := e
    have q := all_range lk.1 (List.getElem?_eq_some_iff.mp e).1
    rw [e] at q
    obtain ⟨d, d1, d2, d3⟩ := lnkF_ok q
    obtain ⟨fd, F, b, kp, _⟩ := lv f d d1
    have ex : x ≠ "" ∨ x = "" := (Classical.em (x = "")).symm
    have g1 := all_get k1 e
    simp only [Bool.or_eq_true] at g1
    rw [d2] at F kp
    refine ⟨He.fAd X.K (x, none), ?_, ⟨kp, _, fd, d.ps, by rw [← d3]; exact F, hr.mono (by omega), b⟩⟩
    rcases g1 with g1 | g1
    · have := (fs.defs f d d1).1
      exact He.glo_ok XK G (by
        have g2 := dB_ok g1
        exact (fs.nb f x np e g2).elim)
    · exact He.glo_ok XK G g1
  · have e : md.cls[c]? = some (x, np) := e
    have hcl := (List.getElem?_eq_some_iff.mp e).1
    obtain ⟨q1, q2, q3⟩ := cls_kn fs c hcl
    obtain ⟨d, d1, d2, d3⟩ := (clk c x np e).1
    obtain ⟨fd, F, b, kp, _⟩ := lv _ d d1
    rw [cx c x np e] at q3
    refine ⟨q3, hcl, ⟨2 * n + 2, He.ma X.K ((md.T X.K).cls c) "__init__", fd, d.ps, q2, ?_, hr, b⟩⟩
    rw [d2, d3] at F
    have ea : He.ma X.K ((md.T X.K).cls c) "__init__" = He.fAd X.K (x, some "__init__") := by
      show He.ma X.K (He.ga X.K ((md.cls.map (·.1)).getD c ("" : Str))) "__init__" = _
      rw [cx c x np e]; rfl
    rw [ea]; exact F
  · have e : (md.gls.map (·.1))[i]? = some x := e
    rw [List.getElem?_map] at e
    obtain ⟨p, e1, rfl⟩ := Option.map_eq_some_iff.mp e
    have q := all_get k11 e1
    have eg : md.g.gl i = some p.2.d := by show (md.gls[i]?).map _ = _; rw [e1]; rfl
    obtain ⟨px, pv⟩ := p
    cases pv with
    | int z =>
      obtain ⟨t, ht⟩ := He.int_ok XK G q
      exact ⟨.int z t, .int z, .int z, ht, ⟨t, rfl⟩, fun F => .int _, eg⟩
    | txs zs =>
      have q : tupB X.K px zs = true := q
      unfold tupB at q
      simp only [Bool.and_eq_true] at q
      obtain ⟨q1, q2⟩ := q
      split at q2
      · rename_i dd its n sl ho
        simp only [Bool.and_eq_true, decide_eq_true_eq] at q2
        refine ⟨.ref (He.ga X.K px), .ref (He.ga X.K px), .tup (zs.map .str), He.glo_ok XK G q1, rfl, fun F => .tup (xs := zs.map V.str) (.inr ⟨_, its, n, ho, rfl, rfl, Nat.le_trans q2.2 (by decide), strs_vals q2.1⟩) strs_rp, eg⟩
      · cases q2
  · exact He.free_ok XK G (List.all_eq_true.mp k8 b (bfs_all b))
  · have ee : md.cls[c]? = some md.cls[c] := List.getElem?_eq_getElem h
    obtain ⟨d, d1, d2, d3⟩ := (clk c _ _ ee).2 e
    obtain ⟨fd, F, b, kp, _⟩ := lv _ d d1
    have q := all_range k4 h
    simp only [Bool.or_eq_true, Bool.not_eq_true'] at q
    have q : eqB X.K ((md.cls.map (·.1)).getD c ("" : Str)) = true := by
      rcases q with q | q
      · have e' : (md.eqf.getD c none).isSome = true := e
        rw [e'] at q; cases q
      · exact q
    rw [cx c _ _ ee] at q
    unfold eqB at q
    simp only [Bool.and_eq_true] at q
    obtain ⟨a1, a2, a3⟩ := q
    have ea : (md.T X.K).cls c = He.ga X.K md.cls[c].1 := by
      show He.ga X.K ((md.cls.map (·.1)).getD c ("" : Str)) = _
      rw [cx c _ _ ee]
      rfl
    rw [d2, d3] at F
    refine ⟨⟨2 * n + 2, He.fAd X.K (md.cls[c].1, some "__eq__"), fd, d.ps, ?_, ?_, F, hr.mono (by omega), b⟩, fun m hm => ?_, fun c' h' => ?_⟩
    · rw [ea]; exact dB_ok a1
    · exact a2
    · rw [ea]; exact List.all_eq_true.mp a3 m hm
    · have q := all_range (all_range k3 h) h'
      simp only [Bool.and_eq_true] at q
      exact q.2
  · have e : md.xcs[c]? = some x := e
    have q := He.glo_ok XK G (all_get k6 e)
    show X.mg x = some (.ref (He.ga X.K (md.xcs.getD c ("" : Str))))
    rw [getD_get e]; exact q
  · obtain ⟨e, e1, e2, e3, e4, e5, e6⟩ := err_kn fs c h
    obtain ⟨o1, fd, F, b⟩ := fs.errs c e e1
    refine ⟨e4, 1, He.fAd X.K (e.x, some "__init__"), fd, _, e5, e6, ?_, hr.mono (by omega), b⟩
    rw [e3]
    exact err_fn o1 F
  · exact dB_ok (all_range (all_range k7 h) h')
theorem Lev.zero (fs : Fs md K mg) : Lev md P w K mg base 0 := by
  intro f d e
  obtain ⟨_, fd, F, b⟩ := fs.defs f d e
  refine ⟨fd, ⟨fun vs H Q E h => h.1, fun A outer s H args us vs Q E hr e0 hb hv h => ?_⟩, b, F.kp, funD_at F⟩
  obtain ⟨_, F, L, rs, _, _, h⟩ := h
  exact h.elim
theorem Lev.succ {n : Nat} (fs : Fs md K mg) (lv : Lev md P w K mg base n) : Lev md P w K mg base (n + 1) := by
  intro f d e
  obtain ⟨ok, fd, F, b⟩ := fs.defs f d e
  unfold DefI.okB at ok
  simp only [Bool.and_eq_true] at ok
  obtain ⟨ok1, ok2⟩ := ok
  have S := C8.fnScope_by ok1
  refine ⟨fd, F.ok (k := 2 * n + 3) S (fun vs H Q E h => h.1) fun cdv A outer s H vs Q E hr h => ?_, b, F.kp, funD_at F⟩
  obtain ⟨hp, F0, L, rs, hl, rp, h⟩ := h
  have kn : Kn (md.T K) md.g (md.Φ n) (md.tb d.N) (cxOf (L2.CX P w) P w K mg base d.N d.qual (defScope d.st) (He.fAd K d.at_) cdv A outer s H E) :=
    kn_of (X := cxOf (L2.CX P w) P w K mg base d.N d.qual (defScope d.st) (He.fAd K d.at_) cdv A outer s H E) fs lv rfl rfl rfl rfl rfl hr S.nd rfl
  have tk : Takes (cxOf (L2.CX P w) P w K mg base d.N d.qual (defScope d.st) (He.fAd K d.at_) cdv A outer s H E) (fun cls dd _ H => E cls dd H) := takes_of rfl rfl rfl rfl
  have po : PassesOwn (model P w) (cxOf (L2.CX P w) P w K mg base d.N d.qual (defScope d.st) (He.fAd K d.at_) cdv A outer s H E).A (cxOf (L2.CX P w) P w K mg base d.N d.qual (defScope d.st) (He.fAd K d.at_) cdv A outer s H E).env (cxOf (L2.CX P w) P w K mg base d.N d.qual (defScope d.st) (He.fAd K d.at_) cdv A outer s H E).xe :=
    passes_of (X := cxOf (L2.CX P w) P w K mg base d.N d.qual (defScope d.st) (He.fAd K d.at_) cdv A outer s H E) rfl
  refine ⟨_, snSs d.body (defScope d.st) (defBody d.st) _ _ kn ⟨rfl, rfl, rfl, fun _ => rfl, S.kind⟩ tk po ok2, ?_⟩
  refine body_sp (f := f) hl hp rp ?_
  have e2 : md.Φ (n + 1) f rs = d.fin (evSs md.g (md.Φ n) d.body (d.env rs)) := by
    show (match md.defs[f]? with
      | some d => if rs.length = d.ps.length then d.fin (evSs md.g (md.Φ n) d.body (d.env rs)) else .stuck
      | none => .stuck) = _
    rw [e]
    show (if rs.length = d.ps.length then d.fin (evSs md.g (md.Φ n) d.body (d.env rs)) else .stuck) = _
    rw [if_pos (hl.trans hp)]
  rw [e2] at h
  exact h
theorem lev (fs : Fs md K mg) : ∀ n, Lev md P w K mg base n
  | 0 => .zero fs
  | n + 1 => .succ fs (lev fs n)
end
end Fx
end
section
set_option linter.all false
set_option Elab.async false
set_option maxRecDepth 100000
set_option maxHeartbeats 4000000
/-! The head's Hook, and the law's end. -/
namespace Fx
open PySem PySem.Spec L2
variable (md : Md)
def DefI.dd (d : DefI) : He.DefD := ⟨d.at_, d.name, d.qual, defArgs d.st, defBody d.st, defScope d.st, [], []⟩
def ErrI.dd (e : ErrI) : He.DefD := ⟨(e.x, some "__init__"), "__init__", e.qual, defArgs e.st, defBody e.st, defScope e.st, [], []⟩
def Md.fn : List He.DefD := md.defs.map DefI.dd ++ md.errs.map ErrI.dd
def Md.obsK (K : PySem.W.Frag) : He.AlD := (md.chk K && md.fn.all fun d => d.ok K, md.fn.map fun d => He.fnW K d.at_)
def Md.valK : He.AlD := (true, md.fn.map He.DefD.val)
def Md.obsG (n : Nat) (g : Addr → Option Obj) : He.AlD := md.obsK (He.frG g (He.asD g n))
def Md.hook (n : Nat) : PySem.W.Hook where
  α := He.AlD
  obs := fun s => md.obsG n s.heap.get?
  val := fun _ => md.valK
  says := fun _ h => ∃ K : PySem.W.Frag, K.In h ∧ md.obsK K = md.valK
  of := fun _ _ e => ⟨_, He.frG_in, e⟩
  keeps := fun _ _ _ ⟨K, hK, c⟩ k => ⟨K, PySem.W.Frag.In.keeps hK k, c⟩
theorem Md.obsG_eq {n : Nat} {g : Addr → Option Obj} {s : Shared} (h : ∀ a, g a = s.heap.get? a) : md.obsG n g = (md.hook n).obs s := by
  have e : g = s.heap.get? := funext h
  rw [e] <;> rfl
/-- how a def binds: every parameter is written -/
def BA (name qual : Str) (params : Arguments) (body : List Stmt) (scope : Scope) (ps : List Str) : Prop :=
  ∀ (kV doc pm : Value) (an : Option Addr) (cdv ct : Value) (us : List Value), us.length = ps.length → bindArgs (PySem.W.fnOf name qual params body scope .none kV doc pm an cdv ct) ⟨us, []⟩ = pure (ps.zip us)
def DefI.ba (d : DefI) : Prop := BA d.name d.qual (defArgs d.st) (defBody d.st) (defScope d.st) d.ps
def ErrI.ba (e : ErrI) : Prop := BA "__init__" e.qual (defArgs e.st) (defBody e.st) (defScope e.st) [e.s, e.v]
/-- for each of a list -/
def Each {α : Type} (p : α → Prop) : List α → Prop
  | [] => True
  | a :: l => p a ∧ Each p l
theorem Each.get {α : Type} {p : α → Prop} : ∀ {l : List α} {i : Nat} {a : α}, Each p l → l[i]? = some a → p a
  | [], _, _, _, e => by simp at e
  | b :: l, 0, a, h, e => by simp at e; subst e; exact h.1
  | b :: l, i + 1, a, h, e => Each.get h.2 (by simpa using e)
variable {md}
theorem obs_get {K : PySem.W.Frag} (h : md.obsK K = md.valK) : md.chk K = true ∧ ∀ (i : Nat) (d : He.DefD), md.fn[i]? = some d → ∃ fd, FunD K d.name d.qual d.params d.body d.scope (d.dvs K) (d.kws K) (He.fAd K d.at_) fd := by
  have c1 : (md.chk K && md.fn.all fun d => d.ok K) = true := congrArg (fun z : He.AlD => z.1) h
  have c2 : md.fn.map (fun d => He.fnW K d.at_) = md.fn.map He.DefD.val := congrArg (fun z : He.AlD => z.2) h
  simp only [Bool.and_eq_true] at c1
  refine ⟨c1.1, fun i d e => ?_⟩
  have e2 : (md.fn.map fun d => He.fnW K d.at_)[i]? = (md.fn.map He.DefD.val)[i]? := by rw [c2]
  rw [List.getElem?_map, List.getElem?_map, e] at e2
  exact He.DefD.funD (Option.some.inj e2) (List.all_eq_true.mp c1.2 d (List.mem_of_getElem? e))
theorem fs_of {K : PySem.W.Frag} {mg : Str → Option Value} {h : Heap} (X : K.In h) (G : h.Ns mainGlobals mg) (o : md.obsK K = md.valK) (sh : md.shape = true) (lk : md.lnk = true) (nb : ∀ (f : Nat) (x : Str) (np : Nat), md.fns[f]? = some (x, np) → x = "" → False)
    (ok : Each (fun d : DefI => d.okB md = true) md.defs) (eok : Each (fun e : ErrI => e.okB = true) md.errs) (b : Each DefI.ba md.defs) (eb : Each ErrI.ba md.errs) : Fs md K mg := by
  obtain ⟨c, g⟩ := obs_get o
  refine ⟨⟨h, X, G⟩, c, sh, lk, nb, fun f d e => ⟨ok.get e, ?_⟩, fun i e ee => ⟨eok.get ee, ?_⟩⟩
  · obtain ⟨fd, F⟩ := g f d.dd (by unfold Md.fn; rw [List.getElem?_append_left (by rw [List.length_map]; exact (List.getElem?_eq_some_iff.mp e).1), List.getElem?_map, e]; rfl)
    exact ⟨fd, F, FunD.bindsN F (b.get e)⟩
  · obtain ⟨fd, F⟩ := g (md.defs.length + i) e.dd (by
      unfold Md.fn
      rw [List.getElem?_append_right (by rw [List.length_map]; omega), List.length_map, Nat.add_sub_cancel_left, List.getElem?_map, ee]; rfl)
    exact ⟨fd, F, FunD.bindsN F (eb.get ee)⟩
/-- what a def lets out, at whatever world -/
def CXu (P : Program) : CXT := fun outer H s E u s' => ∃ w, L2.CX P w outer H s E u s'
theorem CXu_no {P : Program} : ∀ (H : Hp) (s : Shared) (e : Value) (s' : Shared), CXu P [] H s (fun _ _ _ => False) e s' → False := fun H s e s' h => by
  obtain ⟨_, _, _, _, _, _, _, _, _, _, _, _, _, q⟩ := h
  exact q
theorem fn_cxu {P : Program} {w : World} {K : PySem.W.Frag} {mg : Str → Option Value} {base : Heap} {k : Nat} {f : Addr} {fd : FuncData} {ps : List Str} {sp : Sp} (F : FnOk P w K mg base (L2.CX P w) k f fd ps sp) : FnOk P w K mg base (CXu P) k f fd ps sp :=
  ⟨F.len, fun A outer s H args us vs Q E hr e0 hb hv hs => codeAny_mono (F.run A outer s H args us vs Q E hr e0 hb hv hs) fun r s' q => by
    cases r with
    | error e => exact ⟨w, q⟩
    | ok fl => cases fl <;> exact q⟩
theorem law_F {P : Program} {n f np : Nat} {d : DefI} {x : Str} {w : World} {mg : Str → Option Value} {fa : Addr} {h : Heap} (Y : ∃ K : PySem.W.Frag, K.In h ∧ md.obsK K = md.valK) (G : h.Ns mainGlobals mg) (hm : mg ("law" : Str) = some (.ref fa))
    (hd : md.defs[f]? = some d) (hat : d.at_ = (("law" : Str), none)) (hps : d.ps = [x]) (hf : md.fns[f]? = some (("law" : Str), np))
    (sh : md.shape = true) (lk : md.lnk = true) (nb : ∀ (f : Nat) (x : Str) (np : Nat), md.fns[f]? = some (x, np) → x = "" → False)
    (ok : Each (fun d : DefI => d.okB md = true) md.defs) (eok : Each (fun e : ErrI => e.okB = true) md.errs) (b : Each DefI.ba md.defs) (eb : Each ErrI.ba md.errs)
    (tr : ∀ ns : List Int, ns.length ≤ 63 → ∃ outs, md.Φ n f [.val (.lst (ns.map .int))] = .ok (.val (.bl true)) outs) :
    ∃ (K : PySem.W.Frag) (fd : FuncData) (sp : Sp), K.In h ∧ (∀ (s : Shared) (u : Value), BindsTo s fd ⟨[u], []⟩ [(x, u)]) ∧
        (∀ (H : Hp) (a : Addr) (ns : List Int), ns.length ≤ 63 → Only H → SqL K H a (ns.map V.int) → sp [.ref a] H (fun v _ => v = .bl true) fun _ _ _ => False) ∧
        ∀ base : Heap, K.In base → base.Ns mainGlobals mg → FnOk P w K mg base (CXu P) (2 * n + 2) fa fd [x] sp := by
  obtain ⟨K, X, o⟩ := Y
  have fs := fs_of X G o sh lk nb ok eok b eb
  obtain ⟨c, g⟩ := obs_get o
  obtain ⟨fd0, F0⟩ := g f d.dd (by unfold Md.fn; rw [List.getElem?_append_left (by rw [List.length_map]; exact (List.getElem?_eq_some_iff.mp hd).1), List.getElem?_map, hd]; rfl)
  have hfa : fa = He.fAd K d.at_ := by
    have hk := fs.chk
    unfold Md.chk at hk
    simp only [Bool.and_eq_true] at hk
    have q := all_get hk.1 hf
    simp only [Bool.or_eq_true] at q
    have q : (He.Fa.glo ("law" : Str)).ok K = true := by
      rcases q with q | q
      · exact absurd (dB_ok q) (by decide)
      · exact q
    have q2 := He.glo_ok X G q
    rw [hm] at q2
    rw [hat]
    cases q2
    rfl
  refine ⟨K, fd0, spF (md.T K) (md.Φ n) f d.ps.length, X, fun s u => ?_, fun H a ns hl hO hS => ?_, fun base Xb Gb => ?_⟩
  · have q := FunD.bindsA F0 (b.get hd) s [u] (by rw [hps]; rfl)
    rw [hps] at q
    exact q
  · rw [hps]
    refine ⟨rfl, H, [], [.val (.lst (ns.map .int))], rfl, ?_, ?_⟩
    · have rl : ∀ ns : List Int, RpL (md.T K) H (ns.map V.int) (ns.map D.int) := by
        intro ns
        induction ns with
        | nil => exact .nil
        | cons i ns ih => exact .cons (.int i) ih
      exact ⟨Same.refl _, [] ++ [], .cons (.val (.lst hS (rl ns))) .nil, .nil, fun a ha => by cases ha⟩
    · obtain ⟨outs, e⟩ := tr ns hl
      rw [e]
      intro v F' H' rp
      have r := rp.rp
      cases r
      rfl
  · obtain ⟨fd, F, b', kp, oc, od, osl, l1⟩ := lev (P := P) (w := w) (base := base) fs n f d hd
    have efd : fd = fd0 := by
      obtain ⟨oc', od', osl', l2⟩ := funD_at F0
      have l2 : K.lookup (He.fAd K d.at_) = some ⟨oc', od', .func fd0, osl'⟩ := l2
      rw [l1] at l2
      have := Option.some.inj l2
      injection this with _ _ h3
      injection h3
    rw [hfa, ← hps, ← efd]
    exact fn_cxu F
end Fx
end
section
set_option linter.all false
set_option Elab.async false
set_option maxRecDepth 100000
set_option maxHeartbeats 4000000
namespace KL
open Fx
open PySem PySem.Spec L2
def top (i : Nat) : Stmt := PySem.Challenge.pw_chambercuts_k21_whole_filing.main.body.getD i (.Pass ⟨0, 0, 0, 0⟩)
def meth (i j : Nat) : Stmt := match top i with
  | .ClassDef _ _ _ b _ _ _ _ _ _ _ => b.getD j (.Pass ⟨0, 0, 0, 0⟩)
  | _ => .Pass ⟨0, 0, 0, 0⟩
def F_is_integer : Nat := 0
def F_is_within : Nat := 1
def F_is_tuple : Nat := 2
def F_are_within : Nat := 3
def F_is_ascending : Nat := 4
def F_is_rising : Nat := 5
def F_is_depths : Nat := 6
def F_is_bunch : Nat := 7
def F_are_rows : Nat := 8
def F_is_key : Nat := 9
def F_is_lock : Nat := 10
def F_is_out : Nat := 11
def F_outs : Nat := 12
def F_is_cut : Nat := 13
def F_are_cuts : Nat := 14
def F_least_stacks : Nat := 15
def F_falls : Nat := 16
def F_do_fit : Nat := 17
def F_first_filed : Nat := 18
def F_filed : Nat := 19
def F_threats : Nat := 20
def F__law_box : Nat := 21
def F__law_take : Nat := 22
def F__law_pick : Nat := 23
def F__law_shuffled : Nat := 24
def F__law_drawn_table : Nat := 25
def F__law_outs : Nat := 26
def F__law_kept : Nat := 27
def F__law_partings : Nat := 28
def F__law_best_kept : Nat := 29
def F__law_fewest : Nat := 30
def F__law_cuts_of : Nat := 31
def F__law_stacks : Nat := 32
def F__law_fits : Nat := 33
def F__law_system : Nat := 34
def F__law_made : Nat := 35
def F__law_filed : Nat := 36
def F__law_told : Nat := 37
def F_law : Nat := 38
def F_Table_init : Nat := 39
def F_Table_eq : Nat := 40
def F_System_init : Nat := 41
def F_System_eq : Nat := 42
def C_Table : Nat := 0
def C_System : Nat := 1
def X_InvalidNumber : Nat := 0
def X_InvalidLocks : Nat := 1
def X_InvalidCuts : Nat := 2
def X_InvalidTable : Nat := 3
def X_InvalidPair : Nat := 4
def X_Undefined : Nat := 5
def X_LockError : Nat := 6
def A_many : Nat := 0
def A_rows : Nat := 1
def A_table : Nat := 2
def A_depths : Nat := 3
def A_cuts : Nat := 4
def G_MOST_KEYS : Nat := 0
def G_MOST_LOCKS : Nat := 1
def G_MOST_CHAMBERS : Nat := 2
def b_is_integer : ISs := (.cons (.ret (.bop true (.cons (.isi (.var 0) .int) (.cons (.nt (.isi (.var 0) .bool)) .nil)))) .nil)
def b_is_within : ISs := (.cons (.ret (.bop true (.cons (.call F_is_integer (.cons (.var 0) .nil)) (.cons (.cmp2 .LtE .LtE (.var 1) (.var 0) (.var 2)) .nil)))) .nil)
def b_is_tuple : ISs := (.cons (.ret (.bop true (.cons (.isi (.var 0) .tuple) (.cons (.cmp2 .LtE .LtE (.var 1) (.cb .len (.cons (.var 0) .nil)) (.var 2)) .nil)))) .nil)
def b_are_within : ISs := (.cons (.ret (.bop true (.cons (.call F_is_tuple (.cons (.var 0) (.cons (.var 1) (.cons (.var 1) .nil)))) (.cons (.cb .all (.cons (.comp (.call F_is_within (.cons (.var 4) (.cons (.var 2) (.cons (.var 3) .nil)))) [4] (.one 4) (.seq (.var 0)) .non) .nil)) .nil)))) .nil)
def b_is_ascending : ISs := (.cons (.ret (.cb .all (.cons (.comp (.cmp .Lt (.idx (.var 0) (.bin .Sub (.var 1) (.cst (.int 1)))) (.idx (.var 0) (.var 1))) [1] (.one 1) (.seq (.cb .range (.cons (.cst (.int 1)) (.cons (.cb .len (.cons (.var 0) .nil)) .nil)))) .non) .nil))) .nil)
def b_is_rising : ISs := (.cons (.ret (.bop true (.cons (.isi (.var 0) .tuple) (.cons (.cb .all (.cons (.comp (.call F_is_within (.cons (.var 2) (.cons (.cst (.int 0)) (.cons (.var 1) .nil)))) [2] (.one 2) (.seq (.var 0)) .non) .nil)) (.cons (.call F_is_ascending (.cons (.var 0) .nil)) .nil))))) .nil)
def b_is_depths : ISs := (.cons (.ret (.call F_is_within (.cons (.var 0) (.cons (.cst (.int 2)) (.cons (.cst (.int 4)) .nil))))) .nil)
def b_is_bunch : ISs := (.cons (.ret (.bop true (.cons (.call F_is_rising (.cons (.var 0) (.cons (.bin .Sub (.var 1) (.cst (.int 1))) .nil))) (.cons (.cmp .Gt (.cb .len (.cons (.var 0) .nil)) (.cst (.int 0))) .nil)))) .nil)
def b_are_rows : ISs := (.cons (.ret (.bop true (.cons (.call F_is_tuple (.cons (.var 0) (.cons (.cst (.int 1)) (.cons (.glob G_MOST_LOCKS) .nil)))) (.cons (.cb .all (.cons (.comp (.call F_is_bunch (.cons (.var 2) (.cons (.var 1) .nil))) [2] (.one 2) (.seq (.var 0)) .non) .nil)) .nil)))) .nil)
def b_is_key : ISs := (.cons (.ret (.call F_is_within (.cons (.var 1) (.cons (.cst (.int 0)) (.cons (.bin .Sub (.attr (.var 0) A_many) (.cst (.int 1))) .nil))))) .nil)
def b_is_lock : ISs := (.cons (.ret (.call F_is_within (.cons (.var 1) (.cons (.cst (.int 0)) (.cons (.bin .Sub (.cb .len (.cons (.attr (.var 0) A_rows) .nil)) (.cst (.int 1))) .nil))))) .nil)
def b_is_out : ISs := (.cons (.ret (.bop true (.cons (.call F_is_key (.cons (.var 0) (.cons (.var 1) .nil))) (.cons (.call F_is_lock (.cons (.var 0) (.cons (.var 2) .nil))) (.cons (.cmp .NotIn (.var 1) (.idx (.attr (.var 0) A_rows) (.var 2))) .nil))))) .nil)
def b_outs : ISs := (.cons (.asg 1 (.cb .range (.cons (.cb .len (.cons (.attr (.var 0) A_rows) .nil)) .nil))) (.cons (.ret (.cb .tuple (.cons (.comp2 (.tup (.cons (.var 2) (.cons (.var 3) .nil))) [2, 3] [3] (.one 2) (.seq (.cb .range (.cons (.attr (.var 0) A_many) .nil))) (.one 3) (.seq (.var 1)) (.som (.cmp .NotIn (.var 2) (.idx (.attr (.var 0) A_rows) (.var 3))))) .nil))) .nil))
def b_is_cut : ISs := (.cons (.ret (.call F_are_within (.cons (.var 0) (.cons (.var 1) (.cons (.cst (.int 0)) (.cons (.bin .Sub (.var 2) (.cst (.int 1))) .nil)))))) .nil)
def b_are_cuts : ISs := (.cons (.ifs (.bop false (.cons (.nt (.call F_is_tuple (.cons (.var 2) (.cons (.attr (.var 0) A_many) (.cons (.attr (.var 0) A_many) .nil))))) (.cons (.nt (.call F_is_tuple (.cons (.idx (.var 2) (.cst (.int 0))) (.cons (.cst (.int 1)) (.cons (.glob G_MOST_CHAMBERS) .nil))))) .nil))) (.cons (.ret (.cst (.bl false))) .nil) .nil) (.cons (.ret (.cb .all (.cons (.comp (.call F_is_cut (.cons (.var 3) (.cons (.cb .len (.cons (.idx (.var 2) (.cst (.int 0))) .nil)) (.cons (.var 1) .nil)))) [3] (.one 3) (.seq (.var 2)) .non) .nil))) .nil))
def b_least_stacks : ISs := (.cons (.ret (.cb .tuple (.cons (.comp (.cb .tuple (.cons (.srts (.comp (.idx (.idx (.var 0) (.var 3)) (.var 2)) [3] (.one 3) (.seq (.var 1)) .non)) .nil)) [2] (.one 2) (.seq (.cb .range (.cons (.cb .len (.cons (.idx (.var 0) (.cst (.int 0))) .nil)) .nil))) .non) .nil))) .nil)
def b_falls : ISs := (.cons (.ret (.cb .all (.cons (.comp (.cmp .In (.var 2) (.var 3)) [2, 3] (.many [2, 3]) (.zip (.var 0) (.var 1)) .non) .nil))) .nil)
def b_do_fit : ISs := (.cons (.asg 2 (.comp (.call F_least_stacks (.cons (.var 1) (.cons (.var 3) .nil))) [3] (.one 3) (.seq (.attr (.var 0) A_rows)) .non)) (.cons (.ret (.nt (.cb .any (.cons (.comp (.call F_falls (.cons (.idx (.var 1) (.var 4)) (.cons (.idx (.var 2) (.var 5)) .nil))) [4, 5] (.many [4, 5]) (.seq (.call F_outs (.cons (.var 0) .nil))) .non) .nil)))) .nil))
def b_first_filed_L0 : ISs := (.cons (.asg 6 (.comp (.var 7) [7] (.one 7) (.seq (.var 5)) (.som (.cmp .GtE (.var 7) (.var 4))))) (.cons (.ifs (.cmp .Eq (.cb .len (.cons (.var 6) .nil)) (.cst (.int 0))) (.cons (.ret (.cst .non)) .nil) .nil) (.cons (.app 3 (.idx (.var 6) (.cst (.int 0)))) .nil)))
def b_first_filed : ISs := (.cons (.asg 3 (.lst .nil)) (.cons (.for_ (.many [4, 5]) (.zip (.idx (.attr (.var 0) A_cuts) (.var 1)) (.call F_least_stacks (.cons (.attr (.var 0) A_cuts) (.cons (.idx (.attr (.attr (.var 0) A_table) A_rows) (.var 2)) .nil)))) b_first_filed_L0) (.cons (.ret (.cb .tuple (.cons (.var 3) .nil))) .nil)))
def b_filed : ISs := (.cons (.ifs (.nt (.call F_is_out (.cons (.attr (.var 0) A_table) (.cons (.var 1) (.cons (.var 2) .nil))))) (.cons (.rai X_InvalidPair (.tup (.cons (.var 1) (.cons (.var 2) .nil)))) .nil) .nil) (.cons (.asg 3 (.call F_first_filed (.cons (.var 0) (.cons (.var 1) (.cons (.var 2) .nil))))) (.cons (.ifs (.cmp .Is (.var 3) (.cst .non)) (.cons (.rai X_Undefined (.cst (.str "filed"))) .nil) .nil) (.cons (.retm 3) .nil))))
def b_threats : ISs := (.cons (.ret (.cb .tuple (.cons (.comp (.tup (.cons (.var 1) (.cons (.var 2) .nil))) [1, 2] (.many [1, 2]) (.seq (.call F_outs (.cons (.attr (.var 0) A_table) .nil))) (.som (.cmp .IsNot (.call F_first_filed (.cons (.var 0) (.cons (.var 1) (.cons (.var 2) .nil)))) (.cst .non)))) .nil))) .nil)
def b__law_box : ISs := (.cons (.asg 2 (.bin .Add (.bin .Mult (.cst (.int 7919)) (.var 1)) (.cst (.int 101)))) (.cons (.ifs (.cmp .Lt (.var 1) (.cb .len (.cons (.var 0) .nil))) (.cons (.asg 2 (.cb .abs (.cons (.idx (.var 0) (.var 1)) .nil))) .nil) (.cons (.ifs (.cmp .Gt (.cb .len (.cons (.var 0) .nil)) (.cst (.int 0))) (.cons (.asg 2 (.bin .Add (.bin .Mult (.bin .Mod (.cb .int (.cons (.cb .abs (.cons (.idx (.var 0) (.bin .Mod (.cb .int (.cons (.var 1) .nil)) (.cb .len (.cons (.var 0) .nil)))) .nil)) .nil)) (.cst (.int 1000000007))) (.cst (.int 31))) (.bin .Mult (.cst (.int 7919)) (.var 1)))) .nil) .nil) .nil)) (.cons (.asg 3 (.idx (.lst (.cons (.cst (.int 0)) (.cons (.var 2) .nil))) (.cb .int (.cons (.cmp .GtE (.var 2) (.bin .Pow (.cst (.int 10)) (.cst (.int 18)))) .nil)))) (.cons (.ret (.lst (.cons (.var 3) (.cons (.bin .Add (.bin .Mod (.cb .int (.cons (.bin .Add (.bin .Mult (.bin .Mod (.cb .int (.cons (.var 2) .nil)) (.cst (.int 1000000007))) (.cst (.int 48271))) (.bin .Mult (.cst (.int 613)) (.var 1))) .nil)) (.cst (.int 2147483647))) (.cst (.int 1))) .nil)))) .nil))))
def b__law_take : ISs := (.cons (.ifs (.cmp .Gt (.idx (.var 0) (.cst (.int 0))) (.cst (.int 0))) (.cons (.asg 2 (.bin .Mod (.cb .int (.cons (.idx (.var 0) (.cst (.int 0))) .nil)) (.var 1))) (.cons (.seti 0 (.cst (.int 0)) (.bin .FloorDiv (.idx (.var 0) (.cst (.int 0))) (.var 1))) (.cons (.retm 2) .nil))) .nil) (.cons (.seti 0 (.cst (.int 1)) (.bin .Mod (.cb .int (.cons (.bin .Add (.bin .Mult (.idx (.var 0) (.cst (.int 1))) (.cst (.int 39373))) (.cst (.int 69621))) .nil)) (.cst (.int 2147483647)))) (.cons (.ret (.bin .Mod (.cb .int (.cons (.bin .FloorDiv (.idx (.var 0) (.cst (.int 1))) (.cst (.int 8191))) .nil)) (.var 1))) .nil)))
def b__law_pick : ISs := (.cons (.ret (.idx (.var 1) (.call F__law_take (.cons (.var 0) (.cons (.cb .len (.cons (.var 1) .nil)) .nil))))) .nil)
def b__law_shuffled_L0 : ISs := (.cons (.insr 2 (.call F__law_take (.cons (.var 0) (.cons (.bin .Add (.cb .len (.cons (.var 2) .nil)) (.cst (.int 1))) .nil))) (.var 3)) .nil)
def b__law_shuffled : ISs := (.cons (.asg 2 (.lst .nil)) (.cons (.for_ (.one 3) (.seq (.var 1)) b__law_shuffled_L0) (.cons (.retm 2) .nil)))
def b__law_drawn_table_L0 : ISs := (.cons (.asg 6 (.comp (.var 8) [8] (.one 8) (.seq (.cb .range (.cons (.var 2) .nil))) (.som (.cmp .Eq (.call F__law_take (.cons (.var 1) (.cons (.cst (.int 2)) .nil))) (.cst (.int 0)))))) (.cons (.asg 7 (.call F__law_take (.cons (.var 1) (.cons (.var 2) .nil)))) (.cons (.ifs (.cmp .Eq (.var 3) (.cst (.int 0))) (.cons (.asg 6 (.lst (.cons (.cst (.int 0)) (.cons (.var 7) .nil)))) .nil) (.cons (.ifs (.cmp .Eq (.var 3) (.cst (.int 1))) (.cons (.asg 6 (.lst (.cons (.var 7) .nil))) .nil) (.cons (.ifs (.cmp .Eq (.var 3) (.cst (.int 2))) (.cons (.asg 6 (.comp (.var 8) [8] (.one 8) (.seq (.cb .range (.cons (.var 2) .nil))) (.som (.cmp .NotEq (.var 8) (.var 7))))) .nil) .nil) .nil)) .nil)) (.cons (.ifs (.cmp .Eq (.var 6) (.lst .nil)) (.cons (.asg 6 (.lst (.cons (.var 7) .nil))) .nil) .nil) (.cons (.app 4 (.cb .tuple (.cons (.comp (.var 8) [8] (.one 8) (.seq (.cb .range (.cons (.var 2) .nil))) (.som (.cmp .In (.var 8) (.var 6)))) .nil))) .nil)))))
def b__law_drawn_table : ISs := (.cons (.asg 1 (.call F__law_box (.cons (.var 0) (.cons (.cst (.int 0)) .nil)))) (.cons (.asg 2 (.call F__law_pick (.cons (.var 1) (.cons (.lst (.cons (.cst (.int 5)) (.cons (.cst (.int 5)) (.cons (.cst (.int 5)) (.cons (.cst (.int 4)) (.cons (.cst (.int 4)) (.cons (.cst (.int 3)) (.cons (.cst (.int 2)) (.cons (.cst (.int 1)) .nil))))))))) .nil)))) (.cons (.asg 3 (.call F__law_take (.cons (.var 1) (.cons (.cst (.int 5)) .nil)))) (.cons (.asg 4 (.lst .nil)) (.cons (.for_ (.one 5) (.seq (.cb .range (.cons (.call F__law_pick (.cons (.var 1) (.cons (.lst (.cons (.cst (.int 5)) (.cons (.cst (.int 5)) (.cons (.cst (.int 4)) (.cons (.cst (.int 3)) (.cons (.cst (.int 2)) (.cons (.cst (.int 1)) .nil))))))) .nil))) .nil))) b__law_drawn_table_L0) (.cons (.ret (.tup (.cons (.var 2) (.cons (.cb .tuple (.cons (.var 4) .nil)) .nil)))) .nil))))))
def b__law_outs_L0 : ISs := (.cons (.asg 3 (.bin .Add (.var 3) (.comp (.tup (.cons (.var 4) (.cons (.var 5) .nil))) [5] (.one 5) (.seq (.cb .range (.cons (.cb .len (.cons (.var 2) .nil)) .nil))) (.som (.cmp .NotIn (.var 4) (.idx (.var 2) (.var 5))))))) .nil)
def b__law_outs : ISs := (.cons (.unp [1, 2] (.var 0)) (.cons (.asg 3 (.lst .nil)) (.cons (.for_ (.one 4) (.seq (.cb .range (.cons (.var 1) .nil))) b__law_outs_L0) (.cons (.retm 3) .nil))))
def b__law_kept_L0 : ISs := (.cons (.asg 6 (.comp (.idx (.var 1) (.var 7)) [7] (.one 7) (.seq (.idx (.idx (.var 0) (.cst (.int 1))) (.var 5))) .non)) (.cons (.ifs (.bop false (.cons (.bop true (.cons (.cmp .Eq (.var 2) (.cst (.str "plain"))) (.cons (.cmp .NotIn (.idx (.var 1) (.var 4)) (.var 6)) .nil))) (.cons (.bop true (.cons (.cmp .Eq (.var 2) (.cst (.str "deep"))) (.cons (.cmp .Gt (.idx (.var 1) (.var 4)) (.cb .max (.cons (.var 6) .nil))) .nil))) .nil))) (.cons (.app 3 (.tup (.cons (.var 4) (.cons (.var 5) .nil)))) .nil) .nil) .nil))
def b__law_kept : ISs := (.cons (.asg 3 (.lst .nil)) (.cons (.for_ (.many [4, 5]) (.seq (.call F__law_outs (.cons (.var 0) .nil))) b__law_kept_L0) (.cons (.retm 3) .nil)))
def b__law_partings_L1 : ISs := (.cons (.asg 7 (.ife (.cmp .Eq (.var 2) (.cst (.str "deep"))) (.var 1) (.cb .min (.cons (.var 1) (.cons (.bin .Add (.cb .max (.cons (.bin .Add (.tup (.cons (.neg (.cst (.int 1))) .nil)) (.var 6)) .nil)) (.cst (.int 2))) .nil))))) (.cons (.asg 5 (.bin .Add (.var 5) (.comp (.bin .Add (.var 6) (.tup (.cons (.var 8) .nil))) [8] (.one 8) (.seq (.cb .range (.cons (.var 7) .nil))) .non))) .nil))
def b__law_partings_L0 : ISs := (.cons (.asg 5 (.lst .nil)) (.cons (.for_ (.one 6) (.seq (.var 3)) b__law_partings_L1) (.cons (.asg 3 (.var 5)) .nil)))
def b__law_partings : ISs := (.cons (.asg 3 (.lst (.cons (.tup .nil) .nil))) (.cons (.for_ (.one 4) (.seq (.cb .range (.cons (.var 0) .nil))) b__law_partings_L0) (.cons (.retm 3) .nil)))
def b__law_best_kept_L0 : ISs := (.cons (.ifs (.cmp .Eq (.comp (.var 8) [8] (.one 8) (.seq (.var 5)) (.som (.bop true (.cons (.cmp .Gt (.cb .len (.cons (.var 8) .nil)) (.cb .len (.cons (.var 7) .nil))) (.cons (.cmp .Eq (.comp (.var 9) [9] (.one 9) (.seq (.var 7)) (.som (.cmp .NotIn (.var 9) (.var 8)))) (.lst .nil)) .nil))))) (.lst .nil)) (.cons (.app 6 (.tup (.cons (.var 7) (.cons (.idx (.var 3) (.var 7)) .nil)))) .nil) .nil) .nil)
def b__law_best_kept_L1 : ISs := (.cons (.asg 7 (.cb .tuple (.cons (.call F__law_kept (.cons (.var 0) (.cons (.var 4) (.cons (.var 2) .nil)))) .nil))) (.cons (.ifs (.cmp .NotIn (.var 7) (.var 3)) (.cons (.setd 3 (.var 7) (.var 4)) .nil) .nil) .nil))
def b__law_best_kept : ISs := (.cons (.asg 3 .dnew) (.cons (.for_ (.one 4) (.seq (.call F__law_partings (.cons (.idx (.var 0) (.cst (.int 0))) (.cons (.var 1) (.cons (.var 2) .nil))))) b__law_best_kept_L1) (.cons (.asg 5 (.cb .sorted (.cons (.var 3) .nil))) (.cons (.asg 6 (.lst .nil)) (.cons (.for_ (.one 7) (.seq (.var 5)) b__law_best_kept_L0) (.cons (.retm 6) .nil))))))
def b__law_fewest_L2 : ISs := (.cons (.asg 12 (.cb .tuple (.cons (.comp (.var 13) [13] (.one 13) (.seq (.var 8)) (.som (.cmp .NotIn (.var 13) (.var 10)))) .nil))) (.cons (.ifs (.cmp .Eq (.var 12) (.tup .nil)) (.cons (.ret (.tup (.cons (.var 5) (.cons (.bin .Add (.var 9) (.tup (.cons (.var 11) .nil))) .nil)))) .nil) .nil) (.cons (.ifs (.cmp .NotIn (.var 12) (.var 6)) (.cons (.setd 6 (.var 12) (.cst (.bl true))) (.cons (.app 7 (.tup (.cons (.var 12) (.cons (.bin .Add (.var 9) (.tup (.cons (.var 11) .nil))) .nil)))) .nil)) .nil) .nil)))
def b__law_fewest_L1 : ISs := (.cons (.for_ (.many [10, 11]) (.seq (.var 3)) b__law_fewest_L2) .nil)
def b__law_fewest_L0 : ISs := (.cons (.asg 6 .dnew) (.cons (.asg 7 (.lst .nil)) (.cons (.for_ (.many [8, 9]) (.seq (.var 4)) b__law_fewest_L1) (.cons (.asg 4 (.var 7)) .nil))))
def b__law_fewest : ISs := (.cons (.asg 3 (.call F__law_best_kept (.cons (.var 0) (.cons (.var 1) (.cons (.var 2) .nil))))) (.cons (.asg 4 (.lst (.cons (.tup (.cons (.cb .tuple (.cons (.call F__law_outs (.cons (.var 0) .nil)) .nil)) (.cons (.tup .nil) .nil))) .nil))) (.cons (.for_ (.one 5) (.seq (.cb .range (.cons (.cst (.int 1)) (.cons (.cst (.int 7)) .nil)))) b__law_fewest_L0) (.cons (.ret (.tup (.cons (.cst (.int 9)) (.cons (.tup .nil) .nil)))) .nil))))
def b__law_cuts_of : ISs := (.cons (.ret (.cb .tuple (.cons (.comp (.cb .tuple (.cons (.comp (.idx (.var 2) (.var 1)) [2] (.one 2) (.seq (.var 0)) .non) .nil)) [1] (.one 1) (.seq (.cb .range (.cons (.cb .len (.cons (.idx (.var 0) (.cst (.int 0))) .nil)) .nil))) .non) .nil))) .nil)
def b__law_stacks : ISs := (.cons (.ret (.cb .tuple (.cons (.comp (.cb .tuple (.cons (.cb .sorted (.cons (.comp (.var 3) [3] (.one 3) (.seq (.cb .range (.cons (.cst (.int 4)) .nil))) (.som (.cmp .In (.var 3) (.comp (.idx (.idx (.var 0) (.var 4)) (.var 2)) [4] (.one 4) (.seq (.var 1)) .non)))) .nil)) .nil)) [2] (.one 2) (.seq (.cb .range (.cons (.cb .len (.cons (.idx (.var 0) (.cst (.int 0))) .nil)) .nil))) .non) .nil))) .nil)
def b__law_fits_L0 : ISs := (.cons (.asg 3 (.bin .Add (.var 3) (.call F__law_kept (.cons (.var 0) (.cons (.cb .tuple (.cons (.comp (.idx (.var 6) (.var 4)) [6] (.one 6) (.seq (.var 1)) .non) .nil)) (.cons (.var 2) .nil)))))) .nil)
def b__law_fits : ISs := (.cons (.asg 3 (.lst .nil)) (.cons (.for_ (.one 4) (.seq (.cb .range (.cons (.cb .len (.cons (.idx (.var 1) (.cst (.int 0))) .nil)) .nil))) b__law_fits_L0) (.cons (.ret (.cmp .Eq (.comp (.var 5) [5] (.one 5) (.seq (.call F__law_outs (.cons (.var 0) .nil))) (.som (.cmp .NotIn (.var 5) (.var 3)))) (.lst .nil))) .nil)))
def b__law_system_L0 : ISs := (.cons (.asg 7 (.cb .tuple (.cons (.comp (.cb .tuple (.cons (.comp (.call F__law_take (.cons (.var 2) (.cons (.var 3) .nil))) [9] (.one 9) (.seq (.cb .range (.cons (.var 4) .nil))) .non) .nil)) [8] (.one 8) (.seq (.cb .range (.cons (.idx (.var 1) (.cst (.int 0))) .nil))) .non) .nil))) (.cons (.ifs (.call F__law_fits (.cons (.var 1) (.cons (.var 7) (.cons (.cst (.str "plain")) .nil)))) (.cons (.ret (.tup (.cons (.var 1) (.cons (.var 3) (.cons (.var 7) .nil))))) .nil) .nil) .nil))
def b__law_system : ISs := (.cons (.asg 1 (.call F__law_drawn_table (.cons (.var 0) .nil))) (.cons (.asg 2 (.call F__law_box (.cons (.var 0) (.cons (.cst (.int 1)) .nil)))) (.cons (.asg 3 (.call F__law_pick (.cons (.var 2) (.cons (.lst (.cons (.cst (.int 2)) (.cons (.cst (.int 3)) (.cons (.cst (.int 3)) (.cons (.cst (.int 4)) .nil))))) .nil)))) (.cons (.asg 4 (.call F__law_pick (.cons (.var 2) (.cons (.lst (.cons (.cst (.int 5)) (.cons (.cst (.int 4)) (.cons (.cst (.int 3)) (.cons (.cst (.int 3)) (.cons (.cst (.int 2)) (.cons (.cst (.int 2)) (.cons (.cst (.int 1)) .nil)))))))) .nil)))) (.cons (.for_ (.one 5) (.seq (.cb .range (.cons (.cst (.int 12)) .nil))) b__law_system_L0) (.cons (.unp [4, 6] (.call F__law_fewest (.cons (.var 1) (.cons (.var 3) (.cons (.cst (.str "plain")) .nil))))) (.cons (.asg 6 (.cb .tuple (.cons (.call F__law_shuffled (.cons (.var 2) (.cons (.cb .list (.cons (.var 6) .nil)) .nil))) .nil))) (.cons (.ret (.tup (.cons (.var 1) (.cons (.var 3) (.cons (.call F__law_cuts_of (.cons (.var 6) .nil)) .nil))))) .nil))))))))
def b__law_made : ISs := (.cons (.unp [1, 2, 3] (.var 0)) (.cons (.ret (.make C_System (.cons (.make C_Table (.cons (.idx (.var 1) (.cst (.int 0))) (.cons (.idx (.var 1) (.cst (.int 1))) .nil))) (.cons (.var 2) (.cons (.var 3) .nil))))) .nil))
def b__law_filed_L0 : ISs := (.cons (.asg 8 (.comp (.var 9) [9] (.one 9) (.seq (.idx (.call F__law_stacks (.cons (.var 5) (.cons (.idx (.idx (.var 3) (.cst (.int 1))) (.var 2)) .nil))) (.var 7))) (.som (.cmp .GtE (.var 9) (.idx (.idx (.var 5) (.var 1)) (.var 7)))))) (.cons (.ifs (.cmp .Eq (.var 8) (.lst .nil)) (.cons (.ret (.cst .non)) .nil) .nil) (.cons (.asg 6 (.bin .Add (.var 6) (.tup (.cons (.idx (.var 8) (.cst (.int 0))) .nil)))) .nil)))
def b__law_filed : ISs := (.cons (.unp [3, 4, 5] (.var 0)) (.cons (.asg 6 (.tup .nil)) (.cons (.for_ (.one 7) (.seq (.cb .range (.cons (.cb .len (.cons (.idx (.var 5) (.cst (.int 0))) .nil)) .nil))) b__law_filed_L0) (.cons (.retm 6) .nil))))
def b__law_told_T0 : ISs := (.cons (.ret (.tup (.cons (.cst (.str "told")) (.cons (.call F_filed (.cons (.var 0) (.cons (.var 1) (.cons (.var 2) .nil)))) .nil)))) .nil)
def b__law_told : ISs := (.cons (.try_ b__law_told_T0 [⟨X_InvalidPair, some 3, (.pair (.str "pair") "value")⟩, ⟨X_Undefined, some 3, (.pair (.str "undefined") "what")⟩]) .nil)
def b_law_L0 : ISs := (.cons (.ifs (.bop false (.cons (.cmp .NotEq (.call F__law_told (.cons (.var 6) (.cons (.var 10) (.cons (.cst (.int 0)) .nil)))) (.tup (.cons (.cst (.str "pair")) (.cons (.tup (.cons (.var 10) (.cons (.cst (.int 0)) .nil))) .nil)))) (.cons (.cmp .NotEq (.call F__law_told (.cons (.var 6) (.cons (.cst (.int 0)) (.cons (.var 10) .nil)))) (.tup (.cons (.cst (.str "pair")) (.cons (.tup (.cons (.cst (.int 0)) (.cons (.var 10) .nil))) .nil)))) .nil))) (.cons (.ret (.cst (.bl false))) .nil) .nil) .nil)
def b_law_L1 : ISs := (.cons (.asg 8 (.idx (.idx (.idx (.var 3) (.cst (.int 1))) (.var 9)) (.cst (.int 0)))) (.cons (.ifs (.cmp .NotEq (.call F__law_told (.cons (.var 6) (.cons (.var 8) (.cons (.var 9) .nil)))) (.tup (.cons (.cst (.str "pair")) (.cons (.tup (.cons (.var 8) (.cons (.var 9) .nil))) .nil)))) (.cons (.ret (.cst (.bl false))) .nil) .nil) .nil))
def b_law_L2 : ISs := (.cons (.asg 13 (.call F__law_filed (.cons (.var 1) (.cons (.var 8) (.cons (.var 9) .nil))))) (.cons (.ifs (.cmp .NotEq (.call F__law_told (.cons (.var 6) (.cons (.var 8) (.cons (.var 9) .nil)))) (.ife (.cmp .Is (.var 13) (.cst .non)) (.tup (.cons (.cst (.str "undefined")) (.cons (.cst (.str "filed")) .nil))) (.tup (.cons (.cst (.str "told")) (.cons (.var 13) .nil))))) (.cons (.ret (.cst (.bl false))) .nil) .nil) (.cons (.asg 14 (.call F__law_stacks (.cons (.var 5) (.cons (.idx (.idx (.var 3) (.cst (.int 1))) (.var 9)) .nil)))) (.cons (.asg 15 (.comp (.var 16) [16] (.one 16) (.seq (.cb .range (.cons (.cb .len (.cons (.idx (.var 5) (.cst (.int 0))) .nil)) .nil))) (.som (.cmp .Gt (.idx (.idx (.var 5) (.var 8)) (.var 16)) (.cb .max (.cons (.idx (.var 14) (.var 16)) .nil)))))) (.cons (.ifs (.cmp .NotEq (.cmp .Eq (.var 15) (.lst .nil)) (.cmp .IsNot (.var 13) (.cst .non))) (.cons (.ret (.cst (.bl false))) .nil) .nil) (.cons (.ifs (.cmp .IsNot (.var 13) (.cst .non)) (.cons (.app 7 (.tup (.cons (.var 8) (.cons (.var 9) .nil)))) .nil) .nil) .nil))))))
def b_law : ISs := (.cons (.asg 1 (.call F__law_system (.cons (.var 0) .nil))) (.cons (.asg 2 (.call F__law_box (.cons (.var 0) (.cons (.cst (.int 4)) .nil)))) (.cons (.ifs (.cmp .Eq (.call F__law_take (.cons (.var 2) (.cons (.cst (.int 3)) .nil))) (.cst (.int 0))) (.cons (.unp [11, 12] (.call F__law_fewest (.cons (.idx (.var 1) (.cst (.int 0))) (.cons (.idx (.var 1) (.cst (.int 1))) (.cons (.cst (.str "deep")) .nil))))) (.cons (.asg 1 (.tup (.cons (.idx (.var 1) (.cst (.int 0))) (.cons (.idx (.var 1) (.cst (.int 1))) (.cons (.call F__law_cuts_of (.cons (.var 12) .nil)) .nil))))) (.cons (.ifs (.cmp .NotEq (.call F_threats (.cons (.call F__law_made (.cons (.var 1) .nil)) .nil)) (.tup .nil)) (.cons (.ret (.cst (.bl false))) .nil) .nil) .nil))) .nil) (.cons (.unp [3, 4, 5] (.var 1)) (.cons (.asg 6 (.call F__law_made (.cons (.var 1) .nil))) (.cons (.asg 7 (.lst .nil)) (.cons (.for_ (.many [8, 9]) (.seq (.call F__law_outs (.cons (.var 3) .nil))) b_law_L2) (.cons (.ifs (.cmp .NotEq (.call F_threats (.cons (.var 6) .nil)) (.cb .tuple (.cons (.var 7) .nil))) (.cons (.ret (.cst (.bl false))) .nil) .nil) (.cons (.for_ (.one 9) (.seq (.cb .range (.cons (.cb .len (.cons (.idx (.var 3) (.cst (.int 1))) .nil)) .nil))) b_law_L1) (.cons (.for_ (.one 10) (.seq (.lst (.cons (.neg (.cst (.int 1))) (.cons (.cst .non) (.cons (.cst (.bl true)) (.cons (.cst (.str "0")) (.cons (.tup (.cons (.cst (.int 0)) .nil)) (.cons (.cst (.int 9)) .nil)))))))) b_law_L0) (.cons (.ret (.cst (.bl true))) .nil)))))))))))
def b_Table_init : ISs := (.cons (.ifs (.nt (.call F_is_within (.cons (.var 1) (.cons (.cst (.int 1)) (.cons (.glob G_MOST_KEYS) .nil))))) (.cons (.rai X_InvalidNumber (.var 1)) .nil) .nil) (.cons (.ifs (.nt (.call F_are_rows (.cons (.var 2) (.cons (.var 1) .nil)))) (.cons (.rai X_InvalidLocks (.var 2)) .nil) .nil) (.cons (.fld 0 A_many (.var 1)) (.cons (.fld 0 A_rows (.var 2)) .nil))))
def b_Table_eq : ISs := (.cons (.ret (.bop true (.cons (.isi (.var 1) (.cls C_Table)) (.cons (.cmp .Eq (.attr (.var 0) A_many) (.attr (.var 1) A_many)) (.cons (.cmp .Eq (.attr (.var 0) A_rows) (.attr (.var 1) A_rows)) .nil))))) .nil)
def b_System_init : ISs := (.cons (.ifs (.nt (.isi (.var 1) (.cls C_Table))) (.cons (.rai X_InvalidTable (.var 1)) .nil) .nil) (.cons (.ifs (.nt (.call F_is_depths (.cons (.var 2) .nil))) (.cons (.rai X_InvalidNumber (.var 2)) .nil) .nil) (.cons (.ifs (.bop false (.cons (.nt (.call F_are_cuts (.cons (.var 1) (.cons (.var 2) (.cons (.var 3) .nil))))) (.cons (.nt (.call F_do_fit (.cons (.var 1) (.cons (.var 3) .nil)))) .nil))) (.cons (.rai X_InvalidCuts (.var 3)) .nil) .nil) (.cons (.fld 0 A_table (.var 1)) (.cons (.fld 0 A_depths (.var 2)) (.cons (.fld 0 A_cuts (.var 3)) .nil))))))
def b_System_eq : ISs := (.cons (.ifs (.bop false (.cons (.nt (.isi (.var 1) (.cls C_System))) (.cons (.nt (.eqo (.attr (.var 0) A_table) (.attr (.var 1) A_table))) .nil))) (.cons (.ret (.cst (.bl false))) .nil) .nil) (.cons (.ret (.bop true (.cons (.cmp .Eq (.attr (.var 0) A_depths) (.attr (.var 1) A_depths)) (.cons (.cmp .Eq (.attr (.var 0) A_cuts) (.attr (.var 1) A_cuts)) .nil)))) .nil))
def d_is_integer : DefI := ⟨top 9, ("is_integer", none), "is_integer", "is_integer", [("value" : Str)], [("value" : Str)], [], b_is_integer⟩
def d_is_within : DefI := ⟨top 10, ("is_within", none), "is_within", "is_within", [("value" : Str), ("low" : Str), ("high" : Str)], [("value" : Str), ("low" : Str), ("high" : Str)], [], b_is_within⟩
def d_is_tuple : DefI := ⟨top 11, ("is_tuple", none), "is_tuple", "is_tuple", [("value" : Str), ("least" : Str), ("most" : Str)], [("value" : Str), ("least" : Str), ("most" : Str)], [], b_is_tuple⟩
def d_are_within : DefI := ⟨top 12, ("are_within", none), "are_within", "are_within", [("value" : Str), ("many" : Str), ("low" : Str), ("high" : Str)], [("value" : Str), ("many" : Str), ("low" : Str), ("high" : Str), ("part" : Str)], [], b_are_within⟩
def d_is_ascending : DefI := ⟨top 13, ("is_ascending", none), "is_ascending", "is_ascending", [("value" : Str)], [("value" : Str), ("at" : Str)], [], b_is_ascending⟩
def d_is_rising : DefI := ⟨top 14, ("is_rising", none), "is_rising", "is_rising", [("value" : Str), ("high" : Str)], [("value" : Str), ("high" : Str), ("part" : Str)], [], b_is_rising⟩
def d_is_depths : DefI := ⟨top 15, ("is_depths", none), "is_depths", "is_depths", [("value" : Str)], [("value" : Str)], [], b_is_depths⟩
def d_is_bunch : DefI := ⟨top 19, ("is_bunch", none), "is_bunch", "is_bunch", [("value" : Str), ("many" : Str)], [("value" : Str), ("many" : Str)], [], b_is_bunch⟩
def d_are_rows : DefI := ⟨top 20, ("are_rows", none), "are_rows", "are_rows", [("value" : Str), ("many" : Str)], [("value" : Str), ("many" : Str), ("row" : Str)], [], b_are_rows⟩
def d_is_key : DefI := ⟨top 22, ("is_key", none), "is_key", "is_key", [("table" : Str), ("value" : Str)], [("table" : Str), ("value" : Str)], [], b_is_key⟩
def d_is_lock : DefI := ⟨top 23, ("is_lock", none), "is_lock", "is_lock", [("table" : Str), ("value" : Str)], [("table" : Str), ("value" : Str)], [], b_is_lock⟩
def d_is_out : DefI := ⟨top 24, ("is_out", none), "is_out", "is_out", [("table" : Str), ("key" : Str), ("lock" : Str)], [("table" : Str), ("key" : Str), ("lock" : Str)], [], b_is_out⟩
def d_outs : DefI := ⟨top 25, ("outs", none), "outs", "outs", [("table" : Str)], [("table" : Str), ("locks" : Str), ("key" : Str), ("lock" : Str)], [1], b_outs⟩
def d_is_cut : DefI := ⟨top 28, ("is_cut", none), "is_cut", "is_cut", [("value" : Str), ("chambers" : Str), ("depths" : Str)], [("value" : Str), ("chambers" : Str), ("depths" : Str)], [], b_is_cut⟩
def d_are_cuts : DefI := ⟨top 29, ("are_cuts", none), "are_cuts", "are_cuts", [("table" : Str), ("depths" : Str), ("value" : Str)], [("table" : Str), ("depths" : Str), ("value" : Str), ("cut" : Str)], [], b_are_cuts⟩
def d_least_stacks : DefI := ⟨top 30, ("least_stacks", none), "least_stacks", "least_stacks", [("cuts" : Str), ("keys" : Str)], [("cuts" : Str), ("keys" : Str), ("at" : Str), ("key" : Str)], [], b_least_stacks⟩
def d_falls : DefI := ⟨top 31, ("falls", none), "falls", "falls", [("cut" : Str), ("stacks" : Str)], [("cut" : Str), ("stacks" : Str), ("depth" : Str), ("stack" : Str)], [], b_falls⟩
def d_do_fit : DefI := ⟨top 32, ("do_fit", none), "do_fit", "do_fit", [("table" : Str), ("cuts" : Str)], [("table" : Str), ("cuts" : Str), ("stacks" : Str), ("row" : Str), ("key" : Str), ("lock" : Str)], [2], b_do_fit⟩
def d_first_filed : DefI := ⟨top 34, ("first_filed", none), "first_filed", "first_filed", [("system" : Str), ("key" : Str), ("lock" : Str)], [("system" : Str), ("key" : Str), ("lock" : Str), ("cut" : Str), ("own" : Str), ("stack" : Str), ("deeper" : Str), ("depth" : Str)], [3, 4, 5, 6], b_first_filed⟩
def d_filed : DefI := ⟨top 35, ("filed", none), "filed", "filed", [("system" : Str), ("key" : Str), ("lock" : Str)], [("system" : Str), ("key" : Str), ("lock" : Str), ("cut" : Str)], [3], b_filed⟩
def d_threats : DefI := ⟨top 36, ("threats", none), "threats", "threats", [("system" : Str)], [("system" : Str), ("key" : Str), ("lock" : Str)], [], b_threats⟩
def d__law_box : DefI := ⟨top 40, ("_law_box", none), "_law_box", "_law_box", [("script" : Str), ("k" : Str)], [("script" : Str), ("k" : Str), ("cell" : Str), ("great" : Str)], [2, 3], b__law_box⟩
def d__law_take : DefI := ⟨top 41, ("_law_take", none), "_law_take", "_law_take", [("box" : Str), ("many" : Str)], [("box" : Str), ("many" : Str), ("got" : Str)], [2], b__law_take⟩
def d__law_pick : DefI := ⟨top 42, ("_law_pick", none), "_law_pick", "_law_pick", [("box" : Str), ("some" : Str)], [("box" : Str), ("some" : Str)], [], b__law_pick⟩
def d__law_shuffled : DefI := ⟨top 43, ("_law_shuffled", none), "_law_shuffled", "_law_shuffled", [("box" : Str), ("some" : Str)], [("box" : Str), ("some" : Str), ("found" : Str), ("one" : Str)], [2, 3], b__law_shuffled⟩
def d__law_drawn_table : DefI := ⟨top 44, ("_law_drawn_table", none), "_law_drawn_table", "_law_drawn_table", [("script" : Str)], [("script" : Str), ("box" : Str), ("many" : Str), ("how" : Str), ("rows" : Str), ("lock" : Str), ("row" : Str), ("one" : Str), ("key" : Str)], [1, 2, 3, 4, 5, 6, 7], b__law_drawn_table⟩
def d__law_outs : DefI := ⟨top 45, ("_law_outs", none), "_law_outs", "_law_outs", [("table" : Str)], [("table" : Str), ("many" : Str), ("rows" : Str), ("found" : Str), ("key" : Str), ("lock" : Str)], [1, 2, 3, 4], b__law_outs⟩
def d__law_kept : DefI := ⟨top 46, ("_law_kept", none), "_law_kept", "_law_kept", [("table" : Str), ("parting" : Str), ("kind" : Str)], [("table" : Str), ("parting" : Str), ("kind" : Str), ("found" : Str), ("key" : Str), ("lock" : Str), ("there" : Str), ("one" : Str)], [3, 4, 5, 6], b__law_kept⟩
def d__law_partings : DefI := ⟨top 47, ("_law_partings", none), "_law_partings", "_law_partings", [("many" : Str), ("depths" : Str), ("kind" : Str)], [("many" : Str), ("depths" : Str), ("kind" : Str), ("found" : Str), ("key" : Str), ("longer" : Str), ("row" : Str), ("top" : Str), ("depth" : Str)], [3, 4, 5, 6, 7], b__law_partings⟩
def d__law_best_kept : DefI := ⟨top 48, ("_law_best_kept", none), "_law_best_kept", "_law_best_kept", [("table" : Str), ("depths" : Str), ("kind" : Str)], [("table" : Str), ("depths" : Str), ("kind" : Str), ("seen" : Str), ("parting" : Str), ("every" : Str), ("found" : Str), ("kept" : Str), ("one" : Str), ("pair" : Str)], [3, 4, 5, 6, 7], b__law_best_kept⟩
def d__law_fewest : DefI := ⟨top 49, ("_law_fewest", none), "_law_fewest", "_law_fewest", [("table" : Str), ("depths" : Str), ("kind" : Str)], [("table" : Str), ("depths" : Str), ("kind" : Str), ("best" : Str), ("rows" : Str), ("k" : Str), ("seen" : Str), ("new" : Str), ("left" : Str), ("partings" : Str), ("kept" : Str), ("parting" : Str), ("rest" : Str), ("pair" : Str)], [3, 4, 5, 6, 7, 8, 9, 10, 11, 12], b__law_fewest⟩
def d__law_cuts_of : DefI := ⟨top 50, ("_law_cuts_of", none), "_law_cuts_of", "_law_cuts_of", [("partings" : Str)], [("partings" : Str), ("key" : Str), ("parting" : Str)], [], b__law_cuts_of⟩
def d__law_stacks : DefI := ⟨top 51, ("_law_stacks", none), "_law_stacks", "_law_stacks", [("cuts" : Str), ("keys" : Str)], [("cuts" : Str), ("keys" : Str), ("c" : Str), ("depth" : Str), ("key" : Str)], [], b__law_stacks⟩
def d__law_fits : DefI := ⟨top 52, ("_law_fits", none), "_law_fits", "_law_fits", [("table" : Str), ("cuts" : Str), ("kind" : Str)], [("table" : Str), ("cuts" : Str), ("kind" : Str), ("kept" : Str), ("c" : Str), ("pair" : Str), ("cut" : Str)], [3, 4], b__law_fits⟩
def d__law_system : DefI := ⟨top 53, ("_law_system", none), "_law_system", "_law_system", [("script" : Str)], [("script" : Str), ("table" : Str), ("box" : Str), ("depths" : Str), ("k" : Str), ("turn" : Str), ("partings" : Str), ("cuts" : Str), ("key" : Str), ("c" : Str)], [1, 2, 3, 4, 5, 6, 7], b__law_system⟩
def d__law_made : DefI := ⟨top 54, ("_law_made", none), "_law_made", "_law_made", [("system" : Str)], [("system" : Str), ("table" : Str), ("depths" : Str), ("cuts" : Str)], [1, 2, 3], b__law_made⟩
def d__law_filed : DefI := ⟨top 55, ("_law_filed", none), "_law_filed", "_law_filed", [("system" : Str), ("key" : Str), ("lock" : Str)], [("system" : Str), ("key" : Str), ("lock" : Str), ("table" : Str), ("depths" : Str), ("cuts" : Str), ("found" : Str), ("c" : Str), ("some" : Str), ("depth" : Str)], [3, 4, 5, 6, 7, 8], b__law_filed⟩
def d__law_told : DefI := ⟨top 56, ("_law_told", none), "_law_told", "_law_told", [("made" : Str), ("key" : Str), ("lock" : Str)], [("made" : Str), ("key" : Str), ("lock" : Str), ("e" : Str)], [3], b__law_told⟩
def d_law : DefI := ⟨top 57, ("law", none), "law", "law", [("script" : Str)], [("script" : Str), ("system" : Str), ("box" : Str), ("table" : Str), ("depths" : Str), ("cuts" : Str), ("made" : Str), ("found" : Str), ("key" : Str), ("lock" : Str), ("odd" : Str), ("k" : Str), ("partings" : Str), ("due" : Str), ("stacks" : Str), ("bars" : Str), ("c" : Str)], [1, 2, 3, 4, 5, 6, 7, 8, 9, 10, 11, 12, 13, 14, 15], b_law⟩
def d_Table_init : DefI := ⟨meth 21 0, ("Table", some "__init__"), "__init__", "Table.__init__", [("self" : Str), ("many" : Str), ("rows" : Str)], [("self" : Str), ("many" : Str), ("rows" : Str)], [], b_Table_init⟩
def d_Table_eq : DefI := ⟨meth 21 1, ("Table", some "__eq__"), "__eq__", "Table.__eq__", [("self" : Str), ("other" : Str)], [("self" : Str), ("other" : Str)], [], b_Table_eq⟩
def d_System_init : DefI := ⟨meth 38 0, ("System", some "__init__"), "__init__", "System.__init__", [("self" : Str), ("table" : Str), ("depths" : Str), ("cuts" : Str)], [("self" : Str), ("table" : Str), ("depths" : Str), ("cuts" : Str)], [], b_System_init⟩
def d_System_eq : DefI := ⟨meth 38 1, ("System", some "__eq__"), "__eq__", "System.__eq__", [("self" : Str), ("other" : Str)], [("self" : Str), ("other" : Str)], [], b_System_eq⟩
def md : Md where
  defs := [d_is_integer, d_is_within, d_is_tuple, d_are_within, d_is_ascending, d_is_rising, d_is_depths, d_is_bunch, d_are_rows, d_is_key, d_is_lock, d_is_out, d_outs, d_is_cut, d_are_cuts, d_least_stacks, d_falls, d_do_fit, d_first_filed, d_filed, d_threats, d__law_box, d__law_take, d__law_pick, d__law_shuffled, d__law_drawn_table, d__law_outs, d__law_kept, d__law_partings, d__law_best_kept, d__law_fewest, d__law_cuts_of, d__law_stacks, d__law_fits, d__law_system, d__law_made, d__law_filed, d__law_told, d_law, d_Table_init, d_Table_eq, d_System_init, d_System_eq]
  fns := [(("is_integer" : Str), 1), (("is_within" : Str), 3), (("is_tuple" : Str), 3), (("are_within" : Str), 4), (("is_ascending" : Str), 1), (("is_rising" : Str), 2), (("is_depths" : Str), 1), (("is_bunch" : Str), 2), (("are_rows" : Str), 2), (("is_key" : Str), 2), (("is_lock" : Str), 2), (("is_out" : Str), 3), (("outs" : Str), 1), (("is_cut" : Str), 3), (("are_cuts" : Str), 3), (("least_stacks" : Str), 2), (("falls" : Str), 2), (("do_fit" : Str), 2), (("first_filed" : Str), 3), (("filed" : Str), 3), (("threats" : Str), 1), (("_law_box" : Str), 2), (("_law_take" : Str), 2), (("_law_pick" : Str), 2), (("_law_shuffled" : Str), 2), (("_law_drawn_table" : Str), 1), (("_law_outs" : Str), 1), (("_law_kept" : Str), 3), (("_law_partings" : Str), 3), (("_law_best_kept" : Str), 3), (("_law_fewest" : Str), 3), (("_law_cuts_of" : Str), 1), (("_law_stacks" : Str), 2), (("_law_fits" : Str), 3), (("_law_system" : Str), 1), (("_law_made" : Str), 1), (("_law_filed" : Str), 3), (("_law_told" : Str), 3), (("law" : Str), 1)]
  cls := [("Table", 2), ("System", 3)]
  ini := [39, 41]
  eqf := [some 40, some 42]
  flds := [[0, 1], [2, 3, 4]]
  fnm := [("many" : Str), ("rows" : Str), ("table" : Str), ("depths" : Str), ("cuts" : Str)]
  errs := [⟨"InvalidNumber", "value", meth 2 0, "InvalidNumber.__init__", "self", "value"⟩, ⟨"InvalidLocks", "value", meth 3 0, "InvalidLocks.__init__", "self", "value"⟩, ⟨"InvalidCuts", "value", meth 4 0, "InvalidCuts.__init__", "self", "value"⟩, ⟨"InvalidTable", "value", meth 5 0, "InvalidTable.__init__", "self", "value"⟩, ⟨"InvalidPair", "value", meth 6 0, "InvalidPair.__init__", "self", "value"⟩, ⟨"Undefined", "what", meth 7 0, "Undefined.__init__", "self", "what"⟩]
  xcs := [("InvalidNumber" : Str), ("InvalidLocks" : Str), ("InvalidCuts" : Str), ("InvalidTable" : Str), ("InvalidPair" : Str), ("Undefined" : Str), ("LockError" : Str)]
  isa := [[true, false, false, false, false, false, true], [false, true, false, false, false, false, true], [false, false, true, false, false, false, true], [false, false, false, true, false, false, true], [false, false, false, false, true, false, true], [false, false, false, false, false, true, true]]
  gls := [(("MOST_KEYS" : Str), GlV.int 5), (("MOST_LOCKS" : Str), GlV.int 5), (("MOST_CHAMBERS" : Str), GlV.int 5)]
theorem t_shape : md.shape = true := by decide +kernel
theorem t_lnk : md.lnk = true := by decide +kernel
theorem t_nb : ∀ (f : Nat) (x : Str) (np : Nat), md.fns[f]? = some (x, np) → x = "" → False := by
  intro f x np e z
  have h : md.fns.all (fun p => !decide (p.1 = "")) = true := by decide +kernel
  have q := all_get h e
  subst z
  simp at q
theorem ok_is_integer : d_is_integer.okB md = true := by decide +kernel
theorem ba_is_integer : d_is_integer.ba := fun _ _ _ _ _ _ us hl => match us, hl with | [_], _ => rfl
theorem ok_is_within : d_is_within.okB md = true := by decide +kernel
theorem ba_is_within : d_is_within.ba := fun _ _ _ _ _ _ us hl => match us, hl with | [_, _, _], _ => rfl
theorem ok_is_tuple : d_is_tuple.okB md = true := by decide +kernel
theorem ba_is_tuple : d_is_tuple.ba := fun _ _ _ _ _ _ us hl => match us, hl with | [_, _, _], _ => rfl
theorem ok_are_within : d_are_within.okB md = true := by decide +kernel
theorem ba_are_within : d_are_within.ba := fun _ _ _ _ _ _ us hl => match us, hl with | [_, _, _, _], _ => rfl
theorem ok_is_ascending : d_is_ascending.okB md = true := by decide +kernel
theorem ba_is_ascending : d_is_ascending.ba := fun _ _ _ _ _ _ us hl => match us, hl with | [_], _ => rfl
theorem ok_is_rising : d_is_rising.okB md = true := by decide +kernel
theorem ba_is_rising : d_is_rising.ba := fun _ _ _ _ _ _ us hl => match us, hl with | [_, _], _ => rfl
theorem ok_is_depths : d_is_depths.okB md = true := by decide +kernel
theorem ba_is_depths : d_is_depths.ba := fun _ _ _ _ _ _ us hl => match us, hl with | [_], _ => rfl
theorem ok_is_bunch : d_is_bunch.okB md = true := by decide +kernel
theorem ba_is_bunch : d_is_bunch.ba := fun _ _ _ _ _ _ us hl => match us, hl with | [_, _], _ => rfl
theorem ok_are_rows : d_are_rows.okB md = true := by decide +kernel
theorem ba_are_rows : d_are_rows.ba := fun _ _ _ _ _ _ us hl => match us, hl with | [_, _], _ => rfl
theorem ok_is_key : d_is_key.okB md = true := by decide +kernel
theorem ba_is_key : d_is_key.ba := fun _ _ _ _ _ _ us hl => match us, hl with | [_, _], _ => rfl
theorem ok_is_lock : d_is_lock.okB md = true := by decide +kernel
theorem ba_is_lock : d_is_lock.ba := fun _ _ _ _ _ _ us hl => match us, hl with | [_, _], _ => rfl
theorem ok_is_out : d_is_out.okB md = true := by decide +kernel
theorem ba_is_out : d_is_out.ba := fun _ _ _ _ _ _ us hl => match us, hl with | [_, _, _], _ => rfl
theorem ok_outs : d_outs.okB md = true := by decide +kernel
theorem ba_outs : d_outs.ba := fun _ _ _ _ _ _ us hl => match us, hl with | [_], _ => rfl
theorem ok_is_cut : d_is_cut.okB md = true := by decide +kernel
theorem ba_is_cut : d_is_cut.ba := fun _ _ _ _ _ _ us hl => match us, hl with | [_, _, _], _ => rfl
theorem ok_are_cuts : d_are_cuts.okB md = true := by decide +kernel
theorem ba_are_cuts : d_are_cuts.ba := fun _ _ _ _ _ _ us hl => match us, hl with | [_, _, _], _ => rfl
theorem ok_least_stacks : d_least_stacks.okB md = true := by decide +kernel
theorem ba_least_stacks : d_least_stacks.ba := fun _ _ _ _ _ _ us hl => match us, hl with | [_, _], _ => rfl
theorem ok_falls : d_falls.okB md = true := by decide +kernel
theorem ba_falls : d_falls.ba := fun _ _ _ _ _ _ us hl => match us, hl with | [_, _], _ => rfl
theorem ok_do_fit : d_do_fit.okB md = true := by decide +kernel
theorem ba_do_fit : d_do_fit.ba := fun _ _ _ _ _ _ us hl => match us, hl with | [_, _], _ => rfl
theorem ok_first_filed : d_first_filed.okB md = true := by decide +kernel
theorem ba_first_filed : d_first_filed.ba := fun _ _ _ _ _ _ us hl => match us, hl with | [_, _, _], _ => rfl
theorem ok_filed : d_filed.okB md = true := by decide +kernel
theorem ba_filed : d_filed.ba := fun _ _ _ _ _ _ us hl => match us, hl with | [_, _, _], _ => rfl
theorem ok_threats : d_threats.okB md = true := by decide +kernel
theorem ba_threats : d_threats.ba := fun _ _ _ _ _ _ us hl => match us, hl with | [_], _ => rfl
theorem ok__law_box : d__law_box.okB md = true := by decide +kernel
theorem ba__law_box : d__law_box.ba := fun _ _ _ _ _ _ us hl => match us, hl with | [_, _], _ => rfl
theorem ok__law_take : d__law_take.okB md = true := by decide +kernel
theorem ba__law_take : d__law_take.ba := fun _ _ _ _ _ _ us hl => match us, hl with | [_, _], _ => rfl
theorem ok__law_pick : d__law_pick.okB md = true := by decide +kernel
theorem ba__law_pick : d__law_pick.ba := fun _ _ _ _ _ _ us hl => match us, hl with | [_, _], _ => rfl
theorem ok__law_shuffled : d__law_shuffled.okB md = true := by decide +kernel
theorem ba__law_shuffled : d__law_shuffled.ba := fun _ _ _ _ _ _ us hl => match us, hl with | [_, _], _ => rfl
theorem ok__law_drawn_table : d__law_drawn_table.okB md = true := by decide +kernel
theorem ba__law_drawn_table : d__law_drawn_table.ba := fun _ _ _ _ _ _ us hl => match us, hl with | [_], _ => rfl
theorem ok__law_outs : d__law_outs.okB md = true := by decide +kernel
theorem ba__law_outs : d__law_outs.ba := fun _ _ _ _ _ _ us hl => match us, hl with | [_], _ => rfl
theorem ok__law_kept : d__law_kept.okB md = true := by decide +kernel
theorem ba__law_kept : d__law_kept.ba := fun _ _ _ _ _ _ us hl => match us, hl with | [_, _, _], _ => rfl
theorem ok__law_partings : d__law_partings.okB md = true := by decide +kernel
theorem ba__law_partings : d__law_partings.ba := fun _ _ _ _ _ _ us hl => match us, hl with | [_, _, _], _ => rfl
theorem ok__law_best_kept : d__law_best_kept.okB md = true := by decide +kernel
theorem ba__law_best_kept : d__law_best_kept.ba := fun _ _ _ _ _ _ us hl => match us, hl with | [_, _, _], _ => rfl
theorem ok__law_fewest : d__law_fewest.okB md = true := by decide +kernel
theorem ba__law_fewest : d__law_fewest.ba := fun _ _ _ _ _ _ us hl => match us, hl with | [_, _, _], _ => rfl
theorem ok__law_cuts_of : d__law_cuts_of.okB md = true := by decide +kernel
theorem ba__law_cuts_of : d__law_cuts_of.ba := fun _ _ _ _ _ _ us hl => match us, hl with | [_], _ => rfl
theorem ok__law_stacks : d__law_stacks.okB md = true := by decide +kernel
theorem ba__law_stacks : d__law_stacks.ba := fun _ _ _ _ _ _ us hl => match us, hl with | [_, _], _ => rfl
theorem ok__law_fits : d__law_fits.okB md = true := by decide +kernel
theorem ba__law_fits : d__law_fits.ba := fun _ _ _ _ _ _ us hl => match us, hl with | [_, _, _], _ => rfl
theorem ok__law_system : d__law_system.okB md = true := by decide +kernel
theorem ba__law_system : d__law_system.ba := fun _ _ _ _ _ _ us hl => match us, hl with | [_], _ => rfl
theorem ok__law_made : d__law_made.okB md = true := by decide +kernel
theorem ba__law_made : d__law_made.ba := fun _ _ _ _ _ _ us hl => match us, hl with | [_], _ => rfl
theorem ok__law_filed : d__law_filed.okB md = true := by decide +kernel
theorem ba__law_filed : d__law_filed.ba := fun _ _ _ _ _ _ us hl => match us, hl with | [_, _, _], _ => rfl
theorem ok__law_told : d__law_told.okB md = true := by decide +kernel
theorem ba__law_told : d__law_told.ba := fun _ _ _ _ _ _ us hl => match us, hl with | [_, _, _], _ => rfl
theorem ok_law : d_law.okB md = true := by decide +kernel
theorem ba_law : d_law.ba := fun _ _ _ _ _ _ us hl => match us, hl with | [_], _ => rfl
theorem ok_Table_init : d_Table_init.okB md = true := by decide +kernel
theorem ba_Table_init : d_Table_init.ba := fun _ _ _ _ _ _ us hl => match us, hl with | [_, _, _], _ => rfl
theorem ok_Table_eq : d_Table_eq.okB md = true := by decide +kernel
theorem ba_Table_eq : d_Table_eq.ba := fun _ _ _ _ _ _ us hl => match us, hl with | [_, _], _ => rfl
theorem ok_System_init : d_System_init.okB md = true := by decide +kernel
theorem ba_System_init : d_System_init.ba := fun _ _ _ _ _ _ us hl => match us, hl with | [_, _, _, _], _ => rfl
theorem ok_System_eq : d_System_eq.okB md = true := by decide +kernel
theorem ba_System_eq : d_System_eq.ba := fun _ _ _ _ _ _ us hl => match us, hl with | [_, _], _ => rfl
theorem t_ok : Each (fun d : DefI => d.okB md = true) md.defs := ⟨ok_is_integer, ok_is_within, ok_is_tuple, ok_are_within, ok_is_ascending, ok_is_rising, ok_is_depths, ok_is_bunch, ok_are_rows, ok_is_key, ok_is_lock, ok_is_out, ok_outs, ok_is_cut, ok_are_cuts, ok_least_stacks, ok_falls, ok_do_fit, ok_first_filed, ok_filed, ok_threats, ok__law_box, ok__law_take, ok__law_pick, ok__law_shuffled, ok__law_drawn_table, ok__law_outs, ok__law_kept, ok__law_partings, ok__law_best_kept, ok__law_fewest, ok__law_cuts_of, ok__law_stacks, ok__law_fits, ok__law_system, ok__law_made, ok__law_filed, ok__law_told, ok_law, ok_Table_init, ok_Table_eq, ok_System_init, ok_System_eq, trivial⟩
theorem t_ba : Each DefI.ba md.defs := ⟨ba_is_integer, ba_is_within, ba_is_tuple, ba_are_within, ba_is_ascending, ba_is_rising, ba_is_depths, ba_is_bunch, ba_are_rows, ba_is_key, ba_is_lock, ba_is_out, ba_outs, ba_is_cut, ba_are_cuts, ba_least_stacks, ba_falls, ba_do_fit, ba_first_filed, ba_filed, ba_threats, ba__law_box, ba__law_take, ba__law_pick, ba__law_shuffled, ba__law_drawn_table, ba__law_outs, ba__law_kept, ba__law_partings, ba__law_best_kept, ba__law_fewest, ba__law_cuts_of, ba__law_stacks, ba__law_fits, ba__law_system, ba__law_made, ba__law_filed, ba__law_told, ba_law, ba_Table_init, ba_Table_eq, ba_System_init, ba_System_eq, trivial⟩
theorem t_eok : Each (fun e : ErrI => e.okB = true) md.errs := ⟨by decide +kernel, by decide +kernel, by decide +kernel, by decide +kernel, by decide +kernel, by decide +kernel, trivial⟩
theorem t_eba : Each ErrI.ba md.errs := ⟨(fun _ _ _ _ _ _ us hl => match us, hl with | [_, _], _ => rfl), (fun _ _ _ _ _ _ us hl => match us, hl with | [_, _], _ => rfl), (fun _ _ _ _ _ _ us hl => match us, hl with | [_, _], _ => rfl), (fun _ _ _ _ _ _ us hl => match us, hl with | [_, _], _ => rfl), (fun _ _ _ _ _ _ us hl => match us, hl with | [_, _], _ => rfl), (fun _ _ _ _ _ _ us hl => match us, hl with | [_, _], _ => rfl), trivial⟩
end KL
end
section
set_option linter.all false
set_option Elab.async false
set_option maxRecDepth 100000
set_option maxHeartbeats 1000000
/-! The evaluator as rewriting: every step a rule whose rests are data. -/
namespace Fx
open PySem (Operator CmpOp)
section
variable (g : G) (Φ : Fn)
/-- an argument -/
def arE (e : IE) (ρ : Env) : Res Ar := asArg e ρ (evE g Φ e ρ)
/-- plain data -/
def dE (e : IE) (ρ : Env) : Res D := asD g.flds (evE g Φ e ρ)
def toAr (x : Res R) : Res Ar := x.bind fun r ρ => .ok (.v r) ρ
def toD (x : Res R) : Res D := asD g.flds x
def arD (a : Ar) (ρ : Env) : Option D := a.d g.flds ρ
def opt {α : Type} (o : Option α) (ρ : Env) : Res α := optR o ρ
def valR (x : Res D) : Res R := x.bind fun d ρ => .ok (.val d) ρ
/-! constants, names, displays -/
def tupK (x : Res (List D)) : Res R := x.bind fun ds ρ => if ds.length ≤ 16777216 then .ok (.val (.tup ds)) ρ else .stuck
def lstK (x : Res (List D)) : Res R := x.bind fun ds ρ => if ds.length ≤ 16777216 then .ok (.lst ds) ρ else .stuck
def consK (es : IEs) (x : Res D) : Res (List D) := x.bind fun d ρ => (evDs g Φ es ρ).bind fun ds ρ => .ok (d :: ds) ρ
def consK2 (d : D) (x : Res (List D)) : Res (List D) := x.bind fun ds ρ => .ok (d :: ds) ρ
def argsK (es : IEs) (x : Res Ar) : Res (List Ar) := x.bind fun a ρ => (evAs g Φ es ρ).bind fun as ρ => .ok (a :: as) ρ
def argsK2 (a : Ar) (x : Res (List Ar)) : Res (List Ar) := x.bind fun as ρ => .ok (a :: as) ρ
/-! operators -/
def bin2 (op : Operator) (x y : Option D) (ρ : Env) : Res R := match x, y with
  | some x, some y => optR (binD op x y) ρ
  | _, _ => .stuck
def binK (op : Operator) (b : IE) (x : Res Ar) : Res R := x.bind fun x ρ => (arE g Φ b ρ).bind fun y ρ => bin2 op (x.d g.flds ρ) (y.d g.flds ρ) ρ
def binK2 (op : Operator) (a : Ar) (x : Res Ar) : Res R := x.bind fun y ρ => bin2 op (a.d g.flds ρ) (y.d g.flds ρ) ρ
def cmpA (op : CmpOp) (x y : Option D) (ρ : Env) : Res R := match x, y with
  | some x, some y => optR ((cmpD op x y).map fun b => .val (.bl b)) ρ
  | _, _ => .stuck
def cmpK (op : CmpOp) (b : IE) (x : Res Ar) : Res R := x.bind fun x ρ => (arE g Φ b ρ).bind fun y ρ => cmpA op (x.d g.flds ρ) (y.d g.flds ρ) ρ
def cmpK2 (op : CmpOp) (a : Ar) (x : Res Ar) : Res R := x.bind fun y ρ => cmpA op (a.d g.flds ρ) (y.d g.flds ρ) ρ
def negK (x : Res D) : Res R := x.bind fun x ρ => match x with
  | .int i => .ok (.val (.int (-i))) ρ
  | _ => .stuck
def tstK (x : Res Ar) : Res Bool := tstA g x
def tst1 (o : Option D) (ρ : Env) : Res Bool := optR (o.bind truD) ρ
def notK (x : Res Bool) : Res R := x.bind fun b ρ => .ok (.val (.bl (!b))) ρ
def bopK (isAnd : Bool) (es : IEs) (x : Res D) : Res R := x.bind fun d ρ => restB isAnd d (fun ρ => evB g Φ isAnd es ρ) ρ
def bop2 (isAnd : Bool) (es : IEs) (t : Option Bool) (d : D) (ρ : Env) : Res R := match t with
  | some k => if k = isAnd then evB g Φ isAnd es ρ else .ok (.val d) ρ
  | none => .stuck
def iteK (a b : IE) (x : Res Bool) : Res R := x.bind fun k ρ => if k = true then evE g Φ a ρ else evE g Φ b ρ
def eqoK (b : IE) (x : Res D) : Res R := x.bind fun x ρ => (dE g Φ b ρ).bind fun y ρ => eqoR g Φ x y ρ
def eqoK2 (x : D) (z : Res D) : Res R := z.bind fun y ρ => eqoR g Φ x y ρ
def c2a (o2 : CmpOp) (c : IE) (y : D) (t : Option Bool) (ρ : Env) : Res R := match t with
  | some true => (dE g Φ c ρ).bind fun z ρ => optR ((cmpD o2 y z).map fun k => .val (.bl k)) ρ
  | some false => .ok (.val (.bl false)) ρ
  | none => .stuck
def c2K (o1 o2 : CmpOp) (b c : IE) (x : Res D) : Res R := x.bind fun x ρ => (dE g Φ b ρ).bind fun y ρ => c2a g Φ o2 c y (cmpD o1 x y) ρ
def c2K2 (o1 o2 : CmpOp) (c : IE) (x : D) (y : Res D) : Res R := y.bind fun y ρ => c2a g Φ o2 c y (cmpD o1 x y) ρ
def c2K3 (o2 : CmpOp) (y : D) (z : Res D) : Res R := z.bind fun z ρ => optR ((cmpD o2 y z).map fun k => .val (.bl k)) ρ
/-! subscripts, fields -/
def ix1 (x : Option D) (y : D) (ρ : Env) : Res R := match x with
  | some x => optR ((idxD x y).map .val) ρ
  | none => .stuck
def ixK (b : IE) (x : Res Ar) : Res R := x.bind fun x ρ => (dE g Φ b ρ).bind fun y ρ => ix1 (x.d g.flds ρ) y ρ
def ixK2 (a : Ar) (x : Res D) : Res R := x.bind fun y ρ => ix1 (a.d g.flds ρ) y ρ
def sl1 (x : Option D) (l h : Option Int) (ρ : Env) : Res R := match x with
  | some x => optR (slcD x l h) ρ
  | none => .stuck
def slK (lo hi : IO) (x : Res Ar) : Res R := x.bind fun x ρ => (evO g Φ lo ρ).bind fun l ρ => (evO g Φ hi ρ).bind fun h ρ => sl1 (x.d g.flds ρ) l h ρ
def slK2 (a : Ar) (hi : IO) (x : Res (Option Int)) : Res R := x.bind fun l ρ => (evO g Φ hi ρ).bind fun h ρ => sl1 (a.d g.flds ρ) l h ρ
def slK3 (a : Ar) (l : Option Int) (x : Res (Option Int)) : Res R := x.bind fun h ρ => sl1 (a.d g.flds ρ) l h ρ
def rev1 (x : Option D) (ρ : Env) : Res R := match x with
  | some x => optR (revD x) ρ
  | none => .stuck
def revK (x : Res Ar) : Res R := x.bind fun x ρ => rev1 (x.d g.flds ρ) ρ
def oK (x : Res D) : Res (Option Int) := x.bind fun d ρ => match d with
  | .int i => .ok (some i) ρ
  | _ => .stuck
def atV (f : Nat) (o : Option R) (ρ : Env) : Res R := match o with
  | some r => optR ((attrO g f r).map .val) ρ
  | none => .stuck
def atK (f : Nat) (x : Res D) : Res R := x.bind fun x ρ => optR ((attrR g f x).map .val) ρ
/-! calls -/
def calK (f : Nat) (x : Res (List Ar)) : Res R := x.bind fun as ρ => callR Φ f as ρ
def makK (c : Nat) (x : Res (List Ar)) : Res R := x.bind fun as ρ => makeR Φ g.ini c as ρ
def cb1 (b : BF) (x : Option (List D)) (ρ : Env) : Res R := match x with
  | some ds => optR (cbD b ds) ρ
  | none => .stuck
def cbK (b : BF) (x : Res (List Ar)) : Res R := x.bind fun as ρ => cb1 b (getDs g.flds ρ as) ρ
def is1 (t : IsT) (x : Option D) (ρ : Env) : Res R := match x with
  | some x => optR ((isiD g.nc x t).map fun b => .val (.bl b)) ρ
  | none => .stuck
def isK (t : IsT) (x : Res Ar) : Res R := x.bind fun x ρ => is1 g t (x.d g.flds ρ) ρ
def srtK (x : Res D) : Res R := x.bind fun x ρ => match x with
  | .lst ds => if ds.length < 64 then optR ((allI ds).map fun ns => .lst ((usort ns).map .int)) ρ else .stuck
  | _ => .stuck
/-! walks -/
def seq1 (d : D) (ρ : Env) : Res (List D) := match d with
  | .tup ds => .ok ds ρ
  | .lst ds => .ok ds ρ
  | .rng lo hi => if rngOk lo hi = true then .ok (rngL lo hi) ρ else .stuck
  | _ => .stuck
def seqK (x : Res D) : Res (List D) := x.bind fun d ρ => seq1 d ρ
def enumK (x : Res D) : Res (List D) := x.bind fun d ρ => match d with
  | .lst ds => .ok (enumD ds) ρ
  | _ => .stuck
def zip1 (x y : D) (ρ : Env) : Res (List D) := match x, y with
  | .lst xs, .lst ys => .ok (zipD xs ys) ρ
  | .tup xs, .tup ys => .ok (zipD xs ys) ρ
  | _, _ => .stuck
def zipK (b : IE) (x : Res D) : Res (List D) := x.bind fun x ρ => (dE g Φ b ρ).bind fun y ρ => zip1 x y ρ
def zipK2 (x : D) (y : Res D) : Res (List D) := y.bind fun y ρ => zip1 x y ρ
def compE (elt : IE) (own : List Nat) (tg : Tg) (c : IO) (ds : List D) (ρ : Env) : Res R :=
  ((compF own tg (fun ρ => evC g Φ c ρ) (fun ρ => asD g.flds (evE g Φ elt ρ)) ds (wipeE ρ own) []).bind fun acc ρ' => .ok (.lst acc) (restE ρ ρ' own)).calm
def comK (elt : IE) (own : List Nat) (tg : Tg) (c : IO) (x : Res (List D)) : Res R := x.bind fun ds ρ => compE g Φ elt own tg c ds ρ
def comp2E (elt : IE) (own own1 : List Nat) (tg tg1 : Tg) (src1 : II) (c : IO) (ds : List D) (ρ : Env) : Res R :=
  ((compF2 own tg (fun ρ => (evI g Φ src1 ρ).bind fun es ρ => .ok es (wipeE ρ own1)) (compF own1 tg1 (fun ρ => evC g Φ c ρ) (fun ρ => asD g.flds (evE g Φ elt ρ))) ds (wipeE ρ own) []).bind fun acc ρ' => .ok (.lst acc) (restE ρ ρ' own)).calm
def com2K (elt : IE) (own own1 : List Nat) (tg tg1 : Tg) (src1 : II) (c : IO) (x : Res (List D)) : Res R := x.bind fun ds ρ => comp2E g Φ elt own own1 tg tg1 src1 c ds ρ
/-! statements -/
def seqS (ss : ISs) (x : SRes) : SRes := x.thn fun ρ => evSs g Φ ss ρ
def asgK (i : Nat) (x : Res R) : SRes := x.thn fun r ρ => .nx (ρ.set i (some r))
def unp1 (o : Option Env) : SRes := match o with
  | some ρ' => .nx ρ'
  | none => .stuck
def unpK (is : List Nat) (x : Res D) : SRes := x.thn fun d ρ => unp1 (setTg (.many is) d ρ)
def sti2 (i : Nat) (d : D) (o : Option R) (k : D) (ρ : Env) : SRes := match o, k with
  | some (.lst ds), .int k => (match L2.ixN ds.length k with
    | some j => .nx (ρ.set i (some (.lst (ds.set j d))))
    | none => .stuck)
  | _, _ => .stuck
def stiK2 (i : Nat) (d : D) (x : Res D) : SRes := x.thn fun k ρ => sti2 i d (ρ.at i) k ρ
def sti1 (i : Nat) (k : IE) (d : D) (o : Option R) (ρ : Env) : SRes := match o with
  | some (.lst _) => stiK2 i d (dE g Φ k ρ)
  | _ => .stuck
def stiK (i : Nat) (k : IE) (x : Res D) : SRes := x.thn fun d ρ => sti1 g Φ i k d (ρ.at i) ρ
def std2 (i : Nat) (d : D) (o : Option R) (k : D) (ρ : Env) : SRes := match o with
  | some (.dct ks vs) => if keyOk ks k = true ∧ ks.length < 16777216 then .nx (ρ.set i (some (.dct (dPutK ks k) (dPutV ks vs k d)))) else .stuck
  | _ => .stuck
def stdK2 (i : Nat) (d : D) (x : Res D) : SRes := x.thn fun k ρ => std2 i d (ρ.at i) k ρ
def std1 (i : Nat) (k : IE) (d : D) (o : Option R) (ρ : Env) : SRes := match o with
  | some (.dct _ _) => stdK2 i d (dE g Φ k ρ)
  | _ => .stuck
def stdK (i : Nat) (k : IE) (x : Res D) : SRes := x.thn fun d ρ => std1 g Φ i k d (ρ.at i) ρ
def fld1 (i f : Nat) (d : D) (o : Option R) (ρ : Env) : SRes := match o with
  | some (.obj c rs) => if c < g.nc ∧ (g.flds c).idxOf f = rs.length ∧ rs.length < (g.flds c).length then .nx (ρ.set i (some (.obj c (rs ++ [.val d])))) else .stuck
  | _ => .stuck
def fldK (i f : Nat) (x : Res D) : SRes := x.thn fun d ρ => fld1 g i f d (ρ.at i) ρ
def app2 (i : Nat) (d : D) (o : Option R) (ρ : Env) : SRes := match o with
  | some (.lst ds) => if ds.length < 16777216 then .nx (ρ.set i (some (.lst (ds ++ [d])))) else .stuck
  | _ => .stuck
def appK (i : Nat) (x : Res D) : SRes := x.thn fun d ρ => app2 i d (ρ.at i) ρ
def app1 (i : Nat) (e : IE) (o : Option R) (ρ : Env) : SRes := match o with
  | some (.lst _) => appK i (dE g Φ e ρ)
  | _ => .stuck
def ins2 (i : Nat) (k d : D) (o : Option R) (ρ : Env) : SRes := match o, k with
  | some (.lst ds), .int k => if ds.length < 16777216 ∧ 0 ≤ k ∧ k < 9223372036854775808 then .nx (ρ.set i (some (.lst (ds.take k.toNat ++ d :: ds.drop k.toNat)))) else .stuck
  | _, _ => .stuck
def insK2 (i : Nat) (k : D) (x : Res D) : SRes := x.thn fun d ρ => ins2 i k d (ρ.at i) ρ
def insK (i : Nat) (e : IE) (x : Res D) : SRes := x.thn fun k ρ => insK2 i k (dE g Φ e ρ)
def ins1 (i : Nat) (k e : IE) (o : Option R) (ρ : Env) : SRes := match o with
  | some (.lst _) => insK g Φ i e (dE g Φ k ρ)
  | _ => .stuck
def exK (x : Res R) : SRes := x.thn fun _ ρ => .nx ρ
def ifK (a b : ISs) (x : Res Bool) : SRes := x.thn fun k ρ => if k = true then evSs g Φ a ρ else evSs g Φ b ρ
def forE (tg : Tg) (body : ISs) (ds : List D) (ρ : Env) : SRes := forF tg (fun ρ => evSs g Φ body ρ) ds ρ
def forK (tg : Tg) (body : ISs) (x : Res (List D)) : SRes := x.thn fun ds ρ => forE g Φ tg body ds ρ
def retK (x : Res R) : SRes := x.thn fun r ρ => .rt r ρ
def retm1 (i : Nat) (o : Option R) (ρ : Env) : SRes := match o with
  | some r => .rt r (ρ.set i none)
  | none => .stuck
def raiK (c : Nat) (x : Res D) : SRes := x.thn fun d ρ => .exc c d ρ
def tryK (hs : List Hd) (x : SRes) : SRes := match x with
  | .exc c d ρ' => evHs g hs c d ρ'
  | x => x
end
section
variable {g : G} {Φ : Fn} {ρ : Env} {α : Type}
/-! ### expressions -/
@[simp] theorem q_var {i : Nat} : evE g Φ (.var i) ρ = rdVar g.flds i ρ := rfl
@[simp] theorem q_cst {d : D} : evE g Φ (.cst d) ρ = .ok (.val d) ρ := rfl
@[simp] theorem q_glob {x : Nat} : evE g Φ (.glob x) ρ = opt ((g.gl x).map .val) ρ := rfl
@[simp] theorem q_tup {es : IEs} : evE g Φ (.tup es) ρ = tupK (evDs g Φ es ρ) := rfl
@[simp] theorem q_lst {es : IEs} : evE g Φ (.lst es) ρ = lstK (evDs g Φ es ρ) := rfl
@[simp] theorem q_bin {op : Operator} {a b : IE} : evE g Φ (.bin op a b) ρ = binK g Φ op b (arE g Φ a ρ) := rfl
@[simp] theorem q_neg {a : IE} : evE g Φ (.neg a) ρ = negK (dE g Φ a ρ) := rfl
@[simp] theorem q_bop {k : Bool} {es : IEs} : evE g Φ (.bop k es) ρ = evB g Φ k es ρ := rfl
@[simp] theorem q_nt {a : IE} : evE g Φ (.nt a) ρ = notK (tstK g (arE g Φ a ρ)) := rfl
@[simp] theorem q_cmp {op : CmpOp} {a b : IE} : evE g Φ (.cmp op a b) ρ = cmpK g Φ op b (arE g Φ a ρ) := by
  show ((arE g Φ a ρ).bind fun x ρ => (arE g Φ b ρ).bind fun y ρ => match x.d g.flds ρ, y.d g.flds ρ with
    | some x, some y => cmpP op x y ρ
    | _, _ => .stuck) = _
  unfold cmpK
  congr 1
  funext x ρ
  congr 1
  funext y ρ
  unfold cmpA cmpP
  cases x.d g.flds ρ with
  | none => rfl
  | some x => cases y.d g.flds ρ with
    | none => rfl
    | some y => dsimp only; cases cmpD op x y <;> rfl
@[simp] theorem q_eqo {a b : IE} : evE g Φ (.eqo a b) ρ = eqoK g Φ b (dE g Φ a ρ) := rfl
@[simp] theorem q_cmp2 {o1 o2 : CmpOp} {a b c : IE} : evE g Φ (.cmp2 o1 o2 a b c) ρ = c2K g Φ o1 o2 b c (dE g Φ a ρ) := by
  show ((dE g Φ a ρ).bind fun x ρ => (dE g Φ b ρ).bind fun y ρ => match cmpD o1 x y with
    | some true => (dE g Φ c ρ).bind fun z ρ => optR ((cmpD o2 y z).map fun k => R.val (.bl k)) ρ
    | some false => Res.ok (R.val (.bl false)) ρ
    | none => .stuck) = _
  unfold c2K c2a
  rfl
@[simp] theorem q_ife {c a b : IE} : evE g Φ (.ife c a b) ρ = iteK g Φ a b (tstK g (arE g Φ c ρ)) := rfl
@[simp] theorem q_idx {a b : IE} : evE g Φ (.idx a b) ρ = ixK g Φ b (arE g Φ a ρ) := rfl
@[simp] theorem q_slc {a : IE} {lo hi : IO} : evE g Φ (.slc a lo hi) ρ = slK g Φ lo hi (arE g Φ a ρ) := rfl
@[simp] theorem q_rev {a : IE} : evE g Φ (.rev a) ρ = revK g (arE g Φ a ρ) := rfl
@[simp] theorem q_attrV {i f : Nat} : evE g Φ (.attr (.var i) f) ρ = atV g f (ρ.at i) ρ := rfl
@[simp] theorem q_attr_cst {d : D} {f : Nat} : evE g Φ (.attr (.cst d) f) ρ = atK g f (dE g Φ (.cst d) ρ) := rfl
@[simp] theorem q_attr_glob {i : Nat} {f : Nat} : evE g Φ (.attr (.glob i) f) ρ = atK g f (dE g Φ (.glob i) ρ) := rfl
@[simp] theorem q_attr_tup {es : IEs} {f : Nat} : evE g Φ (.attr (.tup es) f) ρ = atK g f (dE g Φ (.tup es) ρ) := rfl
@[simp] theorem q_attr_lst {es : IEs} {f : Nat} : evE g Φ (.attr (.lst es) f) ρ = atK g f (dE g Φ (.lst es) ρ) := rfl
@[simp] theorem q_attr_bin {op : Operator} {a b : IE} {f : Nat} : evE g Φ (.attr (.bin op a b) f) ρ = atK g f (dE g Φ (.bin op a b) ρ) := rfl
@[simp] theorem q_attr_neg {a : IE} {f : Nat} : evE g Φ (.attr (.neg a) f) ρ = atK g f (dE g Φ (.neg a) ρ) := rfl
@[simp] theorem q_attr_bop {k : Bool} {es : IEs} {f : Nat} : evE g Φ (.attr (.bop k es) f) ρ = atK g f (dE g Φ (.bop k es) ρ) := rfl
@[simp] theorem q_attr_nt {a : IE} {f : Nat} : evE g Φ (.attr (.nt a) f) ρ = atK g f (dE g Φ (.nt a) ρ) := rfl
@[simp] theorem q_attr_cmp {op : CmpOp} {a b : IE} {f : Nat} : evE g Φ (.attr (.cmp op a b) f) ρ = atK g f (dE g Φ (.cmp op a b) ρ) := rfl
@[simp] theorem q_attr_eqo {a b : IE} {f : Nat} : evE g Φ (.attr (.eqo a b) f) ρ = atK g f (dE g Φ (.eqo a b) ρ) := rfl
@[simp] theorem q_attr_cmp2 {o1 o2 : CmpOp} {a b c : IE} {f : Nat} : evE g Φ (.attr (.cmp2 o1 o2 a b c) f) ρ = atK g f (dE g Φ (.cmp2 o1 o2 a b c) ρ) := rfl
@[simp] theorem q_attr_ife {a b c : IE} {f : Nat} : evE g Φ (.attr (.ife a b c) f) ρ = atK g f (dE g Φ (.ife a b c) ρ) := rfl
@[simp] theorem q_attr_idx {a b : IE} {f : Nat} : evE g Φ (.attr (.idx a b) f) ρ = atK g f (dE g Φ (.idx a b) ρ) := rfl
@[simp] theorem q_attr_slc {a : IE} {lo hi : IO} {f : Nat} : evE g Φ (.attr (.slc a lo hi) f) ρ = atK g f (dE g Φ (.slc a lo hi) ρ) := rfl
@[simp] theorem q_attr_rev {a : IE} {f : Nat} : evE g Φ (.attr (.rev a) f) ρ = atK g f (dE g Φ (.rev a) ρ) := rfl
@[simp] theorem q_attr_attr {a : IE} {f2 : Nat} {f : Nat} : evE g Φ (.attr (.attr a f2) f) ρ = atK g f (dE g Φ (.attr a f2) ρ) := rfl
@[simp] theorem q_attr_call {f2 : Nat} {es : IEs} {f : Nat} : evE g Φ (.attr (.call f2 es) f) ρ = atK g f (dE g Φ (.call f2 es) ρ) := rfl
@[simp] theorem q_attr_make {f2 : Nat} {es : IEs} {f : Nat} : evE g Φ (.attr (.make f2 es) f) ρ = atK g f (dE g Φ (.make f2 es) ρ) := rfl
@[simp] theorem q_attr_cb {b : BF} {es : IEs} {f : Nat} : evE g Φ (.attr (.cb b es) f) ρ = atK g f (dE g Φ (.cb b es) ρ) := rfl
@[simp] theorem q_attr_isi {a : IE} {t : IsT} {f : Nat} : evE g Φ (.attr (.isi a t) f) ρ = atK g f (dE g Φ (.isi a t) ρ) := rfl
@[simp] theorem q_attr_dnew  {f : Nat} : evE g Φ (.attr (.dnew ) f) ρ = atK g f (dE g Φ (.dnew ) ρ) := rfl
@[simp] theorem q_attr_srts {a : IE} {f : Nat} : evE g Φ (.attr (.srts a) f) ρ = atK g f (dE g Φ (.srts a) ρ) := rfl
@[simp] theorem q_attr_comp {elt : IE} {own : List Nat} {tg : Tg} {src : II} {c : IO} {f : Nat} : evE g Φ (.attr (.comp elt own tg src c) f) ρ = atK g f (dE g Φ (.comp elt own tg src c) ρ) := rfl
@[simp] theorem q_attr_comp2 {elt : IE} {own own1 : List Nat} {tg : Tg} {src : II} {tg1 : Tg} {src1 : II} {c : IO} {f : Nat} : evE g Φ (.attr (.comp2 elt own own1 tg src tg1 src1 c) f) ρ = atK g f (dE g Φ (.comp2 elt own own1 tg src tg1 src1 c) ρ) := rfl
@[simp] theorem q_call {f : Nat} {es : IEs} : evE g Φ (.call f es) ρ = calK Φ f (evAs g Φ es ρ) := rfl
@[simp] theorem q_make {c : Nat} {es : IEs} : evE g Φ (.make c es) ρ = makK g Φ c (evAs g Φ es ρ) := rfl
@[simp] theorem q_cb {b : BF} {es : IEs} : evE g Φ (.cb b es) ρ = cbK g b (evAs g Φ es ρ) := rfl
@[simp] theorem q_isi {a : IE} {t : IsT} : evE g Φ (.isi a t) ρ = isK g t (arE g Φ a ρ) := rfl
@[simp] theorem q_dnew : evE g Φ .dnew ρ = .ok (.dct [] []) ρ := rfl
@[simp] theorem q_srts {a : IE} : evE g Φ (.srts a) ρ = srtK (dE g Φ a ρ) := rfl
@[simp] theorem q_comp {elt : IE} {own : List Nat} {tg : Tg} {src : II} {c : IO} : evE g Φ (.comp elt own tg src c) ρ = comK g Φ elt own tg c (evI g Φ src ρ) := rfl
@[simp] theorem q_comp2 {elt : IE} {own own1 : List Nat} {tg tg1 : Tg} {src src1 : II} {c : IO} : evE g Φ (.comp2 elt own own1 tg src tg1 src1 c) ρ = com2K g Φ elt own own1 tg tg1 src1 c (evI g Φ src ρ) := rfl
@[simp] theorem q_ar_cst {d : D} : arE g Φ (.cst d) ρ = toAr (evE g Φ (.cst d) ρ) := rfl
@[simp] theorem q_ar_glob {i : Nat} : arE g Φ (.glob i) ρ = toAr (evE g Φ (.glob i) ρ) := rfl
@[simp] theorem q_ar_tup {es : IEs} : arE g Φ (.tup es) ρ = toAr (evE g Φ (.tup es) ρ) := rfl
@[simp] theorem q_ar_lst {es : IEs} : arE g Φ (.lst es) ρ = toAr (evE g Φ (.lst es) ρ) := rfl
@[simp] theorem q_ar_bin {op : Operator} {a b : IE} : arE g Φ (.bin op a b) ρ = toAr (evE g Φ (.bin op a b) ρ) := rfl
@[simp] theorem q_ar_neg {a : IE} : arE g Φ (.neg a) ρ = toAr (evE g Φ (.neg a) ρ) := rfl
@[simp] theorem q_ar_bop {k : Bool} {es : IEs} : arE g Φ (.bop k es) ρ = toAr (evE g Φ (.bop k es) ρ) := rfl
@[simp] theorem q_ar_nt {a : IE} : arE g Φ (.nt a) ρ = toAr (evE g Φ (.nt a) ρ) := rfl
@[simp] theorem q_ar_cmp {op : CmpOp} {a b : IE} : arE g Φ (.cmp op a b) ρ = toAr (evE g Φ (.cmp op a b) ρ) := rfl
@[simp] theorem q_ar_eqo {a b : IE} : arE g Φ (.eqo a b) ρ = toAr (evE g Φ (.eqo a b) ρ) := rfl
@[simp] theorem q_ar_cmp2 {o1 o2 : CmpOp} {a b c : IE} : arE g Φ (.cmp2 o1 o2 a b c) ρ = toAr (evE g Φ (.cmp2 o1 o2 a b c) ρ) := rfl
@[simp] theorem q_ar_ife {a b c : IE} : arE g Φ (.ife a b c) ρ = toAr (evE g Φ (.ife a b c) ρ) := rfl
@[simp] theorem q_ar_idx {a b : IE} : arE g Φ (.idx a b) ρ = toAr (evE g Φ (.idx a b) ρ) := rfl
@[simp] theorem q_ar_slc {a : IE} {lo hi : IO} : arE g Φ (.slc a lo hi) ρ = toAr (evE g Φ (.slc a lo hi) ρ) := rfl
@[simp] theorem q_ar_rev {a : IE} : arE g Φ (.rev a) ρ = toAr (evE g Φ (.rev a) ρ) := rfl
@[simp] theorem q_ar_attr {a : IE} {f : Nat} : arE g Φ (.attr a f) ρ = toAr (evE g Φ (.attr a f) ρ) := rfl
@[simp] theorem q_ar_call {f : Nat} {es : IEs} : arE g Φ (.call f es) ρ = toAr (evE g Φ (.call f es) ρ) := rfl
@[simp] theorem q_ar_make {f : Nat} {es : IEs} : arE g Φ (.make f es) ρ = toAr (evE g Φ (.make f es) ρ) := rfl
@[simp] theorem q_ar_cb {b : BF} {es : IEs} : arE g Φ (.cb b es) ρ = toAr (evE g Φ (.cb b es) ρ) := rfl
@[simp] theorem q_ar_isi {a : IE} {t : IsT} : arE g Φ (.isi a t) ρ = toAr (evE g Φ (.isi a t) ρ) := rfl
@[simp] theorem q_ar_dnew  : arE g Φ (.dnew ) ρ = toAr (evE g Φ (.dnew ) ρ) := rfl
@[simp] theorem q_ar_srts {a : IE} : arE g Φ (.srts a) ρ = toAr (evE g Φ (.srts a) ρ) := rfl
@[simp] theorem q_ar_comp {elt : IE} {own : List Nat} {tg : Tg} {src : II} {c : IO} : arE g Φ (.comp elt own tg src c) ρ = toAr (evE g Φ (.comp elt own tg src c) ρ) := rfl
@[simp] theorem q_ar_comp2 {elt : IE} {own own1 : List Nat} {tg : Tg} {src : II} {tg1 : Tg} {src1 : II} {c : IO} : arE g Φ (.comp2 elt own own1 tg src tg1 src1 c) ρ = toAr (evE g Φ (.comp2 elt own own1 tg src tg1 src1 c) ρ) := rfl
@[simp] theorem q_arV {i : Nat} : arE g Φ (.var i) ρ = argVar i ρ := rfl
@[simp] theorem q_dE {e : IE} : dE g Φ e ρ = toD g (evE g Φ e ρ) := rfl
@[simp] theorem q_toAr {r : R} : toAr (.ok r ρ) = .ok (.v r) ρ := rfl
@[simp] theorem q_toArx {c : Nat} {d : D} : toAr (.exc c d ρ) = .exc c d ρ := rfl
@[simp] theorem q_toDv {d : D} : toD g (.ok (.val d) ρ) = .ok d ρ := rfl
@[simp] theorem q_toDl {ds : List D} : toD g (.ok (.lst ds) ρ) = .ok (.lst ds) ρ := rfl
@[simp] theorem q_toDd {ks vs : List D} : toD g (.ok (.dct ks vs) ρ) = .ok (.dct ks vs) ρ := rfl
@[simp] theorem q_toDx {c : Nat} {d : D} : toD g (.exc c d ρ) = .exc c d ρ := rfl
@[simp] theorem q_opt {a : α} : opt (some a) ρ = .ok a ρ := rfl
@[simp] theorem q_optR {a : α} : optR (some a) ρ = .ok a ρ := rfl
@[simp] theorem q_isV {i : Nat} : (IE.var i).isVar = some i := rfl
@[simp] theorem q_arDv {d : D} : Ar.d g.flds (.v (.val d)) ρ = some d := rfl
@[simp] theorem q_arDl {ds : List D} : Ar.d g.flds (.v (.lst ds)) ρ = some (.lst ds) := rfl
@[simp] theorem q_arDd {ks vs : List D} : Ar.d g.flds (.v (.dct ks vs)) ρ = some (.dct ks vs) := rfl
@[simp] theorem q_arDb {i : Nat} : Ar.d g.flds (.b i) ρ = (ρ.at i).bind (fullD g.flds) := rfl
@[simp] theorem q_fv {d : D} : fullD g.flds (.val d) = some d := rfl
@[simp] theorem q_fl {ds : List D} : fullD g.flds (.lst ds) = some (.lst ds) := rfl
@[simp] theorem q_fd {ks vs : List D} : fullD g.flds (.dct ks vs) = some (.dct ks vs) := rfl
/-! names -/
@[simp] theorem q_at0 {x : Option R} {l : Env} : Env.at (x :: l) 0 = x := rfl
@[simp] theorem q_atS {x : Option R} {l : Env} {i : Nat} : Env.at (x :: l) (i + 1) = Env.at l i := rfl
/-- what a name that holds r reads as -/
def rdO (fl : Nat → List Nat) (i : Nat) (o : Option R) (ρ : Env) : Res R := match o with
  | some (.val d) => .ok (.val d) ρ
  | some r => if r.fullB fl = true then .ok (.val r.toD) (ρ.set i (some (.val r.toD))) else .stuck
  | none => .stuck
def avO (i : Nat) (o : Option R) (ρ : Env) : Res Ar := match o with
  | some (.val d) => .ok (.v (.val d)) ρ
  | some _ => .ok (.b i) ρ
  | none => .stuck
@[simp] theorem q_rd {fl : Nat → List Nat} {i : Nat} : rdVar fl i ρ = rdO fl i (ρ.at i) ρ := rfl
@[simp] theorem q_av {i : Nat} : argVar i ρ = avO i (ρ.at i) ρ := rfl
@[simp] theorem q_rdv {fl : Nat → List Nat} {i : Nat} {d : D} : rdO fl i (some (.val d)) ρ = .ok (.val d) ρ := rfl
@[simp] theorem q_rdl {fl : Nat → List Nat} {i : Nat} {ds : List D} : rdO fl i (some (.lst ds)) ρ = .ok (.val (.lst ds)) (ρ.set i (some (.val (.lst ds)))) := rfl
@[simp] theorem q_rdd {fl : Nat → List Nat} {i : Nat} {ks vs : List D} : rdO fl i (some (.dct ks vs)) ρ = .ok (.val (.dct ks vs)) (ρ.set i (some (.val (.dct ks vs)))) := rfl
@[simp] theorem q_avv {i : Nat} {d : D} : avO i (some (.val d)) ρ = .ok (.v (.val d)) ρ := rfl
@[simp] theorem q_avl {i : Nat} {ds : List D} : avO i (some (.lst ds)) ρ = .ok (.b i) ρ := rfl
@[simp] theorem q_avd {i : Nat} {ks vs : List D} : avO i (some (.dct ks vs)) ρ = .ok (.b i) ρ := rfl
@[simp] theorem q_avo {i c : Nat} {rs : List R} : avO i (some (.obj c rs)) ρ = .ok (.b i) ρ := rfl
/-! displays -/
@[simp] theorem q_ds0 : evDs g Φ .nil ρ = .ok [] ρ := rfl
@[simp] theorem q_dsc {e : IE} {es : IEs} : evDs g Φ (.cons e es) ρ = consK g Φ es (dE g Φ e ρ) := rfl
@[simp] theorem q_ck {es : IEs} {d : D} : consK g Φ es (.ok d ρ) = consK2 d (evDs g Φ es ρ) := rfl
@[simp] theorem q_ckx {es : IEs} {c : Nat} {d : D} : consK g Φ es (.exc c d ρ) = .exc c d ρ := rfl
@[simp] theorem q_ck2 {d : D} {ds : List D} : consK2 d (.ok ds ρ) = .ok (d :: ds) ρ := rfl
@[simp] theorem q_tk {ds : List D} : tupK (.ok ds ρ) = if ds.length ≤ 16777216 then .ok (.val (.tup ds)) ρ else .stuck := rfl
@[simp] theorem q_lk {ds : List D} : lstK (.ok ds ρ) = if ds.length ≤ 16777216 then .ok (.lst ds) ρ else .stuck := rfl
@[simp] theorem q_as0 : evAs g Φ .nil ρ = .ok [] ρ := rfl
@[simp] theorem q_asc {e : IE} {es : IEs} : evAs g Φ (.cons e es) ρ = argsK g Φ es (arE g Φ e ρ) := rfl
@[simp] theorem q_ak {es : IEs} {a : Ar} : argsK g Φ es (.ok a ρ) = argsK2 a (evAs g Φ es ρ) := rfl
@[simp] theorem q_akx {es : IEs} {c : Nat} {d : D} : argsK g Φ es (.exc c d ρ) = .exc c d ρ := rfl
@[simp] theorem q_ak2 {a : Ar} {as : List Ar} : argsK2 a (.ok as ρ) = .ok (a :: as) ρ := rfl
/-! operators -/
@[simp] theorem q_bk {op : Operator} {b : IE} {a : Ar} : binK g Φ op b (.ok a ρ) = binK2 g op a (arE g Φ b ρ) := rfl
@[simp] theorem q_bk2 {op : Operator} {a b : Ar} : binK2 g op a (.ok b ρ) = bin2 op (a.d g.flds ρ) (b.d g.flds ρ) ρ := rfl
@[simp] theorem q_b2 {op : Operator} {x y : D} : bin2 op (some x) (some y) ρ = opt (binD op x y) ρ := rfl
@[simp] theorem q_cmk {op : CmpOp} {b : IE} {a : Ar} : cmpK g Φ op b (.ok a ρ) = cmpK2 g op a (arE g Φ b ρ) := rfl
@[simp] theorem q_cmk2 {op : CmpOp} {a b : Ar} : cmpK2 g op a (.ok b ρ) = cmpA op (a.d g.flds ρ) (b.d g.flds ρ) ρ := rfl
@[simp] theorem q_cm {op : CmpOp} {x y : D} : cmpA op (some x) (some y) ρ = opt ((cmpD op x y).map fun b => .val (.bl b)) ρ := rfl
@[simp] theorem q_nk {i : Int} : negK (.ok (.int i) ρ) = .ok (.val (.int (-i))) ρ := rfl
@[simp] theorem q_tsk {a : Ar} : tstK g (.ok a ρ) = tst1 (a.d g.flds ρ) ρ := rfl
@[simp] theorem q_tskx {c : Nat} {d : D} : tstK g (.exc c d ρ) = .exc c d ρ := rfl
@[simp] theorem q_ts {d : D} : tst1 (some d) ρ = opt (truD d) ρ := rfl
@[simp] theorem q_ntk {b : Bool} : notK (.ok b ρ) = .ok (.val (.bl (!b))) ρ := rfl
@[simp] theorem q_b1 {k : Bool} {e : IE} : evB g Φ k (.cons e .nil) ρ = evE g Φ e ρ := rfl
@[simp] theorem q_bc {k : Bool} {e e2 : IE} {es : IEs} : evB g Φ k (.cons e (.cons e2 es)) ρ = bopK g Φ k (.cons e2 es) (dE g Φ e ρ) := rfl
@[simp] theorem q_bpk {k : Bool} {es : IEs} {d : D} : bopK g Φ k es (.ok d ρ) = bop2 g Φ k es (truD d) d ρ := rfl
@[simp] theorem q_bp2 {k t : Bool} {es : IEs} {d : D} : bop2 g Φ k es (some t) d ρ = if t = k then evB g Φ k es ρ else .ok (.val d) ρ := rfl
@[simp] theorem q_ik {a b : IE} {k : Bool} : iteK g Φ a b (.ok k ρ) = if k = true then evE g Φ a ρ else evE g Φ b ρ := rfl
@[simp] theorem q_eqk {b : IE} {x : D} : eqoK g Φ b (.ok x ρ) = eqoK2 g Φ x (dE g Φ b ρ) := rfl
@[simp] theorem q_eqk2 {x y : D} : eqoK2 g Φ x (.ok y ρ) = eqoR g Φ x y ρ := rfl
@[simp] theorem q_c2 {o1 o2 : CmpOp} {b c : IE} {x : D} : c2K g Φ o1 o2 b c (.ok x ρ) = c2K2 g Φ o1 o2 c x (dE g Φ b ρ) := rfl
@[simp] theorem q_c22 {o1 o2 : CmpOp} {c : IE} {x y : D} : c2K2 g Φ o1 o2 c x (.ok y ρ) = c2a g Φ o2 c y (cmpD o1 x y) ρ := rfl
@[simp] theorem q_c2t {o2 : CmpOp} {c : IE} {y : D} {t : Bool} : c2a g Φ o2 c y (some t) ρ = if t = true then c2K3 o2 y (dE g Φ c ρ) else .ok (.val (.bl false)) ρ := by cases t <;> rfl
@[simp] theorem q_c23 {o2 : CmpOp} {y z : D} : c2K3 o2 y (.ok z ρ) = opt ((cmpD o2 y z).map fun k => .val (.bl k)) ρ := rfl
/-! subscripts -/
@[simp] theorem q_ixk {b : IE} {a : Ar} : ixK g Φ b (.ok a ρ) = ixK2 g a (dE g Φ b ρ) := rfl
@[simp] theorem q_ixk2 {a : Ar} {y : D} : ixK2 g a (.ok y ρ) = ix1 (a.d g.flds ρ) y ρ := rfl
@[simp] theorem q_ix {x y : D} : ix1 (some x) y ρ = opt ((idxD x y).map .val) ρ := rfl
@[simp] theorem q_slk {lo hi : IO} {a : Ar} : slK g Φ lo hi (.ok a ρ) = slK2 g Φ a hi (evO g Φ lo ρ) := rfl
@[simp] theorem q_slk2 {hi : IO} {a : Ar} {l : Option Int} : slK2 g Φ a hi (.ok l ρ) = slK3 g a l (evO g Φ hi ρ) := rfl
@[simp] theorem q_slk3 {a : Ar} {l h : Option Int} : slK3 g a l (.ok h ρ) = sl1 (a.d g.flds ρ) l h ρ := rfl
@[simp] theorem q_sl {x : D} {l h : Option Int} : sl1 (some x) l h ρ = opt (slcD x l h) ρ := rfl
@[simp] theorem q_rvk {a : Ar} : revK g (.ok a ρ) = rev1 (a.d g.flds ρ) ρ := rfl
@[simp] theorem q_rv {x : D} : rev1 (some x) ρ = opt (revD x) ρ := rfl
@[simp] theorem q_o0 : evO g Φ .non ρ = .ok none ρ := rfl
@[simp] theorem q_o1 {e : IE} : evO g Φ (.som e) ρ = oK (dE g Φ e ρ) := rfl
@[simp] theorem q_ok {i : Int} : oK (.ok (.int i) ρ) = .ok (some i) ρ := rfl
@[simp] theorem q_atv {f : Nat} {r : R} : atV g f (some r) ρ = opt ((attrO g f r).map .val) ρ := rfl
@[simp] theorem q_atk {f : Nat} {x : D} : atK g f (.ok x ρ) = opt ((attrR g f x).map .val) ρ := rfl
@[simp] theorem q_atO {f : Nat} {d : D} : attrO g f (.val d) = attrR g f d := rfl
/-! calls -/
@[simp] theorem q_calk {f : Nat} {as : List Ar} : calK Φ f (.ok as ρ) = callR Φ f as ρ := rfl
@[simp] theorem q_calkx {f c : Nat} {d : D} : calK Φ f (.exc c d ρ) = .exc c d ρ := rfl
@[simp] theorem q_mak {c : Nat} {as : List Ar} : makK g Φ c (.ok as ρ) = makeR Φ g.ini c as ρ := rfl
@[simp] theorem q_makx {c x : Nat} {d : D} : makK g Φ c (.exc x d ρ) = .exc x d ρ := rfl
@[simp] theorem q_cbk {b : BF} {as : List Ar} : cbK g b (.ok as ρ) = cb1 b (getDs g.flds ρ as) ρ := rfl
@[simp] theorem q_cb1 {b : BF} {ds : List D} : cb1 b (some ds) ρ = opt (cbD b ds) ρ := rfl
@[simp] theorem q_gd0 : getDs g.flds ρ [] = some [] := rfl
/-- one more -/
def consO : Option D → Option (List D) → Option (List D)
  | some d, some ds => some (d :: ds)
  | _, _ => none
@[simp] theorem q_gdc {a : Ar} {as : List Ar} : getDs g.flds ρ (a :: as) = consO (a.d g.flds ρ) (getDs g.flds ρ as) := by
  show (match a.d g.flds ρ, getDs g.flds ρ as with
    | some d, some ds => some (d :: ds)
    | _, _ => none) = _
  cases a.d g.flds ρ <;> cases getDs g.flds ρ as <;> rfl
@[simp] theorem q_co {d : D} {ds : List D} : consO (some d) (some ds) = some (d :: ds) := rfl
@[simp] theorem q_isk {t : IsT} {a : Ar} : isK g t (.ok a ρ) = is1 g t (a.d g.flds ρ) ρ := rfl
@[simp] theorem q_is1 {t : IsT} {x : D} : is1 g t (some x) ρ = opt ((isiD g.nc x t).map fun b => .val (.bl b)) ρ := rfl
@[simp] theorem q_srt {ds : List D} : srtK (.ok (.lst ds) ρ) = if ds.length < 64 then opt ((allI ds).map fun ns => .lst ((usort ns).map .int)) ρ else .stuck := rfl
/-! walks -/
@[simp] theorem q_iseq {e : IE} : evI g Φ (.seq e) ρ = seqK (dE g Φ e ρ) := rfl
@[simp] theorem q_ienum {e : IE} : evI g Φ (.enum e) ρ = enumK (dE g Φ e ρ) := rfl
@[simp] theorem q_izip {a b : IE} : evI g Φ (.zip a b) ρ = zipK g Φ b (dE g Φ a ρ) := by
  show ((dE g Φ a ρ).bind fun x ρ => (dE g Φ b ρ).bind fun y ρ => match x, y with
    | .lst xs, .lst ys => .ok (zipD xs ys) ρ
    | .tup xs, .tup ys => .ok (zipD xs ys) ρ
    | _, _ => .stuck) = _
  unfold zipK zip1
  rfl
@[simp] theorem q_seqk {d : D} : seqK (.ok d ρ) = seq1 d ρ := rfl
@[simp] theorem q_seqt {ds : List D} : seq1 (.tup ds) ρ = .ok ds ρ := rfl
@[simp] theorem q_seql {ds : List D} : seq1 (.lst ds) ρ = .ok ds ρ := rfl
@[simp] theorem q_seqr {i j : Int} : seq1 (.rng i j) ρ = if rngOk i j = true then .ok (rngL i j) ρ else .stuck := rfl
@[simp] theorem q_enumk {ds : List D} : enumK (.ok (.lst ds) ρ) = .ok (enumD ds) ρ := rfl
@[simp] theorem q_zipk {b : IE} {x : D} : zipK g Φ b (.ok x ρ) = zipK2 x (dE g Φ b ρ) := rfl
@[simp] theorem q_zipk2 {x y : D} : zipK2 x (.ok y ρ) = zip1 x y ρ := rfl
@[simp] theorem q_zipl {xs ys : List D} : zip1 (.lst xs) (.lst ys) ρ = .ok (zipD xs ys) ρ := rfl
@[simp] theorem q_zipt {xs ys : List D} : zip1 (.tup xs) (.tup ys) ρ = .ok (zipD xs ys) ρ := rfl
@[simp] theorem q_comk {elt : IE} {own : List Nat} {tg : Tg} {c : IO} {ds : List D} : comK g Φ elt own tg c (.ok ds ρ) = compE g Φ elt own tg c ds ρ := rfl
@[simp] theorem q_com2k {elt : IE} {own own1 : List Nat} {tg tg1 : Tg} {src1 : II} {c : IO} {ds : List D} : com2K g Φ elt own own1 tg tg1 src1 c (.ok ds ρ) = comp2E g Φ elt own own1 tg tg1 src1 c ds ρ := rfl
@[simp] theorem q_c0 : evC g Φ .non ρ = .ok true ρ := rfl
@[simp] theorem q_c1 {e : IE} : evC g Φ (.som e) ρ = tstK g (arE g Φ e ρ) := rfl
/-! ### statements -/
@[simp] theorem q_ss0 : evSs g Φ .nil ρ = .nx ρ := rfl
@[simp] theorem q_ssc {s : IS} {ss : ISs} : evSs g Φ (.cons s ss) ρ = seqS g Φ ss (evS g Φ s ρ) := rfl
@[simp] theorem q_snx {ss : ISs} : seqS g Φ ss (.nx ρ) = evSs g Φ ss ρ := rfl
@[simp] theorem q_srt' {ss : ISs} {r : R} : seqS g Φ ss (.rt r ρ) = .rt r ρ := rfl
@[simp] theorem q_sbk {ss : ISs} : seqS g Φ ss (.bk ρ) = .bk ρ := rfl
@[simp] theorem q_sct {ss : ISs} : seqS g Φ ss (.ct ρ) = .ct ρ := rfl
@[simp] theorem q_sex {ss : ISs} {c : Nat} {d : D} : seqS g Φ ss (.exc c d ρ) = .exc c d ρ := rfl
@[simp] theorem q_asg {i : Nat} {e : IE} : evS g Φ (.asg i e) ρ = asgK i (evE g Φ e ρ) := rfl
@[simp] theorem q_asgk {i : Nat} {r : R} : asgK i (.ok r ρ) = .nx (ρ.set i (some r)) := rfl
@[simp] theorem q_asgx {i c : Nat} {d : D} : asgK i (.exc c d ρ) = .exc c d ρ := rfl
@[simp] theorem q_unp {is : List Nat} {e : IE} : evS g Φ (.unp is e) ρ = unpK is (dE g Φ e ρ) := rfl
@[simp] theorem q_unpk {is : List Nat} {d : D} : unpK is (.ok d ρ) = unp1 (setTg (.many is) d ρ) := rfl
@[simp] theorem q_unpx {is : List Nat} {c : Nat} {d : D} : unpK is (.exc c d ρ) = .exc c d ρ := rfl
@[simp] theorem q_unp1 : unp1 (some ρ) = .nx ρ := rfl
@[simp] theorem q_tg1 {i : Nat} {d : D} : setTg (.one i) d ρ = some (ρ.set i (some (.val d))) := rfl
@[simp] theorem q_tgm {is : List Nat} {ds : List D} : setTg (.many is) (.tup ds) ρ = if is.length = ds.length then some (storeL is ds ρ) else none := rfl
@[simp] theorem q_st0 {ds : List D} : storeL [] ds ρ = ρ := by cases ds <;> rfl
@[simp] theorem q_stc {i : Nat} {is : List Nat} {d : D} {ds : List D} : storeL (i :: is) (d :: ds) ρ = storeL is ds (ρ.set i (some (.val d))) := rfl
@[simp] theorem q_seti {i : Nat} {k v : IE} : evS g Φ (.seti i k v) ρ = stiK g Φ i k (dE g Φ v ρ) := by
  show ((dE g Φ v ρ).thn fun d ρ => match ρ.at i with
    | some (.lst _) => (dE g Φ k ρ).thn fun k ρ => (match ρ.at i, k with
      | some (.lst ds), .int k => (match L2.ixN ds.length k with
        | some j => .nx (ρ.set i (some (.lst (ds.set j d))))
        | none => .stuck)
      | _, _ => .stuck)
    | _ => .stuck) = _
  unfold stiK sti1 stiK2 sti2
  rfl
@[simp] theorem q_stik {i : Nat} {k : IE} {d : D} : stiK g Φ i k (.ok d ρ) = sti1 g Φ i k d (ρ.at i) ρ := rfl
@[simp] theorem q_sti1 {i : Nat} {k : IE} {d : D} {ds : List D} : sti1 g Φ i k d (some (.lst ds)) ρ = stiK2 i d (dE g Φ k ρ) := rfl
@[simp] theorem q_stik2 {i : Nat} {d k : D} : stiK2 i d (.ok k ρ) = sti2 i d (ρ.at i) k ρ := rfl
@[simp] theorem q_setd {i : Nat} {k v : IE} : evS g Φ (.setd i k v) ρ = stdK g Φ i k (dE g Φ v ρ) := by
  show ((dE g Φ v ρ).thn fun d ρ => match ρ.at i with
    | some (.dct _ _) => (dE g Φ k ρ).thn fun k ρ => (match ρ.at i with
      | some (.dct ks vs) => if keyOk ks k = true ∧ ks.length < 16777216 then .nx (ρ.set i (some (.dct (dPutK ks k) (dPutV ks vs k d)))) else .stuck
      | _ => .stuck)
    | _ => .stuck) = _
  unfold stdK std1 stdK2 std2
  rfl
@[simp] theorem q_stdk {i : Nat} {k : IE} {d : D} : stdK g Φ i k (.ok d ρ) = std1 g Φ i k d (ρ.at i) ρ := rfl
@[simp] theorem q_std1 {i : Nat} {k : IE} {d : D} {ks vs : List D} : std1 g Φ i k d (some (.dct ks vs)) ρ = stdK2 i d (dE g Φ k ρ) := rfl
@[simp] theorem q_stdk2 {i : Nat} {d k : D} : stdK2 i d (.ok k ρ) = std2 i d (ρ.at i) k ρ := rfl
@[simp] theorem q_std2 {i : Nat} {d k : D} {ks vs : List D} : std2 i d (some (.dct ks vs)) k ρ = if keyOk ks k = true ∧ ks.length < 16777216 then .nx (ρ.set i (some (.dct (dPutK ks k) (dPutV ks vs k d)))) else .stuck := rfl
@[simp] theorem q_fld {i f : Nat} {e : IE} : evS g Φ (.fld i f e) ρ = fldK g i f (dE g Φ e ρ) := rfl
@[simp] theorem q_fldk {i f : Nat} {d : D} : fldK g i f (.ok d ρ) = fld1 g i f d (ρ.at i) ρ := rfl
@[simp] theorem q_fld1 {i f c : Nat} {d : D} {rs : List R} : fld1 g i f d (some (.obj c rs)) ρ = if c < g.nc ∧ (g.flds c).idxOf f = rs.length ∧ rs.length < (g.flds c).length then .nx (ρ.set i (some (.obj c (rs ++ [.val d])))) else .stuck := rfl
@[simp] theorem q_app {i : Nat} {e : IE} : evS g Φ (.app i e) ρ = app1 g Φ i e (ρ.at i) ρ := rfl
@[simp] theorem q_app1 {i : Nat} {e : IE} {ds : List D} : app1 g Φ i e (some (.lst ds)) ρ = appK i (dE g Φ e ρ) := rfl
@[simp] theorem q_appk {i : Nat} {d : D} : appK i (.ok d ρ) = app2 i d (ρ.at i) ρ := rfl
@[simp] theorem q_app2 {i : Nat} {d : D} {ds : List D} : app2 i d (some (.lst ds)) ρ = if ds.length < 16777216 then .nx (ρ.set i (some (.lst (ds ++ [d])))) else .stuck := rfl
@[simp] theorem q_insr {i : Nat} {k e : IE} : evS g Φ (.insr i k e) ρ = ins1 g Φ i k e (ρ.at i) ρ := by
  show (match ρ.at i with
    | some (.lst _) => (dE g Φ k ρ).thn fun k ρ => (dE g Φ e ρ).thn fun d ρ => (match ρ.at i, k with
      | some (.lst ds), .int k => if ds.length < 16777216 ∧ 0 ≤ k ∧ k < 9223372036854775808 then .nx (ρ.set i (some (.lst (ds.take k.toNat ++ d :: ds.drop k.toNat)))) else .stuck
      | _, _ => .stuck)
    | _ => .stuck) = _
  unfold ins1 insK insK2 ins2
  rfl
@[simp] theorem q_ins1 {i : Nat} {k e : IE} {ds : List D} : ins1 g Φ i k e (some (.lst ds)) ρ = insK g Φ i e (dE g Φ k ρ) := rfl
@[simp] theorem q_insk {i : Nat} {e : IE} {k : D} : insK g Φ i e (.ok k ρ) = insK2 i k (dE g Φ e ρ) := rfl
@[simp] theorem q_insk2 {i : Nat} {k d : D} : insK2 i k (.ok d ρ) = ins2 i k d (ρ.at i) ρ := rfl
@[simp] theorem q_ins2 {i : Nat} {k : Int} {d : D} {ds : List D} : ins2 i (.int k) d (some (.lst ds)) ρ = if ds.length < 16777216 ∧ 0 ≤ k ∧ k < 9223372036854775808 then .nx (ρ.set i (some (.lst (ds.take k.toNat ++ d :: ds.drop k.toNat)))) else .stuck := rfl
@[simp] theorem q_ex {e : IE} : evS g Φ (.ex e) ρ = exK (evE g Φ e ρ) := rfl
@[simp] theorem q_exk {r : R} : exK (.ok r ρ) = .nx ρ := rfl
@[simp] theorem q_exx {c : Nat} {d : D} : exK (.exc c d ρ) = .exc c d ρ := rfl
@[simp] theorem q_ifs {c : IE} {a b : ISs} : evS g Φ (.ifs c a b) ρ = ifK g Φ a b (tstK g (arE g Φ c ρ)) := rfl
@[simp] theorem q_ifk {a b : ISs} {k : Bool} : ifK g Φ a b (.ok k ρ) = if k = true then evSs g Φ a ρ else evSs g Φ b ρ := rfl
@[simp] theorem q_ifx {a b : ISs} {c : Nat} {d : D} : ifK g Φ a b (.exc c d ρ) = .exc c d ρ := rfl
@[simp] theorem q_for {tg : Tg} {src : II} {body : ISs} : evS g Φ (.for_ tg src body) ρ = forK g Φ tg body (evI g Φ src ρ) := rfl
@[simp] theorem q_fork {tg : Tg} {body : ISs} {ds : List D} : forK g Φ tg body (.ok ds ρ) = forE g Φ tg body ds ρ := rfl
@[simp] theorem q_forx {tg : Tg} {body : ISs} {c : Nat} {d : D} : forK g Φ tg body (.exc c d ρ) = .exc c d ρ := rfl
@[simp] theorem q_ret {e : IE} : evS g Φ (.ret e) ρ = retK (evE g Φ e ρ) := rfl
@[simp] theorem q_retk {r : R} : retK (.ok r ρ) = .rt r ρ := rfl
@[simp] theorem q_retx {c : Nat} {d : D} : retK (.exc c d ρ) = .exc c d ρ := rfl
@[simp] theorem q_retm {i : Nat} : evS g Φ (.retm i) ρ = retm1 i (ρ.at i) ρ := rfl
@[simp] theorem q_retm1 {i : Nat} {r : R} : retm1 i (some r) ρ = .rt r (ρ.set i none) := rfl
@[simp] theorem q_rai {c : Nat} {e : IE} : evS g Φ (.rai c e) ρ = raiK c (dE g Φ e ρ) := rfl
@[simp] theorem q_raik {c : Nat} {d : D} : raiK c (.ok d ρ) = .exc c d ρ := rfl
@[simp] theorem q_try {body : ISs} {hs : List Hd} : evS g Φ (.try_ body hs) ρ = tryK g hs (evSs g Φ body ρ) := rfl
@[simp] theorem q_trn {hs : List Hd} : tryK g hs (.nx ρ) = .nx ρ := rfl
@[simp] theorem q_trr {hs : List Hd} {r : R} : tryK g hs (.rt r ρ) = .rt r ρ := rfl
@[simp] theorem q_tre {hs : List Hd} {c : Nat} {d : D} : tryK g hs (.exc c d ρ) = evHs g hs c d ρ := rfl
@[simp] theorem q_brk : evS g Φ .brk ρ = .bk ρ := rfl
@[simp] theorem q_cnt : evS g Φ .cnt ρ = .ct ρ := rfl
@[simp] theorem q_pas : evS g Φ .pas ρ = .nx ρ := rfl
/-! ### calls of defs: by the value alone -/
end
inductive VRes where
  | ok (r : R) | exc (c : Nat) (d : D) | stuck
def FRes.v : FRes → VRes
  | .ok r _ => .ok r
  | .exc c d _ => .exc c d
  | .stuck => .stuck
def VRes.res : VRes → Env → Res R
  | .ok r, ρ => .ok r ρ
  | .exc c d, ρ => .exc c d ρ
  | .stuck, _ => .stuck
section
variable {g : G} {Φ : Fn} {ρ : Env}
@[simp] theorem q_vok {r : R} : (VRes.ok r).res ρ = .ok r ρ := rfl
@[simp] theorem q_vex {c : Nat} {d : D} : (VRes.exc c d).res ρ = .exc c d ρ := rfl
theorem hand_vs : ∀ (rs : List R), hand (rs.map Ar.v) ρ = some (rs, ρ)
  | [] => rfl
  | r :: rs => by
    show (hand (rs.map Ar.v) ρ).map _ = _
    rw [hand_vs rs]; rfl
theorem give_vs : ∀ (rs : List R) (outs : Env), giveB (rs.map Ar.v) outs ρ = ρ
  | [], _ => rfl
  | r :: rs, [] => rfl
  | r :: rs, o :: outs => give_vs rs outs
theorem call_vs {f : Nat} (rs : List R) : callR Φ f (rs.map Ar.v) ρ = (Φ f rs).v.res ρ := by
  unfold callR
  rw [hand_vs]
  dsimp only
  cases Φ f rs with
  | ok r outs => show Res.ok r (giveB _ _ _) = _; rw [give_vs]; rfl
  | exc c d outs => show Res.exc c d (giveB _ _ _) = _; rw [give_vs]; rfl
  | stuck => rfl
@[simp] theorem q_call1 {f : Nat} {a : R} : callR Φ f [.v a] ρ = (Φ f [a]).v.res ρ := call_vs [a]
@[simp] theorem q_call2 {f : Nat} {a b : R} : callR Φ f [.v a, .v b] ρ = (Φ f [a, b]).v.res ρ := call_vs [a, b]
@[simp] theorem q_call3 {f : Nat} {a b c : R} : callR Φ f [.v a, .v b, .v c] ρ = (Φ f [a, b, c]).v.res ρ := call_vs [a, b, c]
@[simp] theorem q_call4 {f : Nat} {a b c d : R} : callR Φ f [.v a, .v b, .v c, .v d] ρ = (Φ f [a, b, c, d]).v.res ρ := call_vs [a, b, c, d]
@[simp] theorem q_call5 {f : Nat} {a b c d e : R} : callR Φ f [.v a, .v b, .v c, .v d, .v e] ρ = (Φ f [a, b, c, d, e]).v.res ρ := call_vs [a, b, c, d, e]
@[simp] theorem q_call6 {f : Nat} {a b c d e h : R} : callR Φ f [.v a, .v b, .v c, .v d, .v e, .v h] ρ = (Φ f [a, b, c, d, e, h]).v.res ρ := call_vs [a, b, c, d, e, h]
/-- a borrowed first argument -/
def back1 (i : Nat) (x : FRes) (ρ : Env) : Res R := match x with
  | .ok r (o :: _) => .ok r (ρ.set i o)
  | .ok r [] => .ok r (ρ.set i none)
  | .exc c d (o :: _) => .exc c d (ρ.set i o)
  | .exc c d [] => .exc c d (ρ.set i none)
  | .stuck => .stuck
def callB1 (Φ : Fn) (f i : Nat) (as : List R) (o : Option R) (ρ : Env) : Res R := match o with
  | some r => back1 i (Φ f (r :: as)) ρ
  | none => .stuck
theorem call_b1 {f i : Nat} (rs : List R) : callR Φ f (.b i :: rs.map Ar.v) ρ = callB1 Φ f i rs (ρ.at i) ρ := by
  unfold callR
  have e : hand (.b i :: rs.map Ar.v) ρ = match ρ.at i with
    | some r => (hand (rs.map Ar.v) (ρ.set i none)).map fun p => (r :: p.1, p.2)
    | none => none := rfl
  rw [e]
  cases ρ.at i with
  | none => rfl
  | some r =>
    dsimp only
    rw [hand_vs]
    show (match Φ f (r :: rs) with
      | .ok x outs => Res.ok x (giveB (.b i :: rs.map Ar.v) outs (ρ.set i none))
      | .exc c d outs => .exc c d (giveB (.b i :: rs.map Ar.v) outs (ρ.set i none))
      | .stuck => .stuck) = back1 i (Φ f (r :: rs)) ρ
    have gv : ∀ outs : Env, giveB (.b i :: rs.map Ar.v) outs (ρ.set i none) = match outs with
      | o :: _ => ρ.set i o
      | [] => ρ.set i none := fun outs => by
      cases outs with
      | nil => rfl
      | cons o os =>
        show (giveB (rs.map Ar.v) os (ρ.set i none)).set i o = _
        rw [give_vs, List.set_set]
    cases Φ f (r :: rs) with
    | ok x outs => dsimp only; rw [gv]; cases outs <;> rfl
    | exc c d outs => dsimp only; rw [gv]; cases outs <;> rfl
    | stuck => rfl
@[simp] theorem q_callb1 {f i : Nat} : callR Φ f [.b i] ρ = callB1 Φ f i [] (ρ.at i) ρ := call_b1 []
@[simp] theorem q_callb2 {f i : Nat} {a : R} : callR Φ f [.b i, .v a] ρ = callB1 Φ f i [a] (ρ.at i) ρ := call_b1 [a]
@[simp] theorem q_callb3 {f i : Nat} {a b : R} : callR Φ f [.b i, .v a, .v b] ρ = callB1 Φ f i [a, b] (ρ.at i) ρ := call_b1 [a, b]
@[simp] theorem q_callb4 {f i : Nat} {a b c : R} : callR Φ f [.b i, .v a, .v b, .v c] ρ = callB1 Φ f i [a, b, c] (ρ.at i) ρ := call_b1 [a, b, c]
@[simp] theorem q_cb1s {f i : Nat} {as : List R} {r : R} : callB1 Φ f i as (some r) ρ = back1 i (Φ f (r :: as)) ρ := rfl
@[simp] theorem q_bk1 {i : Nat} {r : R} {o : Option R} {os : Env} : back1 i (.ok r (o :: os)) ρ = .ok r (ρ.set i o) := rfl
@[simp] theorem q_bk1x {i c : Nat} {d : D} {o : Option R} {os : Env} : back1 i (.exc c d (o :: os)) ρ = .exc c d (ρ.set i o) := rfl
end
/-! ### the def's end -/
@[simp] theorem q_finr {d : DefI} {r : R} {ρ : Env} : (d.fin (.rt r ρ)).v = .ok r := rfl
@[simp] theorem q_finn {d : DefI} {ρ : Env} : (d.fin (.nx ρ)).v = .ok (.val .non) := rfl
@[simp] theorem q_finx {d : DefI} {c : Nat} {v : D} {ρ : Env} : (d.fin (.exc c v ρ)).v = .exc c v := rfl
theorem q_fin {d : DefI} {r : R} {ρ : Env} : d.fin (.rt r ρ) = .ok r (outsA d.wr ρ 0 d.ps.length) := rfl
theorem q_fin0 {d : DefI} {ρ : Env} : d.fin (.nx ρ) = .ok (.val .non) (outsA d.wr ρ 0 d.ps.length) := rfl
theorem q_finE {d : DefI} {c : Nat} {v : D} {ρ : Env} : d.fin (.exc c v ρ) = .exc c v (outsA d.wr ρ 0 d.ps.length) := rfl
/-- a def, opened -/
theorem phi {md : Md} {n f : Nat} {d : DefI} {rs : List R} (hd : md.defs[f]? = some d) (hl : rs.length = d.ps.length) : md.Φ (n + 1) f rs = d.fin (evSs md.g (md.Φ n) d.body (d.env rs)) := by
  show (match md.defs[f]? with
    | some d => if rs.length = d.ps.length then d.fin (evSs md.g (md.Φ n) d.body (d.env rs)) else .stuck
    | none => .stuck) = _
  rw [hd]
  show (if rs.length = d.ps.length then d.fin (evSs md.g (md.Φ n) d.body (d.env rs)) else .stuck) = _
  rw [if_pos hl]
@[simp] theorem q_env {d : DefI} {rs : List R} : d.env rs = rs.map some ++ List.replicate (d.N.length - rs.length) none := rfl
section
variable {c : Prop} [Decidable c]
@[simp] theorem ii_res {α : Type} {a b : α} {ρ : Env} : (if c then Res.ok a ρ else Res.ok b ρ) = Res.ok (if c then a else b) ρ := by split <;> rfl
@[simp] theorem ii_val {a b : D} : (if c then R.val a else R.val b) = R.val (if c then a else b) := by split <;> rfl
@[simp] theorem ii_lst {a b : List D} : (if c then R.lst a else R.lst b) = R.lst (if c then a else b) := by split <;> rfl
@[simp] theorem ii_bl {a b : Bool} : (if c then D.bl a else D.bl b) = D.bl (if c then a else b) := by split <;> rfl
@[simp] theorem ii_int {a b : Int} : (if c then D.int a else D.int b) = D.int (if c then a else b) := by split <;> rfl
@[simp] theorem ii_some {α : Type} {a b : α} : (if c then some a else some b) = some (if c then a else b) := by split <;> rfl
end
/-- what a def tells, what it hands back -/
def finV : SRes → VRes
  | .nx _ => .ok (.val .non)
  | .rt r _ => .ok r
  | .exc c d _ => .exc c d
  | _ => .stuck
def finF (wr : List Nat) (k : Nat) : SRes → FRes
  | .nx ρ => .ok (.val .non) (outsA wr ρ 0 k)
  | .rt r ρ => .ok r (outsA wr ρ 0 k)
  | .exc c v ρ => .exc c v (outsA wr ρ 0 k)
  | _ => .stuck
@[simp] theorem fv_n {ρ : Env} : finV (.nx ρ) = .ok (.val .non) := rfl
@[simp] theorem fv_r {r : R} {ρ : Env} : finV (.rt r ρ) = .ok r := rfl
@[simp] theorem fv_x {c : Nat} {d : D} {ρ : Env} : finV (.exc c d ρ) = .exc c d := rfl
@[simp] theorem ff_n {wr : List Nat} {k : Nat} {ρ : Env} : finF wr k (.nx ρ) = .ok (.val .non) (outsA wr ρ 0 k) := rfl
@[simp] theorem ff_r {wr : List Nat} {k : Nat} {r : R} {ρ : Env} : finF wr k (.rt r ρ) = .ok r (outsA wr ρ 0 k) := rfl
@[simp] theorem ff_x {wr : List Nat} {k c : Nat} {d : D} {ρ : Env} : finF wr k (.exc c d ρ) = .exc c d (outsA wr ρ 0 k) := rfl
theorem phi_v {md : Md} {n f : Nat} {d : DefI} {rs : List R} (hd : md.defs[f]? = some d) (hl : rs.length = d.ps.length) : (md.Φ (n + 1) f rs).v = finV (evSs md.g (md.Φ n) d.body (d.env rs)) := by
  rw [phi hd hl]
  cases evSs md.g (md.Φ n) d.body (d.env rs) <;> rfl
theorem phi_f {md : Md} {n f : Nat} {d : DefI} {rs : List R} (hd : md.defs[f]? = some d) (hl : rs.length = d.ps.length) : md.Φ (n + 1) f rs = finF d.wr d.ps.length (evSs md.g (md.Φ n) d.body (d.env rs)) := by
  rw [phi hd hl]
  cases evSs md.g (md.Φ n) d.body (d.env rs) <;> rfl
end Fx
end
section
set_option linter.all false
set_option Elab.async false
set_option maxRecDepth 100000
set_option maxHeartbeats 1000000
/-! Operations on data, comprehensions, loops: as rewriting. -/
namespace Fx
open PySem (Operator CmpOp)
/-! ### operations -/
@[simp] theorem o_add {i j : Int} : binD .Add (.int i) (.int j) = some (.val (.int (i + j))) := rfl
@[simp] theorem o_sub {i j : Int} : binD .Sub (.int i) (.int j) = some (.val (.int (i - j))) := rfl
@[simp] theorem o_mul {i j : Int} : binD .Mult (.int i) (.int j) = if mulOk i j = true then some (.val (.int (i * j))) else none := rfl
@[simp] theorem o_div {i j : Int} : binD .FloorDiv (.int i) (.int j) = if 0 < j ∧ j < 1073741824 then some (.val (.int (i / j))) else none := rfl
@[simp] theorem o_mod {i j : Int} : binD .Mod (.int i) (.int j) = if 0 < j then some (.val (.int (i % j))) else none := rfl
@[simp] theorem o_pow {i j : Int} : binD .Pow (.int i) (.int j) = if 0 ≤ j ∧ j ≤ 1000000 ∧ i.natAbs < 18446744073709551616 then some (.val (.int (i ^ j.toNat))) else none := rfl
@[simp] theorem o_catT {a b : List D} : binD .Add (.tup a) (.tup b) = if a.length + b.length ≤ 16777216 then some (.val (.tup (a ++ b))) else none := rfl
@[simp] theorem o_catL {a b : List D} : binD .Add (.lst a) (.lst b) = if a.length + b.length ≤ 16777216 then some (.lst (a ++ b)) else none := rfl
@[simp] theorem o_catS {a b : PySem.Str} : binD .Add (.str a) (.str b) = if a.length + b.length ≤ 16777216 then some (.val (.str (a ++ b))) else none := rfl
@[simp] theorem o_repT {a : List D} {k : Int} : binD .Mult (.tup a) (.int k) = if a ≠ [] ∧ 2 ≤ k ∧ k ≤ 1000 ∧ a.length ≤ 1000 then some (.val (.tup (List.replicate k.toNat a).flatten)) else none := rfl
@[simp] theorem o_lt {x y : D} : cmpD .Lt x y = ltD x y := rfl
@[simp] theorem o_gt {x y : D} : cmpD .Gt x y = ltD y x := rfl
@[simp] theorem o_le {x y : D} : cmpD .LtE x y = (ltD y x).map not := rfl
@[simp] theorem o_ge {x y : D} : cmpD .GtE x y = (ltD x y).map not := rfl
@[simp] theorem o_eq {x y : D} : cmpD .Eq x y = eqD x y := rfl
@[simp] theorem o_ne {x y : D} : cmpD .NotEq x y = (eqD x y).map not := rfl
@[simp] theorem o_is {x y : D} : cmpD .Is x y = isD x y := rfl
@[simp] theorem o_isn {x y : D} : cmpD .IsNot x y = (isD x y).map not := rfl
@[simp] theorem o_in {x y : D} : cmpD .In x y = inD x y := rfl
@[simp] theorem o_ni {x y : D} : cmpD .NotIn x y = (inD x y).map not := rfl
@[simp] theorem o_ltI {i j : Int} : ltD (.int i) (.int j) = some (decide (i < j)) := rfl
@[simp] theorem o_isN {x : D} : isD x .non = some x.isNon := by cases x <;> rfl
@[simp] theorem o_isB {a b : Bool} : isD (.bl a) (.bl b) = some (a == b) := rfl
@[simp] theorem o_nn : D.isNon .non = true := rfl
@[simp] theorem o_nb {b : Bool} : D.isNon (.bl b) = false := rfl
@[simp] theorem o_ni' {i : Int} : D.isNon (.int i) = false := rfl
@[simp] theorem o_nt {ds : List D} : D.isNon (.tup ds) = false := rfl
@[simp] theorem o_nl {ds : List D} : D.isNon (.lst ds) = false := rfl
@[simp] theorem o_ns {x : PySem.Str} : D.isNon (.str x) = false := rfl
@[simp] theorem o_nins {c : Nat} {ds : List D} : D.isNon (.ins c ds) = false := rfl
@[simp] theorem o_tb {b : Bool} : truD (.bl b) = some b := rfl
@[simp] theorem o_ti {i : Int} : truD (.int i) = some (i != 0) := rfl
@[simp] theorem o_tn : truD .non = some false := rfl
@[simp] theorem o_tt {ds : List D} : truD (.tup ds) = some (!ds.isEmpty) := rfl
@[simp] theorem o_tl {ds : List D} : truD (.lst ds) = some (!ds.isEmpty) := rfl
@[simp] theorem o_ixT {ds : List D} {k : Int} : idxD (.tup ds) (.int k) = L2.atI ds k := rfl
@[simp] theorem o_ixL {ds : List D} {k : Int} : idxD (.lst ds) (.int k) = L2.atI ds k := rfl
@[simp] theorem o_ixD {ks vs : List D} {k : D} : idxD (.dct ks vs) k = if keyOk ks k = true then dGet ks vs k else none := by cases k <;> rfl
@[simp] theorem o_slT {ds : List D} {l h : Option Int} : slcD (.tup ds) l h = some (.val (.tup (cutD ds l h))) := rfl
@[simp] theorem o_slL {ds : List D} {l h : Option Int} : slcD (.lst ds) l h = some (.lst (cutD ds l h)) := rfl
@[simp] theorem o_rvT {ds : List D} : revD (.tup ds) = some (.val (.tup ds.reverse)) := rfl
@[simp] theorem o_rvL {ds : List D} : revD (.lst ds) = some (.lst ds.reverse) := rfl
@[simp] theorem b_lenT {ds : List D} : cbD .len [.tup ds] = some (.val (.int ds.length)) := rfl
@[simp] theorem b_lenL {ds : List D} : cbD .len [.lst ds] = some (.val (.int ds.length)) := rfl
@[simp] theorem b_abs {i : Int} : cbD .abs [.int i] = some (.val (.int i.natAbs)) := by
  show some (R.val (.int (if i < 0 then -i else i))) = _
  have e : (if i < 0 then -i else i) = ((i.natAbs : Nat) : Int) := by split <;> omega
  rw [e]
@[simp] theorem b_int {i : Int} : cbD .int [.int i] = some (.val (.int i)) := rfl
@[simp] theorem b_intb {b : Bool} : cbD .int [.bl b] = some (.val (.int (if b then 1 else 0))) := rfl
@[simp] theorem b_str {i : Int} : cbD .str [.int i] = if i.natAbs.log2 < 1920 then some (.val (.str (toString i))) else none := rfl
@[simp] theorem b_listT {ds : List D} : cbD .list [.tup ds] = some (.lst ds) := rfl
@[simp] theorem b_listL {ds : List D} : cbD .list [.lst ds] = some (.lst ds) := rfl
@[simp] theorem b_tupT {ds : List D} : cbD .tuple [.tup ds] = some (.val (.tup ds)) := rfl
@[simp] theorem b_tupL {ds : List D} : cbD .tuple [.lst ds] = some (.val (.tup ds)) := rfl
@[simp] theorem b_all {ds : List D} : cbD .all [.lst ds] = (allB ds).map fun bs => .val (.bl (bs.all id)) := rfl
@[simp] theorem b_any {ds : List D} : cbD .any [.lst ds] = (allB ds).map fun bs => .val (.bl (bs.any id)) := rfl
@[simp] theorem b_sum {ds : List D} : cbD .sum [.lst ds] = (allI ds).map fun ns => .val (.int ns.sum) := rfl
@[simp] theorem b_rng1 {n : Int} : cbD .range [.int n] = some (.val (.rng 0 n)) := rfl
@[simp] theorem b_rng2 {i j : Int} : cbD .range [.int i, .int j] = some (.val (.rng i j)) := rfl
@[simp] theorem b_tupR {i j : Int} : cbD .tuple [.rng i j] = if rngOk i j = true ∧ (j - i).toNat ≤ 16777216 then some (.val (.tup (rngL i j))) else none := rfl
@[simp] theorem b_listR {i j : Int} : cbD .list [.rng i j] = if rngOk i j = true ∧ (j - i).toNat ≤ 16777216 then some (.lst (rngL i j)) else none := rfl
@[simp] theorem b_srtL {ds : List D} : cbD .sorted [.lst ds] = (sortD ds).map .lst := rfl
@[simp] theorem b_srtD {ds vs : List D} : cbD .sorted [.dct ds vs] = (sortD ds).map .lst := rfl
@[simp] theorem b_lenD {ds vs : List D} : cbD .len [.dct ds vs] = some (.val (.int ds.length)) := rfl
@[simp] theorem b_max2 {i j : Int} : cbD .max [.int i, .int j] = some (.val (.int (max i j))) := rfl
@[simp] theorem b_min2 {i j : Int} : cbD .min [.int i, .int j] = some (.val (.int (min i j))) := rfl
@[simp] theorem b_maxL {ds : List D} : cbD .max [.lst ds] = (allI ds).bind fun ns => (maxI ns).map fun m => .val (.int m) := rfl
@[simp] theorem b_maxT {ds : List D} : cbD .max [.tup ds] = (allI ds).bind fun ns => (maxI ns).map fun m => .val (.int m) := rfl
@[simp] theorem b_minL {ds : List D} : cbD .min [.lst ds] = (allI ds).bind fun ns => (minI ns).map fun m => .val (.int m) := rfl
@[simp] theorem b_minT {ds : List D} : cbD .min [.tup ds] = (allI ds).bind fun ns => (minI ns).map fun m => .val (.int m) := rfl
/-! ### isinstance -/
section
variable {nc : Nat} {t : IsT}
@[simp] theorem i_int {i : Int} : isiD nc (.int i) t = some (decide (t = .int)) := rfl
@[simp] theorem i_bl {b : Bool} : isiD nc (.bl b) t = some (decide (t = .int) || decide (t = .bool)) := rfl
@[simp] theorem i_tup {ds : List D} : isiD nc (.tup ds) t = some (decide (t = .tuple) || decide (t = .listTuple)) := rfl
@[simp] theorem i_lst {ds : List D} : isiD nc (.lst ds) t = some (decide (t = .list) || decide (t = .listTuple)) := rfl
@[simp] theorem i_str {x : PySem.Str} : isiD nc (.str x) t = some (decide (t = .str)) := rfl
@[simp] theorem i_non : isiD nc .non t = some false := rfl
@[simp] theorem i_ins {c : Nat} {ds : List D} : isiD nc (.ins c ds) t = if c < nc then some (decide (t = .cls c)) else none := rfl
end
/-! ### lists of booleans, of ints -/
@[simp] theorem allB_nil : allB [] = some [] := rfl
@[simp] theorem allB_cons {b : Bool} {ds : List D} : allB (.bl b :: ds) = (allB ds).map (b :: ·) := rfl
@[simp] theorem allB_map {α : Type} {f : α → Bool} : ∀ {l : List α}, allB (l.map fun x => .bl (f x)) = some (l.map f)
  | [] => rfl
  | x :: l => by show (allB _).map _ = _; rw [allB_map]; rfl
@[simp] theorem allI_nil : allI [] = some [] := rfl
@[simp] theorem allI_cons {b : Int} {ds : List D} : allI (.int b :: ds) = (allI ds).map (b :: ·) := rfl
@[simp] theorem allI_map {α : Type} {f : α → Int} : ∀ {l : List α}, allI (l.map fun x => .int (f x)) = some (l.map f)
  | [] => rfl
  | x :: l => by show (allI _).map _ = _; rw [allI_map]; rfl
@[simp] theorem allI_map' : ∀ {l : List Int}, allI (l.map D.int) = some l
  | [] => rfl
  | x :: l => by show (allI _).map _ = _; rw [allI_map']; rfl
/-! ### plainness, depth, equality -/
@[simp] theorem p_non : D.plain .non = true := rfl
@[simp] theorem p_bl {b : Bool} : D.plain (.bl b) = true := rfl
@[simp] theorem p_int {i : Int} : D.plain (.int i) = true := rfl
@[simp] theorem p_str {x : PySem.Str} : D.plain (.str x) = true := rfl
@[simp] theorem p_tup {ds : List D} : D.plain (.tup ds) = D.plains ds := rfl
@[simp] theorem p_lst {ds : List D} : D.plain (.lst ds) = D.plains ds := rfl
@[simp] theorem p_ins {c : Nat} {ds : List D} : D.plain (.ins c ds) = false := rfl
@[simp] theorem ps_nil : D.plains [] = true := rfl
@[simp] theorem ps_cons {d : D} {ds : List D} : D.plains (d :: ds) = (d.plain && D.plains ds) := rfl
theorem plains_all : ∀ {ds : List D}, D.plains ds = ds.all D.plain
  | [] => rfl
  | d :: ds => by rw [ps_cons, plains_all]; rfl
@[simp] theorem ps_app {a b : List D} : D.plains (a ++ b) = (D.plains a && D.plains b) := by rw [plains_all, plains_all, plains_all, List.all_append]
@[simp] theorem ps_map {α : Type} {f : α → D} {l : List α} : D.plains (l.map f) = l.all fun x => (f x).plain := by rw [plains_all, List.all_map]; rfl
/-- nested no deeper than n -/
def D.dle : Nat → D → Bool
  | 0, .tup _ => false
  | 0, .lst _ => false
  | n + 1, .tup ds => ds.all (D.dle n)
  | n + 1, .lst ds => ds.all (D.dle n)
  | _, _ => true
theorem depths_le {n : Nat} : ∀ {ds : List D}, (∀ d ∈ ds, d.depth ≤ n) → D.depths ds ≤ n
  | [], _ => Nat.zero_le _
  | d :: ds, h => by
    show max d.depth (D.depths ds) ≤ n
    have := h d (by simp)
    have := depths_le (ds := ds) fun d hd => h d (by simp [hd])
    omega
theorem dle_depth : ∀ {n : Nat} {d : D}, d.dle n = true → d.depth ≤ n
  | 0, .tup _, h => by cases h
  | 0, .lst _, h => by cases h
  | n + 1, .tup ds, h => by
    have h : ds.all (D.dle n) = true := h
    show D.depths ds + 1 ≤ n + 1
    have := depths_le (n := n) (ds := ds) fun d hd => dle_depth (List.all_eq_true.mp h d hd)
    omega
  | n + 1, .lst ds, h => by
    have h : ds.all (D.dle n) = true := h
    show D.depths ds + 1 ≤ n + 1
    have := depths_le (n := n) (ds := ds) fun d hd => dle_depth (List.all_eq_true.mp h d hd)
    omega
  | _, .non, _ => Nat.zero_le _
  | _, .bl _, _ => Nat.zero_le _
  | _, .int _, _ => Nat.zero_le _
  | _, .str _, _ => Nat.zero_le _
  | _, .rng _ _, _ => Nat.zero_le _
  | _, .ins _ _, _ => Nat.zero_le _
  | _, .dct _ _, _ => Nat.zero_le _
@[simp] theorem d_tup {n : Nat} {ds : List D} : D.dle (n + 1) (.tup ds) = ds.all (D.dle n) := rfl
@[simp] theorem d_lst {n : Nat} {ds : List D} : D.dle (n + 1) (.lst ds) = ds.all (D.dle n) := rfl
@[simp] theorem d_non {n : Nat} : D.dle n .non = true := by cases n <;> rfl
@[simp] theorem d_bl {n : Nat} {b : Bool} : D.dle n (.bl b) = true := by cases n <;> rfl
@[simp] theorem d_int {n : Nat} {i : Int} : D.dle n (.int i) = true := by cases n <;> rfl
@[simp] theorem d_str {n : Nat} {x : PySem.Str} : D.dle n (.str x) = true := by cases n <;> rfl
/-- one of two is not deep -/
theorem eqD_of {x y : D} (h1 : x.plain = true) (h2 : y.plain = true) (h3 : (x.dle 12 || y.dle 12) = true) : eqD x y = some (x.eqv y) := by
  unfold eqD
  rw [if_pos]
  rw [h1, h2]
  simp only [Bool.true_and, decide_eq_true_eq]
  rcases Bool.or_eq_true _ _ ▸ h3 with h | h <;> (have := dle_depth h; omega)
@[simp] theorem eqD_ok {x y : D} (h1 : x.plain = true) (h2 : y.plain = true) (h3 : (x.dle 12 || y.dle 12) = true) : eqD x y = some (x.eqv y) := eqD_of h1 h2 h3
@[simp] theorem inD_t {x : D} {ds : List D} (h1 : x.plain = true) (h2 : D.plains ds = true) (h3 : x.dle 12 = true) : inD x (.tup ds) = some (ds.any fun y => y.eqv x) := by
  unfold inD
  dsimp only
  rw [if_pos]
  rw [h1, h2]
  have := dle_depth h3
  simp only [Bool.true_and, decide_eq_true_eq]
  omega
@[simp] theorem inD_l {x : D} {ds : List D} (h1 : x.plain = true) (h2 : D.plains ds = true) (h3 : x.dle 12 = true) : inD x (.lst ds) = some (ds.any fun y => y.eqv x) := by
  unfold inD
  dsimp only
  rw [if_pos]
  rw [h1, h2]
  have := dle_depth h3
  simp only [Bool.true_and, decide_eq_true_eq]
  omega
theorem inD_d {x : D} {ks vs : List D} : inD x (.dct ks vs) = if keyOk ks x = true then some (dFind ks x).isSome else none := by cases x <;> rfl
@[simp] theorem v_ii {i j : Int} : D.eqv (.int i) (.int j) = decide (i = j) := by show (i == j) = _; exact Bool.beq_eq_decide_eq i j
@[simp] theorem v_bb {i j : Bool} : D.eqv (.bl i) (.bl j) = (i == j) := rfl
@[simp] theorem v_ss {i j : PySem.Str} : D.eqv (.str i) (.str j) = (i == j) := rfl
@[simp] theorem v_tt {a b : List D} : D.eqv (.tup a) (.tup b) = D.eqvs a b := rfl
@[simp] theorem v_ll {a b : List D} : D.eqv (.lst a) (.lst b) = D.eqvs a b := rfl
@[simp] theorem v_nn : D.eqv .non .non = true := rfl
@[simp] theorem v_nt {b : List D} : D.eqv .non (.tup b) = false := rfl
@[simp] theorem v_tn {b : List D} : D.eqv (.tup b) .non = false := rfl
@[simp] theorem v_nl {b : List D} : D.eqv .non (.lst b) = false := rfl
@[simp] theorem v_ln {b : List D} : D.eqv (.lst b) .non = false := rfl
@[simp] theorem v_ni {i : Int} : D.eqv .non (.int i) = false := rfl
@[simp] theorem v_in {i : Int} : D.eqv (.int i) .non = false := rfl
@[simp] theorem v_ns {i : PySem.Str} : D.eqv .non (.str i) = false := rfl
@[simp] theorem v_sn {i : PySem.Str} : D.eqv (.str i) .non = false := rfl
@[simp] theorem v_nb {i : Bool} : D.eqv .non (.bl i) = false := rfl
@[simp] theorem v_bn {i : Bool} : D.eqv (.bl i) .non = false := rfl
@[simp] theorem v_it {i : Int} {b : List D} : D.eqv (.int i) (.tup b) = false := rfl
@[simp] theorem v_ti {i : Int} {b : List D} : D.eqv (.tup b) (.int i) = false := rfl
@[simp] theorem v_il {i : Int} {b : List D} : D.eqv (.int i) (.lst b) = false := rfl
@[simp] theorem v_li {i : Int} {b : List D} : D.eqv (.lst b) (.int i) = false := rfl
@[simp] theorem v_is {i : Int} {b : PySem.Str} : D.eqv (.int i) (.str b) = false := rfl
@[simp] theorem v_si {i : Int} {b : PySem.Str} : D.eqv (.str b) (.int i) = false := rfl
@[simp] theorem v_tl {a b : List D} : D.eqv (.tup a) (.lst b) = false := rfl
@[simp] theorem v_lt {a b : List D} : D.eqv (.lst a) (.tup b) = false := rfl
@[simp] theorem v_st {a : PySem.Str} {b : List D} : D.eqv (.str a) (.tup b) = false := rfl
@[simp] theorem v_ts {a : PySem.Str} {b : List D} : D.eqv (.tup b) (.str a) = false := rfl
@[simp] theorem v_sl {a : PySem.Str} {b : List D} : D.eqv (.str a) (.lst b) = false := rfl
@[simp] theorem v_ls {a : PySem.Str} {b : List D} : D.eqv (.lst b) (.str a) = false := rfl
@[simp] theorem v_bt {a : Bool} {b : List D} : D.eqv (.bl a) (.tup b) = false := rfl
@[simp] theorem v_tb {a : Bool} {b : List D} : D.eqv (.tup b) (.bl a) = false := rfl
@[simp] theorem v_bl {a : Bool} {b : List D} : D.eqv (.bl a) (.lst b) = false := rfl
@[simp] theorem v_lb {a : Bool} {b : List D} : D.eqv (.lst b) (.bl a) = false := rfl
@[simp] theorem v_bs {a : Bool} {b : PySem.Str} : D.eqv (.bl a) (.str b) = false := rfl
@[simp] theorem v_sb {a : Bool} {b : PySem.Str} : D.eqv (.str b) (.bl a) = false := rfl
@[simp] theorem v_ib {i : Int} {b : Bool} : D.eqv (.int i) (.bl b) = decide (i = if b then 1 else 0) := by show (i == _) = _; exact Bool.beq_eq_decide_eq _ _
@[simp] theorem v_bi {i : Int} {b : Bool} : D.eqv (.bl b) (.int i) = decide ((if b then 1 else 0) = i) := by show (_ == i) = _; exact Bool.beq_eq_decide_eq _ _
@[simp] theorem vs_nil : D.eqvs [] [] = true := rfl
@[simp] theorem vs_cn {x : D} {xs : List D} : D.eqvs (x :: xs) [] = false := rfl
@[simp] theorem vs_nc {x : D} {xs : List D} : D.eqvs [] (x :: xs) = false := rfl
@[simp] theorem vs_cc {x y : D} {xs ys : List D} : D.eqvs (x :: xs) (y :: ys) = (x.eqv y && D.eqvs xs ys) := rfl
/-- rows of like things -/
theorem vs_map {α : Type} [DecidableEq α] {f : α → D} (h : ∀ a b, (f a).eqv (f b) = decide (a = b)) : ∀ {xs ys : List α}, D.eqvs (xs.map f) (ys.map f) = decide (xs = ys)
  | [], [] => rfl
  | [], _ :: _ => rfl
  | _ :: _, [] => rfl
  | x :: xs, y :: ys => by
    rw [List.map_cons, List.map_cons, vs_cc, h, vs_map h]
    by_cases e : x = y
    · subst e; simp
    · simp [e]
@[simp] theorem vs_ints {xs ys : List Int} : D.eqvs (xs.map D.int) (ys.map D.int) = decide (xs = ys) := vs_map fun a b => by simp
@[simp] theorem vs_nilL {α : Type} {f : α → D} {xs : List α} : D.eqvs (xs.map f) [] = xs.isEmpty := by cases xs <;> rfl
@[simp] theorem vs_nilR {α : Type} {f : α → D} {xs : List α} : D.eqvs [] (xs.map f) = xs.isEmpty := by cases xs <;> rfl
/-! ### encodings -/
/-- a tuple of ints, a pair, tuples of such -/
def tI (xs : List Int) : D := .tup (xs.map .int)
def pr (p : Int × Int) : D := .tup [.int p.1, .int p.2]
def tP (xs : List (Int × Int)) : D := .tup (xs.map pr)
def tII (xs : List (List Int)) : D := .tup (xs.map tI)
@[simp] theorem tI_eqv {a b : List Int} : (tI a).eqv (tI b) = decide (a = b) := vs_ints
@[simp] theorem pr_eqv {a b : Int × Int} : (pr a).eqv (pr b) = decide (a = b) := by
  obtain ⟨a1, a2⟩ := a
  obtain ⟨b1, b2⟩ := b
  simp [pr, Prod.mk.injEq]
@[simp] theorem vs_prs {xs ys : List (Int × Int)} : D.eqvs (xs.map pr) (ys.map pr) = decide (xs = ys) := vs_map fun a b => pr_eqv
@[simp] theorem vs_tIs {xs ys : List (List Int)} : D.eqvs (xs.map tI) (ys.map tI) = decide (xs = ys) := vs_map fun a b => tI_eqv
@[simp] theorem tI_plain {a : List Int} : (tI a).plain = true := by simp [tI]
@[simp] theorem pr_plain {a : Int × Int} : (pr a).plain = true := by simp [pr]
@[simp] theorem tP_plain {a : List (Int × Int)} : (tP a).plain = true := by simp [tP]
@[simp] theorem tII_plain {a : List (List Int)} : (tII a).plain = true := by simp [tII]
@[simp] theorem tI_dle {a : List Int} {n : Nat} : (tI a).dle (n + 1) = true := by simp [tI]
@[simp] theorem pr_dle {a : Int × Int} {n : Nat} : (pr a).dle (n + 1) = true := by simp [pr]
@[simp] theorem tP_dle {a : List (Int × Int)} {n : Nat} : (tP a).dle (n + 2) = true := by simp [tP]
@[simp] theorem tII_dle {a : List (List Int)} {n : Nat} : (tII a).dle (n + 2) = true := by simp [tII]
@[simp] theorem any_ints {xs : List Int} {k : Int} : (xs.map D.int).any (fun y => y.eqv (.int k)) = decide (k ∈ xs) := by
  rw [List.any_map]
  induction xs with
  | nil => rfl
  | cons x xs ih =>
    rw [List.any_cons, ih]
    simp [eq_comm]
@[simp] theorem any_prs {xs : List (Int × Int)} {k : Int × Int} : (xs.map pr).any (fun y => y.eqv (pr k)) = decide (k ∈ xs) := by
  rw [List.any_map]
  induction xs with
  | nil => rfl
  | cons x xs ih =>
    rw [List.any_cons, ih]
    simp [eq_comm]
@[simp] theorem any_tIs {xs : List (List Int)} {k : List Int} : (xs.map tI).any (fun y => y.eqv (tI k)) = decide (k ∈ xs) := by
  rw [List.any_map]
  induction xs with
  | nil => rfl
  | cons x xs ih =>
    rw [List.any_cons, ih]
    simp [eq_comm]
/-! ### ranges, places -/
def irange (lo hi : Int) : List Int := (List.range (hi - lo).toNat).map fun (i : Nat) => lo + i
theorem rngL_ir {lo hi : Int} : rngL lo hi = (irange lo hi).map D.int := by unfold rngL irange; rw [List.map_map]; rfl
@[simp] theorem q_rngL {lo hi : Int} : rngL lo hi = (irange lo hi).map D.int := rngL_ir
@[simp] theorem mem_irange {lo hi k : Int} : k ∈ irange lo hi ↔ lo ≤ k ∧ k < hi := by
  unfold irange
  rw [List.mem_map]
  constructor
  · rintro ⟨i, h, rfl⟩
    have := List.mem_range.mp h
    omega
  · intro h
    exact ⟨(k - lo).toNat, List.mem_range.mpr (by omega), by omega⟩
@[simp] theorem len_irange {lo hi : Int} : (irange lo hi).length = (hi - lo).toNat := by unfold irange; simp
theorem irange_succ {lo hi : Int} (h : lo < hi) : irange lo hi = lo :: irange (lo + 1) hi := by
  unfold irange
  have e : (hi - lo).toNat = (hi - (lo + 1)).toNat + 1 := by omega
  rw [e, List.range_succ_eq_map, List.map_cons, List.map_map]
  congr 1
  · simp
  · apply List.map_congr_left
    intro i _
    simp only [Function.comp_apply]
    omega
theorem irange_nil {lo hi : Int} (h : hi ≤ lo) : irange lo hi = [] := by
  unfold irange
  have e : (hi - lo).toNat = 0 := by omega
  rw [e]; rfl
/-- the item at a place -/
def ix {α : Type} [Inhabited α] (xs : List α) (i : Int) : α := xs.getD i.toNat default
theorem atI_ix {α β : Type} [Inhabited α] {f : α → β} {xs : List α} {i : Int} (h0 : 0 ≤ i) (h1 : i < xs.length) : L2.atI (xs.map f) i = some (f (ix xs i)) := by
  have e : i = ((i.toNat : Nat) : Int) := by omega
  unfold L2.atI ix
  have h2 : i.toNat < xs.length := by omega
  have e2 : L2.ixN (xs.map f).length i = some i.toNat := by
    unfold L2.ixN
    rw [List.length_map]
    simp [h0, h1]
  rw [e2]
  show (xs.map f)[i.toNat]? = _
  rw [List.getElem?_map, List.getElem?_eq_getElem h2, List.getD_eq_getElem?_getD, List.getElem?_eq_getElem h2]
  rfl
@[simp] theorem q_atI {α β : Type} [Inhabited α] {f : α → β} {xs : List α} {i : Int} (h : 0 ≤ i ∧ i < xs.length) : L2.atI (xs.map f) i = some (f (ix xs i)) := atI_ix h.1 h.2
theorem ix_mem {α : Type} [Inhabited α] {xs : List α} {i : Int} (h0 : 0 ≤ i) (h1 : i < xs.length) : ix xs i ∈ xs := by
  unfold ix
  have h2 : i.toNat < xs.length := by omega
  rw [List.getD_eq_getElem?_getD, List.getElem?_eq_getElem h2]
  exact List.getElem_mem h2
@[simp] theorem atI_0 {α : Type} {x : α} {xs : List α} : L2.atI (x :: xs) 0 = some x := by unfold L2.atI L2.ixN; simp
theorem atI_nat {α : Type} {xs : List α} {i : Nat} {x : α} (h : xs[i]? = some x) : L2.atI xs (i : Int) = some x := by
  have hl := (List.getElem?_eq_some_iff.mp h).1
  unfold L2.atI L2.ixN
  rw [if_pos (by omega), if_pos (by omega)]
  exact h
@[simp] theorem atI_1 {α : Type} {x y : α} {xs : List α} : L2.atI (x :: y :: xs) 1 = some y := atI_nat (i := 1) rfl
@[simp] theorem atI_2 {α : Type} {x y z : α} {xs : List α} : L2.atI (x :: y :: z :: xs) 2 = some z := atI_nat (i := 2) rfl
theorem rngOk_of {a b : Int} (h1 : -1000000000 ≤ a) (h2 : a ≤ 1000000000) (h3 : -1000000000 ≤ b) (h4 : b ≤ 1000000000) : rngOk a b = true := by
  unfold rngOk
  simp only [Bool.and_eq_true, decide_eq_true_eq]
  omega
@[simp] theorem q_rngOk {a b : Int} (h : (-1000000000 ≤ a ∧ a ≤ 1000000000) ∧ -1000000000 ≤ b ∧ b ≤ 1000000000) : rngOk a b = true := rngOk_of h.1.1 h.1.2 h.2.1 h.2.2
/-! ### comprehensions that change nothing -/
/-- x is done, and the names are ρ -/
def Res.is {α : Type} (x : Res α) (ρ : Env) : Prop := ∃ a, x = .ok a ρ
def Res.get {α : Type} [Inhabited α] : Res α → α
  | .ok a _ => a
  | _ => default
@[simp] theorem is_ok {α : Type} {a : α} {ρ ρ' : Env} : (Res.ok a ρ).is ρ' ↔ ρ = ρ' := ⟨fun ⟨_, h⟩ => by cases h; rfl, fun h => ⟨a, by rw [h]⟩⟩
@[simp] theorem get_ok {α : Type} [Inhabited α] {a : α} {ρ : Env} : (Res.ok a ρ).get = a := rfl
theorem is_eq {α : Type} [Inhabited α] {x : Res α} {ρ : Env} (h : x.is ρ) : x = .ok x.get ρ := by obtain ⟨a, rfl⟩ := h; rfl
section
variable {g : G} {Φ : Fn} {ρ : Env} {α : Type}
theorem set_atE {i : Nat} (h : i < ρ.length) : ρ.set i (ρ.at i) = ρ := by
  apply List.ext_getElem?
  intro j
  by_cases e : i = j
  · subst e
    rw [List.getElem?_set_self h, List.getElem?_eq_getElem h]
    show some ((ρ[i]?).bind id) = _
    rw [List.getElem?_eq_getElem h]; rfl
  · rw [List.getElem?_set_ne e]
/-- the names behind a target -/
def tgE (tg : Tg) (d : D) (ρ : Env) : Env := (setTg tg d ρ).getD []
theorem compF_is {own : List Nat} {tg : Tg} {f : α → D} {c : Env → Res Bool} {el : Env → Res D} : ∀ {xs : List α} {acc : List D} {ρw : Env}, acc.length + xs.length ≤ 16777216 →
    (∀ x ∈ xs, setTg tg (f x) ρw = some (tgE tg (f x) ρw) ∧ wipeE (tgE tg (f x) ρw) own = ρw) →
    (∀ x ∈ xs, (c (tgE tg (f x) ρw)).is (tgE tg (f x) ρw)) → (∀ x ∈ xs, (c (tgE tg (f x) ρw)).get = true → (el (tgE tg (f x) ρw)).is (tgE tg (f x) ρw)) →
    compF own tg c el (xs.map f) ρw acc = .ok (acc ++ (xs.filter fun x => (c (tgE tg (f x) ρw)).get).map fun x => (el (tgE tg (f x) ρw)).get) ρw
  | [], acc, ρw, _, _, _, _ => by simp [compF]
  | x :: xs, acc, ρw, hl, ht, hc, he => by
    obtain ⟨t1, t2⟩ := ht x (by simp)
    rw [List.map_cons]
    unfold compF
    rw [t1]
    dsimp only
    rw [is_eq (hc x (by simp))]
    show (if (c (tgE tg (f x) ρw)).get = true then _ else _) = _
    have hl' : acc.length + xs.length + 1 ≤ 16777216 := by simp at hl; omega
    cases e : (c (tgE tg (f x) ρw)).get with
    | true =>
      rw [if_pos rfl, is_eq (he x (by simp) e)]
      show (if acc.length < 16777216 then _ else _) = _
      rw [if_pos (by omega), t2, compF_is (by simp; omega) (fun y h => ht y (by simp [h])) (fun y h => hc y (by simp [h])) (fun y h => he y (by simp [h]))]
      simp [List.filter_cons, e]
    | false =>
      rw [if_neg Bool.false_ne_true, t2, compF_is (by omega) (fun y h => ht y (by simp [h])) (fun y h => hc y (by simp [h])) (fun y h => he y (by simp [h]))]
      simp [List.filter_cons, e]
/-- one name -/
@[simp] theorem q_comp1 {i : Nat} {elt : IE} {c : IO} {f : α → D} {xs : List α} (hi : i < ρ.length) (hl : xs.length ≤ 16777216)
    (hc : ∀ x ∈ xs, (evC g Φ c (ρ.set i (some (.val (f x))))).is (ρ.set i (some (.val (f x)))))
    (he : ∀ x ∈ xs, (evC g Φ c (ρ.set i (some (.val (f x))))).get = true → (dE g Φ elt (ρ.set i (some (.val (f x))))).is (ρ.set i (some (.val (f x))))) :
    compE g Φ elt [i] (.one i) c (xs.map f) ρ = .ok (.lst ((xs.filter fun x => (evC g Φ c (ρ.set i (some (.val (f x))))).get).map fun x => (dE g Φ elt (ρ.set i (some (.val (f x))))).get)) ρ := by
  have et : ∀ x, tgE (.one i) (f x) (ρ.set i none) = ρ.set i (some (.val (f x))) := fun x => by
    show (ρ.set i none).set i _ = _
    rw [List.set_set]
  have k := compF_is (own := [i]) (tg := .one i) (f := f) (c := fun ρ => evC g Φ c ρ) (el := fun ρ => asD g.flds (evE g Φ elt ρ)) (xs := xs) (acc := []) (ρw := ρ.set i none) (by simpa using hl) (fun x _ => ⟨rfl, by
    show (tgE (.one i) (f x) (ρ.set i none)).set i none = _
    rw [et, List.set_set]⟩) (fun x h => by rw [et]; exact hc x h) (fun x h h' => by rw [et] at h' ⊢; exact he x h h')
  unfold compE
  show ((compF [i] (.one i) _ _ (xs.map f) (ρ.set i none) []).bind _).calm = _
  rw [k]
  show Res.ok (R.lst _) (restE ρ (ρ.set i none) [i]) = _
  have e : restE ρ (ρ.set i none) [i] = ρ := by
    show (ρ.set i none).set i (ρ.at i) = ρ
    rw [List.set_set, set_atE hi]
  rw [e]
  simp only [et, List.nil_append]
  rfl
theorem set_two {i j : Nat} {a b x y : Option R} (h : i ≠ j) : (((ρ.set j x).set i y).set i a).set j b = (ρ.set i a).set j b := by
  rw [List.set_set, List.set_comm _ _ (Ne.symm h), List.set_set]
/-- two names, of pairs -/
theorem comp_pair {i j : Nat} {elt : IE} {c : IO} {f : α → D} {p q : α → D} {xs : List α} (hf : ∀ x, f x = .tup [p x, q x]) (hij : i ≠ j) (hi : i < ρ.length) (hj : j < ρ.length) (hl : xs.length ≤ 16777216)
    (hc : ∀ x ∈ xs, (evC g Φ c ((ρ.set i (some (.val (p x)))).set j (some (.val (q x))))).is ((ρ.set i (some (.val (p x)))).set j (some (.val (q x)))))
    (he : ∀ x ∈ xs, (evC g Φ c ((ρ.set i (some (.val (p x)))).set j (some (.val (q x))))).get = true → (dE g Φ elt ((ρ.set i (some (.val (p x)))).set j (some (.val (q x))))).is ((ρ.set i (some (.val (p x)))).set j (some (.val (q x))))) :
    compE g Φ elt [i, j] (.many [i, j]) c (xs.map f) ρ = .ok (.lst ((xs.filter fun x => (evC g Φ c ((ρ.set i (some (.val (p x)))).set j (some (.val (q x))))).get).map fun x => (dE g Φ elt ((ρ.set i (some (.val (p x)))).set j (some (.val (q x))))).get)) ρ := by
  have es : ∀ x, setTg (.many [i, j]) (f x) ((ρ.set j none).set i none) = some ((ρ.set i (some (.val (p x)))).set j (some (.val (q x)))) := fun x => by
    rw [hf x]
    show some ((((ρ.set j none).set i none).set i _).set j _) = _
    rw [set_two hij]
  have et : ∀ x, tgE (.many [i, j]) (f x) ((ρ.set j none).set i none) = (ρ.set i (some (.val (p x)))).set j (some (.val (q x))) := fun x => by
    unfold tgE
    rw [es]; rfl
  have k := compF_is (own := [i, j]) (tg := .many [i, j]) (f := f) (c := fun ρ => evC g Φ c ρ) (el := fun ρ => asD g.flds (evE g Φ elt ρ)) (xs := xs) (acc := []) (ρw := (ρ.set j none).set i none) (by simpa using hl) (fun x _ => ⟨by rw [es, et], by
    rw [et]
    show (((ρ.set i _).set j _).set j none).set i none = _
    rw [List.set_set, List.set_comm _ _ hij, List.set_set]⟩) (fun x h => by rw [et]; exact hc x h) (fun x h h' => by rw [et] at h' ⊢; exact he x h h')
  unfold compE
  show ((compF [i, j] (.many [i, j]) _ _ (xs.map f) ((ρ.set j none).set i none) []).bind _).calm = _
  rw [k]
  show Res.ok (R.lst _) (restE ρ ((ρ.set j none).set i none) [i, j]) = _
  have e : restE ρ ((ρ.set j none).set i none) [i, j] = ρ := by
    show (((ρ.set j none).set i none).set j (ρ.at j)).set i (ρ.at i) = ρ
    rw [List.set_comm _ _ hij, List.set_set, List.set_set, List.set_comm _ _ (Ne.symm hij), set_atE hi, set_atE hj]
  rw [e]
  simp only [et, List.nil_append]
  rfl
@[simp] theorem q_compP {i j : Nat} {elt : IE} {c : IO} {xs : List (Int × Int)} (hij : i ≠ j) (hi : i < ρ.length) (hj : j < ρ.length) (hl : xs.length ≤ 16777216)
    (hc : ∀ x ∈ xs, (evC g Φ c ((ρ.set i (some (.val (.int x.1)))).set j (some (.val (.int x.2))))).is ((ρ.set i (some (.val (.int x.1)))).set j (some (.val (.int x.2)))))
    (he : ∀ x ∈ xs, (evC g Φ c ((ρ.set i (some (.val (.int x.1)))).set j (some (.val (.int x.2))))).get = true → (dE g Φ elt ((ρ.set i (some (.val (.int x.1)))).set j (some (.val (.int x.2))))).is ((ρ.set i (some (.val (.int x.1)))).set j (some (.val (.int x.2))))) :
    compE g Φ elt [i, j] (.many [i, j]) c (xs.map pr) ρ = .ok (.lst ((xs.filter fun x => (evC g Φ c ((ρ.set i (some (.val (.int x.1)))).set j (some (.val (.int x.2))))).get).map fun x => (dE g Φ elt ((ρ.set i (some (.val (.int x.1)))).set j (some (.val (.int x.2))))).get)) ρ :=
  comp_pair (fun x => rfl) hij hi hj hl hc he
@[simp] theorem q_compT {i j : Nat} {elt : IE} {c : IO} {p q : α → D} {xs : List α} (hij : i ≠ j) (hi : i < ρ.length) (hj : j < ρ.length) (hl : xs.length ≤ 16777216)
    (hc : ∀ x ∈ xs, (evC g Φ c ((ρ.set i (some (.val (p x)))).set j (some (.val (q x))))).is ((ρ.set i (some (.val (p x)))).set j (some (.val (q x)))))
    (he : ∀ x ∈ xs, (evC g Φ c ((ρ.set i (some (.val (p x)))).set j (some (.val (q x))))).get = true → (dE g Φ elt ((ρ.set i (some (.val (p x)))).set j (some (.val (q x))))).is ((ρ.set i (some (.val (p x)))).set j (some (.val (q x))))) :
    compE g Φ elt [i, j] (.many [i, j]) c (xs.map fun x => .tup [p x, q x]) ρ = .ok (.lst ((xs.filter fun x => (evC g Φ c ((ρ.set i (some (.val (p x)))).set j (some (.val (q x))))).get).map fun x => (dE g Φ elt ((ρ.set i (some (.val (p x)))).set j (some (.val (q x))))).get)) ρ :=
  comp_pair (fun x => rfl) hij hi hj hl hc he
@[simp] theorem q_zipD {β : Type} {f : α → D} {h : β → D} {xs : List α} {ys : List β} : zipD (xs.map f) (ys.map h) = (xs.zip ys).map fun p => .tup [f p.1, h p.2] := by
  unfold zipD
  rw [List.zip_map, List.map_map]; rfl
@[simp] theorem q_enumD {f : α → D} {xs : List α} : enumD (xs.map f) = (xs.zipIdx).map fun p => .tup [.int p.2, f p.1] := by
  unfold enumD
  rw [List.zipIdx_map, List.map_map]; rfl
/-- two clauses -/
theorem comp2_is {i j : Nat} {elt : IE} {src1 : II} {c : IO} {β : Type} {f : α → D} {h : β → D} {es : α → List β} {xs : List α} (hij : i ≠ j) (hi : i < ρ.length) (hj : j < ρ.length) (hl : (xs.flatMap es).length ≤ 16777216)
    (h1 : ∀ x ∈ xs, evI g Φ src1 ((ρ.set j none).set i (some (.val (f x)))) = .ok ((es x).map h) ((ρ.set j none).set i (some (.val (f x)))))
    (hc : ∀ x ∈ xs, ∀ y ∈ es x, (evC g Φ c ((ρ.set i (some (.val (f x)))).set j (some (.val (h y))))).is ((ρ.set i (some (.val (f x)))).set j (some (.val (h y)))))
    (he : ∀ x ∈ xs, ∀ y ∈ es x, (evC g Φ c ((ρ.set i (some (.val (f x)))).set j (some (.val (h y))))).get = true → (dE g Φ elt ((ρ.set i (some (.val (f x)))).set j (some (.val (h y))))).is ((ρ.set i (some (.val (f x)))).set j (some (.val (h y))))) :
    comp2E g Φ elt [i, j] [j] (.one i) (.one j) src1 c (xs.map f) ρ = .ok (.lst (xs.flatMap fun x => ((es x).filter fun y => (evC g Φ c ((ρ.set i (some (.val (f x)))).set j (some (.val (h y))))).get).map fun y => (dE g Φ elt ((ρ.set i (some (.val (f x)))).set j (some (.val (h y))))).get)) ρ := by
  have key : ∀ (xs : List α) (acc : List D), acc.length + (xs.flatMap es).length ≤ 16777216 →
      (∀ x ∈ xs, evI g Φ src1 ((ρ.set j none).set i (some (.val (f x)))) = .ok ((es x).map h) ((ρ.set j none).set i (some (.val (f x))))) →
      (∀ x ∈ xs, ∀ y ∈ es x, (evC g Φ c ((ρ.set i (some (.val (f x)))).set j (some (.val (h y))))).is ((ρ.set i (some (.val (f x)))).set j (some (.val (h y))))) →
      (∀ x ∈ xs, ∀ y ∈ es x, (evC g Φ c ((ρ.set i (some (.val (f x)))).set j (some (.val (h y))))).get = true → (dE g Φ elt ((ρ.set i (some (.val (f x)))).set j (some (.val (h y))))).is ((ρ.set i (some (.val (f x)))).set j (some (.val (h y))))) →
      compF2 [i, j] (.one i) (fun ρ => (evI g Φ src1 ρ).bind fun es ρ => .ok es (wipeE ρ [j])) (compF [j] (.one j) (fun ρ => evC g Φ c ρ) (fun ρ => asD g.flds (evE g Φ elt ρ))) (xs.map f) ((ρ.set j none).set i none) acc =
        .ok (acc ++ xs.flatMap fun x => ((es x).filter fun y => (evC g Φ c ((ρ.set i (some (.val (f x)))).set j (some (.val (h y))))).get).map fun y => (dE g Φ elt ((ρ.set i (some (.val (f x)))).set j (some (.val (h y))))).get) ((ρ.set j none).set i none) := by
    intro xs
    induction xs with
    | nil => intro acc _ _ _ _; simp [compF2]
    | cons x xs ih =>
      intro acc hl h1 hc he
      have hl' : acc.length + ((es x).length + (xs.flatMap es).length) ≤ 16777216 := by simpa [List.flatMap_cons] using hl
      rw [List.map_cons]
      unfold compF2
      show (((evI g Φ src1 (((ρ.set j none).set i none).set i (some (.val (f x))))).bind _).bind _) = _
      rw [List.set_set, h1 x (by simp)]
      have ej : ((ρ.set j none).set i (some (.val (f x)))).set j none = (ρ.set j none).set i (some (.val (f x))) := by
        rw [List.set_comm _ _ hij, List.set_set]
      show ((compF [j] (.one j) _ _ ((es x).map h) (((ρ.set j none).set i (some (.val (f x)))).set j none) acc).bind _) = _
      rw [ej]
      have es' : ∀ y, setTg (.one j) (h y) ((ρ.set j none).set i (some (.val (f x)))) = some ((ρ.set i (some (.val (f x)))).set j (some (.val (h y)))) := fun y => by
        show some (((ρ.set j none).set i _).set j _) = _
        rw [List.set_comm _ _ (Ne.symm hij), List.set_set]
      have et : ∀ y, tgE (.one j) (h y) ((ρ.set j none).set i (some (.val (f x)))) = (ρ.set i (some (.val (f x)))).set j (some (.val (h y))) := fun y => by
        unfold tgE
        rw [es']; rfl
      have k := compF_is (own := [j]) (tg := .one j) (f := h) (c := fun ρ => evC g Φ c ρ) (el := fun ρ => asD g.flds (evE g Φ elt ρ)) (xs := es x) (acc := acc) (ρw := (ρ.set j none).set i (some (.val (f x)))) (by omega) (fun y _ => ⟨by rw [es', et], by
        rw [et]
        show ((ρ.set i _).set j _).set j none = _
        rw [List.set_set, List.set_comm _ _ hij]⟩) (fun y hy => by rw [et]; exact hc x (by simp) y hy) (fun y hy h' => by rw [et] at h' ⊢; exact he x (by simp) y hy h')
      rw [k]
      have ew : wipeE ((ρ.set j none).set i (some (.val (f x)))) [i, j] = (ρ.set j none).set i none := by
        show (((ρ.set j none).set i (some (.val (f x)))).set j none).set i none = _
        rw [ej, List.set_set]
      show compF2 _ _ _ _ (xs.map f) (wipeE ((ρ.set j none).set i (some (.val (f x)))) [i, j]) _ = _
      rw [ew]
      have hle : ((es x).filter fun y => (evC g Φ c (tgE (.one j) (h y) ((ρ.set j none).set i (some (.val (f x)))))).get).length ≤ (es x).length := List.length_filter_le _ _
      rw [ih _ (by rw [List.length_append, List.length_map]; omega) (fun x h => h1 x (by simp [h])) (fun x h => hc x (by simp [h])) (fun x h => he x (by simp [h]))]
      simp only [et, List.flatMap_cons, List.append_assoc]
      rfl
  unfold comp2E
  show ((compF2 [i, j] (.one i) _ _ (xs.map f) ((ρ.set j none).set i none) []).bind _).calm = _
  rw [key xs [] (by simpa using hl) h1 hc he]
  show Res.ok (R.lst _) (restE ρ ((ρ.set j none).set i none) [i, j]) = _
  have e : restE ρ ((ρ.set j none).set i none) [i, j] = ρ := by
    show (((ρ.set j none).set i none).set j (ρ.at j)).set i (ρ.at i) = ρ
    rw [List.set_comm _ _ hij, List.set_set, List.set_set, List.set_comm _ _ (Ne.symm hij), set_atE hi, set_atE hj]
  rw [e, List.nil_append]
/-! ### loops -/
/-- every turn goes on: a fold, the other names are anything -/
theorem for_fold {S J : Type} {tg : Tg} {body : ISs} {f : α → D} (E : S → J → Env) (P : S → Prop) (k : S → α → S) : ∀ {xs : List α} {s : S} {j : J}, P s →
    (∀ s j x, x ∈ xs → P s → P (k s x) ∧ ∃ ρ1 j', setTg tg (f x) (E s j) = some ρ1 ∧ (evSs g Φ body ρ1 = .nx (E (k s x) j') ∨ evSs g Φ body ρ1 = .ct (E (k s x) j'))) →
    P (xs.foldl k s) ∧ ∃ j', forE g Φ tg body (xs.map f) (E s j) = .nx (E (xs.foldl k s) j')
  | [], s, j, hp, _ => ⟨hp, j, rfl⟩
  | x :: xs, s, j, hp, h => by
    obtain ⟨hp', ρ1, j', e1, e2⟩ := h s j x (by simp) hp
    obtain ⟨q1, j2, q2⟩ := for_fold (tg := tg) (body := body) (f := f) E P k (xs := xs) (s := k s x) (j := j') hp' fun s j y hy => h s j y (by simp [hy])
    refine ⟨q1, j2, ?_⟩
    rw [List.foldl_cons]
    rw [← q2]
    unfold forE
    rw [List.map_cons]
    show (match setTg tg (f x) (E s j) with
      | none => SRes.stuck
      | some ρ1 => match evSs g Φ body ρ1 with
        | .nx ρ2 => forF tg (fun ρ => evSs g Φ body ρ) (xs.map f) ρ2
        | .ct ρ2 => forF tg (fun ρ => evSs g Φ body ρ) (xs.map f) ρ2
        | .bk ρ2 => .nx ρ2
        | x => x) = _
    rw [e1]
    rcases e2 with e2 | e2
    · dsimp only; rw [e2]
    · dsimp only; rw [e2]
/-- a turn may return -/
theorem for_run {S J Q : Type} {tg : Tg} {body : ISs} {f : α → D} (E : S → J → Env) (P : S → Prop) (k : S → α → Except Q S) (T : Q → SRes → Prop) : ∀ {xs : List α} {s : S} {j : J}, P s →
    (∀ s j x, x ∈ xs → P s → ∃ ρ1, setTg tg (f x) (E s j) = some ρ1 ∧ match k s x with
      | .ok s' => P s' ∧ ∃ j', (evSs g Φ body ρ1 = .nx (E s' j') ∨ evSs g Φ body ρ1 = .ct (E s' j'))
      | .error q => T q (evSs g Φ body ρ1) ∧ ∃ r ρ2, evSs g Φ body ρ1 = .rt r ρ2) →
    match xs.foldlM k s with
    | .ok s' => P s' ∧ ∃ j', forE g Φ tg body (xs.map f) (E s j) = .nx (E s' j')
    | .error q => T q (forE g Φ tg body (xs.map f) (E s j)) ∧ ∃ r ρ2, forE g Φ tg body (xs.map f) (E s j) = .rt r ρ2
  | [], s, j, hp, _ => ⟨hp, j, rfl⟩
  | x :: xs, s, j, hp, h => by
    obtain ⟨ρ1, e1, e2⟩ := h s j x (by simp) hp
    have e0 : forE g Φ tg body ((x :: xs).map f) (E s j) = match evSs g Φ body ρ1 with
        | .nx ρ2 => forE g Φ tg body (xs.map f) ρ2
        | .ct ρ2 => forE g Φ tg body (xs.map f) ρ2
        | .bk ρ2 => .nx ρ2
        | x => x := by
      unfold forE
      rw [List.map_cons]
      show (match setTg tg (f x) (E s j) with
        | none => SRes.stuck
        | some ρ1 => match evSs g Φ body ρ1 with
          | .nx ρ2 => forF tg (fun ρ => evSs g Φ body ρ) (xs.map f) ρ2
          | .ct ρ2 => forF tg (fun ρ => evSs g Φ body ρ) (xs.map f) ρ2
          | .bk ρ2 => .nx ρ2
          | x => x) = _
      rw [e1]
    rw [List.foldlM_cons]
    cases ek : k s x with
    | ok s' =>
      rw [ek] at e2
      obtain ⟨hp', j', e3⟩ := e2
      have e4 : forE g Φ tg body ((x :: xs).map f) (E s j) = forE g Φ tg body (xs.map f) (E s' j') := by
        rw [e0]
        rcases e3 with e3 | e3 <;> rw [e3]
      rw [e4]
      exact for_run (tg := tg) (body := body) (f := f) E P k T (xs := xs) (s := s') (j := j') hp' fun s j y hy => h s j y (by simp [hy])
    | error q =>
      rw [ek] at e2
      obtain ⟨e3, r, ρ2, e5⟩ := e2
      have e4 : forE g Φ tg body ((x :: xs).map f) (E s j) = evSs g Φ body ρ1 := by
        rw [e0, e5]
      show T q _ ∧ _
      rw [e4]
      exact ⟨e3, r, ρ2, e5⟩
end
end Fx
end
section
set_option linter.all false
set_option Elab.async false
set_option maxRecDepth 100000
set_option maxHeartbeats 1000000
/-! Normal forms: tuples of ints, of pairs, of rows. -/
namespace Fx
open PySem (Operator CmpOp)
@[simp] theorem nlt {a b : Int} : (!decide (b < a)) = decide (a ≤ b) := by
  by_cases h : b < a
  · simp [h, Int.not_le.mpr h]
  · simp [h, Int.not_lt.mp h]
@[simp] theorem filt_t {α : Type} {l : List α} : l.filter (fun _ => true) = l := by simp
@[simp] theorem all_id {α : Type} {f : α → Bool} {xs : List α} : (xs.map f).all id = xs.all f := by rw [List.all_map]; rfl
@[simp] theorem any_id {α : Type} {f : α → Bool} {xs : List α} : (xs.map f).any id = xs.any f := by rw [List.any_map]; rfl
@[simp] theorem at_ite {α : Type} {x y : α} {c : Prop} [Decidable c] : L2.atI [x, y] (if c then 1 else 0) = some (if c then y else x) := by split <;> simp
section
variable {c : Prop} [Decidable c]
@[simp] theorem st_s {a : SRes} (h : c) : (if c then a else .stuck) = a := if_pos h
@[simp] theorem st_r {α : Type} {a : Res α} (h : c) : (if c then a else .stuck) = a := if_pos h
@[simp] theorem st_o {α : Type} {a : α} (h : c) : (if c then some a else none) = some a := if_pos h
end
@[simp] theorem and_ite {b c : Bool} : (if b = true then c else b) = (b && c) := by cases b <;> rfl
@[simp] theorem or_ite {b c : Bool} : (if b = false then c else b) = (b || c) := by cases b <;> rfl
@[simp] theorem all_t {α : Type} {l : List α} : (l.all fun _ => true) = true := by induction l with
  | nil => rfl
  | cons x l ih => exact ih
@[simp] theorem any_f {α : Type} {l : List α} : (l.any fun _ => false) = false := by induction l with
  | nil => rfl
  | cons x l ih => exact ih
/-! ### folding -/
@[simp] theorem f_int {α : Type} {f : α → Int} {l : List α} : (l.map fun x => D.int (f x)) = (l.map f).map D.int := by rw [List.map_map]; rfl
@[simp] theorem f_bl {α : Type} {f : α → Bool} {l : List α} : (l.map fun x => D.bl (f x)) = (l.map f).map D.bl := by rw [List.map_map]; rfl
@[simp] theorem f_tI {α : Type} {f : α → List Int} {l : List α} : (l.map fun x => tI (f x)) = (l.map f).map tI := by rw [List.map_map]; rfl
@[simp] theorem f_tP {α : Type} {f : α → List (Int × Int)} {l : List α} : (l.map fun x => tP (f x)) = (l.map f).map tP := by rw [List.map_map]; rfl
@[simp] theorem f_tII {α : Type} {f : α → List (List Int)} {l : List α} : (l.map fun x => tII (f x)) = (l.map f).map tII := by rw [List.map_map]; rfl
@[simp] theorem f_pr' {α : Type} {f : α → Int × Int} {l : List α} : (l.map fun x => pr (f x)) = (l.map f).map pr := by rw [List.map_map]; rfl
@[simp] theorem f_pr {α : Type} {f h : α → Int} {l : List α} : (l.map fun x => D.tup [.int (f x), .int (h x)]) = (l.map fun x => (f x, h x)).map pr := by rw [List.map_map]; rfl
@[simp] theorem t_int {l : List Int} : D.tup (l.map .int) = tI l := rfl
@[simp] theorem t_tI {l : List (List Int)} : D.tup (l.map tI) = tII l := rfl
@[simp] theorem t_pr {l : List (Int × Int)} : D.tup (l.map pr) = tP l := rfl
@[simp] theorem t_one {i : Int} : D.tup [.int i] = tI [i] := rfl
@[simp] theorem allB_m {l : List Bool} : allB (l.map D.bl) = some l := by
  have := allB_map (f := id) (l := l)
  simpa using this
/-! ### the parts of those -/
section
variable {g : G} {Φ : Fn} {ρ : Env}
@[simp] theorem e_ixI {l : List Int} {k : Int} : idxD (tI l) (.int k) = L2.atI (l.map D.int) k := rfl
@[simp] theorem e_ixII {l : List (List Int)} {k : Int} : idxD (tII l) (.int k) = L2.atI (l.map tI) k := rfl
@[simp] theorem e_ixP {l : List (Int × Int)} {k : Int} : idxD (tP l) (.int k) = L2.atI (l.map pr) k := rfl
@[simp] theorem e_lenI {l : List Int} : cbD .len [tI l] = some (.val (.int l.length)) := by show some _ = _; rw [List.length_map]
@[simp] theorem e_lenII {l : List (List Int)} : cbD .len [tII l] = some (.val (.int l.length)) := by show some _ = _; rw [List.length_map]
@[simp] theorem e_lenP {l : List (Int × Int)} : cbD .len [tP l] = some (.val (.int l.length)) := by show some _ = _; rw [List.length_map]
@[simp] theorem e_seqI {l : List Int} : seq1 (tI l) ρ = .ok (l.map D.int) ρ := rfl
@[simp] theorem e_seqII {l : List (List Int)} : seq1 (tII l) ρ = .ok (l.map tI) ρ := rfl
@[simp] theorem e_seqP {l : List (Int × Int)} : seq1 (tP l) ρ = .ok (l.map pr) ρ := rfl
@[simp] theorem e_isI {l : List Int} {nc : Nat} {t : IsT} : isiD nc (tI l) t = some (decide (t = .tuple) || decide (t = .listTuple)) := rfl
@[simp] theorem e_isII {l : List (List Int)} {nc : Nat} {t : IsT} : isiD nc (tII l) t = some (decide (t = .tuple) || decide (t = .listTuple)) := rfl
@[simp] theorem e_isP {l : List (Int × Int)} {nc : Nat} {t : IsT} : isiD nc (tP l) t = some (decide (t = .tuple) || decide (t = .listTuple)) := rfl
@[simp] theorem e_listI {l : List Int} : cbD .list [tI l] = some (.lst (l.map D.int)) := rfl
@[simp] theorem e_listII {l : List (List Int)} : cbD .list [tII l] = some (.lst (l.map tI)) := rfl
@[simp] theorem e_listP {l : List (Int × Int)} : cbD .list [tP l] = some (.lst (l.map pr)) := rfl
@[simp] theorem e_tupI {l : List Int} : cbD .tuple [tI l] = some (.val (tI l)) := rfl
@[simp] theorem e_tupII {l : List (List Int)} : cbD .tuple [tII l] = some (.val (tII l)) := rfl
@[simp] theorem e_catI {a b : List Int} : binD .Add (tI a) (tI b) = if a.length + b.length ≤ 16777216 then some (.val (tI (a ++ b))) else none := by
  show (if (a.map D.int).length + (b.map D.int).length ≤ 16777216 then some (R.val (.tup (a.map D.int ++ b.map D.int))) else none) = _
  rw [List.length_map, List.length_map, ← List.map_append]; rfl
@[simp] theorem e_catII {a b : List (List Int)} : binD .Add (tII a) (tII b) = if a.length + b.length ≤ 16777216 then some (.val (tII (a ++ b))) else none := by
  show (if (a.map tI).length + (b.map tI).length ≤ 16777216 then some (R.val (.tup (a.map tI ++ b.map tI))) else none) = _
  rw [List.length_map, List.length_map, ← List.map_append]; rfl
@[simp] theorem e_inI {x : D} {l : List Int} (h : x.plain = true) (h2 : x.dle 12 = true) : inD x (tI l) = some ((l.map D.int).any fun y => y.eqv x) := inD_t h (by simp) h2
@[simp] theorem e_inII {x : D} {l : List (List Int)} (h : x.plain = true) (h2 : x.dle 12 = true) : inD x (tII l) = some ((l.map tI).any fun y => y.eqv x) := inD_t h (by simp) h2
@[simp] theorem e_inP {x : D} {l : List (Int × Int)} (h : x.plain = true) (h2 : x.dle 12 = true) : inD x (tP l) = some ((l.map pr).any fun y => y.eqv x) := inD_t h (by simp) h2
@[simp] theorem e_maxI {l : List Int} : cbD .max [tI l] = (maxI l).map fun m => .val (.int m) := by
  show ((allI (l.map D.int)).bind fun ns => (maxI ns).map fun m => R.val (.int m)) = _
  rw [allI_map']; rfl
@[simp] theorem e_maxL {l : List Int} : cbD .max [.lst (l.map D.int)] = (maxI l).map fun m => .val (.int m) := by
  show ((allI (l.map D.int)).bind fun ns => (maxI ns).map fun m => R.val (.int m)) = _
  rw [allI_map']; rfl
@[simp] theorem e_tru {l : List Int} : truD (tI l) = some (!l.isEmpty) := by cases l <;> rfl
@[simp] theorem v_tP {a b : List (Int × Int)} : (tP a).eqv (tP b) = decide (a = b) := vs_prs
@[simp] theorem v_tII {a b : List (List Int)} : (tII a).eqv (tII b) = decide (a = b) := vs_tIs
@[simp] theorem v_tP0 {a : List (Int × Int)} : (tP a).eqv (.tup []) = a.isEmpty := vs_nilL
@[simp] theorem v_tI0 {a : List Int} : (tI a).eqv (.tup []) = a.isEmpty := vs_nilL
end
/-! ### the pure side -/
def within (i a b : Int) : Bool := decide (a ≤ i) && decide (i ≤ b)
/-- an int within bounds, of any datum -/
def wI : D → Int → Int → Bool
  | .int i, a, b => within i a b
  | _, _, _ => false
@[simp] theorem wI_i {i a b : Int} : wI (.int i) a b = within i a b := rfl
@[simp] theorem wI_n {a b : Int} : wI .non a b = false := rfl
@[simp] theorem wI_b {x : Bool} {a b : Int} : wI (.bl x) a b = false := rfl
@[simp] theorem wI_s {x : PySem.Str} {a b : Int} : wI (.str x) a b = false := rfl
@[simp] theorem wI_t {ds : List D} {a b : Int} : wI (.tup ds) a b = false := rfl
@[simp] theorem wI_l {ds : List D} {a b : Int} : wI (.lst ds) a b = false := rfl
@[simp] theorem wI_tI {l : List Int} {a b : Int} : wI (tI l) a b = false := rfl
@[simp] theorem wI_tII {l : List (List Int)} {a b : Int} : wI (tII l) a b = false := rfl
/-- the greatest -/
def mx (l : List Int) : Int := (maxI l).getD 0
theorem maxI_mx {l : List Int} (h : l ≠ []) : maxI l = some (mx l) := by cases l <;> first | (exact absurd rfl h) | rfl
end Fx
namespace Fx
section
variable {g : G} {Φ : Fn} {ρ : Env} {α : Type}
/-- a comprehension of one name, what it tells given -/
theorem comp1_of (b : α → Bool) (v : α → D) {i : Nat} {elt : IE} {c : IO} {f : α → D} {xs : List α} (hi : i < ρ.length) (hl : xs.length ≤ 16777216)
    (hc : ∀ x ∈ xs, evC g Φ c (ρ.set i (some (.val (f x)))) = .ok (b x) (ρ.set i (some (.val (f x)))))
    (he : ∀ x ∈ xs, b x = true → dE g Φ elt (ρ.set i (some (.val (f x)))) = .ok (v x) (ρ.set i (some (.val (f x))))) :
    compE g Φ elt [i] (.one i) c (xs.map f) ρ = .ok (.lst ((xs.filter b).map v)) ρ := by
  rw [q_comp1 hi hl (fun x h => ⟨_, hc x h⟩) (fun x h h' => ⟨_, he x h (by rw [hc x h] at h'; exact h')⟩)]
  have e1 : (xs.filter fun x => (evC g Φ c (ρ.set i (some (.val (f x))))).get) = xs.filter b := List.filter_congr fun x h => by rw [hc x h]; rfl
  rw [e1]
  have e2 : ((xs.filter b).map fun x => (dE g Φ elt (ρ.set i (some (.val (f x))))).get) = (xs.filter b).map v := List.map_congr_left fun x h => by
    rw [List.mem_filter] at h
    rw [he x h.1 h.2]; rfl
  rw [e2]
/-- all parts -/
theorem comp1_all (v : α → D) {i : Nat} {elt : IE} {f : α → D} {xs : List α} (hi : i < ρ.length) (hl : xs.length ≤ 16777216)
    (he : ∀ x ∈ xs, dE g Φ elt (ρ.set i (some (.val (f x)))) = .ok (v x) (ρ.set i (some (.val (f x))))) :
    compE g Φ elt [i] (.one i) .non (xs.map f) ρ = .ok (.lst (xs.map v)) ρ := by
  rw [comp1_of (fun _ => true) v hi hl (fun _ _ => rfl) (fun x h _ => he x h)]
  simp
/-- of pairs -/
theorem compP_of (b : Int × Int → Bool) (v : Int × Int → D) {i j : Nat} {elt : IE} {c : IO} {xs : List (Int × Int)} (hij : i ≠ j) (hi : i < ρ.length) (hj : j < ρ.length) (hl : xs.length ≤ 16777216)
    (hc : ∀ x ∈ xs, evC g Φ c ((ρ.set i (some (.val (.int x.1)))).set j (some (.val (.int x.2)))) = .ok (b x) ((ρ.set i (some (.val (.int x.1)))).set j (some (.val (.int x.2)))))
    (he : ∀ x ∈ xs, b x = true → dE g Φ elt ((ρ.set i (some (.val (.int x.1)))).set j (some (.val (.int x.2)))) = .ok (v x) ((ρ.set i (some (.val (.int x.1)))).set j (some (.val (.int x.2))))) :
    compE g Φ elt [i, j] (.many [i, j]) c (xs.map pr) ρ = .ok (.lst ((xs.filter b).map v)) ρ := by
  rw [q_compP hij hi hj hl (fun x h => ⟨_, hc x h⟩) (fun x h h' => ⟨_, he x h (by rw [hc x h] at h'; exact h')⟩)]
  have e1 : (xs.filter fun x => (evC g Φ c ((ρ.set i (some (.val (.int x.1)))).set j (some (.val (.int x.2))))).get) = xs.filter b := List.filter_congr fun x h => by rw [hc x h]; rfl
  rw [e1]
  have e2 : ((xs.filter b).map fun x => (dE g Φ elt ((ρ.set i (some (.val (.int x.1)))).set j (some (.val (.int x.2))))).get) = (xs.filter b).map v := List.map_congr_left fun x h => by
    rw [List.mem_filter] at h
    rw [he x h.1 h.2]; rfl
  rw [e2]
theorem compP_all (v : Int × Int → D) {i j : Nat} {elt : IE} {xs : List (Int × Int)} (hij : i ≠ j) (hi : i < ρ.length) (hj : j < ρ.length) (hl : xs.length ≤ 16777216)
    (he : ∀ x ∈ xs, dE g Φ elt ((ρ.set i (some (.val (.int x.1)))).set j (some (.val (.int x.2)))) = .ok (v x) ((ρ.set i (some (.val (.int x.1)))).set j (some (.val (.int x.2))))) :
    compE g Φ elt [i, j] (.many [i, j]) .non (xs.map pr) ρ = .ok (.lst (xs.map v)) ρ := by
  rw [compP_of (fun _ => true) v hij hi hj hl (fun _ _ => rfl) (fun x h _ => he x h)]
  simp
/-- two clauses, what they tell given -/
theorem comp2_of {β : Type} (es : α → List β) (h : β → D) (b : α → β → Bool) (v : α → β → D) {i j : Nat} {elt : IE} {src1 : II} {c : IO} {f : α → D} {xs : List α} (hij : i ≠ j) (hi : i < ρ.length) (hj : j < ρ.length) (hl : (xs.flatMap es).length ≤ 16777216)
    (h1 : ∀ x ∈ xs, evI g Φ src1 ((ρ.set j none).set i (some (.val (f x)))) = .ok ((es x).map h) ((ρ.set j none).set i (some (.val (f x)))))
    (hc : ∀ x ∈ xs, ∀ y ∈ es x, evC g Φ c ((ρ.set i (some (.val (f x)))).set j (some (.val (h y)))) = .ok (b x y) ((ρ.set i (some (.val (f x)))).set j (some (.val (h y)))))
    (he : ∀ x ∈ xs, ∀ y ∈ es x, b x y = true → dE g Φ elt ((ρ.set i (some (.val (f x)))).set j (some (.val (h y)))) = .ok (v x y) ((ρ.set i (some (.val (f x)))).set j (some (.val (h y))))) :
    comp2E g Φ elt [i, j] [j] (.one i) (.one j) src1 c (xs.map f) ρ = .ok (.lst (xs.flatMap fun x => ((es x).filter (b x)).map (v x))) ρ := by
  rw [comp2_is hij hi hj hl h1 (fun x hx y hy => ⟨_, hc x hx y hy⟩) (fun x hx y hy h' => ⟨_, he x hx y hy (by rw [hc x hx y hy] at h'; exact h')⟩)]
  have e : ∀ (zs : List α), (∀ x ∈ zs, x ∈ xs) → (zs.flatMap fun x => ((es x).filter fun y => (evC g Φ c ((ρ.set i (some (.val (f x)))).set j (some (.val (h y))))).get).map fun y => (dE g Φ elt ((ρ.set i (some (.val (f x)))).set j (some (.val (h y))))).get) = zs.flatMap fun x => ((es x).filter (b x)).map (v x) := by
    intro zs
    induction zs with
    | nil => intro _; rfl
    | cons z zs ih =>
      intro hz
      rw [List.flatMap_cons, List.flatMap_cons, ih fun x hx => hz x (List.mem_cons_of_mem _ hx)]
      have hz' := hz z List.mem_cons_self
      have e1 : ((es z).filter fun y => (evC g Φ c ((ρ.set i (some (.val (f z)))).set j (some (.val (h y))))).get) = (es z).filter (b z) := List.filter_congr fun y hy => by rw [hc z hz' y hy]; rfl
      rw [e1]
      have e2 : (((es z).filter (b z)).map fun y => (dE g Φ elt ((ρ.set i (some (.val (f z)))).set j (some (.val (h y))))).get) = ((es z).filter (b z)).map (v z) := List.map_congr_left fun y hy => by
        rw [List.mem_filter] at hy
        rw [he z hz' y hy.1 hy.2]; rfl
      rw [e2]
  rw [e xs fun _ h => h]
end
end Fx
end
section
set_option linter.all false
set_option Elab.async false
set_option maxRecDepth 100000
set_option maxHeartbeats 1000000
/-! Loops and comprehensions that change what stands around them; draws. -/
namespace Fx
open PySem (Operator CmpOp)
section
variable {g : G} {Φ : Fn} {ρ : Env} {α : Type}
/-- a loop: what holds of the names behind each part, or what it returns -/
theorem for_inv {tg : Tg} {body : ISs} {f : α → D} {I : List α → Env → Prop} {T : R → Env → Prop} : ∀ {xs pre : List α} {ρ : Env},
    (∀ p x q ρ, pre ++ xs = p ++ x :: q → I p ρ → ∃ ρ1, setTg tg (f x) ρ = some ρ1 ∧
      ((∃ ρ2, (evSs g Φ body ρ1 = .nx ρ2 ∨ evSs g Φ body ρ1 = .ct ρ2) ∧ I (p ++ [x]) ρ2) ∨ ∃ r ρ2, evSs g Φ body ρ1 = .rt r ρ2 ∧ T r ρ2)) →
    I pre ρ → (∃ ρ2, forE g Φ tg body (xs.map f) ρ = .nx ρ2 ∧ I (pre ++ xs) ρ2) ∨ ∃ r ρ2, forE g Φ tg body (xs.map f) ρ = .rt r ρ2 ∧ T r ρ2
  | [], pre, ρ, _, hi => .inl ⟨ρ, rfl, by rw [List.append_nil]; exact hi⟩
  | x :: xs, pre, ρ, h, hi => by
    obtain ⟨ρ1, e1, e2⟩ := h pre x xs ρ rfl hi
    have e0 : forE g Φ tg body ((x :: xs).map f) ρ = match evSs g Φ body ρ1 with
        | .nx ρ2 => forE g Φ tg body (xs.map f) ρ2
        | .ct ρ2 => forE g Φ tg body (xs.map f) ρ2
        | .bk ρ2 => .nx ρ2
        | x => x := by
      unfold forE
      rw [List.map_cons]
      show (match setTg tg (f x) ρ with
        | none => SRes.stuck
        | some ρ1 => match evSs g Φ body ρ1 with
          | .nx ρ2 => forF tg (fun ρ => evSs g Φ body ρ) (xs.map f) ρ2
          | .ct ρ2 => forF tg (fun ρ => evSs g Φ body ρ) (xs.map f) ρ2
          | .bk ρ2 => .nx ρ2
          | x => x) = _
      rw [e1]
    rcases e2 with ⟨ρ2, e3, i2⟩ | ⟨r, ρ2, e3, t⟩
    · have e4 : forE g Φ tg body ((x :: xs).map f) ρ = forE g Φ tg body (xs.map f) ρ2 := by
        rw [e0]
        rcases e3 with e3 | e3 <;> rw [e3]
      rw [e4]
      have k := for_inv (tg := tg) (body := body) (f := f) (I := I) (T := T) (xs := xs) (pre := pre ++ [x]) (ρ := ρ2) (by
        intro p y q ρ e; apply h p y q ρ
        rw [← e, List.append_assoc]; rfl) i2
      rw [List.append_assoc] at k
      exact k
    · exact .inr ⟨r, ρ2, by rw [e0, e3], t⟩
/-- a loop that returns nothing: the names are told by what was walked -/
theorem for_pre {J : Type} {tg : Tg} {body : ISs} {f : α → D} (E : List α → J → Env) {xs : List α} {j : J}
    (h : ∀ p x q j, xs = p ++ x :: q → ∃ ρ1 j', setTg tg (f x) (E p j) = some ρ1 ∧ (evSs g Φ body ρ1 = .nx (E (p ++ [x]) j') ∨ evSs g Φ body ρ1 = .ct (E (p ++ [x]) j'))) :
    ∃ j', forE g Φ tg body (xs.map f) (E [] j) = .nx (E xs j') := by
  have k := for_inv (g := g) (Φ := Φ) (tg := tg) (body := body) (f := f) (I := fun p ρ => ∃ j, ρ = E p j) (T := fun _ _ => False) (xs := xs) (pre := []) (ρ := E [] j) (by
    rintro p x q ρ e ⟨j, rfl⟩
    obtain ⟨ρ1, j', e1, e2⟩ := h p x q j e
    exact ⟨ρ1, e1, .inl ⟨_, e2, j', rfl⟩⟩) ⟨j, rfl⟩
  rcases k with ⟨ρ2, e, j', rfl⟩ | ⟨_, _, _, f⟩
  · exact ⟨j', e⟩
  · exact f.elim
theorem set_any {i : Nat} {ρ : Env} : ρ.set i (ρ.at i) = ρ := by
  by_cases h : i < ρ.length
  · exact set_atE h
  · exact List.set_eq_of_length_le (by omega)
/-- a comprehension of one name whose parts change other names -/
theorem comp_invW {i : Nat} {elt : IE} {c : IO} {f : α → D} {I : List α → List D → Env → Prop} {xs : List α} (hl : xs.length ≤ 16777216) (hi : I [] [] (ρ.set i none))
    (h : ∀ p x q acc ρ, xs = p ++ x :: q → I p acc ρ → ∃ b ρ1, evC g Φ c (ρ.set i (some (.val (f x)))) = .ok b ρ1 ∧
      (b = true → ∃ d ρ2, dE g Φ elt ρ1 = .ok d ρ2 ∧ I (p ++ [x]) (acc ++ [d]) (ρ2.set i none)) ∧ (b = false → I (p ++ [x]) acc (ρ1.set i none))) :
    ∃ acc ρ', compE g Φ elt [i] (.one i) c (xs.map f) ρ = .ok (.lst acc) (ρ'.set i (ρ.at i)) ∧ I xs acc ρ' ∧ acc.length ≤ xs.length := by
  have key : ∀ (ys pre : List α) (acc : List D) (ρw : Env), xs = pre ++ ys → I pre acc ρw → acc.length ≤ pre.length →
      ∃ acc' ρ', compF [i] (.one i) (fun ρ => evC g Φ c ρ) (fun ρ => asD g.flds (evE g Φ elt ρ)) (ys.map f) ρw acc = .ok acc' ρ' ∧ I xs acc' ρ' ∧ acc'.length ≤ xs.length := by
    intro ys
    induction ys with
    | nil =>
      intro pre acc ρw e hI hL
      rw [List.append_nil] at e
      exact ⟨acc, ρw, rfl, by rw [e]; exact hI, by rw [e]; exact hL⟩
    | cons y ys ih =>
      intro pre acc ρw e hI hL
      obtain ⟨b, ρ1, e1, ht, hf⟩ := h pre y ys acc ρw e hI
      rw [List.map_cons]
      unfold compF
      show ∃ acc' ρ', ((evC g Φ c (ρw.set i (some (.val (f y))))).bind _) = _ ∧ _
      rw [e1]
      show ∃ acc' ρ', (if b = true then _ else _) = _ ∧ _
      have e2 : xs = (pre ++ [y]) ++ ys := by rw [e, List.append_assoc]; rfl
      cases b with
      | true =>
        obtain ⟨d, ρ2, e3, hI2⟩ := ht rfl
        have e3' : asD g.flds (evE g Φ elt ρ1) = .ok d ρ2 := e3
        rw [if_pos rfl, e3']
        have hL2 : acc.length < 16777216 := by
          have : xs.length = pre.length + (ys.length + 1) := by rw [e, List.length_append, List.length_cons]
          omega
        show ∃ acc' ρ', (if acc.length < 16777216 then _ else _) = _ ∧ _
        rw [if_pos hL2]
        exact ih (pre ++ [y]) (acc ++ [d]) (ρ2.set i none) e2 hI2 (by simp; omega)
      | false =>
        rw [if_neg Bool.false_ne_true]
        exact ih (pre ++ [y]) acc (ρ1.set i none) e2 (hf rfl) (by simp; omega)
  obtain ⟨acc, ρ', e, hI, hL⟩ := key xs [] [] (ρ.set i none) rfl hi (Nat.zero_le _)
  refine ⟨acc, ρ', ?_, hI, hL⟩
  unfold compE
  show ((compF [i] (.one i) _ _ (xs.map f) (ρ.set i none) []).bind _).calm = _
  rw [e]; rfl
/-- the same, where the name holds nothing -/
theorem comp_inv {i : Nat} {elt : IE} {c : IO} {f : α → D} {I : List α → List D → Env → Prop} {xs : List α} (h0 : ρ.set i none = ρ) (hl : xs.length ≤ 16777216) (hi : I [] [] ρ)
    (h : ∀ p x q acc ρ, xs = p ++ x :: q → I p acc ρ → ∃ b ρ1, evC g Φ c (ρ.set i (some (.val (f x)))) = .ok b ρ1 ∧
      (b = true → ∃ d ρ2, dE g Φ elt ρ1 = .ok d ρ2 ∧ I (p ++ [x]) (acc ++ [d]) (ρ2.set i none)) ∧ (b = false → I (p ++ [x]) acc (ρ1.set i none))) :
    ∃ acc ρ', compE g Φ elt [i] (.one i) c (xs.map f) ρ = .ok (.lst acc) ρ' ∧ I xs acc ρ' ∧ acc.length ≤ xs.length := by
  obtain ⟨acc, ρ', e, ⟨hI, w⟩, hL⟩ := comp_invW (g := g) (Φ := Φ) (ρ := ρ) (elt := elt) (c := c) (f := f) (i := i) (I := fun p acc ρ => I p acc ρ ∧ ρ.set i none = ρ) (xs := xs) hl ⟨by rw [h0]; exact hi, by rw [List.set_set]⟩ (by
    rintro p x q acc ρ e ⟨hI, w⟩
    obtain ⟨b, ρ1, e1, h1, h2⟩ := h p x q acc ρ e hI
    refine ⟨b, ρ1, e1, fun hb => ?_, fun hb => ⟨h2 hb, by rw [List.set_set]⟩⟩
    obtain ⟨d, ρ2, e2, h3⟩ := h1 hb
    exact ⟨d, ρ2, e2, h3, by rw [List.set_set]⟩)
  refine ⟨acc, ρ', ?_, hI, hL⟩
  have a : ρ.at i = none := by
    by_cases hlt : i < ρ.length
    · rw [← h0]
      show ((ρ.set i none)[i]?).bind id = none
      rw [List.getElem?_set_self hlt]; rfl
    · show (ρ[i]?).bind id = none
      rw [List.getElem?_eq_none (by omega)]; rfl
  rw [e, a, w]
end
/-! ### draws -/
/-- a box: what is left of a great cell, and a number that is mixed on -/
abbrev Box := Int × Int
def bx (B : Box) : List D := [.int B.1, .int B.2]
structure BOk (B : Box) : Prop where
  a : 0 ≤ B.1
  b : 0 ≤ B.2
  c : B.2 < 2147483648
def tk (B : Box) (m : Int) : Int × Box := if 0 < B.1 then (B.1 % m, (B.1 / m, B.2)) else
  ((B.2 * 39373 + 69621) % 2147483647 / 8191 % m, (B.1, (B.2 * 39373 + 69621) % 2147483647))
theorem tk_ok {B : Box} {m : Int} (h : BOk B) (hm : 0 < m) : BOk (tk B m).2 := by
  obtain ⟨a, b, c⟩ := h
  unfold tk
  split
  · exact ⟨Int.ediv_nonneg a (by omega), b, c⟩
  · exact ⟨a, by dsimp only; omega, by dsimp only; omega⟩
theorem tk_in {B : Box} {m : Int} (hm : 0 < m) : 0 ≤ (tk B m).1 ∧ (tk B m).1 < m := by
  unfold tk
  split
  · exact ⟨Int.emod_nonneg _ (by omega), Int.emod_lt_of_pos _ hm⟩
  · exact ⟨Int.emod_nonneg _ (by omega), Int.emod_lt_of_pos _ hm⟩
/-- many draws -/
def dw (B : Box) (m : Int) : Nat → List Int × Box
  | 0 => ([], B)
  | n + 1 => let t := dw B m n
    (t.1 ++ [(tk t.2 m).1], (tk t.2 m).2)
theorem dw_len {B : Box} {m : Int} : ∀ {n : Nat}, (dw B m n).1.length = n
  | 0 => rfl
  | n + 1 => by simp [dw, dw_len]
theorem dw_ok {B : Box} {m : Int} (h : BOk B) (hm : 0 < m) : ∀ {n : Nat}, BOk (dw B m n).2
  | 0 => h
  | n + 1 => tk_ok (dw_ok h hm) hm
theorem dw_in {B : Box} {m : Int} (hm : 0 < m) : ∀ {n : Nat}, ∀ x ∈ (dw B m n).1, 0 ≤ x ∧ x < m
  | 0, x, h => by cases h
  | n + 1, x, h => by
    rcases List.mem_append.mp h with h | h
    · exact dw_in hm x h
    · rw [List.mem_singleton.mp h]; exact tk_in hm
/-- rows of draws -/
def dww (B : Box) (m : Int) (k : Nat) : Nat → List (List Int) × Box
  | 0 => ([], B)
  | n + 1 => let t := dww B m k n
    (t.1 ++ [(dw t.2 m k).1], (dw t.2 m k).2)
theorem dww_len {B : Box} {m : Int} {k : Nat} : ∀ {n : Nat}, (dww B m k n).1.length = n
  | 0 => rfl
  | n + 1 => by simp [dww, dww_len]
theorem dww_ok {B : Box} {m : Int} {k : Nat} (h : BOk B) (hm : 0 < m) : ∀ {n : Nat}, BOk (dww B m k n).2
  | 0 => h
  | n + 1 => dw_ok (dww_ok h hm) hm
theorem dww_in {B : Box} {m : Int} {k : Nat} (hm : 0 < m) : ∀ {n : Nat}, ∀ x ∈ (dww B m k n).1, x.length = k ∧ ∀ y ∈ x, 0 ≤ y ∧ y < m
  | 0, x, h => by cases h
  | n + 1, x, h => by
    rcases List.mem_append.mp h with h | h
    · exact dww_in hm x h
    · rw [List.mem_singleton.mp h]; exact ⟨dw_len, fun y h => dw_in hm y h⟩
/-- the box of a script -/
def cellS (ns : List Int) (k : Int) : Int := if k < ns.length then (ix ns k).natAbs else if 0 < ns.length then (ix ns (k % ns.length)).natAbs % 1000000007 * 31 + 7919 * k else 7919 * k + 101
def boxS (ns : List Int) (k : Int) : Box := (if 1000000000000000000 ≤ cellS ns k then cellS ns k else 0, (cellS ns k % 1000000007 * 48271 + 613 * k) % 2147483647 + 1)
theorem boxS_ok {ns : List Int} {k : Int} (hk : 0 ≤ k) : BOk (boxS ns k) := by
  refine ⟨?_, ?_, ?_⟩
  · unfold boxS; dsimp only; split <;> omega
  · unfold boxS; dsimp only; omega
  · unfold boxS; dsimp only; omega
@[simp] theorem bx_len {B : Box} : (bx B).length = 2 := rfl
@[simp] theorem bx_0 {B : Box} : L2.atI (bx B) 0 = some (.int B.1) := rfl
@[simp] theorem bx_1 {B : Box} : L2.atI (bx B) 1 = some (.int B.2) := rfl
@[simp] theorem bx_n0 : L2.ixN 2 0 = some 0 := rfl
@[simp] theorem bx_n1 : L2.ixN 2 1 = some 1 := rfl
@[simp] theorem bx_s0 {B : Box} {x : Int} : (bx B).set 0 (.int x) = bx (x, B.2) := rfl
@[simp] theorem bx_s1 {B : Box} {x : Int} : (bx B).set 1 (.int x) = bx (B.1, x) := rfl
theorem bx_f {a b : Int} : [D.int a, D.int b] = bx (a, b) := rfl
@[simp] theorem bx_st0 {i : Nat} {x : Int} {B : Box} {ρ : Env} : sti2 i (.int x) (some (.lst (bx B))) (.int 0) ρ = .nx (ρ.set i (some (.lst (bx (x, B.2))))) := rfl
@[simp] theorem bx_st1 {i : Nat} {x : Int} {B : Box} {ρ : Env} : sti2 i (.int x) (some (.lst (bx B))) (.int 1) ρ = .nx (ρ.set i (some (.lst (bx (B.1, x))))) := rfl
theorem at_set {ρ : Env} {i j : Nat} {x : Option R} (h : i ≠ j) : Env.at (ρ.set i x) j = ρ.at j := by
  show ((ρ.set i x)[j]?).bind id = (ρ[j]?).bind id
  rw [List.getElem?_set_ne h]
theorem at_set' {ρ : Env} {i : Nat} {x : Option R} (h : i < ρ.length) : Env.at (ρ.set i x) i = x := by
  show ((ρ.set i x)[i]?).bind id = x
  rw [List.getElem?_set_self h]; rfl
theorem at_lt {ρ : Env} {i : Nat} {x : R} (h : ρ.at i = some x) : i < ρ.length := by
  by_cases hl : i < ρ.length
  · exact hl
  · have e : ρ.at i = none := by
      show (ρ[i]?).bind id = none
      rw [List.getElem?_eq_none (by omega)]; rfl
    rw [e] at h; cases h
theorem ini_box {B : Box} : bx B = [D.int B.1, D.int B.2] := rfl
end Fx
end
section
set_option linter.all false
set_option Elab.async false
set_option maxRecDepth 100000
set_option maxHeartbeats 1000000
/-! Tables, outs, what partings keep out: plain. -/
namespace Fx
/-- a row of a lock: its keys -/
structure RowOk (m : Int) (r : List Int) : Prop where
  ne : r ≠ []
  up : r.Pairwise (· < ·)
  inn : ∀ i ∈ r, 0 ≤ i ∧ i < m
abbrev Tab := Int × List (List Int)
structure TOk (T : Tab) : Prop where
  m1 : 1 ≤ T.1
  m5 : T.1 ≤ 5
  r1 : 1 ≤ T.2.length
  r5 : T.2.length ≤ 5
  rows : ∀ r ∈ T.2, RowOk T.1 r
theorem up_len {m : Int} : ∀ {r : List Int} {a : Int}, r.Pairwise (· < ·) → (∀ i ∈ r, a ≤ i ∧ i < m) → r.length ≤ (m - a).toNat
  | [], _, _, _ => Nat.zero_le _
  | x :: r, a, h, k => by
    rw [List.pairwise_cons] at h
    have hx := k x List.mem_cons_self
    have := up_len (m := m) (r := r) (a := x + 1) h.2 fun i hi => ⟨by have := h.1 i hi; omega, (k i (List.mem_cons_of_mem _ hi)).2⟩
    rw [List.length_cons]
    omega
theorem row_len {m : Int} {r : List Int} (h : RowOk m r) : (r.length : Int) ≤ m := by
  have := up_len (a := 0) h.up h.inn
  have h1 : r.length ≠ 0 := by
    intro e
    exact h.ne (List.length_eq_zero_iff.mp e)
  omega
theorem ir_up {a b : Int} : (irange a b).Pairwise (· < ·) := by
  unfold irange
  rw [List.pairwise_map]
  exact List.Pairwise.imp (fun h => by omega) List.pairwise_lt_range
theorem ir_row {m : Int} {p : Int → Bool} {x : Int} (h0 : 0 ≤ x) (h1 : x < m) (hp : p x = true) : RowOk m ((irange 0 m).filter p) where
  ne := by
    intro e
    have : x ∈ (irange 0 m).filter p := List.mem_filter.mpr ⟨mem_irange.mpr ⟨h0, h1⟩, hp⟩
    rw [e] at this; cases this
  up := ir_up.filter _
  inn := fun i hi => mem_irange.mp (List.mem_filter.mp hi).1
/-- the pairs of a key and a lock that it shall not open -/
def outsR (T : Tab) (k : Int) : List (Int × Int) := ((irange 0 T.2.length).filter fun l => !decide (k ∈ ix T.2 l)).map fun l => (k, l)
def outsL (T : Tab) : List (Int × Int) := (irange 0 T.1).flatMap (outsR T)
theorem mem_outs {T : Tab} {q : Int × Int} : q ∈ outsL T ↔ (0 ≤ q.1 ∧ q.1 < T.1) ∧ (0 ≤ q.2 ∧ q.2 < T.2.length) ∧ q.1 ∉ ix T.2 q.2 := by
  obtain ⟨k, l⟩ := q
  unfold outsL outsR
  simp only [List.mem_flatMap, List.mem_map, List.mem_filter, mem_irange, Bool.not_eq_true', decide_eq_false_iff_not, Prod.mk.injEq]
  constructor
  · rintro ⟨a, ha, b, ⟨hb, hn⟩, rfl, rfl⟩
    exact ⟨ha, hb, hn⟩
  · rintro ⟨ha, hb, hn⟩
    exact ⟨k, ha, l, ⟨hb, hn⟩, rfl, rfl⟩
theorem outsR_len {T : Tab} {k : Int} : (outsR T k).length ≤ T.2.length := by
  unfold outsR
  rw [List.length_map]
  refine Nat.le_trans (List.length_filter_le _ _) ?_
  rw [len_irange]; omega
theorem flat_len {α β : Type} {f : α → List β} {c : Nat} : ∀ {l : List α}, (∀ x ∈ l, (f x).length ≤ c) → (l.flatMap f).length ≤ l.length * c
  | [], _ => by simp
  | x :: l, h => by
    rw [List.flatMap_cons, List.length_append, List.length_cons]
    have h1 := h x List.mem_cons_self
    have h2 := flat_len (f := f) (c := c) (l := l) fun y hy => h y (List.mem_cons_of_mem _ hy)
    have : (l.length + 1) * c = l.length * c + c := Nat.succ_mul _ _
    omega
theorem outs_len {T : Tab} (h : TOk T) : (outsL T).length ≤ 25 := by
  have h1 := flat_len (f := outsR T) (c := 5) (l := irange 0 T.1) fun x _ => Nat.le_trans outsR_len h.r5
  rw [len_irange] at h1
  have := h.m5
  have h3 : (T.1 - 0).toNat * 5 ≤ 25 := by
    have : (T.1 - 0).toNat ≤ 5 := by omega
    omega
  exact Nat.le_trans h1 h3
/-- whether a parting keeps a pair out, plainly, deeply -/
def keepB (T : Tab) (p : List Int) (plain : Bool) (q : Int × Int) : Bool :=
  if plain = true then !decide (ix p q.1 ∈ (ix T.2 q.2).map (ix p)) else decide (mx ((ix T.2 q.2).map (ix p)) < ix p q.1)
def keptL (T : Tab) (p : List Int) (plain : Bool) : List (Int × Int) := (outsL T).filter (keepB T p plain)
theorem kept_len {T : Tab} {p : List Int} {b : Bool} (h : TOk T) : (keptL T p b).length ≤ 25 := Nat.le_trans (List.length_filter_le _ _) (outs_len h)
def kindS (b : Bool) : PySem.Str := if b = true then "plain" else "deep"
/-! shuffled -/
def insAt {α : Type} (i : Nat) (x : α) (l : List α) : List α := l.take i ++ x :: l.drop i
theorem insAt_perm {α : Type} {i : Nat} {x : α} {l : List α} : (insAt i x l).Perm (x :: l) := by
  unfold insAt
  refine List.perm_middle.trans ?_
  rw [List.take_append_drop]
def shufS {α : Type} (s : List α × Box) (x : α) : List α × Box := (insAt (tk s.2 (s.1.length + 1)).1.toNat x s.1, (tk s.2 (s.1.length + 1)).2)
def shuf {α : Type} (B : Box) (l : List α) : List α × Box := l.foldl shufS ([], B)
theorem shuf_app {α : Type} {B : Box} {l : List α} {x : α} : shuf B (l ++ [x]) = shufS (shuf B l) x := by
  unfold shuf
  rw [List.foldl_append]; rfl
theorem shuf_ok {α : Type} {B : Box} (h : BOk B) : ∀ {l : List α} {s : List α × Box}, BOk s.2 → BOk (l.foldl shufS s).2
  | [], s, hs => hs
  | x :: l, s, hs => shuf_ok h (l := l) (s := shufS s x) (tk_ok hs (by omega))
theorem shuf_perm {α : Type} : ∀ {l : List α} {s : List α × Box}, (l.foldl shufS s).1.Perm (l ++ s.1)
  | [], s => List.Perm.refl _
  | x :: l, s => by
    rw [List.foldl_cons]
    refine (shuf_perm (l := l) (s := shufS s x)).trans ?_
    refine (List.Perm.append_left l insAt_perm).trans ?_
    exact List.perm_middle
theorem shufOk {α : Type} {B : Box} {l : List α} (h : BOk B) : BOk (shuf B l).2 := shuf_ok h h
theorem shufPerm {α : Type} {B : Box} {l : List α} : (shuf B l).1.Perm l := by
  have := shuf_perm (l := l) (s := ([], B))
  rw [List.append_nil] at this
  exact this
theorem shuf_len {α : Type} {B : Box} {l : List α} : (shuf B l).1.length = l.length := shufPerm.length_eq
/-! lists -/
theorem filt_app {α : Type} {p : α → Bool} {l : List α} {x : α} : (l ++ [x]).filter p = if p x = true then l.filter p ++ [x] else l.filter p := by
  rw [List.filter_append]
  by_cases h : p x = true
  · simp [h]
  · simp [h]
end Fx
end
section
set_option linter.all false
set_option Elab.async false
set_option maxRecDepth 100000
set_option maxHeartbeats 1000000
/-! Objects that a name owns, or plain ones: alike to what is asked. -/
namespace Fx
/-- an object, owned (o) or plain -/
def obR (o : Bool) (c : Nat) (ds : List D) : R := if o = true then .obj c (ds.map .val) else .val (.ins c ds)
def obA (o : Bool) (i c : Nat) (ds : List D) : Ar := if o = true then .b i else .v (.val (.ins c ds))
section
variable {g : G} {Φ : Fn} {ρ : Env} {o : Bool} {i c f : Nat} {ds : List D}
@[simp] theorem ob_av : avO i (some (obR o c ds)) ρ = .ok (obA o i c ds) ρ := by cases o <;> rfl
theorem vals_full {fl : Nat → List Nat} : ∀ {ds : List D}, R.fullBs fl (ds.map R.val) = true
  | [] => rfl
  | d :: ds => vals_full (ds := ds)
theorem vals_toD : ∀ {ds : List D}, R.toDs (ds.map R.val) = ds
  | [] => rfl
  | d :: ds => by
    show d :: R.toDs (ds.map R.val) = _
    rw [vals_toD]
@[simp] theorem ob_full (hl : ds.length = (g.flds c).length) : fullD g.flds (obR o c ds) = some (.ins c ds) := by
  cases o with
  | false => rfl
  | true =>
    show (if (decide ((ds.map R.val).length = (g.flds c).length) && R.fullBs g.flds (ds.map R.val)) = true then some (D.ins c (R.toDs (ds.map R.val))) else none) = _
    rw [vals_full, vals_toD, List.length_map, if_pos]
    simp [hl]
@[simp] theorem ob_atv : attrO g f (obR o c ds) = attrR g f (.ins c ds) := by
  cases o with
  | false => rfl
  | true =>
    show ((if c < g.nc then (match (ds.map R.val)[(g.flds c).idxOf f]? with
      | some (.val d) => some d
      | _ => none) else none : Option D)) = _
    rw [List.getElem?_map]
    show _ = ((if c < g.nc then ds[(g.flds c).idxOf f]? else none : Option D))
    cases ds[(g.flds c).idxOf f]? <;> rfl
@[simp] theorem ob_d (h : ρ.at i = some (obR o c ds)) (hl : ds.length = (g.flds c).length) : Ar.d g.flds (obA o i c ds) ρ = some (.ins c ds) := by
  cases o with
  | false => rfl
  | true =>
    show (ρ.at i).bind (fullD g.flds) = _
    rw [h]
    exact ob_full hl
@[simp] theorem ob_rd (hl : ds.length = (g.flds c).length) (h : ρ.at i = some (obR o c ds)) : rdO g.flds i (some (obR o c ds)) ρ = .ok (.val (.ins c ds)) (ρ.set i (some (obR false c ds))) := by
  cases o with
  | false =>
    show Res.ok _ ρ = Res.ok _ (ρ.set i (some (obR false c ds)))
    rw [← h, set_atE (at_lt h)]
  | true =>
    show (if (decide ((ds.map R.val).length = (g.flds c).length) && R.fullBs g.flds (ds.map R.val)) = true then Res.ok (R.val (D.ins c (R.toDs (ds.map R.val)))) (ρ.set i (some (.val (D.ins c (R.toDs (ds.map R.val)))))) else .stuck) = _
    rw [vals_full, vals_toD, List.length_map, if_pos]
    · rfl
    · simp [hl]
/-- behind a call with such an object as its first argument -/
def backO (o : Bool) (i : Nat) (x : FRes) (ρ : Env) : Res R := if o = true then back1 i x ρ else x.v.res ρ
theorem ob_call (h : ρ.at i = some (obR o c ds)) (rs : List R) : callR Φ f (obA o i c ds :: rs.map Ar.v) ρ = backO o i (Φ f (obR o c ds :: rs)) ρ := by
  cases o with
  | false => exact call_vs (R.val (.ins c ds) :: rs)
  | true =>
    show callR Φ f (.b i :: rs.map Ar.v) ρ = _
    rw [call_b1, h]; rfl
@[simp] theorem ob_call1 (h : ρ.at i = some (obR o c ds)) : callR Φ f [obA o i c ds] ρ = backO o i (Φ f [obR o c ds]) ρ := ob_call h []
@[simp] theorem ob_call2 {a : R} (h : ρ.at i = some (obR o c ds)) : callR Φ f [obA o i c ds, .v a] ρ = backO o i (Φ f [obR o c ds, a]) ρ := ob_call h [a]
@[simp] theorem ob_call3 {a b : R} (h : ρ.at i = some (obR o c ds)) : callR Φ f [obA o i c ds, .v a, .v b] ρ = backO o i (Φ f [obR o c ds, a, b]) ρ := ob_call h [a, b]
@[simp] theorem ob_call4 {a b d : R} (h : ρ.at i = some (obR o c ds)) : callR Φ f [obA o i c ds, .v a, .v b, .v d] ρ = backO o i (Φ f [obR o c ds, a, b, d]) ρ := ob_call h [a, b, d]
@[simp] theorem ob_call5 {a b d e : R} (h : ρ.at i = some (obR o c ds)) : callR Φ f [obA o i c ds, .v a, .v b, .v d, .v e] ρ = backO o i (Φ f [obR o c ds, a, b, d, e]) ρ := ob_call h [a, b, d, e]
@[simp] theorem ob_back {x : R} {os : Env} (h : ρ.at i = some (obR o c ds)) : backO o i (.ok x (some (obR o c ds) :: os)) ρ = .ok x ρ := by
  cases o with
  | false => rfl
  | true =>
    show Res.ok x (ρ.set i (some (obR true c ds))) = _
    rw [← h, set_atE (at_lt h)]
@[simp] theorem ob_backx {k : Nat} {d : D} {os : Env} (h : ρ.at i = some (obR o c ds)) : backO o i (.exc k d (some (obR o c ds) :: os)) ρ = .exc k d ρ := by
  cases o with
  | false => rfl
  | true =>
    show Res.exc k d (ρ.set i (some (obR true c ds))) = _
    rw [← h, set_atE (at_lt h)]
/-- a new object -/
def mk1 : FRes → Env → Res R
  | .ok (.val .non) (some r :: _), ρ => .ok r ρ
  | .exc x d (_ :: _), ρ => .exc x d ρ
  | _, _ => .stuck
theorem mk_vs {ini : Nat → Nat} (rs : List R) : makeR Φ ini c (rs.map Ar.v) ρ = mk1 (Φ (ini c) (.obj c [] :: rs)) ρ := by
  unfold makeR
  rw [hand_vs]
  dsimp only
  cases Φ (ini c) (.obj c [] :: rs) with
  | ok r os =>
    cases r with
    | val d => cases d <;> (cases os with
      | nil => rfl
      | cons x os => cases x <;> first | rfl | (show Res.ok _ (giveB _ _ _) = _; rw [give_vs]; rfl))
    | _ => rfl
  | exc x d os => cases os with
    | nil => rfl
    | cons y os => show Res.exc x d (giveB _ _ _) = _; rw [give_vs]; rfl
  | stuck => rfl
@[simp] theorem mk_1 {ini : Nat → Nat} {a : R} : makeR Φ ini c [.v a] ρ = mk1 (Φ (ini c) [.obj c [], a]) ρ := mk_vs [a]
@[simp] theorem mk_2 {ini : Nat → Nat} {a b : R} : makeR Φ ini c [.v a, .v b] ρ = mk1 (Φ (ini c) [.obj c [], a, b]) ρ := mk_vs [a, b]
@[simp] theorem mk_3 {ini : Nat → Nat} {a b d : R} : makeR Φ ini c [.v a, .v b, .v d] ρ = mk1 (Φ (ini c) [.obj c [], a, b, d]) ρ := mk_vs [a, b, d]
@[simp] theorem mk_ok {r : R} {os : Env} : mk1 (.ok (.val .non) (some r :: os)) ρ = .ok r ρ := rfl
@[simp] theorem mk_x {k : Nat} {d : D} {y : Option R} {os : Env} : mk1 (.exc k d (y :: os)) ρ = .exc k d ρ := rfl
end
end Fx
namespace Fx
section
variable {g : G} {Φ : Fn} {ρ : Env}
/-- pairs of ints, in two clauses -/
theorem comp2_pr (es : Int → List Int) (b : Int → Int → Bool) {i j : Nat} {elt : IE} {src1 : II} {c : IO} {xs : List Int} (hij : i ≠ j) (hi : i < ρ.length) (hj : j < ρ.length) (hl : (xs.flatMap es).length ≤ 16777216)
    (h1 : ∀ x ∈ xs, evI g Φ src1 ((ρ.set j none).set i (some (.val (.int x)))) = .ok ((es x).map D.int) ((ρ.set j none).set i (some (.val (.int x)))))
    (hc : ∀ x ∈ xs, ∀ y ∈ es x, evC g Φ c ((ρ.set i (some (.val (.int x)))).set j (some (.val (.int y)))) = .ok (b x y) ((ρ.set i (some (.val (.int x)))).set j (some (.val (.int y)))))
    (he : ∀ x ∈ xs, ∀ y ∈ es x, b x y = true → dE g Φ elt ((ρ.set i (some (.val (.int x)))).set j (some (.val (.int y)))) = .ok (.tup [.int x, .int y]) ((ρ.set i (some (.val (.int x)))).set j (some (.val (.int y))))) :
    comp2E g Φ elt [i, j] [j] (.one i) (.one j) src1 c (xs.map D.int) ρ = .ok (.lst ((xs.flatMap fun x => ((es x).filter (b x)).map fun y => (x, y)).map pr)) ρ := by
  rw [comp2_of es D.int b (fun x y => .tup [.int x, .int y]) hij hi hj hl h1 hc he, List.map_flatMap]
  congr 3
  funext x
  rw [List.map_map]; rfl
end
end Fx
end
section
set_option linter.all false
set_option Elab.async false
set_option maxRecDepth 100000
set_option maxHeartbeats 1000000
/-! Cuts and stacks: plain. -/
namespace Fx
theorem ins_mem {x y : Int} : ∀ {l : List Int}, y ∈ insI x l ↔ y = x ∨ y ∈ l
  | [] => by unfold insI; simp
  | z :: l => by
    unfold insI
    split
    · simp
    · split
      · next e => subst e; simp
      · rw [List.mem_cons, ins_mem, List.mem_cons]
        constructor
        · rintro (h | h | h)
          · exact .inr (.inl h)
          · exact .inl h
          · exact .inr (.inr h)
        · rintro (h | h | h)
          · exact .inr (.inl h)
          · exact .inl h
          · exact .inr (.inr h)
@[simp] theorem mem_usort {y : Int} : ∀ {l : List Int}, y ∈ usort l ↔ y ∈ l
  | [] => Iff.rfl
  | x :: l => by
    show y ∈ insI x (usort l) ↔ _
    rw [ins_mem, mem_usort, List.mem_cons]
theorem ix_map {α β : Type} [Inhabited α] [Inhabited β] {f : α → β} {l : List α} {i : Int} (h0 : 0 ≤ i) (h1 : i < l.length) : ix (l.map f) i = f (ix l i) := by
  unfold ix
  have h2 : i.toNat < l.length := by omega
  rw [List.getD_eq_getElem?_getD, List.getD_eq_getElem?_getD, List.getElem?_map, List.getElem?_eq_getElem h2]; rfl
theorem ir_ix {α : Type} [Inhabited α] {l : List α} : (irange 0 l.length).map (ix l) = l := by
  unfold irange
  rw [List.map_map]
  apply List.ext_getElem
  · simp
  · intro i h1 h2
    rw [List.getElem_map, List.getElem_range]
    show ix l (0 + (i : Int)) = _
    unfold ix
    have e : (0 + (i : Int)).toNat = i := by omega
    rw [e, List.getD_eq_getElem?_getD, List.getElem?_eq_getElem h2]; rfl
/-- the cuts of keys -/
structure COk (m d : Int) (C : List (List Int)) : Prop where
  len : (C.length : Int) = m
  m1 : 1 ≤ m
  k1 : 1 ≤ (ix C 0).length
  k5 : (ix C 0).length ≤ 5
  all : ∀ c ∈ C, c.length = (ix C 0).length ∧ ∀ x ∈ c, 0 ≤ x ∧ x < d
/-- a stack's sorts, of a row of keys -/
def stacksL (C : List (List Int)) (row : List Int) : List (List Int) := (irange 0 (ix C 0).length).map fun c => usort (row.map fun k => ix (ix C k) c)
def fallsB (cut : List Int) (st : List (List Int)) : Bool := (cut.zip st).all fun p => decide (p.1 ∈ p.2)
def fitB (T : Tab) (C : List (List Int)) : Bool := !((outsL T).map fun q => fallsB (ix C q.1) (stacksL C (ix T.2 q.2))).any id
/-- a chamber of cuts -/
def col (C : List (List Int)) (c : Int) : List Int := C.map fun cut => ix cut c
def keptAll (T : Tab) (C : List (List Int)) (b : Bool) : List (Int × Int) := (irange 0 (ix C 0).length).flatMap fun c => keptL T (col C c) b
def lawFitB (T : Tab) (C : List (List Int)) (b : Bool) : Bool := ((outsL T).filter fun q => !decide (q ∈ keptAll T C b)).isEmpty
theorem ix_col {C : List (List Int)} {c k : Int} (h0 : 0 ≤ k) (h1 : k < C.length) : ix (col C c) k = ix (ix C k) c := ix_map h0 h1
theorem falls_iff {K : Nat} {cut : List Int} {f : Int → List Int} (h : cut.length = K) : fallsB cut ((irange 0 K).map f) = true ↔ ∀ c : Int, 0 ≤ c → c < K → ix cut c ∈ f c := by
  subst h
  unfold fallsB
  conv => lhs; lhs; lhs; lhs; rw [← ir_ix (l := cut)]
  rw [List.zip_map', List.all_map, List.all_eq_true]
  simp only [mem_irange, Function.comp_apply, decide_eq_true_eq]
  exact ⟨fun h c a b => h c ⟨a, b⟩, fun h c k => h c k.1 k.2⟩
/-- a pair is kept out in a chamber -/
theorem keep_col {T : Tab} {C : List (List Int)} {q : Int × Int} {c d : Int} (h : TOk T) (hc : COk T.1 d C) (hq : q ∈ outsL T) : keepB T (col C c) true q = true ↔ ix (ix C q.1) c ∉ (ix T.2 q.2).map fun k => ix (ix C k) c := by
  rw [mem_outs] at hq
  have l := hc.len
  have e : (ix T.2 q.2).map (ix (col C c)) = (ix T.2 q.2).map fun k => ix (ix C k) c := List.map_congr_left fun k hk => by
    have := (h.rows _ (ix_mem hq.2.1.1 hq.2.1.2)).inn k hk
    exact ix_col this.1 (by omega)
  unfold keepB
  rw [if_pos rfl, e, ix_col hq.1.1 (by omega), Bool.not_eq_true', decide_eq_false_iff_not]
theorem falls_cuts {T : Tab} {C : List (List Int)} {q : Int × Int} {d : Int} (hc : COk T.1 d C) (hq : q ∈ outsL T) : fallsB (ix C q.1) (stacksL C (ix T.2 q.2)) = true ↔ ∀ c : Int, 0 ≤ c → c < (ix C 0).length → ix (ix C q.1) c ∈ (ix T.2 q.2).map fun k => ix (ix C k) c := by
  rw [mem_outs] at hq
  have l := hc.len
  unfold stacksL
  rw [falls_iff (hc.all _ (ix_mem hq.1.1 (by omega))).1]
  simp only [mem_usort]
/-- the cuts fit just if their chambers keep out all outs -/
theorem fit_eq {T : Tab} {C : List (List Int)} {d : Int} (h : TOk T) (hc : COk T.1 d C) : fitB T C = lawFitB T C true := by
  rw [Bool.eq_iff_iff]
  unfold fitB lawFitB
  rw [List.isEmpty_iff, List.filter_eq_nil_iff, Bool.not_eq_true', any_id, List.any_eq_false]
  have key : ∀ q ∈ outsL T, (¬ fallsB (ix C q.1) (stacksL C (ix T.2 q.2)) = true ↔ q ∈ keptAll T C true) := by
    intro q hq
    rw [falls_cuts hc hq]
    unfold keptAll keptL
    simp only [List.mem_flatMap, List.mem_filter, mem_irange]
    constructor
    · intro hn
      by_cases hx : ∃ c, (0 ≤ c ∧ c < ((ix C 0).length : Int)) ∧ q ∈ outsL T ∧ keepB T (col C c) true q = true
      · exact hx
      · refine absurd ?_ hn
        intro c c0 c1
        by_cases hm : ix (ix C q.1) c ∈ (ix T.2 q.2).map fun k => ix (ix C k) c
        · exact hm
        · exact absurd ⟨c, ⟨c0, c1⟩, hq, (keep_col h hc hq).mpr hm⟩ hx
    · rintro ⟨c, ⟨c0, c1⟩, _, hk⟩ hall
      exact (keep_col h hc hq).mp hk (hall c c0 c1)
  constructor
  · intro h q hq
    simp [(key q hq).mp (h q hq)]
  · intro h q hq
    have := h q hq
    simp only [Bool.not_eq_true', decide_eq_false_iff_not, Classical.not_not] at this
    exact (key q hq).mpr this
section
variable {ρ : Env}
@[simp] theorem e_zip {a : List Int} {b : List (List Int)} : zip1 (tI a) (tII b) ρ = .ok ((a.zip b).map fun p => .tup [.int p.1, tI p.2]) ρ := by
  show Res.ok (zipD (a.map D.int) (b.map tI)) ρ = _
  rw [q_zipD]
end
end Fx
namespace Fx
@[simp] theorem kindS_t : kindS true = "plain" := rfl
@[simp] theorem kindS_f : kindS false = "deep" := rfl
/-- the cuts whose chambers are these partings -/
def cutsOf (P : List (List Int)) : List (List Int) := (irange 0 (ix P 0).length).map fun k => col P k
/-- partings of m keys -/
structure POk (m d : Int) (P : List (List Int)) : Prop where
  k1 : 1 ≤ P.length
  k5 : P.length ≤ 5
  all : ∀ p ∈ P, (p.length : Int) = m ∧ ∀ x ∈ p, 0 ≤ x ∧ x < d
theorem mem_ix {α : Type} [Inhabited α] {l : List α} {x : α} (h : x ∈ l) : ∃ i : Int, 0 ≤ i ∧ i < l.length ∧ ix l i = x := by
  obtain ⟨i, hi, e⟩ := List.mem_iff_getElem.mp h
  refine ⟨i, by omega, by omega, ?_⟩
  unfold ix
  have e2 : ((i : Nat) : Int).toNat = i := by omega
  rw [e2, List.getD_eq_getElem?_getD, List.getElem?_eq_getElem hi]
  exact e
theorem ix_in {l : List Int} {a b i : Int} (h : ∀ x ∈ l, a ≤ x ∧ x < b) (h0 : 0 ≤ i) (h1 : i < l.length) : a ≤ ix l i ∧ ix l i < b := h _ (ix_mem h0 h1)
theorem cutsOf_ix {m d : Int} {P : List (List Int)} (h : POk m d P) {k : Int} (h0 : 0 ≤ k) (h1 : k < m) : ix (cutsOf P) k = col P k := by
  have h2 : ((ix P 0).length : Int) = m := (h.all _ (ix_mem (by omega) (by have := h.k1; omega))).1
  unfold cutsOf
  rw [ix_map h0 (by rw [len_irange]; omega)]
  have e : ix (irange 0 (ix P 0).length) k = k := by
    have hk : k.toNat < (((ix P 0).length : Int) - 0).toNat := by omega
    generalize ((ix P 0).length : Int) = N at hk
    unfold ix irange
    rw [List.getD_eq_getElem?_getD, List.getElem?_map, List.getElem?_range hk]
    show (0 + ((k.toNat : Nat) : Int)) = k
    omega
  rw [e]
theorem cutsOf_ok {m d : Int} {P : List (List Int)} (h : POk m d P) (hm : 1 ≤ m) : COk m d (cutsOf P) where
  len := by
    have h2 : ((ix P 0).length : Int) = m := (h.all _ (ix_mem (by omega) (by have := h.k1; omega))).1
    unfold cutsOf
    rw [List.length_map, len_irange]; omega
  m1 := hm
  k1 := by
    rw [cutsOf_ix h (by omega) (by omega)]
    unfold col
    rw [List.length_map]; exact h.k1
  k5 := by
    rw [cutsOf_ix h (by omega) (by omega)]
    unfold col
    rw [List.length_map]; exact h.k5
  all := by
    have h2 : ((ix P 0).length : Int) = m := (h.all _ (ix_mem (by omega) (by have := h.k1; omega))).1
    intro c hc
    rw [cutsOf_ix h (by omega) (by omega)]
    unfold cutsOf at hc
    rw [List.mem_map] at hc
    obtain ⟨k, hk, rfl⟩ := hc
    rw [mem_irange] at hk
    refine ⟨by unfold col; rw [List.length_map, List.length_map], ?_⟩
    intro x hx
    unfold col at hx
    rw [List.mem_map] at hx
    obtain ⟨p, hp, rfl⟩ := hx
    exact ix_in (h.all p hp).2 hk.1 (by have := (h.all p hp).1; omega)
theorem cutsOf_col {m d : Int} {P : List (List Int)} (h : POk m d P) {c : Int} (c0 : 0 ≤ c) (c1 : c < P.length) : col (cutsOf P) c = ix P c := by
  have h2 : ((ix P 0).length : Int) = m := (h.all _ (ix_mem (by omega) (by have := h.k1; omega))).1
  have h3 : ((ix P c).length : Int) = m := (h.all _ (ix_mem c0 c1)).1
  unfold col cutsOf
  rw [List.map_map]
  have e : (ix P 0).length = (ix P c).length := by omega
  rw [e]
  refine Eq.trans (List.map_congr_left fun k hk => ?_) (ir_ix (l := ix P c))
  rw [mem_irange] at hk
  exact ix_map c0 c1
/-- partings that keep out all outs are cuts that fit -/
theorem cutsOf_fit {T : Tab} {d : Int} {P : List (List Int)} (hT : TOk T) (h : POk T.1 d P) (hk : ∀ q ∈ outsL T, ∃ p ∈ P, keepB T p true q = true) : fitB T (cutsOf P) = true := by
  have hc := cutsOf_ok h hT.m1
  rw [fit_eq hT hc]
  unfold lawFitB
  rw [List.isEmpty_iff, List.filter_eq_nil_iff]
  intro q hq
  obtain ⟨p, hp, e⟩ := hk q hq
  obtain ⟨c, c0, c1, rfl⟩ := mem_ix hp
  have : q ∈ keptAll T (cutsOf P) true := by
    unfold keptAll keptL
    rw [List.mem_flatMap]
    refine ⟨c, mem_irange.mpr ⟨c0, ?_⟩, List.mem_filter.mpr ⟨hq, by rw [cutsOf_col h c0 c1]; exact e⟩⟩
    rw [cutsOf_ix h (by omega) (by have := hT.m1; omega)]
    unfold col
    rw [List.length_map]; exact c1
  simp [this]
theorem keptAll_len {T : Tab} {C : List (List Int)} {b : Bool} (h : TOk T) {p : List Int} : (p.flatMap fun c => keptL T (col C c) b).length ≤ p.length * 25 := flat_len fun x _ => kept_len h
end Fx
end
section
set_option linter.all false
set_option Elab.async false
set_option maxRecDepth 100000
set_option maxHeartbeats 1000000
/-! Partings, best sets, the search: plain. -/
namespace Fx
/-! ### counting -/
theorem nodup_len {α : Type} [DecidableEq α] : ∀ {l m : List α}, l.Nodup → (∀ x ∈ l, x ∈ m) → l.length ≤ m.length
  | [], _, _, _ => Nat.zero_le _
  | x :: l, m, h, k => by
    rw [List.nodup_cons] at h
    have hx := k x List.mem_cons_self
    have := nodup_len (l := l) (m := m.erase x) h.2 fun y hy => (List.mem_erase_of_ne (by rintro rfl; exact h.1 hy)).mpr (k y (List.mem_cons_of_mem _ hy))
    rw [List.length_erase_of_mem hx] at this
    have : 0 < m.length := List.length_pos_of_mem hx
    rw [List.length_cons]; omega
/-- all parts of a list -/
def pw {α : Type} : List α → List (List α)
  | [] => [[]]
  | x :: l => pw l ++ (pw l).map (x :: ·)
theorem pw_len {α : Type} : ∀ {l : List α}, (pw l).length = 2 ^ l.length
  | [] => rfl
  | x :: l => by
    unfold pw
    rw [List.length_append, List.length_map, pw_len, List.length_cons, Nat.pow_succ]; omega
theorem sub_pw {α : Type} {a l : List α} (h : a.Sublist l) : a ∈ pw l := by
  induction h with
  | slnil => exact List.mem_singleton.mpr rfl
  | cons x _ ih => exact List.mem_append.mpr (.inl ih)
  | cons_cons x _ ih => exact List.mem_append.mpr (.inr (List.mem_map.mpr ⟨_, ih, rfl⟩))
theorem subs_len {α : Type} [DecidableEq α] {l : List α} {ks : List (List α)} (h : ks.Nodup) (hs : ∀ k ∈ ks, k.Sublist l) : ks.length ≤ 2 ^ l.length := by
  rw [← pw_len]
  exact nodup_len h fun k hk => sub_pw (hs k hk)
/-! ### there are at most 20 outs -/
theorem outs_up {T : Tab} : (outsL T).Pairwise fun a b => a.1 < b.1 ∨ a.1 = b.1 ∧ a.2 < b.2 := by
  unfold outsL
  rw [List.pairwise_flatMap]
  constructor
  · intro k _
    unfold outsR
    rw [List.pairwise_map]
    exact (ir_up.filter _).imp fun h => .inr ⟨rfl, h⟩
  · refine ir_up.imp ?_
    intro a b hab p hp q hq
    unfold outsR at hp hq
    rw [List.mem_map] at hp hq
    obtain ⟨_, _, rfl⟩ := hp
    obtain ⟨_, _, rfl⟩ := hq
    exact .inl hab
theorem outs_nodup {T : Tab} : (outsL T).Nodup := outs_up.imp fun h e => by subst e; omega
theorem outs_20 {T : Tab} (h : TOk T) : (outsL T).length ≤ 20 := by
  have h1 := h.m1
  have h2 := h.m5
  have h3 := h.r1
  have h4 := h.r5
  have key := nodup_len (l := outsL T ++ (irange 0 T.2.length).map fun l => (ix (ix T.2 l) 0, l)) (m := (irange 0 T.1).flatMap fun k => (irange 0 T.2.length).map fun l => (k, l)) (by
    rw [List.nodup_append]
    refine ⟨outs_nodup, ?_, ?_⟩
    · rw [List.Nodup, List.pairwise_map]
      exact ir_up.imp fun h e => by
        have := congrArg Prod.snd e
        dsimp only at this
        omega
    · intro a ha b hb e
      subst e
      rw [List.mem_map] at hb
      obtain ⟨l, hl, rfl⟩ := hb
      rw [mem_outs] at ha
      rw [mem_irange] at hl
      have r := h.rows _ (ix_mem hl.1 hl.2)
      have l0 : 0 < (ix T.2 l).length := List.length_pos_iff.mpr r.ne
      have hm : ix (ix T.2 l) 0 ∈ ix T.2 l := ix_mem (by omega) (by omega)
      exact ha.2.2 hm) (by
    intro q hq
    rcases List.mem_append.mp hq with hq | hq
    · rw [mem_outs] at hq
      rw [List.mem_flatMap]
      exact ⟨q.1, mem_irange.mpr hq.1, List.mem_map.mpr ⟨q.2, mem_irange.mpr hq.2.1, rfl⟩⟩
    · rw [List.mem_map] at hq
      obtain ⟨l, hl, rfl⟩ := hq
      have hl' := mem_irange.mp hl
      have r := h.rows _ (ix_mem hl'.1 hl'.2)
      have l0 : 0 < (ix T.2 l).length := List.length_pos_iff.mpr r.ne
      rw [List.mem_flatMap]
      exact ⟨ix (ix T.2 l) 0, mem_irange.mpr (r.inn _ (ix_mem (by omega) (by omega))), List.mem_map.mpr ⟨l, hl, rfl⟩⟩)
  have e : ((irange 0 T.1).flatMap fun k => (irange 0 T.2.length).map fun l => (k, l)).length = T.1.toNat * T.2.length := by
    rw [List.length_flatMap]
    have e1 : ((irange 0 T.1).map fun k => ((irange 0 T.2.length).map fun l => (k, l)).length) = (irange 0 T.1).map fun _ => T.2.length := by
      apply List.map_congr_left
      intro k _
      rw [List.length_map, len_irange]; omega
    rw [e1, List.map_const', List.sum_replicate_nat, len_irange]
    have : (T.1 - 0).toNat = T.1.toNat := by omega
    rw [this]
  rw [e, List.length_append, List.length_map, len_irange] at key
  have hm : T.1.toNat ≤ 5 := by omega
  have hk : T.1.toNat * T.2.length ≤ 5 * T.2.length := Nat.mul_le_mul_right _ hm
  omega
/-! ### greatest numbers -/
theorem fold_max {c : Int} : ∀ {l : List Int} {a : Int}, (l.foldl max a ≤ c ↔ a ≤ c ∧ ∀ x ∈ l, x ≤ c)
  | [], a => by simp
  | x :: l, a => by
    rw [List.foldl_cons, fold_max]
    simp only [List.mem_cons, forall_eq_or_imp]
    constructor
    · rintro ⟨h1, h2⟩; exact ⟨by omega, by omega, h2⟩
    · rintro ⟨h1, h2, h3⟩; exact ⟨by omega, h3⟩
theorem mx_le {l : List Int} {c : Int} (h : l ≠ []) : mx l ≤ c ↔ ∀ x ∈ l, x ≤ c := by
  cases l with
  | nil => exact absurd rfl h
  | cons x l =>
    show l.foldl max x ≤ c ↔ _
    rw [fold_max]; simp
theorem mx_ge {l : List Int} {x : Int} (h : x ∈ l) : x ≤ mx l := (mx_le (by rintro rfl; cases h)).mp (Int.le_refl _) x h
@[simp] theorem maxI_c {x : Int} {l : List Int} : maxI (x :: l) = some (mx (x :: l)) := rfl
/-! ### partings -/
def topP (d : Int) (b : Bool) (row : List Int) : Int := if b = true then min d (mx (-1 :: row) + 2) else d
def growP (d : Int) (b : Bool) (row : List Int) : List (List Int) := (irange 0 (topP d b row)).map fun t => row ++ [t]
def partsL (d : Int) (b : Bool) : Nat → List (List Int)
  | 0 => [[]]
  | n + 1 => (partsL d b n).flatMap (growP d b)
theorem top_le {d : Int} {b : Bool} {row : List Int} : topP d b row ≤ d := by unfold topP; split <;> omega
theorem parts_in {d : Int} {b : Bool} : ∀ {n : Nat} {p : List Int}, p ∈ partsL d b n → p.length = n ∧ ∀ x ∈ p, 0 ≤ x ∧ x < d
  | 0, p, h => by
    have h : p ∈ [[]] := h
    simp at h; subst h; simp
  | n + 1, p, h => by
    have h : p ∈ (partsL d b n).flatMap (growP d b) := h
    rw [List.mem_flatMap] at h
    obtain ⟨r, hr, h⟩ := h
    unfold growP at h
    rw [List.mem_map] at h
    obtain ⟨t, ht, rfl⟩ := h
    rw [mem_irange] at ht
    have k := parts_in hr
    have := top_le (d := d) (b := b) (row := r)
    refine ⟨by simp [k.1], ?_⟩
    intro x hx
    rcases List.mem_append.mp hx with hx | hx
    · exact k.2 x hx
    · rw [List.mem_singleton.mp hx]; omega
theorem parts_len {d : Int} {b : Bool} (d4 : d ≤ 4) : ∀ {n : Nat}, (partsL d b n).length ≤ 4 ^ n
  | 0 => Nat.le_refl _
  | n + 1 => by
    have h := flat_len (f := growP d b) (c := 4) (l := partsL d b n) fun r _ => by
      unfold growP
      rw [List.length_map, len_irange]
      have := top_le (d := d) (b := b) (row := r)
      omega
    have := parts_len (d := d) (b := b) d4 (n := n)
    show ((partsL d b n).flatMap (growP d b)).length ≤ 4 ^ (n + 1)
    rw [Nat.pow_succ]
    have := Nat.mul_le_mul_right 4 this
    omega
theorem parts_1024 {d : Int} {b : Bool} {n : Nat} (d4 : d ≤ 4) (n5 : n ≤ 5) : (partsL d b n).length ≤ 1024 := Nat.le_trans (parts_len d4) (Nat.le_trans (Nat.pow_le_pow_right (by omega) n5) (by decide))
/-- the first one: all alike -/
theorem parts_zero {d : Int} {b : Bool} (d1 : 1 ≤ d) : ∀ {n : Nat}, ∃ l, partsL d b n = List.replicate n 0 :: l
  | 0 => ⟨[], rfl⟩
  | n + 1 => by
    obtain ⟨l, e⟩ := parts_zero (d := d) (b := b) d1 (n := n)
    have ht : 0 < topP d b (List.replicate n 0) := by
      unfold topP
      split
      · have := mx_ge (l := -1 :: List.replicate n 0) (x := -1) (by simp)
        omega
      · omega
    refine ⟨((irange (0 + 1) (topP d b (List.replicate n 0))).map fun t => List.replicate n 0 ++ [t]) ++ l.flatMap (growP d b), ?_⟩
    show (partsL d b n).flatMap (growP d b) = _
    rw [e, List.flatMap_cons]
    unfold growP
    rw [irange_succ ht, List.map_cons, ← List.replicate_succ']
    rfl
/-- one key alone -/
def isoF (b : Bool) (t i : Nat) : Int := if b = true ∧ t = 0 then (if i = 0 then 0 else 1) else (if i = t then 1 else 0)
def isoP (b : Bool) (n t : Nat) : List Int := (List.range n).map (isoF b t)
theorem iso_succ {b : Bool} {n t : Nat} : isoP b (n + 1) t = isoP b n t ++ [isoF b t n] := by unfold isoP; rw [List.range_succ, List.map_append]; rfl
theorem isoF_in {b : Bool} {t i : Nat} : 0 ≤ isoF b t i ∧ isoF b t i ≤ 1 := by
  unfold isoF
  split <;> split <;> omega
theorem iso_parts {d : Int} {b : Bool} {t : Nat} (d2 : 2 ≤ d) : ∀ {n : Nat}, isoP b n t ∈ partsL d b n
  | 0 => List.mem_singleton.mpr rfl
  | n + 1 => by
    show _ ∈ (partsL d b n).flatMap (growP d b)
    rw [iso_succ, List.mem_flatMap]
    refine ⟨isoP b n t, iso_parts d2, ?_⟩
    unfold growP
    rw [List.mem_map]
    refine ⟨isoF b t n, mem_irange.mpr ⟨isoF_in.1, ?_⟩, rfl⟩
    have h1 := isoF_in (b := b) (t := t) (i := n)
    unfold topP
    split
    · next hb =>
      subst hb
      cases n with
      | zero =>
        have h0 : isoF true t 0 ≤ 0 := by
          unfold isoF
          split
          · simp
          · next h => simp at h; split <;> omega
        have := mx_ge (l := -1 :: isoP true 0 t) (x := -1) (by simp)
        omega
      | succ k =>
        have hm : isoF true t 0 ∈ isoP true (k + 1) t := List.mem_map.mpr ⟨0, List.mem_range.mpr (by omega), rfl⟩
        have h0 := isoF_in (b := true) (t := t) (i := 0)
        have := mx_ge (l := -1 :: isoP true (k + 1) t) (x := isoF true t 0) (List.mem_cons_of_mem _ hm)
        omega
    · omega
theorem iso_ix {b : Bool} {n t : Nat} {k : Int} (h0 : 0 ≤ k) (h1 : k < n) : ix (isoP b n t) k = isoF b t k.toNat := by
  unfold ix isoP
  rw [List.getD_eq_getElem?_getD, List.getElem?_map, List.getElem?_range (by omega)]; rfl
/-- which keeps out all that this key shall not open -/
theorem iso_keeps {T : Tab} {b : Bool} (h : TOk T) {q : Int × Int} (hq : q ∈ outsL T) : keepB T (isoP b T.1.toNat q.1.toNat) b q = true := by
  rw [mem_outs] at hq
  have m1 := h.m1
  have r := h.rows _ (ix_mem hq.2.1.1 hq.2.1.2)
  have e : ∀ k ∈ ix T.2 q.2, ix (isoP b T.1.toNat q.1.toNat) k = isoF b q.1.toNat k.toNat := fun k hk => by
    have := r.inn k hk
    exact iso_ix this.1 (by omega)
  have e1 : (ix T.2 q.2).map (ix (isoP b T.1.toNat q.1.toNat)) = (ix T.2 q.2).map fun k => isoF b q.1.toNat k.toNat := List.map_congr_left e
  unfold keepB
  rw [e1, iso_ix hq.1.1 (by omega)]
  have ne : ∀ k ∈ ix T.2 q.2, k.toNat ≠ q.1.toNat := fun k hk e => by
    have h1 := r.inn k hk
    have : k = q.1 := by omega
    subst this
    exact hq.2.2 hk
  split
  · next hb =>
    subst hb
    rw [Bool.not_eq_true', decide_eq_false_iff_not, List.mem_map]
    rintro ⟨k, hk, e⟩
    have := ne k hk
    unfold isoF at e
    split at e
    · next h0 =>
      rw [if_pos h0.2] at e
      rw [if_neg (by omega)] at e
      omega
    · simp [this] at e
  · next hb =>
    have hb : b = false := by cases b <;> simp_all
    subst hb
    rw [decide_eq_true_eq]
    have f1 : isoF false q.1.toNat q.1.toNat = 1 := by simp [isoF]
    have f2 : mx ((ix T.2 q.2).map fun k => isoF false q.1.toNat k.toNat) ≤ 0 := by
      rw [mx_le (by intro e; exact r.ne (List.map_eq_nil_iff.mp e))]
      intro x hx
      rw [List.mem_map] at hx
      obtain ⟨k, hk, rfl⟩ := hx
      have := ne k hk
      simp [isoF, this]
    omega
theorem kept_zero {T : Tab} {b : Bool} (h : TOk T) : keptL T (List.replicate T.1.toNat 0) b = [] := by
  unfold keptL
  rw [List.filter_eq_nil_iff]
  intro q hq
  rw [mem_outs] at hq
  have r := h.rows _ (ix_mem hq.2.1.1 hq.2.1.2)
  have z : ∀ k : Int, 0 ≤ k → k < T.1 → ix (List.replicate T.1.toNat (0 : Int)) k = 0 := fun k h0 h1 => by
    unfold ix
    rw [List.getD_eq_getElem?_getD, List.getElem?_replicate, if_pos (by omega)]; rfl
  have e1 : (ix T.2 q.2).map (ix (List.replicate T.1.toNat (0 : Int))) = (ix T.2 q.2).map fun _ => 0 := List.map_congr_left fun k hk => by
    have := r.inn k hk
    exact z k this.1 this.2
  have hne : (ix T.2 q.2).map (fun _ => (0 : Int)) ≠ [] := fun e => r.ne (List.map_eq_nil_iff.mp e)
  unfold keepB
  rw [e1, z _ hq.1.1 hq.1.2]
  split
  · have : (0 : Int) ∈ (ix T.2 q.2).map fun _ => (0 : Int) := by
      obtain ⟨k, hk⟩ := List.exists_mem_of_ne_nil _ r.ne
      exact List.mem_map.mpr ⟨k, hk, rfl⟩
    simp [this]
  · have := mx_ge (l := (ix T.2 q.2).map fun _ => (0 : Int)) (x := 0) (by
      obtain ⟨k, hk⟩ := List.exists_mem_of_ne_nil _ r.ne
      exact List.mem_map.mpr ⟨k, hk, rfl⟩)
    simp; omega
/-! ### greatest sets -/
def subB (a b : List (Int × Int)) : Bool := (a.filter fun q => !decide (q ∈ b)).isEmpty
theorem subB_iff {a b : List (Int × Int)} : subB a b = true ↔ ∀ q ∈ a, q ∈ b := by
  unfold subB
  rw [List.isEmpty_iff, List.filter_eq_nil_iff]
  simp
/-- none of every is greater -/
def topB (every : List (List (Int × Int))) (k : List (Int × Int)) : Bool := (every.filter fun o => decide (k.length < o.length) && subB k o).isEmpty
theorem top_above {every : List (List (Int × Int))} {c : Nat} (hc : ∀ k ∈ every, k.length ≤ c) : ∀ (n : Nat) {k : List (Int × Int)}, k ∈ every → c - k.length ≤ n → ∃ o ∈ every, topB every o = true ∧ ∀ q ∈ k, q ∈ o := by
  intro n
  induction n with
  | zero =>
    intro k hk hn
    refine ⟨k, hk, ?_, fun _ h => h⟩
    unfold topB
    rw [List.isEmpty_iff, List.filter_eq_nil_iff]
    intro o ho
    have := hc o ho
    have := hc k hk
    simp; omega
  | succ n ih =>
    intro k hk hn
    by_cases ht : topB every k = true
    · exact ⟨k, hk, ht, fun _ h => h⟩
    · unfold topB at ht
      rw [List.isEmpty_iff, List.filter_eq_nil_iff] at ht
      have : ∃ o ∈ every, k.length < o.length ∧ subB k o = true := by
        by_cases hx : ∃ o ∈ every, k.length < o.length ∧ subB k o = true
        · exact hx
        · refine absurd ?_ ht
          intro o ho hh
          simp only [Bool.and_eq_true, decide_eq_true_eq] at hh
          exact hx ⟨o, ho, hh⟩
      obtain ⟨o, ho, hl, hs⟩ := this
      have := hc o ho
      obtain ⟨z, hz, h1, h2⟩ := ih ho (by omega)
      exact ⟨z, hz, h1, fun q hq => h2 q (subB_iff.mp hs q hq)⟩
abbrev Ent := List (Int × Int) × List Int
/-- the greatest sets of outs, each with its parting -/
structure BestOk (T : Tab) (d : Int) (b : Bool) (best : List Ent) : Prop where
  len : best.length ≤ 1024
  is : ∀ e ∈ best, e.1 = keptL T e.2 b ∧ e.2 ∈ partsL d b T.1.toNat
  dom : ∀ p ∈ partsL d b T.1.toNat, ∃ e ∈ best, ∀ q ∈ keptL T p b, q ∈ e.1
end Fx
end
section
set_option linter.all false
set_option Elab.async false
set_option maxRecDepth 100000
set_option maxHeartbeats 1000000
/-! Dicts whose keys are rows of pairs; sorted rows of pairs. -/
namespace Fx
open PySem
theorem keys_pr : ∀ {l : List (Int × Int)}, D.areKeys (l.map pr) = true
  | [] => rfl
  | x :: l => by
    show (true && D.areKeys (l.map pr)) = true
    rw [keys_pr]; rfl
theorem nks_pr : ∀ {l : List (Int × Int)}, NestedKey.depthAll (D.nks (l.map pr)) ≤ 2
  | [] => Nat.zero_le _
  | x :: l => by
    have := nks_pr (l := l)
    show max (max 0 (max 0 0) + 1) (NestedKey.depthAll (D.nks (l.map pr))) ≤ 2
    omega
@[simp] theorem tk_tP {l : List (Int × Int)} : (tP l).isTK = true := by
  show (D.areKeys (l.map pr) && decide (NestedKey.depthAll (D.nks (l.map pr)) + 1 ≤ 8)) = true
  rw [keys_pr]
  have := nks_pr (l := l)
  simp; omega
theorem tks_tP {ks : List (List (Int × Int))} : (ks.map tP).all D.isTK = true := by
  rw [List.all_eq_true]
  intro d hd
  rw [List.mem_map] at hd
  obtain ⟨l, _, rfl⟩ := hd
  exact tk_tP
@[simp] theorem key_tP {ks : List (List (Int × Int))} {k : List (Int × Int)} : keyOk (ks.map tP) (tP k) = true := by
  unfold keyOk
  rw [tks_tP, tk_tP]
  simp
theorem find_tP {ks : List (List (Int × Int))} {k : List (Int × Int)} : dFind (ks.map tP) (tP k) = ks.findIdx? fun x => decide (x = k) := by
  unfold dFind
  rw [List.findIdx?_map]
  congr 1
  funext x
  exact v_tP
theorem none_tP {ks : List (List (Int × Int))} {k : List (Int × Int)} (h : k ∉ ks) : dFind (ks.map tP) (tP k) = none := by
  rw [find_tP, List.findIdx?_eq_none_iff]
  intro x hx
  simp; rintro rfl; exact h hx
@[simp] theorem in_dP {ks : List (List (Int × Int))} {vs : List D} {k : List (Int × Int)} : inD (tP k) (.dct (ks.map tP) vs) = some (decide (k ∈ ks)) := by
  rw [inD_d, key_tP, if_pos rfl]
  congr 1
  by_cases h : k ∈ ks
  · cases e : dFind (ks.map tP) (tP k) with
    | some j => simp [h]
    | none =>
      rw [find_tP, List.findIdx?_eq_none_iff] at e
      have := e k h
      simp at this
  · rw [none_tP h]; simp [h]
@[simp] theorem putK_tP {ks : List (List (Int × Int))} {k : List (Int × Int)} (h : k ∉ ks) : dPutK (ks.map tP) (tP k) = (ks ++ [k]).map tP := by
  unfold dPutK
  rw [none_tP h, List.map_append]; rfl
@[simp] theorem putV_tP {ks : List (List (Int × Int))} {vs : List D} {v : D} {k : List (Int × Int)} (h : k ∉ ks) : dPutV (ks.map tP) vs (tP k) v = vs ++ [v] := by
  unfold dPutV
  rw [none_tP h]
/-- what a dict holds under a key -/
theorem get_tP {β : Type} {f : β → D} {k : List (Int × Int)} : ∀ {s : List (List (Int × Int) × β)}, k ∈ s.map (·.1) → ∃ e ∈ s, e.1 = k ∧ dGet ((s.map (·.1)).map tP) ((s.map (·.2)).map f) (tP k) = some (f e.2) := by
  intro s hk
  obtain ⟨j, hj⟩ : ∃ j, (s.map (·.1)).findIdx? (fun x => decide (x = k)) = some j := by
    cases e : (s.map (·.1)).findIdx? fun x => decide (x = k) with
    | some j => exact ⟨j, rfl⟩
    | none =>
      rw [List.findIdx?_eq_none_iff] at e
      have := e k hk
      simp at this
  have h1 := List.findIdx?_eq_some_iff_getElem.mp hj
  obtain ⟨hl, he, _⟩ := h1
  rw [List.length_map] at hl
  refine ⟨s[j], List.getElem_mem hl, ?_, ?_⟩
  · simpa using he
  · unfold dGet
    rw [find_tP, hj]
    show ((s.map (·.2)).map f)[j]? = _
    rw [List.getElem?_map, List.getElem?_map, List.getElem?_eq_getElem hl]; rfl
/-! ### sorted -/
theorem alike_prs : ∀ {a b : List (Int × Int)}, PySem.W.alikeAll (D.pys (a.map pr)) (D.pys (b.map pr)) = true
  | [], [] => rfl
  | [], _ :: _ => rfl
  | _ :: _, [] => rfl
  | x :: a, y :: b => by
    show (PySem.W.alike (pr x).py (pr y).py && PySem.W.alikeAll (D.pys (a.map pr)) (D.pys (b.map pr))) = true
    rw [alike_prs, Bool.and_true]; rfl
theorem alike_tP {a b : List (Int × Int)} : PySem.W.alike (tP a).py (tP b).py = true := alike_prs
theorem sortOk_tP {ks : List (List (Int × Int))} (hl : ks.length < 16777216) : sortOk (([] :: ks).map tP) = true := by
  unfold sortOk
  have h1 : D.plains (([] :: ks).map tP) = true := by rw [plains_all, List.all_eq_true]; intro d hd; rw [List.mem_map] at hd; obtain ⟨l, _, rfl⟩ := hd; exact tP_plain
  have h2 : D.depths (([] :: ks).map tP) ≤ 40 := depths_le fun d hd => by
    rw [List.mem_map] at hd
    obtain ⟨l, _, rfl⟩ := hd
    have := dle_depth (tP_dle (a := l) (n := 0))
    omega
  have h3 : (([] :: ks).map tP).length ≤ 16777216 := by simp; omega
  have h4 : ((([] :: ks).map tP).all fun x => (([] :: ks).map tP).all fun y => PySem.W.alike x.py y.py) = true := by
    rw [List.all_eq_true]
    intro x hx
    rw [List.all_eq_true]
    intro y hy
    rw [List.mem_map] at hx hy
    obtain ⟨a, _, rfl⟩ := hx
    obtain ⟨b, _, rfl⟩ := hy
    exact alike_tP
  rw [h1, h4]
  simp only [Bool.true_and, h2, h3, decide_true]
  simp only [List.map_cons]
  have e : tP [] = .tup [] := rfl
  rw [e]
  simp
def unP : D → List (Int × Int)
  | .tup ds => ds.map fun d => match d with
    | .tup [.int a, .int b] => (a, b)
    | _ => (0, 0)
  | _ => []
theorem un_tP {l : List (Int × Int)} : unP (tP l) = l := by
  show (l.map pr).map _ = l
  rw [List.map_map]
  exact (List.map_congr_left fun x _ => by obtain ⟨a, b⟩ := x; rfl).trans (List.map_id l)
theorem sort_tP {ks : List (List (Int × Int))} (hl : ks.length < 16777216) : ∃ every : List (List (Int × Int)), every.Perm ([] :: ks) ∧ sortD (([] :: ks).map tP) = some (every.map tP) := by
  have p := List.mergeSort_perm (([] :: ks).map tP) leD
  refine ⟨((([] :: ks).map tP).mergeSort leD).map unP, ?_, ?_⟩
  · have := p.map unP
    rw [List.map_map] at this
    have e : ([] :: ks).map (unP ∘ tP) = [] :: ks := (List.map_congr_left fun l _ => un_tP).trans (List.map_id _)
    rw [e] at this
    exact this
  · unfold sortD
    rw [if_pos (sortOk_tP hl), List.map_map]
    congr 1
    symm
    refine (List.map_congr_left fun d hd => ?_).trans (List.map_id _)
    have := p.mem_iff.mp hd
    rw [List.mem_map] at this
    obtain ⟨l, _, rfl⟩ := this
    show tP (unP (tP l)) = tP l
    rw [un_tP]
end Fx
namespace Fx
/-! ### what the search for greatest sets has seen -/
def stepS (T : Tab) (b : Bool) (s : List Ent) (p : List Int) : List Ent := if keptL T p b ∈ s.map (·.1) then s else s ++ [(keptL T p b, p)]
def seenL (T : Tab) (b : Bool) (ps : List (List Int)) : List Ent := ps.foldl (stepS T b) []
theorem seen_app {T : Tab} {b : Bool} {ps : List (List Int)} {p : List Int} : seenL T b (ps ++ [p]) = stepS T b (seenL T b ps) p := by unfold seenL; rw [List.foldl_append]; rfl
/-- by the last one -/
theorem snoc_ind {α : Type} {P : List α → Prop} (h0 : P []) (h1 : ∀ l x, P l → P (l ++ [x])) (l : List α) : P l := by
  have : ∀ r : List α, P r.reverse := by
    intro r
    induction r with
    | nil => exact h0
    | cons x r ih => rw [List.reverse_cons]; exact h1 _ _ ih
  have h := this l.reverse
  rw [List.reverse_reverse] at h
  exact h
theorem seen_len {T : Tab} {b : Bool} {ps : List (List Int)} : (seenL T b ps).length ≤ ps.length := by
  induction ps using snoc_ind with
  | h0 => exact Nat.zero_le _
  | h1 l x ih =>
    rw [seen_app, List.length_append]
    unfold stepS
    split
    · simp; omega
    · simp; exact ih
theorem seen_is {T : Tab} {b : Bool} {ps : List (List Int)} : ∀ e ∈ seenL T b ps, e.1 = keptL T e.2 b ∧ e.2 ∈ ps := by
  induction ps using snoc_ind with
  | h0 => intro e he; cases he
  | h1 l x ih =>
    intro e he
    rw [seen_app] at he
    unfold stepS at he
    split at he
    · exact ⟨(ih e he).1, List.mem_append.mpr (.inl (ih e he).2)⟩
    · rcases List.mem_append.mp he with he | he
      · exact ⟨(ih e he).1, List.mem_append.mpr (.inl (ih e he).2)⟩
      · rw [List.mem_singleton.mp he]
        exact ⟨rfl, by simp⟩
theorem seen_all {T : Tab} {b : Bool} {ps : List (List Int)} : ∀ p ∈ ps, keptL T p b ∈ (seenL T b ps).map (·.1) := by
  induction ps using snoc_ind with
  | h0 => intro p hp; cases hp
  | h1 l x ih =>
    intro p hp
    rw [seen_app]
    unfold stepS
    split
    · next h =>
      rcases List.mem_append.mp hp with hp | hp
      · exact ih p hp
      · rw [List.mem_singleton.mp hp]; exact h
    · rw [List.map_append, List.mem_append]
      rcases List.mem_append.mp hp with hp | hp
      · exact .inl (ih p hp)
      · rw [List.mem_singleton.mp hp]; exact .inr (by simp)
theorem seen_first {T : Tab} {b : Bool} {p : List Int} : ∀ {ps : List (List Int)}, ∃ s, seenL T b (p :: ps) = (keptL T p b, p) :: s := by
  intro ps
  induction ps using snoc_ind with
  | h0 => exact ⟨[], by simp [seenL, stepS]⟩
  | h1 l x ih =>
    obtain ⟨s, e⟩ := ih
    have e2 : p :: (l ++ [x]) = (p :: l) ++ [x] := rfl
    rw [e2, seen_app]
    unfold stepS
    split
    · exact ⟨s, e⟩
    · exact ⟨s ++ [(keptL T x b, x)], by rw [e]; rfl⟩
def encB (e : Ent) : D := .tup [tP e.1, tI e.2]
theorem best_of {T : Tab} {d : Int} {b : Bool} {every : List (List (Int × Int))} {fs : List Ent} (hT : TOk T) (d4 : d ≤ 4) (hp : every.Perm ((seenL T b (partsL d b T.1.toNat)).map (·.1)))
    (h1 : fs.map (·.1) = every.filter (topB every)) (h2 : ∀ e ∈ fs, e ∈ seenL T b (partsL d b T.1.toNat)) : BestOk T d b fs where
  len := by
    have e1 := congrArg List.length h1
    rw [List.length_map] at e1
    have e2 := List.length_filter_le (topB every) every
    have e3 := hp.length_eq
    rw [List.length_map] at e3
    have e4 := seen_len (T := T) (b := b) (ps := partsL d b T.1.toNat)
    have e5 := parts_1024 (d := d) (b := b) (n := T.1.toNat) d4 (by have := hT.m5; omega)
    omega
  is := fun e he => seen_is e (h2 e he)
  dom := by
    intro p hpp
    have hk : keptL T p b ∈ every := hp.mem_iff.mpr (seen_all p hpp)
    have hc : ∀ k ∈ every, k.length ≤ 25 := by
      intro k hk
      have := hp.mem_iff.mp hk
      rw [List.mem_map] at this
      obtain ⟨e, he, rfl⟩ := this
      rw [(seen_is e he).1]
      exact kept_len hT
    obtain ⟨o, ho, ht, hs⟩ := top_above hc 25 hk (by omega)
    have : o ∈ fs.map (·.1) := by rw [h1]; exact List.mem_filter.mpr ⟨ho, ht⟩
    rw [List.mem_map] at this
    obtain ⟨e, he, rfl⟩ := this
    exact ⟨e, he, hs⟩
end Fx
end
section
set_option linter.all false
set_option Elab.async false
set_option maxRecDepth 100000
set_option maxHeartbeats 1000000
/-! The search for the fewest chambers: plain; lists in either form. -/
namespace Fx
@[simp] theorem t_oneI {x : List Int} : D.tup [tI x] = tII [x] := rfl
/-- a list, owned or plain -/
def lsR (o : Bool) (ds : List D) : R := if o = true then .lst ds else .val (.lst ds)
theorem ls_t {ds : List D} : R.lst ds = lsR true ds := rfl
theorem ls_f {ds : List D} : R.val (.lst ds) = lsR false ds := rfl
@[simp] theorem ls_rd {fl : Nat → List Nat} {i : Nat} {o : Bool} {ds : List D} {ρ : Env} (h : ρ.at i = some (lsR o ds)) : rdO fl i (some (lsR o ds)) ρ = .ok (.val (.lst ds)) (ρ.set i (some (.val (.lst ds)))) := by
  cases o with
  | true => rfl
  | false =>
    show Res.ok _ ρ = Res.ok _ (ρ.set i (some (.val (.lst ds))))
    have e : ρ.at i = some (.val (.lst ds)) := h
    rw [← e, set_atE (at_lt h)]
theorem ir_mid {a b : Int} {p q : List Int} {x : Int} (h : irange a b = p ++ x :: q) : x = a + p.length := by
  have e : (irange a b)[p.length]? = (p ++ x :: q)[p.length]? := by rw [h]
  rw [List.getElem?_append_right (Nat.le_refl _), Nat.sub_self] at e
  unfold irange at e
  rw [List.getElem?_map] at e
  cases e2 : (List.range (b - a).toNat)[p.length]? with
  | none => rw [e2] at e; cases e
  | some i =>
    rw [e2] at e
    obtain ⟨h1, h2⟩ := List.getElem?_eq_some_iff.mp e2
    rw [List.getElem_range] at h2
    subst h2
    cases e; rfl
abbrev RowE := List (Int × Int) × List (List Int)
def encR (r : RowE) : D := .tup [tP r.1, tII r.2]
structure FRow (T : Tab) (d : Int) (b : Bool) (k : Nat) (r : RowE) : Prop where
  sub : r.1.Sublist (outsL T)
  len : r.2.length = k
  inn : ∀ p ∈ r.2, p ∈ partsL d b T.1.toNat
  cov : ∀ q ∈ outsL T, q ∉ r.1 → ∃ p ∈ r.2, keepB T p b q = true
def restF (l : List (Int × Int)) (e : Ent) : List (Int × Int) := l.filter fun q => !decide (q ∈ e.1)
/-- a good answer: k partings that keep out all outs -/
structure Fine (T : Tab) (d : Int) (b : Bool) (ps : List (List Int)) : Prop where
  k1 : 1 ≤ ps.length
  km : (ps.length : Int) ≤ T.1
  inn : ∀ p ∈ ps, p ∈ partsL d b T.1.toNat
  cov : ∀ q ∈ outsL T, ∃ p ∈ ps, keepB T p b q = true
theorem Fine.pok {T : Tab} {d : Int} {b : Bool} {ps : List (List Int)} (h : Fine T d b ps) (hT : TOk T) : POk T.1 d ps where
  k1 := h.k1
  k5 := by have := h.km; have := hT.m5; omega
  all := fun p hp => by
    have h1 := parts_in (h.inn p hp)
    have h2 := hT.m1
    exact ⟨by omega, h1.2⟩
variable {T : Tab} {d : Int} {b : Bool} {best : List Ent} {k : Nat} {r : RowE} {e : Ent}
theorem rest_ok (hb : BestOk T d b best) (h : FRow T d b k r) (he : e ∈ best) : FRow T d b (k + 1) (restF r.1 e, r.2 ++ [e.2]) where
  sub := List.filter_sublist.trans h.sub
  len := by simp [h.len]
  inn := fun p hp => by
    rcases List.mem_append.mp hp with hp | hp
    · exact h.inn p hp
    · rw [List.mem_singleton.mp hp]; exact (hb.is e he).2
  cov := fun q hq hn => by
    by_cases hr : q ∈ r.1
    · have hk : q ∈ e.1 := by
        by_cases hk : q ∈ e.1
        · exact hk
        · exact absurd (List.mem_filter.mpr ⟨hr, by simp [hk]⟩) hn
      rw [(hb.is e he).1] at hk
      exact ⟨e.2, by simp, (List.mem_filter.mp hk).2⟩
    · obtain ⟨p, hp, ek⟩ := h.cov q hq hr
      exact ⟨p, List.mem_append.mpr (.inl hp), ek⟩
theorem rest_fine (hb : BestOk T d b best) (h : FRow T d b k r) (he : e ∈ best) (h0 : restF r.1 e = []) (hk : (k : Int) < T.1) : Fine T d b (r.2 ++ [e.2]) := by
  have h2 := rest_ok hb h he
  exact ⟨by rw [h2.len]; omega, by rw [h2.len]; omega, h2.inn, fun q hq => h2.cov q hq (by dsimp only; rw [h0]; simp)⟩
theorem rest_sp (hT : TOk T) (d2 : 2 ≤ d) (hb : BestOk T d b best) (h : FRow T d b k r) (hs : ∀ q ∈ r.1, (k : Int) ≤ q.1) : ∃ e ∈ best, ∀ q ∈ restF r.1 e, ((k + 1 : Nat) : Int) ≤ q.1 := by
  obtain ⟨e, he, hd⟩ := hb.dom (isoP b T.1.toNat k) (iso_parts d2)
  refine ⟨e, he, fun q hq => ?_⟩
  unfold restF at hq
  rw [List.mem_filter] at hq
  obtain ⟨h1, h2⟩ := hq
  have h3 := hs q h1
  by_cases hk : q.1 = k
  · have ho : q ∈ outsL T := h.sub.subset h1
    have := iso_keeps (b := b) hT ho
    have e1 : q.1.toNat = k := by omega
    rw [e1] at this
    have := hd q (List.mem_filter.mpr ⟨ho, this⟩)
    simp [this] at h2
  · omega
theorem rows_len (hT : TOk T) {new : List RowE} (h : ∀ r ∈ new, FRow T d b k r) (hn : (new.map (·.1)).Nodup) : new.length ≤ 1048576 := by
  have h1 := subs_len hn fun x hx => by
    rw [List.mem_map] at hx
    obtain ⟨r, hr, rfl⟩ := hx
    exact (h r hr).sub
  rw [List.length_map] at h1
  have h2 := outs_20 hT
  have h3 : 2 ^ (outsL T).length ≤ 2 ^ 20 := Nat.pow_le_pow_right (by omega) h2
  omega
end Fx
namespace Fx
/-- drawn cuts are cuts -/
theorem drawn_cok {B : Box} {m d k : Int} (m1 : 1 ≤ m) (d1 : 0 < d) (k1 : 1 ≤ k) (k5 : k ≤ 5) : COk m d (dww B d k.toNat m.toNat).1 := by
  have l := dww_len (B := B) (m := d) (k := k.toNat) (n := m.toNat)
  have h0 : (ix (dww B d k.toNat m.toNat).1 0).length = k.toNat := (dww_in d1 _ (ix_mem (by omega) (by omega))).1
  exact ⟨by omega, m1, by omega, by omega, fun c hc => by
    have := dww_in d1 c hc
    exact ⟨by omega, this.2⟩⟩
theorem Fine.shuf {T : Tab} {d : Int} {b : Bool} {ps : List (List Int)} {B : Box} (h : Fine T d b ps) : Fine T d b (shuf B ps).1 where
  k1 := by rw [shuf_len]; exact h.k1
  km := by rw [shuf_len]; exact h.km
  inn := fun p hp => h.inn p (shufPerm.mem_iff.mp hp)
  cov := fun q hq => by
    obtain ⟨p, hp, e⟩ := h.cov q hq
    exact ⟨p, shufPerm.mem_iff.mpr hp, e⟩
end Fx
end
section
set_option linter.all false
set_option Elab.async false
set_option maxRecDepth 100000
set_option maxHeartbeats 1000000
/-! Loops over lists that stand written. -/
namespace Fx
section
variable (g : G) (Φ : Fn)
def forC (tg : Tg) (body : ISs) (ds : List D) (x : SRes) : SRes := match x with
  | .nx ρ => forE g Φ tg body ds ρ
  | .ct ρ => forE g Φ tg body ds ρ
  | .bk ρ => .nx ρ
  | x => x
def forS (tg : Tg) (body : ISs) (ds : List D) (o : Option Env) : SRes := match o with
  | some ρ => forC g Φ tg body ds (evSs g Φ body ρ)
  | none => .stuck
end
section
variable {g : G} {Φ : Fn} {tg : Tg} {body : ISs} {ds : List D} {ρ : Env}
@[simp] theorem fo_nil : forE g Φ tg body [] ρ = .nx ρ := rfl
@[simp] theorem fo_cons {d : D} : forE g Φ tg body (d :: ds) ρ = forS g Φ tg body ds (setTg tg d ρ) := by
  unfold forE forS
  show (match setTg tg d ρ with
    | none => SRes.stuck
    | some ρ1 => match evSs g Φ body ρ1 with
      | .nx ρ2 => forF tg (fun ρ => evSs g Φ body ρ) ds ρ2
      | .ct ρ2 => forF tg (fun ρ => evSs g Φ body ρ) ds ρ2
      | .bk ρ2 => .nx ρ2
      | x => x) = _
  cases setTg tg d ρ with
  | none => rfl
  | some ρ1 => dsimp only; unfold forC; cases evSs g Φ body ρ1 <;> rfl
@[simp] theorem fo_some : forS g Φ tg body ds (some ρ) = forC g Φ tg body ds (evSs g Φ body ρ) := rfl
@[simp] theorem fo_nx : forC g Φ tg body ds (.nx ρ) = forE g Φ tg body ds ρ := rfl
@[simp] theorem fo_ct : forC g Φ tg body ds (.ct ρ) = forE g Φ tg body ds ρ := rfl
@[simp] theorem fo_bk : forC g Φ tg body ds (.bk ρ) = .nx ρ := rfl
@[simp] theorem fo_rt {r : R} : forC g Φ tg body ds (.rt r ρ) = .rt r ρ := rfl
@[simp] theorem fo_x {c : Nat} {d : D} : forC g Φ tg body ds (.exc c d ρ) = .exc c d ρ := rfl
end
end Fx
end
section
set_option linter.all false
set_option Elab.async false
set_option maxRecDepth 100000
set_option maxHeartbeats 1000000
/-! Sorted ints; what a cut opens: plain. -/
namespace Fx
open PySem (Operator CmpOp)
/-! ### sorted -/
theorem leD_int {a b : Int} : leD (.int a) (.int b) = decide (a ≤ b) := by
  show (!PySem.W.dataLt (.int b) (.int a)) = _
  rw [PySem.W.dataLt_int]
  exact nlt
theorem sortD_asc {l : List Int} (h : l.Pairwise (· < ·)) (hl : l.length ≤ 16777216) : sortD (l.map D.int) = some (l.map D.int) := by
  unfold sortD
  have ok : sortOk (l.map D.int) = true := by
    unfold sortOk
    have h1 : D.plains (l.map D.int) = true := by simp
    have h2 : D.depths (l.map D.int) ≤ 40 := depths_le fun d hd => by
      rw [List.mem_map] at hd
      obtain ⟨i, _, rfl⟩ := hd
      exact Nat.zero_le _
    have h4 : ((l.map D.int).all fun x => (l.map D.int).all fun y => PySem.W.alike x.py y.py) = true := by
      rw [List.all_eq_true]
      intro x hx
      rw [List.all_eq_true]
      intro y hy
      rw [List.mem_map] at hx hy
      obtain ⟨a, _, rfl⟩ := hx
      obtain ⟨b, _, rfl⟩ := hy
      rfl
    rw [h1, h4]
    simp [h2, hl, List.all_map, Function.comp_def]
  rw [if_pos ok]
  congr 1
  apply List.mergeSort_of_pairwise
  rw [List.pairwise_map]
  exact h.imp fun h => by rw [leD_int]; simp; omega
/-- two ascending rows with the same members -/
theorem asc_ext : ∀ {a b : List Int}, a.Pairwise (· < ·) → b.Pairwise (· < ·) → (∀ x, x ∈ a ↔ x ∈ b) → a = b
  | [], [], _, _, _ => rfl
  | [], y :: b, _, _, h => by have := (h y).mpr (by simp); cases this
  | x :: a, [], _, _, h => by have := (h x).mp (by simp); cases this
  | x :: a, y :: b, ha, hb, h => by
    rw [List.pairwise_cons] at ha hb
    have e : x = y := by
      have h1 := (h x).mp (by simp)
      have h2 := (h y).mpr (by simp)
      rcases List.mem_cons.mp h1 with h1 | h1
      · exact h1
      · rcases List.mem_cons.mp h2 with h2 | h2
        · exact h2.symm
        · have := hb.1 x h1
          have := ha.1 y h2
          omega
    subst e
    rw [asc_ext ha.2 hb.2 fun z => ?_]
    have hz := h z
    rw [List.mem_cons, List.mem_cons] at hz
    constructor
    · intro k
      rcases hz.mp (.inr k) with e | e
      · subst e; have := ha.1 z k; omega
      · exact e
    · intro k
      rcases hz.mpr (.inr k) with e | e
      · subst e; have := hb.1 z k; omega
      · exact e
theorem ins_up {x : Int} : ∀ {l : List Int}, l.Pairwise (· < ·) → (insI x l).Pairwise (· < ·)
  | [], _ => by simp [insI]
  | y :: l, h => by
    rw [List.pairwise_cons] at h
    unfold insI
    split
    · next hx =>
      rw [List.pairwise_cons, List.pairwise_cons]
      refine ⟨fun z hz => ?_, h⟩
      rcases List.mem_cons.mp hz with e | e
      · subst e; exact hx
      · have := h.1 z e; omega
    · split
      · rw [List.pairwise_cons]; exact h
      · rw [List.pairwise_cons]
        refine ⟨fun z hz => ?_, ins_up h.2⟩
        rcases ins_mem.mp hz with e | e
        · subst e; omega
        · exact h.1 z e
theorem usort_up : ∀ {l : List Int}, (usort l).Pairwise (· < ·)
  | [] => List.Pairwise.nil
  | x :: l => ins_up (usort_up (l := l))
theorem usort_filt {l : List Int} {m : Int} (h : ∀ x ∈ l, 0 ≤ x ∧ x < m) : (irange 0 m).filter (fun x => decide (x ∈ l)) = usort l :=
  asc_ext (ir_up.filter _) usort_up fun x => by
    rw [mem_usort, List.mem_filter, mem_irange, decide_eq_true_eq]
    exact ⟨fun h => h.2, fun k => ⟨h x k, k⟩⟩
theorem usort_len {l : List Int} {m : Int} (h : ∀ x ∈ l, 0 ≤ x ∧ x < m) : (usort l).length ≤ m.toNat := by
  rw [← usort_filt h]
  refine Nat.le_trans (List.length_filter_le _ _) ?_
  rw [len_irange]; omega
/-! ### what a cut opens -/
/-- the locks that a cut opens -/
def openL (T : Tab) (C : List (List Int)) (c : List Int) : List Int := (irange 0 T.2.length).filter fun l => fallsB c (stacksL C (ix T.2 l))
theorem zipIdx_ir {α : Type} [Inhabited α] : ∀ {l : List α}, l.zipIdx = (List.range l.length).map fun (i : Nat) => (ix l (i : Int), i) := by
  intro l
  apply List.ext_getElem
  · simp
  · intro i h1 h2
    rw [List.getElem_zipIdx, List.getElem_map, List.getElem_range]
    rw [List.length_zipIdx] at h1
    unfold ix
    have e2 : ((i : Nat) : Int).toNat = i := by omega
    rw [e2, List.getD_eq_getElem?_getD, List.getElem?_eq_getElem h1]
    simp
theorem open_zip {T : Tab} {C : List (List Int)} {c : List Int} : (((T.2.map (stacksL C)).zipIdx.filter fun p => fallsB c p.1).map fun p => ((p.2 : Nat) : Int)) = openL T C c := by
  rw [zipIdx_ir, List.filter_map, List.map_map]
  unfold openL irange
  rw [List.filter_map]
  have e0 : ((T.2.length : Int) - 0).toNat = (T.2.map (stacksL C)).length := by rw [List.length_map]; omega
  rw [e0]
  have e1 : ((List.range (T.2.map (stacksL C)).length).filter ((fun p => fallsB c p.1) ∘ fun (i : Nat) => (ix (T.2.map (stacksL C)) (i : Int), i))) =
      (List.range (T.2.map (stacksL C)).length).filter ((fun l => fallsB c (stacksL C (ix T.2 l))) ∘ fun (i : Nat) => 0 + (i : Int)) := by
    apply List.filter_congr
    intro i hi
    rw [List.mem_range, List.length_map] at hi
    simp only [Function.comp_apply]
    rw [ix_map (by omega) (by omega)]
    have : (0 + ((i : Nat) : Int)) = i := by omega
    rw [this]
  rw [e1]
  apply List.map_congr_left
  intro i _
  simp only [Function.comp_apply]
  omega
theorem open_len {T : Tab} {C : List (List Int)} {c : List Int} (h : TOk T) : (openL T C c).length ≤ 5 := by
  unfold openL
  refine Nat.le_trans (List.length_filter_le _ _) ?_
  rw [len_irange]
  have := h.r5
  omega
/-- the same, by the law's reckoning -/
def fallsI (c : List Int) (st : List (List Int)) : Bool := ((irange 0 c.length).filter fun i => !decide (ix c i ∈ ix st i)).isEmpty
theorem fallsI_eq {c : List Int} {K : Nat} {f : Int → List Int} (h : c.length = K) : fallsI c ((irange 0 K).map f) = fallsB c ((irange 0 K).map f) := by
  rw [Bool.eq_iff_iff, falls_iff h]
  unfold fallsI
  rw [List.isEmpty_iff, List.filter_eq_nil_iff]
  simp only [mem_irange, Bool.not_eq_true', decide_eq_false_iff_not, Classical.not_not]
  have e : ∀ i : Int, 0 ≤ i → i < K → ix ((irange 0 K).map f) i = f i := fun i h0 h1 => by
    rw [ix_map h0 (by rw [len_irange]; omega)]
    have e : ix (irange 0 K) i = i := by
      have hk : i.toNat < ((K : Int) - 0).toNat := by omega
      unfold ix irange
      rw [List.getD_eq_getElem?_getD, List.getElem?_map, List.getElem?_range hk]
      show (0 + ((i.toNat : Nat) : Int)) = i
      omega
    rw [e]
  constructor
  · intro k i h0 h1
    have := k i ⟨h0, by omega⟩
    rw [e i h0 h1] at this
    exact this
  · intro k i hi
    rw [e i hi.1 (by omega)]
    exact k i hi.1 (by omega)
/-! ### a datum equals itself -/
mutual
theorem eqv_refl : ∀ {d : D}, d.plain = true → d.eqv d = true
  | .non, _ => rfl
  | .bl b, _ => by simp
  | .int i, _ => by simp
  | .str x, _ => by simp
  | .tup ds, h => eqvs_refl (ds := ds) h
  | .lst ds, h => eqvs_refl (ds := ds) h
  | .rng _ _, h => by cases h
  | .ins _ _, h => by cases h
  | .dct _ _, h => by cases h
theorem eqvs_refl : ∀ {ds : List D}, D.plains ds = true → D.eqvs ds ds = true
  | [], _ => rfl
  | d :: ds, h => by
    have h : (d.plain && D.plains ds) = true := h
    rw [Bool.and_eq_true] at h
    rw [vs_cc, eqv_refl h.1, eqvs_refl h.2]; rfl
end
end Fx
namespace Fx
section
variable {g : G} {Φ : Fn} {ρ : Env} {o : Bool} {i f : Nat} {ds : List D}
/-! ### lists in either form, as arguments -/
def lsA (o : Bool) (i : Nat) (ds : List D) : Ar := if o = true then .b i else .v (.val (.lst ds))
@[simp] theorem ls_av : avO i (some (lsR o ds)) ρ = .ok (lsA o i ds) ρ := by cases o <;> rfl
@[simp] theorem ls_d (h : ρ.at i = some (lsR o ds)) : Ar.d g.flds (lsA o i ds) ρ = some (.lst ds) := by
  cases o with
  | false => rfl
  | true =>
    show (ρ.at i).bind (fullD g.flds) = _
    rw [h]; rfl
theorem ls_call (h : ρ.at i = some (lsR o ds)) (rs : List R) : callR Φ f (lsA o i ds :: rs.map Ar.v) ρ = backO o i (Φ f (lsR o ds :: rs)) ρ := by
  cases o with
  | false => exact call_vs (R.val (.lst ds) :: rs)
  | true =>
    show callR Φ f (.b i :: rs.map Ar.v) ρ = _
    rw [call_b1, h]; rfl
@[simp] theorem ls_call1 (h : ρ.at i = some (lsR o ds)) : callR Φ f [lsA o i ds] ρ = backO o i (Φ f [lsR o ds]) ρ := ls_call h []
@[simp] theorem ls_call2 {a : R} (h : ρ.at i = some (lsR o ds)) : callR Φ f [lsA o i ds, .v a] ρ = backO o i (Φ f [lsR o ds, a]) ρ := ls_call h [a]
@[simp] theorem ls_call3 {a b : R} (h : ρ.at i = some (lsR o ds)) : callR Φ f [lsA o i ds, .v a, .v b] ρ = backO o i (Φ f [lsR o ds, a, b]) ρ := ls_call h [a, b]
@[simp] theorem ls_back {x : R} {os : Env} (h : ρ.at i = some (lsR o ds)) : backO o i (.ok x (some (.val (.lst ds)) :: os)) ρ = .ok x (ρ.set i (some (.val (.lst ds)))) := by
  cases o with
  | false =>
    show Res.ok x ρ = Res.ok x (ρ.set i (some (lsR false ds)))
    rw [← h, set_atE (at_lt h)]
  | true => rfl
end
end Fx
namespace Fx
@[simp] theorem fres_ok {r : R} {os : Env} : (FRes.ok r os).v = .ok r := rfl
@[simp] theorem fres_x {c : Nat} {d : D} {os : Env} : (FRes.exc c d os).v = .exc c d := rfl
theorem v_ok {x : FRes} {r : R} (h : x.v = .ok r) : ∃ outs, x = .ok r outs := by
  cases x with
  | ok r' outs => exact ⟨outs, by cases h; rfl⟩
  | exc c d o => cases h
  | stuck => cases h
end Fx
end
section
set_option linter.all false
set_option Elab.async false
set_option maxRecDepth 100000
set_option maxHeartbeats 1000000
/-! Filing: plain. -/
namespace Fx
/-- the depths of a stack that can be filed from one -/
def deepL (p : Int × List Int) : List Int := p.2.filter fun x => decide (p.1 ≤ x)
def hd0 (l : List Int) : Int := ix l 0
/-- a key's cuts and a lock's stacks, chamber by chamber -/
def zl (T : Tab) (C : List (List Int)) (q : Int × Int) : List (Int × List Int) := (irange 0 (ix C 0).length).map fun c => (ix (ix C q.1) c, usort ((ix T.2 q.2).map fun k => ix (ix C k) c))
/-- the first filed cut -/
def filO (l : List (Int × List Int)) : Option (List Int) := if (l.all fun p => !(deepL p).isEmpty) = true then some (l.map fun p => hd0 (deepL p)) else none
def oD : Option (List Int) → D
  | none => .non
  | some l => tI l
@[simp] theorem oD_n : oD none = .non := rfl
@[simp] theorem oD_s {l : List Int} : oD (some l) = tI l := rfl
theorem zl_zip {T : Tab} {C : List (List Int)} {q : Int × Int} {m d : Int} (hc : COk m d C) (h0 : 0 ≤ q.1) (h1 : q.1 < m) : (ix C q.1).zip (stacksL C (ix T.2 q.2)) = zl T C q := by
  have l := hc.len
  have e := (hc.all _ (ix_mem h0 (by omega))).1
  have e2 := ir_ix (l := ix C q.1)
  rw [e] at e2
  conv => lhs; lhs; rw [← e2]
  unfold stacksL zl
  rw [List.zip_map']
/-- some chamber bars: the key's cut is deeper than the lock's stack -/
def barL (T : Tab) (C : List (List Int)) (q : Int × Int) : List Int := (irange 0 (ix C 0).length).filter fun c => decide (mx (usort ((ix T.2 q.2).map fun k => ix (ix C k) c)) < ix (ix C q.1) c)
theorem usort_ne {l : List Int} (h : l ≠ []) : usort l ≠ [] := by
  obtain ⟨x, hx⟩ := List.exists_mem_of_ne_nil _ h
  intro e
  have := mem_usort.mpr hx
  rw [e] at this; cases this
theorem mx_mem {l : List Int} (h : l ≠ []) : mx l ∈ l := by
  cases l with
  | nil => exact absurd rfl h
  | cons x l =>
    show l.foldl max x ∈ x :: l
    rcases maxI_mem (ns := l) (n := x) with e | e
    · rw [e]; simp
    · exact List.mem_cons_of_mem _ e
theorem deep_iff {x : Int} {l : List Int} (h : l ≠ []) : (deepL (x, l)).isEmpty = false ↔ ¬ mx l < x := by
  rw [Bool.eq_false_iff, ne_eq, List.isEmpty_iff]
  unfold deepL
  rw [List.filter_eq_nil_iff]
  simp only [decide_eq_true_eq]
  constructor
  · intro k hlt
    refine k fun y hy => ?_
    have := mx_ge hy
    omega
  · intro k hall
    have := hall _ (mx_mem h)
    omega
/-- no bar just if there is a filed cut -/
theorem bar_iff {T : Tab} {C : List (List Int)} {q : Int × Int} (hT : TOk T) (h0 : 0 ≤ q.2) (h1 : q.2 < T.2.length) : (barL T C q).isEmpty = (filO (zl T C q)).isSome := by
  have r := hT.rows _ (ix_mem h0 h1)
  have ne : ∀ c : Int, usort ((ix T.2 q.2).map fun k => ix (ix C k) c) ≠ [] := fun c => usort_ne (by intro e; exact r.ne (List.map_eq_nil_iff.mp e))
  have e1 : (filO (zl T C q)).isSome = (zl T C q).all fun p => !(deepL p).isEmpty := by
    unfold filO
    split
    · next h => rw [h]; rfl
    · next h => simp at h ⊢; obtain ⟨a, b, h1, h2⟩ := h; exact ⟨a, b, h1, h2⟩
  rw [e1]
  unfold zl barL
  rw [List.all_map, Bool.eq_iff_iff, List.isEmpty_iff, List.filter_eq_nil_iff, List.all_eq_true]
  constructor
  · intro h c hc
    have := h c hc
    simp only [decide_eq_true_eq] at this
    have := (deep_iff (ne c)).mpr this
    simp [this]
  · intro h c hc
    have := h c hc
    simp only [Function.comp_apply, Bool.not_eq_true'] at this
    have := (deep_iff (ne c)).mp this
    simpa using this
/-- with deep cuts nothing can be filed -/
theorem deep_none {T : Tab} {C : List (List Int)} {q : Int × Int} {d c : Int} (hT : TOk T) (hc : COk T.1 d C) (hq : q ∈ outsL T) (c0 : 0 ≤ c) (c1 : c < (ix C 0).length) (hk : keepB T (col C c) false q = true) : filO (zl T C q) = none := by
  have hq' := mem_outs.mp hq
  have hb := bar_iff (C := C) hT hq'.2.1.1 hq'.2.1.2
  have r := hT.rows _ (ix_mem hq'.2.1.1 hq'.2.1.2)
  have l := hc.len
  unfold keepB at hk
  rw [if_neg (by simp), decide_eq_true_eq, ix_col hq'.1.1 (by omega)] at hk
  have e : (ix T.2 q.2).map (ix (col C c)) = (ix T.2 q.2).map fun k => ix (ix C k) c := List.map_congr_left fun k hk => by
    have := r.inn k hk
    exact ix_col this.1 (by omega)
  rw [e] at hk
  have ne : ((ix T.2 q.2).map fun k => ix (ix C k) c) ≠ [] := by intro e; exact r.ne (List.map_eq_nil_iff.mp e)
  have hm : c ∈ barL T C q := by
    unfold barL
    rw [List.mem_filter, mem_irange, decide_eq_true_eq]
    refine ⟨⟨c0, c1⟩, ?_⟩
    have h1 : mx (usort ((ix T.2 q.2).map fun k => ix (ix C k) c)) ≤ mx ((ix T.2 q.2).map fun k => ix (ix C k) c) := mx_ge (mem_usort.mp (mx_mem (usort_ne ne)))
    omega
  have h2 : (barL T C q).isEmpty = false := by
    cases hb2 : barL T C q with
    | nil => rw [hb2] at hm; cases hm
    | cons a b => rfl
  rw [h2] at hb
  cases hf : filO (zl T C q) with
  | none => rfl
  | some x => rw [hf] at hb; cases hb
/-- deep is plain -/
theorem deep_plain {T : Tab} {p : List Int} {q : Int × Int} (h : keepB T p false q = true) : keepB T p true q = true := by
  unfold keepB at h ⊢
  rw [if_neg (by simp), decide_eq_true_eq] at h
  rw [if_pos rfl, Bool.not_eq_true', decide_eq_false_iff_not]
  intro hm
  have := mx_ge hm
  omega
end Fx
namespace Fx
@[simp] theorem nn_tI {l : List Int} : (tI l).isNon = false := rfl
@[simp] theorem nn_tII {l : List (List Int)} : (tII l).isNon = false := rfl
@[simp] theorem nn_tP {l : List (Int × Int)} : (tP l).isNon = false := rfl
end Fx
namespace Fx
theorem ir_at {K : Nat} {c : Int} (h0 : 0 ≤ c) (h1 : c < K) : ix (irange 0 K) c = c := by
  have hk : c.toNat < ((K : Int) - 0).toNat := by omega
  unfold ix irange
  rw [List.getD_eq_getElem?_getD, List.getElem?_map, List.getElem?_range hk]
  show (0 + ((c.toNat : Nat) : Int)) = c
  omega
theorem st_at {C : List (List Int)} {row : List Int} {c : Int} (h0 : 0 ≤ c) (h1 : c < (ix C 0).length) : ix (stacksL C row) c = usort (row.map fun k => ix (ix C k) c) := by
  unfold stacksL
  rw [ix_map h0 (by rw [len_irange]; omega), ir_at h0 h1]
theorem st_len {C : List (List Int)} {row : List Int} : (stacksL C row).length = (ix C 0).length := by
  unfold stacksL
  rw [List.length_map, len_irange]; omega
/-- one chamber of a key's cut and a lock's stacks -/
def zc (T : Tab) (C : List (List Int)) (q : Int × Int) (c : Int) : Int × List Int := (ix (ix C q.1) c, usort ((ix T.2 q.2).map fun k => ix (ix C k) c))
theorem zl_map {T : Tab} {C : List (List Int)} {q : Int × Int} : zl T C q = (irange 0 (ix C 0).length).map (zc T C q) := rfl
theorem filO_some {T : Tab} {C : List (List Int)} {q : Int × Int} (h : ((irange 0 (ix C 0).length).all fun c => !(deepL (zc T C q c)).isEmpty) = true) : filO (zl T C q) = some ((irange 0 (ix C 0).length).map fun c => hd0 (deepL (zc T C q c))) := by
  unfold filO
  rw [zl_map, List.all_map, List.map_map]
  exact if_pos h
theorem filO_none {T : Tab} {C : List (List Int)} {q : Int × Int} {c : Int} (h0 : 0 ≤ c) (h1 : c < (ix C 0).length) (h : deepL (zc T C q c) = []) : filO (zl T C q) = none := by
  unfold filO
  rw [zl_map, List.all_map, if_neg]
  intro hall
  rw [List.all_eq_true] at hall
  have := hall c (mem_irange.mpr ⟨h0, h1⟩)
  simp [h] at this
theorem stack_len {C : List (List Int)} {m d c : Int} {row : List Int} (hc : COk m d C) (hr : RowOk m row) (d4 : d ≤ 4) (h0 : 0 ≤ c) (h1 : c < (ix C 0).length) : (usort (row.map fun j => ix (ix C j) c)).length ≤ 4 := by
  refine usort_len (m := 4) fun x hx => ?_
  rw [List.mem_map] at hx
  obtain ⟨j, hj, rfl⟩ := hx
  have h2 := hr.inn j hj
  have l := hc.len
  have h3 := hc.all _ (ix_mem (xs := C) h2.1 (by omega))
  have h4 := h3.2 (ix (ix C j) c) (ix_mem h0 (by omega))
  omega
end Fx
namespace Fx
open PySem (Operator CmpOp)
section
variable {g : G} {Φ : Fn} {ρ : Env} {c : Nat} {d : D}
/-! ### an error passes -/
@[simp] theorem x_ck2 {x : D} : consK2 x (.exc c d ρ) = .exc c d ρ := rfl
@[simp] theorem x_tk : tupK (.exc c d ρ) = .exc c d ρ := rfl
@[simp] theorem x_lk : lstK (.exc c d ρ) = .exc c d ρ := rfl
@[simp] theorem x_ak2 {a : Ar} : argsK2 a (.exc c d ρ) = .exc c d ρ := rfl
@[simp] theorem x_bk {op : Operator} {b : IE} : binK g Φ op b (.exc c d ρ) = .exc c d ρ := rfl
@[simp] theorem x_bk2 {op : Operator} {a : Ar} : binK2 g op a (.exc c d ρ) = .exc c d ρ := rfl
@[simp] theorem x_cmk {op : CmpOp} {b : IE} : cmpK g Φ op b (.exc c d ρ) = .exc c d ρ := rfl
@[simp] theorem x_cmk2 {op : CmpOp} {a : Ar} : cmpK2 g op a (.exc c d ρ) = .exc c d ρ := rfl
@[simp] theorem x_ntk : notK (.exc c d ρ) = .exc c d ρ := rfl
@[simp] theorem x_bpk {k : Bool} {es : IEs} : bopK g Φ k es (.exc c d ρ) = .exc c d ρ := rfl
@[simp] theorem x_ik {a b : IE} : iteK g Φ a b (.exc c d ρ) = .exc c d ρ := rfl
@[simp] theorem x_eqk {b : IE} : eqoK g Φ b (.exc c d ρ) = .exc c d ρ := rfl
@[simp] theorem x_eqk2 {x : D} : eqoK2 g Φ x (.exc c d ρ) = .exc c d ρ := rfl
@[simp] theorem x_ixk {b : IE} : ixK g Φ b (.exc c d ρ) = .exc c d ρ := rfl
@[simp] theorem x_ixk2 {a : Ar} : ixK2 g a (.exc c d ρ) = .exc c d ρ := rfl
@[simp] theorem x_atk {f : Nat} : atK g f (.exc c d ρ) = .exc c d ρ := rfl
@[simp] theorem x_cbk {b : BF} : cbK g b (.exc c d ρ) = .exc c d ρ := rfl
@[simp] theorem x_isk {t : IsT} : isK g t (.exc c d ρ) = .exc c d ρ := rfl
@[simp] theorem x_seqk : seqK (.exc c d ρ) = .exc c d ρ := rfl
@[simp] theorem x_raik {k : Nat} : raiK k (.exc c d ρ) = .exc c d ρ := rfl
end
end Fx
end
section
set_option linter.all false
set_option Elab.async false
set_option maxRecDepth 100000
set_option maxHeartbeats 400000
namespace KL
open Fx
/-! checks of kinds -/
@[simp] theorem g_cls : C_Table < md.g.nc := by decide
@[simp] theorem at_many {a b : D} : attrR md.g A_many (.ins C_Table [a, b]) = some a := rfl
@[simp] theorem at_rows {a b : D} : attrR md.g A_rows (.ins C_Table [a, b]) = some b := rfl
@[simp] theorem gl_keys : md.g.gl G_MOST_KEYS = some (.int 5) := rfl
@[simp] theorem gl_locks : md.g.gl G_MOST_LOCKS = some (.int 5) := rfl
@[simp] theorem gl_chambers : md.g.gl G_MOST_CHAMBERS = some (.int 5) := rfl
@[simp] theorem fl_T : md.g.flds C_Table = [A_many, A_rows] := rfl
@[simp] theorem id_T0 : List.idxOf A_many [A_many, A_rows] = 0 := by decide
@[simp] theorem id_T1 : List.idxOf A_rows [A_many, A_rows] = 1 := by decide
variable {n : Nat}
/-- an int that is no bool -/
@[simp] theorem is_integer_d {d : D} (h : d.plain = true) : (md.Φ (n + 1) F_is_integer [.val d]).v = .ok (.val (.bl d.isInt)) := by
  cases d with
  | rng _ _ => cases h
  | ins _ _ => cases h
  | dct _ _ => cases h
  | int i => 
    rw [phi_v (d := d_is_integer) rfl rfl]
    simp -implicitDefEqProofs +contextual (disch := first | omega | (simp -implicitDefEqProofs +contextual (disch := first | omega | (simp -implicitDefEqProofs +contextual (disch := omega) [-List.map_map, -List.any_map, -List.all_map, -List.any_filter, -List.all_filter, -List.length_flatMap, -List.all_eq_true, -List.any_eq_true, -List.all_eq_false, -List.any_eq_false, d_is_integer, b_is_integer, D.isInt]; try omega; done)) [-List.map_map, -List.any_map, -List.all_map, -List.any_filter, -List.all_filter, -List.length_flatMap, -List.all_eq_true, -List.any_eq_true, -List.all_eq_false, -List.any_eq_false, d_is_integer, b_is_integer, D.isInt]; try omega; done)) [-List.map_map, -List.any_map, -List.all_map, -List.any_filter, -List.all_filter, -List.length_flatMap, -List.all_eq_true, -List.any_eq_true, -List.all_eq_false, -List.any_eq_false, d_is_integer, b_is_integer, D.isInt]
  | non => 
    rw [phi_v (d := d_is_integer) rfl rfl]
    simp -implicitDefEqProofs +contextual (disch := first | omega | (simp -implicitDefEqProofs +contextual (disch := first | omega | (simp -implicitDefEqProofs +contextual (disch := omega) [-List.map_map, -List.any_map, -List.all_map, -List.any_filter, -List.all_filter, -List.length_flatMap, -List.all_eq_true, -List.any_eq_true, -List.all_eq_false, -List.any_eq_false, d_is_integer, b_is_integer, D.isInt]; try omega; done)) [-List.map_map, -List.any_map, -List.all_map, -List.any_filter, -List.all_filter, -List.length_flatMap, -List.all_eq_true, -List.any_eq_true, -List.all_eq_false, -List.any_eq_false, d_is_integer, b_is_integer, D.isInt]; try omega; done)) [-List.map_map, -List.any_map, -List.all_map, -List.any_filter, -List.all_filter, -List.length_flatMap, -List.all_eq_true, -List.any_eq_true, -List.all_eq_false, -List.any_eq_false, d_is_integer, b_is_integer, D.isInt]
  | bl b => 
    rw [phi_v (d := d_is_integer) rfl rfl]
    simp -implicitDefEqProofs +contextual (disch := first | omega | (simp -implicitDefEqProofs +contextual (disch := first | omega | (simp -implicitDefEqProofs +contextual (disch := omega) [-List.map_map, -List.any_map, -List.all_map, -List.any_filter, -List.all_filter, -List.length_flatMap, -List.all_eq_true, -List.any_eq_true, -List.all_eq_false, -List.any_eq_false, d_is_integer, b_is_integer, D.isInt]; try omega; done)) [-List.map_map, -List.any_map, -List.all_map, -List.any_filter, -List.all_filter, -List.length_flatMap, -List.all_eq_true, -List.any_eq_true, -List.all_eq_false, -List.any_eq_false, d_is_integer, b_is_integer, D.isInt]; try omega; done)) [-List.map_map, -List.any_map, -List.all_map, -List.any_filter, -List.all_filter, -List.length_flatMap, -List.all_eq_true, -List.any_eq_true, -List.all_eq_false, -List.any_eq_false, d_is_integer, b_is_integer, D.isInt]
  | str b => 
    rw [phi_v (d := d_is_integer) rfl rfl]
    simp -implicitDefEqProofs +contextual (disch := first | omega | (simp -implicitDefEqProofs +contextual (disch := first | omega | (simp -implicitDefEqProofs +contextual (disch := omega) [-List.map_map, -List.any_map, -List.all_map, -List.any_filter, -List.all_filter, -List.length_flatMap, -List.all_eq_true, -List.any_eq_true, -List.all_eq_false, -List.any_eq_false, d_is_integer, b_is_integer, D.isInt]; try omega; done)) [-List.map_map, -List.any_map, -List.all_map, -List.any_filter, -List.all_filter, -List.length_flatMap, -List.all_eq_true, -List.any_eq_true, -List.all_eq_false, -List.any_eq_false, d_is_integer, b_is_integer, D.isInt]; try omega; done)) [-List.map_map, -List.any_map, -List.all_map, -List.any_filter, -List.all_filter, -List.length_flatMap, -List.all_eq_true, -List.any_eq_true, -List.all_eq_false, -List.any_eq_false, d_is_integer, b_is_integer, D.isInt]
  | tup b => 
    rw [phi_v (d := d_is_integer) rfl rfl]
    simp -implicitDefEqProofs +contextual (disch := first | omega | (simp -implicitDefEqProofs +contextual (disch := first | omega | (simp -implicitDefEqProofs +contextual (disch := omega) [-List.map_map, -List.any_map, -List.all_map, -List.any_filter, -List.all_filter, -List.length_flatMap, -List.all_eq_true, -List.any_eq_true, -List.all_eq_false, -List.any_eq_false, d_is_integer, b_is_integer, D.isInt]; try omega; done)) [-List.map_map, -List.any_map, -List.all_map, -List.any_filter, -List.all_filter, -List.length_flatMap, -List.all_eq_true, -List.any_eq_true, -List.all_eq_false, -List.any_eq_false, d_is_integer, b_is_integer, D.isInt]; try omega; done)) [-List.map_map, -List.any_map, -List.all_map, -List.any_filter, -List.all_filter, -List.length_flatMap, -List.all_eq_true, -List.any_eq_true, -List.all_eq_false, -List.any_eq_false, d_is_integer, b_is_integer, D.isInt]
  | lst b => 
    rw [phi_v (d := d_is_integer) rfl rfl]
    simp -implicitDefEqProofs +contextual (disch := first | omega | (simp -implicitDefEqProofs +contextual (disch := first | omega | (simp -implicitDefEqProofs +contextual (disch := omega) [-List.map_map, -List.any_map, -List.all_map, -List.any_filter, -List.all_filter, -List.length_flatMap, -List.all_eq_true, -List.any_eq_true, -List.all_eq_false, -List.any_eq_false, d_is_integer, b_is_integer, D.isInt]; try omega; done)) [-List.map_map, -List.any_map, -List.all_map, -List.any_filter, -List.all_filter, -List.length_flatMap, -List.all_eq_true, -List.any_eq_true, -List.all_eq_false, -List.any_eq_false, d_is_integer, b_is_integer, D.isInt]; try omega; done)) [-List.map_map, -List.any_map, -List.all_map, -List.any_filter, -List.all_filter, -List.length_flatMap, -List.all_eq_true, -List.any_eq_true, -List.all_eq_false, -List.any_eq_false, d_is_integer, b_is_integer, D.isInt]
@[simp] theorem is_within_d {d : D} {a b : Int} (h : d.plain = true) : (md.Φ (n + 2) F_is_within [.val d, .val (.int a), .val (.int b)]).v = .ok (.val (.bl (wI d a b))) := by
  cases d with
  | rng _ _ => cases h
  | ins _ _ => cases h
  | dct _ _ => cases h
  | int i => 
    rw [phi_v (d := d_is_within) rfl rfl]
    simp -implicitDefEqProofs +contextual (disch := first | omega | (simp -implicitDefEqProofs +contextual (disch := first | omega | (simp -implicitDefEqProofs +contextual (disch := omega) [-List.map_map, -List.any_map, -List.all_map, -List.any_filter, -List.all_filter, -List.length_flatMap, -List.all_eq_true, -List.any_eq_true, -List.all_eq_false, -List.any_eq_false, d_is_within, b_is_within, D.isInt, within]; try omega; done)) [-List.map_map, -List.any_map, -List.all_map, -List.any_filter, -List.all_filter, -List.length_flatMap, -List.all_eq_true, -List.any_eq_true, -List.all_eq_false, -List.any_eq_false, d_is_within, b_is_within, D.isInt, within]; try omega; done)) [-List.map_map, -List.any_map, -List.all_map, -List.any_filter, -List.all_filter, -List.length_flatMap, -List.all_eq_true, -List.any_eq_true, -List.all_eq_false, -List.any_eq_false, d_is_within, b_is_within, D.isInt, within]
  | non => 
    rw [phi_v (d := d_is_within) rfl rfl]
    simp -implicitDefEqProofs +contextual (disch := first | omega | (simp -implicitDefEqProofs +contextual (disch := first | omega | (simp -implicitDefEqProofs +contextual (disch := omega) [-List.map_map, -List.any_map, -List.all_map, -List.any_filter, -List.all_filter, -List.length_flatMap, -List.all_eq_true, -List.any_eq_true, -List.all_eq_false, -List.any_eq_false, d_is_within, b_is_within, D.isInt]; try omega; done)) [-List.map_map, -List.any_map, -List.all_map, -List.any_filter, -List.all_filter, -List.length_flatMap, -List.all_eq_true, -List.any_eq_true, -List.all_eq_false, -List.any_eq_false, d_is_within, b_is_within, D.isInt]; try omega; done)) [-List.map_map, -List.any_map, -List.all_map, -List.any_filter, -List.all_filter, -List.length_flatMap, -List.all_eq_true, -List.any_eq_true, -List.all_eq_false, -List.any_eq_false, d_is_within, b_is_within, D.isInt]
  | bl b => 
    rw [phi_v (d := d_is_within) rfl rfl]
    simp -implicitDefEqProofs +contextual (disch := first | omega | (simp -implicitDefEqProofs +contextual (disch := first | omega | (simp -implicitDefEqProofs +contextual (disch := omega) [-List.map_map, -List.any_map, -List.all_map, -List.any_filter, -List.all_filter, -List.length_flatMap, -List.all_eq_true, -List.any_eq_true, -List.all_eq_false, -List.any_eq_false, d_is_within, b_is_within, D.isInt]; try omega; done)) [-List.map_map, -List.any_map, -List.all_map, -List.any_filter, -List.all_filter, -List.length_flatMap, -List.all_eq_true, -List.any_eq_true, -List.all_eq_false, -List.any_eq_false, d_is_within, b_is_within, D.isInt]; try omega; done)) [-List.map_map, -List.any_map, -List.all_map, -List.any_filter, -List.all_filter, -List.length_flatMap, -List.all_eq_true, -List.any_eq_true, -List.all_eq_false, -List.any_eq_false, d_is_within, b_is_within, D.isInt]
  | str b => 
    rw [phi_v (d := d_is_within) rfl rfl]
    simp -implicitDefEqProofs +contextual (disch := first | omega | (simp -implicitDefEqProofs +contextual (disch := first | omega | (simp -implicitDefEqProofs +contextual (disch := omega) [-List.map_map, -List.any_map, -List.all_map, -List.any_filter, -List.all_filter, -List.length_flatMap, -List.all_eq_true, -List.any_eq_true, -List.all_eq_false, -List.any_eq_false, d_is_within, b_is_within, D.isInt]; try omega; done)) [-List.map_map, -List.any_map, -List.all_map, -List.any_filter, -List.all_filter, -List.length_flatMap, -List.all_eq_true, -List.any_eq_true, -List.all_eq_false, -List.any_eq_false, d_is_within, b_is_within, D.isInt]; try omega; done)) [-List.map_map, -List.any_map, -List.all_map, -List.any_filter, -List.all_filter, -List.length_flatMap, -List.all_eq_true, -List.any_eq_true, -List.all_eq_false, -List.any_eq_false, d_is_within, b_is_within, D.isInt]
  | tup b => 
    rw [phi_v (d := d_is_within) rfl rfl]
    simp -implicitDefEqProofs +contextual (disch := first | omega | (simp -implicitDefEqProofs +contextual (disch := first | omega | (simp -implicitDefEqProofs +contextual (disch := omega) [-List.map_map, -List.any_map, -List.all_map, -List.any_filter, -List.all_filter, -List.length_flatMap, -List.all_eq_true, -List.any_eq_true, -List.all_eq_false, -List.any_eq_false, d_is_within, b_is_within, h, D.isInt]; try omega; done)) [-List.map_map, -List.any_map, -List.all_map, -List.any_filter, -List.all_filter, -List.length_flatMap, -List.all_eq_true, -List.any_eq_true, -List.all_eq_false, -List.any_eq_false, d_is_within, b_is_within, h, D.isInt]; try omega; done)) [-List.map_map, -List.any_map, -List.all_map, -List.any_filter, -List.all_filter, -List.length_flatMap, -List.all_eq_true, -List.any_eq_true, -List.all_eq_false, -List.any_eq_false, d_is_within, b_is_within, h, D.isInt]
  | lst b => 
    rw [phi_v (d := d_is_within) rfl rfl]
    simp -implicitDefEqProofs +contextual (disch := first | omega | (simp -implicitDefEqProofs +contextual (disch := first | omega | (simp -implicitDefEqProofs +contextual (disch := omega) [-List.map_map, -List.any_map, -List.all_map, -List.any_filter, -List.all_filter, -List.length_flatMap, -List.all_eq_true, -List.any_eq_true, -List.all_eq_false, -List.any_eq_false, d_is_within, b_is_within, h, D.isInt]; try omega; done)) [-List.map_map, -List.any_map, -List.all_map, -List.any_filter, -List.all_filter, -List.length_flatMap, -List.all_eq_true, -List.any_eq_true, -List.all_eq_false, -List.any_eq_false, d_is_within, b_is_within, h, D.isInt]; try omega; done)) [-List.map_map, -List.any_map, -List.all_map, -List.any_filter, -List.all_filter, -List.length_flatMap, -List.all_eq_true, -List.any_eq_true, -List.all_eq_false, -List.any_eq_false, d_is_within, b_is_within, h, D.isInt]
@[simp] theorem is_tuple_t {ds : List D} {a b : Int} : (md.Φ (n + 1) F_is_tuple [.val (.tup ds), .val (.int a), .val (.int b)]).v = .ok (.val (.bl (within ds.length a b))) := by
  rw [phi_v (d := d_is_tuple) rfl rfl]
  simp -implicitDefEqProofs +contextual (disch := first | omega | (simp -implicitDefEqProofs +contextual (disch := first | omega | (simp -implicitDefEqProofs +contextual (disch := omega) [-List.map_map, -List.any_map, -List.all_map, -List.any_filter, -List.all_filter, -List.length_flatMap, -List.all_eq_true, -List.any_eq_true, -List.all_eq_false, -List.any_eq_false, d_is_tuple, b_is_tuple, within]; try omega; done)) [-List.map_map, -List.any_map, -List.all_map, -List.any_filter, -List.all_filter, -List.length_flatMap, -List.all_eq_true, -List.any_eq_true, -List.all_eq_false, -List.any_eq_false, d_is_tuple, b_is_tuple, within]; try omega; done)) [-List.map_map, -List.any_map, -List.all_map, -List.any_filter, -List.all_filter, -List.length_flatMap, -List.all_eq_true, -List.any_eq_true, -List.all_eq_false, -List.any_eq_false, d_is_tuple, b_is_tuple, within]
@[simp] theorem is_tuple_I {l : List Int} {a b : Int} : (md.Φ (n + 1) F_is_tuple [.val (tI l), .val (.int a), .val (.int b)]).v = .ok (.val (.bl (within l.length a b))) := by
  rw [tI, is_tuple_t, List.length_map]
@[simp] theorem is_tuple_II {l : List (List Int)} {a b : Int} : (md.Φ (n + 1) F_is_tuple [.val (tII l), .val (.int a), .val (.int b)]).v = .ok (.val (.bl (within l.length a b))) := by
  rw [tII, is_tuple_t, List.length_map]
@[simp] theorem are_within_I {l : List Int} {m a b : Int} (h : l.length ≤ 16777216) : (md.Φ (n + 3) F_are_within [.val (tI l), .val (.int m), .val (.int a), .val (.int b)]).v = .ok (.val (.bl (within l.length m m && l.all fun i => within i a b))) := by
  rw [phi_v (d := d_are_within) rfl rfl]
  simp -implicitDefEqProofs +contextual (disch := first | omega | (simp -implicitDefEqProofs +contextual (disch := first | omega | (simp -implicitDefEqProofs +contextual (disch := omega) [-List.map_map, -List.any_map, -List.all_map, -List.any_filter, -List.all_filter, -List.length_flatMap, -List.all_eq_true, -List.any_eq_true, -List.all_eq_false, -List.any_eq_false, d_are_within, b_are_within, h]; try omega; done)) [-List.map_map, -List.any_map, -List.all_map, -List.any_filter, -List.all_filter, -List.length_flatMap, -List.all_eq_true, -List.any_eq_true, -List.all_eq_false, -List.any_eq_false, d_are_within, b_are_within, h]; try omega; done)) [-List.map_map, -List.any_map, -List.all_map, -List.any_filter, -List.all_filter, -List.length_flatMap, -List.all_eq_true, -List.any_eq_true, -List.all_eq_false, -List.any_eq_false, d_are_within, b_are_within, h]
def asc (l : List Int) : Bool := (irange 1 l.length).all fun i => decide (ix l (i - 1) < ix l i)
@[simp] theorem is_ascending_I {l : List Int} (h : l.length ≤ 1000) : (md.Φ (n + 1) F_is_ascending [.val (tI l)]).v = .ok (.val (.bl (asc l))) := by
  rw [phi_v (d := d_is_ascending) rfl rfl]
  simp -implicitDefEqProofs +contextual (disch := first | omega | (simp -implicitDefEqProofs +contextual (disch := first | omega | (simp -implicitDefEqProofs +contextual (disch := omega) [-List.map_map, -List.any_map, -List.all_map, -List.any_filter, -List.all_filter, -List.length_flatMap, -List.all_eq_true, -List.any_eq_true, -List.all_eq_false, -List.any_eq_false, d_is_ascending, b_is_ascending, -q_comp1, asc, comp1_all (α := Int) (fun i => .bl (decide (ix l (i - 1) < ix l i)))]; try omega; done)) [-List.map_map, -List.any_map, -List.all_map, -List.any_filter, -List.all_filter, -List.length_flatMap, -List.all_eq_true, -List.any_eq_true, -List.all_eq_false, -List.any_eq_false, d_is_ascending, b_is_ascending, -q_comp1, asc, comp1_all (α := Int) (fun i => .bl (decide (ix l (i - 1) < ix l i)))]; try omega; done)) [-List.map_map, -List.any_map, -List.all_map, -List.any_filter, -List.all_filter, -List.length_flatMap, -List.all_eq_true, -List.any_eq_true, -List.all_eq_false, -List.any_eq_false, d_is_ascending, b_is_ascending, -q_comp1, asc, comp1_all (α := Int) (fun i => .bl (decide (ix l (i - 1) < ix l i)))]
end KL
end
section
set_option linter.all false
set_option Elab.async false
set_option maxRecDepth 100000
set_option maxHeartbeats 400000
namespace KL
open Fx
/-! draws -/
variable {n : Nat}
@[simp] theorem law_box {ns : List Int} {k : Int} (hk : 0 ≤ k) (hk2 : k < 1000) (hn : ns.length ≤ 63) : (md.Φ (n + 1) F__law_box [.val (.lst (ns.map .int)), .val (.int k)]).v = .ok (.lst (bx (boxS ns k))) := by
  rw [phi_v (d := d__law_box) rfl rfl]
  have m1 : mulOk 7919 k = true := by unfold mulOk; simp
  have m2 : mulOk 613 k = true := by unfold mulOk; simp
  have m3 : ∀ i : Int, mulOk i 48271 = true := fun i => by unfold mulOk; simp
  have m4 : ∀ i : Int, mulOk i 31 = true := fun i => by unfold mulOk; simp
  by_cases h1 : k < ns.length
  · simp -implicitDefEqProofs +contextual (disch := first | omega | (simp -implicitDefEqProofs +contextual (disch := first | omega | (simp -implicitDefEqProofs +contextual (disch := omega) [-List.map_map, -List.any_map, -List.all_map, -List.any_filter, -List.all_filter, -List.length_flatMap, -List.all_eq_true, -List.any_eq_true, -List.all_eq_false, -List.any_eq_false, d__law_box, b__law_box, m1, m2, m3, m4, h1, boxS, cellS]; try omega; done)) [-List.map_map, -List.any_map, -List.all_map, -List.any_filter, -List.all_filter, -List.length_flatMap, -List.all_eq_true, -List.any_eq_true, -List.all_eq_false, -List.any_eq_false, d__law_box, b__law_box, m1, m2, m3, m4, h1, boxS, cellS]; try omega; done)) [-List.map_map, -List.any_map, -List.all_map, -List.any_filter, -List.all_filter, -List.length_flatMap, -List.all_eq_true, -List.any_eq_true, -List.all_eq_false, -List.any_eq_false, d__law_box, b__law_box, m1, m2, m3, m4, h1, boxS, cellS]
    rfl
  · by_cases h2 : 0 < ns.length
    · have h3 : 0 ≤ k % ns.length := Int.emod_nonneg _ (by omega)
      have h4 : k % ns.length < ns.length := Int.emod_lt_of_pos _ (by omega)
      simp -implicitDefEqProofs +contextual (disch := first | omega | (simp -implicitDefEqProofs +contextual (disch := first | omega | (simp -implicitDefEqProofs +contextual (disch := omega) [-List.map_map, -List.any_map, -List.all_map, -List.any_filter, -List.all_filter, -List.length_flatMap, -List.all_eq_true, -List.any_eq_true, -List.all_eq_false, -List.any_eq_false, d__law_box, b__law_box, m1, m2, m3, m4, h1, h2, h3, h4, boxS, cellS]; try omega; done)) [-List.map_map, -List.any_map, -List.all_map, -List.any_filter, -List.all_filter, -List.length_flatMap, -List.all_eq_true, -List.any_eq_true, -List.all_eq_false, -List.any_eq_false, d__law_box, b__law_box, m1, m2, m3, m4, h1, h2, h3, h4, boxS, cellS]; try omega; done)) [-List.map_map, -List.any_map, -List.all_map, -List.any_filter, -List.all_filter, -List.length_flatMap, -List.all_eq_true, -List.any_eq_true, -List.all_eq_false, -List.any_eq_false, d__law_box, b__law_box, m1, m2, m3, m4, h1, h2, h3, h4, boxS, cellS]
      rfl
    · simp -implicitDefEqProofs +contextual (disch := first | omega | (simp -implicitDefEqProofs +contextual (disch := first | omega | (simp -implicitDefEqProofs +contextual (disch := omega) [-List.map_map, -List.any_map, -List.all_map, -List.any_filter, -List.all_filter, -List.length_flatMap, -List.all_eq_true, -List.any_eq_true, -List.all_eq_false, -List.any_eq_false, d__law_box, b__law_box, m1, m2, m3, m4, h1, h2, boxS, cellS]; try omega; done)) [-List.map_map, -List.any_map, -List.all_map, -List.any_filter, -List.all_filter, -List.length_flatMap, -List.all_eq_true, -List.any_eq_true, -List.all_eq_false, -List.any_eq_false, d__law_box, b__law_box, m1, m2, m3, m4, h1, h2, boxS, cellS]; try omega; done)) [-List.map_map, -List.any_map, -List.all_map, -List.any_filter, -List.all_filter, -List.length_flatMap, -List.all_eq_true, -List.any_eq_true, -List.all_eq_false, -List.any_eq_false, d__law_box, b__law_box, m1, m2, m3, m4, h1, h2, boxS, cellS]
      rfl
@[simp] theorem law_take {B : Box} {m : Int} (hB : BOk B) (hm : 0 < m) (hm2 : m < 1073741824) : md.Φ (n + 1) F__law_take [.lst (bx B), .val (.int m)] = .ok (.val (.int (tk B m).1)) [some (.lst (bx (tk B m).2)), some (.val (.int m))] := by
  obtain ⟨ha, hb, hc⟩ := hB
  have m1 : mulOk B.2 39373 = true := by unfold mulOk; simp
  by_cases h : 0 < B.1
  · rw [phi_f (d := d__law_take) rfl rfl]
    simp -implicitDefEqProofs +contextual (disch := first | omega | (simp -implicitDefEqProofs +contextual (disch := first | omega | (simp -implicitDefEqProofs +contextual (disch := omega) [-List.map_map, -List.any_map, -List.all_map, -List.any_filter, -List.all_filter, -List.length_flatMap, -List.all_eq_true, -List.any_eq_true, -List.all_eq_false, -List.any_eq_false, d__law_take, b__law_take, outsA, m1, tk, h, hm, hm2]; try omega; done)) [-List.map_map, -List.any_map, -List.all_map, -List.any_filter, -List.all_filter, -List.length_flatMap, -List.all_eq_true, -List.any_eq_true, -List.all_eq_false, -List.any_eq_false, d__law_take, b__law_take, outsA, m1, tk, h, hm, hm2]; try omega; done)) [-List.map_map, -List.any_map, -List.all_map, -List.any_filter, -List.all_filter, -List.length_flatMap, -List.all_eq_true, -List.any_eq_true, -List.all_eq_false, -List.any_eq_false, d__law_take, b__law_take, outsA, m1, tk, h, hm, hm2]
  · rw [phi_f (d := d__law_take) rfl rfl]
    simp -implicitDefEqProofs +contextual (disch := first | omega | (simp -implicitDefEqProofs +contextual (disch := first | omega | (simp -implicitDefEqProofs +contextual (disch := omega) [-List.map_map, -List.any_map, -List.all_map, -List.any_filter, -List.all_filter, -List.length_flatMap, -List.all_eq_true, -List.any_eq_true, -List.all_eq_false, -List.any_eq_false, d__law_take, b__law_take, outsA, m1, tk, h, hm, hm2]; try omega; done)) [-List.map_map, -List.any_map, -List.all_map, -List.any_filter, -List.all_filter, -List.length_flatMap, -List.all_eq_true, -List.any_eq_true, -List.all_eq_false, -List.any_eq_false, d__law_take, b__law_take, outsA, m1, tk, h, hm, hm2]; try omega; done)) [-List.map_map, -List.any_map, -List.all_map, -List.any_filter, -List.all_filter, -List.length_flatMap, -List.all_eq_true, -List.any_eq_true, -List.all_eq_false, -List.any_eq_false, d__law_take, b__law_take, outsA, m1, tk, h, hm, hm2]
@[simp] theorem law_pick {α : Type} [Inhabited α] {f : α → D} {l : List α} {B : Box} (hB : BOk B) (h0 : 0 < l.length) (hm2 : l.length < 1073741824) : md.Φ (n + 2) F__law_pick [.lst (bx B), .lst (l.map f)] = .ok (.val (f (ix l (tk B l.length).1))) [some (.lst (bx (tk B l.length).2)), some (.lst (l.map f))] := by
  have h1 := tk_in (B := B) (m := l.length) (by omega)
  rw [phi_f (d := d__law_pick) rfl rfl]
  simp -implicitDefEqProofs +contextual (disch := first | omega | (simp -implicitDefEqProofs +contextual (disch := first | omega | (simp -implicitDefEqProofs +contextual (disch := omega) [-List.map_map, -List.any_map, -List.all_map, -List.any_filter, -List.all_filter, -List.length_flatMap, -List.all_eq_true, -List.any_eq_true, -List.all_eq_false, -List.any_eq_false, d__law_pick, b__law_pick, outsA, hB, h0, hm2, h1.1, h1.2]; try omega; done)) [-List.map_map, -List.any_map, -List.all_map, -List.any_filter, -List.all_filter, -List.length_flatMap, -List.all_eq_true, -List.any_eq_true, -List.all_eq_false, -List.any_eq_false, d__law_pick, b__law_pick, outsA, hB, h0, hm2, h1.1, h1.2]; try omega; done)) [-List.map_map, -List.any_map, -List.all_map, -List.any_filter, -List.all_filter, -List.length_flatMap, -List.all_eq_true, -List.any_eq_true, -List.all_eq_false, -List.any_eq_false, d__law_pick, b__law_pick, outsA, hB, h0, hm2, h1.1, h1.2]
/-- draws in a row -/
@[simp] theorem draws_v {ρ : Env} {b k i : Nat} {α : Type} {f : α → D} {xs : List α} {B : Box} {m : Int} (hb : ρ.at b = some (.lst (bx B))) (hk : ρ.at k = some (.val (.int m))) (ib : i ≠ b) (ik : i ≠ k) (hB : BOk B) (hm : 0 < m) (hm2 : m < 1073741824) (hl : xs.length ≤ 16777216) :
    compE md.g (md.Φ (n + 1)) (.call F__law_take (.cons (.var b) (.cons (.var k) .nil))) [i] (.one i) .non (xs.map f) ρ = .ok (.lst ((dw B m xs.length).1.map .int)) (ρ.set b (some (.lst (bx (dw B m xs.length).2)))) := by
  have bl := at_lt hb
  obtain ⟨acc, ρ', e, ⟨e1, e2⟩, _⟩ := comp_invW (g := md.g) (Φ := md.Φ (n + 1)) (i := i) (elt := .call F__law_take (.cons (.var b) (.cons (.var k) .nil))) (c := .non) (f := f) (xs := xs) (ρ := ρ)
    (I := fun p acc ρ' => ρ' = (ρ.set i none).set b (some (.lst (bx (dw B m p.length).2))) ∧ acc = (dw B m p.length).1.map .int) hl ⟨by
      show ρ.set i none = (ρ.set i none).set b (some (.lst (bx B)))
      have := set_any (i := b) (ρ := ρ)
      rw [hb] at this
      rw [List.set_comm _ _ ib, this], rfl⟩ (by
    rintro p x q acc _ _ ⟨rfl, rfl⟩
    refine ⟨true, _, rfl, fun _ => ?_, fun h => by cases h⟩
    have a0 : ((ρ.set i none).set b (some (.lst (bx (dw B m p.length).2)))).set i (some (.val (f x))) = (ρ.set i (some (.val (f x)))).set b (some (.lst (bx (dw B m p.length).2))) := by
      rw [List.set_comm _ _ (Ne.symm ib), List.set_set]
    rw [a0]
    have a1 : Env.at ((ρ.set i (some (.val (f x)))).set b (some (.lst (bx (dw B m p.length).2)))) b = some (.lst (bx (dw B m p.length).2)) := by
      rw [at_set' (by rw [List.length_set]; exact bl)]
    have a2 : Env.at ((ρ.set i (some (.val (f x)))).set b (some (.lst (bx (dw B m p.length).2)))) k = some (.val (.int m)) := by
      rw [at_set (by rintro rfl; rw [hb] at hk; cases hk), at_set ik, hk]
    have k1 := law_take (n := n) (dw_ok hB hm (n := p.length)) hm hm2
    refine ⟨.int (tk (dw B m p.length).2 m).1, ((ρ.set i (some (.val (f x)))).set b (some (.lst (bx (dw B m p.length).2)))).set b (some (.lst (bx (tk (dw B m p.length).2 m).2))), ?_, ?_, ?_⟩
    · simp -implicitDefEqProofs +contextual (disch := first | omega | (simp -implicitDefEqProofs +contextual (disch := first | omega | (simp -implicitDefEqProofs +contextual (disch := omega) [-List.map_map, -List.any_map, -List.all_map, -List.any_filter, -List.all_filter, -List.length_flatMap, -List.all_eq_true, -List.any_eq_true, -List.all_eq_false, -List.any_eq_false, a1, a2, k1, -List.set_set]; try omega; done)) [-List.map_map, -List.any_map, -List.all_map, -List.any_filter, -List.all_filter, -List.length_flatMap, -List.all_eq_true, -List.any_eq_true, -List.all_eq_false, -List.any_eq_false, a1, a2, k1, -List.set_set]; try omega; done)) [-List.map_map, -List.any_map, -List.all_map, -List.any_filter, -List.all_filter, -List.length_flatMap, -List.all_eq_true, -List.any_eq_true, -List.all_eq_false, -List.any_eq_false, a1, a2, k1, -List.set_set]
    · rw [List.length_append]
      show (((ρ.set i _).set b _).set b _).set i none = (ρ.set i none).set b (some (.lst (bx (dw B m (p.length + 1)).2)))
      rw [List.set_set, List.set_comm _ _ (Ne.symm ib), List.set_set]
      rfl
    · rw [List.length_append]
      show _ = List.map D.int (dw B m (p.length + 1)).1
      simp [dw])
  rw [e, e1, e2, List.set_comm _ _ (Ne.symm ib), List.set_set, set_any]
/-- the same, the bound a constant -/
@[simp] theorem draws_c {ρ : Env} {b i : Nat} {α : Type} {f : α → D} {xs : List α} {B : Box} {m : Int} (hb : ρ.at b = some (.lst (bx B))) (ib : i ≠ b) (hB : BOk B) (hm : 0 < m) (hm2 : m < 1073741824) (hl : xs.length ≤ 16777216) :
    compE md.g (md.Φ (n + 1)) (.call F__law_take (.cons (.var b) (.cons (.cst (.int m)) .nil))) [i] (.one i) .non (xs.map f) ρ = .ok (.lst ((dw B m xs.length).1.map .int)) (ρ.set b (some (.lst (bx (dw B m xs.length).2)))) := by
  have bl := at_lt hb
  obtain ⟨acc, ρ', e, ⟨e1, e2⟩, _⟩ := comp_invW (g := md.g) (Φ := md.Φ (n + 1)) (i := i) (elt := .call F__law_take (.cons (.var b) (.cons (.cst (.int m)) .nil))) (c := .non) (f := f) (xs := xs) (ρ := ρ)
    (I := fun p acc ρ' => ρ' = (ρ.set i none).set b (some (.lst (bx (dw B m p.length).2))) ∧ acc = (dw B m p.length).1.map .int) hl ⟨by
      show ρ.set i none = (ρ.set i none).set b (some (.lst (bx B)))
      have := set_any (i := b) (ρ := ρ)
      rw [hb] at this
      rw [List.set_comm _ _ ib, this], rfl⟩ (by
    rintro p x q acc _ _ ⟨rfl, rfl⟩
    refine ⟨true, _, rfl, fun _ => ?_, fun h => by cases h⟩
    have a0 : ((ρ.set i none).set b (some (.lst (bx (dw B m p.length).2)))).set i (some (.val (f x))) = (ρ.set i (some (.val (f x)))).set b (some (.lst (bx (dw B m p.length).2))) := by
      rw [List.set_comm _ _ (Ne.symm ib), List.set_set]
    rw [a0]
    have a1 : Env.at ((ρ.set i (some (.val (f x)))).set b (some (.lst (bx (dw B m p.length).2)))) b = some (.lst (bx (dw B m p.length).2)) := by
      rw [at_set' (by rw [List.length_set]; exact bl)]
    have k1 := law_take (n := n) (dw_ok hB hm (n := p.length)) hm hm2
    refine ⟨.int (tk (dw B m p.length).2 m).1, ((ρ.set i (some (.val (f x)))).set b (some (.lst (bx (dw B m p.length).2)))).set b (some (.lst (bx (tk (dw B m p.length).2 m).2))), ?_, ?_, ?_⟩
    · simp -implicitDefEqProofs +contextual (disch := first | omega | (simp -implicitDefEqProofs +contextual (disch := first | omega | (simp -implicitDefEqProofs +contextual (disch := omega) [-List.map_map, -List.any_map, -List.all_map, -List.any_filter, -List.all_filter, -List.length_flatMap, -List.all_eq_true, -List.any_eq_true, -List.all_eq_false, -List.any_eq_false, a1, k1, -List.set_set]; try omega; done)) [-List.map_map, -List.any_map, -List.all_map, -List.any_filter, -List.all_filter, -List.length_flatMap, -List.all_eq_true, -List.any_eq_true, -List.all_eq_false, -List.any_eq_false, a1, k1, -List.set_set]; try omega; done)) [-List.map_map, -List.any_map, -List.all_map, -List.any_filter, -List.all_filter, -List.length_flatMap, -List.all_eq_true, -List.any_eq_true, -List.all_eq_false, -List.any_eq_false, a1, k1, -List.set_set]
    · rw [List.length_append]
      show (((ρ.set i _).set b _).set b _).set i none = (ρ.set i none).set b (some (.lst (bx (dw B m (p.length + 1)).2)))
      rw [List.set_set, List.set_comm _ _ (Ne.symm ib), List.set_set]
      rfl
    · rw [List.length_append]
      show _ = List.map D.int (dw B m (p.length + 1)).1
      simp [dw])
  rw [e, e1, e2, List.set_comm _ _ (Ne.symm ib), List.set_set, set_any]
/-- rows of draws -/
@[simp] theorem drawss_v {ρ : Env} {b k i j c : Nat} {α : Type} {f : α → D} {xs : List α} {B : Box} {m h : Int} (hb : ρ.at b = some (.lst (bx B))) (hk : ρ.at k = some (.val (.int m))) (hc : ρ.at c = some (.val (.int h)))
    (ib : i ≠ b) (ik : i ≠ k) (ic : i ≠ c) (jb : j ≠ b) (jk : j ≠ k) (hB : BOk B) (hm : 0 < m) (hm2 : m < 1073741824) (hh : 0 ≤ h ∧ h ≤ 1000) (hl : xs.length ≤ 16777216) :
    compE md.g (md.Φ (n + 1)) (.cb .tuple (.cons (.comp (.call F__law_take (.cons (.var b) (.cons (.var k) .nil))) [j] (.one j) (.seq (.cb .range (.cons (.var c) .nil))) .non) .nil)) [i] (.one i) .non (xs.map f) ρ
      = .ok (.lst ((dww B m h.toNat xs.length).1.map tI)) (ρ.set b (some (.lst (bx (dww B m h.toNat xs.length).2)))) := by
  have bl := at_lt hb
  obtain ⟨acc, ρ', e, ⟨e1, e2⟩, _⟩ := comp_invW (g := md.g) (Φ := md.Φ (n + 1)) (i := i) (elt := .cb .tuple (.cons (.comp (.call F__law_take (.cons (.var b) (.cons (.var k) .nil))) [j] (.one j) (.seq (.cb .range (.cons (.var c) .nil))) .non) .nil)) (c := .non) (f := f) (xs := xs) (ρ := ρ)
    (I := fun p acc ρ' => ρ' = (ρ.set i none).set b (some (.lst (bx (dww B m h.toNat p.length).2))) ∧ acc = (dww B m h.toNat p.length).1.map tI) hl ⟨by
      show ρ.set i none = (ρ.set i none).set b (some (.lst (bx B)))
      have := set_any (i := b) (ρ := ρ)
      rw [hb] at this
      rw [List.set_comm _ _ ib, this], rfl⟩ (by
    rintro p x q acc _ _ ⟨rfl, rfl⟩
    refine ⟨true, _, rfl, fun _ => ?_, fun h => by cases h⟩
    generalize hB' : (dww B m h.toNat p.length).2 = B'
    have oB : BOk B' := by rw [← hB']; exact dww_ok hB hm
    have bk : b ≠ k := by rintro rfl; rw [hb] at hk; cases hk
    have bc : b ≠ c := by rintro rfl; rw [hb] at hc; cases hc
    have a0 : ((ρ.set i none).set b (some (.lst (bx B')))).set i (some (.val (f x))) = (ρ.set i (some (.val (f x)))).set b (some (.lst (bx B'))) := by
      rw [List.set_comm _ _ (Ne.symm ib), List.set_set]
    rw [a0]
    have a1 : Env.at ((ρ.set i (some (.val (f x)))).set b (some (.lst (bx B')))) b = some (.lst (bx B')) := by
      rw [at_set' (by rw [List.length_set]; exact bl)]
    have a2 : Env.at ((ρ.set i (some (.val (f x)))).set b (some (.lst (bx B')))) k = some (.val (.int m)) := by
      rw [at_set bk, at_set ik, hk]
    have a3 : Env.at ((ρ.set i (some (.val (f x)))).set b (some (.lst (bx B')))) c = some (.val (.int h)) := by
      rw [at_set bc, at_set ic, hc]
    have k1 := draws_v (n := n) (f := D.int) (xs := irange 0 h) a1 a2 jb jk oB hm hm2 (by simp; omega)
    have l1 : (irange 0 h).length = h.toNat := by simp
    rw [l1] at k1
    refine ⟨tI (dw B' m h.toNat).1, ((ρ.set i (some (.val (f x)))).set b (some (.lst (bx B')))).set b (some (.lst (bx (dw B' m h.toNat).2))), ?_, ?_, ?_⟩
    · have hh2 : (-1000000000 ≤ h) ∧ h ≤ 1000000000 := by omega
      simp -implicitDefEqProofs +contextual (disch := first | omega | (simp -implicitDefEqProofs +contextual (disch := first | omega | (simp -implicitDefEqProofs +contextual (disch := omega) [-List.map_map, -List.any_map, -List.all_map, -List.any_filter, -List.all_filter, -List.length_flatMap, -List.all_eq_true, -List.any_eq_true, -List.all_eq_false, -List.any_eq_false, a3, k1, hh2.1, hh2.2, -List.set_set]; try omega; done)) [-List.map_map, -List.any_map, -List.all_map, -List.any_filter, -List.all_filter, -List.length_flatMap, -List.all_eq_true, -List.any_eq_true, -List.all_eq_false, -List.any_eq_false, a3, k1, hh2.1, hh2.2, -List.set_set]; try omega; done)) [-List.map_map, -List.any_map, -List.all_map, -List.any_filter, -List.all_filter, -List.length_flatMap, -List.all_eq_true, -List.any_eq_true, -List.all_eq_false, -List.any_eq_false, a3, k1, hh2.1, hh2.2, -List.set_set]
    · rw [List.length_append]
      show (((ρ.set i _).set b _).set b _).set i none = (ρ.set i none).set b (some (.lst (bx (dww B m h.toNat (p.length + 1)).2)))
      rw [List.set_set, List.set_comm _ _ (Ne.symm ib), List.set_set]
      show _ = (ρ.set i none).set b (some (.lst (bx (dw (dww B m h.toNat p.length).2 m h.toNat).2)))
      rw [hB']
    · rw [List.length_append]
      show _ = List.map tI ((dww B m h.toNat p.length).1 ++ [(dw (dww B m h.toNat p.length).2 m h.toNat).1])
      rw [hB']
      simp)
  rw [e, e1, e2, List.set_comm _ _ (Ne.symm ib), List.set_set, set_any]
end KL
end
section
set_option linter.all false
set_option Elab.async false
set_option maxRecDepth 100000
set_option maxHeartbeats 400000
namespace KL
open Fx
variable {n : Nat}
/-! shuffled -/
@[simp] theorem law_shuffled {α : Type} {f : α → D} {l : List α} {B : Box} (hB : BOk B) (hl : l.length ≤ 1000) : md.Φ (n + 2) F__law_shuffled [.lst (bx B), .lst (l.map f)] = .ok (.lst ((shuf B l).1.map f)) [some (.lst (bx (shuf B l).2)), some (.val (.lst (l.map f)))] := by
  have key : ∀ j : Option R, ∃ j', forE md.g (md.Φ (n + 1)) (.one 3) b__law_shuffled_L0 (l.map f) [some (.lst (bx B)), some (.val (.lst (l.map f))), some (.lst []), j] = .nx [some (.lst (bx (shuf B l).2)), some (.val (.lst (l.map f))), some (.lst ((shuf B l).1.map f)), j'] := by
    intro j
    refine for_pre (E := fun p j => [some (.lst (bx (shuf B p).2)), some (.val (.lst (l.map f))), some (.lst ((shuf B p).1.map f)), j]) ?_
    intro p x q j e
    have hp : (shuf B p).1.length < 1000 := by rw [shuf_len]; rw [e] at hl; simp at hl; omega
    have k1 := law_take (n := n) (B := (shuf B p).2) (m := (shuf B p).1.length + 1) (shufOk hB) (by omega) (by omega)
    have k2 := tk_in (B := (shuf B p).2) (m := (shuf B p).1.length + 1) (by omega)
    refine ⟨_, some (.val (f x)), rfl, .inl ?_⟩
    simp -implicitDefEqProofs +contextual (disch := first | omega | (simp -implicitDefEqProofs +contextual (disch := first | omega | (simp -implicitDefEqProofs +contextual (disch := omega) [-List.map_map, -List.any_map, -List.all_map, -List.any_filter, -List.all_filter, -List.length_flatMap, -List.all_eq_true, -List.any_eq_true, -List.all_eq_false, -List.any_eq_false, b__law_shuffled_L0, k1, shuf_app, shufS, insAt, k2.1, k2.2]; try omega; done)) [-List.map_map, -List.any_map, -List.all_map, -List.any_filter, -List.all_filter, -List.length_flatMap, -List.all_eq_true, -List.any_eq_true, -List.all_eq_false, -List.any_eq_false, b__law_shuffled_L0, k1, shuf_app, shufS, insAt, k2.1, k2.2]; try omega; done)) [-List.map_map, -List.any_map, -List.all_map, -List.any_filter, -List.all_filter, -List.length_flatMap, -List.all_eq_true, -List.any_eq_true, -List.all_eq_false, -List.any_eq_false, b__law_shuffled_L0, k1, shuf_app, shufS, insAt, k2.1, k2.2]
  obtain ⟨j', k⟩ := key none
  rw [phi_f (d := d__law_shuffled) rfl rfl]
  simp -implicitDefEqProofs +contextual (disch := first | omega | (simp -implicitDefEqProofs +contextual (disch := first | omega | (simp -implicitDefEqProofs +contextual (disch := omega) [-List.map_map, -List.any_map, -List.all_map, -List.any_filter, -List.all_filter, -List.length_flatMap, -List.all_eq_true, -List.any_eq_true, -List.all_eq_false, -List.any_eq_false, d__law_shuffled, b__law_shuffled, outsA, k]; try omega; done)) [-List.map_map, -List.any_map, -List.all_map, -List.any_filter, -List.all_filter, -List.length_flatMap, -List.all_eq_true, -List.any_eq_true, -List.all_eq_false, -List.any_eq_false, d__law_shuffled, b__law_shuffled, outsA, k]; try omega; done)) [-List.map_map, -List.any_map, -List.all_map, -List.any_filter, -List.all_filter, -List.length_flatMap, -List.all_eq_true, -List.any_eq_true, -List.all_eq_false, -List.any_eq_false, d__law_shuffled, b__law_shuffled, outsA, k]
/-! the drawn table -/
abbrev encT (T : Tab) : D := .tup [.int T.1, tII T.2]
/-- a row's draws -/
theorem row_draws {S : R} {B : Box} {m h : Int} {rs : List (List Int)} {lk o7 : Option R} (j6 : Option R) (hB : BOk B) (hm : m ≤ 5) : ∃ (B' : Box) (l : List Int), BOk B' ∧ (∀ i ∈ l, 0 ≤ i ∧ i < m) ∧
    compE md.g (md.Φ (n + 1)) (.var 8) [8] (.one 8) (.som (.cmp .Eq (.call F__law_take (.cons (.var 1) (.cons (.cst (.int 2)) .nil))) (.cst (.int 0)))) ((irange 0 m).map .int) [some S, some (.lst (bx B)), some (.val (.int m)), some (.val (.int h)), some (.lst (rs.map tI)), lk, j6, o7, none] =
      .ok (.lst (l.map .int)) [some S, some (.lst (bx B')), some (.val (.int m)), some (.val (.int h)), some (.lst (rs.map tI)), lk, j6, o7, none] := by
  obtain ⟨acc, ρ', e, ⟨B', l, h1, h2, rfl, rfl⟩, _⟩ := comp_inv (g := md.g) (Φ := md.Φ (n + 1)) (i := 8) (elt := .var 8) (c := .som (.cmp .Eq (.call F__law_take (.cons (.var 1) (.cons (.cst (.int 2)) .nil))) (.cst (.int 0)))) (f := D.int) (xs := irange 0 m)
    (ρ := [some S, some (.lst (bx B)), some (.val (.int m)), some (.val (.int h)), some (.lst (rs.map tI)), lk, j6, o7, none])
    (I := fun p acc ρ => ∃ (B' : Box) (l : List Int), BOk B' ∧ (∀ i ∈ l, 0 ≤ i ∧ i < m) ∧ acc = l.map .int ∧ ρ = [some S, some (.lst (bx B')), some (.val (.int m)), some (.val (.int h)), some (.lst (rs.map tI)), lk, j6, o7, none]) rfl (by simp; omega) ⟨B, [], hB, by simp, rfl, rfl⟩ (by
    rintro p x q acc _ e ⟨B', l, h1, h2, rfl, rfl⟩
    have k1 := law_take (n := n) (m := 2) h1 (by omega) (by omega)
    have hx : x ∈ irange 0 m := by rw [e]; simp
    rw [mem_irange] at hx
    refine ⟨decide ((tk B' 2).1 = 0), [some S, some (.lst (bx (tk B' 2).2)), some (.val (.int m)), some (.val (.int h)), some (.lst (rs.map tI)), lk, j6, o7, some (.val (.int x))], ?_, ?_, ?_⟩
    · simp -implicitDefEqProofs +contextual (disch := first | omega | (simp -implicitDefEqProofs +contextual (disch := first | omega | (simp -implicitDefEqProofs +contextual (disch := omega) [-List.map_map, -List.any_map, -List.all_map, -List.any_filter, -List.all_filter, -List.length_flatMap, -List.all_eq_true, -List.any_eq_true, -List.all_eq_false, -List.any_eq_false, k1]; try omega; done)) [-List.map_map, -List.any_map, -List.all_map, -List.any_filter, -List.all_filter, -List.length_flatMap, -List.all_eq_true, -List.any_eq_true, -List.all_eq_false, -List.any_eq_false, k1]; try omega; done)) [-List.map_map, -List.any_map, -List.all_map, -List.any_filter, -List.all_filter, -List.length_flatMap, -List.all_eq_true, -List.any_eq_true, -List.all_eq_false, -List.any_eq_false, k1]
    · intro _
      refine ⟨.int x, _, rfl, (tk B' 2).2, l ++ [x], tk_ok h1 (by omega), ?_, by simp, rfl⟩
      intro i hi
      rcases List.mem_append.mp hi with hi | hi
      · exact h2 i hi
      · rw [List.mem_singleton.mp hi]; exact hx
    · intro _
      exact ⟨(tk B' 2).2, l, tk_ok h1 (by omega), h2, rfl, rfl⟩)
  exact ⟨B', l, h1, h2, e⟩
theorem tab_row {S : R} {B : Box} {m h : Int} {rs : List (List Int)} {lk j6 j7 : Option R} (hB : BOk B) (h1 : 1 ≤ m) (h5 : m ≤ 5) (hr : rs.length ≤ 100) : ∃ (B' : Box) (l : List Int) (o6 o7 : Option R), BOk B' ∧ RowOk m l ∧
    evSs md.g (md.Φ (n + 1)) b__law_drawn_table_L0 [some S, some (.lst (bx B)), some (.val (.int m)), some (.val (.int h)), some (.lst (rs.map tI)), lk, j6, j7, none] =
      .nx [some S, some (.lst (bx B')), some (.val (.int m)), some (.val (.int h)), some (.lst ((rs ++ [l]).map tI)), lk, o6, o7, none] := by
  obtain ⟨B1, l, b1, l1, e⟩ := row_draws (n := n) (S := S) (h := h) (rs := rs) (lk := lk) (o7 := j7) j6 hB h5
  have k1 := law_take (n := n) (m := m) b1 (by omega) (by omega)
  have k2 := tk_in (B := B1) (m := m) (by omega)
  generalize ht : (tk B1 m).1 = x at k1 k2
  have b2 := tk_ok b1 (m := m) (by omega)
  have dx : ∀ k : Int, decide (x = k) = decide (k = x) := fun k => decide_eq_decide.mpr eq_comm
  have d0 : ∀ k : Int, decide (0 = k) = decide (k = 0) := fun k => decide_eq_decide.mpr eq_comm
  suffices H : ∃ l3 : List Int, (∃ y ∈ l3, 0 ≤ y ∧ y < m) ∧ evSs md.g (md.Φ (n + 1)) b__law_drawn_table_L0 [some S, some (.lst (bx B)), some (.val (.int m)), some (.val (.int h)), some (.lst (rs.map tI)), lk, j6, j7, none] =
      .nx [some S, some (.lst (bx (tk B1 m).2)), some (.val (.int m)), some (.val (.int h)), some (.lst ((rs ++ [(irange 0 m).filter fun k => decide (k ∈ l3)]).map tI)), lk, some (.lst (l3.map .int)), some (.val (.int x)), none] by
    obtain ⟨l3, ⟨y, y1, y2, y3⟩, e⟩ := H
    exact ⟨(tk B1 m).2, (irange 0 m).filter fun k => decide (k ∈ l3), some (.lst (l3.map .int)), some (.val (.int x)), b2, ir_row y2 y3 (by simpa using y1), e⟩
  by_cases c0 : h = 0
  · subst c0
    refine ⟨[0, x], ⟨x, by simp, k2⟩, ?_⟩
    simp -implicitDefEqProofs +contextual (disch := first | omega | (simp -implicitDefEqProofs +contextual (disch := first | omega | (simp -implicitDefEqProofs +contextual (disch := omega) [-List.map_map, -List.any_map, -List.all_map, -List.any_filter, -List.all_filter, -List.length_flatMap, -List.all_eq_true, -List.any_eq_true, -List.all_eq_false, -List.any_eq_false, b__law_drawn_table_L0, e, k1, ht, dx, d0]; try omega; done)) [-List.map_map, -List.any_map, -List.all_map, -List.any_filter, -List.all_filter, -List.length_flatMap, -List.all_eq_true, -List.any_eq_true, -List.all_eq_false, -List.any_eq_false, b__law_drawn_table_L0, e, k1, ht, dx, d0]; try omega; done)) [-List.map_map, -List.any_map, -List.all_map, -List.any_filter, -List.all_filter, -List.length_flatMap, -List.all_eq_true, -List.any_eq_true, -List.all_eq_false, -List.any_eq_false, b__law_drawn_table_L0, e, k1, ht, dx, d0]
  · by_cases c1 : h = 1
    · subst c1
      refine ⟨[x], ⟨x, by simp, k2⟩, ?_⟩
      simp -implicitDefEqProofs +contextual (disch := first | omega | (simp -implicitDefEqProofs +contextual (disch := first | omega | (simp -implicitDefEqProofs +contextual (disch := omega) [-List.map_map, -List.any_map, -List.all_map, -List.any_filter, -List.all_filter, -List.length_flatMap, -List.all_eq_true, -List.any_eq_true, -List.all_eq_false, -List.any_eq_false, b__law_drawn_table_L0, e, k1, ht, dx, d0]; try omega; done)) [-List.map_map, -List.any_map, -List.all_map, -List.any_filter, -List.all_filter, -List.length_flatMap, -List.all_eq_true, -List.any_eq_true, -List.all_eq_false, -List.any_eq_false, b__law_drawn_table_L0, e, k1, ht, dx, d0]; try omega; done)) [-List.map_map, -List.any_map, -List.all_map, -List.any_filter, -List.all_filter, -List.length_flatMap, -List.all_eq_true, -List.any_eq_true, -List.all_eq_false, -List.any_eq_false, b__law_drawn_table_L0, e, k1, ht, dx, d0]
    · by_cases c2 : h = 2
      · subst c2
        by_cases he : ((irange 0 m).filter fun k => !decide (k = x)) = []
        · refine ⟨[x], ⟨x, by simp, k2⟩, ?_⟩
          simp -implicitDefEqProofs +contextual (disch := first | omega | (simp -implicitDefEqProofs +contextual (disch := first | omega | (simp -implicitDefEqProofs +contextual (disch := omega) [-List.map_map, -List.any_map, -List.all_map, -List.any_filter, -List.all_filter, -List.length_flatMap, -List.all_eq_true, -List.any_eq_true, -List.all_eq_false, -List.any_eq_false, b__law_drawn_table_L0, e, k1, ht, dx, d0, he]; try omega; done)) [-List.map_map, -List.any_map, -List.all_map, -List.any_filter, -List.all_filter, -List.length_flatMap, -List.all_eq_true, -List.any_eq_true, -List.all_eq_false, -List.any_eq_false, b__law_drawn_table_L0, e, k1, ht, dx, d0, he]; try omega; done)) [-List.map_map, -List.any_map, -List.all_map, -List.any_filter, -List.all_filter, -List.length_flatMap, -List.all_eq_true, -List.any_eq_true, -List.all_eq_false, -List.any_eq_false, b__law_drawn_table_L0, e, k1, ht, dx, d0, he]
        · refine ⟨(irange 0 m).filter fun k => !decide (k = x), ?_, ?_⟩
          · obtain ⟨y, hy⟩ := List.exists_mem_of_ne_nil _ he
            exact ⟨y, hy, mem_irange.mp (List.mem_filter.mp hy).1⟩
          · simp -implicitDefEqProofs +contextual (disch := first | omega | (simp -implicitDefEqProofs +contextual (disch := first | omega | (simp -implicitDefEqProofs +contextual (disch := omega) [-List.map_map, -List.any_map, -List.all_map, -List.any_filter, -List.all_filter, -List.length_flatMap, -List.all_eq_true, -List.any_eq_true, -List.all_eq_false, -List.any_eq_false, b__law_drawn_table_L0, e, k1, ht, dx, d0, he, -List.filter_eq_nil_iff]; try omega; done)) [-List.map_map, -List.any_map, -List.all_map, -List.any_filter, -List.all_filter, -List.length_flatMap, -List.all_eq_true, -List.any_eq_true, -List.all_eq_false, -List.any_eq_false, b__law_drawn_table_L0, e, k1, ht, dx, d0, he, -List.filter_eq_nil_iff]; try omega; done)) [-List.map_map, -List.any_map, -List.all_map, -List.any_filter, -List.all_filter, -List.length_flatMap, -List.all_eq_true, -List.any_eq_true, -List.all_eq_false, -List.any_eq_false, b__law_drawn_table_L0, e, k1, ht, dx, d0, he, -List.filter_eq_nil_iff]
      · by_cases he : l = []
        · refine ⟨[x], ⟨x, by simp, k2⟩, ?_⟩
          rw [he] at e
          simp -implicitDefEqProofs +contextual (disch := first | omega | (simp -implicitDefEqProofs +contextual (disch := first | omega | (simp -implicitDefEqProofs +contextual (disch := omega) [-List.map_map, -List.any_map, -List.all_map, -List.any_filter, -List.all_filter, -List.length_flatMap, -List.all_eq_true, -List.any_eq_true, -List.all_eq_false, -List.any_eq_false, b__law_drawn_table_L0, e, k1, ht, dx, d0, c0, c1, c2]; try omega; done)) [-List.map_map, -List.any_map, -List.all_map, -List.any_filter, -List.all_filter, -List.length_flatMap, -List.all_eq_true, -List.any_eq_true, -List.all_eq_false, -List.any_eq_false, b__law_drawn_table_L0, e, k1, ht, dx, d0, c0, c1, c2]; try omega; done)) [-List.map_map, -List.any_map, -List.all_map, -List.any_filter, -List.all_filter, -List.length_flatMap, -List.all_eq_true, -List.any_eq_true, -List.all_eq_false, -List.any_eq_false, b__law_drawn_table_L0, e, k1, ht, dx, d0, c0, c1, c2]
        · refine ⟨l, ?_, ?_⟩
          · obtain ⟨y, hy⟩ := List.exists_mem_of_ne_nil _ he
            exact ⟨y, hy, l1 y hy⟩
          · simp -implicitDefEqProofs +contextual (disch := first | omega | (simp -implicitDefEqProofs +contextual (disch := first | omega | (simp -implicitDefEqProofs +contextual (disch := omega) [-List.map_map, -List.any_map, -List.all_map, -List.any_filter, -List.all_filter, -List.length_flatMap, -List.all_eq_true, -List.any_eq_true, -List.all_eq_false, -List.any_eq_false, b__law_drawn_table_L0, e, k1, ht, dx, d0, c0, c1, c2, he]; try omega; done)) [-List.map_map, -List.any_map, -List.all_map, -List.any_filter, -List.all_filter, -List.length_flatMap, -List.all_eq_true, -List.any_eq_true, -List.all_eq_false, -List.any_eq_false, b__law_drawn_table_L0, e, k1, ht, dx, d0, c0, c1, c2, he]; try omega; done)) [-List.map_map, -List.any_map, -List.all_map, -List.any_filter, -List.all_filter, -List.length_flatMap, -List.all_eq_true, -List.any_eq_true, -List.all_eq_false, -List.any_eq_false, b__law_drawn_table_L0, e, k1, ht, dx, d0, c0, c1, c2, he]
end KL
end
section
set_option linter.all false
set_option Elab.async false
set_option maxRecDepth 100000
set_option maxHeartbeats 400000
namespace KL
open Fx
variable {n : Nat}
theorem ix_all {l : List Int} {P : Int → Prop} {i : Int} (h : ∀ x ∈ l, P x) (h0 : 0 ≤ i) (h1 : i < l.length) : P (ix l i) := h _ (ix_mem h0 h1)
theorem drawn_table {ns : List Int} (hn : ns.length ≤ 63) : ∃ T : Tab, TOk T ∧ (md.Φ (n + 3) F__law_drawn_table [.val (.lst (ns.map .int))]).v = .ok (.val (encT T)) := by
  have b0 := boxS_ok (ns := ns) (k := 0) (by omega)
  have p1 := law_pick (n := n) (f := D.int) (l := [5, 5, 5, 4, 4, 3, 2, 1]) b0 (by simp) (by simp)
  have i1 := tk_in (B := boxS ns 0) (m := 8) (by omega)
  have c1 := ix_all (l := [5, 5, 5, 4, 4, 3, 2, 1]) (P := fun x => 1 ≤ x ∧ x ≤ 5) (by simp) i1.1 i1.2
  have b1 := tk_ok b0 (m := 8) (by omega)
  simp only [List.length_cons, List.length_nil, List.map] at p1
  have e8 : ((0 + 1 + 1 + 1 + 1 + 1 + 1 + 1 + 1 : Nat) : Int) = 8 := rfl
  rw [e8] at p1
  generalize hB1 : (tk (boxS ns 0) 8).2 = B1 at p1 b1
  generalize hm : ix ([5, 5, 5, 4, 4, 3, 2, 1] : List Int) (tk (boxS ns 0) 8).1 = m at p1 c1
  have p2 := law_take (n := n + 1) (m := 5) b1 (by omega) (by omega)
  have b2 := tk_ok b1 (m := 5) (by omega)
  generalize hB2 : (tk B1 5).2 = B2 at p2 b2
  generalize hh : (tk B1 5).1 = h at p2
  have p3 := law_pick (n := n) (f := D.int) (l := [5, 5, 4, 3, 2, 1]) b2 (by simp) (by simp)
  have i3 := tk_in (B := B2) (m := 6) (by omega)
  have c3 := ix_all (l := [5, 5, 4, 3, 2, 1]) (P := fun x => 1 ≤ x ∧ x ≤ 5) (by simp) i3.1 i3.2
  have b3 := tk_ok b2 (m := 6) (by omega)
  simp only [List.length_cons, List.length_nil, List.map] at p3
  have e6 : ((0 + 1 + 1 + 1 + 1 + 1 + 1 : Nat) : Int) = 6 := rfl
  rw [e6] at p3
  generalize hB3 : (tk B2 6).2 = B3 at p3 b3
  generalize hr : ix ([5, 5, 4, 3, 2, 1] : List Int) (tk B2 6).1 = r at p3 c3
  have key := for_inv (g := md.g) (Φ := md.Φ (n + 2)) (tg := .one 5) (body := b__law_drawn_table_L0) (f := D.int) (xs := irange 0 r) (pre := [])
    (ρ := [some (.val (.lst (ns.map .int))), some (.lst (bx B3)), some (.val (.int m)), some (.val (.int h)), some (.lst []), none, none, none, none])
    (I := fun p ρ => ∃ (B : Box) (rs : List (List Int)) (lk j6 j7 : Option R), BOk B ∧ rs.length = p.length ∧ (∀ x ∈ rs, RowOk m x) ∧
      ρ = [some (.val (.lst (ns.map .int))), some (.lst (bx B)), some (.val (.int m)), some (.val (.int h)), some (.lst (rs.map tI)), lk, j6, j7, none]) (T := fun _ _ => False) (by
    rintro p x q _ e ⟨B, rs, lk, j6, j7, hB, hl, hr, rfl⟩
    have hp : p.length < 5 := by
      have := congrArg List.length e
      simp at this; omega
    obtain ⟨B', l, o6, o7, b', rl, ee⟩ := tab_row (n := n + 1) (S := .val (.lst (ns.map .int))) (h := h) (rs := rs) (lk := some (.val (.int x))) (j6 := j6) (j7 := j7) hB c1.1 c1.2 (by omega)
    refine ⟨_, rfl, .inl ⟨_, .inl ee, B', rs ++ [l], _, _, _, b', by simp [hl], ?_, rfl⟩⟩
    intro y hy
    rcases List.mem_append.mp hy with hy | hy
    · exact hr y hy
    · rw [List.mem_singleton.mp hy]; exact rl) ⟨B3, [], _, _, _, b3, rfl, by simp, rfl⟩
  rcases key with ⟨_, ke, B, rs, lk, j6, j7, _, hl, hrs, rfl⟩ | ⟨_, _, _, f⟩
  · have hl' : rs.length = r.toNat := by simpa using hl
    refine ⟨(m, rs), ⟨c1.1, c1.2, by dsimp only; omega, by dsimp only; omega, hrs⟩, ?_⟩
    have r1 : -1000000000 ≤ r := by omega
    have r2 : r ≤ 1000000000 := by omega
    rw [phi_v (d := d__law_drawn_table) rfl rfl]
    simp -implicitDefEqProofs +contextual (disch := first | omega | (simp -implicitDefEqProofs +contextual (disch := first | omega | (simp -implicitDefEqProofs +contextual (disch := omega) [-List.map_map, -List.any_map, -List.all_map, -List.any_filter, -List.all_filter, -List.length_flatMap, -List.all_eq_true, -List.any_eq_true, -List.all_eq_false, -List.any_eq_false, d__law_drawn_table, b__law_drawn_table, hn, p1, p2, p3, ke, r1, r2]; try omega; done)) [-List.map_map, -List.any_map, -List.all_map, -List.any_filter, -List.all_filter, -List.length_flatMap, -List.all_eq_true, -List.any_eq_true, -List.all_eq_false, -List.any_eq_false, d__law_drawn_table, b__law_drawn_table, hn, p1, p2, p3, ke, r1, r2]; try omega; done)) [-List.map_map, -List.any_map, -List.all_map, -List.any_filter, -List.all_filter, -List.length_flatMap, -List.all_eq_true, -List.any_eq_true, -List.all_eq_false, -List.any_eq_false, d__law_drawn_table, b__law_drawn_table, hn, p1, p2, p3, ke, r1, r2]
  · exact f.elim
/-! the tables of the program -/
abbrev tabD (T : Tab) : D := .ins C_Table [.int T.1, tII T.2]
abbrev tabR (o : Bool) (T : Tab) : R := obR o C_Table [.int T.1, tII T.2]
theorem asc_up {l : List Int} (h : l.Pairwise (· < ·)) : asc l = true := by
  unfold asc
  rw [List.all_eq_true]
  intro i hi
  rw [mem_irange] at hi
  rw [decide_eq_true_eq]
  unfold ix
  have h1 : (i - 1).toNat < l.length := by omega
  have h2 : i.toNat < l.length := by omega
  rw [List.getD_eq_getElem?_getD, List.getD_eq_getElem?_getD, List.getElem?_eq_getElem h1, List.getElem?_eq_getElem h2]
  exact List.pairwise_iff_getElem.mp h _ _ h1 h2 (by omega)
def risB (l : List Int) (m : Int) : Bool := (l.all fun i => within i 0 m) && asc l
@[simp] theorem is_rising_I {l : List Int} {m : Int} (h : l.length ≤ 1000) : (md.Φ (n + 3) F_is_rising [.val (tI l), .val (.int m)]).v = .ok (.val (.bl (risB l m))) := by
  rw [phi_v (d := d_is_rising) rfl rfl]
  simp -implicitDefEqProofs +contextual (disch := first | omega | (simp -implicitDefEqProofs +contextual (disch := first | omega | (simp -implicitDefEqProofs +contextual (disch := omega) [-List.map_map, -List.any_map, -List.all_map, -List.any_filter, -List.all_filter, -List.length_flatMap, -List.all_eq_true, -List.any_eq_true, -List.all_eq_false, -List.any_eq_false, d_is_rising, b_is_rising, h, risB]; try omega; done)) [-List.map_map, -List.any_map, -List.all_map, -List.any_filter, -List.all_filter, -List.length_flatMap, -List.all_eq_true, -List.any_eq_true, -List.all_eq_false, -List.any_eq_false, d_is_rising, b_is_rising, h, risB]; try omega; done)) [-List.map_map, -List.any_map, -List.all_map, -List.any_filter, -List.all_filter, -List.length_flatMap, -List.all_eq_true, -List.any_eq_true, -List.all_eq_false, -List.any_eq_false, d_is_rising, b_is_rising, h, risB]
def bunB (m : Int) (l : List Int) : Bool := risB l (m - 1) && decide (0 < l.length)
@[simp] theorem is_bunch_I {l : List Int} {m : Int} (h : l.length ≤ 1000) : (md.Φ (n + 4) F_is_bunch [.val (tI l), .val (.int m)]).v = .ok (.val (.bl (bunB m l))) := by
  rw [phi_v (d := d_is_bunch) rfl rfl]
  simp -implicitDefEqProofs +contextual (disch := first | omega | (simp -implicitDefEqProofs +contextual (disch := first | omega | (simp -implicitDefEqProofs +contextual (disch := omega) [-List.map_map, -List.any_map, -List.all_map, -List.any_filter, -List.all_filter, -List.length_flatMap, -List.all_eq_true, -List.any_eq_true, -List.all_eq_false, -List.any_eq_false, d_is_bunch, b_is_bunch, h, bunB]; try omega; done)) [-List.map_map, -List.any_map, -List.all_map, -List.any_filter, -List.all_filter, -List.length_flatMap, -List.all_eq_true, -List.any_eq_true, -List.all_eq_false, -List.any_eq_false, d_is_bunch, b_is_bunch, h, bunB]; try omega; done)) [-List.map_map, -List.any_map, -List.all_map, -List.any_filter, -List.all_filter, -List.length_flatMap, -List.all_eq_true, -List.any_eq_true, -List.all_eq_false, -List.any_eq_false, d_is_bunch, b_is_bunch, h, bunB]
@[simp] theorem are_rows_II {l : List (List Int)} {m : Int} (h : l.length ≤ 1000) (h2 : ∀ x ∈ l, x.length ≤ 1000) : (md.Φ (n + 5) F_are_rows [.val (tII l), .val (.int m)]).v = .ok (.val (.bl (within l.length 1 5 && l.all (bunB m)))) := by
  rw [phi_v (d := d_are_rows) rfl rfl]
  simp -implicitDefEqProofs +contextual (disch := first | omega | (simp -implicitDefEqProofs +contextual (disch := first | omega | (simp -implicitDefEqProofs +contextual (disch := omega) [-List.map_map, -List.any_map, -List.all_map, -List.any_filter, -List.all_filter, -List.length_flatMap, -List.all_eq_true, -List.any_eq_true, -List.all_eq_false, -List.any_eq_false, d_are_rows, b_are_rows, h, h2, -q_comp1, comp1_all (α := List Int) (fun i => .bl (bunB m i))]; try omega; done)) [-List.map_map, -List.any_map, -List.all_map, -List.any_filter, -List.all_filter, -List.length_flatMap, -List.all_eq_true, -List.any_eq_true, -List.all_eq_false, -List.any_eq_false, d_are_rows, b_are_rows, h, h2, -q_comp1, comp1_all (α := List Int) (fun i => .bl (bunB m i))]; try omega; done)) [-List.map_map, -List.any_map, -List.all_map, -List.any_filter, -List.all_filter, -List.length_flatMap, -List.all_eq_true, -List.any_eq_true, -List.all_eq_false, -List.any_eq_false, d_are_rows, b_are_rows, h, h2, -q_comp1, comp1_all (α := List Int) (fun i => .bl (bunB m i))]
theorem bun_ok {m : Int} {l : List Int} (h : RowOk m l) : bunB m l = true := by
  have h0 : l.length ≠ 0 := fun e => h.ne (List.length_eq_zero_iff.mp e)
  unfold bunB risB
  rw [asc_up h.up]
  simp only [Bool.and_true, Bool.and_eq_true, decide_eq_true_eq, List.all_eq_true]
  refine ⟨fun x hx => ?_, by omega⟩
  have := h.inn x hx
  unfold within
  simp only [Bool.and_eq_true, decide_eq_true_eq]
  omega
@[simp] theorem table_make {T : Tab} (h : TOk T) : (md.Φ (n + 6) F_Table_init [.obj C_Table [], .val (.int T.1), .val (tII T.2)]) = .ok (.val .non) [some (tabR true T), some (.val (.int T.1)), some (.val (tII T.2))] := by
  have w1 : within T.1 1 5 = true := by have := h.m1; have := h.m5; unfold within; simp only [Bool.and_eq_true, decide_eq_true_eq]; omega
  have w2 : within T.2.length 1 5 = true := by have := h.r1; have := h.r5; unfold within; simp only [Bool.and_eq_true, decide_eq_true_eq]; omega
  have w3 : T.2.all (bunB T.1) = true := List.all_eq_true.mpr fun x hx => bun_ok (h.rows x hx)
  have w4 : ∀ x ∈ T.2, x.length ≤ 1000 := fun x hx => by have := row_len (h.rows x hx); have := h.m5; omega
  have w5 := h.r5
  rw [phi_f (d := d_Table_init) rfl rfl]
  simp -implicitDefEqProofs +contextual (disch := first | omega | (simp -implicitDefEqProofs +contextual (disch := first | omega | (simp -implicitDefEqProofs +contextual (disch := omega) [-List.map_map, -List.any_map, -List.all_map, -List.any_filter, -List.all_filter, -List.length_flatMap, -List.all_eq_true, -List.any_eq_true, -List.all_eq_false, -List.any_eq_false, d_Table_init, b_Table_init, outsA, w1, w2, w3, w4, w5]; try omega; done)) [-List.map_map, -List.any_map, -List.all_map, -List.any_filter, -List.all_filter, -List.length_flatMap, -List.all_eq_true, -List.any_eq_true, -List.all_eq_false, -List.any_eq_false, d_Table_init, b_Table_init, outsA, w1, w2, w3, w4, w5]; try omega; done)) [-List.map_map, -List.any_map, -List.all_map, -List.any_filter, -List.all_filter, -List.length_flatMap, -List.all_eq_true, -List.any_eq_true, -List.all_eq_false, -List.any_eq_false, d_Table_init, b_Table_init, outsA, w1, w2, w3, w4, w5]
  rfl
@[simp] theorem ini_T : md.g.ini C_Table = F_Table_init := rfl
end KL
end
section
set_option linter.all false
set_option Elab.async false
set_option maxRecDepth 100000
set_option maxHeartbeats 400000
namespace KL
open Fx
variable {n : Nat}
/-! outs -/
theorem outs_e {T : Tab} : ((irange 0 T.1).flatMap fun x => ((irange 0 T.2.length).filter fun l => !decide (x ∈ ix T.2 l)).map fun y => (x, y)) = outsL T := rfl
theorem const_len {T : Tab} (h : TOk T) : ((irange 0 T.1).flatMap fun _ => irange 0 T.2.length).length ≤ 16777216 := by
  have h1 := flat_len (f := fun _ : Int => irange 0 T.2.length) (c := 5) (l := irange 0 T.1) fun x _ => by rw [len_irange]; have := h.r5; omega
  rw [len_irange] at h1
  have := h.m5
  omega
@[simp] theorem outs_t {T : Tab} {o : Bool} (h : TOk T) : md.Φ (n + 1) F_outs [tabR o T] = .ok (.val (tP (outsL T))) [some (tabR o T)] := by
  have h1 := h.m1
  have h2 := h.m5
  have h3 := h.r1
  have h4 := h.r5
  have h5 := const_len h
  rw [phi_f (d := d_outs) rfl rfl]
  simp -implicitDefEqProofs +contextual (disch := first | omega | (simp -implicitDefEqProofs +contextual (disch := first | omega | (simp -implicitDefEqProofs +contextual (disch := omega) [-List.map_map, -List.any_map, -List.all_map, -List.any_filter, -List.all_filter, -List.length_flatMap, -List.all_eq_true, -List.any_eq_true, -List.all_eq_false, -List.any_eq_false, d_outs, b_outs, outsA, h1, h2, h3, h4, h5, comp2_pr (fun _ => irange 0 T.2.length) (fun k l => !decide (k ∈ ix T.2 l)), outs_e]; try omega; done)) [-List.map_map, -List.any_map, -List.all_map, -List.any_filter, -List.all_filter, -List.length_flatMap, -List.all_eq_true, -List.any_eq_true, -List.all_eq_false, -List.any_eq_false, d_outs, b_outs, outsA, h1, h2, h3, h4, h5, comp2_pr (fun _ => irange 0 T.2.length) (fun k l => !decide (k ∈ ix T.2 l)), outs_e]; try omega; done)) [-List.map_map, -List.any_map, -List.all_map, -List.any_filter, -List.all_filter, -List.length_flatMap, -List.all_eq_true, -List.any_eq_true, -List.all_eq_false, -List.any_eq_false, d_outs, b_outs, outsA, h1, h2, h3, h4, h5, comp2_pr (fun _ => irange 0 T.2.length) (fun k l => !decide (k ∈ ix T.2 l)), outs_e]
/-! what partings keep out -/
theorem s_pp : (("plain" : PySem.Str) == "plain") = true := by decide
theorem s_dp : (("deep" : PySem.Str) == "plain") = false := by decide
theorem s_dd : (("deep" : PySem.Str) == "deep") = true := by decide
theorem s_pd : (("plain" : PySem.Str) == "deep") = false := by decide
theorem row_of {T : Tab} (h : TOk T) {l : Int} (h0 : 0 ≤ l) (h1 : l < T.2.length) : RowOk T.1 (ix T.2 l) := h.rows _ (ix_mem h0 h1)
theorem kind_k {b : Bool} : (("plain" == kindS b) || ("deep" == kindS b)) = true := by cases b <;> decide
@[simp] theorem law_outs_t {T : Tab} (h : TOk T) : (md.Φ (n + 1) F__law_outs [.val (encT T)]).v = .ok (.lst ((outsL T).map pr)) := by
  have h1 := h.m1
  have h2 := h.m5
  have h4 := h.r5
  have key : ∀ j, ∃ j', forE md.g (md.Φ n) (.one 4) b__law_outs_L0 ((irange 0 T.1).map .int) [some (.val (encT T)), some (.val (.int T.1)), some (.val (tII T.2)), some (.lst []), j, none] =
      .nx [some (.val (encT T)), some (.val (.int T.1)), some (.val (tII T.2)), some (.lst ((outsL T).map pr)), j', none] := by
    intro j
    refine for_pre (E := fun p j => [some (.val (encT T)), some (.val (.int T.1)), some (.val (tII T.2)), some (.lst ((p.flatMap (outsR T)).map pr)), j, none]) ?_
    intro p x q j e
    have l1 := flat_len (f := outsR T) (c := 5) (l := p) fun x _ => Nat.le_trans outsR_len h4
    have l2 := congrArg List.length e
    rw [len_irange, List.length_append] at l2
    have l5 := List.length_filter_le (fun l => !decide (x ∈ ix T.2 l)) (irange 0 T.2.length)
    rw [len_irange] at l5
    have e1 : outsR T x = ((irange 0 T.2.length).filter fun l => !decide (x ∈ ix T.2 l)).map fun l => (x, l) := rfl
    refine ⟨_, some (.val (.int x)), rfl, .inl ?_⟩
    simp -implicitDefEqProofs +contextual (disch := first | omega | (simp -implicitDefEqProofs +contextual (disch := first | omega | (simp -implicitDefEqProofs +contextual (disch := omega) [-List.map_map, -List.any_map, -List.all_map, -List.any_filter, -List.all_filter, -List.length_flatMap, -List.all_eq_true, -List.any_eq_true, -List.all_eq_false, -List.any_eq_false, b__law_outs_L0, h4, -q_comp1, comp1_of (α := Int) (fun l => !decide (x ∈ ix T.2 l)) (fun l => .tup [.int x, .int l]), e1]; try omega; done)) [-List.map_map, -List.any_map, -List.all_map, -List.any_filter, -List.all_filter, -List.length_flatMap, -List.all_eq_true, -List.any_eq_true, -List.all_eq_false, -List.any_eq_false, b__law_outs_L0, h4, -q_comp1, comp1_of (α := Int) (fun l => !decide (x ∈ ix T.2 l)) (fun l => .tup [.int x, .int l]), e1]; try omega; done)) [-List.map_map, -List.any_map, -List.all_map, -List.any_filter, -List.all_filter, -List.length_flatMap, -List.all_eq_true, -List.any_eq_true, -List.all_eq_false, -List.any_eq_false, b__law_outs_L0, h4, -q_comp1, comp1_of (α := Int) (fun l => !decide (x ∈ ix T.2 l)) (fun l => .tup [.int x, .int l]), e1]
  obtain ⟨j', k⟩ := key none
  rw [phi_v (d := d__law_outs) rfl rfl]
  simp -implicitDefEqProofs +contextual (disch := first | omega | (simp -implicitDefEqProofs +contextual (disch := first | omega | (simp -implicitDefEqProofs +contextual (disch := omega) [-List.map_map, -List.any_map, -List.all_map, -List.any_filter, -List.all_filter, -List.length_flatMap, -List.all_eq_true, -List.any_eq_true, -List.all_eq_false, -List.any_eq_false, d__law_outs, b__law_outs, k, outsL]; try omega; done)) [-List.map_map, -List.any_map, -List.all_map, -List.any_filter, -List.all_filter, -List.length_flatMap, -List.all_eq_true, -List.any_eq_true, -List.all_eq_false, -List.any_eq_false, d__law_outs, b__law_outs, k, outsL]; try omega; done)) [-List.map_map, -List.any_map, -List.all_map, -List.any_filter, -List.all_filter, -List.length_flatMap, -List.all_eq_true, -List.any_eq_true, -List.all_eq_false, -List.any_eq_false, d__law_outs, b__law_outs, k, outsL]
theorem mem_mid {α : Type} {l p q : List α} {x : α} (e : l = p ++ x :: q) : x ∈ l := by rw [e]; simp
theorem law_kept_t {T : Tab} {b : Bool} {p : List Int} (h : TOk T) (hp : (p.length : Int) = T.1) : (md.Φ (n + 2) F__law_kept [.val (encT T), .val (tI p), .val (.str (kindS b))]).v = .ok (.lst ((keptL T p b).map pr)) := by
  have key : ∀ j : Option R, ∃ j' : Option R × Option R × Option R, forE md.g (md.Φ (n + 1)) (.many [4, 5]) b__law_kept_L0 ((outsL T).map pr) [some (.val (encT T)), some (.val (tI p)), some (.val (.str (kindS b))), some (.lst []), j, j, j, none] =
      .nx [some (.val (encT T)), some (.val (tI p)), some (.val (.str (kindS b))), some (.lst ((keptL T p b).map pr)), j'.1, j'.2.1, j'.2.2, none] := by
    intro j
    refine for_pre (J := Option R × Option R × Option R) (j := (j, j, j)) (E := fun q j => [some (.val (encT T)), some (.val (tI p)), some (.val (.str (kindS b))), some (.lst ((q.filter (keepB T p b)).map pr)), j.1, j.2.1, j.2.2, none]) ?_
    intro q x q2 j e
    have hx := mem_mid e
    have ol := outs_len h
    have l2 := congrArg List.length e
    rw [List.length_append, List.length_cons] at l2
    have l5 := List.length_filter_le (keepB T p b) q
    obtain ⟨k, l⟩ := x
    rw [mem_outs] at hx
    obtain ⟨⟨k0, k1⟩, ⟨l0, l1⟩, _⟩ := hx
    dsimp only at k0 k1 l0 l1
    have r := row_of h l0 l1
    have rl := row_len r
    have m5 := h.m5
    have ri : ∀ i ∈ ix T.2 l, 0 ≤ i ∧ i < p.length := fun i hi => by have := r.inn i hi; omega
    have ne : (ix T.2 l).map (ix p) ≠ [] := by
      intro e
      exact r.ne (List.map_eq_nil_iff.mp e)
    have mm := maxI_mx ne
    refine ⟨_, (some (.val (.int k)), some (.val (.int l)), some (.lst (((ix T.2 l).map (ix p)).map .int))), rfl, .inl ?_⟩
    cases b with
    | true =>
      by_cases kb : ix p k ∈ (ix T.2 l).map (ix p)
      · simp -implicitDefEqProofs +contextual (disch := first | omega | (simp -implicitDefEqProofs +contextual (disch := first | omega | (simp -implicitDefEqProofs +contextual (disch := omega) [-List.map_map, -List.any_map, -List.all_map, -List.any_filter, -List.all_filter, -List.length_flatMap, -List.all_eq_true, -List.any_eq_true, -List.all_eq_false, -List.any_eq_false, b__law_kept_L0, k0, k1, l0, l1, rl, m5, ri, kindS, keepB, s_pp, s_pd, kb, filt_app, -List.mem_map, -q_comp1, comp1_all (α := Int) (fun i => .int (ix p i))]; try omega; done)) [-List.map_map, -List.any_map, -List.all_map, -List.any_filter, -List.all_filter, -List.length_flatMap, -List.all_eq_true, -List.any_eq_true, -List.all_eq_false, -List.any_eq_false, b__law_kept_L0, k0, k1, l0, l1, rl, m5, ri, kindS, keepB, s_pp, s_pd, kb, filt_app, -List.mem_map, -q_comp1, comp1_all (α := Int) (fun i => .int (ix p i))]; try omega; done)) [-List.map_map, -List.any_map, -List.all_map, -List.any_filter, -List.all_filter, -List.length_flatMap, -List.all_eq_true, -List.any_eq_true, -List.all_eq_false, -List.any_eq_false, b__law_kept_L0, k0, k1, l0, l1, rl, m5, ri, kindS, keepB, s_pp, s_pd, kb, filt_app, -List.mem_map, -q_comp1, comp1_all (α := Int) (fun i => .int (ix p i))]
      · simp -implicitDefEqProofs +contextual (disch := first | omega | (simp -implicitDefEqProofs +contextual (disch := first | omega | (simp -implicitDefEqProofs +contextual (disch := omega) [-List.map_map, -List.any_map, -List.all_map, -List.any_filter, -List.all_filter, -List.length_flatMap, -List.all_eq_true, -List.any_eq_true, -List.all_eq_false, -List.any_eq_false, b__law_kept_L0, k0, k1, l0, l1, rl, m5, ri, kindS, keepB, s_pp, s_pd, kb, filt_app, -List.mem_map, -q_comp1, comp1_all (α := Int) (fun i => .int (ix p i))]; try omega; done)) [-List.map_map, -List.any_map, -List.all_map, -List.any_filter, -List.all_filter, -List.length_flatMap, -List.all_eq_true, -List.any_eq_true, -List.all_eq_false, -List.any_eq_false, b__law_kept_L0, k0, k1, l0, l1, rl, m5, ri, kindS, keepB, s_pp, s_pd, kb, filt_app, -List.mem_map, -q_comp1, comp1_all (α := Int) (fun i => .int (ix p i))]; try omega; done)) [-List.map_map, -List.any_map, -List.all_map, -List.any_filter, -List.all_filter, -List.length_flatMap, -List.all_eq_true, -List.any_eq_true, -List.all_eq_false, -List.any_eq_false, b__law_kept_L0, k0, k1, l0, l1, rl, m5, ri, kindS, keepB, s_pp, s_pd, kb, filt_app, -List.mem_map, -q_comp1, comp1_all (α := Int) (fun i => .int (ix p i))]
        rfl
    | false =>
      by_cases kb : mx ((ix T.2 l).map (ix p)) < ix p k
      · simp -implicitDefEqProofs +contextual (disch := first | omega | (simp -implicitDefEqProofs +contextual (disch := first | omega | (simp -implicitDefEqProofs +contextual (disch := omega) [-List.map_map, -List.any_map, -List.all_map, -List.any_filter, -List.all_filter, -List.length_flatMap, -List.all_eq_true, -List.any_eq_true, -List.all_eq_false, -List.any_eq_false, b__law_kept_L0, k0, k1, l0, l1, rl, m5, ri, kindS, keepB, s_dp, s_dd, mm, kb, filt_app, -List.mem_map, -q_comp1, comp1_all (α := Int) (fun i => .int (ix p i))]; try omega; done)) [-List.map_map, -List.any_map, -List.all_map, -List.any_filter, -List.all_filter, -List.length_flatMap, -List.all_eq_true, -List.any_eq_true, -List.all_eq_false, -List.any_eq_false, b__law_kept_L0, k0, k1, l0, l1, rl, m5, ri, kindS, keepB, s_dp, s_dd, mm, kb, filt_app, -List.mem_map, -q_comp1, comp1_all (α := Int) (fun i => .int (ix p i))]; try omega; done)) [-List.map_map, -List.any_map, -List.all_map, -List.any_filter, -List.all_filter, -List.length_flatMap, -List.all_eq_true, -List.any_eq_true, -List.all_eq_false, -List.any_eq_false, b__law_kept_L0, k0, k1, l0, l1, rl, m5, ri, kindS, keepB, s_dp, s_dd, mm, kb, filt_app, -List.mem_map, -q_comp1, comp1_all (α := Int) (fun i => .int (ix p i))]
        rfl
      · simp -implicitDefEqProofs +contextual (disch := first | omega | (simp -implicitDefEqProofs +contextual (disch := first | omega | (simp -implicitDefEqProofs +contextual (disch := omega) [-List.map_map, -List.any_map, -List.all_map, -List.any_filter, -List.all_filter, -List.length_flatMap, -List.all_eq_true, -List.any_eq_true, -List.all_eq_false, -List.any_eq_false, b__law_kept_L0, k0, k1, l0, l1, rl, m5, ri, kindS, keepB, s_dp, s_dd, mm, kb, filt_app, -List.mem_map, -q_comp1, comp1_all (α := Int) (fun i => .int (ix p i))]; try omega; done)) [-List.map_map, -List.any_map, -List.all_map, -List.any_filter, -List.all_filter, -List.length_flatMap, -List.all_eq_true, -List.any_eq_true, -List.all_eq_false, -List.any_eq_false, b__law_kept_L0, k0, k1, l0, l1, rl, m5, ri, kindS, keepB, s_dp, s_dd, mm, kb, filt_app, -List.mem_map, -q_comp1, comp1_all (α := Int) (fun i => .int (ix p i))]; try omega; done)) [-List.map_map, -List.any_map, -List.all_map, -List.any_filter, -List.all_filter, -List.length_flatMap, -List.all_eq_true, -List.any_eq_true, -List.all_eq_false, -List.any_eq_false, b__law_kept_L0, k0, k1, l0, l1, rl, m5, ri, kindS, keepB, s_dp, s_dd, mm, kb, filt_app, -List.mem_map, -q_comp1, comp1_all (α := Int) (fun i => .int (ix p i))]
  obtain ⟨j', k⟩ := key none
  rw [phi_v (d := d__law_kept) rfl rfl]
  simp -implicitDefEqProofs +contextual (disch := first | omega | (simp -implicitDefEqProofs +contextual (disch := first | omega | (simp -implicitDefEqProofs +contextual (disch := omega) [-List.map_map, -List.any_map, -List.all_map, -List.any_filter, -List.all_filter, -List.length_flatMap, -List.all_eq_true, -List.any_eq_true, -List.all_eq_false, -List.any_eq_false, d__law_kept, b__law_kept, h, k]; try omega; done)) [-List.map_map, -List.any_map, -List.all_map, -List.any_filter, -List.all_filter, -List.length_flatMap, -List.all_eq_true, -List.any_eq_true, -List.all_eq_false, -List.any_eq_false, d__law_kept, b__law_kept, h, k]; try omega; done)) [-List.map_map, -List.any_map, -List.all_map, -List.any_filter, -List.all_filter, -List.length_flatMap, -List.all_eq_true, -List.any_eq_true, -List.all_eq_false, -List.any_eq_false, d__law_kept, b__law_kept, h, k]
end KL
end
section
set_option linter.all false
set_option Elab.async false
set_option maxRecDepth 100000
set_option maxHeartbeats 400000
namespace KL
open Fx
variable {n : Nat}
/-! cuts and stacks -/
@[simp] theorem is_depths_i {i : Int} : (md.Φ (n + 3) F_is_depths [.val (.int i)]).v = .ok (.val (.bl (within i 2 4))) := by
  rw [phi_v (d := d_is_depths) rfl rfl]
  simp -implicitDefEqProofs +contextual (disch := first | omega | (simp -implicitDefEqProofs +contextual (disch := first | omega | (simp -implicitDefEqProofs +contextual (disch := omega) [-List.map_map, -List.any_map, -List.all_map, -List.any_filter, -List.all_filter, -List.length_flatMap, -List.all_eq_true, -List.any_eq_true, -List.all_eq_false, -List.any_eq_false, d_is_depths, b_is_depths]; try omega; done)) [-List.map_map, -List.any_map, -List.all_map, -List.any_filter, -List.all_filter, -List.length_flatMap, -List.all_eq_true, -List.any_eq_true, -List.all_eq_false, -List.any_eq_false, d_is_depths, b_is_depths]; try omega; done)) [-List.map_map, -List.any_map, -List.all_map, -List.any_filter, -List.all_filter, -List.length_flatMap, -List.all_eq_true, -List.any_eq_true, -List.all_eq_false, -List.any_eq_false, d_is_depths, b_is_depths]
def cutB (c : List Int) (k d : Int) : Bool := within c.length k k && c.all fun i => within i 0 (d - 1)
@[simp] theorem is_cut_I {c : List Int} {k d : Int} (h : c.length ≤ 1000) : (md.Φ (n + 4) F_is_cut [.val (tI c), .val (.int k), .val (.int d)]).v = .ok (.val (.bl (cutB c k d))) := by
  rw [phi_v (d := d_is_cut) rfl rfl]
  simp -implicitDefEqProofs +contextual (disch := first | omega | (simp -implicitDefEqProofs +contextual (disch := first | omega | (simp -implicitDefEqProofs +contextual (disch := omega) [-List.map_map, -List.any_map, -List.all_map, -List.any_filter, -List.all_filter, -List.length_flatMap, -List.all_eq_true, -List.any_eq_true, -List.all_eq_false, -List.any_eq_false, d_is_cut, b_is_cut, h, cutB]; try omega; done)) [-List.map_map, -List.any_map, -List.all_map, -List.any_filter, -List.all_filter, -List.length_flatMap, -List.all_eq_true, -List.any_eq_true, -List.all_eq_false, -List.any_eq_false, d_is_cut, b_is_cut, h, cutB]; try omega; done)) [-List.map_map, -List.any_map, -List.all_map, -List.any_filter, -List.all_filter, -List.length_flatMap, -List.all_eq_true, -List.any_eq_true, -List.all_eq_false, -List.any_eq_false, d_is_cut, b_is_cut, h, cutB]
theorem cut_ok {m d : Int} {C : List (List Int)} (h : COk m d C) {c : List Int} (hc : c ∈ C) : cutB c (ix C 0).length d = true := by
  obtain ⟨l, a⟩ := h.all c hc
  unfold cutB
  rw [l]
  simp only [Bool.and_eq_true, List.all_eq_true]
  refine ⟨by unfold within; simp, fun x hx => ?_⟩
  have := a x hx
  unfold within
  simp only [Bool.and_eq_true, decide_eq_true_eq]
  omega
theorem are_cuts_II {T : Tab} {o : Bool} {C : List (List Int)} {d : Int} (h : TOk T) (hc : COk T.1 d C) : md.Φ (n + 5) F_are_cuts [tabR o T, .val (.int d), .val (tII C)] = .ok (.val (.bl true)) [some (tabR o T), some (.val (.int d)), some (.val (tII C))] := by
  have l := hc.len
  have m1 := hc.m1
  have m5 := h.m5
  have w1 : within C.length T.1 T.1 = true := by unfold within; simp only [Bool.and_eq_true, decide_eq_true_eq]; omega
  have w2 : within (ix C 0).length 1 5 = true := by have := hc.k1; have := hc.k5; unfold within; simp only [Bool.and_eq_true, decide_eq_true_eq]; omega
  have l0 : 0 < C.length := by omega
  have l5 : ∀ c ∈ C, c.length ≤ 1000 := fun c hcc => by have := (hc.all c hcc).1; have := hc.k5; omega
  have w3 : ∀ c ∈ C, cutB c (ix C 0).length d = true := fun c hcc => cut_ok hc hcc
  rw [phi_f (d := d_are_cuts) rfl rfl]
  simp -implicitDefEqProofs +contextual (disch := first | omega | (simp -implicitDefEqProofs +contextual (disch := first | omega | (simp -implicitDefEqProofs +contextual (disch := omega) [-List.map_map, -List.any_map, -List.all_map, -List.any_filter, -List.all_filter, -List.length_flatMap, -List.all_eq_true, -List.any_eq_true, -List.all_eq_false, -List.any_eq_false, d_are_cuts, b_are_cuts, outsA, w1, w2, w3, l0, l5, -q_comp1, comp1_all (α := List Int) (fun _ => .bl true)]; try omega; done)) [-List.map_map, -List.any_map, -List.all_map, -List.any_filter, -List.all_filter, -List.length_flatMap, -List.all_eq_true, -List.any_eq_true, -List.all_eq_false, -List.any_eq_false, d_are_cuts, b_are_cuts, outsA, w1, w2, w3, l0, l5, -q_comp1, comp1_all (α := List Int) (fun _ => .bl true)]; try omega; done)) [-List.map_map, -List.any_map, -List.all_map, -List.any_filter, -List.all_filter, -List.length_flatMap, -List.all_eq_true, -List.any_eq_true, -List.all_eq_false, -List.any_eq_false, d_are_cuts, b_are_cuts, outsA, w1, w2, w3, l0, l5, -q_comp1, comp1_all (α := List Int) (fun _ => .bl true)]
theorem least_stacks_II {m d : Int} {C : List (List Int)} {row : List Int} (hc : COk m d C) (hr : RowOk m row) (m5 : m ≤ 5) : (md.Φ (n + 1) F_least_stacks [.val (tII C), .val (tI row)]).v = .ok (.val (tII (stacksL C row))) := by
  have l := hc.len
  have m1 := hc.m1
  have k5 := hc.k5
  have rl := row_len hr
  have l0 : 0 < C.length := by omega
  have ri : ∀ i ∈ row, 0 ≤ i ∧ i < C.length := fun i hi => by have := hr.inn i hi; omega
  have cl : ∀ i : Int, 0 ≤ i → i < C.length → (ix C i).length = (ix C 0).length := fun i h0 h1 => (hc.all _ (ix_mem h0 h1)).1
  have cl2 : ∀ i ∈ row, (ix C i).length = (ix C 0).length := fun i hi => cl i (ri i hi).1 (ri i hi).2
  have inner : ∀ c : Int, 0 ≤ c → c < (ix C 0).length → compE md.g (md.Φ n) (.idx (.idx (.var 0) (.var 3)) (.var 2)) [3] (.one 3) .non (row.map .int) [some (.val (tII C)), some (.val (tI row)), some (.val (.int c)), none] =
      .ok (.lst ((row.map fun k => ix (ix C k) c).map .int)) [some (.val (tII C)), some (.val (tI row)), some (.val (.int c)), none] := by
    intro c c0 c1
    simp -implicitDefEqProofs +contextual (disch := first | omega | (simp -implicitDefEqProofs +contextual (disch := first | omega | (simp -implicitDefEqProofs +contextual (disch := omega) [-List.map_map, -List.any_map, -List.all_map, -List.any_filter, -List.all_filter, -List.length_flatMap, -List.all_eq_true, -List.any_eq_true, -List.all_eq_false, -List.any_eq_false, c0, c1, ri, cl2, rl, -q_comp1, comp1_all (α := Int) (fun k => .int (ix (ix C k) c))]; try omega; done)) [-List.map_map, -List.any_map, -List.all_map, -List.any_filter, -List.all_filter, -List.length_flatMap, -List.all_eq_true, -List.any_eq_true, -List.all_eq_false, -List.any_eq_false, c0, c1, ri, cl2, rl, -q_comp1, comp1_all (α := Int) (fun k => .int (ix (ix C k) c))]; try omega; done)) [-List.map_map, -List.any_map, -List.all_map, -List.any_filter, -List.all_filter, -List.length_flatMap, -List.all_eq_true, -List.any_eq_true, -List.all_eq_false, -List.any_eq_false, c0, c1, ri, cl2, rl, -q_comp1, comp1_all (α := Int) (fun k => .int (ix (ix C k) c))]
  rw [phi_v (d := d_least_stacks) rfl rfl]
  simp -implicitDefEqProofs +contextual (disch := first | omega | (simp -implicitDefEqProofs +contextual (disch := first | omega | (simp -implicitDefEqProofs +contextual (disch := omega) [-List.map_map, -List.any_map, -List.all_map, -List.any_filter, -List.all_filter, -List.length_flatMap, -List.all_eq_true, -List.any_eq_true, -List.all_eq_false, -List.any_eq_false, d_least_stacks, b_least_stacks, l0, k5, rl, inner, -q_comp1, comp1_all (α := Int) (fun c => tI (usort (row.map fun k => ix (ix C k) c))), stacksL]; try omega; done)) [-List.map_map, -List.any_map, -List.all_map, -List.any_filter, -List.all_filter, -List.length_flatMap, -List.all_eq_true, -List.any_eq_true, -List.all_eq_false, -List.any_eq_false, d_least_stacks, b_least_stacks, l0, k5, rl, inner, -q_comp1, comp1_all (α := Int) (fun c => tI (usort (row.map fun k => ix (ix C k) c))), stacksL]; try omega; done)) [-List.map_map, -List.any_map, -List.all_map, -List.any_filter, -List.all_filter, -List.length_flatMap, -List.all_eq_true, -List.any_eq_true, -List.all_eq_false, -List.any_eq_false, d_least_stacks, b_least_stacks, l0, k5, rl, inner, -q_comp1, comp1_all (α := Int) (fun c => tI (usort (row.map fun k => ix (ix C k) c))), stacksL]
@[simp] theorem falls_I {c : List Int} {st : List (List Int)} (h : c.length ≤ 1000) : (md.Φ (n + 1) F_falls [.val (tI c), .val (tII st)]).v = .ok (.val (.bl (fallsB c st))) := by
  have h2 : (c.zip st).length ≤ 16777216 := by rw [List.length_zip]; omega
  rw [phi_v (d := d_falls) rfl rfl]
  simp -implicitDefEqProofs +contextual (disch := first | omega | (simp -implicitDefEqProofs +contextual (disch := first | omega | (simp -implicitDefEqProofs +contextual (disch := omega) [-List.map_map, -List.any_map, -List.all_map, -List.any_filter, -List.all_filter, -List.length_flatMap, -List.all_eq_true, -List.any_eq_true, -List.all_eq_false, -List.any_eq_false, d_falls, b_falls, h2, fallsB]; try omega; done)) [-List.map_map, -List.any_map, -List.all_map, -List.any_filter, -List.all_filter, -List.length_flatMap, -List.all_eq_true, -List.any_eq_true, -List.all_eq_false, -List.any_eq_false, d_falls, b_falls, h2, fallsB]; try omega; done)) [-List.map_map, -List.any_map, -List.all_map, -List.any_filter, -List.all_filter, -List.length_flatMap, -List.all_eq_true, -List.any_eq_true, -List.all_eq_false, -List.any_eq_false, d_falls, b_falls, h2, fallsB]
theorem do_fit_t {T : Tab} {o : Bool} {C : List (List Int)} {d : Int} (h : TOk T) (hc : COk T.1 d C) : md.Φ (n + 2) F_do_fit [tabR o T, .val (tII C)] = .ok (.val (.bl (fitB T C))) [some (tabR o T), some (.val (tII C))] := by
  have l := hc.len
  have k5 := hc.k5
  have r5 := h.r5
  have ol := outs_len h
  have k1 : ∀ r ∈ T.2, (md.Φ (n + 1) F_least_stacks [.val (tII C), .val (tI r)]).v = .ok (.val (tII (stacksL C r))) := fun r hr => least_stacks_II hc (h.rows r hr) h.m5
  have hq : ∀ x ∈ outsL T, (0 ≤ x.1 ∧ x.1 < C.length) ∧ 0 ≤ x.2 ∧ x.2 < T.2.length := fun x hx => by rw [mem_outs] at hx; omega
  have cl : ∀ x ∈ outsL T, (ix C x.1).length ≤ 1000 := fun x hx => by
    have := (hc.all _ (ix_mem (hq x hx).1.1 (hq x hx).1.2)).1
    omega
  have ex : ∀ x ∈ outsL T, ix (T.2.map (stacksL C)) x.2 = stacksL C (ix T.2 x.2) := fun x hx => ix_map (hq x hx).2.1 (hq x hx).2.2
  rw [phi_f (d := d_do_fit) rfl rfl]
  simp -implicitDefEqProofs +contextual (disch := first | omega | (simp -implicitDefEqProofs +contextual (disch := first | omega | (simp -implicitDefEqProofs +contextual (disch := omega) [-List.map_map, -List.any_map, -List.all_map, -List.any_filter, -List.all_filter, -List.length_flatMap, -List.all_eq_true, -List.any_eq_true, -List.all_eq_false, -List.any_eq_false, d_do_fit, b_do_fit, outsA, h, r5, ol, k1, hq, cl, ex, fitB, -q_comp1, comp1_all (α := List Int) (fun r => tII (stacksL C r)), -q_compP, compP_all (fun x => .bl (fallsB (ix C x.1) (stacksL C (ix T.2 x.2))))]; try omega; done)) [-List.map_map, -List.any_map, -List.all_map, -List.any_filter, -List.all_filter, -List.length_flatMap, -List.all_eq_true, -List.any_eq_true, -List.all_eq_false, -List.any_eq_false, d_do_fit, b_do_fit, outsA, h, r5, ol, k1, hq, cl, ex, fitB, -q_comp1, comp1_all (α := List Int) (fun r => tII (stacksL C r)), -q_compP, compP_all (fun x => .bl (fallsB (ix C x.1) (stacksL C (ix T.2 x.2))))]; try omega; done)) [-List.map_map, -List.any_map, -List.all_map, -List.any_filter, -List.all_filter, -List.length_flatMap, -List.all_eq_true, -List.any_eq_true, -List.all_eq_false, -List.any_eq_false, d_do_fit, b_do_fit, outsA, h, r5, ol, k1, hq, cl, ex, fitB, -q_comp1, comp1_all (α := List Int) (fun r => tII (stacksL C r)), -q_compP, compP_all (fun x => .bl (fallsB (ix C x.1) (stacksL C (ix T.2 x.2))))]
/-! the law's own -/
theorem law_fits_t {T : Tab} {b : Bool} {C : List (List Int)} {d : Int} (h : TOk T) (hc : COk T.1 d C) : (md.Φ (n + 3) F__law_fits [.val (encT T), .val (tII C), .val (.str (kindS b))]).v = .ok (.val (.bl (lawFitB T C b))) := by
  have l := hc.len
  have k5 := hc.k5
  have m5 := h.m5
  have m1 := h.m1
  have l0 : 0 < C.length := by omega
  have key : ∀ j, ∃ j', forE md.g (md.Φ (n + 2)) (.one 4) b__law_fits_L0 ((irange 0 (ix C 0).length).map .int) [some (.val (encT T)), some (.val (tII C)), some (.val (.str (kindS b))), some (.lst []), j, none, none] =
      .nx [some (.val (encT T)), some (.val (tII C)), some (.val (.str (kindS b))), some (.lst ((keptAll T C b).map pr)), j', none, none] := by
    intro j
    refine for_pre (E := fun p j => [some (.val (encT T)), some (.val (tII C)), some (.val (.str (kindS b))), some (.lst ((p.flatMap fun c => keptL T (col C c) b).map pr)), j, none, none]) ?_
    intro p cz q j e
    have hx := mem_mid e
    rw [mem_irange] at hx
    obtain ⟨x0, x1⟩ := hx
    have l2 := congrArg List.length e
    rw [len_irange, List.length_append, List.length_cons] at l2
    have l3 := keptAll_len (T := T) (C := C) (b := b) h (p := p)
    have l4 := kept_len (T := T) (p := col C cz) (b := b) h
    have cl : ∀ c ∈ C, cz < c.length := fun c hcc => by have := (hc.all c hcc).1; omega
    have k1 := law_kept_t (n := n) (b := b) (p := col C cz) h (by unfold col; rw [List.length_map]; exact l)
    have e1 : (C.map fun c => ix c cz) = col C cz := rfl
    refine ⟨_, some (.val (.int cz)), rfl, .inl ?_⟩
    simp -implicitDefEqProofs +contextual (disch := first | omega | (simp -implicitDefEqProofs +contextual (disch := first | omega | (simp -implicitDefEqProofs +contextual (disch := omega) [-List.map_map, -List.any_map, -List.all_map, -List.any_filter, -List.all_filter, -List.length_flatMap, -List.all_eq_true, -List.any_eq_true, -List.all_eq_false, -List.any_eq_false, b__law_fits_L0, x0, cl, k1, e1, -q_comp1, comp1_all (α := List Int) (fun c => .int (ix c cz))]; try omega; done)) [-List.map_map, -List.any_map, -List.all_map, -List.any_filter, -List.all_filter, -List.length_flatMap, -List.all_eq_true, -List.any_eq_true, -List.all_eq_false, -List.any_eq_false, b__law_fits_L0, x0, cl, k1, e1, -q_comp1, comp1_all (α := List Int) (fun c => .int (ix c cz))]; try omega; done)) [-List.map_map, -List.any_map, -List.all_map, -List.any_filter, -List.all_filter, -List.length_flatMap, -List.all_eq_true, -List.any_eq_true, -List.all_eq_false, -List.any_eq_false, b__law_fits_L0, x0, cl, k1, e1, -q_comp1, comp1_all (α := List Int) (fun c => .int (ix c cz))]
  obtain ⟨j', k⟩ := key none
  have ol := outs_len h
  rw [phi_v (d := d__law_fits) rfl rfl]
  simp -implicitDefEqProofs +contextual (disch := first | omega | (simp -implicitDefEqProofs +contextual (disch := first | omega | (simp -implicitDefEqProofs +contextual (disch := omega) [-List.map_map, -List.any_map, -List.all_map, -List.any_filter, -List.all_filter, -List.length_flatMap, -List.all_eq_true, -List.any_eq_true, -List.all_eq_false, -List.any_eq_false, d__law_fits, b__law_fits, h, k, l0, ol, lawFitB]; try omega; done)) [-List.map_map, -List.any_map, -List.all_map, -List.any_filter, -List.all_filter, -List.length_flatMap, -List.all_eq_true, -List.any_eq_true, -List.all_eq_false, -List.any_eq_false, d__law_fits, b__law_fits, h, k, l0, ol, lawFitB]; try omega; done)) [-List.map_map, -List.any_map, -List.all_map, -List.any_filter, -List.all_filter, -List.length_flatMap, -List.all_eq_true, -List.any_eq_true, -List.all_eq_false, -List.any_eq_false, d__law_fits, b__law_fits, h, k, l0, ol, lawFitB]
@[simp] theorem law_fits_p {T : Tab} {C : List (List Int)} {d : Int} (h : TOk T) (hc : COk T.1 d C) : (md.Φ (n + 3) F__law_fits [.val (encT T), .val (tII C), .val (.str "plain")]).v = .ok (.val (.bl (lawFitB T C true))) := law_fits_t (b := true) h hc
@[simp] theorem cuts_of_t {m d : Int} {P : List (List Int)} (h : POk m d P) (hm : 1 ≤ m) (m5 : m ≤ 5) : (md.Φ (n + 1) F__law_cuts_of [.val (tII P)]).v = .ok (.val (tII (cutsOf P))) := by
  have k1 := h.k1
  have k5 := h.k5
  have h2 : ((ix P 0).length : Int) = m := (h.all _ (ix_mem (by omega) (by omega))).1
  have inner : ∀ k : Int, 0 ≤ k → k < m → compE md.g (md.Φ n) (.idx (.var 2) (.var 1)) [2] (.one 2) .non (P.map tI) [some (.val (tII P)), some (.val (.int k)), none] =
      .ok (.lst ((col P k).map .int)) [some (.val (tII P)), some (.val (.int k)), none] := by
    intro k k0 k1
    have cl : ∀ p ∈ P, k < p.length := fun p hp => by have := (h.all p hp).1; omega
    have e1 : (P.map fun c => ix c k) = col P k := rfl
    simp -implicitDefEqProofs +contextual (disch := first | omega | (simp -implicitDefEqProofs +contextual (disch := first | omega | (simp -implicitDefEqProofs +contextual (disch := omega) [-List.map_map, -List.any_map, -List.all_map, -List.any_filter, -List.all_filter, -List.length_flatMap, -List.all_eq_true, -List.any_eq_true, -List.all_eq_false, -List.any_eq_false, k0, cl, e1, -q_comp1, comp1_all (α := List Int) (fun p => .int (ix p k))]; try omega; done)) [-List.map_map, -List.any_map, -List.all_map, -List.any_filter, -List.all_filter, -List.length_flatMap, -List.all_eq_true, -List.any_eq_true, -List.all_eq_false, -List.any_eq_false, k0, cl, e1, -q_comp1, comp1_all (α := List Int) (fun p => .int (ix p k))]; try omega; done)) [-List.map_map, -List.any_map, -List.all_map, -List.any_filter, -List.all_filter, -List.length_flatMap, -List.all_eq_true, -List.any_eq_true, -List.all_eq_false, -List.any_eq_false, k0, cl, e1, -q_comp1, comp1_all (α := List Int) (fun p => .int (ix p k))]
  have inner2 : ∀ k : Int, 0 ≤ k → k < (ix P 0).length → compE md.g (md.Φ n) (.idx (.var 2) (.var 1)) [2] (.one 2) .non (P.map tI) [some (.val (tII P)), some (.val (.int k)), none] =
      .ok (.lst ((col P k).map .int)) [some (.val (tII P)), some (.val (.int k)), none] := fun k a b => inner k a (by omega)
  rw [phi_v (d := d__law_cuts_of) rfl rfl]
  simp -implicitDefEqProofs +contextual (disch := first | omega | (simp -implicitDefEqProofs +contextual (disch := first | omega | (simp -implicitDefEqProofs +contextual (disch := omega) [-List.map_map, -List.any_map, -List.all_map, -List.any_filter, -List.all_filter, -List.length_flatMap, -List.all_eq_true, -List.any_eq_true, -List.all_eq_false, -List.any_eq_false, d__law_cuts_of, b__law_cuts_of, inner2, cutsOf, -q_comp1, comp1_all (α := Int) (fun k => tI (col P k))]; try omega; done)) [-List.map_map, -List.any_map, -List.all_map, -List.any_filter, -List.all_filter, -List.length_flatMap, -List.all_eq_true, -List.any_eq_true, -List.all_eq_false, -List.any_eq_false, d__law_cuts_of, b__law_cuts_of, inner2, cutsOf, -q_comp1, comp1_all (α := Int) (fun k => tI (col P k))]; try omega; done)) [-List.map_map, -List.any_map, -List.all_map, -List.any_filter, -List.all_filter, -List.length_flatMap, -List.all_eq_true, -List.any_eq_true, -List.all_eq_false, -List.any_eq_false, d__law_cuts_of, b__law_cuts_of, inner2, cutsOf, -q_comp1, comp1_all (α := Int) (fun k => tI (col P k))]
end KL
end
section
set_option linter.all false
set_option Elab.async false
set_option maxRecDepth 100000
set_option maxHeartbeats 400000
namespace KL
open Fx
variable {n : Nat}
/-! partings -/
theorem parts_L1 {m d : Int} {b : Bool} {F : List D} {kk : Option R} {rows : List (List Int)} (d2 : 2 ≤ d) (d4 : d ≤ 4) (hr : rows.length ≤ 256) (hl : ∀ r ∈ rows, r.length ≤ 4) (j : Option R × Option R) :
    ∃ j' : Option R × Option R, forE md.g (md.Φ n) (.one 6) b__law_partings_L1 (rows.map tI) [some (.val (.int m)), some (.val (.int d)), some (.val (.str (kindS b))), some (.val (.lst F)), kk, some (.lst []), j.1, j.2, none] =
      .nx [some (.val (.int m)), some (.val (.int d)), some (.val (.str (kindS b))), some (.val (.lst F)), kk, some (.lst ((rows.flatMap (growP d b)).map tI)), j'.1, j'.2, none] := by
  refine for_pre (J := Option R × Option R) (j := j) (E := fun p j => [some (.val (.int m)), some (.val (.int d)), some (.val (.str (kindS b))), some (.val (.lst F)), kk, some (.lst ((p.flatMap (growP d b)).map tI)), j.1, j.2, none]) ?_
  intro p row q j e
  have hx := hl row (mem_mid e)
  have l2 := congrArg List.length e
  rw [List.length_append, List.length_cons] at l2
  have tl := top_le (d := d) (b := b) (row := row)
  have l3 := flat_len (f := growP d b) (c := 4) (l := p) fun r _ => by
    unfold growP
    rw [List.length_map, len_irange]
    have := top_le (d := d) (b := b) (row := r)
    omega
  have t1 : topP d b row ≤ 1000000000 := by omega
  have e1 : growP d b row = (irange 0 (topP d b row)).map fun t => row ++ [t] := rfl
  have t2 : -1000000000 ≤ topP d b row := by
    unfold topP
    split
    · have := mx_ge (l := -1 :: row) (x := -1) (by simp)
      omega
    · omega
  refine ⟨_, (some (.val (tI row)), some (.val (.int (topP d b row)))), rfl, .inl ?_⟩
  cases b with
  | true =>
    have e2 : min d (mx (-1 :: row) + 2) = topP d true row := rfl
    simp -implicitDefEqProofs +contextual (disch := first | omega | (simp -implicitDefEqProofs +contextual (disch := first | omega | (simp -implicitDefEqProofs +contextual (disch := omega) [-List.map_map, -List.any_map, -List.all_map, -List.any_filter, -List.all_filter, -List.length_flatMap, -List.all_eq_true, -List.any_eq_true, -List.all_eq_false, -List.any_eq_false, b__law_partings_L1, s_pd, hx, e2, e1, t1, t2, -q_comp1, comp1_all (α := Int) (fun t => tI (row ++ [t]))]; try omega; done)) [-List.map_map, -List.any_map, -List.all_map, -List.any_filter, -List.all_filter, -List.length_flatMap, -List.all_eq_true, -List.any_eq_true, -List.all_eq_false, -List.any_eq_false, b__law_partings_L1, s_pd, hx, e2, e1, t1, t2, -q_comp1, comp1_all (α := Int) (fun t => tI (row ++ [t]))]; try omega; done)) [-List.map_map, -List.any_map, -List.all_map, -List.any_filter, -List.all_filter, -List.length_flatMap, -List.all_eq_true, -List.any_eq_true, -List.all_eq_false, -List.any_eq_false, b__law_partings_L1, s_pd, hx, e2, e1, t1, t2, -q_comp1, comp1_all (α := Int) (fun t => tI (row ++ [t]))]
  | false =>
    have e2 : topP d false row = d := rfl
    rw [e2] at e1
    simp -implicitDefEqProofs +contextual (disch := first | omega | (simp -implicitDefEqProofs +contextual (disch := first | omega | (simp -implicitDefEqProofs +contextual (disch := omega) [-List.map_map, -List.any_map, -List.all_map, -List.any_filter, -List.all_filter, -List.length_flatMap, -List.all_eq_true, -List.any_eq_true, -List.all_eq_false, -List.any_eq_false, b__law_partings_L1, s_dd, hx, e1, e2, -q_comp1, comp1_all (α := Int) (fun t => tI (row ++ [t]))]; try omega; done)) [-List.map_map, -List.any_map, -List.all_map, -List.any_filter, -List.all_filter, -List.length_flatMap, -List.all_eq_true, -List.any_eq_true, -List.all_eq_false, -List.any_eq_false, b__law_partings_L1, s_dd, hx, e1, e2, -q_comp1, comp1_all (α := Int) (fun t => tI (row ++ [t]))]; try omega; done)) [-List.map_map, -List.any_map, -List.all_map, -List.any_filter, -List.all_filter, -List.length_flatMap, -List.all_eq_true, -List.any_eq_true, -List.all_eq_false, -List.any_eq_false, b__law_partings_L1, s_dd, hx, e1, e2, -q_comp1, comp1_all (α := Int) (fun t => tI (row ++ [t]))]
theorem partings_t {m d : Int} {b : Bool} (m1 : 1 ≤ m) (m5 : m ≤ 5) (d2 : 2 ≤ d) (d4 : d ≤ 4) : (md.Φ (n + 1) F__law_partings [.val (.int m), .val (.int d), .val (.str (kindS b))]).v = .ok (.val (.lst ((partsL d b m.toNat).map tI))) := by
  have key := for_inv (g := md.g) (Φ := md.Φ n) (tg := .one 4) (body := b__law_partings_L0) (f := D.int) (xs := irange 0 m) (pre := [])
    (ρ := [some (.val (.int m)), some (.val (.int d)), some (.val (.str (kindS b))), some (.lst [D.tup []]), none, none, none, none, none])
    (I := fun p ρ => ∃ j4 j5 j6 j7 : Option R, ρ = [some (.val (.int m)), some (.val (.int d)), some (.val (.str (kindS b))), some (match p with
        | [] => R.lst [D.tup []]
        | _ :: _ => .val (.lst ((partsL d b p.length).map tI))), j4, j5, j6, j7, none]) (T := fun _ _ => False) (by
    rintro p z q _ e ⟨j4, j5, j6, j7, rfl⟩
    have hp : p.length < 5 := by
      have := congrArg List.length e
      simp at this; omega
    refine ⟨_, rfl, .inl ?_⟩
    have hr : (partsL d b p.length).length ≤ 256 := Nat.le_trans (parts_len d4) (Nat.le_trans (Nat.pow_le_pow_right (n := 4) (by omega) (show p.length ≤ 4 by omega)) (by decide))
    obtain ⟨j', k⟩ := parts_L1 (n := n) (m := m) (d := d) (b := b) (F := (partsL d b p.length).map tI) (kk := some (.val (.int z))) (rows := partsL d b p.length) d2 d4 hr (fun r h => by have := (parts_in h).1; omega) (j6, j7)
    refine ⟨[some (.val (.int m)), some (.val (.int d)), some (.val (.str (kindS b))), some (.val (.lst ((partsL d b (p ++ [z]).length).map tI))), some (.val (.int z)), some (.val (.lst ((partsL d b (p ++ [z]).length).map tI))), j'.1, j'.2, none], .inl ?_, ?_⟩
    · have e3 : ((partsL d b p.length).flatMap (growP d b)) = partsL d b (p ++ [z]).length := by rw [List.length_append]; rfl
      rw [e3] at k
      cases p with
      | nil =>
        have e4 : (partsL d b ([] : List Int).length).map tI = [D.tup []] := rfl
        rw [e4] at k
        simp -implicitDefEqProofs +contextual (disch := first | omega | (simp -implicitDefEqProofs +contextual (disch := first | omega | (simp -implicitDefEqProofs +contextual (disch := omega) [-List.map_map, -List.any_map, -List.all_map, -List.any_filter, -List.all_filter, -List.length_flatMap, -List.all_eq_true, -List.any_eq_true, -List.all_eq_false, -List.any_eq_false, b__law_partings_L0, k]; try omega; done)) [-List.map_map, -List.any_map, -List.all_map, -List.any_filter, -List.all_filter, -List.length_flatMap, -List.all_eq_true, -List.any_eq_true, -List.all_eq_false, -List.any_eq_false, b__law_partings_L0, k]; try omega; done)) [-List.map_map, -List.any_map, -List.all_map, -List.any_filter, -List.all_filter, -List.length_flatMap, -List.all_eq_true, -List.any_eq_true, -List.all_eq_false, -List.any_eq_false, b__law_partings_L0, k]
      | cons y p =>
        simp only [List.length_cons, List.length_append, List.length_nil, Nat.zero_add] at k
        simp -implicitDefEqProofs +contextual (disch := first | omega | (simp -implicitDefEqProofs +contextual (disch := first | omega | (simp -implicitDefEqProofs +contextual (disch := omega) [-List.map_map, -List.any_map, -List.all_map, -List.any_filter, -List.all_filter, -List.length_flatMap, -List.all_eq_true, -List.any_eq_true, -List.all_eq_false, -List.any_eq_false, b__law_partings_L0, k]; try omega; done)) [-List.map_map, -List.any_map, -List.all_map, -List.any_filter, -List.all_filter, -List.length_flatMap, -List.all_eq_true, -List.any_eq_true, -List.all_eq_false, -List.any_eq_false, b__law_partings_L0, k]; try omega; done)) [-List.map_map, -List.any_map, -List.all_map, -List.any_filter, -List.all_filter, -List.length_flatMap, -List.all_eq_true, -List.any_eq_true, -List.all_eq_false, -List.any_eq_false, b__law_partings_L0, k]
    · refine ⟨some (.val (.int z)), some (.val (.lst ((partsL d b (p ++ [z]).length).map tI))), j'.1, j'.2, ?_⟩
      cases p <;> rfl) ⟨none, none, none, none, rfl⟩
  rcases key with ⟨_, ke, j4, j5, j6, j7, rfl⟩ | ⟨_, _, _, f⟩
  · have e5 : irange 0 m = 0 :: irange (0 + 1) m := irange_succ (by omega)
    have e6 : (irange 0 m).length = m.toNat := by rw [len_irange]; omega
    have e7 : (match ([] ++ irange 0 m : List Int) with
        | [] => R.lst [D.tup []]
        | _ :: _ => .val (.lst ((partsL d b ([] ++ irange 0 m : List Int).length).map tI))) = .val (.lst ((partsL d b m.toNat).map tI)) := by
      rw [List.nil_append, e6, e5]
    rw [e7] at ke
    rw [phi_v (d := d__law_partings) rfl rfl]
    simp -implicitDefEqProofs +contextual (disch := first | omega | (simp -implicitDefEqProofs +contextual (disch := first | omega | (simp -implicitDefEqProofs +contextual (disch := omega) [-List.map_map, -List.any_map, -List.all_map, -List.any_filter, -List.all_filter, -List.length_flatMap, -List.all_eq_true, -List.any_eq_true, -List.all_eq_false, -List.any_eq_false, d__law_partings, b__law_partings, ke]; try omega; done)) [-List.map_map, -List.any_map, -List.all_map, -List.any_filter, -List.all_filter, -List.length_flatMap, -List.all_eq_true, -List.any_eq_true, -List.all_eq_false, -List.any_eq_false, d__law_partings, b__law_partings, ke]; try omega; done)) [-List.map_map, -List.any_map, -List.all_map, -List.any_filter, -List.all_filter, -List.length_flatMap, -List.all_eq_true, -List.any_eq_true, -List.all_eq_false, -List.any_eq_false, d__law_partings, b__law_partings, ke]
  · exact f.elim
end KL
end
section
set_option linter.all false
set_option Elab.async false
set_option maxRecDepth 100000
set_option maxHeartbeats 400000
namespace KL
open Fx
variable {n : Nat}
/-! greatest sets -/
abbrev dS (s : List Ent) : R := .dct ((s.map (·.1)).map tP) ((s.map (·.2)).map tI)
theorem best_L1 {T : Tab} {d : Int} {b : Bool} {ps : List (List Int)} (h : TOk T) (hp : ∀ p ∈ ps, (p.length : Int) = T.1) (hl : ps.length ≤ 1024) (j : Option R × Option R) : ∃ j' : Option R × Option R, forE md.g (md.Φ (n + 2)) (.one 4) b__law_best_kept_L1 (ps.map tI) [some (.val (encT T)), some (.val (.int d)), some (.val (.str (kindS b))), some (.dct [] []), j.1, none, none, j.2, none, none] =
    .nx [some (.val (encT T)), some (.val (.int d)), some (.val (.str (kindS b))), some (dS (seenL T b ps)), j'.1, none, none, j'.2, none, none] := by
  refine for_pre (J := Option R × Option R) (j := j) (E := fun p j => [some (.val (encT T)), some (.val (.int d)), some (.val (.str (kindS b))), some (dS (seenL T b p)), j.1, none, none, j.2, none, none]) ?_
  intro p pa q j e
  have k1 := law_kept_t (n := n) (b := b) h (hp pa (mem_mid e))
  have l2 := congrArg List.length e
  rw [List.length_append, List.length_cons] at l2
  have l3 := seen_len (T := T) (b := b) (ps := p)
  refine ⟨_, (some (.val (tI pa)), some (.val (tP (keptL T pa b)))), rfl, .inl ?_⟩
  rw [seen_app]
  by_cases hm : keptL T pa b ∈ (seenL T b p).map (·.1)
  · simp -implicitDefEqProofs +contextual (disch := first | omega | (simp -implicitDefEqProofs +contextual (disch := first | omega | (simp -implicitDefEqProofs +contextual (disch := omega) [-List.map_map, -List.any_map, -List.all_map, -List.any_filter, -List.all_filter, -List.length_flatMap, -List.all_eq_true, -List.any_eq_true, -List.all_eq_false, -List.any_eq_false, b__law_best_kept_L1, k1, stepS, hm, -List.mem_map]; try omega; done)) [-List.map_map, -List.any_map, -List.all_map, -List.any_filter, -List.all_filter, -List.length_flatMap, -List.all_eq_true, -List.any_eq_true, -List.all_eq_false, -List.any_eq_false, b__law_best_kept_L1, k1, stepS, hm, -List.mem_map]; try omega; done)) [-List.map_map, -List.any_map, -List.all_map, -List.any_filter, -List.all_filter, -List.length_flatMap, -List.all_eq_true, -List.any_eq_true, -List.all_eq_false, -List.any_eq_false, b__law_best_kept_L1, k1, stepS, hm, -List.mem_map]
  · simp -implicitDefEqProofs +contextual (disch := first | omega | (simp -implicitDefEqProofs +contextual (disch := first | omega | (simp -implicitDefEqProofs +contextual (disch := omega) [-List.map_map, -List.any_map, -List.all_map, -List.any_filter, -List.all_filter, -List.length_flatMap, -List.all_eq_true, -List.any_eq_true, -List.all_eq_false, -List.any_eq_false, b__law_best_kept_L1, k1, stepS, hm, -List.mem_map]; try omega; done)) [-List.map_map, -List.any_map, -List.all_map, -List.any_filter, -List.all_filter, -List.length_flatMap, -List.all_eq_true, -List.any_eq_true, -List.all_eq_false, -List.any_eq_false, b__law_best_kept_L1, k1, stepS, hm, -List.mem_map]; try omega; done)) [-List.map_map, -List.any_map, -List.all_map, -List.any_filter, -List.all_filter, -List.length_flatMap, -List.all_eq_true, -List.any_eq_true, -List.all_eq_false, -List.any_eq_false, b__law_best_kept_L1, k1, stepS, hm, -List.mem_map]
theorem best_L0 {T : Tab} {d : Int} {b : Bool} {s : List Ent} {every : List (List (Int × Int))} {j4 j7 : Option R} (he : every.length ≤ 1024) (hk : ∀ k ∈ every, k.length ≤ 25) (hs : ∀ k ∈ every, k ∈ s.map (·.1)) :
    ∃ (fs : List Ent) (j7' : Option R), fs.map (·.1) = every.filter (topB every) ∧ (∀ e ∈ fs, e ∈ s) ∧
      forE md.g (md.Φ n) (.one 7) b__law_best_kept_L0 (every.map tP) [some (.val (encT T)), some (.val (.int d)), some (.val (.str (kindS b))), some (dS s), j4, some (.val (.lst (every.map tP))), some (.lst []), j7, none, none] =
        .nx [some (.val (encT T)), some (.val (.int d)), some (.val (.str (kindS b))), some (dS s), j4, some (.val (.lst (every.map tP))), some (.lst (fs.map encB)), j7', none, none] := by
  have key := for_inv (g := md.g) (Φ := md.Φ n) (tg := .one 7) (body := b__law_best_kept_L0) (f := tP) (xs := every) (pre := [])
    (ρ := [some (.val (encT T)), some (.val (.int d)), some (.val (.str (kindS b))), some (dS s), j4, some (.val (.lst (every.map tP))), some (.lst []), j7, none, none])
    (I := fun p ρ => ∃ (fs : List Ent) (j7 : Option R), fs.map (·.1) = p.filter (topB every) ∧ (∀ e ∈ fs, e ∈ s) ∧
      ρ = [some (.val (encT T)), some (.val (.int d)), some (.val (.str (kindS b))), some (dS s), j4, some (.val (.lst (every.map tP))), some (.lst (fs.map encB)), j7, none, none]) (T := fun _ _ => False) (by
    rintro p kp q _ e ⟨fs, j7, f1, f2, rfl⟩
    have hm : kp ∈ every := mem_mid (p := p) (q := q) (by simpa using e)
    have l2 := congrArg List.length e
    rw [List.length_append, List.length_append, List.length_cons, List.length_nil] at l2
    have l3 := congrArg List.length f1
    rw [List.length_map] at l3
    have l4 := List.length_filter_le (topB every) p
    have l5 := hk kp hm
    refine ⟨_, rfl, .inl ?_⟩
    obtain ⟨en, e1, e2, e3⟩ := get_tP (f := tI) (hs kp hm)
    have ce : compE md.g (md.Φ n) (.var 8) [8] (.one 8) (.som (.bop true (.cons (.cmp .Gt (.cb .len (.cons (.var 8) .nil)) (.cb .len (.cons (.var 7) .nil))) (.cons (.cmp .Eq (.comp (.var 9) [9] (.one 9) (.seq (.var 7)) (.som (.cmp .NotIn (.var 9) (.var 8)))) (.lst .nil)) .nil)))) (every.map tP)
        [some (.val (encT T)), some (.val (.int d)), some (.val (.str (kindS b))), some (dS s), j4, some (.val (.lst (every.map tP))), some (.lst (fs.map encB)), some (.val (tP kp)), none, none] =
        .ok (.lst ((every.filter fun o => decide (kp.length < o.length) && subB kp o).map tP)) [some (.val (encT T)), some (.val (.int d)), some (.val (.str (kindS b))), some (dS s), j4, some (.val (.lst (every.map tP))), some (.lst (fs.map encB)), some (.val (tP kp)), none, none] := by
      have he2 : every.length ≤ 16777216 := by omega
      have l52 : kp.length ≤ 16777216 := by omega
      refine comp1_of (fun o => decide (kp.length < o.length) && subB kp o) tP ?_ he2 ?_ ?_
      · simp
      · intro o ho
        have l6 := hk o ho
        simp -implicitDefEqProofs +contextual (disch := first | omega | (simp -implicitDefEqProofs +contextual (disch := first | omega | (simp -implicitDefEqProofs +contextual (disch := omega) [-List.map_map, -List.any_map, -List.all_map, -List.any_filter, -List.all_filter, -List.length_flatMap, -List.all_eq_true, -List.any_eq_true, -List.all_eq_false, -List.any_eq_false, subB, l52]; try omega; done)) [-List.map_map, -List.any_map, -List.all_map, -List.any_filter, -List.all_filter, -List.length_flatMap, -List.all_eq_true, -List.any_eq_true, -List.all_eq_false, -List.any_eq_false, subB, l52]; try omega; done)) [-List.map_map, -List.any_map, -List.all_map, -List.any_filter, -List.all_filter, -List.length_flatMap, -List.all_eq_true, -List.any_eq_true, -List.all_eq_false, -List.any_eq_false, subB, l52]
      · intro o ho _
        rfl
    by_cases ht : topB every kp = true
    · refine ⟨[some (.val (encT T)), some (.val (.int d)), some (.val (.str (kindS b))), some (dS s), j4, some (.val (.lst (every.map tP))), some (.lst ((fs ++ [en]).map encB)), some (.val (tP kp)), none, none], .inl ?_, fs ++ [en], some (.val (tP kp)), ?_, ?_, rfl⟩
      · unfold topB at ht
        simp -implicitDefEqProofs +contextual (disch := first | omega | (simp -implicitDefEqProofs +contextual (disch := first | omega | (simp -implicitDefEqProofs +contextual (disch := omega) [-List.map_map, -List.any_map, -List.all_map, -List.any_filter, -List.all_filter, -List.length_flatMap, -List.all_eq_true, -List.any_eq_true, -List.all_eq_false, -List.any_eq_false, b__law_best_kept_L0, ce, e3, ht, -List.isEmpty_iff, -List.filter_eq_nil_iff, encB, e2]; try omega; done)) [-List.map_map, -List.any_map, -List.all_map, -List.any_filter, -List.all_filter, -List.length_flatMap, -List.all_eq_true, -List.any_eq_true, -List.all_eq_false, -List.any_eq_false, b__law_best_kept_L0, ce, e3, ht, -List.isEmpty_iff, -List.filter_eq_nil_iff, encB, e2]; try omega; done)) [-List.map_map, -List.any_map, -List.all_map, -List.any_filter, -List.all_filter, -List.length_flatMap, -List.all_eq_true, -List.any_eq_true, -List.all_eq_false, -List.any_eq_false, b__law_best_kept_L0, ce, e3, ht, -List.isEmpty_iff, -List.filter_eq_nil_iff, encB, e2]
      · rw [filt_app, if_pos ht, List.map_append, f1]
        simp [e2]
      · intro x hx
        rcases List.mem_append.mp hx with hx | hx
        · exact f2 x hx
        · rw [List.mem_singleton.mp hx]; exact e1
    · refine ⟨[some (.val (encT T)), some (.val (.int d)), some (.val (.str (kindS b))), some (dS s), j4, some (.val (.lst (every.map tP))), some (.lst (fs.map encB)), some (.val (tP kp)), none, none], .inl ?_, fs, some (.val (tP kp)), ?_, f2, rfl⟩
      · unfold topB at ht
        simp -implicitDefEqProofs +contextual (disch := first | omega | (simp -implicitDefEqProofs +contextual (disch := first | omega | (simp -implicitDefEqProofs +contextual (disch := omega) [-List.map_map, -List.any_map, -List.all_map, -List.any_filter, -List.all_filter, -List.length_flatMap, -List.all_eq_true, -List.any_eq_true, -List.all_eq_false, -List.any_eq_false, b__law_best_kept_L0, ce, e3, ht, -List.isEmpty_iff, -List.filter_eq_nil_iff, encB]; try omega; done)) [-List.map_map, -List.any_map, -List.all_map, -List.any_filter, -List.all_filter, -List.length_flatMap, -List.all_eq_true, -List.any_eq_true, -List.all_eq_false, -List.any_eq_false, b__law_best_kept_L0, ce, e3, ht, -List.isEmpty_iff, -List.filter_eq_nil_iff, encB]; try omega; done)) [-List.map_map, -List.any_map, -List.all_map, -List.any_filter, -List.all_filter, -List.length_flatMap, -List.all_eq_true, -List.any_eq_true, -List.all_eq_false, -List.any_eq_false, b__law_best_kept_L0, ce, e3, ht, -List.isEmpty_iff, -List.filter_eq_nil_iff, encB]
      · rw [filt_app, if_neg ht, f1]) ⟨[], j7, rfl, by simp, rfl⟩
  rcases key with ⟨_, ke, fs, j7', f1, f2, rfl⟩ | ⟨_, _, _, f⟩
  · exact ⟨fs, j7', by simpa using f1, f2, ke⟩
  · exact f.elim
theorem best_kept_t {T : Tab} {d : Int} {b : Bool} (h : TOk T) (d2 : 2 ≤ d) (d4 : d ≤ 4) : ∃ best, BestOk T d b best ∧ (md.Φ (n + 3) F__law_best_kept [.val (encT T), .val (.int d), .val (.str (kindS b))]).v = .ok (.lst (best.map encB)) := by
  have m1 := h.m1
  have m5 := h.m5
  have k1 := partings_t (n := n + 1) (b := b) m1 m5 d2 d4
  have pl := parts_1024 (d := d) (b := b) (n := T.1.toNat) d4 (by omega)
  obtain ⟨j', k2⟩ := best_L1 (n := n) (d := d) (b := b) (ps := partsL d b T.1.toNat) h (fun p hp => by have := (parts_in hp).1; omega) pl (none, none)
  obtain ⟨l, pz⟩ := parts_zero (d := d) (b := b) (by omega) (n := T.1.toNat)
  obtain ⟨s, ps⟩ := seen_first (T := T) (b := b) (p := List.replicate T.1.toNat 0) (ps := l)
  rw [kept_zero h] at ps
  have sl := seen_len (T := T) (b := b) (ps := partsL d b T.1.toNat)
  have ek : (seenL T b (partsL d b T.1.toNat)).map (·.1) = [] :: s.map (·.1) := by rw [pz, ps]; rfl
  obtain ⟨every, pe, ee⟩ := sort_tP (ks := s.map (·.1)) (by
    have := congrArg List.length ek
    simp at this ⊢; omega)
  rw [← ek] at pe ee
  have le := pe.length_eq
  rw [List.length_map] at le
  obtain ⟨fs, j7', f1, f2, k3⟩ := best_L0 (n := n + 2) (T := T) (d := d) (b := b) (s := seenL T b (partsL d b T.1.toNat)) (every := every) (j4 := j'.1) (j7 := j'.2) (by omega) (fun k hk => by
    have := pe.mem_iff.mp hk
    rw [List.mem_map] at this
    obtain ⟨e, he, rfl⟩ := this
    rw [(seen_is e he).1]
    exact kept_len h) (fun k hk => pe.mem_iff.mp hk)
  refine ⟨fs, best_of h d4 pe f1 f2, ?_⟩
  rw [phi_v (d := d__law_best_kept) rfl rfl]
  simp -implicitDefEqProofs +contextual (disch := first | omega | (simp -implicitDefEqProofs +contextual (disch := first | omega | (simp -implicitDefEqProofs +contextual (disch := omega) [-List.map_map, -List.any_map, -List.all_map, -List.any_filter, -List.all_filter, -List.length_flatMap, -List.all_eq_true, -List.any_eq_true, -List.all_eq_false, -List.any_eq_false, d__law_best_kept, b__law_best_kept, k1, k2, k3, ee]; try omega; done)) [-List.map_map, -List.any_map, -List.all_map, -List.any_filter, -List.all_filter, -List.length_flatMap, -List.all_eq_true, -List.any_eq_true, -List.all_eq_false, -List.any_eq_false, d__law_best_kept, b__law_best_kept, k1, k2, k3, ee]; try omega; done)) [-List.map_map, -List.any_map, -List.all_map, -List.any_filter, -List.all_filter, -List.length_flatMap, -List.all_eq_true, -List.any_eq_true, -List.all_eq_false, -List.any_eq_false, d__law_best_kept, b__law_best_kept, k1, k2, k3, ee]
end KL
end
section
set_option linter.all false
set_option Elab.async false
set_option maxRecDepth 100000
set_option maxHeartbeats 400000
namespace KL
open Fx
variable {n : Nat}
/-! the fewest chambers -/
/-- the names within a round -/
abbrev envF (T : Tab) (d : Int) (b : Bool) (o3 : Bool) (best : List Ent) (rows : List RowE) (k : Int) (new : List RowE) (vs : List D) (j8 j9 j10 j11 j12 : Option R) : Env :=
  [some (.val (encT T)), some (.val (.int d)), some (.val (.str (kindS b))), some (lsR o3 (best.map encB)), some (.val (.lst (rows.map encR))), some (.val (.int k)),
    some (.dct ((new.map (·.1)).map tP) vs), some (.lst (new.map encR)), j8, j9, j10, j11, j12, none]
/-- what a round has made so far -/
structure NewOk (T : Tab) (d : Int) (b : Bool) (k : Nat) (new : List RowE) : Prop where
  nd : (new.map (·.1)).Nodup
  row : ∀ r ∈ new, FRow T d b k r
  ne : ∀ r ∈ new, r.1 ≠ []
theorem NewOk.nil {T : Tab} {d : Int} {b : Bool} {k : Nat} : NewOk T d b k [] := ⟨by simp, by simp, by simp⟩
def FineR (T : Tab) (d : Int) (b : Bool) (r : R) : Prop := ∃ ps, Fine T d b ps ∧ r = .val (.tup [.int ps.length, tII ps])
theorem few_L2 {T : Tab} {d : Int} {b : Bool} {best : List Ent} {rows : List RowE} {k : Nat} {r : RowE} {new : List RowE} {vs : List D} {j10 j11 j12 : Option R} (hT : TOk T) (hb : BestOk T d b best) (hr : FRow T d b k r) (hk : (k : Int) < T.1) (hn : NewOk T d b (k + 1) new) :
    (∃ new' vs' j10' j11' j12', NewOk T d b (k + 1) new' ∧ (∀ x ∈ new.map (·.1), x ∈ new'.map (·.1)) ∧ (∀ e ∈ best, restF r.1 e ∈ new'.map (·.1)) ∧
      forE md.g (md.Φ n) (.many [10, 11]) b__law_fewest_L2 (best.map encB) (envF T d b false best rows (k + 1) new vs (some (.val (tP r.1))) (some (.val (tII r.2))) j10 j11 j12) =
        .nx (envF T d b false best rows (k + 1) new' vs' (some (.val (tP r.1))) (some (.val (tII r.2))) j10' j11' j12')) ∨
    ∃ v ρ2, forE md.g (md.Φ n) (.many [10, 11]) b__law_fewest_L2 (best.map encB) (envF T d b false best rows (k + 1) new vs (some (.val (tP r.1))) (some (.val (tII r.2))) j10 j11 j12) = .rt v ρ2 ∧ FineR T d b v := by
  have key := for_inv (g := md.g) (Φ := md.Φ n) (tg := .many [10, 11]) (body := b__law_fewest_L2) (f := encB) (xs := best) (pre := [])
    (ρ := envF T d b false best rows (k + 1) new vs (some (.val (tP r.1))) (some (.val (tII r.2))) j10 j11 j12)
    (I := fun p ρ => ∃ new' vs' j10' j11' j12', NewOk T d b (k + 1) new' ∧ (∀ x ∈ new.map (·.1), x ∈ new'.map (·.1)) ∧ (∀ e ∈ p, restF r.1 e ∈ new'.map (·.1)) ∧ ρ = envF T d b false best rows (k + 1) new' vs' (some (.val (tP r.1))) (some (.val (tII r.2))) j10' j11' j12')
    (T := fun v _ => FineR T d b v) (by
    rintro p en q _ e ⟨new', vs', j10', j11', j12', n1, n2, n3, rfl⟩
    have hm : en ∈ best := mem_mid (p := p) (q := q) (by simpa using e)
    have ro := rest_ok hb hr hm
    have l1 := ro.len
    have l2 := hT.m5
    have l3 := rows_len hT n1.row n1.nd
    have l4 := hr.sub.length_le
    have l5 := outs_20 hT
    have l6 := hr.len
    have er : (r.1.filter fun q => !decide (q ∈ en.1)) = restF r.1 en := rfl
    refine ⟨_, rfl, ?_⟩
    by_cases h0 : restF r.1 en = []
    · refine .inr ⟨.val (.tup [.int (r.2 ++ [en.2]).length, tII (r.2 ++ [en.2])]), envF T d b false best rows (k + 1) new' vs' (some (.val (tP r.1))) (some (.val (tII r.2))) (some (.val (tP en.1))) (some (.val (tI en.2))) (some (.val (tP []))), ?_, _, rest_fine hb hr hm h0 hk, rfl⟩
      rw [l1]
      simp -implicitDefEqProofs +contextual (disch := first | omega | (simp -implicitDefEqProofs +contextual (disch := first | omega | (simp -implicitDefEqProofs +contextual (disch := omega) [-List.map_map, -List.any_map, -List.all_map, -List.any_filter, -List.all_filter, -List.length_flatMap, -List.all_eq_true, -List.any_eq_true, -List.all_eq_false, -List.any_eq_false, b__law_fewest_L2, encB, er, h0]; try omega; done)) [-List.map_map, -List.any_map, -List.all_map, -List.any_filter, -List.all_filter, -List.length_flatMap, -List.all_eq_true, -List.any_eq_true, -List.all_eq_false, -List.any_eq_false, b__law_fewest_L2, encB, er, h0]; try omega; done)) [-List.map_map, -List.any_map, -List.all_map, -List.any_filter, -List.all_filter, -List.length_flatMap, -List.all_eq_true, -List.any_eq_true, -List.all_eq_false, -List.any_eq_false, b__law_fewest_L2, encB, er, h0]
      rfl
    · refine .inl ?_
      by_cases hin : restF r.1 en ∈ new'.map (·.1)
      · refine ⟨envF T d b false best rows (k + 1) new' vs' (some (.val (tP r.1))) (some (.val (tII r.2))) (some (.val (tP en.1))) (some (.val (tI en.2))) (some (.val (tP (restF r.1 en)))), .inl ?_, new', vs', _, _, _, n1, n2, ?_, rfl⟩
        · simp -implicitDefEqProofs +contextual (disch := first | omega | (simp -implicitDefEqProofs +contextual (disch := first | omega | (simp -implicitDefEqProofs +contextual (disch := omega) [-List.map_map, -List.any_map, -List.all_map, -List.any_filter, -List.all_filter, -List.length_flatMap, -List.all_eq_true, -List.any_eq_true, -List.all_eq_false, -List.any_eq_false, b__law_fewest_L2, encB, er, h0, hin, -List.mem_map]; try omega; done)) [-List.map_map, -List.any_map, -List.all_map, -List.any_filter, -List.all_filter, -List.length_flatMap, -List.all_eq_true, -List.any_eq_true, -List.all_eq_false, -List.any_eq_false, b__law_fewest_L2, encB, er, h0, hin, -List.mem_map]; try omega; done)) [-List.map_map, -List.any_map, -List.all_map, -List.any_filter, -List.all_filter, -List.length_flatMap, -List.all_eq_true, -List.any_eq_true, -List.all_eq_false, -List.any_eq_false, b__law_fewest_L2, encB, er, h0, hin, -List.mem_map]
        · intro x hx
          rcases List.mem_append.mp hx with hx | hx
          · exact n3 x hx
          · rw [List.mem_singleton.mp hx]; exact hin
      · refine ⟨envF T d b false best rows (k + 1) (new' ++ [(restF r.1 en, r.2 ++ [en.2])]) (vs' ++ [.bl true]) (some (.val (tP r.1))) (some (.val (tII r.2))) (some (.val (tP en.1))) (some (.val (tI en.2))) (some (.val (tP (restF r.1 en)))), .inl ?_, _, _, _, _, _, ⟨?_, ?_, ?_⟩, ?_, ?_, rfl⟩
        · simp -implicitDefEqProofs +contextual (disch := first | omega | (simp -implicitDefEqProofs +contextual (disch := first | omega | (simp -implicitDefEqProofs +contextual (disch := omega) [-List.map_map, -List.any_map, -List.all_map, -List.any_filter, -List.all_filter, -List.length_flatMap, -List.all_eq_true, -List.any_eq_true, -List.all_eq_false, -List.any_eq_false, b__law_fewest_L2, encB, er, h0, hin, -List.mem_map]; try omega; done)) [-List.map_map, -List.any_map, -List.all_map, -List.any_filter, -List.all_filter, -List.length_flatMap, -List.all_eq_true, -List.any_eq_true, -List.all_eq_false, -List.any_eq_false, b__law_fewest_L2, encB, er, h0, hin, -List.mem_map]; try omega; done)) [-List.map_map, -List.any_map, -List.all_map, -List.any_filter, -List.all_filter, -List.length_flatMap, -List.all_eq_true, -List.any_eq_true, -List.all_eq_false, -List.any_eq_false, b__law_fewest_L2, encB, er, h0, hin, -List.mem_map]
          rfl
        · rw [List.map_append, List.nodup_append]
          refine ⟨n1.nd, by simp, ?_⟩
          intro a ha c hc eq
          subst eq
          simp only [List.map_cons, List.map_nil, List.mem_singleton] at hc
          subst hc
          exact hin ha
        · intro x hx
          rcases List.mem_append.mp hx with hx | hx
          · exact n1.row x hx
          · rw [List.mem_singleton.mp hx]; exact ro
        · intro x hx
          rcases List.mem_append.mp hx with hx | hx
          · exact n1.ne x hx
          · rw [List.mem_singleton.mp hx]; exact h0
        · intro x hx
          rw [List.map_append]
          exact List.mem_append.mpr (.inl (n2 x hx))
        · intro x hx
          rw [List.map_append]
          rcases List.mem_append.mp hx with hx | hx
          · exact List.mem_append.mpr (.inl (n3 x hx))
          · rw [List.mem_singleton.mp hx]; exact List.mem_append.mpr (.inr (by simp))) ⟨new, vs, _, _, _, hn, fun _ h => h, by simp, rfl⟩
  rcases key with ⟨_, ke, new', vs', j10', j11', j12', n1, n2, n3, rfl⟩ | ⟨v, ρ2, ke, hv⟩
  · exact .inl ⟨new', vs', j10', j11', j12', n1, n2, by simpa using n3, ke⟩
  · exact .inr ⟨v, ρ2, ke, hv⟩
theorem few_L1 {T : Tab} {d : Int} {b o3 : Bool} {best : List Ent} {rows : List RowE} {k : Nat} {j8 j9 j10 j11 j12 : Option R} (hT : TOk T) (hb : BestOk T d b best) (hr : ∀ r ∈ rows, FRow T d b k r) (hk : (k : Int) < T.1) :
    (∃ (new : List RowE) (vs : List D) (o3' : Bool) (j8' j9' j10' j11' j12' : Option R), NewOk T d b (k + 1) new ∧ (∀ r ∈ rows, ∀ e ∈ best, restF r.1 e ∈ new.map (·.1)) ∧
      forE md.g (md.Φ n) (.many [8, 9]) b__law_fewest_L1 (rows.map encR) [some (.val (encT T)), some (.val (.int d)), some (.val (.str (kindS b))), some (lsR o3 (best.map encB)), some (.val (.lst (rows.map encR))), some (.val (.int (k + 1))), some (.dct [] []), some (.lst []), j8, j9, j10, j11, j12, none] =
        .nx (envF T d b o3' best rows (k + 1) new vs j8' j9' j10' j11' j12')) ∨
    ∃ v ρ2, forE md.g (md.Φ n) (.many [8, 9]) b__law_fewest_L1 (rows.map encR) [some (.val (encT T)), some (.val (.int d)), some (.val (.str (kindS b))), some (lsR o3 (best.map encB)), some (.val (.lst (rows.map encR))), some (.val (.int (k + 1))), some (.dct [] []), some (.lst []), j8, j9, j10, j11, j12, none] = .rt v ρ2 ∧ FineR T d b v := by
  have key := for_inv (g := md.g) (Φ := md.Φ n) (tg := .many [8, 9]) (body := b__law_fewest_L1) (f := encR) (xs := rows) (pre := [])
    (ρ := envF T d b o3 best rows (k + 1) [] [] j8 j9 j10 j11 j12)
    (I := fun p ρ => ∃ (new : List RowE) (vs : List D) (o3' : Bool) (j8' j9' j10' j11' j12' : Option R), NewOk T d b (k + 1) new ∧ (∀ r ∈ p, ∀ e ∈ best, restF r.1 e ∈ new.map (·.1)) ∧ ρ = envF T d b o3' best rows (k + 1) new vs j8' j9' j10' j11' j12')
    (T := fun v _ => FineR T d b v) (by
    rintro p r q _ e ⟨new, vs, o3', j8', j9', j10', j11', j12', n1, n2, rfl⟩
    have hm : r ∈ rows := mem_mid (p := p) (q := q) (by simpa using e)
    have k2 := few_L2 (n := n) (rows := rows) (vs := vs) (j10 := j10') (j11 := j11') (j12 := j12') hT hb (hr r hm) hk n1
    refine ⟨_, rfl, ?_⟩
    rcases k2 with ⟨new', vs', i10, i11, i12, m1, m2, m3, ke⟩ | ⟨v, ρ2, ke, hv⟩
    · refine .inl ⟨envF T d b false best rows (k + 1) new' vs' (some (.val (tP r.1))) (some (.val (tII r.2))) i10 i11 i12, .inl ?_, new', vs', false, _, _, _, _, _, m1, ?_, rfl⟩
      · have e1 : lsR false (best.map encB) = .val (.lst (best.map encB)) := rfl
        unfold envF at ke ⊢
        rw [e1] at ke ⊢
        simp -implicitDefEqProofs +contextual (disch := first | omega | (simp -implicitDefEqProofs +contextual (disch := first | omega | (simp -implicitDefEqProofs +contextual (disch := omega) [-List.map_map, -List.any_map, -List.all_map, -List.any_filter, -List.all_filter, -List.length_flatMap, -List.all_eq_true, -List.any_eq_true, -List.all_eq_false, -List.any_eq_false, b__law_fewest_L1, ke, encR]; try omega; done)) [-List.map_map, -List.any_map, -List.all_map, -List.any_filter, -List.all_filter, -List.length_flatMap, -List.all_eq_true, -List.any_eq_true, -List.all_eq_false, -List.any_eq_false, b__law_fewest_L1, ke, encR]; try omega; done)) [-List.map_map, -List.any_map, -List.all_map, -List.any_filter, -List.all_filter, -List.length_flatMap, -List.all_eq_true, -List.any_eq_true, -List.all_eq_false, -List.any_eq_false, b__law_fewest_L1, ke, encR]
      · intro x hx e he
        rcases List.mem_append.mp hx with hx | hx
        · exact m2 _ (n2 x hx e he)
        · rw [List.mem_singleton.mp hx]; exact m3 e he
    · refine .inr ⟨v, ρ2, ?_, hv⟩
      have e1 : lsR false (best.map encB) = .val (.lst (best.map encB)) := rfl
      unfold envF at ke ⊢
      rw [e1] at ke
      simp -implicitDefEqProofs +contextual (disch := first | omega | (simp -implicitDefEqProofs +contextual (disch := first | omega | (simp -implicitDefEqProofs +contextual (disch := omega) [-List.map_map, -List.any_map, -List.all_map, -List.any_filter, -List.all_filter, -List.length_flatMap, -List.all_eq_true, -List.any_eq_true, -List.all_eq_false, -List.any_eq_false, b__law_fewest_L1, ke, encR]; try omega; done)) [-List.map_map, -List.any_map, -List.all_map, -List.any_filter, -List.all_filter, -List.length_flatMap, -List.all_eq_true, -List.any_eq_true, -List.all_eq_false, -List.any_eq_false, b__law_fewest_L1, ke, encR]; try omega; done)) [-List.map_map, -List.any_map, -List.all_map, -List.any_filter, -List.all_filter, -List.length_flatMap, -List.all_eq_true, -List.any_eq_true, -List.all_eq_false, -List.any_eq_false, b__law_fewest_L1, ke, encR]) ⟨[], [], o3, _, _, _, _, _, NewOk.nil, by simp, rfl⟩
  rcases key with ⟨_, ke, new, vs, o3', j8', j9', j10', j11', j12', n1, n2, rfl⟩ | ⟨v, ρ2, ke, hv⟩
  · exact .inl ⟨new, vs, o3', _, _, _, _, _, n1, by simpa using n2, ke⟩
  · exact .inr ⟨v, ρ2, ke, hv⟩
theorem fewest_t {T : Tab} {d : Int} {b : Bool} (hT : TOk T) (d2 : 2 ≤ d) (d4 : d ≤ 4) : ∃ ps, Fine T d b ps ∧ (md.Φ (n + 4) F__law_fewest [.val (encT T), .val (.int d), .val (.str (kindS b))]).v = .ok (.val (.tup [.int ps.length, tII ps])) := by
  obtain ⟨best, hb, kb⟩ := best_kept_t (n := n) (b := b) hT d2 d4
  have key := for_inv (g := md.g) (Φ := md.Φ (n + 3)) (tg := .one 5) (body := b__law_fewest_L0) (f := D.int) (xs := irange 1 7) (pre := [])
    (ρ := [some (.val (encT T)), some (.val (.int d)), some (.val (.str (kindS b))), some (.lst (best.map encB)), some (.lst [.tup [tP (outsL T), .tup []]]), none, none, none, none, none, none, none, none, none])
    (I := fun p ρ => ∃ (rows : List RowE) (o3 o4 : Bool) (j5 j6 j7 j8 j9 j10 j11 j12 : Option R), (∀ r ∈ rows, FRow T d b p.length r) ∧ (∃ r ∈ rows, ∀ q ∈ r.1, (p.length : Int) ≤ q.1) ∧ (p.length : Int) < T.1 ∧
      ρ = [some (.val (encT T)), some (.val (.int d)), some (.val (.str (kindS b))), some (lsR o3 (best.map encB)), some (lsR o4 (rows.map encR)), j5, j6, j7, j8, j9, j10, j11, j12, none])
    (T := fun v _ => FineR T d b v) (by
    rintro p kk q _ e ⟨rows, o3, o4, j5, j6, j7, j8, j9, j10, j11, j12, h1, ⟨r0, r1, r2⟩, h3, rfl⟩
    have ek := ir_mid (p := p) (q := q) (by simpa using e)
    have ek2 : kk = p.length + 1 := by omega
    subst ek2
    have k2 := few_L1 (n := n + 3) (o3 := o3) (j8 := j8) (j9 := j9) (j10 := j10) (j11 := j11) (j12 := j12) hT hb h1 h3
    refine ⟨_, rfl, ?_⟩
    rcases k2 with ⟨new, vs, o3', j8', j9', j10', j11', j12', n1, n2, ke⟩ | ⟨v, ρ2, ke, hv⟩
    · obtain ⟨en, he, hs⟩ := rest_sp hT d2 hb (h1 r0 r1) r2
      have hin := n2 r0 r1 en he
      rw [List.mem_map] at hin
      obtain ⟨rn, hrn, ern⟩ := hin
      have hlt : ((p.length + 1 : Nat) : Int) < T.1 := by
        obtain ⟨q, hq⟩ := List.exists_mem_of_ne_nil _ (n1.ne rn hrn)
        have a1 := hs q (by rw [← ern]; exact hq)
        have a2 := mem_outs.mp ((n1.row rn hrn).sub.subset hq)
        omega
      refine .inl ⟨[some (.val (encT T)), some (.val (.int d)), some (.val (.str (kindS b))), some (lsR o3' (best.map encB)), some (lsR false (new.map encR)), some (.val (.int (p.length + 1))), some (.dct ((new.map (·.1)).map tP) vs), some (.val (.lst (new.map encR))), j8', j9', j10', j11', j12', none], .inl ?_,
        new, o3', false, _, _, _, _, _, _, _, _, ?_, ⟨rn, hrn, ?_⟩, ?_, rfl⟩
      · simp -implicitDefEqProofs +contextual (disch := first | omega | (simp -implicitDefEqProofs +contextual (disch := first | omega | (simp -implicitDefEqProofs +contextual (disch := omega) [-List.map_map, -List.any_map, -List.all_map, -List.any_filter, -List.all_filter, -List.length_flatMap, -List.all_eq_true, -List.any_eq_true, -List.all_eq_false, -List.any_eq_false, b__law_fewest_L0, ke]; try omega; done)) [-List.map_map, -List.any_map, -List.all_map, -List.any_filter, -List.all_filter, -List.length_flatMap, -List.all_eq_true, -List.any_eq_true, -List.all_eq_false, -List.any_eq_false, b__law_fewest_L0, ke]; try omega; done)) [-List.map_map, -List.any_map, -List.all_map, -List.any_filter, -List.all_filter, -List.length_flatMap, -List.all_eq_true, -List.any_eq_true, -List.all_eq_false, -List.any_eq_false, b__law_fewest_L0, ke]
        rfl
      · intro r hr
        rw [List.length_append]
        exact n1.row r hr
      · rw [List.length_append, ern]; exact hs
      · rw [List.length_append]; exact hlt
    · refine .inr ⟨v, ρ2, ?_, hv⟩
      simp -implicitDefEqProofs +contextual (disch := first | omega | (simp -implicitDefEqProofs +contextual (disch := first | omega | (simp -implicitDefEqProofs +contextual (disch := omega) [-List.map_map, -List.any_map, -List.all_map, -List.any_filter, -List.all_filter, -List.length_flatMap, -List.all_eq_true, -List.any_eq_true, -List.all_eq_false, -List.any_eq_false, b__law_fewest_L0, ke]; try omega; done)) [-List.map_map, -List.any_map, -List.all_map, -List.any_filter, -List.all_filter, -List.length_flatMap, -List.all_eq_true, -List.any_eq_true, -List.all_eq_false, -List.any_eq_false, b__law_fewest_L0, ke]; try omega; done)) [-List.map_map, -List.any_map, -List.all_map, -List.any_filter, -List.all_filter, -List.length_flatMap, -List.all_eq_true, -List.any_eq_true, -List.all_eq_false, -List.any_eq_false, b__law_fewest_L0, ke]) ⟨[(outsL T, [])], true, true, _, _, _, _, _, _, _, _, by
      intro r hr
      rw [List.mem_singleton.mp hr]
      exact ⟨List.Sublist.refl _, rfl, by simp, fun q hq hn => absurd hq hn⟩, ⟨_, List.mem_singleton.mpr rfl, fun q hq => (mem_outs.mp hq).1.1⟩, by have := hT.m1; show ((0 : Nat) : Int) < T.1; omega, rfl⟩
  rcases key with ⟨_, ke, rows, o3, o4, j5, j6, j7, j8, j9, j10, j11, j12, h1, h2, h3, rfl⟩ | ⟨v, ρ2, ke, ps, hf, rfl⟩
  · have : (([] ++ irange 1 7).length : Int) = 6 := by simp
    have := hT.m5
    omega
  · refine ⟨ps, hf, ?_⟩
    rw [phi_v (d := d__law_fewest) rfl rfl]
    simp -implicitDefEqProofs +contextual (disch := first | omega | (simp -implicitDefEqProofs +contextual (disch := first | omega | (simp -implicitDefEqProofs +contextual (disch := omega) [-List.map_map, -List.any_map, -List.all_map, -List.any_filter, -List.all_filter, -List.length_flatMap, -List.all_eq_true, -List.any_eq_true, -List.all_eq_false, -List.any_eq_false, d__law_fewest, b__law_fewest, hT, kb, ke]; try omega; done)) [-List.map_map, -List.any_map, -List.all_map, -List.any_filter, -List.all_filter, -List.length_flatMap, -List.all_eq_true, -List.any_eq_true, -List.all_eq_false, -List.any_eq_false, d__law_fewest, b__law_fewest, hT, kb, ke]; try omega; done)) [-List.map_map, -List.any_map, -List.all_map, -List.any_filter, -List.all_filter, -List.length_flatMap, -List.all_eq_true, -List.any_eq_true, -List.all_eq_false, -List.any_eq_false, d__law_fewest, b__law_fewest, hT, kb, ke]
end KL
end
section
set_option linter.all false
set_option Elab.async false
set_option maxRecDepth 100000
set_option maxHeartbeats 400000
namespace KL
open Fx
variable {n : Nat}
@[simp] theorem fewest_p {T : Tab} {d : Int} (hT : TOk T) (d2 : 2 ≤ d) (d4 : d ≤ 4) : ∃ ps, Fine T d true ps ∧ (md.Φ (n + 4) F__law_fewest [.val (encT T), .val (.int d), .val (.str "plain")]).v = .ok (.val (.tup [.int ps.length, tII ps])) := fewest_t (b := true) hT d2 d4
abbrev encS (T : Tab) (d : Int) (C : List (List Int)) : D := .tup [encT T, .int d, tII C]
theorem system_t {ns : List Int} (hn : ns.length ≤ 63) : ∃ (T : Tab) (d : Int) (C : List (List Int)), TOk T ∧ 2 ≤ d ∧ d ≤ 4 ∧ COk T.1 d C ∧ fitB T C = true ∧ (md.Φ (n + 5) F__law_system [.val (.lst (ns.map .int))]).v = .ok (.val (encS T d C)) := by
  obtain ⟨T, hT, kT⟩ := drawn_table (n := n + 1) (ns := ns) hn
  have m1 := hT.m1
  have m5 := hT.m5
  have b0 := boxS_ok (ns := ns) (k := 1) (by omega)
  have p1 := law_pick (n := n + 2) (f := D.int) (l := [2, 3, 3, 4]) b0 (by simp) (by simp)
  have i1 := tk_in (B := boxS ns 1) (m := 4) (by omega)
  have c1 := ix_all (l := [2, 3, 3, 4]) (P := fun x => 2 ≤ x ∧ x ≤ 4) (by simp) i1.1 i1.2
  have b1 := tk_ok b0 (m := 4) (by omega)
  simp only [List.length_cons, List.length_nil, List.map] at p1
  have e4 : ((0 + 1 + 1 + 1 + 1 : Nat) : Int) = 4 := rfl
  rw [e4] at p1
  generalize hB1 : (tk (boxS ns 1) 4).2 = B1 at p1 b1
  generalize hd : ix ([2, 3, 3, 4] : List Int) (tk (boxS ns 1) 4).1 = d at p1 c1
  have p3 := law_pick (n := n + 2) (f := D.int) (l := [5, 4, 3, 3, 2, 2, 1]) b1 (by simp) (by simp)
  have i3 := tk_in (B := B1) (m := 7) (by omega)
  have c3 := ix_all (l := [5, 4, 3, 3, 2, 2, 1]) (P := fun x => 1 ≤ x ∧ x ≤ 5) (by simp) i3.1 i3.2
  have b3 := tk_ok b1 (m := 7) (by omega)
  simp only [List.length_cons, List.length_nil, List.map] at p3
  have e7 : ((0 + 1 + 1 + 1 + 1 + 1 + 1 + 1 : Nat) : Int) = 7 := rfl
  rw [e7] at p3
  generalize hB3 : (tk B1 7).2 = B3 at p3 b3
  generalize hr : ix ([5, 4, 3, 3, 2, 2, 1] : List Int) (tk B1 7).1 = r at p3 c3
  have key := for_inv (g := md.g) (Φ := md.Φ (n + 4)) (tg := .one 5) (body := b__law_system_L0) (f := D.int) (xs := irange 0 12) (pre := [])
    (ρ := [some (.val (.lst (ns.map .int))), some (.val (encT T)), some (.lst (bx B3)), some (.val (.int d)), some (.val (.int r)), none, none, none, none, none])
    (I := fun p ρ => ∃ (B : Box) (j5 j7 : Option R), BOk B ∧
      ρ = [some (.val (.lst (ns.map .int))), some (.val (encT T)), some (.lst (bx B)), some (.val (.int d)), some (.val (.int r)), j5, none, j7, none, none])
    (T := fun v _ => ∃ C, COk T.1 d C ∧ fitB T C = true ∧ v = .val (encS T d C)) (by
    rintro p tt q _ e ⟨B, j5, j7, hB, rfl⟩
    have hc := drawn_cok (B := B) (m := T.1) (d := d) (k := r) m1 (by omega) c3.1 c3.2
    have kf := law_fits_p (n := n + 1) hT hc
    have hd1 : 0 < d := by omega
    have hd2 : d < 1073741824 := by omega
    have il : (irange 0 T.1).length = T.1.toNat := by rw [len_irange]; omega
    have hr2 : 0 ≤ r ∧ r ≤ 1000 := by omega
    have ke := drawss_v (n := n + 3) (ρ := [some (.val (.lst (ns.map .int))), some (.val (encT T)), some (.lst (bx B)), some (.val (.int d)), some (.val (.int r)), some (.val (.int tt)), none, j7, none, none])
      (b := 2) (k := 3) (i := 8) (j := 9) (c := 4) (f := D.int) (xs := irange 0 T.1) (B := B) (m := d) (h := r) rfl rfl rfl (by decide) (by decide) (by decide) (by decide) (by decide) hB hd1 hd2 hr2 (by rw [il]; omega)
    rw [il] at ke
    refine ⟨_, rfl, ?_⟩
    by_cases hf : lawFitB T (dww B d r.toNat T.1.toNat).1 true = true
    · refine .inr ⟨.val (encS T d (dww B d r.toNat T.1.toNat).1), [some (.val (.lst (ns.map .int))), some (.val (encT T)), some (.lst (bx (dww B d r.toNat T.1.toNat).2)), some (.val (.int d)), some (.val (.int r)), some (.val (.int tt)), none, some (.val (tII (dww B d r.toNat T.1.toNat).1)), none, none], ?_, _, hc, by rw [fit_eq hT hc]; exact hf, rfl⟩
      simp -implicitDefEqProofs +contextual (disch := first | omega | (simp -implicitDefEqProofs +contextual (disch := first | omega | (simp -implicitDefEqProofs +contextual (disch := omega) [-List.map_map, -List.any_map, -List.all_map, -List.any_filter, -List.all_filter, -List.length_flatMap, -List.all_eq_true, -List.any_eq_true, -List.all_eq_false, -List.any_eq_false, b__law_system_L0, ke, kf, hf]; try omega; done)) [-List.map_map, -List.any_map, -List.all_map, -List.any_filter, -List.all_filter, -List.length_flatMap, -List.all_eq_true, -List.any_eq_true, -List.all_eq_false, -List.any_eq_false, b__law_system_L0, ke, kf, hf]; try omega; done)) [-List.map_map, -List.any_map, -List.all_map, -List.any_filter, -List.all_filter, -List.length_flatMap, -List.all_eq_true, -List.any_eq_true, -List.all_eq_false, -List.any_eq_false, b__law_system_L0, ke, kf, hf]
    · refine .inl ⟨[some (.val (.lst (ns.map .int))), some (.val (encT T)), some (.lst (bx (dww B d r.toNat T.1.toNat).2)), some (.val (.int d)), some (.val (.int r)), some (.val (.int tt)), none, some (.val (tII (dww B d r.toNat T.1.toNat).1)), none, none], .inl ?_, _, _, _, dww_ok hB hd1, rfl⟩
      simp -implicitDefEqProofs +contextual (disch := first | omega | (simp -implicitDefEqProofs +contextual (disch := first | omega | (simp -implicitDefEqProofs +contextual (disch := omega) [-List.map_map, -List.any_map, -List.all_map, -List.any_filter, -List.all_filter, -List.length_flatMap, -List.all_eq_true, -List.any_eq_true, -List.all_eq_false, -List.any_eq_false, b__law_system_L0, ke, kf, hf]; try omega; done)) [-List.map_map, -List.any_map, -List.all_map, -List.any_filter, -List.all_filter, -List.length_flatMap, -List.all_eq_true, -List.any_eq_true, -List.all_eq_false, -List.any_eq_false, b__law_system_L0, ke, kf, hf]; try omega; done)) [-List.map_map, -List.any_map, -List.all_map, -List.any_filter, -List.all_filter, -List.length_flatMap, -List.all_eq_true, -List.any_eq_true, -List.all_eq_false, -List.any_eq_false, b__law_system_L0, ke, kf, hf]) ⟨B3, none, none, b3, rfl⟩
  rcases key with ⟨_, ke, B, j5, j7, hB, rfl⟩ | ⟨v, ρ2, ke, C, hc, hf, rfl⟩
  · obtain ⟨ps, fi, kf⟩ := fewest_p (n := n) hT c1.1 c1.2
    have fs := fi.shuf (B := B)
    have po := fs.pok hT
    have ks := law_shuffled (n := n + 2) (f := tI) (l := ps) hB (by have := fi.km; omega)
    have kc := cuts_of_t (n := n + 3) po m1 m5
    refine ⟨T, d, cutsOf (shuf B ps).1, hT, c1.1, c1.2, cutsOf_ok po m1, cutsOf_fit hT po fs.cov, ?_⟩
    rw [phi_v (d := d__law_system) rfl rfl]
    simp -implicitDefEqProofs +contextual (disch := first | omega | (simp -implicitDefEqProofs +contextual (disch := first | omega | (simp -implicitDefEqProofs +contextual (disch := omega) [-List.map_map, -List.any_map, -List.all_map, -List.any_filter, -List.all_filter, -List.length_flatMap, -List.all_eq_true, -List.any_eq_true, -List.all_eq_false, -List.any_eq_false, d__law_system, b__law_system, hn, kT, p1, p3, ke, kf, ks, kc]; try omega; done)) [-List.map_map, -List.any_map, -List.all_map, -List.any_filter, -List.all_filter, -List.length_flatMap, -List.all_eq_true, -List.any_eq_true, -List.all_eq_false, -List.any_eq_false, d__law_system, b__law_system, hn, kT, p1, p3, ke, kf, ks, kc]; try omega; done)) [-List.map_map, -List.any_map, -List.all_map, -List.any_filter, -List.all_filter, -List.length_flatMap, -List.all_eq_true, -List.any_eq_true, -List.all_eq_false, -List.any_eq_false, d__law_system, b__law_system, hn, kT, p1, p3, ke, kf, ks, kc]
  · refine ⟨T, d, C, hT, c1.1, c1.2, hc, hf, ?_⟩
    rw [phi_v (d := d__law_system) rfl rfl]
    simp -implicitDefEqProofs +contextual (disch := first | omega | (simp -implicitDefEqProofs +contextual (disch := first | omega | (simp -implicitDefEqProofs +contextual (disch := omega) [-List.map_map, -List.any_map, -List.all_map, -List.any_filter, -List.all_filter, -List.length_flatMap, -List.all_eq_true, -List.any_eq_true, -List.all_eq_false, -List.any_eq_false, d__law_system, b__law_system, hn, kT, p1, p3, ke]; try omega; done)) [-List.map_map, -List.any_map, -List.all_map, -List.any_filter, -List.all_filter, -List.length_flatMap, -List.all_eq_true, -List.any_eq_true, -List.all_eq_false, -List.any_eq_false, d__law_system, b__law_system, hn, kT, p1, p3, ke]; try omega; done)) [-List.map_map, -List.any_map, -List.all_map, -List.any_filter, -List.all_filter, -List.length_flatMap, -List.all_eq_true, -List.any_eq_true, -List.all_eq_false, -List.any_eq_false, d__law_system, b__law_system, hn, kT, p1, p3, ke]
end KL
end
section
set_option linter.all false
set_option Elab.async false
set_option maxRecDepth 100000
set_option maxHeartbeats 400000
namespace KL
open Fx
variable {n : Nat}
/-! systems -/
@[simp] theorem g_clsS : C_System < md.g.nc := by decide
@[simp] theorem fl_S : md.g.flds C_System = [A_table, A_depths, A_cuts] := rfl
@[simp] theorem id_S0 : List.idxOf A_table [A_table, A_depths, A_cuts] = 0 := by decide
@[simp] theorem id_S1 : List.idxOf A_depths [A_table, A_depths, A_cuts] = 1 := by decide
@[simp] theorem id_S2 : List.idxOf A_cuts [A_table, A_depths, A_cuts] = 2 := by decide
@[simp] theorem at_table {a b c : D} : attrR md.g A_table (.ins C_System [a, b, c]) = some a := rfl
@[simp] theorem at_depths {a b c : D} : attrR md.g A_depths (.ins C_System [a, b, c]) = some b := rfl
@[simp] theorem at_cuts {a b c : D} : attrR md.g A_cuts (.ins C_System [a, b, c]) = some c := rfl
@[simp] theorem ini_S : md.g.ini C_System = F_System_init := rfl
abbrev sysR (o : Bool) (T : Tab) (d : Int) (C : List (List Int)) : R := obR o C_System [tabD T, .int d, tII C]
theorem sys_init {T : Tab} {o : Bool} {d : Int} {C : List (List Int)} (hT : TOk T) (d2 : 2 ≤ d) (d4 : d ≤ 4) (hc : COk T.1 d C) (hf : fitB T C = true) : md.Φ (n + 6) F_System_init [.obj C_System [], tabR o T, .val (.int d), .val (tII C)] = .ok (.val .non) [some (sysR true T d C), some (tabR false T), some (.val (.int d)), some (.val (tII C))] := by
  have w : within d 2 4 = true := by unfold within; simp only [Bool.and_eq_true, decide_eq_true_eq]; omega
  rw [phi_f (d := d_System_init) rfl rfl]
  simp -implicitDefEqProofs +contextual (disch := first | omega | (simp -implicitDefEqProofs +contextual (disch := first | omega | (simp -implicitDefEqProofs +contextual (disch := omega) [-List.map_map, -List.any_map, -List.all_map, -List.any_filter, -List.all_filter, -List.length_flatMap, -List.all_eq_true, -List.any_eq_true, -List.all_eq_false, -List.any_eq_false, d_System_init, b_System_init, outsA, w, are_cuts_II hT hc, do_fit_t hT hc, hf]; try omega; done)) [-List.map_map, -List.any_map, -List.all_map, -List.any_filter, -List.all_filter, -List.length_flatMap, -List.all_eq_true, -List.any_eq_true, -List.all_eq_false, -List.any_eq_false, d_System_init, b_System_init, outsA, w, are_cuts_II hT hc, do_fit_t hT hc, hf]; try omega; done)) [-List.map_map, -List.any_map, -List.all_map, -List.any_filter, -List.all_filter, -List.length_flatMap, -List.all_eq_true, -List.any_eq_true, -List.all_eq_false, -List.any_eq_false, d_System_init, b_System_init, outsA, w, are_cuts_II hT hc, do_fit_t hT hc, hf]
  rfl
theorem law_made {T : Tab} {d : Int} {C : List (List Int)} (hT : TOk T) (d2 : 2 ≤ d) (d4 : d ≤ 4) (hc : COk T.1 d C) (hf : fitB T C = true) : (md.Φ (n + 7) F__law_made [.val (encS T d C)]).v = .ok (sysR true T d C) := by
  rw [phi_v (d := d__law_made) rfl rfl]
  simp -implicitDefEqProofs +contextual (disch := first | omega | (simp -implicitDefEqProofs +contextual (disch := first | omega | (simp -implicitDefEqProofs +contextual (disch := omega) [-List.map_map, -List.any_map, -List.all_map, -List.any_filter, -List.all_filter, -List.length_flatMap, -List.all_eq_true, -List.any_eq_true, -List.all_eq_false, -List.any_eq_false, d__law_made, b__law_made, table_make hT, sys_init (o := true) hT d2 d4 hc hf]; try omega; done)) [-List.map_map, -List.any_map, -List.all_map, -List.any_filter, -List.all_filter, -List.length_flatMap, -List.all_eq_true, -List.any_eq_true, -List.all_eq_false, -List.any_eq_false, d__law_made, b__law_made, table_make hT, sys_init (o := true) hT d2 d4 hc hf]; try omega; done)) [-List.map_map, -List.any_map, -List.all_map, -List.any_filter, -List.all_filter, -List.length_flatMap, -List.all_eq_true, -List.any_eq_true, -List.all_eq_false, -List.any_eq_false, d__law_made, b__law_made, table_make hT, sys_init (o := true) hT d2 d4 hc hf]
/-! the law's reckoning -/
theorem law_stacks_t {m d : Int} {C : List (List Int)} {row : List Int} (hc : COk m d C) (hr : RowOk m row) (m5 : m ≤ 5) (d4 : d ≤ 4) : (md.Φ (n + 1) F__law_stacks [.val (tII C), .val (tI row)]).v = .ok (.val (tII (stacksL C row))) := by
  have l := hc.len
  have m1 := hc.m1
  have k5 := hc.k5
  have rl := row_len hr
  have l0 : 0 < C.length := by omega
  have ri : ∀ i ∈ row, 0 ≤ i ∧ i < C.length := fun i hi => by have := hr.inn i hi; omega
  have cl2 : ∀ i ∈ row, (ix C i).length = (ix C 0).length := fun i hi => (hc.all _ (ix_mem (ri i hi).1 (ri i hi).2)).1
  have cv : ∀ c : Int, 0 ≤ c → c < (ix C 0).length → ∀ x ∈ row.map (fun k => ix (ix C k) c), 0 ≤ x ∧ x < 4 := by
    intro c c0 c1 x hx
    rw [List.mem_map] at hx
    obtain ⟨k, hk, rfl⟩ := hx
    have h1 := (hc.all _ (ix_mem (ri k hk).1 (ri k hk).2)).2 (ix (ix C k) c) (ix_mem c0 (by rw [cl2 k hk]; exact c1))
    omega
  have inner : ∀ (c : Int) (o : Option R), 0 ≤ c → c < (ix C 0).length → compE md.g (md.Φ n) (.idx (.idx (.var 0) (.var 4)) (.var 2)) [4] (.one 4) .non (row.map .int) [some (.val (tII C)), some (.val (tI row)), some (.val (.int c)), o, none] =
      .ok (.lst ((row.map fun k => ix (ix C k) c).map .int)) [some (.val (tII C)), some (.val (tI row)), some (.val (.int c)), o, none] := by
    intro c o c0 c1
    simp -implicitDefEqProofs +contextual (disch := first | omega | (simp -implicitDefEqProofs +contextual (disch := first | omega | (simp -implicitDefEqProofs +contextual (disch := omega) [-List.map_map, -List.any_map, -List.all_map, -List.any_filter, -List.all_filter, -List.length_flatMap, -List.all_eq_true, -List.any_eq_true, -List.all_eq_false, -List.any_eq_false, c0, c1, ri, cl2, rl, -q_comp1, comp1_all (α := Int) (fun k => .int (ix (ix C k) c))]; try omega; done)) [-List.map_map, -List.any_map, -List.all_map, -List.any_filter, -List.all_filter, -List.length_flatMap, -List.all_eq_true, -List.any_eq_true, -List.all_eq_false, -List.any_eq_false, c0, c1, ri, cl2, rl, -q_comp1, comp1_all (α := Int) (fun k => .int (ix (ix C k) c))]; try omega; done)) [-List.map_map, -List.any_map, -List.all_map, -List.any_filter, -List.all_filter, -List.length_flatMap, -List.all_eq_true, -List.any_eq_true, -List.all_eq_false, -List.any_eq_false, c0, c1, ri, cl2, rl, -q_comp1, comp1_all (α := Int) (fun k => .int (ix (ix C k) c))]
  have mid : ∀ (c : Int), 0 ≤ c → c < (ix C 0).length → compE md.g (md.Φ n) (.var 3) [3] (.one 3) (.som (.cmp .In (.var 3) (.comp (.idx (.idx (.var 0) (.var 4)) (.var 2)) [4] (.one 4) (.seq (.var 1)) .non))) ((irange 0 4).map .int) [some (.val (tII C)), some (.val (tI row)), some (.val (.int c)), none, none] =
      .ok (.lst ((usort (row.map fun k => ix (ix C k) c)).map .int)) [some (.val (tII C)), some (.val (tI row)), some (.val (.int c)), none, none] := by
    intro c c0 c1
    have i2 := fun o => inner c o c0 c1
    rw [← usort_filt (cv c c0 c1)]
    refine comp1_of (fun z => decide (z ∈ row.map fun k => ix (ix C k) c)) .int ?_ ?_ ?_ ?_
    · simp
    · simp
    · intro z hz
      simp -implicitDefEqProofs +contextual (disch := first | omega | (simp -implicitDefEqProofs +contextual (disch := first | omega | (simp -implicitDefEqProofs +contextual (disch := omega) [-List.map_map, -List.any_map, -List.all_map, -List.any_filter, -List.all_filter, -List.length_flatMap, -List.all_eq_true, -List.any_eq_true, -List.all_eq_false, -List.any_eq_false, i2, -List.mem_map]; try omega; done)) [-List.map_map, -List.any_map, -List.all_map, -List.any_filter, -List.all_filter, -List.length_flatMap, -List.all_eq_true, -List.any_eq_true, -List.all_eq_false, -List.any_eq_false, i2, -List.mem_map]; try omega; done)) [-List.map_map, -List.any_map, -List.all_map, -List.any_filter, -List.all_filter, -List.length_flatMap, -List.all_eq_true, -List.any_eq_true, -List.all_eq_false, -List.any_eq_false, i2, -List.mem_map]
    · intro z hz _
      rfl
  have srt : ∀ c : Int, sortD ((usort (row.map fun k => ix (ix C k) c)).map .int) = some ((usort (row.map fun k => ix (ix C k) c)).map .int) := fun c => sortD_asc usort_up (by
    have : (usort (row.map fun k => ix (ix C k) c)).length ≤ row.length := by
      have := nodup_len (l := usort (row.map fun k => ix (ix C k) c)) (m := row.map fun k => ix (ix C k) c) (usort_up.imp fun h => by omega) (fun x hx => mem_usort.mp hx)
      rwa [List.length_map] at this
    omega)
  rw [phi_v (d := d__law_stacks) rfl rfl]
  simp -implicitDefEqProofs +contextual (disch := first | omega | (simp -implicitDefEqProofs +contextual (disch := first | omega | (simp -implicitDefEqProofs +contextual (disch := omega) [-List.map_map, -List.any_map, -List.all_map, -List.any_filter, -List.all_filter, -List.length_flatMap, -List.all_eq_true, -List.any_eq_true, -List.all_eq_false, -List.any_eq_false, d__law_stacks, b__law_stacks, l0, k5, mid, srt, -q_comp1, comp1_all (α := Int) (fun c => tI (usort (row.map fun k => ix (ix C k) c))), stacksL]; try omega; done)) [-List.map_map, -List.any_map, -List.all_map, -List.any_filter, -List.all_filter, -List.length_flatMap, -List.all_eq_true, -List.any_eq_true, -List.all_eq_false, -List.any_eq_false, d__law_stacks, b__law_stacks, l0, k5, mid, srt, -q_comp1, comp1_all (α := Int) (fun c => tI (usort (row.map fun k => ix (ix C k) c))), stacksL]; try omega; done)) [-List.map_map, -List.any_map, -List.all_map, -List.any_filter, -List.all_filter, -List.length_flatMap, -List.all_eq_true, -List.any_eq_true, -List.all_eq_false, -List.any_eq_false, d__law_stacks, b__law_stacks, l0, k5, mid, srt, -q_comp1, comp1_all (α := Int) (fun c => tI (usort (row.map fun k => ix (ix C k) c))), stacksL]
end KL
end
section
set_option linter.all false
set_option Elab.async false
set_option maxRecDepth 100000
set_option maxHeartbeats 400000
namespace KL
open Fx
variable {n : Nat}
/-! filing -/
@[simp] theorem is_key_d {T : Tab} {k : D} (h : k.plain = true) : (md.Φ (n + 3) F_is_key [.val (tabD T), .val k]).v = .ok (.val (.bl (wI k 0 (T.1 - 1)))) := by
  rw [phi_v (d := d_is_key) rfl rfl]
  simp -implicitDefEqProofs +contextual (disch := first | omega | (simp -implicitDefEqProofs +contextual (disch := first | omega | (simp -implicitDefEqProofs +contextual (disch := omega) [-List.map_map, -List.any_map, -List.all_map, -List.any_filter, -List.all_filter, -List.length_flatMap, -List.all_eq_true, -List.any_eq_true, -List.all_eq_false, -List.any_eq_false, d_is_key, b_is_key, h]; try omega; done)) [-List.map_map, -List.any_map, -List.all_map, -List.any_filter, -List.all_filter, -List.length_flatMap, -List.all_eq_true, -List.any_eq_true, -List.all_eq_false, -List.any_eq_false, d_is_key, b_is_key, h]; try omega; done)) [-List.map_map, -List.any_map, -List.all_map, -List.any_filter, -List.all_filter, -List.length_flatMap, -List.all_eq_true, -List.any_eq_true, -List.all_eq_false, -List.any_eq_false, d_is_key, b_is_key, h]
@[simp] theorem is_lock_d {T : Tab} {k : D} (h : k.plain = true) : (md.Φ (n + 3) F_is_lock [.val (tabD T), .val k]).v = .ok (.val (.bl (wI k 0 (T.2.length - 1)))) := by
  rw [phi_v (d := d_is_lock) rfl rfl]
  simp -implicitDefEqProofs +contextual (disch := first | omega | (simp -implicitDefEqProofs +contextual (disch := first | omega | (simp -implicitDefEqProofs +contextual (disch := omega) [-List.map_map, -List.any_map, -List.all_map, -List.any_filter, -List.all_filter, -List.length_flatMap, -List.all_eq_true, -List.any_eq_true, -List.all_eq_false, -List.any_eq_false, d_is_lock, b_is_lock, h]; try omega; done)) [-List.map_map, -List.any_map, -List.all_map, -List.any_filter, -List.all_filter, -List.length_flatMap, -List.all_eq_true, -List.any_eq_true, -List.all_eq_false, -List.any_eq_false, d_is_lock, b_is_lock, h]; try omega; done)) [-List.map_map, -List.any_map, -List.all_map, -List.any_filter, -List.all_filter, -List.length_flatMap, -List.all_eq_true, -List.any_eq_true, -List.all_eq_false, -List.any_eq_false, d_is_lock, b_is_lock, h]
theorem is_out_i {T : Tab} {k l : Int} : (md.Φ (n + 4) F_is_out [.val (tabD T), .val (.int k), .val (.int l)]).v = .ok (.val (.bl (within k 0 (T.1 - 1) && (within l 0 (T.2.length - 1) && !decide (k ∈ ix T.2 l))))) := by
  by_cases h1 : within k 0 (T.1 - 1) = true
  · by_cases h2 : within l 0 (T.2.length - 1) = true
    · have h3 : 0 ≤ l ∧ l < T.2.length := by unfold within at h2; simp only [Bool.and_eq_true, decide_eq_true_eq] at h2; omega
      rw [phi_v (d := d_is_out) rfl rfl]
      simp -implicitDefEqProofs +contextual (disch := first | omega | (simp -implicitDefEqProofs +contextual (disch := first | omega | (simp -implicitDefEqProofs +contextual (disch := omega) [-List.map_map, -List.any_map, -List.all_map, -List.any_filter, -List.all_filter, -List.length_flatMap, -List.all_eq_true, -List.any_eq_true, -List.all_eq_false, -List.any_eq_false, d_is_out, b_is_out, h1, h2, h3.1, h3.2]; try omega; done)) [-List.map_map, -List.any_map, -List.all_map, -List.any_filter, -List.all_filter, -List.length_flatMap, -List.all_eq_true, -List.any_eq_true, -List.all_eq_false, -List.any_eq_false, d_is_out, b_is_out, h1, h2, h3.1, h3.2]; try omega; done)) [-List.map_map, -List.any_map, -List.all_map, -List.any_filter, -List.all_filter, -List.length_flatMap, -List.all_eq_true, -List.any_eq_true, -List.all_eq_false, -List.any_eq_false, d_is_out, b_is_out, h1, h2, h3.1, h3.2]
    · rw [phi_v (d := d_is_out) rfl rfl]
      simp -implicitDefEqProofs +contextual (disch := first | omega | (simp -implicitDefEqProofs +contextual (disch := first | omega | (simp -implicitDefEqProofs +contextual (disch := omega) [-List.map_map, -List.any_map, -List.all_map, -List.any_filter, -List.all_filter, -List.length_flatMap, -List.all_eq_true, -List.any_eq_true, -List.all_eq_false, -List.any_eq_false, d_is_out, b_is_out, h1, h2]; try omega; done)) [-List.map_map, -List.any_map, -List.all_map, -List.any_filter, -List.all_filter, -List.length_flatMap, -List.all_eq_true, -List.any_eq_true, -List.all_eq_false, -List.any_eq_false, d_is_out, b_is_out, h1, h2]; try omega; done)) [-List.map_map, -List.any_map, -List.all_map, -List.any_filter, -List.all_filter, -List.length_flatMap, -List.all_eq_true, -List.any_eq_true, -List.all_eq_false, -List.any_eq_false, d_is_out, b_is_out, h1, h2]
  · rw [phi_v (d := d_is_out) rfl rfl]
    simp -implicitDefEqProofs +contextual (disch := first | omega | (simp -implicitDefEqProofs +contextual (disch := first | omega | (simp -implicitDefEqProofs +contextual (disch := omega) [-List.map_map, -List.any_map, -List.all_map, -List.any_filter, -List.all_filter, -List.length_flatMap, -List.all_eq_true, -List.any_eq_true, -List.all_eq_false, -List.any_eq_false, d_is_out, b_is_out, h1]; try omega; done)) [-List.map_map, -List.any_map, -List.all_map, -List.any_filter, -List.all_filter, -List.length_flatMap, -List.all_eq_true, -List.any_eq_true, -List.all_eq_false, -List.any_eq_false, d_is_out, b_is_out, h1]; try omega; done)) [-List.map_map, -List.any_map, -List.all_map, -List.any_filter, -List.all_filter, -List.length_flatMap, -List.all_eq_true, -List.any_eq_true, -List.all_eq_false, -List.any_eq_false, d_is_out, b_is_out, h1]
theorem is_out_k {T : Tab} {k l : D} (hk : k.plain = true) (h : wI k 0 (T.1 - 1) = false) : (md.Φ (n + 4) F_is_out [.val (tabD T), .val k, .val l]).v = .ok (.val (.bl false)) := by
  rw [phi_v (d := d_is_out) rfl rfl]
  simp -implicitDefEqProofs +contextual (disch := first | omega | (simp -implicitDefEqProofs +contextual (disch := first | omega | (simp -implicitDefEqProofs +contextual (disch := omega) [-List.map_map, -List.any_map, -List.all_map, -List.any_filter, -List.all_filter, -List.length_flatMap, -List.all_eq_true, -List.any_eq_true, -List.all_eq_false, -List.any_eq_false, d_is_out, b_is_out, hk, h]; try omega; done)) [-List.map_map, -List.any_map, -List.all_map, -List.any_filter, -List.all_filter, -List.length_flatMap, -List.all_eq_true, -List.any_eq_true, -List.all_eq_false, -List.any_eq_false, d_is_out, b_is_out, hk, h]; try omega; done)) [-List.map_map, -List.any_map, -List.all_map, -List.any_filter, -List.all_filter, -List.length_flatMap, -List.all_eq_true, -List.any_eq_true, -List.all_eq_false, -List.any_eq_false, d_is_out, b_is_out, hk, h]
theorem is_out_l {T : Tab} {k l : D} (hk : k.plain = true) (hl : l.plain = true) (h1 : wI k 0 (T.1 - 1) = true) (h : wI l 0 (T.2.length - 1) = false) : (md.Φ (n + 4) F_is_out [.val (tabD T), .val k, .val l]).v = .ok (.val (.bl false)) := by
  rw [phi_v (d := d_is_out) rfl rfl]
  simp -implicitDefEqProofs +contextual (disch := first | omega | (simp -implicitDefEqProofs +contextual (disch := first | omega | (simp -implicitDefEqProofs +contextual (disch := omega) [-List.map_map, -List.any_map, -List.all_map, -List.any_filter, -List.all_filter, -List.length_flatMap, -List.all_eq_true, -List.any_eq_true, -List.all_eq_false, -List.any_eq_false, d_is_out, b_is_out, hk, hl, h, h1]; try omega; done)) [-List.map_map, -List.any_map, -List.all_map, -List.any_filter, -List.all_filter, -List.length_flatMap, -List.all_eq_true, -List.any_eq_true, -List.all_eq_false, -List.any_eq_false, d_is_out, b_is_out, hk, hl, h, h1]; try omega; done)) [-List.map_map, -List.any_map, -List.all_map, -List.any_filter, -List.all_filter, -List.length_flatMap, -List.all_eq_true, -List.any_eq_true, -List.all_eq_false, -List.any_eq_false, d_is_out, b_is_out, hk, hl, h, h1]
theorem first_filed_t {T : Tab} {d : Int} {o : Bool} {C : List (List Int)} {k l : Int} (hT : TOk T) (hc : COk T.1 d C) (d4 : d ≤ 4) (k0 : 0 ≤ k) (k1 : k < T.1) (l0 : 0 ≤ l) (l1 : l < T.2.length) : md.Φ (n + 2) F_first_filed [sysR o T d C, .val (.int k), .val (.int l)] =
    .ok (.val (oD (filO (zl T C (k, l))))) [some (sysR o T d C), some (.val (.int k)), some (.val (.int l))] := by
  have r := row_of hT l0 l1
  have ks := least_stacks_II (n := n) hc r hT.m5
  have cl := hc.len
  have k5 := hc.k5
  have ez := zl_zip (T := T) (q := (k, l)) hc k0 k1
  dsimp only at ez
  have kcl : k < C.length := by omega
  have zlen : (zl T C (k, l)).length ≤ 5 := by unfold zl; rw [List.length_map, len_irange]; omega
  have slen : ∀ p ∈ zl T C (k, l), p.2.length ≤ 100 := by
    intro p hp
    unfold zl at hp
    rw [List.mem_map] at hp
    obtain ⟨c, hcc, rfl⟩ := hp
    rw [mem_irange] at hcc
    have := usort_len (l := (ix T.2 l).map fun j => ix (ix C j) c) (m := 4) (by
      intro x hx
      rw [List.mem_map] at hx
      obtain ⟨j, hj, rfl⟩ := hx
      have h1 := r.inn j hj
      have h2 := hc.all _ (ix_mem (xs := C) h1.1 (by omega))
      have h3 := h2.2 (ix (ix C j) c) (ix_mem hcc.1 (by omega))
      omega)
    show (usort ((ix T.2 l).map fun j => ix (ix C j) c)).length ≤ 100
    have e4 : (4 : Int).toNat = 4 := rfl
    omega
  have key := for_inv (g := md.g) (Φ := md.Φ (n + 1)) (tg := .many [4, 5]) (body := b_first_filed_L0) (f := fun p : Int × List Int => D.tup [.int p.1, tI p.2]) (xs := zl T C (k, l)) (pre := [])
    (ρ := [some (sysR o T d C), some (.val (.int k)), some (.val (.int l)), some (.lst []), none, none, none, none])
    (I := fun p ρ => ∃ (j4 j5 j6 : Option R), (p.all fun p => !(deepL p).isEmpty) = true ∧ ρ = [some (sysR o T d C), some (.val (.int k)), some (.val (.int l)), some (.lst ((p.map fun p => hd0 (deepL p)).map .int)), j4, j5, j6, none])
    (T := fun v ρ2 => v = .val .non ∧ filO (zl T C (k, l)) = none ∧ ρ2.at 0 = some (sysR o T d C) ∧ ρ2.at 1 = some (.val (.int k)) ∧ ρ2.at 2 = some (.val (.int l))) (by
    rintro p en q _ e ⟨j4, j5, j6, hp, rfl⟩
    have hm : en ∈ zl T C (k, l) := mem_mid (p := p) (q := q) (by simpa using e)
    have l2 := congrArg List.length e
    rw [List.length_append, List.length_append, List.length_cons, List.length_nil] at l2
    have l5 := slen en hm
    have ed : (en.2.filter fun x => decide (en.1 ≤ x)) = deepL en := rfl
    refine ⟨_, rfl, ?_⟩
    cases hd : deepL en with
    | nil =>
      refine .inr ⟨.val .non, [some (sysR o T d C), some (.val (.int k)), some (.val (.int l)), some (.lst ((p.map fun p => hd0 (deepL p)).map .int)), some (.val (.int en.1)), some (.val (tI en.2)), some (.lst []), none], ?_, rfl, ?_, rfl, rfl, rfl⟩
      · simp -implicitDefEqProofs +contextual (disch := first | omega | (simp -implicitDefEqProofs +contextual (disch := first | omega | (simp -implicitDefEqProofs +contextual (disch := omega) [-List.map_map, -List.any_map, -List.all_map, -List.any_filter, -List.all_filter, -List.length_flatMap, -List.all_eq_true, -List.any_eq_true, -List.all_eq_false, -List.any_eq_false, b_first_filed_L0, ed, hd]; try omega; done)) [-List.map_map, -List.any_map, -List.all_map, -List.any_filter, -List.all_filter, -List.length_flatMap, -List.all_eq_true, -List.any_eq_true, -List.all_eq_false, -List.any_eq_false, b_first_filed_L0, ed, hd]; try omega; done)) [-List.map_map, -List.any_map, -List.all_map, -List.any_filter, -List.all_filter, -List.length_flatMap, -List.all_eq_true, -List.any_eq_true, -List.all_eq_false, -List.any_eq_false, b_first_filed_L0, ed, hd]
      · unfold filO
        rw [if_neg]
        intro hall
        rw [List.all_eq_true] at hall
        have := hall en hm
        rw [hd] at this
        cases this
    | cons a as =>
      refine .inl ⟨[some (sysR o T d C), some (.val (.int k)), some (.val (.int l)), some (.lst (((p ++ [en]).map fun p => hd0 (deepL p)).map .int)), some (.val (.int en.1)), some (.val (tI en.2)), some (.lst ((deepL en).map .int)), none], .inl ?_, _, _, _, ?_, rfl⟩
      · have e0 : ix (a :: as) 0 = a := rfl
        have ne0 : ¬ ((as.length : Int) + 1 = 0) := by omega
        simp -implicitDefEqProofs +contextual (disch := first | omega | (simp -implicitDefEqProofs +contextual (disch := first | omega | (simp -implicitDefEqProofs +contextual (disch := omega) [-List.map_map, -List.any_map, -List.all_map, -List.any_filter, -List.all_filter, -List.length_flatMap, -List.all_eq_true, -List.any_eq_true, -List.all_eq_false, -List.any_eq_false, b_first_filed_L0, ed, hd, hd0, e0, ne0]; try omega; done)) [-List.map_map, -List.any_map, -List.all_map, -List.any_filter, -List.all_filter, -List.length_flatMap, -List.all_eq_true, -List.any_eq_true, -List.all_eq_false, -List.any_eq_false, b_first_filed_L0, ed, hd, hd0, e0, ne0]; try omega; done)) [-List.map_map, -List.any_map, -List.all_map, -List.any_filter, -List.all_filter, -List.length_flatMap, -List.all_eq_true, -List.any_eq_true, -List.all_eq_false, -List.any_eq_false, b_first_filed_L0, ed, hd, hd0, e0, ne0]
      · rw [List.all_append, hp]
        simp [hd]) ⟨_, _, _, rfl, rfl⟩
  rcases key with ⟨_, ke, j4, j5, j6, hp, rfl⟩ | ⟨v, ρ2, ke, rfl, hf, ho⟩
  · have hf : filO (zl T C (k, l)) = some ((zl T C (k, l)).map fun p => hd0 (deepL p)) := by unfold filO; rw [if_pos (by simpa using hp)]
    rw [phi_f (d := d_first_filed) rfl rfl]
    simp -implicitDefEqProofs +contextual (disch := first | omega | (simp -implicitDefEqProofs +contextual (disch := first | omega | (simp -implicitDefEqProofs +contextual (disch := omega) [-List.map_map, -List.any_map, -List.all_map, -List.any_filter, -List.all_filter, -List.length_flatMap, -List.all_eq_true, -List.any_eq_true, -List.all_eq_false, -List.any_eq_false, d_first_filed, b_first_filed, outsA, ks, k0, kcl, l0, l1, ez, ke, hf]; try omega; done)) [-List.map_map, -List.any_map, -List.all_map, -List.any_filter, -List.all_filter, -List.length_flatMap, -List.all_eq_true, -List.any_eq_true, -List.all_eq_false, -List.any_eq_false, d_first_filed, b_first_filed, outsA, ks, k0, kcl, l0, l1, ez, ke, hf]; try omega; done)) [-List.map_map, -List.any_map, -List.all_map, -List.any_filter, -List.all_filter, -List.length_flatMap, -List.all_eq_true, -List.any_eq_true, -List.all_eq_false, -List.any_eq_false, d_first_filed, b_first_filed, outsA, ks, k0, kcl, l0, l1, ez, ke, hf]
  · rw [phi_f (d := d_first_filed) rfl rfl]
    simp -implicitDefEqProofs +contextual (disch := first | omega | (simp -implicitDefEqProofs +contextual (disch := first | omega | (simp -implicitDefEqProofs +contextual (disch := omega) [-List.map_map, -List.any_map, -List.all_map, -List.any_filter, -List.all_filter, -List.length_flatMap, -List.all_eq_true, -List.any_eq_true, -List.all_eq_false, -List.any_eq_false, d_first_filed, b_first_filed, outsA, ks, k0, kcl, l0, l1, ez, ke, hf, ho.1, ho.2.1, ho.2.2]; try omega; done)) [-List.map_map, -List.any_map, -List.all_map, -List.any_filter, -List.all_filter, -List.length_flatMap, -List.all_eq_true, -List.any_eq_true, -List.all_eq_false, -List.any_eq_false, d_first_filed, b_first_filed, outsA, ks, k0, kcl, l0, l1, ez, ke, hf, ho.1, ho.2.1, ho.2.2]; try omega; done)) [-List.map_map, -List.any_map, -List.all_map, -List.any_filter, -List.all_filter, -List.length_flatMap, -List.all_eq_true, -List.any_eq_true, -List.all_eq_false, -List.any_eq_false, d_first_filed, b_first_filed, outsA, ks, k0, kcl, l0, l1, ez, ke, hf, ho.1, ho.2.1, ho.2.2]
theorem outs_v {T : Tab} (h : TOk T) : md.Φ (n + 1) F_outs [.val (tabD T)] = .ok (.val (tP (outsL T))) [some (.val (tabD T))] := outs_t (o := false) h
theorem threats_t {T : Tab} {d : Int} {o : Bool} {C : List (List Int)} (hT : TOk T) (hc : COk T.1 d C) (d4 : d ≤ 4) : md.Φ (n + 3) F_threats [sysR o T d C] = .ok (.val (tP ((outsL T).filter fun q => (filO (zl T C q)).isSome))) [some (sysR o T d C)] := by
  have ol := outs_len hT
  have ko := outs_v (n := n + 1) hT
  have k1 : ∀ x ∈ outsL T, md.Φ (n + 2) F_first_filed [sysR o T d C, .val (.int x.1), .val (.int x.2)] = .ok (.val (oD (filO (zl T C x)))) [some (sysR o T d C), some (.val (.int x.1)), some (.val (.int x.2))] := fun x hx => by
    rw [mem_outs] at hx
    exact first_filed_t hT hc d4 hx.1.1 hx.1.2 hx.2.1.1 hx.2.1.2
  have kn : ∀ q, (oD (filO (zl T C q))).isNon = !(filO (zl T C q)).isSome := fun q => by cases filO (zl T C q) <;> rfl
  rw [phi_f (d := d_threats) rfl rfl]
  simp -implicitDefEqProofs +contextual (disch := first | omega | (simp -implicitDefEqProofs +contextual (disch := first | omega | (simp -implicitDefEqProofs +contextual (disch := omega) [-List.map_map, -List.any_map, -List.all_map, -List.any_filter, -List.all_filter, -List.length_flatMap, -List.all_eq_true, -List.any_eq_true, -List.all_eq_false, -List.any_eq_false, d_threats, b_threats, outsA, ol, ko, k1, kn, -q_compP, compP_of (fun q => (filO (zl T C q)).isSome) pr, pr]; try omega; done)) [-List.map_map, -List.any_map, -List.all_map, -List.any_filter, -List.all_filter, -List.length_flatMap, -List.all_eq_true, -List.any_eq_true, -List.all_eq_false, -List.any_eq_false, d_threats, b_threats, outsA, ol, ko, k1, kn, -q_compP, compP_of (fun q => (filO (zl T C q)).isSome) pr, pr]; try omega; done)) [-List.map_map, -List.any_map, -List.all_map, -List.any_filter, -List.all_filter, -List.length_flatMap, -List.all_eq_true, -List.any_eq_true, -List.all_eq_false, -List.any_eq_false, d_threats, b_threats, outsA, ol, ko, k1, kn, -q_compP, compP_of (fun q => (filO (zl T C q)).isSome) pr, pr]
theorem filed_t {T : Tab} {d : Int} {o : Bool} {C : List (List Int)} {q : Int × Int} (hT : TOk T) (hc : COk T.1 d C) (d4 : d ≤ 4) (hq : q ∈ outsL T) : md.Φ (n + 5) F_filed [sysR o T d C, .val (.int q.1), .val (.int q.2)] =
    match filO (zl T C q) with
    | some l => .ok (.val (tI l)) [some (sysR o T d C), some (.val (.int q.1)), some (.val (.int q.2))]
    | none => .exc X_Undefined (.str "filed") [some (sysR o T d C), some (.val (.int q.1)), some (.val (.int q.2))] := by
  rw [mem_outs] at hq
  have kf := first_filed_t (n := n + 2) (o := o) hT hc d4 hq.1.1 hq.1.2 hq.2.1.1 hq.2.1.2
  have ki := is_out_i (n := n) (T := T) (k := q.1) (l := q.2)
  have w1 : within q.1 0 (T.1 - 1) = true := by unfold within; simp only [Bool.and_eq_true, decide_eq_true_eq]; omega
  have w2 : within q.2 0 (T.2.length - 1) = true := by unfold within; simp only [Bool.and_eq_true, decide_eq_true_eq]; omega
  cases h : filO (zl T C q) with
  | none => 
    rw [phi_f (d := d_filed) rfl rfl]
    simp -implicitDefEqProofs +contextual (disch := first | omega | (simp -implicitDefEqProofs +contextual (disch := first | omega | (simp -implicitDefEqProofs +contextual (disch := omega) [-List.map_map, -List.any_map, -List.all_map, -List.any_filter, -List.all_filter, -List.length_flatMap, -List.all_eq_true, -List.any_eq_true, -List.all_eq_false, -List.any_eq_false, d_filed, b_filed, outsA, kf, ki, w1, w2, hq.2.2, h]; try omega; done)) [-List.map_map, -List.any_map, -List.all_map, -List.any_filter, -List.all_filter, -List.length_flatMap, -List.all_eq_true, -List.any_eq_true, -List.all_eq_false, -List.any_eq_false, d_filed, b_filed, outsA, kf, ki, w1, w2, hq.2.2, h]; try omega; done)) [-List.map_map, -List.any_map, -List.all_map, -List.any_filter, -List.all_filter, -List.length_flatMap, -List.all_eq_true, -List.any_eq_true, -List.all_eq_false, -List.any_eq_false, d_filed, b_filed, outsA, kf, ki, w1, w2, hq.2.2, h]
  | some l => 
    rw [phi_f (d := d_filed) rfl rfl]
    simp -implicitDefEqProofs +contextual (disch := first | omega | (simp -implicitDefEqProofs +contextual (disch := first | omega | (simp -implicitDefEqProofs +contextual (disch := omega) [-List.map_map, -List.any_map, -List.all_map, -List.any_filter, -List.all_filter, -List.length_flatMap, -List.all_eq_true, -List.any_eq_true, -List.all_eq_false, -List.any_eq_false, d_filed, b_filed, outsA, kf, ki, w1, w2, hq.2.2, h]; try omega; done)) [-List.map_map, -List.any_map, -List.all_map, -List.any_filter, -List.all_filter, -List.length_flatMap, -List.all_eq_true, -List.any_eq_true, -List.all_eq_false, -List.any_eq_false, d_filed, b_filed, outsA, kf, ki, w1, w2, hq.2.2, h]; try omega; done)) [-List.map_map, -List.any_map, -List.all_map, -List.any_filter, -List.all_filter, -List.length_flatMap, -List.all_eq_true, -List.any_eq_true, -List.all_eq_false, -List.any_eq_false, d_filed, b_filed, outsA, kf, ki, w1, w2, hq.2.2, h]
theorem filed_x {T : Tab} {d : Int} {o : Bool} {C : List (List Int)} {k l : D} (hk : k.plain = true) (hl : l.plain = true) (h : (md.Φ (n + 4) F_is_out [.val (tabD T), .val k, .val l]).v = .ok (.val (.bl false))) : md.Φ (n + 5) F_filed [sysR o T d C, .val k, .val l] =
    .exc X_InvalidPair (.tup [k, l]) [some (sysR o T d C), some (.val k), some (.val l)] := by
  rw [phi_f (d := d_filed) rfl rfl]
  simp -implicitDefEqProofs +contextual (disch := first | omega | (simp -implicitDefEqProofs +contextual (disch := first | omega | (simp -implicitDefEqProofs +contextual (disch := omega) [-List.map_map, -List.any_map, -List.all_map, -List.any_filter, -List.all_filter, -List.length_flatMap, -List.all_eq_true, -List.any_eq_true, -List.all_eq_false, -List.any_eq_false, d_filed, b_filed, outsA, h]; try omega; done)) [-List.map_map, -List.any_map, -List.all_map, -List.any_filter, -List.all_filter, -List.length_flatMap, -List.all_eq_true, -List.any_eq_true, -List.all_eq_false, -List.any_eq_false, d_filed, b_filed, outsA, h]; try omega; done)) [-List.map_map, -List.any_map, -List.all_map, -List.any_filter, -List.all_filter, -List.length_flatMap, -List.all_eq_true, -List.any_eq_true, -List.all_eq_false, -List.any_eq_false, d_filed, b_filed, outsA, h]
end KL
end
section
set_option linter.all false
set_option Elab.async false
set_option maxRecDepth 100000
set_option maxHeartbeats 400000
namespace KL
open Fx
variable {n : Nat}
theorem law_filed_t {T : Tab} {d : Int} {C : List (List Int)} {q : Int × Int} (hT : TOk T) (hc : COk T.1 d C) (d4 : d ≤ 4) (hq : q ∈ outsL T) : (md.Φ (n + 2) F__law_filed [.val (encS T d C), .val (.int q.1), .val (.int q.2)]).v = .ok (.val (oD (filO (zl T C q)))) := by
  obtain ⟨kq, lq⟩ := q
  have hq' := mem_outs.mp hq
  dsimp only at hq' ⊢
  obtain ⟨⟨k0, k1⟩, ⟨l0, l1⟩, _⟩ := hq'
  have r := row_of hT l0 l1
  have ks := law_stacks_t (n := n) hc r hT.m5 d4
  have cl := hc.len
  have k5 := hc.k5
  have m1 := hc.m1
  have c0l : 0 < C.length := by omega
  have kcl : kq < C.length := by omega
  have sl := st_len (C := C) (row := ix T.2 lq)
  have kl := (hc.all _ (ix_mem k0 kcl)).1
  have key := for_inv (g := md.g) (Φ := md.Φ (n + 1)) (tg := .one 7) (body := b__law_filed_L0) (f := D.int) (xs := irange 0 (ix C 0).length) (pre := [])
    (ρ := [some (.val (encS T d C)), some (.val (.int kq)), some (.val (.int lq)), some (.val (encT T)), some (.val (.int d)), some (.val (tII C)), some (.val (.tup [])), none, none, none])
    (I := fun p ρ => ∃ (j7 j8 : Option R), (p.all fun c => !(deepL (zc T C (kq, lq) c)).isEmpty) = true ∧ ρ = [some (.val (encS T d C)), some (.val (.int kq)), some (.val (.int lq)), some (.val (encT T)), some (.val (.int d)), some (.val (tII C)), some (.val (tI (p.map fun c => hd0 (deepL (zc T C (kq, lq) c))))), j7, j8, none])
    (T := fun v ρ2 => v = .val .non ∧ filO (zl T C (kq, lq)) = none) (by
    rintro p cz q _ e ⟨j7, j8, hp, rfl⟩
    have hm : cz ∈ irange 0 (ix C 0).length := mem_mid (p := p) (q := q) (by simpa using e)
    rw [mem_irange] at hm
    have l2 := congrArg List.length e
    rw [List.length_append, List.length_append, List.length_cons, List.length_nil, len_irange] at l2
    have sa := st_at (C := C) (row := ix T.2 lq) hm.1 hm.2
    have sln := stack_len hc r d4 hm.1 hm.2
    have ed : ((usort ((ix T.2 lq).map fun k => ix (ix C k) cz)).filter fun x => decide (ix (ix C kq) cz ≤ x)) = deepL (zc T C (kq, lq) cz) := rfl
    refine ⟨_, rfl, ?_⟩
    cases hd : deepL (zc T C (kq, lq) cz) with
    | nil =>
      refine .inr ⟨.val .non, [some (.val (encS T d C)), some (.val (.int kq)), some (.val (.int lq)), some (.val (encT T)), some (.val (.int d)), some (.val (tII C)), some (.val (tI (p.map fun c => hd0 (deepL (zc T C (kq, lq) c))))), some (.val (.int cz)), some (.lst []), none], ?_, rfl, filO_none hm.1 hm.2 hd⟩
      simp -implicitDefEqProofs +contextual (disch := first | omega | (simp -implicitDefEqProofs +contextual (disch := first | omega | (simp -implicitDefEqProofs +contextual (disch := omega) [-List.map_map, -List.any_map, -List.all_map, -List.any_filter, -List.all_filter, -List.length_flatMap, -List.all_eq_true, -List.any_eq_true, -List.all_eq_false, -List.any_eq_false, b__law_filed_L0, ks, l0, l1, hm.1, hm.2, sl, sa, sln, k0, kcl, kl, ed, hd]; try omega; done)) [-List.map_map, -List.any_map, -List.all_map, -List.any_filter, -List.all_filter, -List.length_flatMap, -List.all_eq_true, -List.any_eq_true, -List.all_eq_false, -List.any_eq_false, b__law_filed_L0, ks, l0, l1, hm.1, hm.2, sl, sa, sln, k0, kcl, kl, ed, hd]; try omega; done)) [-List.map_map, -List.any_map, -List.all_map, -List.any_filter, -List.all_filter, -List.length_flatMap, -List.all_eq_true, -List.any_eq_true, -List.all_eq_false, -List.any_eq_false, b__law_filed_L0, ks, l0, l1, hm.1, hm.2, sl, sa, sln, k0, kcl, kl, ed, hd]
    | cons a as =>
      refine .inl ⟨[some (.val (encS T d C)), some (.val (.int kq)), some (.val (.int lq)), some (.val (encT T)), some (.val (.int d)), some (.val (tII C)), some (.val (tI ((p ++ [cz]).map fun c => hd0 (deepL (zc T C (kq, lq) c))))), some (.val (.int cz)), some (.lst ((a :: as).map .int)), none], .inl ?_, _, _, ?_, rfl⟩
      · have e0 : ix (a :: as) 0 = a := rfl
        simp -implicitDefEqProofs +contextual (disch := first | omega | (simp -implicitDefEqProofs +contextual (disch := first | omega | (simp -implicitDefEqProofs +contextual (disch := omega) [-List.map_map, -List.any_map, -List.all_map, -List.any_filter, -List.all_filter, -List.length_flatMap, -List.all_eq_true, -List.any_eq_true, -List.all_eq_false, -List.any_eq_false, b__law_filed_L0, ks, l0, l1, hm.1, hm.2, sl, sa, sln, k0, kcl, kl, ed, hd, hd0, e0]; try omega; done)) [-List.map_map, -List.any_map, -List.all_map, -List.any_filter, -List.all_filter, -List.length_flatMap, -List.all_eq_true, -List.any_eq_true, -List.all_eq_false, -List.any_eq_false, b__law_filed_L0, ks, l0, l1, hm.1, hm.2, sl, sa, sln, k0, kcl, kl, ed, hd, hd0, e0]; try omega; done)) [-List.map_map, -List.any_map, -List.all_map, -List.any_filter, -List.all_filter, -List.length_flatMap, -List.all_eq_true, -List.any_eq_true, -List.all_eq_false, -List.any_eq_false, b__law_filed_L0, ks, l0, l1, hm.1, hm.2, sl, sa, sln, k0, kcl, kl, ed, hd, hd0, e0]
      · rw [List.all_append, hp]
        simp [hd]) ⟨_, _, rfl, rfl⟩
  rcases key with ⟨_, ke, j7, j8, hp, rfl⟩ | ⟨v, ρ2, ke, rfl, hf⟩
  · have hf := filO_some (T := T) (C := C) (q := (kq, lq)) (by simpa using hp)
    rw [phi_v (d := d__law_filed) rfl rfl]
    simp -implicitDefEqProofs +contextual (disch := first | omega | (simp -implicitDefEqProofs +contextual (disch := first | omega | (simp -implicitDefEqProofs +contextual (disch := omega) [-List.map_map, -List.any_map, -List.all_map, -List.any_filter, -List.all_filter, -List.length_flatMap, -List.all_eq_true, -List.any_eq_true, -List.all_eq_false, -List.any_eq_false, d__law_filed, b__law_filed, ke, c0l, k5, hf]; try omega; done)) [-List.map_map, -List.any_map, -List.all_map, -List.any_filter, -List.all_filter, -List.length_flatMap, -List.all_eq_true, -List.any_eq_true, -List.all_eq_false, -List.any_eq_false, d__law_filed, b__law_filed, ke, c0l, k5, hf]; try omega; done)) [-List.map_map, -List.any_map, -List.all_map, -List.any_filter, -List.all_filter, -List.length_flatMap, -List.all_eq_true, -List.any_eq_true, -List.all_eq_false, -List.any_eq_false, d__law_filed, b__law_filed, ke, c0l, k5, hf]
  · rw [phi_v (d := d__law_filed) rfl rfl]
    simp -implicitDefEqProofs +contextual (disch := first | omega | (simp -implicitDefEqProofs +contextual (disch := first | omega | (simp -implicitDefEqProofs +contextual (disch := omega) [-List.map_map, -List.any_map, -List.all_map, -List.any_filter, -List.all_filter, -List.length_flatMap, -List.all_eq_true, -List.any_eq_true, -List.all_eq_false, -List.any_eq_false, d__law_filed, b__law_filed, ke, c0l, k5, hf]; try omega; done)) [-List.map_map, -List.any_map, -List.all_map, -List.any_filter, -List.all_filter, -List.length_flatMap, -List.all_eq_true, -List.any_eq_true, -List.all_eq_false, -List.any_eq_false, d__law_filed, b__law_filed, ke, c0l, k5, hf]; try omega; done)) [-List.map_map, -List.any_map, -List.all_map, -List.any_filter, -List.all_filter, -List.length_flatMap, -List.all_eq_true, -List.any_eq_true, -List.all_eq_false, -List.any_eq_false, d__law_filed, b__law_filed, ke, c0l, k5, hf]
/-! told -/
theorem xp1 : X_InvalidPair < md.g.nx := by decide
theorem xp2 : md.g.isa X_InvalidPair X_InvalidPair = true := rfl
theorem xp3 : md.g.xf X_InvalidPair = "value" := rfl
theorem xu1 : X_Undefined < md.g.nx := by decide
theorem xu2 : md.g.isa X_Undefined X_InvalidPair = false := rfl
theorem xu3 : md.g.isa X_Undefined X_Undefined = true := rfl
theorem xu4 : md.g.xf X_Undefined = "what" := rfl
def toldD : Option (List Int) → D
  | some l => .tup [.str "told", tI l]
  | none => .tup [.str "undefined", .str "filed"]
theorem told_t {T : Tab} {d : Int} {o : Bool} {C : List (List Int)} {q : Int × Int} (hT : TOk T) (hc : COk T.1 d C) (d4 : d ≤ 4) (hq : q ∈ outsL T) : md.Φ (n + 6) F__law_told [sysR o T d C, .val (.int q.1), .val (.int q.2)] =
    .ok (.val (toldD (filO (zl T C q)))) [some (sysR o T d C), some (.val (.int q.1)), some (.val (.int q.2))] := by
  have kf := filed_t (n := n) (o := o) hT hc d4 hq
  cases h : filO (zl T C q) with
  | none =>
    rw [h] at kf
    dsimp only at kf
    rw [phi_f (d := d__law_told) rfl rfl]
    simp -implicitDefEqProofs +contextual (disch := first | omega | (simp -implicitDefEqProofs +contextual (disch := first | omega | (simp -implicitDefEqProofs +contextual (disch := omega) [-List.map_map, -List.any_map, -List.all_map, -List.any_filter, -List.all_filter, -List.length_flatMap, -List.all_eq_true, -List.any_eq_true, -List.all_eq_false, -List.any_eq_false, d__law_told, b__law_told, outsA, b__law_told_T0, kf, evHs, HE.ev, xu1, xu2, xu3, xu4, toldD]; try omega; done)) [-List.map_map, -List.any_map, -List.all_map, -List.any_filter, -List.all_filter, -List.length_flatMap, -List.all_eq_true, -List.any_eq_true, -List.all_eq_false, -List.any_eq_false, d__law_told, b__law_told, outsA, b__law_told_T0, kf, evHs, HE.ev, xu1, xu2, xu3, xu4, toldD]; try omega; done)) [-List.map_map, -List.any_map, -List.all_map, -List.any_filter, -List.all_filter, -List.length_flatMap, -List.all_eq_true, -List.any_eq_true, -List.all_eq_false, -List.any_eq_false, d__law_told, b__law_told, outsA, b__law_told_T0, kf, evHs, HE.ev, xu1, xu2, xu3, xu4, toldD]
  | some l =>
    rw [h] at kf
    dsimp only at kf
    rw [phi_f (d := d__law_told) rfl rfl]
    simp -implicitDefEqProofs +contextual (disch := first | omega | (simp -implicitDefEqProofs +contextual (disch := first | omega | (simp -implicitDefEqProofs +contextual (disch := omega) [-List.map_map, -List.any_map, -List.all_map, -List.any_filter, -List.all_filter, -List.length_flatMap, -List.all_eq_true, -List.any_eq_true, -List.all_eq_false, -List.any_eq_false, d__law_told, b__law_told, outsA, b__law_told_T0, kf, toldD]; try omega; done)) [-List.map_map, -List.any_map, -List.all_map, -List.any_filter, -List.all_filter, -List.length_flatMap, -List.all_eq_true, -List.any_eq_true, -List.all_eq_false, -List.any_eq_false, d__law_told, b__law_told, outsA, b__law_told_T0, kf, toldD]; try omega; done)) [-List.map_map, -List.any_map, -List.all_map, -List.any_filter, -List.all_filter, -List.length_flatMap, -List.all_eq_true, -List.any_eq_true, -List.all_eq_false, -List.any_eq_false, d__law_told, b__law_told, outsA, b__law_told_T0, kf, toldD]
theorem told_x {T : Tab} {d : Int} {o : Bool} {C : List (List Int)} {k l : D} (hk : k.plain = true) (hl : l.plain = true) (h : (md.Φ (n + 4) F_is_out [.val (tabD T), .val k, .val l]).v = .ok (.val (.bl false))) : md.Φ (n + 6) F__law_told [sysR o T d C, .val k, .val l] =
    .ok (.val (.tup [.str "pair", .tup [k, l]])) [some (sysR o T d C), some (.val k), some (.val l)] := by
  have kf := filed_x (n := n) (d := d) (o := o) (C := C) hk hl h
  rw [phi_f (d := d__law_told) rfl rfl]
  simp -implicitDefEqProofs +contextual (disch := first | omega | (simp -implicitDefEqProofs +contextual (disch := first | omega | (simp -implicitDefEqProofs +contextual (disch := omega) [-List.map_map, -List.any_map, -List.all_map, -List.any_filter, -List.all_filter, -List.length_flatMap, -List.all_eq_true, -List.any_eq_true, -List.all_eq_false, -List.any_eq_false, d__law_told, b__law_told, outsA, b__law_told_T0, kf, evHs, HE.ev, xp1, xp2, xp3]; try omega; done)) [-List.map_map, -List.any_map, -List.all_map, -List.any_filter, -List.all_filter, -List.length_flatMap, -List.all_eq_true, -List.any_eq_true, -List.all_eq_false, -List.any_eq_false, d__law_told, b__law_told, outsA, b__law_told_T0, kf, evHs, HE.ev, xp1, xp2, xp3]; try omega; done)) [-List.map_map, -List.any_map, -List.all_map, -List.any_filter, -List.all_filter, -List.length_flatMap, -List.all_eq_true, -List.any_eq_true, -List.all_eq_false, -List.any_eq_false, d__law_told, b__law_told, outsA, b__law_told_T0, kf, evHs, HE.ev, xp1, xp2, xp3]
abbrev env21 (S : R) (T : Tab) (d : Int) (C : List (List Int)) (B : Box) (f : List (Int × Int)) (j8 j9 j10 j11 j12 j13 j14 j15 : Option R) : Env :=
  [some S, some (.val (encS T d C)), some (.lst (bx B)), some (.val (encT T)), some (.val (.int d)), some (.val (tII C)), some (sysR true T d C), some (.lst (f.map pr)), j8, j9, j10, j11, j12, j13, j14, j15, none]
theorem law_L2 {S : R} {T : Tab} {d : Int} {C : List (List Int)} {B : Box} {j8 j9 j10 j11 j12 j13 j14 j15 : Option R} (hT : TOk T) (hc : COk T.1 d C) (d4 : d ≤ 4) : ∃ (j8' j9' j13' j14' j15' : Option R),
    forE md.g (md.Φ (n + 6)) (.many [8, 9]) b_law_L2 ((outsL T).map pr) (env21 S T d C B [] j8 j9 j10 j11 j12 j13 j14 j15) =
      .nx (env21 S T d C B ((outsL T).filter fun q => (filO (zl T C q)).isSome) j8' j9' j10 j11 j12 j13' j14' j15') := by
  have key := for_inv (g := md.g) (Φ := md.Φ (n + 6)) (tg := .many [8, 9]) (body := b_law_L2) (f := pr) (xs := outsL T) (pre := []) (ρ := env21 S T d C B [] j8 j9 j10 j11 j12 j13 j14 j15)
    (I := fun p ρ => ∃ (j8' j9' j13' j14' j15' : Option R), ρ = env21 S T d C B (p.filter fun q => (filO (zl T C q)).isSome) j8' j9' j10 j11 j12 j13' j14' j15') (T := fun _ _ => False) (by
    rintro p ⟨kq, lq⟩ q2 _ e ⟨j8', j9', j13', j14', j15', rfl⟩
    have hq := mem_mid (p := p) (q := q2) (l := outsL T) (by simpa using e)
    have kf := law_filed_t (n := n + 4) hT hc d4 hq
    have kt := told_t (n := n) (o := true) hT hc d4 hq
    have hq' := mem_outs.mp hq
    dsimp only at hq' kf kt
    obtain ⟨⟨k0, k1⟩, ⟨l0, l1⟩, _⟩ := hq'
    have hb := bar_iff (T := T) (C := C) (q := (kq, lq)) hT l0 l1
    have r := row_of hT l0 l1
    have ks := law_stacks_t (n := n + 5) hc r hT.m5 d4
    have cl := hc.len
    have k5 := hc.k5
    have m1 := hc.m1
    have c0l : 0 < C.length := by omega
    have kcl : kq < C.length := by omega
    have sl := st_len (C := C) (row := ix T.2 lq)
    have kl := (hc.all _ (ix_mem k0 kcl)).1
    have ol := outs_len hT
    have l2 := congrArg List.length e
    rw [List.length_append, List.length_append, List.length_cons, List.length_nil] at l2
    have fl := List.length_filter_le (fun q => (filO (zl T C q)).isSome) p
    have mm : ∀ c : Int, maxI (usort ((ix T.2 lq).map fun k => ix (ix C k) c)) = some (mx (usort ((ix T.2 lq).map fun k => ix (ix C k) c))) := fun c => maxI_mx (usort_ne (by intro e; exact r.ne (List.map_eq_nil_iff.mp e)))
    have sa : ∀ c : Int, 0 ≤ c → c < (ix C 0).length → ix (stacksL C (ix T.2 lq)) c = usort ((ix T.2 lq).map fun k => ix (ix C k) c) := fun c h0 h1 => st_at h0 h1
    have kc : compE md.g (md.Φ (n + 6)) (.var 16) [16] (.one 16) (.som (.cmp .Gt (.idx (.idx (.var 5) (.var 8)) (.var 16)) (.cb .max (.cons (.idx (.var 14) (.var 16)) .nil)))) ((irange 0 (ix C 0).length).map .int)
        (env21 S T d C B (p.filter fun q => (filO (zl T C q)).isSome) (some (.val (.int kq))) (some (.val (.int lq))) j10 j11 j12 (some (.val (oD (filO (zl T C (kq, lq)))))) (some (.val (tII (stacksL C (ix T.2 lq))))) j15') =
        .ok (.lst ((barL T C (kq, lq)).map .int)) (env21 S T d C B (p.filter fun q => (filO (zl T C q)).isSome) (some (.val (.int kq))) (some (.val (.int lq))) j10 j11 j12 (some (.val (oD (filO (zl T C (kq, lq)))))) (some (.val (tII (stacksL C (ix T.2 lq))))) j15') := by
      refine comp1_of (fun c => decide (mx (usort ((ix T.2 lq).map fun k => ix (ix C k) c)) < ix (ix C kq) c)) .int ?_ ?_ ?_ ?_
      · simp
      · rw [len_irange]; omega
      · intro cz hcz
        rw [mem_irange] at hcz
        simp -implicitDefEqProofs +contextual (disch := first | omega | (simp -implicitDefEqProofs +contextual (disch := first | omega | (simp -implicitDefEqProofs +contextual (disch := omega) [-List.map_map, -List.any_map, -List.all_map, -List.any_filter, -List.all_filter, -List.length_flatMap, -List.all_eq_true, -List.any_eq_true, -List.all_eq_false, -List.any_eq_false, k0, kcl, kl, hcz.1, hcz.2, sl, sa, mm]; try omega; done)) [-List.map_map, -List.any_map, -List.all_map, -List.any_filter, -List.all_filter, -List.length_flatMap, -List.all_eq_true, -List.any_eq_true, -List.all_eq_false, -List.any_eq_false, k0, kcl, kl, hcz.1, hcz.2, sl, sa, mm]; try omega; done)) [-List.map_map, -List.any_map, -List.all_map, -List.any_filter, -List.all_filter, -List.length_flatMap, -List.all_eq_true, -List.any_eq_true, -List.all_eq_false, -List.any_eq_false, k0, kcl, kl, hcz.1, hcz.2, sl, sa, mm]
      · intro cz _ _
        rfl
    cases hf : filO (zl T C (kq, lq)) with
    | none =>
      rw [hf] at kf kt hb kc
      rw [oD_n] at kf kc
      refine ⟨_, rfl, .inl ⟨env21 S T d C B (p.filter fun q => (filO (zl T C q)).isSome) (some (.val (.int kq))) (some (.val (.int lq))) j10 j11 j12 (some (.val .non)) (some (.val (tII (stacksL C (ix T.2 lq))))) (some (.lst ((barL T C (kq, lq)).map .int))), .inl ?_, _, _, _, _, _, by rw [filt_app, if_neg (by rw [hf]; simp)]⟩⟩
      have hb2 : (barL T C (kq, lq)).isEmpty = false := hb
      unfold env21 at kc ⊢
      simp -implicitDefEqProofs +contextual (disch := first | omega | (simp -implicitDefEqProofs +contextual (disch := first | omega | (simp -implicitDefEqProofs +contextual (disch := omega) [-List.map_map, -List.any_map, -List.all_map, -List.any_filter, -List.all_filter, -List.length_flatMap, -List.all_eq_true, -List.any_eq_true, -List.all_eq_false, -List.any_eq_false, b_law_L2, kf, kt, ks, l0, l1, c0l, k5, kc, toldD, hb2, -List.isEmpty_iff, -List.isEmpty_eq_false_iff]; try omega; done)) [-List.map_map, -List.any_map, -List.all_map, -List.any_filter, -List.all_filter, -List.length_flatMap, -List.all_eq_true, -List.any_eq_true, -List.all_eq_false, -List.any_eq_false, b_law_L2, kf, kt, ks, l0, l1, c0l, k5, kc, toldD, hb2, -List.isEmpty_iff, -List.isEmpty_eq_false_iff]; try omega; done)) [-List.map_map, -List.any_map, -List.all_map, -List.any_filter, -List.all_filter, -List.length_flatMap, -List.all_eq_true, -List.any_eq_true, -List.all_eq_false, -List.any_eq_false, b_law_L2, kf, kt, ks, l0, l1, c0l, k5, kc, toldD, hb2, -List.isEmpty_iff, -List.isEmpty_eq_false_iff]
    | some fl2 =>
      rw [hf] at kf kt hb kc
      rw [oD_s] at kf kc
      have hb2 : (barL T C (kq, lq)).isEmpty = true := hb
      refine ⟨_, rfl, .inl ⟨env21 S T d C B ((p.filter fun q => (filO (zl T C q)).isSome) ++ [(kq, lq)]) (some (.val (.int kq))) (some (.val (.int lq))) j10 j11 j12 (some (.val (tI fl2))) (some (.val (tII (stacksL C (ix T.2 lq))))) (some (.lst ((barL T C (kq, lq)).map .int))), .inl ?_, _, _, _, _, _, by rw [filt_app, if_pos (by rw [hf]; rfl)]⟩⟩
      unfold env21 at kc ⊢
      simp -implicitDefEqProofs +contextual (disch := first | omega | (simp -implicitDefEqProofs +contextual (disch := first | omega | (simp -implicitDefEqProofs +contextual (disch := omega) [-List.map_map, -List.any_map, -List.all_map, -List.any_filter, -List.all_filter, -List.length_flatMap, -List.all_eq_true, -List.any_eq_true, -List.all_eq_false, -List.any_eq_false, b_law_L2, kf, kt, ks, l0, l1, c0l, k5, kc, toldD, hb2, -List.isEmpty_iff, -List.isEmpty_eq_false_iff, pr]; try omega; done)) [-List.map_map, -List.any_map, -List.all_map, -List.any_filter, -List.all_filter, -List.length_flatMap, -List.all_eq_true, -List.any_eq_true, -List.all_eq_false, -List.any_eq_false, b_law_L2, kf, kt, ks, l0, l1, c0l, k5, kc, toldD, hb2, -List.isEmpty_iff, -List.isEmpty_eq_false_iff, pr]; try omega; done)) [-List.map_map, -List.any_map, -List.all_map, -List.any_filter, -List.all_filter, -List.length_flatMap, -List.all_eq_true, -List.any_eq_true, -List.all_eq_false, -List.any_eq_false, b_law_L2, kf, kt, ks, l0, l1, c0l, k5, kc, toldD, hb2, -List.isEmpty_iff, -List.isEmpty_eq_false_iff, pr]) ⟨_, _, _, _, _, rfl⟩
  rcases key with ⟨_, ke, j8', j9', j13', j14', j15', rfl⟩ | ⟨_, _, _, f⟩
  · exact ⟨j8', j9', j13', j14', j15', by simpa using ke⟩
  · exact f.elim
theorem told_row {T : Tab} {d : Int} {o : Bool} {C : List (List Int)} {k l : Int} (hT : TOk T) (h0 : 0 ≤ l) (h1 : l < T.2.length) (hk : k ∈ ix T.2 l) : md.Φ (n + 6) F__law_told [sysR o T d C, .val (.int k), .val (.int l)] =
    .ok (.val (.tup [.str "pair", .tup [.int k, .int l]])) [some (sysR o T d C), some (.val (.int k)), some (.val (.int l))] :=
  told_x rfl rfl (by rw [is_out_i]; simp [hk])
theorem told_k {T : Tab} {d : Int} {o : Bool} {C : List (List Int)} {k : D} (hk : k.plain = true) (h : wI k 0 (T.1 - 1) = false) : md.Φ (n + 6) F__law_told [sysR o T d C, .val k, .val (.int 0)] =
    .ok (.val (.tup [.str "pair", .tup [k, .int 0]])) [some (sysR o T d C), some (.val k), some (.val (.int 0))] :=
  told_x hk rfl (is_out_k hk h)
theorem told_l {T : Tab} {d : Int} {o : Bool} {C : List (List Int)} {l : D} (hT : TOk T) (hl : l.plain = true) (h : wI l 0 (T.2.length - 1) = false) : md.Φ (n + 6) F__law_told [sysR o T d C, .val (.int 0), .val l] =
    .ok (.val (.tup [.str "pair", .tup [.int 0, l]])) [some (sysR o T d C), some (.val (.int 0)), some (.val l)] :=
  told_x rfl hl (is_out_l rfl hl (by have := hT.m1; show within 0 0 (T.1 - 1) = true; unfold within; simp only [Bool.and_eq_true, decide_eq_true_eq]; omega) h)
theorem law_L1 {S : R} {T : Tab} {d : Int} {C : List (List Int)} {B : Box} {f : List (Int × Int)} {j8 j9 j10 j11 j12 j13 j14 j15 : Option R} (hT : TOk T) : ∃ (j' : Option R × Option R),
    forE md.g (md.Φ (n + 6)) (.one 9) b_law_L1 ((irange 0 T.2.length).map .int) (env21 S T d C B f j8 j9 j10 j11 j12 j13 j14 j15) =
      .nx (env21 S T d C B f j'.1 j'.2 j10 j11 j12 j13 j14 j15) := by
  refine for_pre (J := Option R × Option R) (j := (j8, j9)) (E := fun _ j => env21 S T d C B f j.1 j.2 j10 j11 j12 j13 j14 j15) ?_
  intro p lz q j e
  have hm := mem_mid e
  rw [mem_irange] at hm
  have r := row_of hT hm.1 hm.2
  have rl := row_len r
  have r0 : 0 < (ix T.2 lz).length := List.length_pos_iff.mpr r.ne
  have kt := told_row (n := n) (d := d) (o := true) (C := C) hT hm.1 hm.2 (k := ix (ix T.2 lz) 0) (ix_mem (by omega) (by omega))
  refine ⟨_, (some (.val (.int (ix (ix T.2 lz) 0))), some (.val (.int lz))), rfl, .inl ?_⟩
  simp -implicitDefEqProofs +contextual (disch := first | omega | (simp -implicitDefEqProofs +contextual (disch := first | omega | (simp -implicitDefEqProofs +contextual (disch := omega) [-List.map_map, -List.any_map, -List.all_map, -List.any_filter, -List.all_filter, -List.length_flatMap, -List.all_eq_true, -List.any_eq_true, -List.all_eq_false, -List.any_eq_false, b_law_L1, hm.1, hm.2, r0, kt]; try omega; done)) [-List.map_map, -List.any_map, -List.all_map, -List.any_filter, -List.all_filter, -List.length_flatMap, -List.all_eq_true, -List.any_eq_true, -List.all_eq_false, -List.any_eq_false, b_law_L1, hm.1, hm.2, r0, kt]; try omega; done)) [-List.map_map, -List.any_map, -List.all_map, -List.any_filter, -List.all_filter, -List.length_flatMap, -List.all_eq_true, -List.any_eq_true, -List.all_eq_false, -List.any_eq_false, b_law_L1, hm.1, hm.2, r0, kt]
theorem law_L0 {S : R} {T : Tab} {d : Int} {C : List (List Int)} {B : Box} {f : List (Int × Int)} {j8 j9 j10 j11 j12 j13 j14 j15 : Option R} (hT : TOk T) :
    forE md.g (md.Φ (n + 6)) (.one 10) b_law_L0 [.int (-1), .non, .bl true, .str "0", tI [0], .int 9] (env21 S T d C B f j8 j9 j10 j11 j12 j13 j14 j15) =
      .nx (env21 S T d C B f j8 j9 (some (.val (.int 9))) j11 j12 j13 j14 j15) := by
  have m5 := hT.m5
  have r5 := hT.r5
  have w1 : wI (.int (-1)) 0 (T.1 - 1) = false := by simp [within]
  have w9 : wI (.int 9) 0 (T.1 - 1) = false := by simp [within]; omega
  have v1 : wI (.int (-1)) 0 (T.2.length - 1) = false := by simp [within]
  have v9 : wI (.int 9) 0 (T.2.length - 1) = false := by simp [within]; omega
  have a1 := told_k (n := n) (d := d) (o := true) (C := C) rfl w1
  have a2 := told_k (n := n) (T := T) (d := d) (o := true) (C := C) (k := .non) rfl rfl
  have a3 := told_k (n := n) (T := T) (d := d) (o := true) (C := C) (k := .bl true) rfl rfl
  have a4 := told_k (n := n) (T := T) (d := d) (o := true) (C := C) (k := .str "0") rfl rfl
  have a5 := told_k (n := n) (T := T) (d := d) (o := true) (C := C) (k := tI [0]) rfl rfl
  have a6 := told_k (n := n) (d := d) (o := true) (C := C) rfl w9
  have b1 := told_l (n := n) (d := d) (o := true) (C := C) hT rfl v1
  have b2 := told_l (n := n) (T := T) (d := d) (o := true) (C := C) (l := .non) hT rfl rfl
  have b3 := told_l (n := n) (T := T) (d := d) (o := true) (C := C) (l := .bl true) hT rfl rfl
  have b4 := told_l (n := n) (T := T) (d := d) (o := true) (C := C) (l := .str "0") hT rfl rfl
  have b5 := told_l (n := n) (T := T) (d := d) (o := true) (C := C) (l := tI [0]) hT rfl rfl
  have b6 := told_l (n := n) (d := d) (o := true) (C := C) hT rfl v9
  simp -implicitDefEqProofs +contextual (disch := first | omega | (simp -implicitDefEqProofs +contextual (disch := first | omega | (simp -implicitDefEqProofs +contextual (disch := omega) [-List.map_map, -List.any_map, -List.all_map, -List.any_filter, -List.all_filter, -List.length_flatMap, -List.all_eq_true, -List.any_eq_true, -List.all_eq_false, -List.any_eq_false, b_law_L0, a1, a2, a3, a4, a5, a6, b1, b2, b3, b4, b5, b6]; try omega; done)) [-List.map_map, -List.any_map, -List.all_map, -List.any_filter, -List.all_filter, -List.length_flatMap, -List.all_eq_true, -List.any_eq_true, -List.all_eq_false, -List.any_eq_false, b_law_L0, a1, a2, a3, a4, a5, a6, b1, b2, b3, b4, b5, b6]; try omega; done)) [-List.map_map, -List.any_map, -List.all_map, -List.any_filter, -List.all_filter, -List.length_flatMap, -List.all_eq_true, -List.any_eq_true, -List.all_eq_false, -List.any_eq_false, b_law_L0, a1, a2, a3, a4, a5, a6, b1, b2, b3, b4, b5, b6]
theorem law_t {ns : List Int} (hn : ns.length ≤ 63) : (md.Φ 8 F_law [.val (.lst (ns.map .int))]).v = .ok (.val (.bl true)) := by
  obtain ⟨T, d, C, hT, d2, d4, hc, hf, ks⟩ := system_t (n := 2) hn
  have b0 := boxS_ok (ns := ns) (k := 4) (by omega)
  have kt := law_take (n := 6) (m := 3) b0 (by decide) (by decide)
  generalize ht : (tk (boxS ns 4) 3).1 = tt at kt
  generalize hB : (tk (boxS ns 4) 3).2 = B at kt
  have ko := law_outs_t (n := 6) hT
  have r5 := hT.r5
  by_cases h0 : tt = 0
  · obtain ⟨ps, fi, kf⟩ := fewest_t (n := 3) (b := false) hT d2 d4
    rw [kindS_f] at kf
    have po := fi.pok hT
    have kc := cuts_of_t (n := 6) po hT.m1 hT.m5
    have hc' := cutsOf_ok po hT.m1
    have hf' : fitB T (cutsOf ps) = true := cutsOf_fit hT po fun q hq => by
      obtain ⟨p, hp, hk⟩ := fi.cov q hq
      exact ⟨p, hp, deep_plain hk⟩
    have km := law_made (n := 0) hT d2 d4 hc' hf'
    have kh := threats_t (n := 4) (o := true) hT hc' d4
    have he : ((outsL T).filter fun q => (filO (zl T (cutsOf ps) q)).isSome) = [] := by
      rw [List.filter_eq_nil_iff]
      intro q hq
      obtain ⟨p, hp, hk⟩ := fi.cov q hq
      obtain ⟨c, c0, c1, rfl⟩ := mem_ix hp
      have hl : (ix (cutsOf ps) 0).length = ps.length := by
        rw [cutsOf_ix po (by omega) (by have := hT.m1; omega)]
        unfold col
        rw [List.length_map]
      rw [deep_none hT hc' hq c0 (by rw [hl]; exact c1) (by rw [cutsOf_col po c0 c1]; exact hk)]
      simp
    obtain ⟨j8, j9, j13, j14, j15, k2⟩ := law_L2 (n := 1) (S := .val (.lst (ns.map .int))) (B := B) (j8 := none) (j9 := none) (j10 := none) (j11 := some (.val (.int ps.length))) (j12 := some (.val (tII ps))) (j13 := none) (j14 := none) (j15 := none) hT hc' d4
    obtain ⟨j', k1⟩ := law_L1 (n := 1) (S := .val (.lst (ns.map .int))) (d := d) (C := cutsOf ps) (B := B) (f := (outsL T).filter fun q => (filO (zl T (cutsOf ps) q)).isSome) (j8 := j8) (j9 := j9) (j10 := none) (j11 := some (.val (.int ps.length))) (j12 := some (.val (tII ps))) (j13 := j13) (j14 := j14) (j15 := j15) hT
    have k0 := law_L0 (n := 1) (S := .val (.lst (ns.map .int))) (d := d) (C := cutsOf ps) (B := B) (f := (outsL T).filter fun q => (filO (zl T (cutsOf ps) q)).isSome) (j8 := j'.1) (j9 := j'.2) (j10 := none) (j11 := some (.val (.int ps.length))) (j12 := some (.val (tII ps))) (j13 := j13) (j14 := j14) (j15 := j15) hT
    rw [he] at k2 k1 k0 kh
    unfold env21 at k2 k1 k0
    rw [List.map_nil] at k2 k1 k0
    rw [phi_v (d := d_law) rfl rfl]
    simp -implicitDefEqProofs +contextual (disch := first | omega | (simp -implicitDefEqProofs +contextual (disch := first | omega | (simp -implicitDefEqProofs +contextual (disch := omega) [-List.map_map, -List.any_map, -List.all_map, -List.any_filter, -List.all_filter, -List.length_flatMap, -List.all_eq_true, -List.any_eq_true, -List.all_eq_false, -List.any_eq_false, d_law, b_law, hn, ks, kt, h0, kf, kc, km, kh, ko, k2, k1, k0, r5]; try omega; done)) [-List.map_map, -List.any_map, -List.all_map, -List.any_filter, -List.all_filter, -List.length_flatMap, -List.all_eq_true, -List.any_eq_true, -List.all_eq_false, -List.any_eq_false, d_law, b_law, hn, ks, kt, h0, kf, kc, km, kh, ko, k2, k1, k0, r5]; try omega; done)) [-List.map_map, -List.any_map, -List.all_map, -List.any_filter, -List.all_filter, -List.length_flatMap, -List.all_eq_true, -List.any_eq_true, -List.all_eq_false, -List.any_eq_false, d_law, b_law, hn, ks, kt, h0, kf, kc, km, kh, ko, k2, k1, k0, r5]
  · have km := law_made (n := 0) hT d2 d4 hc hf
    have kh := threats_t (n := 4) (o := true) hT hc d4
    obtain ⟨j8, j9, j13, j14, j15, k2⟩ := law_L2 (n := 1) (S := .val (.lst (ns.map .int))) (B := B) (j8 := none) (j9 := none) (j10 := none) (j11 := none) (j12 := none) (j13 := none) (j14 := none) (j15 := none) hT hc d4
    obtain ⟨j', k1⟩ := law_L1 (n := 1) (S := .val (.lst (ns.map .int))) (d := d) (C := C) (B := B) (f := (outsL T).filter fun q => (filO (zl T C q)).isSome) (j8 := j8) (j9 := j9) (j10 := none) (j11 := none) (j12 := none) (j13 := j13) (j14 := j14) (j15 := j15) hT
    have k0 := law_L0 (n := 1) (S := .val (.lst (ns.map .int))) (d := d) (C := C) (B := B) (f := (outsL T).filter fun q => (filO (zl T C q)).isSome) (j8 := j'.1) (j9 := j'.2) (j10 := none) (j11 := none) (j12 := none) (j13 := j13) (j14 := j14) (j15 := j15) hT
    unfold env21 at k2 k1 k0
    rw [List.map_nil] at k2
    rw [phi_v (d := d_law) rfl rfl]
    simp -implicitDefEqProofs +contextual (disch := first | omega | (simp -implicitDefEqProofs +contextual (disch := first | omega | (simp -implicitDefEqProofs +contextual (disch := omega) [-List.map_map, -List.any_map, -List.all_map, -List.any_filter, -List.all_filter, -List.length_flatMap, -List.all_eq_true, -List.any_eq_true, -List.all_eq_false, -List.any_eq_false, d_law, b_law, hn, ks, kt, h0, km, kh, ko, k2, k1, k0, r5]; try omega; done)) [-List.map_map, -List.any_map, -List.all_map, -List.any_filter, -List.all_filter, -List.length_flatMap, -List.all_eq_true, -List.any_eq_true, -List.all_eq_false, -List.any_eq_false, d_law, b_law, hn, ks, kt, h0, km, kh, ko, k2, k1, k0, r5]; try omega; done)) [-List.map_map, -List.any_map, -List.all_map, -List.any_filter, -List.all_filter, -List.length_flatMap, -List.all_eq_true, -List.any_eq_true, -List.all_eq_false, -List.any_eq_false, d_law, b_law, hn, ks, kt, h0, km, kh, ko, k2, k1, k0, r5]
theorem tr {ns : List Int} (hn : ns.length ≤ 63) : ∃ outs, md.Φ 8 F_law [.val (.lst (ns.map .int))] = .ok (.val (.bl true)) outs := v_ok (law_t hn)
end KL
end
section
set_option linter.all false
set_option Elab.async false
set_option maxRecDepth 100000
set_option maxHeartbeats 0
namespace KL
open Fx PySem PySem.Spec L2
abbrev R : PySem.W.OpenRow := PySem.W.OpenLaw.row PySem.Challenge.rw_chambercuts_k21_whole_filing
abbrev hk : PySem.W.Hook := md.hook 5
def ob (s : PySem.W.SharedT) : He.AlD := md.obsG 5 (HandSHeadRun.getT s)
theorem ob_eq (s : PySem.W.SharedT) : ob s = hk.obs s.abs := md.obsG_eq (HandSHeadRun.getT_eq s)
def nm0 : List PySem.Str := ["LockError", "InvalidNumber", "InvalidLocks", "InvalidCuts", "InvalidTable", "InvalidPair", "Undefined", "is_integer", "is_within", "is_tuple", "are_within", "is_ascending", "is_rising", "is_depths", "MOST_KEYS", "MOST_LOCKS", "is_bunch", "are_rows", "Table", "is_key", "is_lock", "is_out", "outs", "MOST_CHAMBERS", "is_cut", "are_cuts", "least_stacks", "falls", "do_fit", "first_filed"]
def nm1 : List PySem.Str := ["filed", "threats", "System", "_law_box", "_law_take", "_law_pick", "_law_shuffled", "_law_drawn_table", "_law_outs", "_law_kept", "_law_partings", "_law_best_kept", "_law_fewest", "_law_cuts_of", "_law_stacks", "_law_fits", "_law_system", "_law_made", "_law_filed", "_law_told"]
def names : List PySem.Str := nm0 ++ nm1
theorem run (w : World) : HandSHeadRun.RunEq R (PySem.W.view R.prog [57]) hk ob 30000 names w := by
  intro os
  kernel_rfl

end KL
end
section
set_option linter.all false
set_option Elab.async false
set_option maxRecDepth 100000
set_option maxHeartbeats 0
open PySem PySem.W PySem.Calls PyProof.Rows
theorem ended (tr : ∀ ns : List Int, ns.length ≤ 63 → ∃ outs, KL.md.Φ 8 KL.F_law [.val (.lst (ns.map .int))] = .ok (.val (.bl true)) outs) : PySem.Challenge.rw_chambercuts_k21_whole_filing.Holds := by
  w_on; o_law
  refine HandSHeadRun.head_any (r := OpenLaw.row PySem.Challenge.rw_chambercuts_k21_whole_filing) (q := view (OpenLaw.row PySem.Challenge.rw_chambercuts_k21_whole_filing).prog [57]) (H := KL.hk) (ob := KL.ob) (M := 30000) (loose := KL.names) (d := HandSHeadRun.topDef (OpenLaw.row PySem.Challenge.rw_chambercuts_k21_whole_filing).prog 57) (kwd := []) KL.ob_eq
    (by kernel_rfl) (fun s => by kernel_rfl) KL.run (by kernel_rfl) (by kernel_rfl) (by kernel_rfl) (by rfl) (by first | assumption | decide +kernel) (by decide +kernel) ⟨rfl, rfl, rfl, rfl, rfl, by decide +kernel⟩ ?hw ?hc
  case hw => w_witness2
  case hc =>
    refine L2.walk_ofE (l := PySem.Challenge.rw_chambercuts_k21_whole_filing) (n := 63) (k := 2 * 8 + 2) (x := "script") (CX := Fx.CXu PySem.Challenge.rw_chambercuts_k21_whole_filing.prog) rfl (by decide) (by kernel_rfl) ⟨rfl, by decide, by decide⟩ ?F Fx.CXu_no
    intro w mg fa h Y G hmg0
    have hmg : mg ("law" : PySem.Str) = some (.ref fa) := by
      have e : (HandSHeadRun.topDef (OpenLaw.row PySem.Challenge.rw_chambercuts_k21_whole_filing).prog 57).name = ("law" : PySem.Str) := by kernel_rfl
      rw [← e]
      exact hmg0
    exact Fx.law_F (md := KL.md) (n := 8) (f := KL.F_law) (d := KL.d_law) (x := "script") (np := 1) Y G hmg rfl rfl rfl rfl KL.t_shape KL.t_lnk KL.t_nb KL.t_ok KL.t_eok KL.t_ba KL.t_eba tr
end
theorem PySem.Challenge.cw_chambercuts_k21_whole_filing_holds : PySem.Challenge.rw_chambercuts_k21_whole_filing.Holds :=
  ended fun _ h => KL.tr h
