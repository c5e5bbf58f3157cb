import PyProof.Rows.All
import Wide.All
import OpenK.AllK
import Wide.FinOn
import HandS.ForMost
import HandS.Flow
import HandS.Deep
import HandS.SortInts
import HandS.Wide
import HandS.RevRange
import HandS.TupAny
import HandS.IsInst
import HandS.Defaults
import KE.DataAny
import HandS.More
import HandS.Words
import HandS.WordsExc
import HandS.Head0
import HandS.Head1
import HandS.Head2
import HandS.HeadEnd
import HandS.HeadHook1
import HandS.HeadHook2
import PyProof.P3Eq
import PySem.Challenge.RW_segmentfs_k89_faults_of_trees
set_option Elab.async false
set_option linter.all false
set_option maxRecDepth 100000
set_option maxHeartbeats 0
/-! Deep values over a heap of few kinds of objects, and how they lie in the layer's abstract heap. -/
namespace Zm
open PySem PySem.Spec PyProof.Rows L2

/-- a deep value: tuples are values, lists, dicts and instances are objects by number -/
inductive Z where
  | non | bl (b : Bool) | int (i : Int) | str (x : Str) | tup (zs : List Z) | ob (a : Nat)

inductive Ob where
  | lst (zs : List Z)
  | fro (zs : List Z)
  | dct (kvs : List (Key × Z))
  | ins (c : Nat) (fs : List (Nat × Z))

abbrev Mh := List Ob
abbrev Ev := List (Option Z)

/-- classes by number, attribute names by number -/
structure Tb where
  cls : Nat → Addr
  an : Nat → Str
  anInj : ∀ i j, an i = an j → i = j

section
variable (K : PySem.W.Frag) (as : List Addr) (H : Hp)
mutual
inductive RZ : Z → V → Prop
  | non : RZ .non .non
  | bl (b : Bool) : RZ (.bl b) (.bl b)
  | int (i : Int) : RZ (.int i) (.int i)
  | str (x : Str) : RZ (.str x) (.str x)
  | tup {p : Addr} {zs : List Z} {vs : List V} : SqT K H p vs → RZs zs vs → RZ (.tup zs) (.ref p)
  | ob {a : Nat} {p : Addr} : as[a]? = some p → RZ (.ob a) (.ref p)
inductive RZs : List Z → List V → Prop
  | nil : RZs [] []
  | cons {z : Z} {zs : List Z} {v : V} {vs : List V} : RZ z v → RZs zs vs → RZs (z :: zs) (v :: vs)
end
end

/-- tuples stay, objects stay where they are -/
structure Ext (K : PySem.W.Frag) (as : List Addr) (H : Hp) (as' : List Addr) (H' : Hp) : Prop where
  as : as <+: as'
  tup : ∀ p vs, SqT K H p vs → SqT K H' p vs

section
variable {K : PySem.W.Frag} {as as' as2 : List Addr} {H H' H2 : Hp}
theorem Ext.refl : Ext K as H as H := ⟨List.prefix_rfl, fun _ _ h => h⟩
theorem Ext.trans (h : Ext K as H as' H') (g : Ext K as' H' as2 H2) : Ext K as H as2 H2 :=
  ⟨h.as.trans g.as, fun p vs q => g.tup p vs (h.tup p vs q)⟩
theorem Ext.get (h : Ext K as H as' H') {a : Nat} {p : Addr} (e : as[a]? = some p) : as'[a]? = some p := by
  obtain ⟨l, rfl⟩ := h.as
  rw [List.getElem?_append_left (by exact (List.getElem?_eq_some_iff.mp e).1)]
  exact e
mutual
theorem RZ.mono (h : Ext K as H as' H') : ∀ {z : Z} {v : V}, RZ K as H z v → RZ K as' H' z v
  | _, _, .non => .non
  | _, _, .bl b => .bl b
  | _, _, .int i => .int i
  | _, _, .str x => .str x
  | _, _, .tup q r => .tup (h.tup _ _ q) (RZs.mono h r)
  | _, _, .ob e => .ob (h.get e)
theorem RZs.mono (h : Ext K as H as' H') : ∀ {zs : List Z} {vs : List V}, RZs K as H zs vs → RZs K as' H' zs vs
  | _, _, .nil => .nil
  | _, _, .cons r rs => .cons (RZ.mono h r) (RZs.mono h rs)
end
theorem RZs.length : ∀ {zs : List Z} {vs : List V}, RZs K as H zs vs → zs.length = vs.length
  | _, _, .nil => rfl
  | _, _, .cons _ rs => by simp [RZs.length rs]
theorem RZs.append : ∀ {zs ys : List Z} {vs us : List V}, RZs K as H zs vs → RZs K as H ys us → RZs K as H (zs ++ ys) (vs ++ us)
  | _, _, _, _, .nil, q => q
  | _, _, _, _, .cons r rs, q => .cons r (RZs.append rs q)
theorem RZs.take : ∀ {zs : List Z} {vs : List V} (n : Nat), RZs K as H zs vs → RZs K as H (zs.take n) (vs.take n)
  | _, _, 0, _ => by simpa using RZs.nil
  | _, _, n + 1, .nil => .nil
  | _, _, n + 1, .cons r rs => .cons r (RZs.take n rs)
theorem RZs.drop : ∀ {zs : List Z} {vs : List V} (n : Nat), RZs K as H zs vs → RZs K as H (zs.drop n) (vs.drop n)
  | _, _, 0, q => q
  | _, _, n + 1, .nil => .nil
  | _, _, n + 1, .cons r rs => RZs.drop n rs
theorem RZs.get : ∀ {zs : List Z} {vs : List V} {i : Nat} {z : Z}, RZs K as H zs vs → zs[i]? = some z → ∃ v, vs[i]? = some v ∧ RZ K as H z v
  | _, _, _, _, .nil, e => by simp at e
  | _, _, 0, _, .cons r _, e => by simp at e; subst e; exact ⟨_, rfl, r⟩
  | _, _, i + 1, z, .cons _ rs, e => by
    obtain ⟨v, h1, h2⟩ := RZs.get (i := i) (z := z) rs (by simpa using e)
    exact ⟨v, by simpa using h1, h2⟩
theorem RZs.set {z : Z} {v : V} (r : RZ K as H z v) : ∀ {zs : List Z} {vs : List V} (i : Nat), RZs K as H zs vs → RZs K as H (zs.set i z) (vs.set i v)
  | _, _, _, .nil => .nil
  | _, _, 0, .cons _ rs => .cons r rs
  | _, _, i + 1, .cons q rs => .cons q (RZs.set r i rs)
theorem RZs.eraseIdx : ∀ {zs : List Z} {vs : List V} (i : Nat), RZs K as H zs vs → RZs K as H (zs.eraseIdx i) (vs.eraseIdx i)
  | _, _, _, .nil => .nil
  | _, _, 0, .cons _ rs => rs
  | _, _, i + 1, .cons q rs => .cons q (RZs.eraseIdx i rs)
theorem RZs.reverse {zs : List Z} {vs : List V} (h : RZs K as H zs vs) : RZs K as H zs.reverse vs.reverse := by
  induction zs generalizing vs with
  | nil => cases h; exact .nil
  | cons z zs ih =>
    cases h with
    | cons r rs =>
      rw [List.reverse_cons, List.reverse_cons]
      exact (ih rs).append (.cons r .nil)
theorem RZs.dropLast {zs : List Z} {vs : List V} (h : RZs K as H zs vs) : RZs K as H zs.dropLast vs.dropLast := by
  rw [List.dropLast_eq_take, List.dropLast_eq_take, h.length]
  exact h.take _
/-- a value stands for one deep value only as far as its top goes -/
theorem RZ.int_inv {i : Int} {v : V} (h : RZ K as H (.int i) v) : v = .int i := by cases h; rfl
theorem RZ.str_inv {x : Str} {v : V} (h : RZ K as H (.str x) v) : v = .str x := by cases h; rfl
theorem RZ.bl_inv {b : Bool} {v : V} (h : RZ K as H (.bl b) v) : v = .bl b := by cases h; rfl
theorem RZ.non_inv {v : V} (h : RZ K as H .non v) : v = .non := by cases h; rfl
theorem RZ.tup_inv {zs : List Z} {v : V} (h : RZ K as H (.tup zs) v) : ∃ p vs, v = .ref p ∧ SqT K H p vs ∧ RZs K as H zs vs := by
  cases h with
  | tup q r => exact ⟨_, _, rfl, q, r⟩
theorem RZ.ob_inv {a : Nat} {v : V} (h : RZ K as H (.ob a) v) : ∃ p, v = .ref p ∧ as[a]? = some p := by
  cases h with
  | ob e => exact ⟨_, rfl, e⟩
theorem RZ.isNon {z : Z} {v : V} (h : RZ K as H z v) : decide (v = .non) = (match z with | .non => true | _ => false) := by
  cases h <;> simp
theorem RZs.ints_inv : ∀ {ns : List Int} {vs : List V}, RZs K as H (ns.map Z.int) vs → vs = ns.map V.int
  | [], _, h => by cases h; rfl
  | n :: ns, _, h => by
    cases h with
    | cons r rs => rw [RZ.int_inv r, RZs.ints_inv rs]; rfl
theorem RZs.ints : ∀ (ns : List Int), RZs K as H (ns.map Z.int) (ns.map V.int)
  | [] => .nil
  | n :: ns => .cons (.int n) (RZs.ints ns)
theorem RZs.rep {z : Z} {v : V} (h : RZ K as H z v) : ∀ n, RZs K as H (List.replicate n z) (List.replicate n v)
  | 0 => .nil
  | n + 1 => .cons h (RZs.rep h n)
theorem RZs.flat : ∀ {n : Nat} {zs : List Z} {vs : List V}, RZs K as H zs vs → RZs K as H (List.replicate n zs).flatten (List.replicate n vs).flatten
  | 0, _, _, _ => .nil
  | n + 1, _, _, h => by
    rw [List.replicate_succ, List.replicate_succ, List.flatten_cons, List.flatten_cons]
    exact h.append (RZs.flat h)
end

/-- entries of a dict, fields of an instance -/
abbrev RKs (K : PySem.W.Frag) (as : List Addr) (H : Hp) : List (Key × Z) → List (Key × V) → Prop :=
  Paired fun p q => p.1 = q.1 ∧ RZ K as H p.2 q.2
abbrev RFs (T : Tb) (K : PySem.W.Frag) (as : List Addr) (H : Hp) : List (Nat × Z) → List (Str × V) → Prop :=
  Paired fun p q => T.an p.1 = q.1 ∧ RZ K as H p.2 q.2
/-- a written list -/
def KL (K : PySem.W.Frag) (a : Addr) (xs : List V) : Prop :=
  ∃ (o : Obj) (its : Array Value) (n : Nat), K.lookup a = some o ∧ o.cls = .type "list" ∧ o.dict = none ∧ o.data = .seq its n ∧ its.size ≤ sizeLine ∧ Vals xs its.toList
/-- an object -/
def RO (T : Tb) (K : PySem.W.Frag) (as : List Addr) (H : Hp) : Ob → Addr → Prop
  | .lst zs, p => ∃ vs, H p = some (.lst vs) ∧ RZs K as H zs vs
  | .fro zs, p => ∃ vs, ((∃ o, H p = some (.frz o (.lst vs))) ∨ KL K p vs) ∧ RZs K as H zs vs
  | .dct kvs, p => ∃ kws, H p = some (.dK kws) ∧ RKs K as H kvs kws
  | .ins c fs, p => ∃ dx gs, H p = some (.ins (T.cls c) dx gs) ∧ RFs T K as H fs gs ∧ Cls K (T.cls c) ∧ ∀ q ∈ fs, NoAttr K (T.cls c) (T.an q.1)
structure RH (T : Tb) (K : PySem.W.Frag) (as : List Addr) (H : Hp) (h : Mh) : Prop where
  len : as.length = h.length
  nd : ∀ (a b : Nat) p, as[a]? = some p → as[b]? = some p → a = b ∨ (∃ zs, h[a]? = some (.fro zs)) ∨ ∃ zs, h[b]? = some (.fro zs)
  ob : ∀ (a : Nat) p o, as[a]? = some p → h[a]? = some o → RO T K as H o p

section
variable {T : Tb} {K : PySem.W.Frag} {as as' as2 : List Addr} {H H' H2 : Hp} {h h' : Mh}
theorem RKs.mono (e : Ext K as H as' H') {x : List (Key × Z)} {y : List (Key × V)} (r : RKs K as H x y) : RKs K as' H' x y :=
  Paired.mapP r fun _ _ q => ⟨q.1, q.2.mono e⟩
theorem RFs.mono (e : Ext K as H as' H') {x : List (Nat × Z)} {y : List (Str × V)} (r : RFs T K as H x y) : RFs T K as' H' x y :=
  Paired.mapP r fun _ _ q => ⟨q.1, q.2.mono e⟩
/-- what stands at p stays -/
theorem RO.mono (e : Ext K as H as' H') {o : Ob} {p : Addr} (hp : H' p = H p) (r : RO T K as H o p) : RO T K as' H' o p := by
  cases o with
  | lst zs => obtain ⟨vs, a, b⟩ := r; exact ⟨vs, by rw [hp]; exact a, b.mono e⟩
  | fro zs => obtain ⟨vs, a, b⟩ := r; exact ⟨vs, by rw [hp]; exact a, b.mono e⟩
  | dct kvs => obtain ⟨vs, a, b⟩ := r; exact ⟨vs, by rw [hp]; exact a, RKs.mono e b⟩
  | ins c fs => obtain ⟨dx, gs, a, b, c⟩ := r; exact ⟨dx, gs, by rw [hp]; exact a, RFs.mono e b, c⟩
theorem RO.any {o : Ob} {p : Addr} (r : RO T K as H o p) : (∃ u, H p = some u) ∨ ∃ zs vs, o = .fro zs ∧ KL K p vs ∧ RZs K as H zs vs := by
  cases o with
  | lst zs => obtain ⟨vs, a, b⟩ := r; exact .inl ⟨_, a⟩
  | fro zs =>
    obtain ⟨vs, a, b⟩ := r
    rcases a with ⟨o, a⟩ | a
    · exact .inl ⟨_, a⟩
    · exact .inr ⟨zs, vs, rfl, a, b⟩
  | dct kvs => obtain ⟨vs, a, b⟩ := r; exact .inl ⟨_, a⟩
  | ins c fs => obtain ⟨dx, gs, a, b⟩ := r; exact .inl ⟨_, a⟩
/-- tuples stay when a new object is laid -/
theorem tup_new {p : Addr} {o : HO} (hp : H p = none) : ∀ q vs, SqT K H q vs → SqT K (upd H p o) q vs := by
  intro q vs r
  rcases r with (r | ⟨ob, r⟩) | r
  · exact .inl (.inl (by rw [upd_ne (ne_of_none r hp)]; exact r))
  · exact .inl (.inr ⟨ob, by rw [upd_ne (ne_of_none r hp)]; exact r⟩)
  · exact .inr r
/-- .. and when a list, a dict, an instance is changed -/
theorem tup_set {p : Addr} {o : HO} (hp : Mut (H p)) : ∀ q vs, SqT K H q vs → SqT K (upd H p o) q vs := by
  intro q vs r
  rcases r with (r | ⟨ob, r⟩) | r
  · refine .inl (.inl ?_)
    rw [upd_ne]
    · exact r
    · rintro rfl
      rw [r] at hp
      exact hp
  · refine .inl (.inr ⟨ob, ?_⟩)
    rw [upd_ne]
    · exact r
    · rintro rfl
      rw [r] at hp
      exact hp
  · exact .inr r
theorem Ext.new {p : Addr} {o : HO} (hp : H p = none) : Ext K as H as (upd H p o) := ⟨List.prefix_rfl, tup_new hp⟩
theorem Ext.newO {p q : Addr} {o : HO} (hp : H p = none) : Ext K as H (as ++ [q]) (upd H p o) := ⟨List.prefix_append _ _, tup_new hp⟩
theorem Ext.set {p : Addr} {o : HO} (hp : Mut (H p)) : Ext K as H as (upd H p o) := ⟨List.prefix_rfl, tup_set hp⟩
theorem RH.there (r : RH T K as H h) {a : Nat} {p : Addr} (e : as[a]? = some p) : ∃ o, h[a]? = some o ∧ RO T K as H o p := by
  have ha : a < h.length := by rw [← r.len]; exact (List.getElem?_eq_some_iff.mp e).1
  exact ⟨h[a], List.getElem?_eq_getElem ha, r.ob a p _ e (List.getElem?_eq_getElem ha)⟩
theorem RH.addr (r : RH T K as H h) {a : Nat} {o : Ob} (e : h[a]? = some o) : ∃ p, as[a]? = some p ∧ RO T K as H o p := by
  have ha : a < as.length := by rw [r.len]; exact (List.getElem?_eq_some_iff.mp e).1
  exact ⟨as[a], List.getElem?_eq_getElem ha, r.ob a _ o (List.getElem?_eq_getElem ha) e⟩
/-- what stands at q stays where p is changed -/
theorem RO.keep (e : Ext K as H as' H') {o : Ob} {q : Addr} (r : RO T K as H o q) (hq : (∃ u, H q = some u) → H' q = H q) : RO T K as' H' o q := by
  rcases r.any with h | ⟨zs, vs, rfl, h1, h2⟩
  · exact r.mono e (hq h)
  · exact ⟨vs, .inr h1, h2.mono e⟩
/-- something untracked by the numbers is laid: a tuple, an instance's dict -/
theorem RH.other (r : RH T K as H h) {p : Addr} {o : HO} (hp : H p = none) : RH T K as (upd H p o) h := by
  refine ⟨r.len, r.nd, fun a q o' e1 e2 => (r.ob a q o' e1 e2).keep (Ext.new hp) fun ⟨u, hu⟩ => upd_ne ?_⟩
  rintro rfl
  rw [hp] at hu
  cases hu
/-- a new object -/
theorem RH.push (r : RH T K as H h) {p : Addr} {o : HO} {ob : Ob} (hp : H p = none) (ho : RO T K (as ++ [p]) (upd H p o) ob p) : RH T K (as ++ [p]) (upd H p o) (h ++ [ob]) := by
  have old : ∀ {a : Nat}, a < as.length → (as ++ [p])[a]? = as[a]? ∧ (h ++ [ob])[a]? = h[a]? := fun {a} ha =>
    ⟨List.getElem?_append_left ha, List.getElem?_append_left (by rw [← r.len]; exact ha)⟩
  have new : ∀ {a : Nat} {q : Addr}, (as ++ [p])[a]? = some q → ¬ a < as.length → a = as.length ∧ q = p := fun {a q} e ha => by
    have h1 : a = as.length := by
      have := (List.getElem?_eq_some_iff.mp e).1
      simp at this
      omega
    subst h1
    rw [List.getElem?_append_right (Nat.le_refl _)] at e
    simp at e
    exact ⟨rfl, e.symm⟩
  have fro : ∀ {a : Nat}, a < as.length → as[a]? = some p → ∃ zs, h[a]? = some (.fro zs) := fun {a} ha e => by
    obtain ⟨o', h1, h2⟩ := r.there e
    rcases h2.any with ⟨u, hu⟩ | ⟨zs, vs, rfl, _⟩
    · rw [hp] at hu; cases hu
    · exact ⟨zs, h1⟩
  refine ⟨by simp [r.len], fun a b q e1 e2 => ?_, fun a q o' e1 e2 => ?_⟩
  · by_cases ha : a < as.length
    · by_cases hb : b < as.length
      · rw [(old ha).1] at e1
        rw [(old hb).1] at e2
        rw [(old ha).2, (old hb).2]
        exact r.nd a b q e1 e2
      · obtain ⟨_, rfl⟩ := new e2 hb
        rw [(old ha).1] at e1
        rw [(old ha).2]
        exact .inr (.inl (fro ha e1))
    · obtain ⟨ha2, rfl⟩ := new e1 ha
      by_cases hb : b < as.length
      · rw [(old hb).1] at e2
        rw [(old hb).2]
        exact .inr (.inr (fro hb e2))
      · obtain ⟨hb2, _⟩ := new e2 hb
        exact .inl (ha2.trans hb2.symm)
  · by_cases ha : a < as.length
    · rw [(old ha).1] at e1
      rw [(old ha).2] at e2
      refine (r.ob a q o' e1 e2).keep (Ext.newO hp) fun ⟨u, hu⟩ => upd_ne ?_
      rintro rfl
      rw [hp] at hu
      cases hu
    · obtain ⟨h1, rfl⟩ := new e1 ha
      subst h1
      rw [List.getElem?_append_right (by rw [r.len]; exact Nat.le_refl _), r.len] at e2
      simp at e2
      subst e2
      exact ho
/-- an object is changed -/
theorem RH.set (r : RH T K as H h) {a : Nat} {p : Addr} {o : HO} {ob : Ob} (e : as[a]? = some p) (hm : Mut (H p)) (ha : ∀ zs, h[a]? ≠ some (.fro zs)) (ho : RO T K as (upd H p o) ob p) : RH T K as (upd H p o) (h.set a ob) := by
  have key : ∀ b, b ≠ a → as[b]? = some p → ∃ zs vs, h[b]? = some (.fro zs) ∧ KL K p vs ∧ RZs K as H zs vs := fun b hb e2 => by
    rcases r.nd a b p e e2 with q | ⟨zs, q⟩ | ⟨zs, q⟩
    · exact absurd q.symm hb
    · exact absurd q (ha zs)
    · obtain ⟨vs, h1, h2⟩ := r.ob b p _ e2 q
      rcases h1 with ⟨o', h1⟩ | h1
      · rw [h1] at hm; exact hm.elim
      · exact ⟨zs, vs, q, h1, h2⟩
  refine ⟨by simp [r.len], fun b c q e1 e2 => ?_, fun b q o' e1 e2 => ?_⟩
  · by_cases hbc : b = c
    · exact .inl hbc
    · by_cases hb : b = a
      · subst hb
        rw [e] at e1
        cases e1
        obtain ⟨zs, _, q, _⟩ := key c (Ne.symm hbc) e2
        exact .inr (.inr ⟨zs, by rw [List.getElem?_set_ne hbc]; exact q⟩)
      · by_cases hc : c = a
        · subst hc
          rw [e] at e2
          cases e2
          obtain ⟨zs, _, q, _⟩ := key b hb e1
          exact .inr (.inl ⟨zs, by rw [List.getElem?_set_ne (Ne.symm hb)]; exact q⟩)
        · rw [List.getElem?_set_ne (Ne.symm hb), List.getElem?_set_ne (Ne.symm hc)]
          exact r.nd b c q e1 e2
  · by_cases hb : a = b
    · subst hb
      rw [e] at e1
      cases e1
      have hl : a < h.length := by rw [← r.len]; exact (List.getElem?_eq_some_iff.mp e).1
      rw [List.getElem?_set_self hl] at e2
      cases e2
      exact ho
    · rw [List.getElem?_set_ne hb] at e2
      by_cases hq : q = p
      · subst hq
        obtain ⟨zs, vs, q1, q2, q3⟩ := key b (Ne.symm hb) e1
        rw [e2] at q1
        cases q1
        exact ⟨vs, .inr q2, q3.mono (Ext.set hm)⟩
      · exact (r.ob b q o' e1 e2).keep (Ext.set hm) fun _ => upd_ne hq
end

/-! ### environments -/
structure RE (K : PySem.W.Frag) (as : List Addr) (H : Hp) (σ : L2.St) (ρ : Ev) : Prop where
  len : ρ.length = σ.length
  at_ : ∀ (i : Nat) z, ρ[i]? = some (some z) → ∃ v, σ[i]? = some (some v) ∧ RZ K as H z v
section
variable {K : PySem.W.Frag} {as as' : List Addr} {H H' : Hp} {σ : L2.St} {ρ : Ev}
theorem RE.mono (e : Ext K as H as' H') (r : RE K as H σ ρ) : RE K as' H' σ ρ :=
  ⟨r.len, fun i z q => let ⟨v, a, b⟩ := r.at_ i z q; ⟨v, a, b.mono e⟩⟩
theorem RE.set (r : RE K as H σ ρ) {z : Z} {v : V} (q : RZ K as H z v) (i : Nat) : RE K as H (σ.set i (some v)) (ρ.set i (some z)) := by
  refine ⟨by simp [r.len], fun j y e => ?_⟩
  by_cases hj : i = j
  · subst hj
    by_cases hl : i < ρ.length
    · rw [List.getElem?_set_self hl] at e
      cases e
      exact ⟨v, List.getElem?_set_self (by rw [← r.len]; exact hl), q⟩
    · rw [List.getElem?_eq_none (by simpa using hl)] at e
      cases e
  · rw [List.getElem?_set_ne hj] at e ⊢
    exact r.at_ j y e
/-- names forgotten -/
def wipeZ (ρ : Ev) : List Nat → Ev
  | [] => ρ
  | v :: vs => (wipeZ ρ vs).set v none
theorem RE.wipe (r : RE K as H σ ρ) : ∀ vs : List Nat, RE K as H (L2.wipe σ vs) (wipeZ ρ vs)
  | [] => r
  | v :: vs => by
    have ih := RE.wipe r vs
    refine ⟨by simp [wipeZ, L2.wipe, ih.len], fun j y e => ?_⟩
    show ∃ w, ((L2.wipe σ vs).set v none)[j]? = some (some w) ∧ _
    have e' : ((wipeZ ρ vs).set v none)[j]? = some (some y) := e
    by_cases hj : v = j
    · subst hj
      by_cases hl : v < (wipeZ ρ vs).length
      · rw [List.getElem?_set_self hl] at e'
        cases e'
      · rw [List.getElem?_eq_none (by simpa using hl)] at e'
        cases e'
    · rw [List.getElem?_set_ne hj] at e' ⊢
      exact ih.at_ j y e'
end
end Zm
/-! What the code means over deep values: a total function. -/
namespace Zm
open PySem PySem.Spec PyProof.Rows L2

inductive Res (α : Type) where
  | ok (x : α) (h : Mh)
  | stuck
def Res.bind {α β : Type} (r : Res α) (f : α → Mh → Res β) : Res β := match r with
  | .ok x h => f x h
  | .stuck => .stuck
theorem Res.bind_ok {α β : Type} {x : α} {h : Mh} {f : α → Mh → Res β} : (Res.ok x h).bind f = f x h := rfl
theorem Res.bind_stuck {α β : Type} {f : α → Mh → Res β} : (Res.stuck : Res α).bind f = .stuck := rfl

open Classical in
/-- go on where p holds -/
noncomputable def guard {α : Type} (p : Prop) (r : Res α) : Res α := if p then r else .stuck
theorem guard_pos {α : Type} {p : Prop} {r : Res α} (h : p) : guard p r = r := if_pos h
theorem guard_true {α : Type} {r : Res α} : guard True r = r := if_pos trivial

/-! ### data, for == and in -/
mutual
def pdZ (f : Nat → Option PyData) : Z → Option PyData
  | .non => some .none
  | .bl b => some (.bool b)
  | .int i => some (.int i)
  | .str x => some (.str x)
  | .tup zs => (pdZs f zs).map .tuple
  | .ob a => f a
def pdZs (f : Nat → Option PyData) : List Z → Option (List PyData)
  | [] => some []
  | z :: zs => match pdZ f z, pdZs f zs with
    | some d, some ds => some (d :: ds)
    | _, _ => none
end
def pdO (h : Mh) : Nat → Nat → Option PyData
  | 0, _ => none
  | n + 1, a => match h[a]? with
    | some (.lst zs) => (pdZs (pdO h n) zs).map .list
    | some (.fro zs) => (pdZs (pdO h n) zs).map .list
    | _ => none
def pd (h : Mh) (z : Z) : Option PyData := pdZ (pdO h 3) z

noncomputable def zEqB (a b : Z) (h : Mh) : Res Bool := match pd h a, pd h b with
  | some d, some e => guard (SeqAt.shaped d = true ∧ SeqAt.shaped e = true) (.ok (PyData.eqv d e) h)
  | _, _ => .stuck
noncomputable def zEq (a b : Z) (h : Mh) : Res Z := (zEqB a b h).bind fun c h => .ok (.bl c) h
noncomputable def zNe (a b : Z) (h : Mh) : Res Z := (zEqB a b h).bind fun c h => .ok (.bl (!c)) h
def zIsN : Z → Bool
  | .non => true
  | _ => false
def zIs (a b : Z) (h : Mh) : Res Z := match b with
  | .non => .ok (.bl (zIsN a)) h
  | _ => .stuck
def zIsNot (a b : Z) (h : Mh) : Res Z := match b with
  | .non => .ok (.bl (!zIsN a)) h
  | _ => .stuck
def keyZ : Z → Option Key
  | .int i => some (.inl i)
  | .str x => some (.inr x)
  | _ => none
def valZ (kvs : List (Key × Z)) (k : Key) : Option Z := (kvs.find? fun kv => decide (kv.1 = k)).map (·.2)
def putZ (kvs : List (Key × Z)) (k : Key) (z : Z) : List (Key × Z) :=
  if kvs.any (fun kv => decide (kv.1 = k)) then kvs.map (fun kv => if kv.1 = k then (kv.1, z) else kv) else kvs ++ [(k, z)]
def dropZ (kvs : List (Key × Z)) (k : Key) : List (Key × Z) := kvs.filter fun kv => decide (kv.1 ≠ k)
def flatZ : Z → Bool
  | .non => true
  | .bl _ => true
  | .int _ => true
  | .str _ => true
  | _ => false
def eqF : Z → Z → Bool
  | .non, .non => true
  | .bl a, .bl b => a == b
  | .bl a, .int b => (if a then 1 else 0) == b
  | .int a, .bl b => a == (if b then 1 else 0)
  | .int a, .int b => a == b
  | .str a, .str b => a == b
  | _, _ => false
noncomputable def zInL (x : Z) (a : Nat) (h : Mh) : Res Bool := match pd h x, pd h (.ob a) with
  | some d, some (.list ds) => guard (SeqAt.shaped d = true ∧ SeqAt.shaped (.list ds) = true) (.ok (ds.any fun z => PyData.eqv z d) h)
  | _, _ => .stuck
noncomputable def zInB (x y : Z) (h : Mh) : Res Bool := match y with
  | .tup zs => guard (flatZ x = true ∧ zs.all flatZ = true) (.ok (zs.any fun y => eqF y x) h)
  | .ob a => match h[a]? with
    | some (.dct kvs) => match keyZ x with
      | some k => .ok (valZ kvs k).isSome h
      | none => .stuck
    | some (.lst _) => zInL x a h
    | some (.fro _) => zInL x a h
    | _ => .stuck
  | _ => .stuck
noncomputable def zIn (x y : Z) (h : Mh) : Res Z := (zInB x y h).bind fun c h => .ok (.bl c) h
noncomputable def zNotIn (x y : Z) (h : Mh) : Res Z := (zInB x y h).bind fun c h => .ok (.bl (!c)) h

/-! ### operators -/
def newL (h : Mh) (zs : List Z) : Res Z := .ok (.ob h.length) (h ++ [.lst zs])
noncomputable def zAdd : Z → Z → Mh → Res Z
  | .int i, .int j, h => .ok (.int (i + j)) h
  | .str x, .str y, h => guard (x.length + y.length ≤ sizeLine) (.ok (.str (x ++ y)) h)
  | .tup xs, .tup ys, h => guard (xs.length + ys.length ≤ sizeLine) (.ok (.tup (xs ++ ys)) h)
  | .ob a, .ob b, h => match h[a]?, h[b]? with
    | some (.lst xs), some (.lst ys) => guard (xs.length + ys.length ≤ sizeLine) (newL h (xs ++ ys))
    | _, _ => .stuck
  | _, _, _ => .stuck
def zAddI : Z → Z → Mh → Res Z
  | .int i, .int j, h => .ok (.int (i + j)) h
  | _, _, _ => .stuck
def zSub : Z → Z → Mh → Res Z
  | .int i, .int j, h => .ok (.int (i - j)) h
  | _, _, _ => .stuck
noncomputable def zMul : Z → Z → Mh → Res Z
  | .int i, .int j, h => guard (CMul i j) (.ok (.int (i * j)) h)
  | .ob a, .int k, h => match h[a]? with
    | some (.lst xs) => guard (-(2 ^ 63) ≤ k ∧ k < 2 ^ 63 ∧ xs.length * k.toNat ≤ sizeLine) (newL h (List.replicate k.toNat xs).flatten)
    | _ => .stuck
  | _, _, _ => .stuck
noncomputable def zDiv : Z → Z → Mh → Res Z
  | .int i, .int j, h => guard (CDivW i j) (.ok (.int (i / j)) h)
  | _, _, _ => .stuck
noncomputable def zMod : Z → Z → Mh → Res Z
  | .int i, .int j, h => guard (0 < j) (.ok (.int (i % j)) h)
  | _, _, _ => .stuck
noncomputable def zPow : Z → Z → Mh → Res Z
  | .int i, .int j, h => guard (CPow i j) (.ok (.int (i ^ j.toNat)) h)
  | _, _, _ => .stuck
def zNeg : Z → Mh → Res Z
  | .int i, h => .ok (.int (-i)) h
  | _, _ => .stuck
def zLt : Z → Z → Mh → Res Z
  | .int i, .int j, h => .ok (.bl (decide (i < j))) h
  | _, _, _ => .stuck
def zLe : Z → Z → Mh → Res Z
  | .int i, .int j, h => .ok (.bl (decide (i ≤ j))) h
  | _, _, _ => .stuck
def zGt : Z → Z → Mh → Res Z
  | .int i, .int j, h => .ok (.bl (decide (j < i))) h
  | _, _, _ => .stuck
def zGe : Z → Z → Mh → Res Z
  | .int i, .int j, h => .ok (.bl (decide (j ≤ i))) h
  | _, _, _ => .stuck
noncomputable def zTru : Z → Mh → Res Bool
  | .non, h => .ok false h
  | .bl b, h => .ok b h
  | .int i, h => .ok (i != 0) h
  | .str x, h => guard (x.length ≤ sizeLine) (.ok ((x.length : Int) != 0) h)
  | .tup zs, h => .ok (!zs.isEmpty) h
  | .ob a, h => match h[a]? with
    | some (.lst zs) => .ok (!zs.isEmpty) h
    | some (.fro zs) => .ok (!zs.isEmpty) h
    | some (.dct kvs) => .ok (!kvs.isEmpty) h
    | _ => .stuck
/-- the items of a list or a tuple -/
def seqZ (z : Z) (h : Mh) : Option (List Z) := match z with
  | .tup zs => some zs
  | .ob a => match h[a]? with
    | some (.lst zs) => some zs
    | some (.fro zs) => some zs
    | _ => none
  | _ => none
def oRes {α : Type} (o : Option α) (h : Mh) : Res α := match o with
  | some x => .ok x h
  | none => .stuck
def zIdx (x i : Z) (h : Mh) : Res Z := match x with
  | .ob a => match h[a]? with
    | some (.dct kvs) => match keyZ i with
      | some k => oRes (valZ kvs k) h
      | none => .stuck
    | some (.lst zs) => match i with
      | .int j => oRes (atI zs j) h
      | _ => .stuck
    | some (.fro zs) => match i with
      | .int j => oRes (atI zs j) h
      | _ => .stuck
    | _ => .stuck
  | .tup zs => match i with
    | .int j => oRes (atI zs j) h
    | _ => .stuck
  | _ => .stuck
def cutZ (xs : List Z) (lo hi : Option Int) : List Z := (xs.drop (HT.sIx xs.length 0 lo)).take (HT.sIx xs.length xs.length hi - HT.sIx xs.length 0 lo)
def zSlc (x : Z) (lo hi : Option Int) (h : Mh) : Res Z := match x with
  | .tup zs => .ok (.tup (cutZ zs lo hi)) h
  | .ob a => match h[a]? with
    | some (.lst zs) => newL h (cutZ zs lo hi)
    | some (.fro zs) => newL h (cutZ zs lo hi)
    | _ => .stuck
  | _ => .stuck
/-- o[i] = z -/
noncomputable def zSet (o i z : Z) (h : Mh) : Res Unit := match o with
  | .ob a => match h[a]? with
    | some (.lst zs) => match i with
      | .int k => match ixN zs.length k with
        | some j => .ok () (h.set a (.lst (zs.set j z)))
        | none => .stuck
      | _ => .stuck
    | some (.dct kvs) => match keyZ i with
      | some k => guard (kvs.length < sizeLine) (.ok () (h.set a (.dct (putZ kvs k z))))
      | none => .stuck
    | _ => .stuck
  | _ => .stuck
def lookF (fs : List (Nat × Z)) (f : Nat) : Option Z := match fs with
  | [] => none
  | (g, z) :: r => if f = g then some z else lookF r f
def putF' (f : Nat) (z : Z) : List (Nat × Z) → List (Nat × Z)
  | [] => [(f, z)]
  | (g, y) :: r => if g = f then (g, z) :: r else (g, y) :: putF' f z r
def zFld (o : Z) (f : Nat) (h : Mh) : Res Z := match o with
  | .ob a => match h[a]? with
    | some (.ins _ fs) => oRes (lookF fs f) h
    | _ => .stuck
  | _ => .stuck
noncomputable def zSetF (fl : Nat → Nat → Bool) (o : Z) (f : Nat) (z : Z) (h : Mh) : Res Unit := match o with
  | .ob a => match h[a]? with
    | some (.ins c fs) => guard (fs.length < 1000 ∧ fl c f = true) (.ok () (h.set a (.ins c (putF' f z fs))))
    | _ => .stuck
  | _ => .stuck

/-! ### built-in functions and methods -/
inductive BF where
  | len | tuple | list | int | min | max | sorted | any | all
inductive BM where
  | append | pop0 | dget1 | dpop1 | extend | reverse
def intsOf : List Z → Option (List Int)
  | [] => some []
  | .int i :: r => (intsOf r).map (i :: ·)
  | _ :: _ => none
def keyInts : List (Key × Z) → Option (List Int)
  | [] => some []
  | (.inl i, _) :: r => (keyInts r).map (i :: ·)
  | _ :: _ => none
def sortI (ns : List Int) : List Int := ns.mergeSort (fun a b => decide (a ≤ b))
noncomputable def truths : List Z → Option (List Bool)
  | [] => some []
  | .non :: r => (truths r).map (false :: ·)
  | .bl b :: r => (truths r).map (b :: ·)
  | .int i :: r => (truths r).map ((i != 0) :: ·)
  | _ :: _ => none
noncomputable def zBF (p : BF) (zs : List Z) (h : Mh) : Res Z := match p, zs with
  | .len, [z] => match z with
    | .str x => guard (x.length ≤ sizeLine) (.ok (.int x.length) h)
    | .tup ys => .ok (.int ys.length) h
    | .ob a => match h[a]? with
      | some (.lst ys) => .ok (.int ys.length) h
      | some (.fro ys) => .ok (.int ys.length) h
      | some (.dct kvs) => .ok (.int kvs.length) h
      | _ => .stuck
    | _ => .stuck
  | .tuple, [z] => match seqZ z h with
    | some ys => .ok (.tup ys) h
    | none => .stuck
  | .list, [z] => match seqZ z h with
    | some ys => newL h ys
    | none => .stuck
  | .int, [z] => match z with
    | .int i => .ok (.int i) h
    | .bl b => .ok (.int (if b then 1 else 0)) h
    | _ => .stuck
  | .min, [.int i, .int j] => .ok (.int (if j < i then j else i)) h
  | .max, [.int i, .int j] => .ok (.int (if j > i then j else i)) h
  | .sorted, [.ob a] => match h[a]? with
    | some (.lst ys) => match intsOf ys with
      | some ns => newL h ((sortI ns).map Z.int)
      | none => .stuck
    | some (.dct kvs) => match keyInts kvs with
      | some ns => guard (ns.length < 64) (newL h ((sortI ns).map Z.int))
      | none => .stuck
    | _ => .stuck
  | .any, [z] => match seqZ z h with
    | some ys => match truths ys with
      | some bs => .ok (.bl (bs.any id)) h
      | none => .stuck
    | none => .stuck
  | .all, [z] => match seqZ z h with
    | some ys => match truths ys with
      | some bs => .ok (.bl (bs.all id)) h
      | none => .stuck
    | none => .stuck
  | _, _ => .stuck
/-- the receiver of a method is of the method's type -/
def bmOk : BM → Z → Mh → Prop
  | .dget1, .ob a, h => ∃ kvs, h[a]? = some (.dct kvs)
  | .dpop1, .ob a, h => ∃ kvs, h[a]? = some (.dct kvs)
  | _, .ob a, h => ∃ zs, h[a]? = some (.lst zs)
  | _, _, _ => False
noncomputable def zBM (p : BM) (o : Z) (zs : List Z) (h : Mh) : Res Z := match o with
  | .ob a => match p, zs with
    | .append, [z] => match h[a]? with
      | some (.lst ys) => guard (ys.length < sizeLine) (.ok .non (h.set a (.lst (ys ++ [z]))))
      | _ => .stuck
    | .extend, [.ob b] => match h[a]?, h[b]? with
      | some (.lst xs), some (.lst ys) => guard (xs.length + ys.length ≤ sizeLine) (.ok .non (h.set a (.lst (xs ++ ys))))
      | _, _ => .stuck
    | .pop0, [] => match h[a]? with
      | some (.lst ys) => match ys[ys.length - 1]? with
        | some z => .ok z (h.set a (.lst ys.dropLast))
        | none => .stuck
      | _ => .stuck
    | .reverse, [] => match h[a]? with
      | some (.lst ys) => .ok .non (h.set a (.lst ys.reverse))
      | _ => .stuck
    | .dget1, [k] => match h[a]?, keyZ k with
      | some (.dct kvs), some k => .ok ((valZ kvs k).getD .non) h
      | _, _ => .stuck
    | .dpop1, [k] => match h[a]? with
      | some (.dct kvs) => match keyZ k with
        | some k => match valZ kvs k with
          | some z => .ok z (h.set a (.dct (dropZ kvs k)))
          | none => .stuck
        | none => .stuck
      | _ => .stuck
    | _, _ => .stuck
  | _ => .stuck

/-! ### the code -/
inductive BO where
  | add | sub | mul | div | mod | pow | addI
inductive CO where
  | lt | le | gt | ge | eq | ne | is_ | isnot | in_ | notin
mutual
inductive ME where
  | var (i : Nat)
  | lit (z : Z)
  | glb (x : Str) (z : Z)
  | bin (o : BO) (a b : ME)
  | neg (a : ME)
  | cmp (o : CO) (a b : ME)
  | cmp2 (o p : CO) (a b c : ME)
  | and (a b : ME)
  | or (a b : ME)
  | not (a : ME)
  | ite (c : MX) (a b : ME)
  | tup (es : MEs)
  | lst (es : MEs)
  | dct0
  | idx (a b : ME)
  | slc (a : ME) (lo hi : MP)
  | fld (e : ME) (f : Nat)
  | call (f : Nat) (es : MEs)
  | mk (c f : Nat) (es : MEs)
  | mth (c f m : Nat) (o : ME) (es : MEs)
  | bf (p : BF) (es : MEs)
  | bm (p : BM) (o : ME) (es : MEs)
  | isT (e : ME)
  | comp (vs : List Nat) (t : MT) (it : MI) (c : MC) (e : ME)
/-- a test -/
inductive MX where
  | tr (e : ME)
  | and (a b : MX)
  | or (a b : MX)
  | not (a : MX)
/-- a comprehension's test -/
inductive MC where
  | no
  | some (c : MX)
inductive MEs where
  | nil
  | cons (e : ME) (es : MEs)
/-- an optional part -/
inductive MP where
  | no
  | some (e : ME)
/-- what is walked -/
inductive MI where
  | seq (e : ME)
  | rng1 (e : ME)
  | rng2 (a b : ME)
  | rrng1 (e : ME)
inductive MT where
  | nm (i : Nat)
  | tup (is : List Nat)
end
inductive MG where
  | nm (i : Nat)
  | tup (is : List Nat)
  | sub (o i : ME)
  | fld (o : ME) (f : Nat)
mutual
inductive MS where
  | asg (t : MG) (e : ME)
  | aug (i : Nat) (o : BO) (e : ME)
  | expr (e : ME)
  | ret (e : ME)
  | retN
  | ite (c : MX) (a b : MSs)
  | while (c : MX) (b : MSs)
  | for (t : MT) (it : MI) (b : MSs)
  | pass
  | brk
  | cont
  | never
inductive MSs where
  | nil
  | cons (s : MS) (ss : MSs)
end

inductive Fl where
  | nx (ρ : Ev)
  | brk (ρ : Ev)
  | cont (ρ : Ev)
  | ret (z : Z)

/-- a call: the def's number, its arguments -/
abbrev Cl := Nat → List Z → Mh → Res Z

noncomputable def zBin : BO → Z → Z → Mh → Res Z
  | .add => zAdd
  | .sub => zSub
  | .mul => zMul
  | .div => zDiv
  | .mod => zMod
  | .pow => zPow
  | .addI => zAddI
noncomputable def zCmp : CO → Z → Z → Mh → Res Z
  | .lt => zLt
  | .le => zLe
  | .gt => zGt
  | .ge => zGe
  | .eq => zEq
  | .ne => zNe
  | .is_ => zIs
  | .isnot => zIsNot
  | .in_ => zIn
  | .notin => zNotIn
def rngZ (lo hi : Int) : List Z := (List.range (hi - lo).toNat).map fun i : Nat => Z.int (lo + i)
def rrngZ (hi : Int) : List Z := (List.range hi.toNat).map fun i : Nat => Z.int (0 + ((hi - 0).toNat : Int) - 1 + (i : Nat) * (-1))
def setAll : List Nat → List Z → Ev → Option Ev
  | [], [], ρ => some ρ
  | i :: is, z :: zs, ρ => setAll is zs (ρ.set i (some z))
  | _, _, _ => none
def tgt : MT → Z → Ev → Mh → Res Ev
  | .nm i, z, ρ, h => .ok (ρ.set i (some z)) h
  | .tup is, .tup zs, ρ, h => oRes (setAll is zs ρ) h
  | .tup _, _, _, _ => .stuck
/-- what is walked: the items, and what is to hold while it is walked -/
structure Wk where
  items : List Z
  still : Mh → Prop
noncomputable def wkSeq (z : Z) (h : Mh) : Res Wk := match z with
  | .tup zs => .ok ⟨zs, fun _ => True⟩ h
  | .ob a => match h[a]? with
    | some (.lst zs) => .ok ⟨zs, fun h' => h'[a]? = some (.lst zs)⟩ h
    | some (.fro zs) => .ok ⟨zs, fun h' => h'[a]? = some (.fro zs)⟩ h
    | _ => .stuck
  | _ => .stuck
noncomputable def wkRng (lo hi : Z) (h : Mh) : Res Wk := match lo, hi with
  | .int i, .int j => guard (-(2 ^ 62) ≤ i ∧ i < 2 ^ 62 ∧ -(2 ^ 62) ≤ j ∧ j < 2 ^ 62) (.ok ⟨rngZ i j, fun _ => True⟩ h)
  | _, _ => .stuck
noncomputable def wkRev (hi : Z) (h : Mh) : Res Wk := match hi with
  | .int j => guard (-(2 ^ 62) ≤ j ∧ j < 2 ^ 62) (.ok ⟨rrngZ j, fun _ => True⟩ h)
  | _ => .stuck

/-- a comprehension's turns: what is made is kept in the list at D -/
noncomputable def compL (D : Nat) (st : Mh → Prop) (t : Z → Ev → Mh → Res Ev) (c : Ev → Mh → Res Bool) (e : Ev → Mh → Res Z) (ρ : Ev) : List Z → Mh → Res Z
  | [], h => guard (st h) (.ok (.ob D) h)
  | z :: zs, h => guard (st h) ((t z ρ h).bind fun ρ' h => (c ρ' h).bind fun b h =>
      if b then (e ρ' h).bind fun y h => match h[D]? with
        | some (.lst acc) => guard (acc.length < sizeLine) (compL D st t c e ρ zs (h.set D (.lst (acc ++ [y]))))
        | _ => .stuck
      else compL D st t c e ρ zs h)
noncomputable def forL (st : Mh → Prop) (t : Z → Ev → Mh → Res Ev) (b : Ev → Mh → Res Fl) : List Z → Ev → Mh → Res Fl
  | [], ρ, h => guard (st h) (.ok (.nx ρ) h)
  | z :: zs, ρ, h => guard (st h) ((t z ρ h).bind fun ρ h => (b ρ h).bind fun fl h => match fl with
    | .nx ρ => forL st t b zs ρ h
    | .cont ρ => forL st t b zs ρ h
    | .brk ρ => .ok (.nx ρ) h
    | .ret z => .ok (.ret z) h)
def whileL (c : Ev → Mh → Res Bool) (b : Ev → Mh → Res Fl) : Nat → Ev → Mh → Res Fl
  | 0, _, _ => .stuck
  | n + 1, ρ, h => (c ρ h).bind fun t h => if t then (b ρ h).bind fun fl h => (match fl with
      | .nx ρ => whileL c b n ρ h
      | .cont ρ => whileL c b n ρ h
      | .brk ρ => .ok (.nx ρ) h
      | .ret z => .ok (.ret z) h)
    else .ok (.nx ρ) h
theorem whileL_more {c : Ev → Mh → Res Bool} {b : Ev → Mh → Res Fl} : ∀ {n : Nat} {ρ : Ev} {h : Mh} {x : Fl} {h' : Mh}, whileL c b n ρ h = .ok x h' → ∀ k, whileL c b (n + k) ρ h = .ok x h'
  | 0, _, _, _, _, e, _ => by simp [whileL] at e
  | n + 1, ρ, h, x, h', e, k => by
    rw [show n + 1 + k = (n + k) + 1 by omega]
    rw [whileL] at e ⊢
    cases q : c ρ h with
    | stuck => rw [q] at e; cases e
    | ok t h1 =>
      rw [q, Res.bind_ok] at e
      rw [Res.bind_ok]
      cases t with
      | false => exact e
      | true =>
        simp only [if_true] at e ⊢
        cases q2 : b ρ h1 with
        | stuck => rw [q2] at e; cases e
        | ok g h2 =>
          rw [q2, Res.bind_ok] at e
          rw [Res.bind_ok]
          cases g with
          | nx ρ2 => exact whileL_more e k
          | cont ρ2 => exact whileL_more e k
          | brk ρ2 => exact e
          | ret z => exact e
open Classical in
/-- as many turns as it takes -/
noncomputable def whileM (c : Ev → Mh → Res Bool) (b : Ev → Mh → Res Fl) (ρ : Ev) (h : Mh) : Res Fl :=
  if hx : ∃ n x h', whileL c b n ρ h = .ok x h' then whileL c b (Classical.choose hx) ρ h else .stuck
theorem whileM_ex (c : Ev → Mh → Res Bool) (b : Ev → Mh → Res Fl) (ρ : Ev) (h : Mh) : ∃ n, whileM c b ρ h = whileL c b n ρ h := by
  unfold whileM
  split
  · exact ⟨_, rfl⟩
  · exact ⟨0, rfl⟩
theorem whileM_of {c : Ev → Mh → Res Bool} {b : Ev → Mh → Res Fl} {ρ : Ev} {h : Mh} {n : Nat} {x : Fl} {h' : Mh} (e : whileL c b n ρ h = .ok x h') : whileM c b ρ h = .ok x h' := by
  unfold whileM
  have hx : ∃ n x h', whileL c b n ρ h = .ok x h' := ⟨n, x, h', e⟩
  rw [dif_pos hx]
  obtain ⟨y, h2, e2⟩ := Classical.choose_spec hx
  have e3 := whileL_more e (Classical.choose hx)
  have e4 := whileL_more e2 n
  rw [Nat.add_comm] at e4
  rw [e2, ← e3, ← e4]

section
variable (C : Cl)
mutual
noncomputable def dE : ME → Ev → Mh → Res Z
  | .var i, ρ, h => match ρ[i]? with
    | some (some z) => .ok z h
    | _ => .stuck
  | .lit z, _, h => .ok z h
  | .glb _ z, _, h => .ok z h
  | .bin o a b, ρ, h => (dE a ρ h).bind fun x h => (dE b ρ h).bind fun y h => zBin o x y h
  | .neg a, ρ, h => (dE a ρ h).bind fun x h => zNeg x h
  | .cmp o a b, ρ, h => (dE a ρ h).bind fun x h => (dE b ρ h).bind fun y h => zCmp o x y h
  | .cmp2 o p a b c, ρ, h => (dE a ρ h).bind fun x h => (dE b ρ h).bind fun y h => (zCmp o x y h).bind fun k h => match k with
    | .bl true => (dE c ρ h).bind fun z h => zCmp p y z h
    | .bl false => .ok (.bl false) h
    | _ => .stuck
  | .and a b, ρ, h => (dE a ρ h).bind fun x h => (zTru x h).bind fun t h => if t then dE b ρ h else .ok x h
  | .or a b, ρ, h => (dE a ρ h).bind fun x h => (zTru x h).bind fun t h => if t then .ok x h else dE b ρ h
  | .not a, ρ, h => (dE a ρ h).bind fun x h => (zTru x h).bind fun t h => .ok (.bl (!t)) h
  | .ite c a b, ρ, h => (dX c ρ h).bind fun t h => if t then dE a ρ h else dE b ρ h
  | .tup es, ρ, h => (dEs es ρ h).bind fun xs h => guard (xs.length ≤ sizeLine) (.ok (.tup xs) h)
  | .lst es, ρ, h => (dEs es ρ h).bind fun xs h => guard (xs.length ≤ sizeLine) (newL h xs)
  | .dct0, _, h => .ok (.ob h.length) (h ++ [.dct []])
  | .idx a b, ρ, h => (dE a ρ h).bind fun x h => (dE b ρ h).bind fun y h => zIdx x y h
  | .slc a lo hi, ρ, h => (dE a ρ h).bind fun x h => (dP lo ρ h).bind fun l h => (dP hi ρ h).bind fun u h => zSlc x l u h
  | .fld e f, ρ, h => (dE e ρ h).bind fun x h => zFld x f h
  | .call f es, ρ, h => (dEs es ρ h).bind fun xs h => C f xs h
  | .mk c f es, ρ, h => (dEs es ρ h).bind fun xs h => (C f (.ob h.length :: xs) (h ++ [.ins c []])).bind fun y h' => match y with
    | .non => .ok (.ob h.length) h'
    | _ => .stuck
  | .mth c f m o es, ρ, h => (dE o ρ h).bind fun x h => match x with
    | .ob a => match h[a]? with
      | some (.ins c' fs) => guard (c' = c ∧ lookF fs m = none) ((dEs es ρ h).bind fun xs h => C f (.ob a :: xs) h)
      | _ => .stuck
    | _ => .stuck
  | .bf p es, ρ, h => (dEs es ρ h).bind fun xs h => zBF p xs h
  | .bm p o es, ρ, h => (dE o ρ h).bind fun x h => guard (bmOk p x h) ((dEs es ρ h).bind fun xs h => zBM p x xs h)
  | .isT e, ρ, h => (dE e ρ h).bind fun x h => match x with
    | .tup _ => .ok (.bl true) h
    | .non => .ok (.bl false) h
    | _ => .stuck
  | .comp vs t it c e, ρ, h => (dI it ρ h).bind fun w h => compL h.length w.still (tgt t) (dC c) (dE e) (wipeZ ρ vs) w.items (h ++ [.lst []])
noncomputable def dX : MX → Ev → Mh → Res Bool
  | .tr e, ρ, h => (dE e ρ h).bind fun x h => zTru x h
  | .and a b, ρ, h => (dX a ρ h).bind fun t h => if t then dX b ρ h else .ok false h
  | .or a b, ρ, h => (dX a ρ h).bind fun t h => if t then .ok true h else dX b ρ h
  | .not a, ρ, h => (dX a ρ h).bind fun t h => .ok (!t) h
noncomputable def dEs : MEs → Ev → Mh → Res (List Z)
  | .nil, _, h => .ok [] h
  | .cons e es, ρ, h => (dE e ρ h).bind fun x h => (dEs es ρ h).bind fun xs h => .ok (x :: xs) h
/-- a slice's part -/
noncomputable def dP : MP → Ev → Mh → Res (Option Int)
  | .no, _, h => .ok none h
  | .some e, ρ, h => (dE e ρ h).bind fun x h => match x with
    | .int i => .ok (some i) h
    | _ => .stuck
/-- a comprehension's test -/
noncomputable def dC : MC → Ev → Mh → Res Bool
  | .no, _, h => .ok true h
  | .some c, ρ, h => dX c ρ h
noncomputable def dI : MI → Ev → Mh → Res Wk
  | .seq e, ρ, h => (dE e ρ h).bind fun x h => wkSeq x h
  | .rng1 e, ρ, h => (dE e ρ h).bind fun x h => wkRng (.int 0) x h
  | .rng2 a b, ρ, h => (dE a ρ h).bind fun x h => (dE b ρ h).bind fun y h => wkRng x y h
  | .rrng1 e, ρ, h => (dE e ρ h).bind fun x h => wkRev x h
end
variable (fl : Nat → Nat → Bool)
noncomputable def dG : MG → Z → Ev → Mh → Res Ev
  | .nm i, z, ρ, h => .ok (ρ.set i (some z)) h
  | .tup is, z, ρ, h => tgt (.tup is) z ρ h
  | .sub o i, z, ρ, h => (dE C o ρ h).bind fun x h => (dE C i ρ h).bind fun y h => (zSet x y z h).bind fun _ h => .ok ρ h
  | .fld o f, z, ρ, h => (dE C o ρ h).bind fun x h => (zSetF fl x f z h).bind fun _ h => .ok ρ h
mutual
noncomputable def dS : MS → Ev → Mh → Res Fl
  | .asg t e, ρ, h => (dE C e ρ h).bind fun x h => (dG C fl t x ρ h).bind fun ρ h => .ok (.nx ρ) h
  | .aug i o e, ρ, h => match ρ[i]? with
    | some (some x) => (dE C e ρ h).bind fun y h => (zBin o x y h).bind fun z h => .ok (.nx (ρ.set i (some z))) h
    | _ => .stuck
  | .expr e, ρ, h => (dE C e ρ h).bind fun _ h => .ok (.nx ρ) h
  | .ret e, ρ, h => (dE C e ρ h).bind fun x h => .ok (.ret x) h
  | .retN, _, h => .ok (.ret .non) h
  | .ite c a b, ρ, h => (dX C c ρ h).bind fun t h => if t then dSs a ρ h else dSs b ρ h
  | .while c b, ρ, h => whileM (dX C c) (dSs b) ρ h
  | .for t it b, ρ, h => (dI C it ρ h).bind fun w h => forL w.still (tgt t) (dSs b) w.items ρ h
  | .pass, ρ, h => .ok (.nx ρ) h
  | .brk, ρ, h => .ok (.brk ρ) h
  | .cont, ρ, h => .ok (.cont ρ) h
  | .never, _, _ => .stuck
noncomputable def dSs : MSs → Ev → Mh → Res Fl
  | .nil, ρ, h => .ok (.nx ρ) h
  | .cons s ss, ρ, h => (dS s ρ h).bind fun fl h => match fl with
    | .nx ρ => dSs ss ρ h
    | .brk ρ => .ok (.brk ρ) h
    | .cont ρ => .ok (.cont ρ) h
    | .ret z => .ok (.ret z) h
end
/-- a def's body at its arguments: n slots -/
noncomputable def runD (n : Nat) (b : MSs) (zs : List Z) (h : Mh) : Res Z :=
  (dSs C fl b (zs.map some ++ List.replicate (n - zs.length) none) h).bind fun fl h => match fl with
  | .nx _ => .ok .non h
  | .ret z => .ok z h
  | _ => .stuck
end
structure MD where
  ps : Nat
  n : Nat
  body : MSs
/-- calls nested k deep -/
noncomputable def callK (fl : Nat → Nat → Bool) (prog : Nat → Option MD) : Nat → Cl
  | 0, _, _, _ => .stuck
  | k + 1, f, zs, h => match prog f with
    | some d => guard (zs.length = d.ps) (runD (callK fl prog k) fl d.n d.body zs h)
    | none => .stuck
end Zm
/-! The layer's rules, over deep values: operators, calls of built-ins. -/
namespace Zm
open PySem PySem.Spec PyProof.Rows L2

variable {T : Tb}
def Fin {α : Type} (T : Tb) (K : PySem.W.Frag) (as : List Addr) (H : Hp) (Q : α → Mh → List Addr → Hp → Prop) : Res α → Prop
  | .ok x h => ∀ as' H', Ext K as H as' H' → RH T K as' H' h → Q x h as' H'
  | .stuck => False
abbrev FinV (T : Tb) (K : PySem.W.Frag) (as : List Addr) (H : Hp) (Q : VK) (r : Res Z) : Prop :=
  Fin T K as H (fun z _ as' H' => ∀ v, RZ K as' H' z v → Q v H') r
section
variable {K : PySem.W.Frag} {as as' : List Addr} {H H' : Hp} {h : Mh} {α β : Type}
theorem Fin.weaken {Q : α → Mh → List Addr → Hp → Prop} {r : Res α} (e : Ext K as H as' H') (f : Fin T K as H Q r) : Fin T K as' H' Q r := by
  cases r with
  | ok x h => exact fun a2 H2 e2 r2 => f a2 H2 (e.trans e2) r2
  | stuck => exact f
theorem Fin.mono {Q Q' : α → Mh → List Addr → Hp → Prop} {r : Res α} (f : Fin T K as H Q r) (g : ∀ x h as' H', Ext K as H as' H' → RH T K as' H' h → Q x h as' H' → Q' x h as' H') : Fin T K as H Q' r := by
  cases r with
  | ok x h => exact fun a2 H2 e2 r2 => g x h a2 H2 e2 r2 (f a2 H2 e2 r2)
  | stuck => exact f
theorem Fin.bind {Q : β → Mh → List Addr → Hp → Prop} {r : Res α} {g : α → Mh → Res β} (f : Fin T K as H Q (r.bind g)) :
    Fin T K as H (fun x h' as' H' => RH T K as' H' h' ∧ Ext K as H as' H' ∧ Fin T K as' H' Q (g x h')) r := by
  cases r with
  | ok x h => exact fun a2 H2 e2 r2 => ⟨r2, e2, Fin.weaken e2 f⟩
  | stuck => exact f
theorem Fin.guard {Q : α → Mh → List Addr → Hp → Prop} {p : Prop} {r : Res α} (f : Fin T K as H Q (guard p r)) : p ∧ Fin T K as H Q r := by
  unfold Zm.guard at f
  split at f
  · exact ⟨‹_›, f⟩
  · exact f.elim
theorem Fin.self {Q : α → Mh → List Addr → Hp → Prop} {x : α} (f : Fin T K as H Q (.ok x h)) (r : RH T K as H h) : Q x h as H := f as H Ext.refl r
theorem FinV.self {Q : VK} {z : Z} {v : V} (f : FinV T K as H Q (.ok z h)) (r : RH T K as H h) (q : RZ K as H z v) : Q v H := f as H Ext.refl r v q
theorem FinV.newL {Q : VK} {zs : List Z} {vs : List V} {p : Addr} (f : FinV T K as H Q (newL h zs)) (r : RH T K as H h) (q : RZs K as H zs vs) (hp : H p = none) : Q (.ref p) (upd H p (.lst vs)) := by
  refine f (as ++ [p]) (upd H p (.lst vs)) (Ext.newO hp) (r.push hp ⟨vs, upd_same, q.mono (Ext.newO hp)⟩) _ (.ob ?_)
  rw [← r.len]
  simp
theorem FinV.newD {Q : VK} {p : Addr} (f : FinV T K as H Q (.ok (.ob h.length) (h ++ [.dct []]))) (r : RH T K as H h) (hp : H p = none) : Q (.ref p) (upd H p (.dK [])) := by
  refine f (as ++ [p]) (upd H p (.dK [])) (Ext.newO hp) (r.push hp ⟨[], upd_same, .nil⟩) _ (.ob ?_)
  rw [← r.len]
  simp
theorem FinV.newT {Q : VK} {zs : List Z} {vs : List V} {p : Addr} (f : FinV T K as H Q (.ok (.tup zs) h)) (r : RH T K as H h) (q : RZs K as H zs vs) (hp : H p = none) : Q (.ref p) (upd H p (.tup vs)) :=
  f as (upd H p (.tup vs)) (Ext.new hp) (r.other hp) _ (.tup (SqT.of upd_same) (q.mono (Ext.new hp)))
theorem FinV.setO {Q : VK} {z : Z} {v : V} {a : Nat} {p : Addr} {o : HO} {ob : Ob} (f : FinV T K as H Q (.ok z (h.set a ob))) (r : RH T K as H h) (e : as[a]? = some p) (hm : Mut (H p)) (hf : ∀ zs, h[a]? ≠ some (.fro zs)) (ho : RO T K as (upd H p o) ob p)
    (q : RZ K as H z v) : Q v (upd H p o) :=
  f as (upd H p o) (Ext.set hm) (r.set e hm hf ho) _ (q.mono (Ext.set hm))
/-- the list at a -/
theorem RH.lst (r : RH T K as H h) {a : Nat} {p : Addr} {zs : List Z} (e : h[a]? = some (.lst zs)) (ep : as[a]? = some p) : ∃ vs, H p = some (.lst vs) ∧ RZs K as H zs vs := r.ob a p _ ep e
theorem RH.fro (r : RH T K as H h) {a : Nat} {p : Addr} {zs : List Z} (e : h[a]? = some (.fro zs)) (ep : as[a]? = some p) : ∃ vs, SqL K H p vs ∧ RZs K as H zs vs := by
  obtain ⟨vs, h1, h2⟩ := r.ob a p _ ep e
  refine ⟨vs, ?_, h2⟩
  rcases h1 with ⟨o, h1⟩ | h1
  · exact .inl (.inr ⟨o, h1⟩)
  · exact .inr h1
theorem RH.dct (r : RH T K as H h) {a : Nat} {p : Addr} {kvs : List (Key × Z)} (e : h[a]? = some (.dct kvs)) (ep : as[a]? = some p) : ∃ kws, H p = some (.dK kws) ∧ RKs K as H kvs kws := r.ob a p _ ep e
theorem RH.ins (r : RH T K as H h) {a : Nat} {p : Addr} {c : Nat} {fs : List (Nat × Z)} (e : h[a]? = some (.ins c fs)) (ep : as[a]? = some p) : ∃ dx gs, H p = some (.ins (T.cls c) dx gs) ∧ RFs T K as H fs gs ∧ Cls K (T.cls c) ∧ ∀ q ∈ fs, NoAttr K (T.cls c) (T.an q.1) := r.ob a p _ ep e
/-- a list or a tuple by its items -/
theorem seqZ_inv (r : RH T K as H h) {z : Z} {v : V} {zs : List Z} (e : seqZ z h = some zs) (q : RZ K as H z v) :
    ∃ p vs, v = .ref p ∧ RZs K as H zs vs ∧ ((SqL K H p vs ∧ ∃ a, z = .ob a ∧ as[a]? = some p) ∨ (SqT K H p vs ∧ z = .tup zs)) := by
  cases z with
  | tup ys =>
    simp only [seqZ, Option.some.injEq] at e
    subst e
    obtain ⟨p, vs, rfl, h1, h2⟩ := q.tup_inv
    exact ⟨p, vs, rfl, h2, .inr ⟨h1, rfl⟩⟩
  | ob a =>
    obtain ⟨p, rfl, ep⟩ := q.ob_inv
    simp only [seqZ] at e
    split at e
    · rename_i ys he
      cases e
      obtain ⟨vs, h1, h2⟩ := r.lst he ep
      exact ⟨p, vs, rfl, h2, .inl ⟨SqL.of h1, a, rfl, ep⟩⟩
    · rename_i ys he
      cases e
      obtain ⟨vs, h1, h2⟩ := r.fro he ep
      exact ⟨p, vs, rfl, h2, .inl ⟨h1, a, rfl, ep⟩⟩
    · cases e
  | _ => simp [seqZ] at e
end

/-! ### readings -/
def tOf (T : Tb) (K : PySem.W.Frag) (m : Ev → Mh → Res Z) : TE := fun σ H Q => ∃ as h ρ, RH T K as H h ∧ RE K as H σ ρ ∧ FinV T K as H Q (m ρ h)
def tOfB (T : Tb) (K : PySem.W.Frag) (m : Ev → Mh → Res Bool) : TT := fun σ H Q => ∃ as h ρ, RH T K as H h ∧ RE K as H σ ρ ∧ Fin T K as H (fun b _ _ H' => Q b H') (m ρ h)
def tOfA (T : Tb) (K : PySem.W.Frag) (m : Ev → Mh → Res (List Z)) : TA := fun σ H Q => ∃ as h ρ, RH T K as H h ∧ RE K as H σ ρ ∧ Fin T K as H (fun zs _ as' H' => ∀ vs, RZs K as' H' zs vs → Q vs H') (m ρ h)
def rOp (T : Tb) (K : PySem.W.Frag) (g : Z → Z → Mh → Res Z) : R2 := fun x y H Q => ∃ as h a b, RH T K as H h ∧ RZ K as H a x ∧ RZ K as H b y ∧ FinV T K as H Q (g a b h)
def rUn (T : Tb) (K : PySem.W.Frag) (g : Z → Mh → Res Z) : V → Hp → VK → Prop := fun x H Q => ∃ as h a, RH T K as H h ∧ RZ K as H a x ∧ FinV T K as H Q (g a h)
def rCl (T : Tb) (K : PySem.W.Frag) (g : List Z → Mh → Res Z) : List V → Hp → VK → Prop := fun xs H Q => ∃ as h zs, RH T K as H h ∧ RZs K as H zs xs ∧ FinV T K as H Q (g zs h)
def rMt (T : Tb) (K : PySem.W.Frag) (g : Z → List Z → Mh → Res Z) : V → List V → Hp → VK → Prop := fun x xs H Q => ∃ as h z zs, RH T K as H h ∧ RZ K as H z x ∧ RZs K as H zs xs ∧ FinV T K as H Q (g z zs h)

section
variable {X : Cx} {K : PySem.W.Frag}
theorem PE.imp {e : Expr} {t t' : TE} (h : PE X e t) (i : ∀ σ H Q, t' σ H Q → t σ H Q) : PE X e t' := ⟨fun pins s σ H Q I q => h.run pins s σ H Q I (i σ H Q q)⟩
theorem PT.imp {e : Expr} {t t' : TT} (h : PT X e t) (i : ∀ σ H Q, t' σ H Q → t σ H Q) : PT X e t' := ⟨fun pins s σ H Q I q => h.run pins s σ H Q I (i σ H Q q)⟩
theorem PA.imp {e : List Expr} {t t' : TA} (h : PA X e t) (i : ∀ σ H Q, t' σ H Q → t σ H Q) : PA X e t' := ⟨fun pos pins s σ H Q I q => h.run pos pins s σ H Q I (i σ H Q q)⟩
theorem PS.imp {e : Stmt} {t t' : TS} (h : PS X e t) (i : ∀ D σ H, t' D σ H → t D σ H) : PS X e t' := ⟨fun pins s σ H D I q => h.run pins s σ H D I (i D σ H q)⟩
theorem PSs.imp {e : List Stmt} {t t' : TS} (h : PSs X e t) (i : ∀ D σ H, t' D σ H → t D σ H) : PSs X e t' := ⟨fun pins s σ H D I q => h.run pins s σ H D I (i D σ H q)⟩
/-- the first of some things in a row -/
theorem tOf_bind {m : Ev → Mh → Res Z} {g : Ev → Z → Mh → Res Z} {σ : L2.St} {H : Hp} {Q : VK} {R : VK}
    (h : tOf T K (fun ρ h => (m ρ h).bind fun x h => g ρ x h) σ H Q) (k : ∀ as h ρ z v H', RH T K as H' h → RE K as H' σ ρ → RZ K as H' z v → FinV T K as H' Q (g ρ z h) → R v H') : tOf T K m σ H R := by
  obtain ⟨as, h0, ρ, rh, re, f⟩ := h
  exact ⟨as, h0, ρ, rh, re, f.bind.mono fun z h1 as1 H1 e1 r1 ⟨_, _, f1⟩ v q => k as1 h1 ρ z v H1 r1 (re.mono e1) q f1⟩
theorem tOf_bindB {m : Ev → Mh → Res Z} {g : Ev → Z → Mh → Res Bool} {σ : L2.St} {H : Hp} {Q : Bool → Hp → Prop} {R : VK}
    (h : tOfB T K (fun ρ h => (m ρ h).bind fun x h => g ρ x h) σ H Q) (k : ∀ as h ρ z v H', RH T K as H' h → RE K as H' σ ρ → RZ K as H' z v → Fin T K as H' (fun b _ _ H' => Q b H') (g ρ z h) → R v H') : tOf T K m σ H R := by
  obtain ⟨as, h0, ρ, rh, re, f⟩ := h
  exact ⟨as, h0, ρ, rh, re, f.bind.mono fun z h1 as1 H1 e1 r1 ⟨_, _, f1⟩ v q => k as1 h1 ρ z v H1 r1 (re.mono e1) q f1⟩
theorem tOf_bind2 {ma mb : Ev → Mh → Res Z} {g : Z → Z → Mh → Res Z} {σ : L2.St} {H : Hp} {Q : VK}
    (h : tOf T K (fun ρ h => (ma ρ h).bind fun x h => (mb ρ h).bind fun y h => g x y h) σ H Q) : tOf T K ma σ H fun x H1 => tOf T K mb σ H1 fun y H2 => rOp T K g x y H2 Q := by
  refine tOf_bind (g := fun ρ x h => (mb ρ h).bind fun y h => g x y h) h fun as h1 ρ z v H1 r1 re q f => ?_
  exact ⟨as, h1, ρ, r1, re, f.bind.mono fun y h2 as2 H2 e2 r2 ⟨_, _, f2⟩ w q2 => ⟨as2, h2, z, y, r2, q.mono e2, q2, f2⟩⟩
theorem le_op {op : Operator} {g : Z → Z → Mh → Res Z} {a b : Expr} {ma mb : Ev → Mh → Res Z} {pos : Pos} (ho : OpR X (binaryOp op) (rOp T X.K g)) (ha : PE X a (tOf T X.K ma)) (hb : PE X b (tOf T X.K mb)) :
    PE X (.BinOp a op b pos) (tOf T X.K fun ρ h => (ma ρ h).bind fun x h => (mb ρ h).bind fun y h => g x y h) :=
  PE.imp (pe_op ho ha hb) fun _ _ _ h => tOf_bind2 h
theorem le_cmp {op : CmpOp} {g : Z → Z → Mh → Res Z} {a b : Expr} {ma mb : Ev → Mh → Res Z} {pos : Pos} (ho : OpR X (compareOp op) (rOp T X.K g)) (ha : PE X a (tOf T X.K ma)) (hb : PE X b (tOf T X.K mb)) (hm : behindInMarks op b = false) :
    PE X (.Compare a [op] [b] pos) (tOf T X.K fun ρ h => (ma ρ h).bind fun x h => (mb ρ h).bind fun y h => g x y h) :=
  PE.imp (pe_cmpR ho ha hb hm) fun _ _ _ h => tOf_bind2 h
theorem le_un {op : UnaryOp} {g : Z → Mh → Res Z} {a : Expr} {ma : Ev → Mh → Res Z} {pos : Pos} (ho : UnR X (unaryOp op) (rUn T X.K g)) (ha : PE X a (tOf T X.K ma)) :
    PE X (.UnaryOp op a pos) (tOf T X.K fun ρ h => (ma ρ h).bind fun x h => g x h) :=
  PE.imp (pe_un ho ha) fun _ _ _ h => tOf_bind (g := fun _ x h => g x h) h fun as h1 ρ z v H1 r1 re q f => ⟨as, h1, z, r1, q, f⟩

/-! ### arithmetic -/
theorem int_int {f : Value → Value → Sem Value} {C : Int → Int → Prop} {g : Int → Int → V} (ho : OpR X f (rI C g)) {k : Z → Z → Mh → Res Z} {g' : Int → Int → Z}
    (hk : ∀ a b h Q as H, FinV T X.K as H Q (k a b h) → ∃ i j, a = .int i ∧ b = .int j ∧ C i j ∧ FinV T X.K as H Q (.ok (g' i j) h)) (hg : ∀ as H i j, RZ X.K as H (g' i j) (g i j)) : OpR X f (rOp T X.K k) := by
  intro pins s σ H x y v u Q I rx ry ⟨as, h, a, b, rh, ra, rb, fin⟩
  obtain ⟨i, j, rfl, rfl, c, fin⟩ := hk a b h Q as H fin
  exact ho pins s σ H x y v u Q I rx ry ⟨i, j, ra.int_inv, rb.int_inv, c, FinV.self fin rh (hg as H i j)⟩
theorem rI0_rI {f : Value → Value → Sem Value} {g : Int → Int → V} (ho : OpR X f (rI0 g)) : OpR X f (rI (fun _ _ => True) g) := by
  intro pins s σ H x y v u Q I rx ry ⟨i, j, e1, e2, _, q⟩
  exact ho pins s σ H x y v u Q I rx ry ⟨i, j, e1, e2, q⟩
theorem oz_sub : OpR X (binaryOp .Sub) (rOp T X.K zSub) := by
  refine int_int (g' := fun i j => .int (i - j)) (rI0_rI op_sub) (fun a b h Q as H f => ?_) fun as H i j => .int _
  cases a <;> cases b <;> first | exact f.elim | exact ⟨_, _, rfl, rfl, trivial, f⟩
theorem oz_div : OpR X (binaryOp .FloorDiv) (rOp T X.K zDiv) := by
  refine int_int (g' := fun i j => .int (i / j)) op_fdivW (fun a b h Q as H f => ?_) fun as H i j => .int _
  cases a <;> cases b <;> first | exact f.elim | exact ⟨_, _, rfl, rfl, (Fin.guard f).1, (Fin.guard f).2⟩
theorem oz_mod : OpR X (binaryOp .Mod) (rOp T X.K zMod) := by
  refine int_int (g' := fun i j => .int (i % j)) op_mod (fun a b h Q as H f => ?_) fun as H i j => .int _
  cases a <;> cases b <;> first | exact f.elim | exact ⟨_, _, rfl, rfl, (Fin.guard f).1, (Fin.guard f).2⟩
theorem oz_pow : OpR X (binaryOp .Pow) (rOp T X.K zPow) := by
  refine int_int (g' := fun i j => .int (i ^ j.toNat)) op_pow (fun a b h Q as H f => ?_) fun as H i j => .int _
  cases a <;> cases b <;> first | exact f.elim | exact ⟨_, _, rfl, rfl, (Fin.guard f).1, (Fin.guard f).2⟩
theorem oz_neg : UnR X (unaryOp .USub) (rUn T X.K zNeg) := by
  intro pins s σ H x v Q I rx ⟨as, h, a, rh, ra, fin⟩
  cases a <;> first | exact fin.elim | skip
  exact un_neg pins s σ H x v Q I rx ⟨_, ra.int_inv, FinV.self fin rh (.int _)⟩
theorem oz_mul : OpR X (binaryOp .Mult) (rOp T X.K zMul) := by
  intro pins s σ H x y v u Q I rx ry ⟨as, h, a, b, rh, ra, rb, fin⟩
  cases a <;> cases b <;> first | exact fin.elim | skip
  · obtain ⟨c, fin⟩ := Fin.guard fin
    exact op_mul pins s σ H x y v u Q I rx ry ⟨_, _, ra.int_inv, rb.int_inv, c, FinV.self fin rh (.int _)⟩
  · rename_i a k
    obtain ⟨p, rfl, ep⟩ := ra.ob_inv
    obtain rfl := rb.int_inv
    simp only [zMul] at fin
    split at fin
    · rename_i zs he
      obtain ⟨⟨c1, c2, c3⟩, fin⟩ := Fin.guard fin
      obtain ⟨vs, e1, e2⟩ := rh.lst he ep
      refine op_rep pins s σ H _ _ v u Q I rx ry ⟨p, k, vs, rfl, rfl, e1, c1, c2, by rw [← e2.length]; exact c3, fun q hq => ?_⟩
      exact FinV.newL fin rh e2.flat hq
    · exact fin.elim
theorem oz_add : OpR X (binaryOp .Add) (rOp T X.K zAdd) := by
  intro pins s σ H x y v u Q I rx ry ⟨as, h, a, b, rh, ra, rb, fin⟩
  cases a <;> cases b <;> first | exact fin.elim | skip
  · exact op_add pins s σ H x y v u Q I rx ry ⟨_, _, ra.int_inv, rb.int_inv, FinV.self fin rh (.int _)⟩
  · obtain ⟨c, fin⟩ := Fin.guard fin
    exact op_add_str pins s σ H x y v u Q I rx ry ⟨_, _, ra.str_inv, rb.str_inv, c, FinV.self fin rh (.str _)⟩
  · obtain ⟨c, fin⟩ := Fin.guard fin
    obtain ⟨p, vs, rfl, p1, p2⟩ := ra.tup_inv
    obtain ⟨q, us, rfl, q1, q2⟩ := rb.tup_inv
    refine op_catA pins s σ H _ _ v u Q I rx ry ⟨p, q, vs, us, rfl, rfl, p1, q1, by rw [← p2.length, ← q2.length]; exact c, fun e => ?_, fun _ e => ?_, fun _ _ r hr => FinV.newT fin rh (p2.append q2) hr⟩
    · subst e
      cases p2
      exact FinV.self fin rh rb
    · subst e
      cases q2
      rw [List.append_nil] at fin
      exact FinV.self fin rh ra
  · rename_i a b
    obtain ⟨p, rfl, ep⟩ := ra.ob_inv
    obtain ⟨q, rfl, eq⟩ := rb.ob_inv
    simp only [zAdd] at fin
    split at fin
    · rename_i xs ys hx hy
      obtain ⟨c, fin⟩ := Fin.guard fin
      obtain ⟨vs, e1, e2⟩ := rh.lst hx ep
      obtain ⟨us, f1, f2⟩ := rh.lst hy eq
      exact op_cat pins s σ H _ _ v u Q I rx ry ⟨p, q, vs, us, rfl, rfl, e1, f1, by rw [← e2.length, ← f2.length]; exact c, fun r hr => FinV.newL fin rh (e2.append f2) hr⟩
    · exact fin.elim

/-! ### comparisons -/
theorem oz_lt : OpR X (compareOp .Lt) (rOp T X.K zLt) := by
  refine int_int (g' := fun i j => .bl (decide (i < j))) (rI0_rI op_lt) (fun a b h Q as H f => ?_) fun as H i j => .bl _
  cases a <;> cases b <;> first | exact f.elim | exact ⟨_, _, rfl, rfl, trivial, f⟩
theorem oz_le : OpR X (compareOp .LtE) (rOp T X.K zLe) := by
  refine int_int (g' := fun i j => .bl (decide (i ≤ j))) (rI0_rI op_le) (fun a b h Q as H f => ?_) fun as H i j => .bl _
  cases a <;> cases b <;> first | exact f.elim | exact ⟨_, _, rfl, rfl, trivial, f⟩
theorem oz_gt : OpR X (compareOp .Gt) (rOp T X.K zGt) := by
  refine int_int (g' := fun i j => .bl (decide (j < i))) (rI0_rI op_gt) (fun a b h Q as H f => ?_) fun as H i j => .bl _
  cases a <;> cases b <;> first | exact f.elim | exact ⟨_, _, rfl, rfl, trivial, f⟩
theorem oz_ge : OpR X (compareOp .GtE) (rOp T X.K zGe) := by
  refine int_int (g' := fun i j => .bl (decide (j ≤ i))) (rI0_rI op_ge) (fun a b h Q as H f => ?_) fun as H i j => .bl _
  cases a <;> cases b <;> first | exact f.elim | exact ⟨_, _, rfl, rfl, trivial, f⟩
theorem RZ_isN {as : List Addr} {H : Hp} {z : Z} {v : V} (h : RZ K as H z v) : decide (v = .non) = zIsN z := by
  cases h <;> simp [zIsN]
theorem oz_is : OpR X (compareOp .Is) (rOp T X.K zIs) := by
  intro pins s σ H x y v u Q I rx ry ⟨as, h, a, b, rh, ra, rb, fin⟩
  cases b <;> first | exact fin.elim | skip
  refine op_isN pins s σ H x y v u Q I rx ry ⟨rb.non_inv, ?_⟩
  have e := RZ_isN ra
  rw [e]
  exact FinV.self fin rh (.bl _)
theorem oz_isnot : OpR X (compareOp .IsNot) (rOp T X.K zIsNot) := by
  intro pins s σ H x y v u Q I rx ry ⟨as, h, a, b, rh, ra, rb, fin⟩
  cases b <;> first | exact fin.elim | skip
  refine op_notN pins s σ H x y v u Q I rx ry ⟨rb.non_inv, ?_⟩
  have e := RZ_isN ra
  rw [e]
  exact FinV.self fin rh (.bl _)
mutual
theorem pdZ_dp {as : List Addr} {H : Hp} {f : Nat → Option PyData} (hf : ∀ a d p, f a = some d → as[a]? = some p → Dp K H (.ref p) d) :
    ∀ (z : Z) (v : V) (d : PyData), pdZ f z = some d → RZ K as H z v → Dp K H v d
  | .non, _, _, h, r => by simp only [pdZ, Option.some.injEq] at h; subst h; rw [r.non_inv]; exact .non
  | .bl b, _, _, h, r => by simp only [pdZ, Option.some.injEq] at h; subst h; rw [r.bl_inv]; exact .bl b
  | .int i, _, _, h, r => by simp only [pdZ, Option.some.injEq] at h; subst h; rw [r.int_inv]; exact .int i
  | .str x, _, _, h, r => by simp only [pdZ, Option.some.injEq] at h; subst h; rw [r.str_inv]; exact .str x
  | .tup zs, _, d, h, r => by
    simp only [pdZ] at h
    cases e : pdZs f zs with
    | none => rw [e] at h; simp at h
    | some ds =>
      rw [e] at h
      simp only [Option.map_some, Option.some.injEq] at h
      subst h
      obtain ⟨p, vs, rfl, h1, h2⟩ := r.tup_inv
      exact .tup h1 (pdZs_dp hf zs vs ds e h2)
  | .ob a, _, d, h, r => by
    simp only [pdZ] at h
    obtain ⟨p, rfl, ep⟩ := r.ob_inv
    exact hf a d p h ep
theorem pdZs_dp {as : List Addr} {H : Hp} {f : Nat → Option PyData} (hf : ∀ a d p, f a = some d → as[a]? = some p → Dp K H (.ref p) d) :
    ∀ (zs : List Z) (vs : List V) (ds : List PyData), pdZs f zs = some ds → RZs K as H zs vs → DpAll K H vs ds
  | [], _, _, h, r => by
    simp only [pdZs, Option.some.injEq] at h
    subst h
    cases r
    exact .nil
  | z :: zs, _, ds, h, r => by
    cases r with
    | cons r rs =>
      simp only [pdZs] at h
      split at h
      · rename_i d ds' e1 e2
        cases h
        exact .cons (pdZ_dp hf z _ d e1 r) (pdZs_dp hf zs _ ds' e2 rs)
      · cases h
end
theorem pdO_dp {as : List Addr} {H : Hp} {h : Mh} (r : RH T K as H h) : ∀ (n : Nat) (a : Nat) (d : PyData) (p : Addr), pdO h n a = some d → as[a]? = some p → Dp K H (.ref p) d
  | 0, _, _, _, e, _ => by simp [pdO] at e
  | n + 1, a, d, p, e, ep => by
    simp only [pdO] at e
    split at e
    · rename_i zs he
      obtain ⟨vs, h1, h2⟩ := r.lst he ep
      cases q : pdZs (pdO h n) zs with
      | none => rw [q] at e; simp at e
      | some ds =>
        rw [q] at e
        simp only [Option.map_some, Option.some.injEq] at e
        subst e
        exact .lst (SqL.of h1) (pdZs_dp (pdO_dp r n) zs vs ds q h2)
    · rename_i zs he
      obtain ⟨vs, h1, h2⟩ := r.fro he ep
      cases q : pdZs (pdO h n) zs with
      | none => rw [q] at e; simp at e
      | some ds =>
        rw [q] at e
        simp only [Option.map_some, Option.some.injEq] at e
        subst e
        exact .lst h1 (pdZs_dp (pdO_dp r n) zs vs ds q h2)
    · cases e
theorem pd_dp {as : List Addr} {H : Hp} {h : Mh} (r : RH T K as H h) {z : Z} {v : V} {d : PyData} (e : pd h z = some d) (q : RZ K as H z v) : Dp K H v d := pdZ_dp (pdO_dp r 3) z v d e q
theorem zEqB_inv {as : List Addr} {H : Hp} {h : Mh} {Q : Bool → Mh → List Addr → Hp → Prop} {a b : Z} (f : Fin T K as H Q (zEqB a b h)) : ∃ d e, pd h a = some d ∧ pd h b = some e ∧ SeqAt.shaped d = true ∧ SeqAt.shaped e = true ∧ Fin T K as H Q (.ok (PyData.eqv d e) h) := by
  unfold zEqB at f
  split at f
  · rename_i d e h1 h2
    obtain ⟨⟨c1, c2⟩, f⟩ := Fin.guard f
    exact ⟨d, e, h1, h2, c1, c2, f⟩
  · exact f.elim
theorem oz_eq (hu : X.A.units + 64 < cLine) : OpR X (compareOp .Eq) (rOp T X.K zEq) := by
  intro pins s σ H x y v u Q I rx ry ⟨as, h, a, b, rh, ra, rb, fin⟩
  obtain ⟨d, e, h1, h2, c1, c2, f⟩ := zEqB_inv (Fin.bind fin)
  obtain ⟨_, _, f⟩ := Fin.self f rh
  exact op_eqD hu pins s σ H x y v u Q I rx ry ⟨d, e, pd_dp rh h1 ra, pd_dp rh h2 rb, c1, c2, FinV.self f rh (.bl _)⟩
theorem oz_ne (hu : X.A.units + 64 < cLine) : OpR X (compareOp .NotEq) (rOp T X.K zNe) := by
  intro pins s σ H x y v u Q I rx ry ⟨as, h, a, b, rh, ra, rb, fin⟩
  obtain ⟨d, e, h1, h2, c1, c2, f⟩ := zEqB_inv (Fin.bind fin)
  obtain ⟨_, _, f⟩ := Fin.self f rh
  exact op_neD hu pins s σ H x y v u Q I rx ry ⟨d, e, pd_dp rh h1 ra, pd_dp rh h2 rb, c1, c2, FinV.self f rh (.bl _)⟩
/-! ### in -/
theorem keyZ_kV {as : List Addr} {H : Hp} {z : Z} {v : V} {k : Key} (e : keyZ z = some k) (r : RZ K as H z v) : v = kV k := by
  cases z <;> simp [keyZ] at e
  · subst e; rw [r.int_inv]; rfl
  · subst e; rw [r.str_inv]; rfl
theorem RKs.val {as : List Addr} {H : Hp} {k : Key} : ∀ {x : List (Key × Z)} {y : List (Key × V)}, RKs K as H x y → (valZ x k = none ∧ valV y k = none) ∨ ∃ z v, valZ x k = some z ∧ valV y k = some v ∧ RZ K as H z v
  | _, _, .nil => .inl ⟨rfl, rfl⟩
  | (k1, z1) :: x, (k2, v2) :: y, .cons r rs => by
    obtain ⟨e, q⟩ := r
    have e : k1 = k2 := e
    subst e
    unfold valZ valV
    rw [List.find?_cons, List.find?_cons]
    by_cases hk : k1 = k
    · have : decide (k1 = k) = true := decide_eq_true hk
      simp only [this]
      exact .inr ⟨z1, v2, rfl, rfl, q⟩
    · have : decide (k1 = k) = false := decide_eq_false hk
      simp only [this]
      exact RKs.val rs
theorem RKs.isSome {as : List Addr} {H : Hp} {k : Key} {x : List (Key × Z)} {y : List (Key × V)} (r : RKs K as H x y) : (valZ x k).isSome = (valV y k).isSome := by
  rcases r.val (k := k) with ⟨h1, h2⟩ | ⟨z, v, h1, h2, _⟩ <;> rw [h1, h2] <;> rfl
theorem flat_RZ {as : List Addr} {H : Hp} : ∀ {z : Z} {v : V}, flatZ z = true → RZ K as H z v → flatV v = true
  | .non, _, _, r => by rw [r.non_inv]; rfl
  | .bl b, _, _, r => by rw [r.bl_inv]; rfl
  | .int i, _, _, r => by rw [r.int_inv]; rfl
  | .str x, _, _, r => by rw [r.str_inv]; rfl
theorem flats_RZ {as : List Addr} {H : Hp} : ∀ {zs : List Z} {vs : List V}, zs.all flatZ = true → RZs K as H zs vs → vs.all flatV = true
  | _, _, _, .nil => rfl
  | z :: zs, v :: vs, h, .cons r rs => by
    rw [List.all_cons, Bool.and_eq_true] at h ⊢
    exact ⟨flat_RZ h.1 r, flats_RZ h.2 rs⟩
theorem eqF_V {as : List Addr} {H : Hp} {a b : Z} {x y : V} (fa : flatZ a = true) (fb : flatZ b = true) (ra : RZ K as H a x) (rb : RZ K as H b y) : eqF a b = eqV x y := by
  cases a <;> simp [flatZ] at fa <;> cases b <;> simp [flatZ] at fb <;> (cases ra; cases rb; rfl)
theorem any_eqF {as : List Addr} {H : Hp} {b : Z} {y : V} (fb : flatZ b = true) (rb : RZ K as H b y) : ∀ {zs : List Z} {vs : List V}, zs.all flatZ = true → RZs K as H zs vs → (zs.any fun a => eqF a b) = vs.any fun x => eqV x y
  | _, _, _, .nil => rfl
  | z :: zs, v :: vs, h, .cons r rs => by
    rw [List.all_cons, Bool.and_eq_true] at h
    rw [List.any_cons, List.any_cons, any_eqF fb rb h.2 rs, eqF_V h.1 fb r rb]
theorem op_dIn (hu : X.A.units + 1 < cLine) : OpR X (compareOp .In) (fun x y H Q => ∃ a o, y = .ref a ∧ DGet H a x o ∧ Q (.bl o.isSome) H) := by
  intro pins s σ H x y v u Q I rx ry ⟨a, o, e, g, q⟩
  subst e
  obtain rfl : u = Value.ref a := ry
  exact d_in hu I g rx fun s3 I3 => ⟨.bl o.isSome, H, I3, rfl, q⟩
theorem op_dNotIn (hu : X.A.units + 1 < cLine) : OpR X (compareOp .NotIn) (fun x y H Q => ∃ a o, y = .ref a ∧ DGet H a x o ∧ Q (.bl (!o.isSome)) H) := by
  intro pins s σ H x y v u Q I rx ry ⟨a, o, e, g, q⟩
  subst e
  obtain rfl : u = Value.ref a := ry
  exact d_notIn hu I g rx fun s3 I3 => ⟨.bl (!o.isSome), H, I3, rfl, q⟩
/-- the cases of in -/
theorem zInB_inv {as : List Addr} {H : Hp} {h : Mh} {Q : Bool → Mh → List Addr → Hp → Prop} {a b : Z} {x y : V} (rh : RH T K as H h) (ra : RZ K as H a x) (rb : RZ K as H b y) (f : Fin T K as H Q (zInB a b h)) :
    (∃ p vs, y = .ref p ∧ SqT K H p vs ∧ flatV x = true ∧ vs.all flatV = true ∧ Q (inV x vs) h as H) ∨
    (∃ p o, y = .ref p ∧ DGet H p x o ∧ Q o.isSome h as H) ∨
    (∃ d ds, Dp K H x d ∧ Dp K H y (.list ds) ∧ SeqAt.shaped d = true ∧ SeqAt.shaped (.list ds) = true ∧ Q (ds.any fun z => PyData.eqv z d) h as H) := by
  have hl : ∀ n, b = .ob n → Fin T K as H Q (zInL a n h) → ∃ d ds, Dp K H x d ∧ Dp K H y (.list ds) ∧ SeqAt.shaped d = true ∧ SeqAt.shaped (.list ds) = true ∧ Q (ds.any fun z => PyData.eqv z d) h as H := by
    intro n hb f
    unfold zInL at f
    split at f
    · rename_i d ds h1 h2
      obtain ⟨⟨c1, c2⟩, f⟩ := Fin.guard f
      exact ⟨d, ds, pd_dp rh h1 ra, pd_dp rh h2 (hb ▸ rb), c1, c2, Fin.self f rh⟩
    · exact f.elim
  cases b <;> first | exact f.elim | skip
  · rename_i zs
    obtain ⟨⟨c1, c2⟩, f⟩ := Fin.guard f
    obtain ⟨p, vs, rfl, h1, h2⟩ := rb.tup_inv
    refine .inl ⟨p, vs, rfl, h1, flat_RZ c1 ra, flats_RZ c2 h2, ?_⟩
    have := Fin.self f rh
    rw [any_eqF c1 ra c2 h2] at this
    exact this
  · rename_i n
    simp only [zInB] at f
    split at f
    · rename_i kvs he
      split at f
      · rename_i k hk
        obtain ⟨p, rfl, ep⟩ := rb.ob_inv
        obtain ⟨kws, h1, h2⟩ := rh.dct he ep
        refine .inr (.inl ⟨p, valV kws k, rfl, ?_, ?_⟩)
        · rw [keyZ_kV hk ra]
          exact DGet.k h1
        · rw [← h2.isSome]
          exact Fin.self f rh
      · exact f.elim
    · exact .inr (.inr (hl n rfl f))
    · exact .inr (.inr (hl n rfl f))
    · exact f.elim
theorem oz_in (hu : X.A.units + 65 < cLine) : OpR X (compareOp .In) (rOp T X.K zIn) := by
  intro pins s σ H x y v u Q I rx ry ⟨as, h, a, b, rh, ra, rb, fin⟩
  rcases zInB_inv rh ra rb (Fin.bind fin) with ⟨p, vs, rfl, h1, h2, h3, _, _, f⟩ | ⟨p, o, rfl, g, _, _, f⟩ | ⟨d, ds, h1, h2, h3, h4, _, _, f⟩
  · exact op_in_seq pins s σ H _ _ v u Q I rx ry ⟨p, vs, rfl, .inr h1, h2, h3, FinV.self f rh (.bl _)⟩
  · exact op_dIn (by omega) pins s σ H _ _ v u Q I rx ry ⟨p, o, rfl, g, FinV.self f rh (.bl _)⟩
  · exact op_inD hu pins s σ H _ _ v u Q I rx ry ⟨d, ds, h1, h2, h3, h4, FinV.self f rh (.bl _)⟩
theorem oz_notin (hu : X.A.units + 65 < cLine) : OpR X (compareOp .NotIn) (rOp T X.K zNotIn) := by
  intro pins s σ H x y v u Q I rx ry ⟨as, h, a, b, rh, ra, rb, fin⟩
  rcases zInB_inv rh ra rb (Fin.bind fin) with ⟨p, vs, rfl, h1, h2, h3, _, _, f⟩ | ⟨p, o, rfl, g, _, _, f⟩ | ⟨d, ds, h1, h2, h3, h4, _, _, f⟩
  · exact op_notIn_seq pins s σ H _ _ v u Q I rx ry ⟨p, vs, rfl, .inr h1, h2, h3, FinV.self f rh (.bl _)⟩
  · exact op_dNotIn (by omega) pins s σ H _ _ v u Q I rx ry ⟨p, o, rfl, g, FinV.self f rh (.bl _)⟩
  · exact op_notInD hu pins s σ H _ _ v u Q I rx ry ⟨d, ds, h1, h2, h3, h4, FinV.self f rh (.bl _)⟩
end
end Zm
namespace Zm
open PySem PySem.Spec PyProof.Rows L2
variable {T : Tb} {X : Cx} {K : PySem.W.Frag}

/-! ### truth -/
theorem zTru_inv {as : List Addr} {H : Hp} {h : Mh} {Q : Bool → Mh → List Addr → Hp → Prop} {z : Z} {v : V} (rh : RH T K as H h) (r : RZ K as H z v) (f : Fin T K as H Q (zTru z h)) : ∃ k, zTru z h = .ok k h ∧ TruV K v H k ∧ Q k h as H := by
  cases z with
  | non => rw [r.non_inv]; exact ⟨false, rfl, rfl, Fin.self f rh⟩
  | bl b => rw [r.bl_inv]; exact ⟨b, rfl, rfl, Fin.self f rh⟩
  | int i => rw [r.int_inv]; exact ⟨_, rfl, rfl, Fin.self f rh⟩
  | str x =>
    rw [r.str_inv]
    obtain ⟨c, f⟩ := Fin.guard f
    exact ⟨_, guard_pos c, ⟨c, rfl⟩, Fin.self f rh⟩
  | tup zs =>
    obtain ⟨p, vs, rfl, h1, h2⟩ := r.tup_inv
    refine ⟨_, rfl, .inr (.inl ⟨vs, h1, ?_⟩), Fin.self f rh⟩
    cases h2 <;> rfl
  | ob a =>
    obtain ⟨p, rfl, ep⟩ := r.ob_inv
    simp only [zTru] at f ⊢
    split at f
    · rename_i zs he
      obtain ⟨vs, h1, h2⟩ := rh.lst he ep
      refine ⟨_, rfl, .inl ⟨vs, SqL.of h1, ?_⟩, Fin.self f rh⟩
      cases h2 <;> rfl
    · rename_i zs he
      obtain ⟨vs, h1, h2⟩ := rh.fro he ep
      refine ⟨_, rfl, .inl ⟨vs, h1, ?_⟩, Fin.self f rh⟩
      cases h2 <;> rfl
    · rename_i kvs he
      obtain ⟨kws, h1, h2⟩ := rh.dct he ep
      refine ⟨_, rfl, .inr (.inr ⟨kws, h1, ?_⟩), Fin.self f rh⟩
      cases h2 <;> rfl
    · exact f.elim
/-- a test: an expression, then its truth -/
noncomputable abbrev mTst (m : Ev → Mh → Res Z) : Ev → Mh → Res Bool := fun ρ h => (m ρ h).bind fun x h => zTru x h
theorem lt_truth {a : Expr} {m : Ev → Mh → Res Z} (ha : PE X a (tOf T X.K m)) (he : ∀ whole, isTrue a X.env whole = (do let v ← whole; standAt a.pos; holding [v] (truthy v))) : PT X a (tOfB T X.K (mTst m)) := by
  refine PT.imp (pt_truth ha he) fun σ H Q h => tOf_bindB (g := fun _ x h => zTru x h) h fun as h1 ρ z v H1 r1 re q f => ?_
  obtain ⟨k, _, t, q⟩ := zTru_inv r1 q f
  exact ⟨k, t, q⟩
/-- an expression that gives a truth value -/
def BlOnly (m : Ev → Mh → Res Z) : Prop := ∀ ρ h z h', m ρ h = .ok z h' → ∃ b, z = .bl b
theorem tB_of {m : Ev → Mh → Res Z} (hb : BlOnly m) {σ : L2.St} {H : Hp} {Q : Bool → Hp → Prop} (h : tOfB T K (mTst m) σ H Q) : tOf T K m σ H fun x H' => ∃ k, x = .bl k ∧ Q k H' := by
  obtain ⟨as, h0, ρ, rh, re, f⟩ := h
  refine ⟨as, h0, ρ, rh, re, ?_⟩
  cases e : m ρ h0 with
  | stuck => rw [mTst, e] at f; exact f.elim
  | ok z h1 =>
    obtain ⟨b, rfl⟩ := hb ρ h0 z h1 e
    simp only [mTst, e, Res.bind_ok, zTru] at f
    intro as1 H1 e1 r1 v q
    exact ⟨b, q.bl_inv, f as1 H1 e1 r1⟩
theorem lt_cmp {op : CmpOp} {g : Z → Z → Mh → Res Z} {a b : Expr} {ma mb : Ev → Mh → Res Z} {pos : Pos} (ho : OpR X (compareOp op) (rOp T X.K g)) (hg : ∀ x y h z h', g x y h = .ok z h' → ∃ b, z = .bl b) (ha : PE X a (tOf T X.K ma)) (hb : PE X b (tOf T X.K mb)) (hm : behindInMarks op b = false) :
    PT X (.Compare a [op] [b] pos) (tOfB T X.K (mTst fun ρ h => (ma ρ h).bind fun x h => (mb ρ h).bind fun y h => g x y h)) := by
  refine PT.imp (pt_cmpR ho ha hb hm) fun σ H Q h => tOf_bind2 (tB_of (fun ρ h z h' e => ?_) h)
  cases e1 : ma ρ h with
  | stuck => rw [e1] at e; cases e
  | ok x h1 =>
    rw [e1, Res.bind_ok] at e
    cases e2 : mb ρ h1 with
    | stuck => rw [e2] at e; cases e
    | ok y h2 =>
      rw [e2, Res.bind_ok] at e
      exact hg x y h2 z h' e
noncomputable abbrev mChain (g g' : Z → Z → Mh → Res Z) (ma mb mc : Ev → Mh → Res Z) : Ev → Mh → Res Z := fun ρ h => (ma ρ h).bind fun x h => (mb ρ h).bind fun y h => (g x y h).bind fun k h => match k with
  | .bl true => (mc ρ h).bind fun z h => g' y z h
  | .bl false => .ok (.bl false) h
  | _ => .stuck
theorem chain_imp {g g' : Z → Z → Mh → Res Z} {ma mb mc : Ev → Mh → Res Z} {σ : L2.St} {H : Hp} {Q : VK} (h : tOf T K (mChain g g' ma mb mc) σ H Q) : tChain (rOp T K g) (rOp T K g') (tOf T K ma) (tOf T K mb) (tOf T K mc) σ H Q := by
  refine tOf_bind (g := fun ρ x h => (mb ρ h).bind fun y h => (g x y h).bind fun k h => match k with
    | .bl true => (mc ρ h).bind fun z h => g' y z h
    | .bl false => .ok (.bl false) h
    | _ => .stuck) h fun as h1 ρ x v H1 r1 re q f => ?_
  refine ⟨as, h1, ρ, r1, re, f.bind.mono fun y h2 as2 H2 e2 r2 ⟨_, _, f2⟩ w q2 => ?_⟩
  refine ⟨as2, h2, x, y, r2, q.mono e2, q2, f2.bind.mono fun k h3 as3 H3 e3 r3 ⟨_, _, f3⟩ z q3 => ?_⟩
  obtain ⟨b, rfl⟩ : ∃ b, k = .bl b := by
    cases k with
    | bl b => exact ⟨b, rfl⟩
    | _ => exact f3.elim
  refine ⟨b, q3.bl_inv, ?_⟩
  cases b with
  | true =>
    rw [if_pos rfl]
    exact ⟨as3, h3, ρ, r3, re.mono (e2.trans e3), f3.bind.mono fun z h4 as4 H4 e4 r4 ⟨_, _, f4⟩ w4 q4 => ⟨as4, h4, y, z, r4, q2.mono (e3.trans e4), q4, f4⟩⟩
  | false =>
    rw [if_neg Bool.false_ne_true]
    exact FinV.self f3 r3 (.bl false)
theorem le_chain {op op' : CmpOp} {g g' : Z → Z → Mh → Res Z} {a b c : Expr} {ma mb mc : Ev → Mh → Res Z} {pos : Pos} (ho : OpR X (compareOp op) (rOp T X.K g)) (ho' : OpR X (compareOp op') (rOp T X.K g')) (ha : PE X a (tOf T X.K ma)) (hb : PE X b (tOf T X.K mb)) (hc : PE X c (tOf T X.K mc))
    (hm : lastMarks [op, op'] [b, c] = false) : PE X (.Compare a [op, op'] [b, c] pos) (tOf T X.K (mChain g g' ma mb mc)) := PE.imp (pe_chain ho ho' ha hb hc hm) fun _ _ _ h => chain_imp h
theorem lt_chain {op op' : CmpOp} {g g' : Z → Z → Mh → Res Z} {a b c : Expr} {ma mb mc : Ev → Mh → Res Z} {pos : Pos} (ho : OpR X (compareOp op) (rOp T X.K g)) (ho' : OpR X (compareOp op') (rOp T X.K g')) (hg : ∀ x y h z h', g' x y h = .ok z h' → ∃ b, z = .bl b)
    (ha : PE X a (tOf T X.K ma)) (hb : PE X b (tOf T X.K mb)) (hc : PE X c (tOf T X.K mc)) (hm : lastMarks [op, op'] [b, c] = false) : PT X (.Compare a [op, op'] [b, c] pos) (tOfB T X.K (mTst (mChain g g' ma mb mc))) := by
  refine PT.imp (pt_chain ho ho' ha hb hc hm) fun σ H Q h => chain_imp (tB_of (fun ρ h z h' e => ?_) h)
  simp only [mChain] at e
  cases e1 : ma ρ h with
  | stuck => rw [e1] at e; cases e
  | ok x h1 =>
    rw [e1, Res.bind_ok] at e
    cases e2 : mb ρ h1 with
    | stuck => rw [e2] at e; cases e
    | ok y h2 =>
      rw [e2, Res.bind_ok] at e
      cases e3 : g x y h2 with
      | stuck => rw [e3] at e; cases e
      | ok k h3 =>
        rw [e3, Res.bind_ok] at e
        cases k <;> try cases e
        rename_i b
        cases b with
        | false => cases e; exact ⟨_, rfl⟩
        | true =>
          cases e4 : mc ρ h3 with
          | stuck => simp only [e4] at e; cases e
          | ok w h4 =>
            simp only [e4, Res.bind_ok] at e
            exact hg y w h4 z h' e
/-! ### and, or, not, if -/
noncomputable abbrev mAnd (ma mb : Ev → Mh → Res Z) : Ev → Mh → Res Z := fun ρ h => (ma ρ h).bind fun x h => (zTru x h).bind fun t h => if t then mb ρ h else .ok x h
noncomputable abbrev mOr (ma mb : Ev → Mh → Res Z) : Ev → Mh → Res Z := fun ρ h => (ma ρ h).bind fun x h => (zTru x h).bind fun t h => if t then .ok x h else mb ρ h
noncomputable abbrev mNot (ma : Ev → Mh → Res Z) : Ev → Mh → Res Z := fun ρ h => (ma ρ h).bind fun x h => (zTru x h).bind fun t h => .ok (.bl (!t)) h
variable {a b c : Expr} {ma mb mc : Ev → Mh → Res Z} {rest : List Expr} {pos : Pos}
theorem le_and (ha : PE X a (tOf T X.K ma)) (hb : PE X (.BoolOp .And (b :: rest) pos) (tOf T X.K mb)) : PE X (.BoolOp .And (a :: b :: rest) pos) (tOf T X.K (mAnd ma mb)) := by
  refine PE.imp (pe_andT ha hb) fun σ H Q h => tOf_bind (g := fun ρ x h => (zTru x h).bind fun t h => if t then mb ρ h else .ok x h) h fun as h1 ρ x v H1 r1 re q f => ?_
  obtain ⟨k, _, t, _, _, f⟩ := zTru_inv r1 q f.bind
  refine ⟨k, t, ?_⟩
  cases k with
  | true => exact ⟨as, h1, ρ, r1, re, f⟩
  | false => exact FinV.self f r1 q
theorem le_or (ha : PE X a (tOf T X.K ma)) (hb : PE X (.BoolOp .Or (b :: rest) pos) (tOf T X.K mb)) : PE X (.BoolOp .Or (a :: b :: rest) pos) (tOf T X.K (mOr ma mb)) := by
  refine PE.imp (pe_orT ha hb) fun σ H Q h => tOf_bind (g := fun ρ x h => (zTru x h).bind fun t h => if t then .ok x h else mb ρ h) h fun as h1 ρ x v H1 r1 re q f => ?_
  obtain ⟨k, _, t, _, _, f⟩ := zTru_inv r1 q f.bind
  refine ⟨k, t, ?_⟩
  cases k with
  | false => exact ⟨as, h1, ρ, r1, re, f⟩
  | true => exact FinV.self f r1 q
theorem le_not (ha : PE X a (tOf T X.K ma)) : PE X (.UnaryOp .Not a pos) (tOf T X.K (mNot ma)) := by
  refine PE.imp (pe_notT ha) fun σ H Q h => tOf_bind (g := fun ρ x h => (zTru x h).bind fun t h => .ok (.bl (!t)) h) h fun as h1 ρ x v H1 r1 re q f => ?_
  obtain ⟨k, _, t, _, _, f⟩ := zTru_inv r1 q f.bind
  exact ⟨k, t, FinV.self f r1 (.bl _)⟩
theorem tOfB_then {m : Ev → Mh → Res Bool} {g : Ev → Bool → Mh → Res Z} {σ : L2.St} {H : Hp} {Q : VK} {R : Bool → Hp → Prop}
    (h : tOf T K (fun ρ h => (m ρ h).bind fun t h => g ρ t h) σ H Q) (k : ∀ as h ρ t H', RH T K as H' h → RE K as H' σ ρ → FinV T K as H' Q (g ρ t h) → R t H') : tOfB T K m σ H R := by
  obtain ⟨as, h0, ρ, rh, re, f⟩ := h
  exact ⟨as, h0, ρ, rh, re, f.bind.mono fun t h2 as2 H2 e2 r2 ⟨_, _, f2⟩ => k as2 h2 ρ t H2 r2 (re.mono e2) f2⟩
theorem tOfB_bindB {m : Ev → Mh → Res Bool} {g : Ev → Bool → Mh → Res Bool} {σ : L2.St} {H : Hp} {Q : Bool → Hp → Prop} {R : Bool → Hp → Prop}
    (h : tOfB T K (fun ρ h => (m ρ h).bind fun t h => g ρ t h) σ H Q) (k : ∀ as h ρ t H', RH T K as H' h → RE K as H' σ ρ → Fin T K as H' (fun b _ _ H' => Q b H') (g ρ t h) → R t H') : tOfB T K m σ H R := by
  obtain ⟨as, h0, ρ, rh, re, f⟩ := h
  exact ⟨as, h0, ρ, rh, re, f.bind.mono fun t h2 as2 H2 e2 r2 ⟨_, _, f2⟩ => k as2 h2 ρ t H2 r2 (re.mono e2) f2⟩
variable {xa xb xc : Ev → Mh → Res Bool}
noncomputable abbrev mIte (xc : Ev → Mh → Res Bool) (ma mb : Ev → Mh → Res Z) : Ev → Mh → Res Z := fun ρ h => (xc ρ h).bind fun t h => if t then ma ρ h else mb ρ h
theorem le_ite (hc : PT X c (tOfB T X.K xc)) (ha : PE X a (tOf T X.K ma)) (hb : PE X b (tOf T X.K mb)) : PE X (.IfExp c a b pos) (tOf T X.K (mIte xc ma mb)) := by
  refine PE.imp (pe_ifExp hc ha hb) fun σ H Q h => tOfB_then (g := fun ρ t h => if t then ma ρ h else mb ρ h) h fun as h1 ρ t H1 r1 re f => ?_
  cases t with
  | true => exact ⟨as, h1, ρ, r1, re, f⟩
  | false => exact ⟨as, h1, ρ, r1, re, f⟩
noncomputable abbrev xAnd (xa xb : Ev → Mh → Res Bool) : Ev → Mh → Res Bool := fun ρ h => (xa ρ h).bind fun t h => if t then xb ρ h else .ok false h
noncomputable abbrev xOr (xa xb : Ev → Mh → Res Bool) : Ev → Mh → Res Bool := fun ρ h => (xa ρ h).bind fun t h => if t then .ok true h else xb ρ h
noncomputable abbrev xNot (xa : Ev → Mh → Res Bool) : Ev → Mh → Res Bool := fun ρ h => (xa ρ h).bind fun t h => .ok (!t) h
theorem lw_and (ha : PT X a (tOfB T X.K xa)) (hb : PW X (.BoolOp .And (b :: rest) pos) (tOfB T X.K xb)) : PW X (.BoolOp .And (a :: b :: rest) pos) (tOfB T X.K (xAnd xa xb)) := by
  refine ⟨fun wh pins s σ H Q I q => (pw_and ha hb).run wh pins s σ H Q I ?_⟩
  refine tOfB_bindB (g := fun ρ t h => if t then xb ρ h else .ok false h) q fun as h1 ρ t H1 r1 re f => ?_
  cases t with
  | true => rw [if_pos rfl]; exact ⟨as, h1, ρ, r1, re, f⟩
  | false => rw [if_neg Bool.false_ne_true]; exact Fin.self f r1
theorem lw_or (ha : PT X a (tOfB T X.K xa)) (hb : PW X (.BoolOp .Or (b :: rest) pos) (tOfB T X.K xb)) : PW X (.BoolOp .Or (a :: b :: rest) pos) (tOfB T X.K (xOr xa xb)) := by
  refine ⟨fun wh pins s σ H Q I q => (pw_or ha hb).run wh pins s σ H Q I ?_⟩
  refine tOfB_bindB (g := fun ρ t h => if t then .ok true h else xb ρ h) q fun as h1 ρ t H1 r1 re f => ?_
  cases t with
  | false => rw [if_neg Bool.false_ne_true]; exact ⟨as, h1, ρ, r1, re, f⟩
  | true => rw [if_pos rfl]; exact Fin.self f r1
theorem lt_not (ha : PT X a (tOfB T X.K xa)) : PT X (.UnaryOp .Not a pos) (tOfB T X.K (xNot xa)) :=
  PT.imp (pt_not ha) fun σ H Q h => tOfB_bindB (g := fun ρ t h => .ok (!t) h) h fun as h1 ρ t H1 r1 re f => Fin.self f r1

/-! ### names, constants, displays -/
theorem le_var {i : Nat} {x : Str} (hN : X.N[i]? = some x) (hv : Vis X.env.scope x) (hd : (x == ("__debug__" : Str)) = false) (hcd : (x == ("__classdict__" : Str)) = false) :
    PE X (.Name x pos) (tOf T X.K fun ρ h => match ρ[i]? with | some (some z) => .ok z h | _ => .stuck) := by
  refine PE.imp (pe_var hN hv hd hcd) fun σ H Q h => ?_
  obtain ⟨as, h0, ρ, rh, re, f⟩ := h
  dsimp only at f
  split at f
  · rename_i z e
    obtain ⟨v, e1, q⟩ := re.at_ i z e
    exact ⟨v, e1, FinV.self f rh q⟩
  · exact f.elim
theorem le_lit {e : Expr} {z : Z} {v : V} (he : PE X e (tC v)) (r : ∀ as H, RZ X.K as H z v) : PE X e (tOf T X.K fun _ h => .ok z h) := by
  refine PE.imp he fun σ H Q h => ?_
  obtain ⟨as, h0, ρ, rh, re, f⟩ := h
  exact FinV.self f rh (r as H)
theorem la_nil : PA X [] (tOfA T X.K fun _ h => .ok [] h) := by
  refine PA.imp pa_nil fun σ H Q h => ?_
  obtain ⟨as, h0, ρ, rh, re, f⟩ := h
  exact Fin.self f rh [] .nil
noncomputable abbrev mCons (m : Ev → Mh → Res Z) (ms : Ev → Mh → Res (List Z)) : Ev → Mh → Res (List Z) := fun ρ h => (m ρ h).bind fun x h => (ms ρ h).bind fun xs h => .ok (x :: xs) h
theorem la_cons {e : Expr} {es : List Expr} {m : Ev → Mh → Res Z} {ms : Ev → Mh → Res (List Z)} (he : PE X e (tOf T X.K m)) (hes : PA X es (tOfA T X.K ms)) (hs : starEach (e :: es) X.env = (false, eval e X.env) :: starEach es X.env) : PA X (e :: es) (tOfA T X.K (mCons m ms)) := by
  refine PA.imp (pa_cons he hes hs) fun σ H Q h => ?_
  obtain ⟨as, h0, ρ, rh, re, f⟩ := h
  refine ⟨as, h0, ρ, rh, re, f.bind.mono fun x h1 as1 H1 e1 r1 ⟨_, _, f1⟩ v q => ?_⟩
  refine ⟨as1, h1, ρ, r1, re.mono e1, f1.bind.mono fun xs h2 as2 H2 e2 r2 ⟨_, _, f2⟩ vs qs => ?_⟩
  exact Fin.self f2 r2 (v :: vs) (.cons (q.mono e2) qs)
/-- arguments, then something with them -/
theorem tOfA_then {ms : Ev → Mh → Res (List Z)} {g : Ev → List Z → Mh → Res Z} {σ : L2.St} {H : Hp} {Q : VK} {R : List V → Hp → Prop}
    (h : tOf T K (fun ρ h => (ms ρ h).bind fun xs h => g ρ xs h) σ H Q) (k : ∀ as h ρ xs vs H', RH T K as H' h → RE K as H' σ ρ → RZs K as H' xs vs → FinV T K as H' Q (g ρ xs h) → R vs H') : tOfA T K ms σ H R := by
  obtain ⟨as, h0, ρ, rh, re, f⟩ := h
  exact ⟨as, h0, ρ, rh, re, f.bind.mono fun xs h1 as1 H1 e1 r1 ⟨_, _, f1⟩ vs q => k as1 h1 ρ xs vs H1 r1 (re.mono e1) q f1⟩
theorem le_tup {es : List Expr} {ms : Ev → Mh → Res (List Z)} {x1 : Nat} (h : PA X es (tOfA T X.K ms)) : PE X (.Tuple es x1 pos) (tOf T X.K fun ρ h => (ms ρ h).bind fun xs h => guard (xs.length ≤ sizeLine) (.ok (.tup xs) h)) := by
  refine PE.imp (pe_tup h) fun σ H Q h => tOfA_then (g := fun _ xs h => guard (xs.length ≤ sizeLine) (.ok (.tup xs) h)) h fun as h1 ρ xs vs H1 r1 re q f => ?_
  obtain ⟨c, f⟩ := Fin.guard f
  exact ⟨by rw [← q.length]; exact c, fun p hp => FinV.newT f r1 q hp⟩
theorem le_lst {es : List Expr} {ms : Ev → Mh → Res (List Z)} (h : PA X es (tOfA T X.K ms)) : PE X (.List es pos) (tOf T X.K fun ρ h => (ms ρ h).bind fun xs h => guard (xs.length ≤ sizeLine) (newL h xs)) := by
  refine PE.imp (pe_lst h) fun σ H Q h => tOfA_then (g := fun _ xs h => guard (xs.length ≤ sizeLine) (newL h xs)) h fun as h1 ρ xs vs H1 r1 re q f => ?_
  obtain ⟨c, f⟩ := Fin.guard f
  exact ⟨by rw [← q.length]; exact c, fun p hp => FinV.newL f r1 q hp⟩
theorem le_dct0 : PE X (.Dict [] [] pos) (tOf T X.K fun _ h => .ok (.ob h.length) (h ++ [.dct []])) := by
  refine PE.imp pe_dnewK fun σ H Q h p hp => ?_
  obtain ⟨as, h0, ρ, rh, re, f⟩ := h
  exact FinV.newD f rh hp

/-! ### subscripts, slices -/
theorem atI_RZ {as : List Addr} {H : Hp} {zs : List Z} {vs : List V} {i : Int} {z : Z} (r : RZs K as H zs vs) (e : atI zs i = some z) : ∃ v, atI vs i = some v ∧ RZ K as H z v := by
  unfold atI at e ⊢
  rw [← r.length]
  cases q : ixN zs.length i with
  | none => rw [q] at e; cases e
  | some j =>
    rw [q] at e
    obtain ⟨v, h1, h2⟩ := r.get (i := j) e
    exact ⟨v, h1, h2⟩
theorem oRes_inv {α : Type} {as : List Addr} {H : Hp} {h : Mh} {Q : α → Mh → List Addr → Hp → Prop} {o : Option α} (f : Fin T K as H Q (oRes o h)) : ∃ x, o = some x ∧ Fin T K as H Q (.ok x h) := by
  cases o with
  | none => exact f.elim
  | some x => exact ⟨x, rfl, f⟩
theorem ix_dict (hu : X.A.units + 1 < cLine) : IxR X (fun x y H Q => ∃ a v, x = .ref a ∧ DGet H a y (some v) ∧ Q v H) := by
  intro value slice pins s σ H x y v u Q I rx ry h hs
  obtain ⟨a, w, e, g, q⟩ := h
  subst e
  obtain rfl : v = Value.ref a := rx
  have hT := dict_typeIs I g
  unfold subscriptTail
  refine wpAny_bind ?_
  rw [getitemInPython_of_ne hT.not_modules]
  refine wpAny_bind (wpAny_specialOf hT PySem.F.slot_dict_getitem.lookup ?_)
  have h₂ : wpAny (model X.prog X.w) X.A (getItem (.ref a) u) (EP X pins σ Q) X.xe s := d_getItem hu I g ry fun w' s3 I3 rw' => ⟨w, H, I3, rw', q⟩
  have fin : wpAny (model X.prog X.w) X.A (subscripted slice false (.ref a) u) (fun r s₃ => wpAny (model X.prog X.w) X.A (letTemporaryGo value (.ref a) r >>= fun _ => pure r) (EP X pins σ Q) X.xe s₃) X.xe s := by
    rw [hs]
    exact wpAny_operating (wpAny_mono h₂ (fun r s₃ h₃ => wpAny_bind (wpAny_letTemporaryGo (wpAny_pure h₃))) fun _ _ x => x)
  first
    | exact wpAny_pure (wpAny_bind fin)
    | exact wpAny_bind (wpAny_pure (wpAny_bind fin))
    | exact wpAny_bind fin
theorem iz_idx (hu : X.A.units + 1 < cLine) : IxR X (rOp T X.K zIdx) := by
  intro value slice pins s σ H x y v u Q I rx ry ⟨as, h, a, b, rh, ra, rb, f⟩ hs
  cases a <;> first | exact f.elim | skip
  · rename_i zs
    simp only [zIdx] at f
    cases b <;> first | exact f.elim | skip
    rename_i i
    obtain ⟨z, e, f⟩ := oRes_inv f
    obtain ⟨p, vs, rfl, h1, h2⟩ := ra.tup_inv
    obtain ⟨w, e1, q⟩ := atI_RZ h2 e
    exact ix_tup value slice pins s σ H _ y v u Q I rx ry ⟨p, vs, i, w, rfl, rb.int_inv, h1, e1, FinV.self f rh q⟩ hs
  · rename_i n
    simp only [zIdx] at f
    obtain ⟨p, rfl, ep⟩ := ra.ob_inv
    split at f
    · rename_i kvs he
      split at f
      · rename_i k hk
        obtain ⟨z, e, f⟩ := oRes_inv f
        obtain ⟨kws, h1, h2⟩ := rh.dct he ep
        rcases h2.val (k := k) with ⟨e1, _⟩ | ⟨z', w, e1, e2, q⟩
        · rw [e] at e1; cases e1
        · rw [e] at e1
          cases e1
          refine ix_dict hu value slice pins s σ H _ y v u Q I rx ry ⟨p, w, rfl, ?_, FinV.self f rh q⟩ hs
          rw [keyZ_kV hk rb, ← e2]
          exact DGet.k h1
      · exact f.elim
    · rename_i zs he
      cases b <;> first | exact f.elim | skip
      rename_i i
      obtain ⟨z, e, f⟩ := oRes_inv f
      obtain ⟨vs, h1, h2⟩ := rh.lst he ep
      obtain ⟨w, e1, q⟩ := atI_RZ h2 e
      exact ix_list value slice pins s σ H _ y v u Q I rx ry ⟨p, vs, i, w, rfl, rb.int_inv, SqL.of h1, e1, FinV.self f rh q⟩ hs
    · rename_i zs he
      cases b <;> first | exact f.elim | skip
      rename_i i
      obtain ⟨z, e, f⟩ := oRes_inv f
      obtain ⟨vs, h1, h2⟩ := rh.fro he ep
      obtain ⟨w, e1, q⟩ := atI_RZ h2 e
      exact ix_list value slice pins s σ H _ y v u Q I rx ry ⟨p, vs, i, w, rfl, rb.int_inv, h1, e1, FinV.self f rh q⟩ hs
    · exact f.elim
theorem le_idx (hu : X.A.units + 1 < cLine) (ha : PE X a (tOf T X.K ma)) (hb : PE X b (tOf T X.K mb)) (hs : PlainIx b) : PE X (.Subscript a b pos) (tOf T X.K fun ρ h => (ma ρ h).bind fun x h => (mb ρ h).bind fun y h => zIdx x y h) :=
  PE.imp (pe_ix (iz_idx hu) ha hb hs) fun _ _ _ h => tOf_bind2 h
theorem cutZ_cut {as : List Addr} {H : Hp} {zs : List Z} {vs : List V} (r : RZs K as H zs vs) (lo hi : Option Int) : RZs K as H (cutZ zs lo hi) (cutV vs lo hi) := by
  unfold cutZ cutV
  rw [r.length]
  exact (r.drop _).take _
def rSl (T : Tb) (K : PySem.W.Frag) : V → Option Int → Option Int → Hp → VK → Prop := fun x lo hi H Q => ∃ as h z, RH T K as H h ∧ RZ K as H z x ∧ FinV T K as H Q (zSlc z lo hi h)
theorem sz_slc : SlR X (rSl T X.K) := by
  intro pins s σ H x v vl vu lo hi sl Q I rx hs pl pu ⟨as, h, z, rh, r, f⟩
  cases z <;> first | exact f.elim | skip
  · rename_i zs
    obtain ⟨p, vs, rfl, h1, h2⟩ := r.tup_inv
    refine sl_tupA pins s σ H _ v vl vu lo hi sl Q I rx hs pl pu ⟨p, vs, rfl, h1, fun hw => ?_, fun _ q hq => ?_⟩
    · have e : cutZ zs lo hi = zs := by
        unfold cutZ
        rw [h2.length, hw.1, hw.2, List.drop_zero, Nat.sub_zero, ← h2.length, List.take_length]
      have f' : FinV T X.K as H Q (.ok (.tup (cutZ zs lo hi)) h) := f
      rw [e] at f'
      exact FinV.self f' rh r
    · exact FinV.newT f rh (cutZ_cut h2 lo hi) hq
  · rename_i n
    obtain ⟨p, rfl, ep⟩ := r.ob_inv
    simp only [zSlc] at f
    split at f
    · rename_i zs he
      obtain ⟨vs, h1, h2⟩ := rh.lst he ep
      exact sl_list pins s σ H _ v vl vu lo hi sl Q I rx hs pl pu ⟨p, vs, rfl, SqL.of h1, fun q hq => FinV.newL f rh (cutZ_cut h2 lo hi) hq⟩
    · rename_i zs he
      obtain ⟨vs, h1, h2⟩ := rh.fro he ep
      exact sl_list pins s σ H _ v vl vu lo hi sl Q I rx hs pl pu ⟨p, vs, rfl, h1, fun q hq => FinV.newL f rh (cutZ_cut h2 lo hi) hq⟩
    · exact f.elim
def tOfP (T : Tb) (K : PySem.W.Frag) (m : Ev → Mh → Res (Option Int)) : TO := fun σ H Q => ∃ as h ρ, RH T K as H h ∧ RE K as H σ ρ ∧ Fin T K as H (fun o _ _ H' => Q o H') (m ρ h)
theorem PO.imp {e : Option Expr} {t t' : TO} (h : PO X e t) (i : ∀ σ H Q, t' σ H Q → t σ H Q) : PO X e t' := ⟨fun pins s σ H Q I q => h.run pins s σ H Q I (i σ H Q q)⟩
theorem lp_none : PO X none (tOfP T X.K fun _ h => .ok none h) := by
  refine PO.imp po_none fun σ H Q h => ?_
  obtain ⟨as, h0, ρ, rh, re, f⟩ := h
  exact Fin.self f rh
theorem lp_some {e : Expr} {m : Ev → Mh → Res Z} (he : PE X e (tOf T X.K m)) : PO X (some e) (tOfP T X.K fun ρ h => (m ρ h).bind fun x h => match x with | .int i => .ok (some i) h | _ => .stuck) := by
  refine PO.imp (po_some he) fun σ H Q h => ?_
  obtain ⟨as, h0, ρ, rh, re, f⟩ := h
  refine ⟨as, h0, ρ, rh, re, f.bind.mono fun x h1 as1 H1 e1 r1 ⟨_, _, f1⟩ v q => ?_⟩
  cases x <;> first | exact f1.elim | skip
  exact ⟨_, q.int_inv, Fin.self f1 r1⟩
theorem le_slc {lo hi : Option Expr} {ml mh : Ev → Mh → Res (Option Int)} {p2 : Pos} (ha : PE X a (tOf T X.K ma)) (hl : PO X lo (tOfP T X.K ml)) (hh : PO X hi (tOfP T X.K mh)) :
    PE X (.Subscript a (.Slice lo hi none p2) pos) (tOf T X.K fun ρ h => (ma ρ h).bind fun x h => (ml ρ h).bind fun l h => (mh ρ h).bind fun u h => zSlc x l u h) := by
  refine PE.imp (pe_slice (sz_slc (T := T)) ha hl hh) fun σ H Q h => tOf_bind (g := fun ρ x h => (ml ρ h).bind fun l h => (mh ρ h).bind fun u h => zSlc x l u h) h fun as h1 ρ x v H1 r1 re q f => ?_
  refine ⟨as, h1, ρ, r1, re, f.bind.mono fun l h2 as2 H2 e2 r2 ⟨_, _, f2⟩ => ?_⟩
  exact ⟨as2, h2, ρ, r2, re.mono e2, f2.bind.mono fun u h3 as3 H3 e3 r3 ⟨_, _, f3⟩ => ⟨as3, h3, x, r3, q.mono (e2.trans e3), f3⟩⟩
end Zm
namespace Zm
open PySem PySem.Spec PyProof.Rows L2
variable {T : Tb} {X : Cx} {K : PySem.W.Frag}

/-! ### built-in functions by values -/
theorem CallR.or {f : Value} {r r' : List V → Hp → VK → Prop} (h : CallR X f r) (h' : CallR X f r') : CallR X f (fun xs H Q => r xs H Q ∨ r' xs H Q) := by
  intro pins s σ H xs us Q I rs q
  rcases q with q | q
  · exact h pins s σ H xs us Q I rs q
  · exact h' pins s σ H xs us Q I rs q
theorem CallR.imp {f : Value} {r r' : List V → Hp → VK → Prop} (h : CallR X f r) (i : ∀ xs H Q, r' xs H Q → r xs H Q) : CallR X f r' := fun pins s σ H xs us Q I rs q => h pins s σ H xs us Q I rs (i xs H Q q)
theorem one_inv {α : Type} {as : List Addr} {H : Hp} {zs : List Z} {xs : List V} {z : Z} (e : zs = [z]) (r : RZs K as H zs xs) : ∃ v, xs = [v] ∧ RZ K as H z v := by
  subst e
  cases r with
  | cons r1 r2 => cases r2; exact ⟨_, rfl, r1⟩
theorem RZs.one {as : List Addr} {H : Hp} {z : Z} {xs : List V} (r : RZs K as H [z] xs) : ∃ v, xs = [v] ∧ RZ K as H z v := by
  cases r with
  | cons r1 r2 => cases r2; exact ⟨_, rfl, r1⟩
theorem RZs.two {as : List Addr} {H : Hp} {z y : Z} {xs : List V} (r : RZs K as H [z, y] xs) : ∃ v u, xs = [v, u] ∧ RZ K as H z v ∧ RZ K as H y u := by
  cases r with
  | cons r1 r2 =>
    cases r2 with
    | cons r3 r4 => cases r4; exact ⟨_, _, rfl, r1, r3⟩
theorem RZs.nil_inv {as : List Addr} {H : Hp} {xs : List V} (r : RZs K as H [] xs) : xs = [] := by cases r; rfl
theorem RKs.length {as : List Addr} {H : Hp} {x : List (Key × Z)} {y : List (Key × V)} (r : RKs K as H x y) : x.length = y.length := Paired.length r
theorem cz_len : CallR X (.builtin "len") (rCl T X.K (zBF .len)) := by
  refine CallR.imp (CallR.or call_len call_lenD) fun xs H Q ⟨as, h, zs, rh, r, f⟩ => ?_
  unfold zBF at f
  split at f <;> try exact f.elim
  all_goals rename_i heq
  all_goals try (cases heq; done)
  rename_i z _
  obtain ⟨v, rfl, q⟩ := r.one
  split at f
  · obtain ⟨c, f⟩ := Fin.guard f
    rw [q.str_inv]
    exact .inl ⟨_, _, rfl, ⟨c, rfl⟩, FinV.self f rh (.int _)⟩
  · obtain ⟨p, vs, rfl, h1, h2⟩ := q.tup_inv
    exact .inl ⟨_, vs.length, rfl, .inr ⟨vs, h1, rfl⟩, by rw [← h2.length]; exact FinV.self f rh (.int _)⟩
  · obtain ⟨p, rfl, ep⟩ := q.ob_inv
    split at f
    · rename_i he
      obtain ⟨vs, h1, h2⟩ := rh.lst he ep
      exact .inl ⟨_, vs.length, rfl, .inl ⟨vs, SqL.of h1, rfl⟩, by rw [← h2.length]; exact FinV.self f rh (.int _)⟩
    · rename_i he
      obtain ⟨vs, h1, h2⟩ := rh.fro he ep
      exact .inl ⟨_, vs.length, rfl, .inl ⟨vs, h1, rfl⟩, by rw [← h2.length]; exact FinV.self f rh (.int _)⟩
    · rename_i he
      obtain ⟨kws, h1, h2⟩ := rh.dct he ep
      exact .inr ⟨p, kws, rfl, h1, by rw [← RKs.length h2]; exact FinV.self f rh (.int _)⟩
    · exact f.elim
  · exact f.elim
theorem cz_tuple : CallR X (.type "tuple") (rCl T X.K (zBF .tuple)) := by
  refine CallR.imp call_tuple_of fun xs H Q ⟨as, h, zs, rh, r, f⟩ => ?_
  unfold zBF at f
  split at f <;> try exact f.elim
  all_goals rename_i heq
  all_goals try (cases heq; done)
  rename_i z _
  obtain ⟨v, rfl, q⟩ := r.one
  split at f
  · rename_i ys e
    obtain ⟨p, vs, rfl, h1, h2⟩ := seqZ_inv rh e q
    refine ⟨p, vs, rfl, ?_⟩
    rcases h2 with ⟨hl, _⟩ | ⟨ht, _⟩
    · exact .inl ⟨hl, fun l hl => FinV.newT f rh h1 hl⟩
    · exact .inr ⟨ht, FinV.self f rh (.tup ht h1)⟩
  · exact f.elim
theorem cz_list : CallR X (.type "list") (rCl T X.K (zBF .list)) := by
  refine CallR.imp call_list_of fun xs H Q ⟨as, h, zs, rh, r, f⟩ => ?_
  unfold zBF at f
  split at f <;> try exact f.elim
  all_goals rename_i heq
  all_goals try (cases heq; done)
  rename_i z _
  obtain ⟨v, rfl, q⟩ := r.one
  split at f
  · rename_i ys e
    obtain ⟨p, vs, rfl, h1, h2⟩ := seqZ_inv rh e q
    refine ⟨p, vs, rfl, ?_, fun l hl => FinV.newL f rh h1 hl⟩
    rcases h2 with ⟨hl, _⟩ | ⟨ht, _⟩
    · exact .inl hl
    · exact .inr ht
  · exact f.elim
theorem cz_int : CallR X (.type "int") (rCl T X.K (zBF .int)) := by
  refine CallR.imp call_int1 fun xs H Q ⟨as, h, zs, rh, r, f⟩ => ?_
  unfold zBF at f
  split at f <;> try exact f.elim
  all_goals rename_i heq
  all_goals try (cases heq; done)
  rename_i z _
  obtain ⟨v, rfl, q⟩ := r.one
  split at f
  · rw [q.int_inv]
    exact .inl ⟨_, rfl, FinV.self f rh (.int _)⟩
  · rw [q.bl_inv]
    exact .inr ⟨_, rfl, FinV.self f rh (.int _)⟩
  · exact f.elim
theorem cz_min (hc : X.calm = true) : CallR X (.builtin "min") (rCl T X.K (zBF .min)) := by
  refine CallR.imp (call_min2 hc) fun xs H Q ⟨as, h, zs, rh, r, f⟩ => ?_
  unfold zBF at f
  split at f <;> try exact f.elim
  all_goals rename_i heq
  all_goals try (cases heq; done)
  obtain ⟨v, u, rfl, q1, q2⟩ := r.two
  rw [q1.int_inv, q2.int_inv]
  exact ⟨_, _, rfl, FinV.self f rh (.int _)⟩
theorem cz_max (hc : X.calm = true) : CallR X (.builtin "max") (rCl T X.K (zBF .max)) := by
  refine CallR.imp (call_max2 hc) fun xs H Q ⟨as, h, zs, rh, r, f⟩ => ?_
  unfold zBF at f
  split at f <;> try exact f.elim
  all_goals rename_i heq
  all_goals try (cases heq; done)
  obtain ⟨v, u, rfl, q1, q2⟩ := r.two
  rw [q1.int_inv, q2.int_inv]
  exact ⟨_, _, rfl, FinV.self f rh (.int _)⟩

/-! ### any, all, sorted -/
theorem truths_data {as : List Addr} {H : Hp} : ∀ {zs : List Z} {vs : List V} {bs : List Bool}, truths zs = some bs → RZs K as H zs vs →
    ∃ ds : List PyData, DpAll K H vs ds ∧ PyData.plainAll ds = true ∧ (∀ x ∈ ds, x.fits63) ∧ ds.map PyData.truthy = bs
  | [], _, bs, e, r => by
    cases e
    cases r
    exact ⟨[], .nil, rfl, by simp, rfl⟩
  | z :: zs, _, bs, e, r => by
    cases r with
    | @cons _ _ v vs r rs =>
      have key : ∀ (b : Bool) (d : PyData), (truths zs).map (b :: ·) = some bs → Dp K H v d → d.plain = true → d.fits63 → d.truthy = b → ∃ ds : List PyData, DpAll K H (v :: vs) ds ∧ PyData.plainAll ds = true ∧ (∀ x ∈ ds, x.fits63) ∧ ds.map PyData.truthy = bs := by
        intro b d e hd hp hf ht
        cases q : truths zs with
        | none => rw [q] at e; cases e
        | some bs' =>
          rw [q] at e
          cases e
          obtain ⟨ds, h1, h2, h3, h4⟩ := truths_data q rs
          refine ⟨d :: ds, .cons hd h1, ?_, fun x hx => ?_, ?_⟩
          · rw [PyData.plainAll, hp, h2]; rfl
          · rcases List.mem_cons.mp hx with rfl | hx
            · exact hf
            · exact h3 x hx
          · rw [List.map_cons, ht, h4]
      cases z <;> simp only [truths] at e <;> try cases e
      · exact key false .none e (by rw [r.non_inv]; exact .non) rfl trivial rfl
      · exact key _ (.bool _) e (by rw [r.bl_inv]; exact .bl _) rfl trivial rfl
      · exact key _ (.int _) e (by rw [r.int_inv]; exact .int _) rfl trivial rfl
theorem seq_reads {pins : List (Addr × Obj)} {σ : L2.St} {H : Hp} {s : Shared} {vs : List V} {ds : List PyData} {us : List Value} (I : Inv X pins σ H s) (h : DpAll X.K H vs ds) (r : Vals vs us) : ∃ as, ReadsAll s.heap us ds as := Dp.readsAll I ds vs us h r
theorem any_map (ds : List PyData) : (ds.map PyData.truthy).any id = ds.any PyData.truthy := by
  rw [List.any_map]
  rfl
theorem all_map (ds : List PyData) : (ds.map PyData.truthy).all id = ds.all PyData.truthy := by
  rw [List.all_map]
  rfl
theorem cz_any (hc : X.calm = true) : CallR X (.builtin "any") (rCl T X.K (zBF .any)) := by
  intro pins s σ H xs us Q I rs ⟨as, h, zs, rh, r, f⟩
  unfold zBF at f
  split at f <;> try exact f.elim
  all_goals rename_i heq
  all_goals try (cases heq; done)
  rename_i z _
  obtain ⟨v, rfl, q⟩ := r.one
  split at f
  · rename_i ys e
    split at f
    · rename_i bs eb
      obtain ⟨p, vs, rfl, h1, h2⟩ := seqZ_inv rh e q
      obtain rfl := Vals.ref1 rs
      obtain ⟨ds, d1, d2, d3, d4⟩ := truths_data eb h1
      have fin : Q (.bl (ds.any PyData.truthy)) H := by
        rw [← any_map, d4]
        exact FinV.self f rh (.bl _)
      rcases h2 with ⟨hl, _⟩ | ⟨ht, _⟩
      · obtain ⟨its, rv, pl, hz⟩ := I.list hl
        obtain ⟨as2, hr⟩ := seq_reads I d1 rv
        exact PySem.W.any_list_data (I.ok.hd hc) pl.isList (by simpa using hr) d2 d3 fun h' tk hk => ⟨.bl _, H, I.kept hk, rfl, fin⟩
      · obtain ⟨its, rv, pl, hz⟩ := I.tuple ht
        obtain ⟨as2, hr⟩ := seq_reads I d1 rv
        exact PySem.W.any_tuple_data (I.ok.hd hc) pl (by simpa using hr) d2 d3 fun h' tk hk => ⟨.bl _, H, I.kept hk, rfl, fin⟩
    · exact f.elim
  · exact f.elim
theorem cz_all (hc : X.calm = true) : CallR X (.builtin "all") (rCl T X.K (zBF .all)) := by
  intro pins s σ H xs us Q I rs ⟨as, h, zs, rh, r, f⟩
  unfold zBF at f
  split at f <;> try exact f.elim
  all_goals rename_i heq
  all_goals try (cases heq; done)
  rename_i z _
  obtain ⟨v, rfl, q⟩ := r.one
  split at f
  · rename_i ys e
    split at f
    · rename_i bs eb
      obtain ⟨p, vs, rfl, h1, h2⟩ := seqZ_inv rh e q
      obtain rfl := Vals.ref1 rs
      obtain ⟨ds, d1, d2, d3, d4⟩ := truths_data eb h1
      have fin : Q (.bl (ds.all PyData.truthy)) H := by
        rw [← all_map, d4]
        exact FinV.self f rh (.bl _)
      rcases h2 with ⟨hl, _⟩ | ⟨ht, _⟩
      · obtain ⟨its, rv, pl, hz⟩ := I.list hl
        obtain ⟨as2, hr⟩ := seq_reads I d1 rv
        exact PySem.W.all_list_data (I.ok.hd hc) pl.isList (by simpa using hr) d2 d3 fun h' tk hk => ⟨.bl _, H, I.kept hk, rfl, fin⟩
      · obtain ⟨its, rv, pl, hz⟩ := I.tuple ht
        obtain ⟨as2, hr⟩ := seq_reads I d1 rv
        exact PySem.W.all_tuple_data (I.ok.hd hc) pl (by simpa using hr) d2 d3 fun h' tk hk => ⟨.bl _, H, I.kept hk, rfl, fin⟩
    · exact f.elim
  · exact f.elim
theorem intsOf_eq : ∀ {zs : List Z} {ns : List Int}, intsOf zs = some ns → zs = ns.map Z.int
  | [], ns, e => by cases e; rfl
  | z :: zs, ns, e => by
    cases z <;> simp only [intsOf] at e <;> try cases e
    rename_i i
    cases q : intsOf zs with
    | none => rw [q] at e; cases e
    | some ms =>
      rw [q] at e
      cases e
      rw [intsOf_eq q]
      rfl
theorem keyInts_eq {as : List Addr} {H : Hp} : ∀ {kvs : List (Key × Z)} {kws : List (Key × V)} {ns : List Int}, keyInts kvs = some ns → RKs K as H kvs kws → kws.map (·.1) = ns.map Sum.inl
  | [], _, ns, e, .nil => by cases e; rfl
  | (k, z) :: kvs, (k2, v) :: kws, ns, e, .cons r rs => by
    obtain ⟨ek, _⟩ := r
    have ek : k = k2 := ek
    subst ek
    cases k with
    | inr x => simp only [keyInts] at e; cases e
    | inl i =>
      simp only [keyInts] at e
      cases q : keyInts kvs with
      | none => rw [q] at e; cases e
      | some ms =>
        rw [q] at e
        cases e
        rw [List.map_cons, List.map_cons, keyInts_eq q rs]
theorem sortI_perm (ns : List Int) : (sortI ns).Perm ns := List.mergeSort_perm _ _
theorem sortI_sorted (ns : List Int) : (sortI ns).Pairwise (· ≤ ·) := by
  have h := List.pairwise_mergeSort (le := fun a b : Int => decide (a ≤ b)) (fun a b c h1 h2 => by simp only [decide_eq_true_eq] at *; omega) (fun a b => by simp only [Bool.or_eq_true, decide_eq_true_eq]; omega) ns
  exact h.imp fun h => by simpa using h
theorem sorted_unique {xs ys : List Int} (p : xs.Perm ys) (h1 : xs.Pairwise (· ≤ ·)) (h2 : ys.Pairwise (· ≤ ·)) : xs = ys :=
  p.eq_of_pairwise (le := fun a b : Int => a ≤ b) (fun a b _ _ h3 h4 => Int.le_antisymm h3 h4) h1 h2
theorem cz_sorted (hc : X.calm = true) : CallR X (.builtin "sorted") (rCl T X.K (zBF .sorted)) := by
  refine CallR.imp (CallR.or cr_sortedI (call_sortedDI hc)) fun xs H Q ⟨as, h, zs, rh, r, f⟩ => ?_
  unfold zBF at f
  split at f <;> try exact f.elim
  all_goals rename_i heq
  all_goals try (cases heq; done)
  obtain ⟨v, rfl, q⟩ := r.one
  obtain ⟨p, rfl, ep⟩ := q.ob_inv
  split at f
  · rename_i ys he
    split at f
    · rename_i ns en
      obtain ⟨vs, h1, h2⟩ := rh.lst he ep
      rw [intsOf_eq en] at h2
      have e2 := RZs.ints_inv h2
      refine .inl ⟨p, ns, rfl, SqL.of (by rw [h1, e2]), fun ns' l pm sr hl => ?_⟩
      have e3 : ns' = sortI ns := sorted_unique (pm.trans (sortI_perm ns).symm) sr (sortI_sorted ns)
      rw [e3]
      exact FinV.newL f rh (RZs.ints _) hl
    · exact f.elim
  · rename_i kvs he
    split at f
    · rename_i ns en
      obtain ⟨c, f⟩ := Fin.guard f
      obtain ⟨kws, h1, h2⟩ := rh.dct he ep
      refine .inr ⟨p, kws, ns, rfl, .inl h1, keyInts_eq en h2, c, fun ns' l pm sr hl => ?_⟩
      have e3 : ns' = sortI ns := sorted_unique (pm.trans (sortI_perm ns).symm) sr (sortI_sorted ns)
      rw [e3]
      exact FinV.newL f rh (RZs.ints _) hl
    · exact f.elim
  · exact f.elim
end Zm
namespace Zm
open PySem PySem.Spec PyProof.Rows L2
variable {T : Tb} {X : Cx} {K : PySem.W.Frag}

/-! ### shapes of the text -/
def noStar : Expr → Bool
  | .Starred .. => false
  | _ => true
def noCall : Expr → Bool
  | .Call .. => false
  | _ => true
def noComp : Expr → Bool
  | .ListComp .. => false
  | .SetComp .. => false
  | .DictComp .. => false
  | _ => true
def noSlice : Expr → Bool
  | .Slice .. => false
  | _ => true
def noSet : Expr → Bool
  | .Set .. => false
  | _ => true
def noDisp : Expr → Bool
  | .Tuple .. => false
  | .List .. => false
  | _ => true
theorem star_cons {e : Expr} (h : noStar e = true) (es : List Expr) (env : Env) : starEach (e :: es) env = (false, eval e env) :: starEach es env := by
  cases e <;> first | rfl | cases h
theorem star_plain (env : Env) : ∀ {es : List Expr}, es.all noStar = true → ∀ p : Bool × Sem Value, p ∈ starEach es env → p.1 = false
  | [], _, p, hp => by cases hp
  | e :: es, h, p, hp => by
    rw [List.all_cons, Bool.and_eq_true] at h
    rw [star_cons h.1] at hp
    rcases List.mem_cons.mp hp with rfl | hp
    · rfl
    · exact star_plain env h.2 p hp
theorem back_plain {es : List Expr} (h : es.all noStar = true) (pos : Pos) (env : Env) : (backTo pos (starEach es env)).any (·.1) = false := by
  rw [List.any_eq_false]
  intro p hp
  unfold backTo at hp
  obtain ⟨q, hq, rfl⟩ := List.mem_map.mp hp
  have := star_plain env h q hq
  simp [this]
theorem back_all {es : List Expr} (h : es.all noStar = true) (pos : Pos) (env : Env) : (backTo pos (starEach es env)).all (fun x => !x.1) = true := by
  rw [List.all_eq_true]
  intro p hp
  unfold backTo at hp
  obtain ⟨q, hq, rfl⟩ := List.mem_map.mp hp
  have := star_plain env h q hq
  simp [this]
theorem base_plain {o : Expr} (h : noCall o = true) (a : Str) (env : Env) (w : Sem Value) : attributeBase o a env w = w := by
  cases o <;> first | rfl | cases h
theorem ix_plain {b : Expr} (h : noSlice b = true) : PlainIx b := by
  intro o i
  cases b <;> first | rfl | cases h
theorem swaps_no {e : Expr} (h : noComp e = true) (t : Option Expr) (l : Nat) (env : Env) : swapsWith e t l env = pure false := by
  cases e <;> first | rfl | cases h
theorem set_no {e : Expr} (h : noSet e = true) (env : Env) (x : Value) : foldedSetIterable e env x = pure x := by
  cases e <;> first | rfl | cases h
theorem in_marks {e : Expr} (h : noSet e = true) (op : CmpOp) : behindInMarks op e = false := by
  cases e <;> first | rfl | cases h
theorem few_plain {e : Expr} {es : List Expr} (h : (e :: es).all noStar = true) (hl : (e :: es).length < 30) (pos : Pos) (env : Env) :
    ((backTo pos (starEach (e :: es) env)).all (fun x => !x.1) && (backToKw pos (keywordEach [] env)).all (fun x => x.1.isSome)
      && decide ((e :: es).length + ([] : List Keyword).length + (if ([] : List Keyword).isEmpty then 0 else 1) < 30)) = true := by
  rw [back_all h]
  have : decide ((e :: es).length + ([] : List Keyword).length + (if ([] : List Keyword).isEmpty then 0 else 1) < 30) = true := by
    apply decide_eq_true
    simpa using hl
  rw [this]
  rfl

variable {a b c : Expr} {ma mb mc : Ev → Mh → Res Z} {rest : List Expr} {pos : Pos}
/-! ### fields -/
theorem look_F {as : List Addr} {H : Hp} {f : Nat} {z : Z} : ∀ {x : List (Nat × Z)} {y : List (Str × V)}, RFs T K as H x y → lookF x f = some z → ∃ v, y.lookup (T.an f) = some v ∧ RZ K as H z v
  | _, _, .nil, e => by simp [lookF] at e
  | (g, w) :: x, (n, v) :: y, .cons r rs, e => by
    obtain ⟨e1, q⟩ := r
    have e1 : T.an g = n := e1
    subst e1
    simp only [lookF] at e
    by_cases hg : f = g
    · subst hg
      rw [if_pos rfl] at e
      cases e
      exact ⟨v, by rw [List.lookup_cons]; simp, q⟩
    · rw [if_neg hg] at e
      obtain ⟨u, h1, h2⟩ := look_F rs e
      refine ⟨u, ?_, h2⟩
      rw [List.lookup_cons]
      have : (T.an f == T.an g) = false := beq_eq_false_iff_ne.mpr fun q => hg (T.anInj _ _ q)
      rw [this]
      exact h1
theorem look_no {as : List Addr} {H : Hp} {f : Nat} : ∀ {x : List (Nat × Z)} {y : List (Str × V)}, RFs T K as H x y → lookF x f = none → y.lookup (T.an f) = none
  | _, _, .nil, e => rfl
  | (g, w) :: x, (n, v) :: y, .cons r rs, e => by
    obtain ⟨e1, q⟩ := r
    have e1 : T.an g = n := e1
    subst e1
    simp only [lookF] at e
    by_cases hg : f = g
    · subst hg
      rw [if_pos rfl] at e
      cases e
    · rw [if_neg hg] at e
      rw [List.lookup_cons]
      have : (T.an f == T.an g) = false := beq_eq_false_iff_ne.mpr fun q => hg (T.anInj _ _ q)
      rw [this]
      exact look_no rs e
theorem look_mem {f : Nat} {z : Z} : ∀ {x : List (Nat × Z)}, lookF x f = some z → (f, z) ∈ x
  | [], e => by simp [lookF] at e
  | (g, w) :: x, e => by
    simp only [lookF] at e
    by_cases hg : f = g
    · subst hg
      rw [if_pos rfl] at e
      cases e
      exact List.mem_cons_self
    · rw [if_neg hg] at e
      exact List.mem_cons_of_mem _ (look_mem e)
theorem le_fld {f : Nat} {x : Str} (hx : x = T.an f) (ha : PE X a (tOf T X.K ma)) (hb : attributeBase a x X.env (eval a X.env) = eval a X.env) : PE X (.Attribute a x pos) (tOf T X.K fun ρ h => (ma ρ h).bind fun y h => zFld y f h) := by
  subst hx
  refine PE.imp (pe_fld ha hb) fun σ H Q h => tOf_bind (g := fun _ y h => zFld y f h) h fun as h1 ρ z v H1 r1 re q f => ?_
  cases z <;> first | exact f.elim | skip
  rename_i n
  obtain ⟨p, rfl, ep⟩ := q.ob_inv
  simp only [zFld] at f
  split at f
  · rename_i c fs he
    obtain ⟨w, ew, f⟩ := oRes_inv f
    obtain ⟨dx, gs, e1, e2, e3, e4⟩ := r1.ins he ep
    obtain ⟨u, h1, h2⟩ := look_F e2 ew
    exact ⟨p, _, dx, gs, u, rfl, e1, e3, e4 _ (look_mem ew), h1, FinV.self f r1 h2⟩
  · exact f.elim
theorem put_F {as : List Addr} {H : Hp} {f : Nat} {z : Z} {v : V} (q : RZ K as H z v) : ∀ {x : List (Nat × Z)} {y : List (Str × V)}, RFs T K as H x y → RFs T K as H (putF' f z x) (putF (T.an f) v y)
  | _, _, .nil => .cons ⟨rfl, q⟩ .nil
  | (g, w) :: x, (n, u) :: y, .cons r rs => by
    obtain ⟨e1, q1⟩ := r
    have e1 : T.an g = n := e1
    subst e1
    simp only [putF', putF]
    by_cases hg : g = f
    · subst hg
      rw [if_pos rfl, if_pos rfl]
      exact .cons ⟨rfl, q⟩ rs
    · rw [if_neg hg, if_neg fun q => hg (T.anInj _ _ q)]
      exact .cons ⟨rfl, q1⟩ (put_F q rs)
theorem put_mem {f : Nat} {z : Z} {P : Nat → Prop} (hf : P f) : ∀ {x : List (Nat × Z)}, (∀ q ∈ x, P q.1) → ∀ q ∈ putF' f z x, P q.1
  | [], _, q, hq => by
    simp only [putF', List.mem_singleton] at hq
    subst hq
    exact hf
  | (g, w) :: x, h, q, hq => by
    simp only [putF'] at hq
    by_cases hg : g = f
    · rw [if_pos hg] at hq
      rcases List.mem_cons.mp hq with rfl | hq
      · exact h (g, w) List.mem_cons_self
      · exact h q (List.mem_cons_of_mem _ hq)
    · rw [if_neg hg] at hq
      rcases List.mem_cons.mp hq with rfl | hq
      · exact h (g, w) List.mem_cons_self
      · exact put_mem hf (fun q hq => h q (List.mem_cons_of_mem _ hq)) q hq

/-! ### methods of built-in types -/
theorem RKs.put {as : List Addr} {H : Hp} {k : Key} {z : Z} {v : V} (q : RZ K as H z v) {x : List (Key × Z)} {y : List (Key × V)} (r : RKs K as H x y) : RKs K as H (putZ x k z) (putK y k v) := by
  have hany : ∀ {x : List (Key × Z)} {y : List (Key × V)}, RKs K as H x y → x.any (fun kv => decide (kv.1 = k)) = y.any (fun kv => decide (kv.1 = k)) := by
    intro x y r
    induction r with
    | nil => rfl
    | cons r rs ih => rw [List.any_cons, List.any_cons, ih, r.1]
  have happ : ∀ {x x' : List (Key × Z)} {y y' : List (Key × V)}, RKs K as H x y → RKs K as H x' y' → RKs K as H (x ++ x') (y ++ y') := by
    intro x x' y y' r r'
    induction r with
    | nil => exact r'
    | cons r rs ih => exact .cons r ih
  have hmap : ∀ {x : List (Key × Z)} {y : List (Key × V)}, RKs K as H x y → RKs K as H (x.map fun kv => if kv.1 = k then (kv.1, z) else kv) (y.map fun kv => if kv.1 = k then (kv.1, v) else kv) := by
    intro x y r
    induction r with
    | nil => exact .nil
    | @cons p q' _ _ r rs ih =>
      rw [List.map_cons, List.map_cons]
      refine .cons ?_ ih
      by_cases hk : p.1 = k
      · rw [if_pos hk, if_pos (r.1 ▸ hk)]
        exact ⟨r.1, q⟩
      · rw [if_neg hk, if_neg (r.1 ▸ hk)]
        exact r
  unfold putZ putK
  rw [hany r]
  split
  · exact hmap r
  · exact happ r (.cons ⟨rfl, q⟩ .nil)
theorem RKs.drop {as : List Addr} {H : Hp} {k : Key} {x : List (Key × Z)} {y : List (Key × V)} (r : RKs K as H x y) : RKs K as H (dropZ x k) (dropK y k) := by
  unfold dropZ dropK
  induction r with
  | nil => exact .nil
  | @cons p q' _ _ r rs ih =>
    rw [List.filter_cons, List.filter_cons]
    by_cases hk : p.1 = k
    · have h2 : q'.1 = k := r.1 ▸ hk
      rw [if_neg (by simp [hk]), if_neg (by simp [h2])]
      exact ih
    · have h2 : ¬ q'.1 = k := r.1 ▸ hk
      rw [if_pos (by simp [hk]), if_pos (by simp [h2])]
      exact .cons r ih
theorem mz_append : MtR X "list.append" (rMt T X.K (zBM .append)) := by
  intro pins s σ H x xs v us Q I rx rs ⟨as, h, z, zs, rh, r, rr, f⟩
  refine mt_append pins s σ H x xs v us Q I rx rs ?_
  unfold zBM at f
  split at f <;> try exact f.elim
  rename_i n
  obtain ⟨p, rfl, ep⟩ := r.ob_inv
  split at f <;> try exact f.elim
  all_goals rename_i heq
  all_goals try (cases heq; done)
  split at f <;> try exact f.elim
  obtain ⟨w, rfl, q⟩ := rr.one
  rename_i he
  obtain ⟨c, f⟩ := Fin.guard f
  obtain ⟨vs, e1, e2⟩ := rh.lst he ep
  refine ⟨p, vs, w, rfl, rfl, e1, by rw [← e2.length]; exact c, ?_⟩
  have hm : Mut (H p) := by rw [e1]; exact trivial
  exact FinV.setO f rh ep hm (fun _ q => by rw [he] at q; cases q) ⟨_, upd_same, (e2.append (.cons q .nil)).mono (Ext.set hm)⟩ .non
theorem mz_extend : MtR X "list.extend" (rMt T X.K (zBM .extend)) := by
  intro pins s σ H x xs v us Q I rx rs ⟨as, h, z, zs, rh, r, rr, f⟩
  refine mt_extend pins s σ H x xs v us Q I rx rs ?_
  unfold zBM at f
  split at f <;> try exact f.elim
  rename_i n
  obtain ⟨p, rfl, ep⟩ := r.ob_inv
  split at f <;> try exact f.elim
  all_goals rename_i heq
  all_goals try (cases heq; done)
  split at f <;> try exact f.elim
  obtain ⟨w, rfl, q⟩ := rr.one
  obtain ⟨p2, rfl, ep2⟩ := q.ob_inv
  rename_i he he2
  obtain ⟨c, f⟩ := Fin.guard f
  obtain ⟨vs, e1, e2⟩ := rh.lst he ep
  obtain ⟨ws, g1, g2⟩ := rh.lst he2 ep2
  refine ⟨p, p2, vs, ws, rfl, rfl, e1, g1, by rw [← e2.length, ← g2.length]; exact c, ?_⟩
  have hm : Mut (H p) := by rw [e1]; exact trivial
  exact FinV.setO f rh ep hm (fun _ q => by rw [he] at q; cases q) ⟨_, upd_same, (e2.append g2).mono (Ext.set hm)⟩ .non
theorem mz_pop0 : MtR X "list.pop" (rMt T X.K (zBM .pop0)) := by
  intro pins s σ H x xs v us Q I rx rs ⟨as, h, z, zs, rh, r, rr, f⟩
  refine mt_pop pins s σ H x xs v us Q I rx rs ?_
  unfold zBM at f
  split at f <;> try exact f.elim
  rename_i n
  obtain ⟨p, rfl, ep⟩ := r.ob_inv
  split at f <;> try exact f.elim
  all_goals rename_i heq
  all_goals try (cases heq; done)
  split at f <;> try exact f.elim
  obtain rfl := rr.nil_inv
  rename_i ys he
  split at f <;> try exact f.elim
  rename_i w hw
  obtain ⟨vs, e1, e2⟩ := rh.lst he ep
  obtain ⟨u, h1, h2⟩ := e2.get hw
  refine ⟨p, vs, u, rfl, rfl, e1, by rw [← e2.length]; exact h1, ?_⟩
  have hm : Mut (H p) := by rw [e1]; exact trivial
  exact FinV.setO f rh ep hm (fun _ q => by rw [he] at q; cases q) ⟨_, upd_same, e2.dropLast.mono (Ext.set hm)⟩ h2
theorem mz_reverse : MtR X "list.reverse" (rMt T X.K (zBM .reverse)) := by
  intro pins s σ H x xs v us Q I rx rs ⟨as, h, z, zs, rh, r, rr, f⟩
  refine mt_reverse pins s σ H x xs v us Q I rx rs ?_
  unfold zBM at f
  split at f <;> try exact f.elim
  rename_i n
  obtain ⟨p, rfl, ep⟩ := r.ob_inv
  split at f <;> try exact f.elim
  all_goals rename_i heq
  all_goals try (cases heq; done)
  split at f <;> try exact f.elim
  obtain rfl := rr.nil_inv
  rename_i ys he
  obtain ⟨vs, e1, e2⟩ := rh.lst he ep
  refine ⟨p, vs, rfl, rfl, e1, ?_⟩
  have hm : Mut (H p) := by rw [e1]; exact trivial
  exact FinV.setO f rh ep hm (fun _ q => by rw [he] at q; cases q) ⟨_, upd_same, e2.reverse.mono (Ext.set hm)⟩ .non
theorem mz_dget1 (hu : X.A.units + 1 < cLine) : MtR X "dict.get" (rMt T X.K (zBM .dget1)) := by
  intro pins s σ H x xs v us Q I rx rs ⟨as, h, z, zs, rh, r, rr, f⟩
  unfold zBM at f
  split at f <;> try exact f.elim
  rename_i n
  obtain ⟨p, rfl, ep⟩ := r.ob_inv
  split at f <;> try exact f.elim
  all_goals rename_i heq
  all_goals try (cases heq; done)
  split at f <;> try exact f.elim
  obtain ⟨w, rfl, q⟩ := rr.one
  rename_i kvs k he hk
  obtain ⟨kws, e1, e2⟩ := rh.dct he ep
  obtain rfl : v = Value.ref p := rx
  obtain ⟨u, rfl, ru⟩ := rs.one
  rw [keyZ_kV hk q] at ru
  refine d_get1 hu I (DGet.k (k := k) e1) ru fun w' s' I' rw' => ⟨_, H, I', rw', ?_⟩
  rcases e2.val (k := k) with ⟨g1, g2⟩ | ⟨z1, v1, g1, g2, g3⟩
  · rw [g1] at f
    rw [g2]
    exact FinV.self f rh .non
  · rw [g1] at f
    rw [g2]
    exact FinV.self f rh g3
theorem d_popT {pins : List (Addr × Obj)} {σ : L2.St} {H : Hp} {s : Shared} {Q : Value → Shared → Prop} {E : Value → Shared → Prop} {A : Around} {p : Addr} {kvs : List (Key × V)} {k : Key} {v : V} {u : Value} (I : Inv X pins σ H s) (e : H p = some (.dK kvs)) (ry : RelV (kV k) u) (l : valV kvs k = some v)
    (h : ∀ w' s', Inv X pins σ (upd H p (.dK (dropK kvs k))) s' → RelV v w' → Q w' s') : wpAny (model X.prog X.w) A (call (.builtin "dict.pop") [.ref p, u]) Q E s := by
  obtain ⟨z, hd, vs, rel, dd⟩ := dk_of I.hok e
  obtain ⟨w', hw, rw'⟩ := RelO.some_of (v := v) (o := valueAt vs k) (by rw [← l]; exact rel.val k)
  have hp : (keyPart u).isSome = true := by
    cases k with
    | inl i => obtain ⟨t, q⟩ := (show ∃ t, u = Value.int i t from ry); subst q; rfl
    | inr x => obtain ⟨t, q⟩ := (show ∃ t, u = Value.str x t from ry); subst q; rfl
  refine call_meetsIn PySem.F.slot_dict_pop dd.typeIs PySem.F.entry_dict_pop (PySem.F.args_dict_pop_2 _ _) (meets_dict_pop_there (mixKind X.prog X.w) p (kV_is ry) [] (.inl rfl) hp)
    ⟨vs, w', dd, by rw [← rel.length]; exact z, hw, fun h' dd' hs => h w' _ ?_ rw'⟩
  have he : ∃ q, h'.get? p = some q := let ⟨q, _, _, hq, _⟩ := dd'; ⟨q, hq⟩
  exact d_write I (by rw [e]; exact True.intro) hs he (dk_new (Nat.le_trans (dropK_le kvs k) z) hd (rel.drop k) dd')
theorem mz_dpop1 : MtR X "dict.pop" (rMt T X.K (zBM .dpop1)) := by
  intro pins s σ H x xs v us Q I rx rs ⟨as, h, z, zs, rh, r, rr, f⟩
  unfold zBM at f
  split at f <;> try exact f.elim
  rename_i n
  obtain ⟨p, rfl, ep⟩ := r.ob_inv
  split at f <;> try exact f.elim
  all_goals rename_i heq
  all_goals try (cases heq; done)
  split at f <;> try exact f.elim
  rename_i kvs he
  split at f <;> try exact f.elim
  rename_i k hk
  split at f <;> try exact f.elim
  rename_i w0 hw
  obtain ⟨w, rfl, q⟩ := rr.one
  obtain ⟨kws, e1, e2⟩ := rh.dct he ep
  obtain rfl : v = Value.ref p := rx
  obtain ⟨u, rfl, ru⟩ := rs.one
  rw [keyZ_kV hk q] at ru
  rcases e2.val (k := k) with ⟨g1, g2⟩ | ⟨z1, v1, g1, g2, g3⟩
  · rw [hw] at g1; cases g1
  · rw [hw] at g1
    cases g1
    refine d_popT I e1 ru g2 fun w' s' I' rw' => ⟨_, _, I', rw', ?_⟩
    have hm : Mut (H p) := by rw [e1]; exact trivial
    exact FinV.setO f rh ep hm (fun _ q => by rw [he] at q; cases q) ⟨_, upd_same, RKs.mono (Ext.set hm) e2.drop⟩ g3
/-- the built-in type of a method -/
def bmT : BM → String
  | .dget1 => "dict"
  | .dpop1 => "dict"
  | _ => "list"
def bmName : BM → Str
  | .append => "append"
  | .pop0 => "pop"
  | .dget1 => "get"
  | .dpop1 => "pop"
  | .extend => "extend"
  | .reverse => "reverse"
theorem bm_ty {as : List Addr} {H : Hp} {h : Mh} {p : BM} {z : Z} {v : V} (rh : RH T K as H h) (r : RZ K as H z v) (ok : bmOk p z h) : tyV K (bmT p) v H := by
  have L : (∃ a zs, z = .ob a ∧ h[a]? = some (.lst zs)) → tyV K "list" v H := by
    rintro ⟨a, zs, rfl, e⟩
    obtain ⟨q, rfl, ep⟩ := r.ob_inv
    obtain ⟨vs, e1, e2⟩ := rh.lst e ep
    exact .inl ⟨rfl, vs, SqL.of e1⟩
  have D : (∃ a kvs, z = .ob a ∧ h[a]? = some (.dct kvs)) → tyV K "dict" v H := by
    rintro ⟨a, zs, rfl, e⟩
    obtain ⟨q, rfl, ep⟩ := r.ob_inv
    obtain ⟨vs, e1, e2⟩ := rh.dct e ep
    exact .inr (.inr (.inl ⟨rfl, .inl ⟨vs, e1⟩⟩))
  cases p <;> cases z <;> first | exact False.elim ok | (obtain ⟨zs, e⟩ := ok; first | exact L ⟨_, zs, rfl, e⟩ | exact D ⟨_, zs, rfl, e⟩)
abbrev mBM (p : BM) (mo : Ev → Mh → Res Z) (ms : Ev → Mh → Res (List Z)) : Ev → Mh → Res Z := fun _ _ => .stuck
theorem bm_imp {p : BM} {mo : Ev → Mh → Res Z} {ms : Ev → Mh → Res (List Z)} {σ : L2.St} {H : Hp} {Q : VK}
    (h : tOf T K (fun ρ h => (mo ρ h).bind fun x h => guard (bmOk p x h) ((ms ρ h).bind fun xs h => zBM p x xs h)) σ H Q) :
    tBM K (bmT p) (rMt T K (zBM p)) (tOf T K mo) (tOfA T K ms) σ H Q := by
  refine tOf_bind (g := fun ρ x h => guard (bmOk p x h) ((ms ρ h).bind fun xs h => zBM p x xs h)) h fun as h1 ρ z v H1 r1 re q f => ?_
  obtain ⟨ok, f⟩ := Fin.guard f
  refine ⟨bm_ty r1 q ok, as, h1, ρ, r1, re, f.bind.mono fun zs h2 as2 H2 e2 r2 ⟨_, _, f2⟩ vs qs => ?_⟩
  exact ⟨as2, h2, z, zs, r2, q.mono e2, qs, f2⟩
theorem bm_imp0 {p : BM} {mo : Ev → Mh → Res Z} {σ : L2.St} {H : Hp} {Q : VK}
    (h : tOf T K (fun ρ h => (mo ρ h).bind fun x h => guard (bmOk p x h) ((Res.ok [] h).bind fun xs h => zBM p x xs h)) σ H Q) :
    tBM0 K (bmT p) (rMt T K (zBM p)) (tOf T K mo) σ H Q := by
  refine tOf_bind (g := fun ρ x h => guard (bmOk p x h) ((Res.ok [] h).bind fun xs h => zBM p x xs h)) h fun as h1 ρ z v H1 r1 re q f => ?_
  obtain ⟨ok, f⟩ := Fin.guard f
  exact ⟨bm_ty r1 q ok, as, h1, z, [], r1, q, .nil, f⟩
theorem le_bm {p : BM} {o e : Expr} {es : List Expr} {apos cpos : Pos} {mo : Ev → Mh → Res Z} {ms : Ev → Mh → Res (List Z)} (hu : X.A.units + 1 < cLine) (ho : PE X o (tOf T X.K mo)) (ha : PA X (e :: es) (tOfA T X.K ms)) (hx : bmName p = name) (hp : p ≠ .pop0 ∧ p ≠ .reverse)
    (hbase : noCall o = true) (hs : (e :: es).all noStar = true) (hl : (e :: es).length < 30) (hline : (apos.endLine == cpos.line) = true) :
    PE X (.Call (.Attribute o name apos) (e :: es) [] cpos) (tOf T X.K fun ρ h => (mo ρ h).bind fun x h => guard (bmOk p x h) ((ms ρ h).bind fun xs h => zBM p x xs h)) := by
  subst hx
  have hs2 := hs
  rw [List.all_cons, Bool.and_eq_true] at hs2
  have fin : ∀ {id : String}, PlainAttrs (bmT p) → Slot (bmT p) (bmName p) id → typeOf (.builtin id) = pure (.type "method_descriptor") → MtR X id (rMt T X.K (zBM p)) →
      PE X (.Call (.Attribute o (bmName p) apos) (e :: es) [] cpos) (tOf T X.K fun ρ h => (mo ρ h).bind fun x h => guard (bmOk p x h) ((ms ρ h).bind fun xs h => zBM p x xs h)) :=
    fun pa sl ty hm => PE.imp (pe_bm pa sl ty hm ho ha (base_plain hbase _ _ _) (few_plain hs hl _ _) hline (star_cons hs2.1 _ _) (back_plain hs2.2 _ _)) fun _ _ _ h => bm_imp h
  cases p with
  | append => exact fin PySem.F.plainAttrs_list PySem.F.slot_list_append PySem.F.type_list_append mz_append
  | extend => exact fin PySem.F.plainAttrs_list PySem.F.slot_list_extend PySem.F.type_list_extend mz_extend
  | dget1 => exact fin PySem.F.plainAttrs_dict PySem.F.slot_dict_get PySem.F.type_dict_get (mz_dget1 hu)
  | dpop1 => exact fin PySem.F.plainAttrs_dict PySem.F.slot_dict_pop PySem.F.type_dict_pop mz_dpop1
  | pop0 => exact absurd rfl hp.1
  | reverse => exact absurd rfl hp.2
theorem le_bm0 {p : BM} {o : Expr} {apos cpos : Pos} {mo : Ev → Mh → Res Z} (ho : PE X o (tOf T X.K mo)) (hx : bmName p = name) (hp : p = .pop0 ∨ p = .reverse)
    (hbase : noCall o = true) (hline : (apos.endLine == cpos.line) = true) :
    PE X (.Call (.Attribute o name apos) [] [] cpos) (tOf T X.K fun ρ h => (mo ρ h).bind fun x h => guard (bmOk p x h) ((Res.ok [] h).bind fun xs h => zBM p x xs h)) := by
  subst hx
  rcases hp with rfl | rfl
  · exact PE.imp (pe_bm0 PySem.F.plainAttrs_list PySem.F.slot_list_pop PySem.F.type_list_pop mz_pop0 ho (base_plain hbase _ _ _) hline) fun _ _ _ h => bm_imp0 h
  · exact PE.imp (pe_bm0 PySem.F.plainAttrs_list PySem.F.slot_list_reverse PySem.F.type_list_reverse mz_reverse ho (base_plain hbase _ _ _) hline) fun _ _ _ h => bm_imp0 h

/-! ### built-in functions -/
def bfName : BF → Str
  | .len => "len"
  | .tuple => "tuple"
  | .list => "list"
  | .int => "int"
  | .min => "min"
  | .max => "max"
  | .sorted => "sorted"
  | .any => "any"
  | .all => "all"
theorem bf_imp {p : BF} {ms : Ev → Mh → Res (List Z)} {σ : L2.St} {H : Hp} {Q : VK} (h : tOf T K (fun ρ h => (ms ρ h).bind fun xs h => zBF p xs h) σ H Q) : tCB (rCl T K (zBF p)) (tOfA T K ms) σ H Q :=
  tOfA_then (g := fun _ xs h => zBF p xs h) h fun as h1 ρ xs vs H1 r1 re q f => ⟨as, h1, xs, r1, q, f⟩
theorem le_bf {p : BF} {e : Expr} {es : List Expr} {np pos : Pos} {ms : Ev → Mh → Res (List Z)} (hc : X.calm = true) (ha : PA X (e :: es) (tOfA T X.K ms)) (hx : bfName p = name) (hg : Gl X name) (hm : X.mg name = none) (hs : (e :: es).all noStar = true) :
    PE X (.Call (.Name name np) (e :: es) [] pos) (tOf T X.K fun ρ h => (ms ρ h).bind fun xs h => zBF p xs h) := by
  subst hx
  have hs2 := hs
  rw [List.all_cons, Bool.and_eq_true] at hs2
  have finB : ∀ {id : String}, CallR X (.builtin id) (rCl T X.K (zBF p)) → bootBuiltins (bfName p) = some (.builtin id) → bfName p ≠ "__name__" → (bfName p == ("__debug__" : Str)) = false →
      PE X (.Call (.Name (bfName p) np) (e :: es) [] pos) (tOf T X.K fun ρ h => (ms ρ h).bind fun xs h => zBF p xs h) :=
    fun hc hv hn hd => PE.imp (pe_callB hc hg hm hv ha hn hd (star_cons hs2.1 _ _) (back_plain hs2.2 _ _)) fun _ _ _ h => bf_imp h
  have finT : ∀ {id : String}, CallR X (.type id) (rCl T X.K (zBF p)) → bootBuiltins (bfName p) = some (.type id) → bfName p ≠ "__name__" → (bfName p == ("__debug__" : Str)) = false →
      PE X (.Call (.Name (bfName p) np) (e :: es) [] pos) (tOf T X.K fun ρ h => (ms ρ h).bind fun xs h => zBF p xs h) :=
    fun hc hv hn hd => PE.imp (pe_callTy hc hg hm hv ha hn hd (star_cons hs2.1 _ _) (back_plain hs2.2 _ _)) fun _ _ _ h => bf_imp h
  cases p with
  | len => exact finB cz_len PySem.boot_len (by decide) (by decide)
  | tuple => exact finT cz_tuple (by decide +kernel) (by decide) (by decide)
  | list => exact finT cz_list (by decide +kernel) (by decide) (by decide)
  | int => exact finT cz_int (by decide +kernel) (by decide) (by decide)
  | min => exact finB (cz_min hc) (by decide +kernel) (by decide) (by decide)
  | max => exact finB (cz_max hc) (by decide +kernel) (by decide) (by decide)
  | sorted => exact finB (cz_sorted hc) (by decide +kernel) (by decide) (by decide)
  | any => exact finB (cz_any hc) (by decide +kernel) (by decide) (by decide)
  | all => exact finB (cz_all hc) (by decide +kernel) (by decide) (by decide)
end Zm
namespace Zm
open PySem PySem.Spec PyProof.Rows L2
variable {T : Tb} {X : Cx} {K : PySem.W.Frag}
variable {a b c : Expr} {ma mb mc : Ev → Mh → Res Z} {rest : List Expr} {pos : Pos}

/-! ### calls of the program's own defs -/
/-- a def's promise: what g gives -/
def spOf (T : Tb) (K : PySem.W.Frag) (g : List Z → Mh → Res Z) : Sp := fun vs H Q _ => rCl T K g vs H Q
theorem le_call {CX : CXT} {k : Nat} {f : Addr} {fd : FuncData} {ps : List Str} {g : List Z → Mh → Res Z} {x : Str} {np : Pos} {e : Expr} {es : List Expr} {ms : Ev → Mh → Res (List Z)}
    (F : FnOk X.prog X.w X.K X.mg X.base CX0 k f fd ps (spOf T X.K g)) (hr : Room k X.A) (hg : Gl X x) (hm : X.mg x = some (.ref f)) (hk : PySem.W.keepIn X.K (.ref f) = true) (hb : Binds X.K fd ps [])
    (ha : PA X (e :: es) (tOfA T X.K ms)) (hdb : (x == ("__debug__" : Str)) = false) (hs : (e :: es).all noStar = true) :
    PE X (.Call (.Name x np) (e :: es) [] pos) (tOf T X.K fun ρ h => (ms ρ h).bind fun xs h => g xs h) := by
  have hs2 := hs
  rw [List.all_cons, Bool.and_eq_true] at hs2
  refine PE.imp (pe_call (E := E0) F hr hg hm hk hb .nil pass0 ha hdb (star_cons hs2.1 _ _) (back_plain hs2.2 _ _)) fun σ H Q h => ?_
  refine tOfA_then (g := fun _ xs h => g xs h) h fun as h1 ρ xs vs H1 r1 re q f => ?_
  rw [List.append_nil]
  exact ⟨as, h1, xs, r1, q, f⟩
theorem le_call0 {CX : CXT} {k : Nat} {f : Addr} {fd : FuncData} {ps : List Str} {g : List Z → Mh → Res Z} {x : Str} {np : Pos}
    (F : FnOk X.prog X.w X.K X.mg X.base CX0 k f fd ps (spOf T X.K g)) (hr : Room k X.A) (hg : Gl X x) (hm : X.mg x = some (.ref f)) (hk : PySem.W.keepIn X.K (.ref f) = true) (hb : Binds X.K fd ps [])
    (hdb : (x == ("__debug__" : Str)) = false) :
    PE X (.Call (.Name x np) [] [] pos) (tOf T X.K fun ρ h => (Res.ok [] h).bind fun xs h => g xs h) := by
  refine PE.imp (pe_call0 (E := E0) F hr hg hm hk hb .nil pass0 hdb) fun σ H Q h => ?_
  obtain ⟨as, h0, ρ, rh, re, f⟩ := h
  exact ⟨as, h0, [], rh, .nil, f⟩
theorem make_imp {as : List Addr} {H : Hp} {h : Mh} {c : Nat} {g : List Z → Mh → Res Z} {xs : List Z} {vs : List V} {Q : VK} {E : XK} (cl : Cls K (T.cls c)) (rh : RH T K as H h) (q : RZs K as H xs vs)
    (f : FinV T K as H Q ((g (.ob h.length :: xs) (h ++ [.ins c []])).bind fun y h' => match y with | .non => .ok (.ob h.length) h' | _ => .stuck)) :
    ∀ x dx, H x = none → H dx = none → dx ≠ x → spOf T K g (.ref x :: vs) (upd (upd H dx (.own x)) x (.ins (T.cls c) dx [])) (fun v H2 => v = .non ∧ Q (.ref x) H2) E := by
  intro x dx hx hdx hne
  have r1 : RH T K as (upd H dx (.own x)) h := rh.other hdx
  have hx1 : upd H dx (.own x) x = none := by rw [upd_ne (Ne.symm hne)]; exact hx
  have e1 : Ext K as H as (upd H dx (.own x)) := Ext.new hdx
  have e2 : Ext K as (upd H dx (.own x)) (as ++ [x]) (upd (upd H dx (.own x)) x (.ins (T.cls c) dx [])) := Ext.newO hx1
  have r2 : RH T K (as ++ [x]) (upd (upd H dx (.own x)) x (.ins (T.cls c) dx [])) (h ++ [.ins c []]) := r1.push hx1 ⟨dx, [], upd_same, .nil, cl, fun q hq => nomatch hq⟩
  have hob : (as ++ [x])[h.length]? = some x := by rw [← rh.len]; simp
  refine ⟨as ++ [x], _, .ob h.length :: xs, r2, .cons (.ob hob) (q.mono (e1.trans e2)), ?_⟩
  refine (Fin.weaken (e1.trans e2) f).bind.mono fun y h3 as3 H3 e3 r3 ⟨_, _, f3⟩ v qv => ?_
  cases y <;> first | exact f3.elim | skip
  exact ⟨qv.non_inv, FinV.self f3 r3 (.ob (e3.get hob))⟩
noncomputable abbrev mMk (c : Nat) (g : List Z → Mh → Res Z) (ms : Ev → Mh → Res (List Z)) : Ev → Mh → Res Z := fun ρ h => (ms ρ h).bind fun xs h => (g (.ob h.length :: xs) (h ++ [.ins c []])).bind fun y h' => match y with | .non => .ok (.ob h.length) h' | _ => .stuck
theorem le_mk {k : Nat} {f : Addr} {fd : FuncData} {ps : List Str} {c : Nat} {g : List Z → Mh → Res Z} {x : Str} {np : Pos} {e : Expr} {es : List Expr} {ms : Ev → Mh → Res (List Z)} (M : Mk X.K (T.cls c) f) (cl : Cls X.K (T.cls c))
    (F : FnOk X.prog X.w X.K X.mg X.base CX0 k f fd ps (spOf T X.K g)) (hr : Room (k + 1) X.A) (hg : Gl X x) (hm : X.mg x = some (.ref (T.cls c))) (hb : Binds X.K fd ps [])
    (ha : PA X (e :: es) (tOfA T X.K ms)) (hdb : (x == ("__debug__" : Str)) = false) (hs : (e :: es).all noStar = true) :
    PE X (.Call (.Name x np) (e :: es) [] pos) (tOf T X.K (mMk c g ms)) := by
  have hs2 := hs
  rw [List.all_cons, Bool.and_eq_true] at hs2
  refine PE.imp (pe_make (E := E0) M F hr hg hm hb .nil pass0 ha hdb (star_cons hs2.1 _ _) (back_plain hs2.2 _ _)) fun σ H Q h => ?_
  refine tOfA_then (g := fun _ xs h => (g (.ob h.length :: xs) (h ++ [.ins c []])).bind fun y h' => match y with | .non => .ok (.ob h.length) h' | _ => .stuck) h fun as h1 ρ xs vs H1 r1 re q f => ?_
  rw [List.append_nil]
  exact make_imp cl r1 q f
theorem le_mk0 {k : Nat} {f : Addr} {fd : FuncData} {ps : List Str} {c : Nat} {g : List Z → Mh → Res Z} {x : Str} {np : Pos} (M : Mk X.K (T.cls c) f) (cl : Cls X.K (T.cls c))
    (F : FnOk X.prog X.w X.K X.mg X.base CX0 k f fd ps (spOf T X.K g)) (hr : Room (k + 1) X.A) (hg : Gl X x) (hm : X.mg x = some (.ref (T.cls c))) (hb : Binds X.K fd ps []) (hdb : (x == ("__debug__" : Str)) = false) :
    PE X (.Call (.Name x np) [] [] pos) (tOf T X.K (mMk c g fun _ h => .ok [] h)) := by
  refine PE.imp (pe_make0 (E := E0) M F hr hg hm hb .nil pass0 hdb) fun σ H Q h => ?_
  obtain ⟨as, h0, ρ, rh, re, f⟩ := h
  exact make_imp cl rh .nil f
/-! ### isinstance(e, tuple) -/
noncomputable abbrev mIsT (m : Ev → Mh → Res Z) : Ev → Mh → Res Z := fun ρ h => (m ρ h).bind fun x h => match x with
  | .tup _ => .ok (.bl true) h
  | .non => .ok (.bl false) h
  | _ => .stuck
theorem le_isT {e : Expr} {np np2 : Pos} {m : Ev → Mh → Res Z} (he : PE X e (tOf T X.K m)) (hg : Gl X "isinstance") (hm : X.mg "isinstance" = none) (hg2 : Gl X "tuple") (hm2 : X.mg "tuple" = none) (hs : noStar e = true) :
    PE X (.Call (.Name "isinstance" np) [e, .Name "tuple" np2] [] pos) (tOf T X.K (mIsT m)) := by
  have ht : PE X (.Name "tuple" np2) (tC (.ty "tuple")) := pe_bltn (v := .ty "tuple") hg2 hm2 (by decide +kernel) rfl
  refine PE.imp (pe_callB call_isi hg hm (by decide +kernel) (pa_cons he (pa_cons ht pa_nil (star_cons rfl _ _)) (star_cons hs _ _)) (by decide) (by decide) (star_cons hs _ _) (back_plain (by rfl) _ _)) fun σ H Q h => ?_
  refine tOf_bind (g := fun _ x h => match x with
    | .tup _ => .ok (.bl true) h
    | .non => .ok (.bl false) h
    | _ => .stuck) h fun as h1 ρ z v H1 r1 re q f => ?_
  cases z <;> first | exact f.elim | skip
  · rw [q.non_inv]
    exact ⟨.non, .ty "tuple", _, _, false, rfl, .ty _, .base .non, kit_ty (by decide +kernel), FinV.self f r1 (.bl _)⟩
  · obtain ⟨p, vs, rfl, h1, h2⟩ := q.tup_inv
    have ty : TyX X.K H1 (.ref p) (.type "tuple") := by
      rcases h1 with (h1 | ⟨o, h1⟩) | ⟨o, its, n, h1, h2, _⟩
      · exact .base (.tup h1)
      · exact .fTuple h1
      · exact .kTuple h1 h2
    exact ⟨.ref p, .ty "tuple", _, _, true, rfl, .ty _, ty, kit_ty (by decide +kernel), FinV.self f r1 (.bl _)⟩

/-! ### targets -/
/-- the slots that may have changed -/
def SetOn (is : List Nat) (σ σ' : L2.St) : Prop := σ'.length = σ.length ∧ ∀ j, j ∉ is → σ'[j]? = σ[j]?
theorem SetOn.refl {is : List Nat} {σ : L2.St} : SetOn is σ σ := ⟨rfl, fun _ _ => rfl⟩
theorem SetOn.set {is : List Nat} {σ σ' : L2.St} {i : Nat} {v : Option V} (h : SetOn is σ σ') (hi : i ∈ is) : SetOn is σ (σ'.set i v) := by
  refine ⟨by simp [h.1], fun j hj => ?_⟩
  rw [List.getElem?_set_ne (by rintro rfl; exact hj hi)]
  exact h.2 j hj
def gOf (T : Tb) (K : PySem.W.Frag) (is : List Nat) (t : Z → Ev → Mh → Res Ev) : TG := fun v σ H Q => ∃ as h ρ z, RH T K as H h ∧ RE K as H σ ρ ∧ RZ K as H z v ∧
  Fin T K as H (fun ρ' _ as' H' => ∀ σ', RE K as' H' σ' ρ' → SetOn is σ σ' → Q σ' H') (t z ρ h)
theorem PG.imp {e : Expr} {t t' : TG} (h : PG X e t) (i : ∀ v σ H Q, t' v σ H Q → t v σ H Q) : PG X e t' := ⟨fun pins s σ H v u Q I r q => h.run pins s σ H v u Q I r (i v σ H Q q)⟩
theorem lg_nm {i : Nat} {x : Str} (hN : X.N.Nodup) (hi : X.N[i]? = some x) (hx : Loc X.env.scope x) (hf : X.fn x = true ∨ X.env.scope.names.lookup x = some .local) : PG X (.Name x pos) (gOf T X.K [i] (tgt (.nm i))) := by
  refine PG.imp (pg_name hN hi hx hf) fun v σ H Q ⟨as, h, ρ, z, rh, re, q, f⟩ => ?_
  exact Fin.self f rh _ (re.set q i) (SetOn.refl.set (by simp))
def gOfs (T : Tb) (K : PySem.W.Frag) (is : List Nat) : TGs := fun vs σ H Q => ∃ as h ρ zs ρ', RH T K as H h ∧ RE K as H σ ρ ∧ RZs K as H zs vs ∧ setAll is zs ρ = some ρ' ∧ ∀ σ', RE K as H σ' ρ' → SetOn is σ σ' → Q σ' H
theorem PGs.imp {e : List Expr} {t t' : TGs} (h : PGs X e t) (i : ∀ v σ H Q, t' v σ H Q → t v σ H Q) : PGs X e t' := ⟨fun pins s σ H v u Q I r q => h.run pins s σ H v u Q I r (i v σ H Q q)⟩
theorem SetOn.mono {is js : List Nat} {σ σ' : L2.St} (h : SetOn is σ σ') (s : ∀ i ∈ is, i ∈ js) : SetOn js σ σ' := ⟨h.1, fun j hj => h.2 j fun q => hj (s j q)⟩
theorem SetOn.trans {is : List Nat} {σ σ' σ2 : L2.St} (h : SetOn is σ σ') (g : SetOn is σ' σ2) : SetOn is σ σ2 := ⟨g.1.trans h.1, fun j hj => (g.2 j hj).trans (h.2 j hj)⟩
theorem lgs_nil : PGs X [] (gOfs T X.K []) := by
  refine PGs.imp pgs_nil fun vs σ H Q ⟨as, h, ρ, zs, ρ', rh, re, q, e, k⟩ => ?_
  cases zs with
  | nil =>
    cases q
    simp only [setAll, Option.some.injEq] at e
    subst e
    exact ⟨rfl, k σ re SetOn.refl⟩
  | cons z zs => simp [setAll] at e
theorem assign_each {e : Expr} (h : noStar e = true) (es : List Expr) (env : Env) : (assignEach (e :: es) env).map (·.2) = assign e env :: (assignEach es env).map (·.2) := by
  cases e <;> first | rfl | cases h
theorem lgs_cons {i : Nat} {is : List Nat} {x : Str} {es : List Expr} (hN : X.N.Nodup) (hi : X.N[i]? = some x) (hx : Loc X.env.scope x) (hf : X.fn x = true ∨ X.env.scope.names.lookup x = some .local) (h : PGs X es (gOfs T X.K is)) :
    PGs X (.Name x pos :: es) (gOfs T X.K (i :: is)) := by
  refine PGs.imp (pgs_cons (pg_name hN hi hx hf) h (assign_each rfl _ _)) fun vs σ H Q ⟨as, h, ρ, zs, ρ', rh, re, q, e, k⟩ => ?_
  cases zs with
  | nil => simp [setAll] at e
  | cons z zs =>
    cases q with
    | cons r rs =>
      refine ⟨_, _, rfl, as, h, ρ.set i (some z), zs, ρ', rh, re.set r i, rs, by simpa [setAll] using e, fun σ' re' so => ?_⟩
      refine k σ' re' ?_
      exact (SetOn.refl.set (is := i :: is) (by simp)).trans (so.mono fun j hj => List.mem_cons_of_mem _ hj)
theorem setAll_len : ∀ {is : List Nat} {zs : List Z} {ρ ρ' : Ev}, setAll is zs ρ = some ρ' → zs.length = is.length
  | [], [], _, _, _ => rfl
  | [], _ :: _, _, _, e => by simp [setAll] at e
  | _ :: _, [], _, _, e => by simp [setAll] at e
  | i :: is, z :: zs, ρ, ρ', e => by
    simp only [setAll] at e
    rw [List.length_cons, List.length_cons, setAll_len e]
theorem lg_tup {es : List Expr} {k : Nat} {is : List Nat} (hc : X.calm = true) (h : PGs X es (gOfs T X.K is)) (hn : (assignEach es X.env).length = is.length) (hst : (assignEach es X.env).findIdx? (·.1) = none) : PG X (.Tuple es k pos) (gOf T X.K is (tgt (.tup is))) := by
  refine PG.imp (pg_tup hc h hn hst) fun v σ H Q ⟨as, h, ρ, z, rh, re, q, f⟩ => ?_
  cases z <;> first | exact f.elim | skip
  rename_i zs
  obtain ⟨ρ', e, f⟩ := oRes_inv f
  obtain ⟨p, vs, rfl, h1, h2⟩ := q.tup_inv
  refine ⟨p, vs, rfl, h1, ?_, as, h, ρ, zs, ρ', rh, re, h2, e, fun σ' re' so => Fin.self f rh σ' re' so⟩
  rw [← h2.length, setAll_len e]

/-! ### what is walked -/
/-- J walks w -/
def ItOk (T : Tb) (K : PySem.W.Frag) (as0 : List Addr) (H0 : Hp) (J : It) (w : Wk) : Prop := ∀ as H h i, Ext K as0 H0 as H → RH T K as H h → w.still h →
  (i < w.items.length → J.go i H ∧ ∀ x H', J.yld i H x H' → ∃ z, w.items[i]? = some z ∧ Ext K as H as H' ∧ RH T K as H' h ∧ RZ K as H' z x) ∧ (i = w.items.length → J.stop i H)
def iOf (T : Tb) (K : PySem.W.Frag) (m : Ev → Mh → Res Wk) : TI := fun σ H R => ∃ as h ρ, RH T K as H h ∧ RE K as H σ ρ ∧ Fin T K as H (fun w h' as' H' => w.still h' → ∀ J, ItOk T K as' H' J w → R J H') (m ρ h)
theorem PI.imp {tg e : Expr} {t t' : TI} (h : PI X tg e t) (i : ∀ σ H R, t' σ H R → t σ H R) : PI X tg e t' := ⟨fun pins s σ H R I q => h.run pins s σ H R I (i σ H R q)⟩
theorem lst_it {as0 : List Addr} {H0 : Hp} {n : Nat} {p : Addr} {zs : List Z} (ep : as0[n]? = some p) : ItOk T K as0 H0 (Itl K p) ⟨zs, fun h => h[n]? = some (.lst zs)⟩ := by
  intro as H h i e rh st
  obtain ⟨vs, h1, h2⟩ := rh.lst st (e.get ep)
  refine ⟨fun hi => ⟨⟨vs, vs[i]'(by rw [← h2.length]; exact hi), SqL.of h1, by simp⟩, fun x H' y => ?_⟩, fun hi => ⟨vs, SqL.of h1, by rw [← h2.length]; exact Nat.le_of_eq hi.symm⟩⟩
  obtain ⟨rfl, y⟩ := y
  obtain ⟨v, g1, g2⟩ := h2.get (i := i) (List.getElem?_eq_getElem hi)
  have ex := y vs (SqL.of h1)
  rw [g1] at ex
  cases ex
  exact ⟨_, List.getElem?_eq_getElem hi, Ext.refl, rh, g2⟩
theorem fro_it {as0 : List Addr} {H0 : Hp} {n : Nat} {p : Addr} {zs : List Z} (ep : as0[n]? = some p) : ItOk T K as0 H0 (Itl K p) ⟨zs, fun h => h[n]? = some (.fro zs)⟩ := by
  intro as H h i e rh st
  obtain ⟨vs, h1, h2⟩ := rh.fro st (e.get ep)
  have hq : SqL K H p vs := h1
  refine ⟨fun hi => ⟨⟨vs, vs[i]'(by rw [← h2.length]; exact hi), hq, by simp⟩, fun x H' y => ?_⟩, fun hi => ⟨vs, hq, by rw [← h2.length]; exact Nat.le_of_eq hi.symm⟩⟩
  obtain ⟨rfl, y⟩ := y
  obtain ⟨v, g1, g2⟩ := h2.get (i := i) (List.getElem?_eq_getElem hi)
  have ex := y vs hq
  rw [g1] at ex
  cases ex
  exact ⟨_, List.getElem?_eq_getElem hi, Ext.refl, rh, g2⟩
theorem tup_it {as0 : List Addr} {H0 : Hp} {p : Addr} {zs : List Z} {vs : List V} (hq : SqT K H0 p vs) (hr : RZs K as0 H0 zs vs) : ItOk T K as0 H0 (Itt K p) ⟨zs, fun _ => True⟩ := by
  intro as H h i e rh st
  have h1 := e.tup _ _ hq
  have h2 := hr.mono e
  refine ⟨fun hi => ⟨⟨vs, vs[i]'(by rw [← h2.length]; exact hi), h1, by simp⟩, fun x H' y => ?_⟩, fun hi => ⟨vs, h1, by rw [← h2.length]; exact Nat.le_of_eq hi.symm⟩⟩
  obtain ⟨rfl, y⟩ := y
  obtain ⟨v, g1, g2⟩ := h2.get (i := i) (List.getElem?_eq_getElem hi)
  have ex := y vs h1
  rw [g1] at ex
  cases ex
  exact ⟨_, List.getElem?_eq_getElem hi, Ext.refl, rh, g2⟩
theorem rng_it {as0 : List Addr} {H0 : Hp} {lo hi : Int} : ItOk T K as0 H0 (Itr lo (hi - lo).toNat) ⟨rngZ lo hi, fun _ => True⟩ := by
  intro as H h i e rh st
  have hl : (rngZ lo hi).length = (hi - lo).toNat := by simp [rngZ]
  refine ⟨fun hi' => ⟨?_, fun x H' y => ?_⟩, fun hi' => ?_⟩
  · show i < (hi - lo).toNat
    rw [← hl]; exact hi'
  · obtain ⟨rfl, rfl⟩ := y
    refine ⟨.int (lo + (i : Int)), ?_, Ext.refl, rh, .int _⟩
    show (rngZ lo hi)[i]? = _
    unfold rngZ
    rw [List.getElem?_map, List.getElem?_range (by rw [← hl]; exact hi')]
    rfl
  · show (hi - lo).toNat ≤ i
    rw [← hl]; exact Nat.le_of_eq hi'.symm
theorem rev_it {as0 : List Addr} {H0 : Hp} {hi : Int} : ItOk T K as0 H0 (Itc (0 + (((hi - 0).toNat : Nat) : Int) - 1) (-1) (hi - 0).toNat) ⟨rrngZ hi, fun _ => True⟩ := by
  intro as H h i e rh st
  have hl : (rrngZ hi).length = (hi - 0).toNat := by simp [rrngZ]
  refine ⟨fun hi' => ⟨?_, fun x H' y => ?_⟩, fun hi' => ?_⟩
  · show i < (hi - 0).toNat
    rw [← hl]; exact hi'
  · obtain ⟨rfl, rfl⟩ := y
    refine ⟨_, ?_, Ext.refl, rh, .int _⟩
    show (rrngZ hi)[i]? = _
    unfold rrngZ
    rw [List.getElem?_map, List.getElem?_range (by have : i < (hi - 0).toNat := by rw [← hl]; exact hi'
                                                   simpa using this)]
    rfl
  · show (hi - 0).toNat ≤ i
    rw [← hl]; exact Nat.le_of_eq hi'.symm
noncomputable abbrev mSeq (m : Ev → Mh → Res Z) : Ev → Mh → Res Wk := fun ρ h => (m ρ h).bind fun x h => wkSeq x h
/-- a list or a tuple is walked: one rule for both -/
theorem pi_seq {tg l : Expr} {tl : TE} (hl : PE X l tl) : PI X tg l (fun σ H R => tl σ H fun x H1 => (∃ a, x = .ref a ∧ (∃ xs, SqL X.K H1 a xs) ∧ R (Itl X.K a) H1) ∨ ∃ a, x = .ref a ∧ (∃ xs, SqT X.K H1 a xs) ∧ R (Itt X.K a) H1) := by
  refine ⟨fun pins s σ H R I h => ?_⟩
  refine thn (hl.run pins s σ H _ I h) fun v s1 ⟨x, H1, I1, r1, q1⟩ => ?_
  rcases q1 with ⟨a, e, ⟨xs, hq⟩, q⟩ | ⟨a, e, ⟨xs, hq⟩, q⟩
  · subst e
    cases r1
    obtain ⟨its, rv, p, hz⟩ := I1.list hq
    refine wpAny_pyIter_list p.isList ?_
    refine ⟨s1.heap.objs.size, [s1.heap.objs.size], _, _, H1, rfl, I1.kept (t' := s1.toks) fun b o e => Heap.get?_push_of_some _ e, turn_list a _, ⟨_, Heap.get?_push_size _ rfl, rfl, rfl⟩, fun b hb => ?_, q⟩
    have e : b = s1.heap.objs.size := by simpa using hb
    subst e
    exact I1.fpOk (Nat.le_refl _) (I1.hok.fresh (Nat.le_refl _))
  · subst e
    cases r1
    obtain ⟨its, rv, p, hz⟩ := I1.tuple hq
    refine wpAny_pyIter_tuple (show s1.heap.IsTuple a its.toArray from p) ?_
    refine ⟨s1.heap.objs.size, [s1.heap.objs.size], _, _, H1, rfl, I1.kept (t' := s1.toks) fun b o e => Heap.get?_push_of_some _ e, turn_tuple a _, ⟨_, Heap.get?_push_size _ rfl, rfl, rfl⟩, fun b hb => ?_, q⟩
    have e : b = s1.heap.objs.size := by simpa using hb
    subst e
    exact I1.fpOk (Nat.le_refl _) (I1.hok.fresh (Nat.le_refl _))
theorem li_seq {tg e : Expr} {m : Ev → Mh → Res Z} (he : PE X e (tOf T X.K m)) : PI X tg e (iOf T X.K (mSeq m)) := by
  refine PI.imp (pi_seq he) fun σ H R h => ?_
  obtain ⟨as, h0, ρ, rh, re, f⟩ := h
  refine ⟨as, h0, ρ, rh, re, f.bind.mono fun z h1 as1 H1 e1 r1 ⟨_, _, f1⟩ v q => ?_⟩
  cases z <;> first | exact f1.elim | skip
  · obtain ⟨p, vs, rfl, t1, t2⟩ := q.tup_inv
    exact .inr ⟨p, rfl, ⟨vs, t1⟩, Fin.self f1 r1 trivial _ (tup_it t1 t2)⟩
  · rename_i n
    obtain ⟨p, rfl, ep⟩ := q.ob_inv
    simp only [wkSeq] at f1
    split at f1
    · rename_i zs hz
      obtain ⟨vs, g1, g2⟩ := r1.lst hz ep
      exact .inl ⟨p, rfl, ⟨vs, SqL.of g1⟩, Fin.self f1 r1 hz _ (lst_it ep)⟩
    · rename_i zs hz
      obtain ⟨vs, g1, g2⟩ := r1.fro hz ep
      exact .inl ⟨p, rfl, ⟨vs, g1⟩, Fin.self f1 r1 hz _ (fro_it ep)⟩
    · exact f1.elim
noncomputable abbrev mRng1 (m : Ev → Mh → Res Z) : Ev → Mh → Res Wk := fun ρ h => (m ρ h).bind fun x h => wkRng (.int 0) x h
noncomputable abbrev mRng2 (ma mb : Ev → Mh → Res Z) : Ev → Mh → Res Wk := fun ρ h => (ma ρ h).bind fun x h => (mb ρ h).bind fun y h => wkRng x y h
noncomputable abbrev mRev1 (m : Ev → Mh → Res Z) : Ev → Mh → Res Wk := fun ρ h => (m ρ h).bind fun x h => wkRev x h
theorem li_rng1 {tg e : Expr} {np : Pos} {m : Ev → Mh → Res Z} (hg : Gl X "range") (hm : X.mg "range" = none) (he : PE X e (tOf T X.K m)) (hs : noStar e = true) : PI X tg (.Call (.Name "range" np) [e] [] pos) (iOf T X.K (mRng1 m)) := by
  refine PI.imp (pi_range1 hg hm (pa_cons he pa_nil (star_cons hs _ _)) (star_cons hs _ _)) fun σ H R h => ?_
  obtain ⟨as, h0, ρ, rh, re, f⟩ := h
  refine ⟨as, h0, ρ, rh, re, f.bind.mono fun z h1 as1 H1 e1 r1 ⟨_, _, f1⟩ v q => ?_⟩
  cases z <;> first | exact f1.elim | skip
  rename_i j _
  rw [q.int_inv]
  obtain ⟨⟨c1, c2, c3, c4⟩, f2⟩ := Fin.guard f1
  have r := Fin.self f2 r1 trivial _ rng_it
  refine ⟨j, rfl, c3, c4, ?_⟩
  simpa using r
theorem li_rng2 {tg a b : Expr} {np : Pos} {ma mb : Ev → Mh → Res Z} (hg : Gl X "range") (hm : X.mg "range" = none) (ha : PE X a (tOf T X.K ma)) (hb : PE X b (tOf T X.K mb)) (hs : noStar a = true) (hs2 : noStar b = true) : PI X tg (.Call (.Name "range" np) [a, b] [] pos) (iOf T X.K (mRng2 ma mb)) := by
  refine PI.imp (pi_range2 hg hm (pa_cons ha (pa_cons hb pa_nil (star_cons hs2 _ _)) (star_cons hs _ _)) (by rw [star_cons hs, star_cons hs2] <;> rfl) (by rw [star_cons hs2] <;> rfl)) fun σ H R h => ?_
  obtain ⟨as, h0, ρ, rh, re, f⟩ := h
  refine ⟨as, h0, ρ, rh, re, f.bind.mono fun z h1 as1 H1 e1 r1 ⟨_, _, f1⟩ v q => ?_⟩
  refine ⟨as1, h1, ρ, r1, re.mono e1, f1.bind.mono fun y h2 as2 H2 e2 r2 ⟨_, _, f2⟩ w q2 => ?_⟩
  cases z <;> first | exact f2.elim | skip
  cases y <;> first | exact f2.elim | skip
  rename_i i _ j _
  rw [q.int_inv, q2.int_inv]
  obtain ⟨⟨c1, c2, c3, c4⟩, f3⟩ := Fin.guard f2
  exact ⟨i, j, rfl, ⟨c1, c2, c3, c4⟩, Fin.self f3 r2 trivial _ rng_it⟩
theorem li_rev1 {tg e : Expr} {np np2 rp : Pos} {m : Ev → Mh → Res Z} (hg : Gl X "reversed") (hm : X.mg "reversed" = none) (hg2 : Gl X "range") (hm2 : X.mg "range" = none) (he : PE X e (tOf T X.K m)) (hs : noStar e = true) :
    PI X tg (.Call (.Name "reversed" np) [.Call (.Name "range" np2) [e] [] rp] [] pos) (iOf T X.K (mRev1 m)) := by
  refine PI.imp (pi_revR hg hm (prg_1 hg2 hm2 he (star_cons hs _ _)) (star_cons rfl _ _)) fun σ H R h => ?_
  obtain ⟨as, h0, ρ, rh, re, f⟩ := h
  refine ⟨as, h0, ρ, rh, re, f.bind.mono fun z h1 as1 H1 e1 r1 ⟨_, _, f1⟩ v q => ?_⟩
  cases z <;> first | exact f1.elim | skip
  rename_i j _
  rw [q.int_inv]
  obtain ⟨⟨c3, c4⟩, f2⟩ := Fin.guard f1
  exact ⟨j, rfl, by decide, by decide, c3, c4, Fin.self f2 r1 trivial _ rev_it⟩

/-! ### comprehensions -/
theorem wipe_wipe {is vs : List Nat} {σ σ' : L2.St} (h : SetOn is (L2.wipe σ vs) σ') (hs : ∀ i ∈ is, i ∈ vs) : L2.wipe σ' vs = L2.wipe σ vs := by
  have key : ∀ (τ : L2.St) (ws : List Nat) (j : Nat), (L2.wipe τ ws)[j]? = if j ∈ ws then (if j < τ.length then some none else none) else τ[j]? := by
    intro τ ws
    induction ws with
    | nil => intro j; simp [L2.wipe]
    | cons w ws ih =>
      intro j
      show ((L2.wipe τ ws).set w none)[j]? = _
      by_cases hj : w = j
      · subst hj
        rw [if_pos List.mem_cons_self]
        by_cases hl : w < (L2.wipe τ ws).length
        · rw [List.getElem?_set_self hl]
          rw [L2.wipe_length] at hl
          rw [if_pos hl]
        · rw [List.getElem?_eq_none (by simpa using hl)]
          rw [L2.wipe_length] at hl
          rw [if_neg hl]
      · rw [List.getElem?_set_ne hj, ih j]
        by_cases hm : j ∈ ws
        · rw [if_pos hm, if_pos (List.mem_cons_of_mem _ hm)]
        · rw [if_neg hm, if_neg (by simp only [List.mem_cons, not_or]; exact ⟨fun q => hj q.symm, hm⟩)]
  refine List.ext_getElem? fun j => ?_
  rw [key, key]
  by_cases hj : j ∈ vs
  · rw [if_pos hj, if_pos hj, h.1, L2.wipe_length]
  · rw [if_neg hj, if_neg hj, h.2 j fun q => hj (hs j q), key, if_neg hj]
noncomputable abbrev mComp (vs : List Nat) (mi : Ev → Mh → Res Wk) (t : Z → Ev → Mh → Res Ev) (mc : Ev → Mh → Res Bool) (me : Ev → Mh → Res Z) : Ev → Mh → Res Z :=
  fun ρ h => (mi ρ h).bind fun w h => compL h.length w.still t mc me (wipeZ ρ vs) w.items (h ++ [.lst []])
theorem comp_imp {is vs : List Nat} {mi : Ev → Mh → Res Wk} {t : Z → Ev → Mh → Res Ev} {mc : Ev → Mh → Res Bool} {me : Ev → Mh → Res Z} (hs : ∀ i ∈ is, i ∈ vs) {σ : L2.St} {H : Hp} {Q : VK}
    (h : tOf T K (mComp vs mi t mc me) σ H Q) : tLc (iOf T K mi) (gOf T K is t) (tOfB T K mc) (tOf T K me) vs σ H Q := by
  obtain ⟨as, h0, ρ, rh, re, f⟩ := h
  refine ⟨as, h0, ρ, rh, re, f.bind.mono fun w h1 as1 H1 e1 r1 ⟨_, _, f1⟩ st0 J hJ D hD => ?_⟩
  have eD : Ext K as1 H1 (as1 ++ [D]) (upd H1 D (.lst [])) := Ext.newO hD
  have rD : RH T K (as1 ++ [D]) (upd H1 D (.lst [])) (h1 ++ [.lst []]) := r1.push hD ⟨[], upd_same, .nil⟩
  have oD : (as1 ++ [D])[h1.length]? = some D := by rw [← r1.len]; simp
  have reW : RE K (as1 ++ [D]) (upd H1 D (.lst [])) (L2.wipe σ vs) (wipeZ ρ vs) := (re.mono (e1.trans eD)).wipe vs
  refine ⟨fun i m H => m + i = w.items.length ∧ ∃ as h, Ext K (as1 ++ [D]) (upd H1 D (.lst [])) as H ∧ RH T K as H h ∧ FinV T K as H Q (compL h1.length w.still t mc me (wipeZ ρ vs) (w.items.drop i) h),
    ⟨w.items.length, rfl, as1 ++ [D], _, Ext.refl, rD, by rw [List.drop_zero]; exact Fin.weaken eD f1⟩, ?_⟩
  rintro i m H ⟨hm, as2, h2, e2, r2, f2⟩
  have oD2 : as2[h1.length]? = some D := e2.get oD
  by_cases hi : i < w.items.length
  · have hd : w.items.drop i = w.items[i] :: w.items.drop (i + 1) := List.drop_eq_getElem_cons hi
    rw [hd, compL] at f2
    obtain ⟨st, f2⟩ := Fin.guard f2
    obtain ⟨go, yl⟩ := (hJ as2 H h2 i (eD.trans e2) r2 st).1 hi
    refine .inr ⟨go, fun H' => (m - 1) + (i + 1) = w.items.length ∧ ∃ as h, Ext K (as1 ++ [D]) (upd H1 D (.lst [])) as H' ∧ RH T K as H' h ∧ FinV T K as H' Q (compL h1.length w.still t mc me (wipeZ ρ vs) (w.items.drop (i + 1)) h),
      fun H' n => ⟨m - 1, by omega, n⟩, fun x H' y => ?_⟩
    obtain ⟨z, ez, e3, r3, q⟩ := yl x H' y
    rw [List.getElem?_eq_getElem hi] at ez
    cases ez
    have f3 := Fin.weaken e3 f2
    refine ⟨as2, h2, _, _, r3, reW.mono (e2.trans e3), q, f3.bind.mono fun ρ4 h4 as4 H4 e4 r4 ⟨_, _, f4⟩ σ4 re4 so => ?_⟩
    refine ⟨wipe_wipe so hs, as4, h4, ρ4, r4, re4, f4.bind.mono fun b h5 as5 H5 e5 r5 ⟨_, _, f5⟩ => ?_⟩
    have eA : Ext K (as1 ++ [D]) (upd H1 D (.lst [])) as5 H5 := e2.trans (e3.trans (e4.trans e5))
    cases b with
    | false =>
      dsimp only
      rw [if_neg Bool.false_ne_true]
      exact ⟨by omega, as5, h5, eA, r5, f5⟩
    | true =>
      dsimp only
      rw [if_pos rfl]
      refine ⟨as5, h5, ρ4, r5, re4.mono e5, Fin.mono (Fin.bind f5) fun y h6 as6 H6 e6 r6 ⟨_, _, f6⟩ u qy => ?_⟩
      have oD6 : as6[h1.length]? = some D := (eA.trans e6).get oD
      split at f6
      · rename_i acc hacc
        obtain ⟨cl, f6⟩ := Fin.guard f6
        obtain ⟨us, u1, u2⟩ := r6.lst hacc oD6
        have hM : Mut (H6 D) := by rw [u1]; exact trivial
        have eN : Ext K as6 H6 as6 (upd H6 D (.lst (us ++ [u]))) := Ext.set hM
        refine ⟨us, u1, by rw [← u2.length]; exact cl, by omega, as6, _, (eA.trans e6).trans eN, r6.set (ob := .lst (acc ++ [y])) oD6 hM (fun _ q => by rw [hacc] at q; cases q) ⟨_, upd_same, (u2.append (.cons qy .nil)).mono eN⟩, Fin.weaken eN f6⟩
      · exact f6.elim
  · have hi2 : i = w.items.length := by omega
    rw [List.drop_eq_nil_of_le (by omega), compL] at f2
    obtain ⟨st, f2⟩ := Fin.guard f2
    exact .inl ⟨(hJ as2 H h2 i (eD.trans e2) r2 st).2 hi2, FinV.self f2 r2 (.ob oD2)⟩
theorem lts_nil : PTs X [] (tOfB T X.K fun _ h => .ok true h) := by
  refine ⟨fun pins s σ H Q I h => pts_nil.run pins s σ H Q I ?_⟩
  obtain ⟨as, h0, ρ, rh, re, f⟩ := h
  exact Fin.self f rh

/-! ### statements -/
def FinS (T : Tb) (K : PySem.W.Frag) (as : List Addr) (H : Hp) (D : Ends) (r : Res Fl) : Prop := Fin T K as H (fun fl _ as' H' => match fl with
  | .nx ρ => ∀ σ', RE K as' H' σ' ρ → D.nx σ' H'
  | .brk ρ => ∀ σ', RE K as' H' σ' ρ → D.bk σ' H'
  | .cont ρ => ∀ σ', RE K as' H' σ' ρ → D.ct σ' H'
  | .ret z => ∀ v, RZ K as' H' z v → D.rt v H') r
def sOf (T : Tb) (K : PySem.W.Frag) (m : Ev → Mh → Res Fl) : TS := fun D σ H => ∃ as h ρ, RH T K as H h ∧ RE K as H σ ρ ∧ FinS T K as H D (m ρ h)
theorem ls_asg {tg e : Expr} {is : List Nat} {t : Z → Ev → Mh → Res Ev} (he : PE X e (tOf T X.K ma)) (hg : PG X tg (gOf T X.K is t)) (hs : swapsWithSole [tg] e pos.line X.env = pure false) (hw : swappedStores [tg] e X.env = pure none)
    (h1 : (assignEach [tg] X.env).map (·.2) = [assign tg X.env]) : PS X (.Assign [tg] e pos) (sOf T X.K fun ρ h => (ma ρ h).bind fun x h => (t x ρ h).bind fun ρ h => .ok (.nx ρ) h) := by
  refine PS.imp (ps_asg he hg hs hw h1) fun D σ H h => ?_
  obtain ⟨as, h0, ρ, rh, re, f⟩ := h
  refine ⟨as, h0, ρ, rh, re, Fin.mono (Fin.bind f) fun z h1 as1 H1 e1 r1 ⟨_, _, f1⟩ v q => ?_⟩
  exact ⟨as1, h1, ρ, z, r1, re.mono e1, q, f1.bind.mono fun ρ2 h2 as2 H2 e2 r2 ⟨_, _, f2⟩ σ' re' so => Fin.self f2 r2 σ' re'⟩
end Zm
namespace Zm
open PySem PySem.Spec PyProof.Rows L2
variable {T : Tb} {X : Cx} {K : PySem.W.Frag}
variable {a b c : Expr} {ma mb mc : Ev → Mh → Res Z} {rest : List Expr} {pos : Pos}

noncomputable abbrev mAsg (ma : Ev → Mh → Res Z) (t : Z → Ev → Mh → Res Ev) : Ev → Mh → Res Fl := fun ρ h => (ma ρ h).bind fun x h => (t x ρ h).bind fun ρ h => .ok (.nx ρ) h
theorem asg_imp {is : List Nat} {t : Z → Ev → Mh → Res Ev} {te : TE} {g : TG} (h1 : ∀ σ H Q, tOf T K ma σ H Q → te σ H Q) (h2 : ∀ v σ H Q, gOf T K is t v σ H Q → g v σ H Q) {D : Ends} {σ : L2.St} {H : Hp} (h : sOf T K (mAsg ma t) D σ H) : tAsg te g D σ H := by
  obtain ⟨as, h0, ρ, rh, re, f⟩ := h
  refine h1 _ _ _ ⟨as, h0, ρ, rh, re, Fin.mono (Fin.bind f) fun z h1 as1 H1 e1 r1 ⟨_, _, f1⟩ v q => h2 _ _ _ _ ?_⟩
  exact ⟨as1, h1, ρ, z, r1, re.mono e1, q, f1.bind.mono fun ρ2 h2 as2 H2 e2 r2 ⟨_, _, f2⟩ σ' re' so => Fin.self f2 r2 σ' re'⟩
/-- name = value -/
theorem ls_set {i : Nat} {x : Str} {e : Expr} {pos' : Pos} (hN : X.N.Nodup) (hi : X.N[i]? = some x) (hx : Loc X.env.scope x) (hf : X.fn x = true ∨ X.env.scope.names.lookup x = some .local) (he : PE X e (tOf T X.K ma)) (hs : noComp e = true) :
    PS X (.Assign [.Name x pos'] e pos) (sOf T X.K (mAsg ma (tgt (.nm i)))) :=
  PS.imp (ps_set hN hi hx he (swaps_no hs _ _ _) hf) fun D σ H h => asg_imp (is := [i]) (fun _ _ _ h => h) (fun v σ H Q ⟨as, h, ρ, z, rh, re, q, f⟩ => Fin.self f rh _ (re.set q i) (SetOn.refl.set (by simp))) h
/-- name = [..] -/
theorem ls_setLc {i : Nat} {y : Str} {py : Pos} {elt tg iter : Expr} {ifs : List Expr} {scope : Scope} {own : List (Str × Nat)} {pos' spos : Pos} {is : List Nat} {mi : Ev → Mh → Res Wk} {t : Z → Ev → Mh → Res Ev} {mt : Ev → Mh → Res Bool} {me : Ev → Mh → Res Z}
    (hc : X.calm = true) (hN : X.N.Nodup) (hy : X.N[i]? = some y) (hyl : X.env.scope.names.lookup y = some .local)
    (hsw : swapsWith (.ListComp elt [⟨tg, iter, ifs, 0⟩] scope pos') (some (.Name y py)) spos.line X.env = pure true) (hi : PI X tg iter (iOf T X.K mi)) (ok : BlkOk X.N X.env.scope scope own)
    (hg : ∀ (s : Shared) (H : Hp) (C : Addr) (cl : List (Str × Addr)) (fp : List Addr), PG (X.blk s H scope (compEnvC scope cl C X.env) fp) tg (gOf T X.K is t)) (ht : ∀ (s : Shared) (H : Hp) (C : Addr) (cl : List (Str × Addr)) (fp : List Addr), PTs (X.blk s H scope (compEnvC scope cl C X.env) fp) ifs (tOfB T X.K mt))
    (he : ∀ (s : Shared) (H : Hp) (C : Addr) (cl : List (Str × Addr)) (fp : List Addr), PE (X.blk s H scope (compEnvC scope cl C X.env) fp) elt (tOf T X.K me)) (hs : noSet iter = true) (hv : ∀ j ∈ is, j ∈ own.map (·.2)) :
    PS X (.Assign [.Name y py] (.ListComp elt [⟨tg, iter, ifs, 0⟩] scope pos') spos) (sOf T X.K (mAsg (mComp (own.map (·.2)) mi t mt me) (tgt (.nm i)))) :=
  PS.imp (ps_setLc hc hN hy hyl hsw hi ok hg ht he (set_no hs _)) fun D σ H h => asg_imp (is := [i]) (fun _ _ _ h => comp_imp hv h) (fun v σ H Q ⟨as, h, ρ, z, rh, re, q, f⟩ => Fin.self f rh _ (re.set q i) (SetOn.refl.set (by simp))) h
theorem le_comp {elt tg iter : Expr} {ifs : List Expr} {scope : Scope} {own : List (Str × Nat)} {is : List Nat} {mi : Ev → Mh → Res Wk} {t : Z → Ev → Mh → Res Ev} {mt : Ev → Mh → Res Bool} {me : Ev → Mh → Res Z}
    (hc : X.calm = true) (hN : X.N.Nodup) (hi : PI X tg iter (iOf T X.K mi)) (ok : BlkOk X.N X.env.scope scope own)
    (hg : ∀ (s : Shared) (H : Hp) (C : Addr) (cl : List (Str × Addr)) (fp : List Addr), PG (X.blk s H scope (compEnvC scope cl C X.env) fp) tg (gOf T X.K is t)) (ht : ∀ (s : Shared) (H : Hp) (C : Addr) (cl : List (Str × Addr)) (fp : List Addr), PTs (X.blk s H scope (compEnvC scope cl C X.env) fp) ifs (tOfB T X.K mt))
    (he : ∀ (s : Shared) (H : Hp) (C : Addr) (cl : List (Str × Addr)) (fp : List Addr), PE (X.blk s H scope (compEnvC scope cl C X.env) fp) elt (tOf T X.K me)) (hs : noSet iter = true) (hv : ∀ j ∈ is, j ∈ own.map (·.2)) :
    PE X (.ListComp elt [⟨tg, iter, ifs, 0⟩] scope pos) (tOf T X.K (mComp (own.map (·.2)) mi t mt me)) :=
  PE.imp (pe_lc hc hN hi ok hg ht he (set_no hs _)) fun _ _ _ h => comp_imp hv h
theorem stores_no {tg e : Expr} (h : noDisp tg = true ∨ noDisp e = true) (env : Env) : swappedStores [tg] e env = pure none := by
  rcases h with h | h
  · cases tg <;> first | rfl | cases h
  · cases tg <;> first | rfl | (cases e <;> first | rfl | cases h)
theorem swaps_sole {tg e : Expr} (h : noComp e = true) (l : Nat) (env : Env) : swapsWithSole [tg] e l env = pure false := by
  unfold swapsWithSole
  exact swaps_no h _ _ _
/-- a, b = value -/
theorem ls_tup {es : List Expr} {k : Nat} {p2 : Pos} {e : Expr} {is : List Nat} (he : PE X e (tOf T X.K ma)) (hg : PG X (.Tuple es k p2) (gOf T X.K is (tgt (.tup is)))) (hs : noComp e = true) (hd : noDisp e = true) :
    PS X (.Assign [.Tuple es k p2] e pos) (sOf T X.K (mAsg ma (tgt (.tup is)))) :=
  PS.imp (ps_asg he hg (swaps_sole hs _ _) (stores_no (.inr hd) _) (assign_each rfl _ _)) fun _ _ _ h => asg_imp (fun _ _ _ h => h) (fun _ _ _ _ h => h) h
theorem PSet.or {r r' : TSet} (h : PSet X r) (h' : PSet X r') : PSet X (fun o i v H Q => r o i v H Q ∨ r' o i v H Q) := by
  intro pins s σ H o i v ov iv u Q I ro ri rv q
  rcases q with q | q
  · exact h pins s σ H o i v ov iv u Q I ro ri rv q
  · exact h' pins s σ H o i v ov iv u Q I ro ri rv q
theorem set_dict (hu : X.A.units + 1 < cLine) : PSet X (fun o i v H Q => ∃ a H', o = .ref a ∧ DPut H a i v H' ∧ Q H') := by
  intro pins s σ H o i v ov iv u Q I ro ri rv ⟨a, H', e, g, q⟩
  subst e
  obtain rfl : ov = Value.ref a := ro
  exact d_setItem hu I g ri rv fun s' I' => ⟨H', I', q⟩
def sOfSet (T : Tb) (K : PySem.W.Frag) : TSet := fun o i v H Q => ∃ as h x y z, RH T K as H h ∧ RZ K as H x o ∧ RZ K as H y i ∧ RZ K as H z v ∧ Fin T K as H (fun _ _ as' H' => Ext K as H as' H' → Q H') (zSet x y z h)
theorem Fin.unit {Q : Unit → Mh → List Addr → Hp → Prop} {as as' : List Addr} {H H' : Hp} {h' : Mh} (f : Fin T K as H Q (.ok () h')) (e : Ext K as H as' H') (r : RH T K as' H' h') : Q () h' as' H' := f as' H' e r
theorem zz_set (hu : X.A.units + 1 < cLine) : PSet X (sOfSet T X.K) := by
  intro pins s σ H o i v ov iv u Q I ro ri rv ⟨as, h, x, y, z, rh, rx, ry, rz, f⟩
  refine (PSet.or set_list (set_dict hu)) pins s σ H o i v ov iv u Q I ro ri rv ?_
  cases x <;> first | exact f.elim | skip
  rename_i n
  obtain ⟨p, rfl, ep⟩ := rx.ob_inv
  simp only [zSet] at f
  split at f
  · rename_i zs he
    cases y <;> first | exact f.elim | skip
    rename_i k
    rw [ry.int_inv]
    dsimp only at f
    split at f
    · rename_i j hj
      obtain ⟨vs, e1, e2⟩ := rh.lst he ep
      have hm : Mut (H p) := by rw [e1]; exact trivial
      refine .inl ⟨p, vs, k, j, rfl, rfl, e1, by rw [← e2.length]; exact hj, ?_⟩
      exact Fin.unit f (Ext.set hm) (rh.set (ob := .lst (zs.set j z)) ep hm (fun _ q => by rw [he] at q; cases q) ⟨_, upd_same, (e2.set rz j).mono (Ext.set hm)⟩) (Ext.set hm)
    · exact f.elim
  · rename_i kvs he
    split at f
    · rename_i k hk
      obtain ⟨c, f⟩ := Fin.guard f
      obtain ⟨kws, e1, e2⟩ := rh.dct he ep
      have hm : Mut (H p) := by rw [e1]; exact trivial
      rw [keyZ_kV hk ry]
      refine .inr ⟨p, _, rfl, DPut.k e1 (by rw [← RKs.length e2]; exact c), ?_⟩
      exact Fin.unit f (Ext.set hm) (rh.set (ob := .dct (putZ kvs k z)) ep hm (fun _ q => by rw [he] at q; cases q) ⟨_, upd_same, RKs.mono (Ext.set hm) (e2.put rz)⟩) (Ext.set hm)
    · exact f.elim
  · exact f.elim
noncomputable abbrev mSub (mo mi : Ev → Mh → Res Z) : Z → Ev → Mh → Res Ev := fun z ρ h => (mo ρ h).bind fun x h => (mi ρ h).bind fun y h => (zSet x y z h).bind fun _ h => .ok ρ h
theorem lg_sub {o i : Expr} {mo mi : Ev → Mh → Res Z} {p2 : Pos} (hu : X.A.units + 1 < cLine) (ho : PE X o (tOf T X.K mo)) (hi : PE X i (tOf T X.K mi)) (hs : noSlice i = true) : PG X (.Subscript o i p2) (gOf T X.K [] (mSub mo mi)) := by
  refine PG.imp (pg_sub ho hi (zz_set (T := T) hu) fun v => by cases i <;> first | rfl | cases hs) fun v σ H Q ⟨as, h, ρ, z, rh, re, q, f⟩ => ?_
  refine ⟨as, h, ρ, rh, re, f.bind.mono fun x h1 as1 H1 e1 r1 ⟨_, _, f1⟩ vo qo => ?_⟩
  refine ⟨as1, h1, ρ, r1, re.mono e1, f1.bind.mono fun y h2 as2 H2 e2 r2 ⟨_, _, f2⟩ vi qi => ?_⟩
  exact ⟨as2, h2, x, y, z, r2, qo.mono e2, qi, q.mono (e1.trans e2), f2.bind.mono fun _ h3 as3 H3 e3 r3 ⟨_, _, f3⟩ e4 => Fin.self f3 r3 σ (re.mono (e1.trans (e2.trans e3))) SetOn.refl⟩
theorem ls_sub {o i e : Expr} {mo mi : Ev → Mh → Res Z} {p2 : Pos} (hu : X.A.units + 1 < cLine) (ho : PE X o (tOf T X.K mo)) (hi : PE X i (tOf T X.K mi)) (hsl : noSlice i = true) (he : PE X e (tOf T X.K ma)) (hs : noComp e = true) :
    PS X (.Assign [.Subscript o i p2] e pos) (sOf T X.K (mAsg ma (mSub mo mi))) :=
  PS.imp (ps_asg he (lg_sub hu ho hi hsl) (swaps_sole hs _ _) (stores_no (.inl rfl) _) (assign_each rfl _ _)) fun _ _ _ h => asg_imp (fun _ _ _ h => h) (fun _ _ _ _ h => h) h
/-- o.f = value -/
noncomputable abbrev mFldG (fl : Nat → Nat → Bool) (f : Nat) (mo : Ev → Mh → Res Z) : Z → Ev → Mh → Res Ev := fun z ρ h => (mo ρ h).bind fun x h => (zSetF fl x f z h).bind fun _ h => .ok ρ h
theorem ls_fld {fl : Nat → Nat → Bool} (hfl : ∀ c f, fl c f = true → NoAttr X.K (T.cls c) (T.an f)) {f0 : Nat} {x : Str} {o e : Expr} {mo : Ev → Mh → Res Z} {p2 : Pos} (hx : x = T.an f0) (ho : PE X o (tOf T X.K mo)) (he : PE X e (tOf T X.K ma)) (hs : noComp e = true) :
    PS X (.Assign [.Attribute o x p2] e pos) (sOf T X.K (mAsg ma (mFldG fl f0 mo))) := by
  subst hx
  refine PS.imp (ps_fld ho he (swaps_no hs _ _ _)) fun D σ H h => ?_
  obtain ⟨as, h0, ρ, rh, re, f⟩ := h
  refine ⟨as, h0, ρ, rh, re, Fin.mono (Fin.bind f) fun z h1 as1 H1 e1 r1 ⟨_, _, f1⟩ v q => ?_⟩
  refine ⟨as1, h1, ρ, r1, re.mono e1, f1.bind.bind.mono fun y h2 as2 H2 e2 r2 ⟨_, _, f2⟩ w qw => ?_⟩
  cases y <;> first | exact f2.elim | skip
  rename_i n _
  obtain ⟨p, rfl, ep⟩ := qw.ob_inv
  simp only [zSetF] at f2
  split at f2
  · rename_i c fs hfs
    obtain ⟨⟨c1, c2⟩, f2⟩ := Fin.guard (Fin.bind f2)
    obtain ⟨dx, gs, g1, g2, g3, g4⟩ := r2.ins hfs ep
    have hm : Mut (H2 p) := by rw [g1]; exact trivial
    have ex : Ext X.K as2 H2 as2 (upd H2 p (.ins (T.cls c) dx (putF (T.an f0) v gs))) := Ext.set hm
    have r3 : RH T X.K as2 (upd H2 p (.ins (T.cls c) dx (putF (T.an f0) v gs))) (h2.set n (.ins c (putF' f0 z fs))) :=
      r2.set ep hm (fun _ q => by rw [hfs] at q; cases q) ⟨dx, _, upd_same, put_F (q.mono (e2.trans ex)) (RFs.mono ex g2), g3, put_mem (P := fun f => NoAttr X.K (T.cls c) (T.an f)) (hfl c f0 c2) g4⟩
    refine ⟨p, _, dx, gs, rfl, g1, g3, hfl c f0 c2, by rw [← Paired.length g2]; exact c1, ?_⟩
    obtain ⟨_, _, f4⟩ := f2 as2 _ ex r3
    obtain ⟨_, _, f5⟩ := Fin.self f4 r3
    exact Fin.self f5 r3 σ (re.mono (e1.trans (e2.trans ex)))
  · exact f2.elim
theorem ls_expr {e : Expr} (he : PE X e (tOf T X.K ma)) (hs : noComp e = true) : PS X (.Expr e pos) (sOf T X.K fun ρ h => (ma ρ h).bind fun _ h => .ok (.nx ρ) h) := by
  refine PS.imp (ps_expr he (swaps_no hs _ _ _)) fun D σ H h => ?_
  obtain ⟨as, h0, ρ, rh, re, f⟩ := h
  exact ⟨as, h0, ρ, rh, re, Fin.mono (Fin.bind f) fun z h1 as1 H1 e1 r1 ⟨_, _, f1⟩ v q => Fin.self f1 r1 σ (re.mono e1)⟩
theorem ls_ret {e : Expr} (he : PE X e (tOf T X.K ma)) : PS X (.Return (some e) pos) (sOf T X.K fun ρ h => (ma ρ h).bind fun x h => .ok (.ret x) h) := by
  refine PS.imp (ps_ret he) fun D σ H h => ?_
  obtain ⟨as, h0, ρ, rh, re, f⟩ := h
  exact ⟨as, h0, ρ, rh, re, Fin.mono (Fin.bind f) fun z h1 as1 H1 e1 r1 ⟨_, _, f1⟩ v q => Fin.self f1 r1 v q⟩
theorem ls_retN : PS X (.Return none pos) (sOf T X.K fun _ h => .ok (.ret .non) h) := by
  refine PS.imp ps_retN fun D σ H h => ?_
  obtain ⟨as, h0, ρ, rh, re, f⟩ := h
  exact Fin.self f rh .non .non
theorem ls_pass : PS X (.Pass pos) (sOf T X.K fun ρ h => .ok (.nx ρ) h) := by
  refine PS.imp ps_pass fun D σ H h => ?_
  obtain ⟨as, h0, ρ, rh, re, f⟩ := h
  exact Fin.self f rh σ re
theorem ls_brk : PS X (.Break pos) (sOf T X.K fun ρ h => .ok (.brk ρ) h) := by
  refine PS.imp ps_break fun D σ H h => ?_
  obtain ⟨as, h0, ρ, rh, re, f⟩ := h
  exact Fin.self f rh σ re
theorem ls_cont : PS X (.Continue pos) (sOf T X.K fun ρ h => .ok (.cont ρ) h) := by
  refine PS.imp ps_continue fun D σ H h => ?_
  obtain ⟨as, h0, ρ, rh, re, f⟩ := h
  exact Fin.self f rh σ re
theorem ls_never {st : Stmt} : PS X st (sOf T X.K fun _ _ => .stuck) := PS.imp ps_never fun D σ H h => by
  obtain ⟨as, h0, ρ, rh, re, f⟩ := h
  exact f
theorem lss_nil : PSs X [] (sOf T X.K fun ρ h => .ok (.nx ρ) h) := by
  refine PSs.imp pss_nil fun D σ H h => ?_
  obtain ⟨as, h0, ρ, rh, re, f⟩ := h
  exact Fin.self f rh σ re
noncomputable abbrev mSq (m n : Ev → Mh → Res Fl) : Ev → Mh → Res Fl := fun ρ h => (m ρ h).bind fun fl h => match fl with
  | .nx ρ => n ρ h
  | .brk ρ => .ok (.brk ρ) h
  | .cont ρ => .ok (.cont ρ) h
  | .ret z => .ok (.ret z) h
theorem lss_cons {st : Stmt} {sts : List Stmt} {m n : Ev → Mh → Res Fl} (h1 : PS X st (sOf T X.K m)) (h2 : PSs X sts (sOf T X.K n)) : PSs X (st :: sts) (sOf T X.K (mSq m n)) := by
  refine PSs.imp (pss_cons h1 h2) fun D σ H h => ?_
  obtain ⟨as, h0, ρ, rh, re, f⟩ := h
  refine ⟨as, h0, ρ, rh, re, Fin.mono (Fin.bind f) fun fl h1 as1 H1 e1 r1 ⟨_, _, f1⟩ => ?_⟩
  cases fl with
  | nx ρ1 => exact fun σ' re' => ⟨as1, h1, ρ1, r1, re', f1⟩
  | brk ρ1 => exact fun σ' re' => Fin.self f1 r1 σ' re'
  | cont ρ1 => exact fun σ' re' => Fin.self f1 r1 σ' re'
  | ret z => exact fun v q => Fin.self f1 r1 v q
theorem ls_ite {xc : Ev → Mh → Res Bool} {sa sb : List Stmt} {m n : Ev → Mh → Res Fl} (hc : PT X c (tOfB T X.K xc)) (ha : PSs X sa (sOf T X.K m)) (hb : PSs X sb (sOf T X.K n)) : PS X (.If c sa sb pos) (sOf T X.K fun ρ h => (xc ρ h).bind fun t h => if t then m ρ h else n ρ h) := by
  refine PS.imp (ps_if hc ha hb) fun D σ H h => ?_
  obtain ⟨as, h0, ρ, rh, re, f⟩ := h
  refine ⟨as, h0, ρ, rh, re, Fin.mono (Fin.bind f) fun t h2 as2 H2 e2 r2 ⟨_, _, f2⟩ => ?_⟩
  cases t with
  | true =>
    rw [if_pos rfl]
    exact ⟨as2, h2, ρ, r2, re.mono e2, f2⟩
  | false =>
    rw [if_neg Bool.false_ne_true]
    exact ⟨as2, h2, ρ, r2, re.mono e2, f2⟩
theorem ls_while {xc : Ev → Mh → Res Bool} {sb : List Stmt} {m : Ev → Mh → Res Fl} (hp : PassesOwn (model X.prog X.w) X.A X.env X.xe) (hc : PT X c (tOfB T X.K xc)) (hb : PSs X sb (sOf T X.K m)) : PS X (.While c sb [] pos) (sOf T X.K (whileM xc m)) := by
  refine PS.imp (ps_while hp hc hb) fun D σ H h => ?_
  obtain ⟨as, h0, ρ, rh, re, f⟩ := h
  obtain ⟨n, en⟩ := whileM_ex xc m ρ h0
  rw [en] at f
  refine ⟨fun k σ H => ∃ as h ρ, RH T X.K as H h ∧ RE X.K as H σ ρ ∧ FinS T X.K as H D (whileL xc m k ρ h), ⟨n, as, h0, ρ, rh, re, f⟩, ?_⟩
  rintro k σ H ⟨as, h, ρ, rh, re, f⟩
  cases k with
  | zero => exact f.elim
  | succ k =>
    refine ⟨as, h, ρ, rh, re, Fin.mono (Fin.bind f) fun t h1 as1 H1 e1 r1 ⟨_, _, f1⟩ => ?_⟩
    cases t with
    | false =>
      rw [if_neg Bool.false_ne_true]
      exact Fin.self f1 r1 σ (re.mono e1)
    | true =>
      rw [if_pos rfl]
      refine ⟨fun σ H => ∃ as h ρ, RH T X.K as H h ∧ RE X.K as H σ ρ ∧ FinS T X.K as H D (whileL xc m k ρ h), fun σ' H' w => ⟨k, Nat.lt_succ_self k, w⟩, as1, h1, ρ, r1, re.mono e1, ?_⟩
      refine Fin.mono (Fin.bind f1) fun fl h2 as2 H2 e2 r2 ⟨_, _, f2⟩ => ?_
      cases fl with
      | nx ρ1 => exact fun σ' re' => ⟨as2, h2, ρ1, r2, re', f2⟩
      | cont ρ1 => exact fun σ' re' => ⟨as2, h2, ρ1, r2, re', f2⟩
      | brk ρ1 => exact fun σ' re' => Fin.self f2 r2 σ' re'
      | ret z => exact fun v q => Fin.self f2 r2 v q
theorem ls_for {tg iter : Expr} {sb : List Stmt} {is : List Nat} {mi : Ev → Mh → Res Wk} {t : Z → Ev → Mh → Res Ev} {m : Ev → Mh → Res Fl} (hp : PassesOwn (model X.prog X.w) X.A X.env X.xe) (hc : X.calm = true) (hi : PI X tg iter (iOf T X.K mi)) (hg : PG X tg (gOf T X.K is t)) (hb : PSs X sb (sOf T X.K m)) (hs : noSet iter = true) :
    PS X (.For tg iter sb [] pos) (sOf T X.K fun ρ h => (mi ρ h).bind fun w h => forL w.still t m w.items ρ h) := by
  refine PS.imp (ps_for hp hc hi hg hb (set_no hs _)) fun D σ H h => ?_
  obtain ⟨as, h0, ρ, rh, re, f⟩ := h
  refine ⟨as, h0, ρ, rh, re, Fin.mono (Fin.bind f) fun w h1 as1 H1 e1 r1 ⟨_, _, f1⟩ st0 J hJ => ?_⟩
  refine ⟨fun i m' σ H => m' + i = w.items.length ∧ ∃ as h ρ, Ext X.K as1 H1 as H ∧ RH T X.K as H h ∧ RE X.K as H σ ρ ∧ FinS T X.K as H D (forL w.still t m (w.items.drop i) ρ h),
    ⟨w.items.length, rfl, as1, h1, ρ, Ext.refl, r1, re.mono e1, by rw [List.drop_zero]; exact f1⟩, ?_⟩
  rintro i m' σ H ⟨hm, as2, h2, ρ2, e2, r2, re2, f2⟩
  by_cases hi : i < w.items.length
  · have hd : w.items.drop i = w.items[i] :: w.items.drop (i + 1) := List.drop_eq_getElem_cons hi
    rw [hd, forL] at f2
    obtain ⟨st, f2⟩ := Fin.guard f2
    obtain ⟨go, yl⟩ := (hJ as2 H h2 i e2 r2 st).1 hi
    refine .inr ⟨go, fun σ' H' => (m' - 1) + (i + 1) = w.items.length ∧ ∃ as h ρ, Ext X.K as1 H1 as H' ∧ RH T X.K as H' h ∧ RE X.K as H' σ' ρ ∧ FinS T X.K as H' D (forL w.still t m (w.items.drop (i + 1)) ρ h),
      fun σ' H' n => ⟨m' - 1, by omega, n⟩, fun x H' y => ?_⟩
    obtain ⟨z, ez, e3, r3, q⟩ := yl x H' y
    rw [List.getElem?_eq_getElem hi] at ez
    cases ez
    have f3 := Fin.weaken e3 f2
    refine ⟨as2, h2, ρ2, _, r3, re2.mono e3, q, Fin.mono (Fin.bind f3) fun ρ4 h4 as4 H4 e4 r4 ⟨_, _, f4⟩ σ4 re4 so => ?_⟩
    refine ⟨as4, h4, ρ4, r4, re4, Fin.mono (Fin.bind f4) fun fl h5 as5 H5 e5 r5 ⟨_, _, f5⟩ => ?_⟩
    have eA : Ext X.K as1 H1 as5 H5 := e2.trans (e3.trans (e4.trans e5))
    cases fl with
    | nx ρ5 => exact fun σ' re' => ⟨by omega, as5, h5, ρ5, eA, r5, re', f5⟩
    | cont ρ5 => exact fun σ' re' => ⟨by omega, as5, h5, ρ5, eA, r5, re', f5⟩
    | brk ρ5 => exact fun σ' re' => Fin.self f5 r5 σ' re'
    | ret z => exact fun v q => Fin.self f5 r5 v q
  · have hi2 : i = w.items.length := by omega
    rw [List.drop_eq_nil_of_le (by omega), forL] at f2
    obtain ⟨st, f2⟩ := Fin.guard f2
    exact .inl ⟨(hJ as2 H h2 i e2 r2 st).2 hi2, Fin.self f2 r2 σ re2⟩
/-- x op= e -/
theorem oz_iadd : OpR X (inplaceOp .Add) (rOp T X.K zAddI) := by
  refine int_int (g' := fun i j => .int (i + j)) (rI0_rI iop_add) (fun a b h Q as H f => ?_) fun as H i j => .int _
  cases a <;> cases b <;> first | exact f.elim | exact ⟨_, _, rfl, rfl, trivial, f⟩
theorem oz_isub : OpR X (inplaceOp .Sub) (rOp T X.K zSub) := by
  refine int_int (g' := fun i j => .int (i - j)) (rI0_rI iop_sub) (fun a b h Q as H f => ?_) fun as H i j => .int _
  cases a <;> cases b <;> first | exact f.elim | exact ⟨_, _, rfl, rfl, trivial, f⟩
theorem ls_aug {op : Operator} {g : Z → Z → Mh → Res Z} {i : Nat} {x : Str} {e : Expr} {p2 : Pos} (ho : OpR X (inplaceOp op) (rOp T X.K g)) (hN : X.N.Nodup) (hi : X.N[i]? = some x) (hx : Loc X.env.scope x) (hf : X.fn x = true ∨ X.env.scope.names.lookup x = some .local) (he : PE X e (tOf T X.K ma)) :
    PS X (.AugAssign (.Name x p2) op e pos) (sOf T X.K fun ρ h => match ρ[i]? with
      | some (some x) => (ma ρ h).bind fun y h => (g x y h).bind fun z h => .ok (.nx (ρ.set i (some z))) h
      | _ => .stuck) := by
  refine PS.imp (ps_aug hN hi hx he ho hf) fun D σ H h => ?_
  obtain ⟨as, h0, ρ, rh, re, f⟩ := h
  dsimp only at f
  split at f
  · rename_i z ez
    obtain ⟨v, e1, q⟩ := re.at_ i z ez
    refine ⟨v, e1, as, h0, ρ, rh, re, Fin.mono (Fin.bind f) fun y h1 as1 H1 e1 r1 ⟨_, _, f1⟩ w q1 => ?_⟩
    exact ⟨as1, h1, z, y, r1, q.mono e1, q1, f1.bind.mono fun z2 h2 as2 H2 e2 r2 ⟨_, _, f2⟩ u q2 => Fin.self f2 r2 _ ((re.mono (e1.trans e2)).set q2 i)⟩
  · exact f.elim
end Zm
/-! A checker: does a text mean this code? And its soundness. -/
namespace Zm
open PySem PySem.Spec PyProof.Rows L2

/-- what the module's names mean -/
structure GT where
  con : Str → Z → Bool
  fn : Nat → Str → Bool
  cl : Nat → Nat → Str → Bool
  free : Str → Bool
  an : Nat → Str
  fl : Nat → Nat → Bool
/-- .. and that the heap says so -/
structure Facts (G : GT) (T : Tb) (C : Cl) (n : Nat) (P : Program) (w : World) (K : PySem.W.Frag) (mg : Str → Option Value) (base : Heap) : Prop where
  con : ∀ x z, G.con x z = true → ∃ u v, mg x = some u ∧ RelV v u ∧ ∀ as H, RZ K as H z v
  fn : ∀ f x, G.fn f x = true → ∃ a fd ps, mg x = some (.ref a) ∧ PySem.W.keepIn K (.ref a) = true ∧ Binds K fd ps [] ∧ FnOk P w K mg base CX0 n a fd ps (spOf T K (C f))
  cl : ∀ c f x, G.cl c f x = true → ∃ a fd ps, Mk K (T.cls c) a ∧ Cls K (T.cls c) ∧ mg x = some (.ref (T.cls c)) ∧ Binds K fd ps [] ∧ FnOk P w K mg base CX0 n a fd ps (spOf T K (C f))
  free : ∀ x, G.free x = true → mg x = none
  fl : ∀ c f, G.fl c f = true → NoAttr K (T.cls c) (T.an f)
  an : G.an = T.an

abbrev Nm := List (Str × NameKind)
def debugS : Str := "__debug__"
def classdictS : Str := "__classdict__"
def visB (nm : Nm) (x : Str) : Bool := match nm.lookup x with
  | some .local => true
  | some .cell => true
  | some .free => true
  | _ => false
def gloB (nm : Nm) (x : Str) : Bool := match nm.lookup x with
  | some .globalImplicit => true
  | _ => false
/-- a name that may be stored -/
def locB (all : Bool) (nm : Nm) (x : Str) : Bool := match nm.lookup x with
  | some .local => true
  | some .cell => all
  | _ => false
def eqN (N : List Str) (i : Nat) (x : Str) : Bool := match N[i]? with
  | some y => y == x
  | none => false
def boB : BO → Operator → Bool
  | .add, .Add => true
  | .sub, .Sub => true
  | .mul, .Mult => true
  | .div, .FloorDiv => true
  | .mod, .Mod => true
  | .pow, .Pow => true
  | _, _ => false
def coB : CO → CmpOp → Bool
  | .lt, .Lt => true
  | .le, .LtE => true
  | .gt, .Gt => true
  | .ge, .GtE => true
  | .eq, .Eq => true
  | .ne, .NotEq => true
  | .is_, .Is => true
  | .isnot, .IsNot => true
  | .in_, .In => true
  | .notin, .NotIn => true
  | _, _ => false
def isCmp : Expr → Bool
  | .Compare .. => true
  | _ => false
/-- an expression whose test is its value's truth -/
def plainT : Expr → Bool
  | .UnaryOp .. => false
  | .BoolOp .. => false
  | .IfExp .. => false
  | .Compare .. => false
  | _ => true
def litB : Z → Const → Bool
  | .non, .none => true
  | .bl b, .bool c => b == c
  | .int i, .int j => i == j
  | .str x, .str y => x == y
  | _, _ => false
def okBM (p : BM) (n : Nat) : Bool := match p with
  | .pop0 => n == 0
  | .reverse => n == 0
  | _ => decide (0 < n ∧ n < 30)
/-- the names of a block's scope -/
def relN (names nm : Nm) : Nm := names.map fun (n, k) => if (k == .free && nm.lookup n == some .cell) then (n, .cell) else (n, k)
/-- targets: only names that are local -/
def ckTs (N : List Str) (b : Bool) : List Nat → Nm → List Expr → Bool
  | [], _, es => es.isEmpty
  | i :: is, nm, es => match es with
    | .Name x _ :: xs => eqN N i x && locB b nm x && ckTs N b is nm xs
    | _ => false
def ckT (N : List Str) (b : Bool) : MT → Nm → Expr → Bool
  | .nm i, nm, e => match e with
    | .Name x _ => eqN N i x && locB b nm x
    | _ => false
  | .tup is, nm, e => match e with
    | .Tuple xs _ _ => ckTs N b is nm xs
    | _ => false
def ckIn : MT → List Nat → Bool
  | .nm i, vs => vs.contains i
  | .tup is, vs => is.all fun i => vs.contains i
section
variable (G : GT) (N : List Str)
def ownOf (vs : List Nat) : List (Str × Nat) := vs.map fun i => (N.getD i "", i)
mutual
def ckE : ME → Nm → Expr → Bool
  | .var i, nm, e => match e with
    | .Name x _ => eqN N i x && visB nm x && !(x == debugS) && !(x == classdictS)
    | _ => false
  | .lit z, _, e => match e with
    | .Constant c _ _ => litB z c
    | _ => false
  | .glb x z, nm, e => match e with
    | .Name y _ => (x == y) && gloB nm y && G.con y z && !(y == debugS)
    | _ => false
  | .bin o a b, nm, e => match e with
    | .BinOp x op y _ => boB o op && ckE a nm x && ckE b nm y
    | _ => false
  | .neg a, nm, e => match e with
    | .UnaryOp .USub x _ => ckE a nm x
    | _ => false
  | .cmp o a b, nm, e => match e with
    | .Compare x [op] [y] _ => coB o op && ckE a nm x && ckE b nm y && noSet y
    | _ => false
  | .cmp2 o p a b c, nm, e => match e with
    | .Compare x [op, op2] [y, z] _ => coB o op && coB p op2 && ckE a nm x && ckE b nm y && ckE c nm z && noSet z
    | _ => false
  | .and a b, nm, e => match e with
    | .BoolOp .And (x :: y :: r) pos => ckE a nm x && (match r with
      | [] => ckE b nm y
      | _ :: _ => ckE b nm (.BoolOp .And (y :: r) pos))
    | _ => false
  | .or a b, nm, e => match e with
    | .BoolOp .Or (x :: y :: r) pos => ckE a nm x && (match r with
      | [] => ckE b nm y
      | _ :: _ => ckE b nm (.BoolOp .Or (y :: r) pos))
    | _ => false
  | .not a, nm, e => match e with
    | .UnaryOp .Not x _ => ckE a nm x
    | _ => false
  | .ite c a b, nm, e => match e with
    | .IfExp t x y _ => ckX c nm t && ckE a nm x && ckE b nm y
    | _ => false
  | .tup es, nm, e => match e with
    | .Tuple xs _ _ => ckEs es nm xs && xs.all noStar
    | _ => false
  | .lst es, nm, e => match e with
    | .List xs _ => ckEs es nm xs && xs.all noStar
    | _ => false
  | .dct0, _, e => match e with
    | .Dict [] [] _ => true
    | _ => false
  | .idx a b, nm, e => match e with
    | .Subscript x y _ => ckE a nm x && ckE b nm y && noSlice y
    | _ => false
  | .slc a lo hi, nm, e => match e with
    | .Subscript x (.Slice l u none _) _ => ckE a nm x && ckP lo nm l && ckP hi nm u
    | _ => false
  | .fld a f, nm, e => match e with
    | .Attribute x n _ => ckE a nm x && (n == G.an f) && noCall x
    | _ => false
  | .call f es, nm, e => match e with
    | .Call (.Name x _) xs [] _ => G.fn f x && gloB nm x && !(x == debugS) && ckEs es nm xs && xs.all noStar
    | _ => false
  | .mk c f es, nm, e => match e with
    | .Call (.Name x _) xs [] _ => G.cl c f x && gloB nm x && !(x == debugS) && ckEs es nm xs && xs.all noStar
    | _ => false
  | .mth _ _ _ _ _, _, _ => false
  | .bf p es, nm, e => match e with
    | .Call (.Name x _) (y :: ys) [] _ => (bfName p == x) && gloB nm x && G.free x && ckEs es nm (y :: ys) && (y :: ys).all noStar
    | _ => false
  | .bm p o es, nm, e => match e with
    | .Call (.Attribute x n apos) ys [] cpos => (bmName p == n) && okBM p ys.length && noCall x && (apos.endLine == cpos.line) && ckE o nm x && ckEs es nm ys && ys.all noStar
    | _ => false
  | .isT a, nm, e => match e with
    | .Call (.Name x _) [y, .Name t _] [] _ => (x == "isinstance") && (t == "tuple") && gloB nm x && gloB nm t && G.free x && G.free t && ckE a nm y && noStar y
    | _ => false
  | .comp vs t it c a, nm, e => match e with
    | .ListComp elt [⟨tg, iter, ifs, 0⟩] scope _ => ckI it nm iter && blkC N ⟨.function, nm, false, false, []⟩ scope (ownOf N vs) && noSet iter && ckT N false t (relN scope.names nm) tg && ckIn t vs && ckC c (relN scope.names nm) ifs && ckE a (relN scope.names nm) elt
    | _ => false
def ckX : MX → Nm → Expr → Bool
  | .tr a, nm, e => (isCmp e || plainT e) && ckE a nm e
  | .and a b, nm, e => match e with
    | .BoolOp .And (x :: y :: r) pos => ckX a nm x && (match r with
      | [] => ckX b nm y
      | _ :: _ => ckX b nm (.BoolOp .And (y :: r) pos))
    | _ => false
  | .or a b, nm, e => match e with
    | .BoolOp .Or (x :: y :: r) pos => ckX a nm x && (match r with
      | [] => ckX b nm y
      | _ :: _ => ckX b nm (.BoolOp .Or (y :: r) pos))
    | _ => false
  | .not a, nm, e => match e with
    | .UnaryOp .Not x _ => ckX a nm x
    | _ => false
def ckEs : MEs → Nm → List Expr → Bool
  | .nil, _, es => es.isEmpty
  | .cons a as, nm, es => match es with
    | x :: xs => ckE a nm x && ckEs as nm xs
    | [] => false
def ckP : MP → Nm → Option Expr → Bool
  | .no, _, e => e.isNone
  | .some a, nm, e => match e with
    | .some x => ckE a nm x
    | .none => false
def ckC : MC → Nm → List Expr → Bool
  | .no, _, e => e.isEmpty
  | .some a, nm, e => match e with
    | [x] => ckX a nm x
    | _ => false
def ckI : MI → Nm → Expr → Bool
  | .seq a, nm, e => ckE a nm e
  | .rng1 a, nm, e => match e with
    | .Call (.Name x _) [y] [] _ => (x == "range") && gloB nm x && G.free x && ckE a nm y && noStar y
    | _ => false
  | .rng2 a b, nm, e => match e with
    | .Call (.Name x _) [y, z] [] _ => (x == "range") && gloB nm x && G.free x && ckE a nm y && noStar y && ckE b nm z && noStar z
    | _ => false
  | .rrng1 a, nm, e => match e with
    | .Call (.Name x _) [.Call (.Name x2 _) [y] [] _] [] _ => (x == "reversed") && gloB nm x && G.free x && (x2 == "range") && gloB nm x2 && G.free x2 && ckE a nm y && noStar y
    | _ => false
end
/-- name = [..] on one line -/
def swB (nm : Nm) (x : Str) (px : Pos) (e : Expr) : Bool := match e with
  | .ListComp _ _ scope pos => (match nm.lookup x with
    | some .local => true
    | _ => false) && (px.line == pos.line) && !(scope.names.any fun (n, k) => n == x && (k == .local || k == .cell))
  | _ => false
def augB : BO → Operator → Bool
  | .sub, .Sub => true
  | _, _ => false
mutual
def ckS : MS → Nm → Stmt → Bool
  | .asg t m, nm, st => match st with
    | .Assign [tg] e _ => ckE G N m nm e && (match t with
      | .nm i => match tg with
        | .Name x px => eqN N i x && locB true nm x && (noComp e || swB nm x px e)
        | _ => false
      | .tup is => match tg with
        | .Tuple xs _ _ => ckTs N true is nm xs && noComp e && noDisp e
        | _ => false
      | .sub o i => match tg with
        | .Subscript x y _ => ckE G N o nm x && ckE G N i nm y && noSlice y && noComp e
        | _ => false
      | .fld o f => match tg with
        | .Attribute x n _ => ckE G N o nm x && (n == G.an f) && noComp e
        | _ => false)
    | _ => false
  | .aug i o m, nm, st => match st with
    | .AugAssign (.Name x _) op e _ => (match o, op with
      | .addI, .Add => true
      | .sub, .Sub => true
      | _, _ => false) && eqN N i x && locB true nm x && ckE G N m nm e
    | _ => false
  | .expr m, nm, st => match st with
    | .Expr e _ => ckE G N m nm e && noComp e
    | _ => false
  | .ret m, nm, st => match st with
    | .Return (some e) _ => ckE G N m nm e
    | _ => false
  | .retN, _, st => match st with
    | .Return none _ => true
    | _ => false
  | .ite c a b, nm, st => match st with
    | .If t x y _ => ckX G N c nm t && ckSs a nm x && ckSs b nm y
    | _ => false
  | .while c b, nm, st => match st with
    | .While t x [] _ => ckX G N c nm t && ckSs b nm x
    | _ => false
  | .for t it b, nm, st => match st with
    | .For tg iter x [] _ => ckI G N it nm iter && noSet iter && ckT N true t nm tg && ckSs b nm x
    | _ => false
  | .pass, _, st => match st with
    | .Pass _ => true
    | _ => false
  | .brk, _, st => match st with
    | .Break _ => true
    | _ => false
  | .cont, _, st => match st with
    | .Continue _ => true
    | _ => false
  | .never, _, _ => true
def ckSs : MSs → Nm → List Stmt → Bool
  | .nil, _, sts => sts.isEmpty
  | .cons s ss, nm, sts => match sts with
    | x :: xs => ckS s nm x && ckSs ss nm xs
    | [] => false
end
end
end Zm
namespace Zm
open PySem PySem.Spec PyProof.Rows L2
variable {G : GT} {T : Tb} {C : Cl} {n : Nat} {N : List Str}

structure GX (G : GT) (T : Tb) (C : Cl) (n : Nat) (N : List Str) (X : Cx) (nm : Nm) (all : Bool) : Prop where
  fx : Facts G T C n X.prog X.w X.K X.mg X.base
  calm : X.calm = true
  nd : X.N.Nodup
  room : Room (n + 1) X.A
  eN : X.N = N
  enm : X.env.scope.names = nm
  kind : X.env.scope.kind = .function
  fn : all = true → ∀ x, X.fn x = true

section
variable {X : Cx} {nm : Nm} {all : Bool}
theorem GX.u65 (g : GX G T C n N X nm all) : X.A.units + 65 < cLine := by have := g.room.un; omega
theorem GX.u64 (g : GX G T C n N X nm all) : X.A.units + 64 < cLine := by have := g.room.un; omega
theorem GX.u1 (g : GX G T C n N X nm all) : X.A.units + 1 < cLine := by have := g.room.un; omega
theorem GX.room0 (g : GX G T C n N X nm all) : Room n X.A := g.room.mono (Nat.le_succ n)
theorem GX.N_ {i : Nat} {x : Str} (g : GX G T C n N X nm all) (h : eqN N i x = true) : X.N[i]? = some x := by
  unfold eqN at h
  rw [g.eN]
  split at h
  · rename_i y e
    rw [e, eq_of_beq h]
  · cases h
theorem GX.vis {x : Str} (g : GX G T C n N X nm all) (h : visB nm x = true) : Vis X.env.scope x := by
  unfold visB at h
  unfold Vis
  rw [g.enm]
  split at h
  · exact .inl (by assumption)
  · exact .inr (.inl (by assumption))
  · exact .inr (.inr (by assumption))
  · cases h
theorem GX.glo {x : Str} (g : GX G T C n N X nm all) (h : gloB nm x = true) : Gl X x := by
  unfold gloB at h
  unfold Gl Env.kindOf
  rw [g.enm]
  split at h
  · assumption
  · cases h
theorem GX.loc {x : Str} {b : Bool} (g : GX G T C n N X nm all) (hb : b = true → all = true) (h : locB b nm x = true) : L2.Loc X.env.scope x ∧ (X.fn x = true ∨ X.env.scope.names.lookup x = some .local) := by
  unfold locB at h
  unfold L2.Loc
  rw [g.enm]
  split at h
  · rename_i e
    exact ⟨.inl e, .inr e⟩
  · rename_i e
    exact ⟨.inr e, .inl (g.fn (hb h) x)⟩
  · cases h
theorem GX.blk (g : GX G T C n N X nm all) {scope : Scope} (hk : scope.kind = .function) (s : Shared) (H : Hp) (Ca : Addr) (cl : List (Str × Addr)) (fp : List Addr) :
    GX G T C n N (X.blk s H scope (compEnvC scope cl Ca X.env) fp) (relN scope.names nm) false := by
  refine ⟨g.fx, g.calm, g.nd, g.room, g.eN, ?_, hk, fun h => by cases h⟩
  show scope.names.map _ = relN scope.names nm
  unfold relN
  refine List.map_congr_left fun p _ => ?_
  obtain ⟨y, k⟩ := p
  show (if (k == .free && X.env.scope.kind == .function && X.env.scope.names.lookup y == some .cell) = true then _ else _) = _
  rw [g.kind, g.enm]
  simp
end
theorem bne_not {x y : Str} (h : (!(x == y)) = true) : (x == y) = false := by
  cases e : (x == y) with
  | true => rw [e] at h; cases h
  | false => rfl
theorem zCmp_bl (o : CO) (x y : Z) (h : Mh) (z : Z) (h' : Mh) (e : zCmp o x y h = .ok z h') : ∃ b, z = .bl b := by
  have kb : ∀ {r : Res Bool} {f : Bool → Bool}, (r.bind fun c h => .ok (.bl (f c)) h) = Res.ok z h' → ∃ b, z = .bl b := by
    intro r f e
    cases r with
    | stuck => cases e
    | ok b h2 =>
      rw [Res.bind_ok] at e
      cases e
      exact ⟨_, rfl⟩
  cases o
  case eq => exact kb (f := fun c => c) e
  case ne => exact kb (f := fun c => !c) e
  case in_ => exact kb (f := fun c => c) e
  case notin => exact kb (f := fun c => !c) e
  case is_ => simp only [zCmp, zIs] at e; split at e <;> first | (cases e; exact ⟨_, rfl⟩) | cases e
  case isnot => simp only [zCmp, zIsNot] at e; split at e <;> first | (cases e; exact ⟨_, rfl⟩) | cases e
  case lt => simp only [zCmp, zLt] at e; split at e <;> first | (cases e; exact ⟨_, rfl⟩) | cases e
  case le => simp only [zCmp, zLe] at e; split at e <;> first | (cases e; exact ⟨_, rfl⟩) | cases e
  case gt => simp only [zCmp, zGt] at e; split at e <;> first | (cases e; exact ⟨_, rfl⟩) | cases e
  case ge => simp only [zCmp, zGe] at e; split at e <;> first | (cases e; exact ⟨_, rfl⟩) | cases e
theorem bo_ok {X : Cx} {o : BO} {op : Operator} (h : boB o op = true) : OpR X (binaryOp op) (rOp T X.K (zBin o)) := by
  cases o <;> cases op <;> first | cases h | skip
  · exact oz_add
  · exact oz_sub
  · exact oz_mul
  · exact oz_div
  · exact oz_mod
  · exact oz_pow
theorem co_ok {X : Cx} {nm : Nm} {all : Bool} (g : GX G T C n N X nm all) {o : CO} {op : CmpOp} (h : coB o op = true) : OpR X (compareOp op) (rOp T X.K (zCmp o)) := by
  cases o <;> cases op <;> first | cases h | skip
  · exact oz_lt
  · exact oz_le
  · exact oz_gt
  · exact oz_ge
  · exact oz_eq g.u64
  · exact oz_ne g.u64
  · exact oz_is
  · exact oz_isnot
  · exact oz_in g.u65
  · exact oz_notin g.u65
/-- what is shown of an expression -/
def Snd (T : Tb) (C : Cl) (X : Cx) (m : ME) (e : Expr) : Prop := PE X e (tOf T X.K (dE C m)) ∧ (isCmp e = true → PT X e (tOfB T X.K (dX C (.tr m))))
theorem snd_of {X : Cx} {m : ME} {e : Expr} (h : PE X e (tOf T X.K (dE C m))) (hc : isCmp e = false) : Snd T C X m e := ⟨h, fun q => by rw [hc] at q; cases q⟩
theorem lit_ok {X : Cx} {z : Z} {c : Const} {j : Nat} {pos : Pos} (h : litB z c = true) : PE X (.Constant c j pos) (tOf T X.K fun _ h => .ok z h) := by
  cases z <;> cases c <;> first | cases h | skip
  · exact le_lit pe_non fun _ _ => .non
  · obtain rfl := eq_of_beq h; exact le_lit pe_bl fun _ _ => .bl _
  · obtain rfl := eq_of_beq h; exact le_lit pe_int fun _ _ => .int _
  · obtain rfl := eq_of_beq h; exact le_lit pe_str fun _ _ => .str _
theorem own_map (N : List Str) (vs : List Nat) : (ownOf N vs).map (·.2) = vs := by
  unfold ownOf
  rw [List.map_map]
  exact (List.map_congr_left fun _ _ => rfl).trans (List.map_id vs)
theorem blk_ok {X : Cx} {nm : Nm} {all : Bool} (g : GX G T C n N X nm all) {scope : Scope} {vs : List Nat} (h : blkC N ⟨.function, nm, false, false, []⟩ scope (ownOf N vs) = true) : BlkOk X.N X.env.scope scope (ownOf N vs) := by
  have q := blkOk_by h
  refine ⟨q.kind, q.uniq, fun p hp => ?_, fun y hy e => ?_, fun y hy e => ?_⟩
  · rw [g.eN]; exact q.ix p hp
  · rw [g.enm]; exact q.free y hy e
  · rw [g.eN]; exact q.own y hy e
theorem tgs_ok {X : Cx} {nm : Nm} {all b : Bool} (g : GX G T C n N X nm all) (hb : b = true → all = true) : ∀ (is : List Nat) (es : List Expr), ckTs N b is nm es = true → PGs X es (gOfs T X.K is) ∧ (assignEach es X.env).length = is.length ∧ (assignEach es X.env).findIdx? (·.1) = none
  | [], es, h => by
    simp only [ckTs, List.isEmpty_iff] at h
    subst h
    exact ⟨lgs_nil, rfl, rfl⟩
  | i :: is, es, h => by
    simp only [ckTs] at h
    split at h
    · rename_i x p xs
      simp only [Bool.and_eq_true] at h
      obtain ⟨h1, h2, h3⟩ := tgs_ok g hb is xs h.2
      obtain ⟨l1, l2⟩ := g.loc hb h.1.2
      refine ⟨lgs_cons g.nd (g.N_ h.1.1) l1 l2 h1, ?_, ?_⟩
      · show (assignEach xs X.env).length + 1 = _
        rw [h2]; rfl
      · show List.findIdx? _ ((false, _) :: assignEach xs X.env) = none
        rw [List.findIdx?_cons]
        simp [h3]
    · cases h
theorem tgt_ok {X : Cx} {nm : Nm} {all b : Bool} (g : GX G T C n N X nm all) (hb : b = true → all = true) (t : MT) (e : Expr) (h : ckT N b t nm e = true) : ∃ is, PG X e (gOf T X.K is (tgt t)) ∧ ∀ vs, ckIn t vs = true → ∀ i ∈ is, i ∈ vs := by
  cases t with
  | nm i =>
    simp only [ckT] at h
    split at h
    · simp only [Bool.and_eq_true] at h
      obtain ⟨l1, l2⟩ := g.loc hb h.2
      refine ⟨[i], lg_nm g.nd (g.N_ h.1) l1 l2, fun vs hv j hj => ?_⟩
      simp only [List.mem_singleton] at hj
      subst hj
      simpa [ckIn] using hv
    · cases h
  | tup is =>
    simp only [ckT] at h
    split at h
    · obtain ⟨h1, h2, h3⟩ := tgs_ok g hb is _ h
      refine ⟨is, lg_tup g.calm h1 h2 h3, fun vs hv j hj => ?_⟩
      simp only [ckIn, List.all_eq_true] at hv
      simpa using hv j hj
    · cases h
theorem isN_str {x y : Str} (h : (x == y) = true) : x = y := eq_of_beq h
mutual
theorem ckE_ok : ∀ (m : ME) (nm : Nm) (e : Expr) (X : Cx) (all : Bool), GX G T C n N X nm all → ckE G N m nm e = true → Snd T C X m e
  | .var i, nm, e, X, all, g, h => by
    simp only [ckE] at h
    split at h
    · simp only [Bool.and_eq_true] at h
      obtain ⟨⟨⟨h1, h2⟩, h3⟩, h4⟩ := h
      exact snd_of (le_var (g.N_ h1) (g.vis h2) (bne_not h3) (bne_not h4)) rfl
    · cases h
  | .lit z, nm, e, X, all, g, h => by
    simp only [ckE] at h
    split at h
    · exact snd_of (lit_ok h) rfl
    · cases h
  | .glb x z, nm, e, X, all, g, h => by
    simp only [ckE] at h
    split at h
    · simp only [Bool.and_eq_true] at h
      obtain ⟨⟨⟨h1, h2⟩, h3⟩, h4⟩ := h
      obtain ⟨u, v, e1, e2, e3⟩ := g.fx.con _ _ h3
      exact snd_of (le_lit (pe_glob (g.glo h2) e1 e2 (bne_not h4)) e3) rfl
    · cases h
  | .bin o a b, nm, e, X, all, g, h => by
    simp only [ckE] at h
    split at h
    · simp only [Bool.and_eq_true] at h
      exact snd_of (le_op (bo_ok h.1.1) (ckE_ok a nm _ X all g h.1.2).1 (ckE_ok b nm _ X all g h.2).1) rfl
    · cases h
  | .neg a, nm, e, X, all, g, h => by
    simp only [ckE] at h
    split at h
    · exact snd_of (le_un oz_neg (ckE_ok a nm _ X all g h).1) rfl
    · cases h
  | .cmp o a b, nm, e, X, all, g, h => by
    simp only [ckE] at h
    split at h
    · simp only [Bool.and_eq_true] at h
      have ha := (ckE_ok a nm _ X all g h.1.1.2).1
      have hb := (ckE_ok b nm _ X all g h.1.2).1
      have ho := co_ok (T := T) g h.1.1.1
      exact ⟨le_cmp ho ha hb (in_marks h.2 _), fun _ => lt_cmp ho (zCmp_bl o) ha hb (in_marks h.2 _)⟩
    · cases h
  | .cmp2 o p a b c, nm, e, X, all, g, h => by
    simp only [ckE] at h
    split at h
    · simp only [Bool.and_eq_true] at h
      obtain ⟨⟨⟨⟨⟨h1, h2⟩, h3⟩, h4⟩, h5⟩, h6⟩ := h
      have ha := (ckE_ok a nm _ X all g h3).1
      have hb := (ckE_ok b nm _ X all g h4).1
      have hc := (ckE_ok c nm _ X all g h5).1
      have ho := co_ok (T := T) g h1
      have ho2 := co_ok (T := T) g h2
      exact ⟨le_chain ho ho2 ha hb hc (in_marks h6 _), fun _ => lt_chain ho ho2 (zCmp_bl p) ha hb hc (in_marks h6 _)⟩
    · cases h
  | .and a b, nm, e, X, all, g, h => by
    simp only [ckE] at h
    split at h
    · rw [Bool.and_eq_true] at h
      have ha := (ckE_ok a nm _ X all g h.1).1
      refine snd_of (le_and ha ?_) rfl
      have h2 := h.2
      split at h2
      · exact pe_one (ckE_ok b nm _ X all g h2).1
      · exact (ckE_ok b nm _ X all g h2).1
    · cases h
  | .or a b, nm, e, X, all, g, h => by
    simp only [ckE] at h
    split at h
    · rw [Bool.and_eq_true] at h
      have ha := (ckE_ok a nm _ X all g h.1).1
      refine snd_of (le_or ha ?_) rfl
      have h2 := h.2
      split at h2
      · exact pe_one (ckE_ok b nm _ X all g h2).1
      · exact (ckE_ok b nm _ X all g h2).1
    · cases h
  | .not a, nm, e, X, all, g, h => by
    simp only [ckE] at h
    split at h
    · exact snd_of (le_not (ckE_ok a nm _ X all g h).1) rfl
    · cases h
  | .ite c a b, nm, e, X, all, g, h => by
    simp only [ckE] at h
    split at h
    · simp only [Bool.and_eq_true] at h
      exact snd_of (le_ite (ckX_ok c nm _ X all g h.1.1).1 (ckE_ok a nm _ X all g h.1.2).1 (ckE_ok b nm _ X all g h.2).1) rfl
    · cases h
  | .tup es, nm, e, X, all, g, h => by
    simp only [ckE] at h
    split at h
    · rw [Bool.and_eq_true] at h
      exact snd_of (le_tup (ckEs_ok es nm _ X all g h.1 h.2)) rfl
    · cases h
  | .lst es, nm, e, X, all, g, h => by
    simp only [ckE] at h
    split at h
    · rw [Bool.and_eq_true] at h
      exact snd_of (le_lst (ckEs_ok es nm _ X all g h.1 h.2)) rfl
    · cases h
  | .dct0, nm, e, X, all, g, h => by
    simp only [ckE] at h
    split at h
    · exact snd_of le_dct0 rfl
    · cases h
  | .idx a b, nm, e, X, all, g, h => by
    simp only [ckE] at h
    split at h
    · simp only [Bool.and_eq_true] at h
      exact snd_of (le_idx g.u1 (ckE_ok a nm _ X all g h.1.1).1 (ckE_ok b nm _ X all g h.1.2).1 (ix_plain h.2)) rfl
    · cases h
  | .slc a lo hi, nm, e, X, all, g, h => by
    simp only [ckE] at h
    split at h
    · simp only [Bool.and_eq_true] at h
      exact snd_of (le_slc (ckE_ok a nm _ X all g h.1.1).1 (ckP_ok lo nm _ X all g h.1.2) (ckP_ok hi nm _ X all g h.2)) rfl
    · cases h
  | .fld a f, nm, e, X, all, g, h => by
    simp only [ckE] at h
    split at h
    · simp only [Bool.and_eq_true] at h
      exact snd_of (le_fld (by rw [← g.fx.an]; exact isN_str h.1.2) (ckE_ok a nm _ X all g h.1.1).1 (base_plain h.2 _ _ _)) rfl
    · cases h
  | .call f es, nm, e, X, all, g, h => by
    simp only [ckE] at h
    split at h
    · rename_i x np xs pos
      simp only [Bool.and_eq_true] at h
      obtain ⟨⟨⟨⟨h1, h2⟩, h3⟩, h4⟩, h5⟩ := h
      obtain ⟨a, fd, ps, e1, e2, e3, F⟩ := g.fx.fn _ _ h1
      cases xs with
      | nil =>
        cases es with
        | nil => exact snd_of (le_call0 (CX := CX0) F g.room0 (g.glo h2) e1 e2 e3 (bne_not h3)) rfl
        | cons _ _ => simp [ckEs] at h4
      | cons y ys => exact snd_of (le_call (CX := CX0) F g.room0 (g.glo h2) e1 e2 e3 (ckEs_ok es nm _ X all g h4 h5) (bne_not h3) h5) rfl
    · cases h
  | .mk c f es, nm, e, X, all, g, h => by
    simp only [ckE] at h
    split at h
    · rename_i x np xs pos
      simp only [Bool.and_eq_true] at h
      obtain ⟨⟨⟨⟨h1, h2⟩, h3⟩, h4⟩, h5⟩ := h
      obtain ⟨a, fd, ps, M, cl, e1, e3, F⟩ := g.fx.cl _ _ _ h1
      cases xs with
      | nil =>
        cases es with
        | nil => exact snd_of (le_mk0 M cl F g.room (g.glo h2) e1 e3 (bne_not h3)) rfl
        | cons _ _ => simp [ckEs] at h4
      | cons y ys => exact snd_of (le_mk M cl F g.room (g.glo h2) e1 e3 (ckEs_ok es nm _ X all g h4 h5) (bne_not h3) h5) rfl
    · cases h
  | .mth _ _ _ _ _, nm, e, X, all, g, h => by
    simp only [ckE] at h
    cases h
  | .bf p es, nm, e, X, all, g, h => by
    simp only [ckE] at h
    split at h
    · simp only [Bool.and_eq_true] at h
      obtain ⟨⟨⟨⟨h1, h2⟩, h3⟩, h4⟩, h5⟩ := h
      exact snd_of (le_bf g.calm (ckEs_ok es nm _ X all g h4 h5) (isN_str h1) (g.glo h2) (g.fx.free _ h3) h5) rfl
    · cases h
  | .bm p o es, nm, e, X, all, g, h => by
    simp only [ckE] at h
    split at h
    · rename_i x name apos ys cpos
      simp only [Bool.and_eq_true] at h
      obtain ⟨⟨⟨⟨⟨⟨h1, h2⟩, h3⟩, h4⟩, h5⟩, h6⟩, h7⟩ := h
      have ho := (ckE_ok o nm _ X all g h5).1
      have ha := ckEs_ok es nm _ X all g h6 h7
      cases ys with
      | nil =>
        cases es with
        | nil =>
          have hp : p = .pop0 ∨ p = .reverse := by
            cases p <;> simp [okBM] at h2 <;> simp
          exact snd_of (le_bm0 ho (isN_str h1) hp h3 h4) rfl
        | cons _ _ => simp [ckEs] at h6
      | cons y ys =>
        have hp : (p ≠ .pop0 ∧ p ≠ .reverse) ∧ (y :: ys).length < 30 := by
          cases p <;> first | (simp [okBM] at h2; done) | exact ⟨⟨(fun q => nomatch q), (fun q => nomatch q)⟩, (of_decide_eq_true h2).2⟩
        exact snd_of (le_bm g.u1 ho ha (isN_str h1) hp.1 h3 h7 hp.2 h4) rfl
    · cases h
  | .isT a, nm, e, X, all, g, h => by
    simp only [ckE] at h
    split at h
    · simp only [Bool.and_eq_true] at h
      obtain ⟨⟨⟨⟨⟨⟨⟨h1, h2⟩, h3⟩, h4⟩, h5⟩, h6⟩, h7⟩, h8⟩ := h
      obtain rfl := isN_str h1
      obtain rfl := isN_str h2
      exact snd_of (le_isT (ckE_ok a nm _ X all g h7).1 (g.glo h3) (g.fx.free _ h5) (g.glo h4) (g.fx.free _ h6) h8) rfl
    · cases h
  | .comp vs t it c a, nm, e, X, all, g, h => by
    simp only [ckE] at h
    split at h
    · rename_i elt tg iter ifs scope pos
      simp only [Bool.and_eq_true] at h
      obtain ⟨⟨⟨⟨⟨⟨h1, h2⟩, h3⟩, h4⟩, h5⟩, h6⟩, h7⟩ := h
      have bo := blk_ok g h2
      have key : ∀ s H Ca cl fp, GX G T C n N (X.blk s H scope (compEnvC scope cl Ca X.env) fp) (relN scope.names nm) false := fun s H Ca cl fp => g.blk bo.kind s H Ca cl fp
      obtain ⟨is, his⟩ : ∃ is : List Nat, (∀ s H Ca cl fp, PG (X.blk s H scope (compEnvC scope cl Ca X.env) fp) tg (gOf T X.K is (tgt t))) ∧ ∀ i ∈ is, i ∈ vs := by
        cases t with
        | nm i =>
          simp only [ckT] at h4
          split at h4
          · simp only [Bool.and_eq_true] at h4
            refine ⟨[i], fun s H Ca cl fp => ?_, fun j hj => ?_⟩
            · obtain ⟨l1, l2⟩ := (key s H Ca cl fp).loc (b := false) (fun q => by cases q) h4.2
              exact lg_nm (key s H Ca cl fp).nd ((key s H Ca cl fp).N_ h4.1) l1 l2
            · simp only [List.mem_singleton] at hj
              subst hj
              simpa [ckIn] using h5
          · cases h4
        | tup is =>
          simp only [ckT] at h4
          split at h4
          · refine ⟨is, fun s H Ca cl fp => ?_, fun j hj => ?_⟩
            · obtain ⟨h1, h2, h3⟩ := tgs_ok (key s H Ca cl fp) (fun q => by cases q) is _ h4
              exact lg_tup g.calm h1 h2 h3
            · simp only [ckIn, List.all_eq_true] at h5
              simpa using h5 j hj
          · cases h4
      have q := le_comp (T := T) (mi := fun ρ h => dI C it ρ h) (mt := fun ρ h => dC C c ρ h) (me := fun ρ h => dE C a ρ h) g.calm g.nd (ckI_ok it nm iter tg X all g h1) bo his.1
        (fun s H Ca cl fp => ckC_ok c _ ifs _ _ (key s H Ca cl fp) h6) (fun s H Ca cl fp => (ckE_ok a _ elt _ _ (key s H Ca cl fp) h7).1) h3 (by rw [own_map]; exact his.2) (pos := pos)
      rw [own_map] at q
      exact snd_of q rfl
    · cases h
theorem ckX_ok : ∀ (m : MX) (nm : Nm) (e : Expr) (X : Cx) (all : Bool), GX G T C n N X nm all → ckX G N m nm e = true → PT X e (tOfB T X.K (dX C m)) ∧ ((∃ op es pos, e = .BoolOp op es pos) → PW X e (tOfB T X.K (dX C m)))
  | .tr a, nm, e, X, all, g, h => by
    simp only [ckX, Bool.and_eq_true] at h
    obtain ⟨h1, h2⟩ := h
    have q := ckE_ok a nm e X all g h2
    cases hc : isCmp e with
    | true =>
      refine ⟨q.2 hc, fun ⟨op, es, pos, he⟩ => ?_⟩
      subst he
      cases hc
    | false =>
      rw [hc, Bool.false_or] at h1
      refine ⟨lt_truth q.1 fun w => ?_, fun ⟨op, es, pos, he⟩ => ?_⟩
      · cases e <;> first | rfl | cases h1
      · subst he
        cases h1
  | .and a b, nm, e, X, all, g, h => by
    simp only [ckX] at h
    split at h
    · rename_i x y r pos
      rw [Bool.and_eq_true] at h
      have ha := (ckX_ok a nm _ X all g h.1).1
      have h2 := h.2
      have w : PW X (.BoolOp .And (x :: y :: r) pos) (tOfB T X.K (xAnd (dX C a) (dX C b))) := lw_and ha (by
        cases r with
        | nil => exact pw_and1 (ckX_ok b nm _ X all g h2).1
        | cons r1 r2 => exact (ckX_ok b nm _ X all g h2).2 ⟨_, _, _, rfl⟩)
      exact ⟨w.pt, fun _ => w⟩
    · cases h
  | .or a b, nm, e, X, all, g, h => by
    simp only [ckX] at h
    split at h
    · rename_i x y r pos
      rw [Bool.and_eq_true] at h
      have ha := (ckX_ok a nm _ X all g h.1).1
      have h2 := h.2
      have w : PW X (.BoolOp .Or (x :: y :: r) pos) (tOfB T X.K (xOr (dX C a) (dX C b))) := lw_or ha (by
        cases r with
        | nil => exact pw_or1 (ckX_ok b nm _ X all g h2).1
        | cons r1 r2 => exact (ckX_ok b nm _ X all g h2).2 ⟨_, _, _, rfl⟩)
      exact ⟨w.pt, fun _ => w⟩
    · cases h
  | .not a, nm, e, X, all, g, h => by
    simp only [ckX] at h
    split at h
    · refine ⟨lt_not (ckX_ok a nm _ X all g h).1, fun ⟨op, es, pos, he⟩ => ?_⟩
      cases he
    · cases h
theorem ckEs_ok : ∀ (ms : MEs) (nm : Nm) (es : List Expr) (X : Cx) (all : Bool), GX G T C n N X nm all → ckEs G N ms nm es = true → es.all noStar = true → PA X es (tOfA T X.K (dEs C ms))
  | .nil, nm, es, X, all, g, h, hs => by
    simp only [ckEs, List.isEmpty_iff] at h
    subst h
    exact la_nil
  | .cons a as, nm, es, X, all, g, h, hs => by
    simp only [ckEs] at h
    split at h
    · rw [Bool.and_eq_true] at h
      rw [List.all_cons, Bool.and_eq_true] at hs
      exact la_cons (ckE_ok a nm _ X all g h.1).1 (ckEs_ok as nm _ X all g h.2 hs.2) (star_cons hs.1 _ _)
    · cases h
theorem ckP_ok : ∀ (m : MP) (nm : Nm) (e : Option Expr) (X : Cx) (all : Bool), GX G T C n N X nm all → ckP G N m nm e = true → PO X e (tOfP T X.K (dP C m))
  | .no, nm, e, X, all, g, h => by
    simp only [ckP, Option.isNone_iff_eq_none] at h
    subst h
    exact lp_none
  | .some a, nm, e, X, all, g, h => by
    simp only [ckP] at h
    split at h
    · exact lp_some (ckE_ok a nm _ X all g h).1
    · cases h
theorem ckC_ok : ∀ (m : MC) (nm : Nm) (e : List Expr) (X : Cx) (all : Bool), GX G T C n N X nm all → ckC G N m nm e = true → PTs X e (tOfB T X.K (dC C m))
  | .no, nm, e, X, all, g, h => by
    simp only [ckC, List.isEmpty_iff] at h
    subst h
    exact lts_nil
  | .some a, nm, e, X, all, g, h => by
    simp only [ckC] at h
    split at h
    · exact pts_one (ckX_ok a nm _ X all g h).1
    · cases h
theorem ckI_ok : ∀ (m : MI) (nm : Nm) (e tg : Expr) (X : Cx) (all : Bool), GX G T C n N X nm all → ckI G N m nm e = true → PI X tg e (iOf T X.K (dI C m))
  | .seq a, nm, e, tg, X, all, g, h => by
    simp only [ckI] at h
    exact li_seq (ckE_ok a nm _ X all g h).1
  | .rng1 a, nm, e, tg, X, all, g, h => by
    simp only [ckI] at h
    split at h
    · simp only [Bool.and_eq_true] at h
      obtain ⟨⟨⟨⟨h1, h2⟩, h3⟩, h4⟩, h5⟩ := h
      obtain rfl := isN_str h1
      exact li_rng1 (g.glo h2) (g.fx.free _ h3) (ckE_ok a nm _ X all g h4).1 h5
    · cases h
  | .rng2 a b, nm, e, tg, X, all, g, h => by
    simp only [ckI] at h
    split at h
    · simp only [Bool.and_eq_true] at h
      obtain ⟨⟨⟨⟨⟨⟨h1, h2⟩, h3⟩, h4⟩, h5⟩, h6⟩, h7⟩ := h
      obtain rfl := isN_str h1
      exact li_rng2 (g.glo h2) (g.fx.free _ h3) (ckE_ok a nm _ X all g h4).1 (ckE_ok b nm _ X all g h6).1 h5 h7
    · cases h
  | .rrng1 a, nm, e, tg, X, all, g, h => by
    simp only [ckI] at h
    split at h
    · simp only [Bool.and_eq_true] at h
      obtain ⟨⟨⟨⟨⟨⟨⟨h1, h2⟩, h3⟩, h4⟩, h5⟩, h6⟩, h7⟩, h8⟩ := h
      obtain rfl := isN_str h1
      obtain rfl := isN_str h4
      exact li_rev1 (g.glo h2) (g.fx.free _ h3) (g.glo h5) (g.fx.free _ h6) (ckE_ok a nm _ X all g h7).1 h8
    · cases h
end
end Zm
namespace Zm
open PySem PySem.Spec PyProof.Rows L2
variable {G : GT} {T : Tb} {C : Cl} {n : Nat} {N : List Str}

/-- the parts of a comprehension -/
theorem comp_parts {X : Cx} {nm : Nm} {all : Bool} (g : GX G T C n N X nm all) {vs : List Nat} {t : MT} {it : MI} {c : MC} {a : ME} {elt tg iter : Expr} {ifs : List Expr} {scope : Scope} {pos : Pos}
    (h : ckE G N (.comp vs t it c a) nm (.ListComp elt [⟨tg, iter, ifs, 0⟩] scope pos) = true) : PI X tg iter (iOf T X.K (dI C it)) ∧ BlkOk X.N X.env.scope scope (ownOf N vs) ∧ noSet iter = true ∧
      ∃ is : List Nat, (∀ s H Ca cl fp, PG (X.blk s H scope (compEnvC scope cl Ca X.env) fp) tg (gOf T X.K is (tgt t))) ∧ (∀ i ∈ is, i ∈ vs) ∧
      (∀ s H Ca cl fp, PTs (X.blk s H scope (compEnvC scope cl Ca X.env) fp) ifs (tOfB T X.K (dC C c))) ∧ ∀ s H Ca cl fp, PE (X.blk s H scope (compEnvC scope cl Ca X.env) fp) elt (tOf T X.K (dE C a)) := by
  simp only [ckE] at h
  simp only [Bool.and_eq_true] at h
  obtain ⟨⟨⟨⟨⟨⟨h1, h2⟩, h3⟩, h4⟩, h5⟩, h6⟩, h7⟩ := h
  have bo := blk_ok g h2
  have key : ∀ s H Ca cl fp, GX G T C n N (X.blk s H scope (compEnvC scope cl Ca X.env) fp) (relN scope.names nm) false := fun s H Ca cl fp => g.blk bo.kind s H Ca cl fp
  obtain ⟨is, his⟩ : ∃ is : List Nat, (∀ s H Ca cl fp, PG (X.blk s H scope (compEnvC scope cl Ca X.env) fp) tg (gOf T X.K is (tgt t))) ∧ ∀ i ∈ is, i ∈ vs := by
    cases t with
    | nm i =>
      simp only [ckT] at h4
      split at h4
      · simp only [Bool.and_eq_true] at h4
        refine ⟨[i], fun s H Ca cl fp => ?_, fun j hj => ?_⟩
        · obtain ⟨l1, l2⟩ := (key s H Ca cl fp).loc (b := false) (fun q => by cases q) h4.2
          exact lg_nm (key s H Ca cl fp).nd ((key s H Ca cl fp).N_ h4.1) l1 l2
        · simp only [List.mem_singleton] at hj
          subst hj
          simpa [ckIn] using h5
      · cases h4
    | tup is =>
      simp only [ckT] at h4
      split at h4
      · refine ⟨is, fun s H Ca cl fp => ?_, fun j hj => ?_⟩
        · obtain ⟨h1, h2, h3⟩ := tgs_ok (key s H Ca cl fp) (fun q => by cases q) is _ h4
          exact lg_tup g.calm h1 h2 h3
        · simp only [ckIn, List.all_eq_true] at h5
          simpa using h5 j hj
      · cases h4
  exact ⟨ckI_ok it nm iter tg X all g h1, bo, h3, is, his.1, his.2, fun s H Ca cl fp => ckC_ok c _ ifs _ _ (key s H Ca cl fp) h6, fun s H Ca cl fp => (ckE_ok a _ elt _ _ (key s H Ca cl fp) h7).1⟩
variable {X : Cx} {nm : Nm}
theorem asg_nm_ok (g : GX G T C n N X nm true) {i : Nat} {m : ME} {x : Str} {px : Pos} {e : Expr} {pos : Pos} (h0 : ckE G N m nm e = true) (h1 : eqN N i x = true) (h2 : locB true nm x = true) (h3 : (noComp e || swB nm x px e) = true) :
    PS X (.Assign [.Name x px] e pos) (sOf T X.K (mAsg (dE C m) (tgt (.nm i)))) := by
  obtain ⟨l1, l2⟩ := g.loc (b := true) (fun _ => rfl) h2
  cases hc : noComp e with
  | true => exact ls_set g.nd (g.N_ h1) l1 l2 (ckE_ok m nm e X true g h0).1 hc
  | false =>
    rw [hc, Bool.false_or] at h3
    cases e <;> try (cases h3; done)
    rename_i elt gens scope lpos
    simp only [swB, Bool.and_eq_true] at h3
    obtain ⟨⟨s1, s2⟩, s3⟩ := h3
    have sl : X.env.scope.names.lookup x = some .local := by
      rw [g.enm]
      split at s1
      · assumption
      · cases s1
    cases m <;> try (simp [ckE] at h0; done)
    rename_i vs t it c a
    have h00 := h0
    simp only [ckE] at h0
    split at h0
    · rename_i heq
      cases heq
      obtain ⟨p1, p2, p3, is, p4, p5, p6, p7⟩ := comp_parts g h00
      have q := ls_setLc (T := T) (mi := dI C it) (mt := dC C c) (me := dE C a) g.calm g.nd (g.N_ h1) sl (sw_true g.kind sl s2 (by simpa using s3)) p1 p2 p4 p6 p7 p3 (by rw [own_map]; exact p5) (spos := pos)
      rw [own_map] at q
      exact q
    · cases h0
theorem augR_ok {o : BO} {op : Operator} (h : (match o, op with
      | .addI, .Add => true
      | .sub, .Sub => true
      | _, _ => false) = true) : OpR X (inplaceOp op) (rOp T X.K (zBin o)) := by
  split at h
  · exact oz_iadd
  · exact oz_isub
  · cases h
mutual
theorem ckS_ok : ∀ (m : MS) (st : Stmt) (X : Cx) (nm : Nm), GX G T C n N X nm true → PassesOwn (model X.prog X.w) X.A X.env X.xe → ckS G N m nm st = true → PS X st (sOf T X.K (dS C G.fl m))
  | .asg t m, st, X, nm, g, hp, h => by
    simp only [ckS] at h
    split at h
    · rename_i tg e pos
      rw [Bool.and_eq_true] at h
      obtain ⟨h0, h⟩ := h
      cases t with
      | nm i =>
        dsimp only at h
        split at h
        · simp only [Bool.and_eq_true] at h
          exact asg_nm_ok g h0 h.1.1 h.1.2 h.2
        · cases h
      | tup is =>
        dsimp only at h
        split at h
        · simp only [Bool.and_eq_true] at h
          obtain ⟨h1, h2, h3⟩ := tgs_ok g (fun _ => rfl) is _ h.1.1
          exact ls_tup (ckE_ok m nm e X true g h0).1 (lg_tup g.calm h1 h2 h3) h.1.2 h.2
        · cases h
      | sub o i =>
        dsimp only at h
        split at h
        · simp only [Bool.and_eq_true] at h
          exact ls_sub g.u1 (ckE_ok o nm _ X true g h.1.1.1).1 (ckE_ok i nm _ X true g h.1.1.2).1 h.1.2 (ckE_ok m nm e X true g h0).1 h.2
        · cases h
      | fld o f =>
        dsimp only at h
        split at h
        · simp only [Bool.and_eq_true] at h
          exact ls_fld g.fx.fl (by rw [← g.fx.an]; exact isN_str h.1.2) (ckE_ok o nm _ X true g h.1.1).1 (ckE_ok m nm e X true g h0).1 h.2
        · cases h
    · cases h
  | .aug i o m, st, X, nm, g, hp, h => by
    simp only [ckS] at h
    split at h
    · simp only [Bool.and_eq_true] at h
      obtain ⟨l1, l2⟩ := g.loc (b := true) (fun _ => rfl) h.1.2
      exact ls_aug (augR_ok h.1.1.1) g.nd (g.N_ h.1.1.2) l1 l2 (ckE_ok m nm _ X true g h.2).1
    · cases h
  | .expr m, st, X, nm, g, hp, h => by
    simp only [ckS] at h
    split at h
    · rw [Bool.and_eq_true] at h
      exact ls_expr (ckE_ok m nm _ X true g h.1).1 h.2
    · cases h
  | .ret m, st, X, nm, g, hp, h => by
    simp only [ckS] at h
    split at h
    · exact ls_ret (ckE_ok m nm _ X true g h).1
    · cases h
  | .retN, st, X, nm, g, hp, h => by
    simp only [ckS] at h
    split at h
    · exact ls_retN
    · cases h
  | .ite c a b, st, X, nm, g, hp, h => by
    simp only [ckS] at h
    split at h
    · simp only [Bool.and_eq_true] at h
      exact ls_ite (ckX_ok c nm _ X true g h.1.1).1 (ckSs_ok a _ X nm g hp h.1.2) (ckSs_ok b _ X nm g hp h.2)
    · cases h
  | .while c b, st, X, nm, g, hp, h => by
    simp only [ckS] at h
    split at h
    · rw [Bool.and_eq_true] at h
      exact ls_while hp (ckX_ok c nm _ X true g h.1).1 (ckSs_ok b _ X nm g hp h.2)
    · cases h
  | .for t it b, st, X, nm, g, hp, h => by
    simp only [ckS] at h
    split at h
    · simp only [Bool.and_eq_true] at h
      obtain ⟨is, h1, _⟩ := tgt_ok g (fun _ => rfl) t _ h.1.2
      exact ls_for hp g.calm (ckI_ok it nm _ _ X true g h.1.1.1) h1 (ckSs_ok b _ X nm g hp h.2) h.1.1.2
    · cases h
  | .pass, st, X, nm, g, hp, h => by
    simp only [ckS] at h
    split at h
    · exact ls_pass
    · cases h
  | .brk, st, X, nm, g, hp, h => by
    simp only [ckS] at h
    split at h
    · exact ls_brk
    · cases h
  | .cont, st, X, nm, g, hp, h => by
    simp only [ckS] at h
    split at h
    · exact ls_cont
    · cases h
  | .never, st, X, nm, g, hp, h => ls_never
theorem ckSs_ok : ∀ (m : MSs) (sts : List Stmt) (X : Cx) (nm : Nm), GX G T C n N X nm true → PassesOwn (model X.prog X.w) X.A X.env X.xe → ckSs G N m nm sts = true → PSs X sts (sOf T X.K (dSs C G.fl m))
  | .nil, sts, X, nm, g, hp, h => by
    simp only [ckSs, List.isEmpty_iff] at h
    subst h
    exact lss_nil
  | .cons s ss, sts, X, nm, g, hp, h => by
    simp only [ckSs] at h
    split at h
    · rw [Bool.and_eq_true] at h
      exact lss_cons (ckS_ok s _ X nm g hp h.1) (ckSs_ok ss _ X nm g hp h.2)
    · cases h
end

/-! ### a def -/
theorem RE_start {K : PySem.W.Frag} {as : List Addr} {H : Hp} {zs : List Z} {vs : List V} (N : List Str) (r : RZs K as H zs vs) : RE K as H (L2.start N vs) (zs.map some ++ List.replicate (N.length - zs.length) none) := by
  have hl := r.length
  refine ⟨by unfold L2.start; simp [hl], fun i z e => ?_⟩
  by_cases hi : i < zs.length
  · rw [List.getElem?_append_left (by simpa using hi), List.getElem?_map] at e
    cases q : zs[i]? with
    | none => rw [q] at e; cases e
    | some y =>
      rw [q] at e
      cases e
      obtain ⟨v, h1, h2⟩ := r.get q
      refine ⟨v, ?_, h2⟩
      unfold L2.start
      rw [List.getElem?_append_left (by rw [List.length_map, ← hl]; exact hi), List.getElem?_map, h1]
      rfl
  · rw [List.getElem?_append_right (by simpa using hi)] at e
    rw [List.getElem?_replicate] at e
    split at e <;> cases e
/-- a def of the text keeps the promise that its code gives -/
theorem def_ok {P : Program} {w : World} {K : PySem.W.Frag} {mg : Str → Option Value} {base : Heap} {x qual : Str} {params : Arguments} {body : List Stmt} {scope : Scope} {dvs : List V} {kws : List (Str × V)} {f : Addr} {fd : FuncData} {ps : List Str} {d : MD} {g : List Z → Mh → Res Z}
    (F : FunD K x qual params body scope dvs kws f fd) (S : FnScope N ps scope) (fx : Facts G T C n P w K mg base) (hps : ps.length = d.ps) (hn : N.length = d.n) (h : ckSs G N d.body scope.names body = true)
    (hg : ∀ zs h, g zs h = guard (zs.length = d.ps) (runD C G.fl d.n d.body zs h)) : FnOk P w K mg base CX0 (n + 2) f fd ps (spOf T K g) := by
  refine F.ok S (fun vs H Q E ⟨as, h, zs, rh, r, fin⟩ => ?_) (fun cdv A outer s H vs Q E hr ⟨as, h0, zs, rh, r, fin⟩ => ?_)
  · rw [hg] at fin
    rw [hps, ← (Fin.guard fin).1, r.length]
  · rw [hg] at fin
    have fin := (Fin.guard fin).2
    have gx : GX G T C n N (cxOf CX0 P w K mg base N qual scope f cdv A outer s H E).nox scope.names true := ⟨fx, rfl, S.nd, hr, rfl, rfl, S.kind, fun _ _ => rfl⟩
    refine ⟨_, PSs.nox (ckSs_ok d.body body _ scope.names gx PassesOwn.never h), as, h0, _, rh, RE_start N r, ?_⟩
    unfold runD at fin
    rw [← hn] at fin
    refine Fin.mono (Fin.bind fin) fun fl h1 as1 H1 e1 r1 ⟨_, _, f1⟩ => ?_
    cases fl with
    | nx ρ => exact fun σ' _ => FinV.self f1 r1 .non
    | ret z => exact fun v q => FinV.self f1 r1 q
    | brk ρ => exact f1.elim
    | cont ρ => exact f1.elim
end Zm
/-! From the head's facts to what every def promises. -/
namespace Zm
open PySem PySem.Spec PyProof.Rows L2

/-- a def of the program -/
structure DD where
  dd : He.DefD
  N : List Str
  ps : List Str
  md : MD
/-- a program by its tables -/
structure Prg where
  defs : List DD
  nums : List (Str × Int)
  frees : List Str
  classes : List Str
  names : List Str
  fields : List (Nat × Nat)
def Prg.clsN (p : Prg) (c : Nat) : Str := p.classes.getD c ""
/-- attribute names; beyond the table a sign of its own each -/
def anOf (names : List Str) (i : Nat) : Str := match names[i]? with
  | some x => x
  | none => ⟨#[i, i]⟩
def okName (x : Str) : Bool := match x.cps.toList with
  | [a, b] => !(a == b)
  | _ => true
theorem anOf_inj {names : List Str} (h1 : names.Nodup) (h2 : names.all okName = true) : ∀ i j, anOf names i = anOf names j → i = j := by
  have key : ∀ (x : Str) (j : Nat), x ∈ names → x ≠ ⟨#[j, j]⟩ := by
    intro x j hx e
    have := List.all_eq_true.mp h2 x hx
    rw [e] at this
    simp [okName] at this
  intro i j e
  unfold anOf at e
  cases hi : names[i]? with
  | some x =>
    cases hj : names[j]? with
    | some y =>
      rw [hi, hj] at e
      have e : x = y := e
      subst e
      obtain ⟨li, ei⟩ := List.getElem?_eq_some_iff.mp hi
      obtain ⟨lj, ej⟩ := List.getElem?_eq_some_iff.mp hj
      exact (List.getElem_inj h1).mp (ei.trans ej.symm)
    | none =>
      rw [hi, hj] at e
      exact absurd e (key x j (List.mem_of_getElem? hi))
  | none =>
    cases hj : names[j]? with
    | some y =>
      rw [hi, hj] at e
      exact absurd e.symm (key y i (List.mem_of_getElem? hj))
    | none =>
      rw [hi, hj] at e
      have e : (⟨#[i, i]⟩ : Str) = ⟨#[j, j]⟩ := e
      injection e with e
      have e := congrArg Array.toList e
      simpa using e
def Prg.gt (p : Prg) : GT where
  con := fun x z => match z with
    | .int i => p.nums.any fun q => q.1 == x && decide (q.2 = i)
    | _ => false
  fn := fun f x => match p.defs[f]? with
    | some d => (match d.dd.at_.2 with
      | none => d.dd.at_.1 == x
      | some _ => false)
    | none => false
  cl := fun c f x => (match p.classes[c]? with
    | some y => y == x
    | none => false) && (match p.defs[f]? with
    | some d => (match d.dd.at_.2 with
      | some m => d.dd.at_.1 == x && m == "__init__"
      | none => false)
    | none => false)
  free := fun x => p.frees.any fun y => y == x
  an := anOf p.names
  fl := fun c f => p.fields.any fun q => q.1 == c && q.2 == f
def Prg.code (p : Prg) (f : Nat) : Option MD := (p.defs[f]?).map (·.md)
def Prg.fn (p : Prg) : List He.DefD := p.defs.map (·.dd)
def Prg.fa (p : Prg) : List He.Fa := p.nums.map (fun q => .int q.1 q.2) ++ (p.frees.map .free ++ ((p.defs.filterMap fun d => match d.dd.at_.2 with
  | none => some (.glo d.dd.at_.1)
  | some _ => none) ++ (p.classes.map .glo ++ (p.classes.map .cls ++ (p.classes.map .mkr ++ p.fields.map fun q => .noat (p.clsN q.1) (anOf p.names q.2))))))
def DD.scopeB (d : DD) : Bool := (match d.dd.scope.kind with
  | .function => true
  | _ => false) && !d.dd.scope.isCoroutine && !d.dd.scope.isGenerator && decide d.N.Nodup && decide (d.N.take d.ps.length = d.ps) && (d.ps.all fun x => match d.dd.scope.names.lookup x with
    | some .local => true
    | some .cell => true
    | _ => false) && d.dd.scope.names.all fun y => match y.2 with
    | .free => false
    | _ => true
theorem DD.scope_ok {d : DD} (h : d.scopeB = true) : FnScope d.N d.ps d.dd.scope := by
  unfold DD.scopeB at h
  simp only [Bool.and_eq_true, Bool.not_eq_true', decide_eq_true_eq, List.all_eq_true] at h
  obtain ⟨⟨⟨⟨⟨⟨h1, h2⟩, h3⟩, h4⟩, h5⟩, h6⟩, h7⟩ := h
  refine ⟨?_, h2, h3, h4, h5, fun x hx => ?_, fun y hy e => ?_⟩
  · split at h1
    · assumption
    · cases h1
  · have := h6 x hx
    split at this
    · exact .inl (by assumption)
    · exact .inr (by assumption)
    · cases this
  · have := h7 y hy
    rw [e] at this
    cases this
def DD.ok (G : GT) (d : DD) : Bool := d.scopeB && d.ps.length == d.md.ps && d.N.length == d.md.n && ckSs G d.N d.md.body d.dd.scope.names d.dd.body
def BindOk (d : DD) : Prop := ∀ (K : PySem.W.Frag) (f : Addr) (fd : FuncData), FunD K d.dd.name d.dd.qual d.dd.params d.dd.body d.dd.scope (d.dd.dvs K) (d.dd.kws K) f fd → Binds K fd d.ps []
structure Prg.Ok (p : Prg) : Prop where
  defs : p.defs.all (DD.ok p.gt) = true
  names : p.names.Nodup
  namesOk : p.names.all okName = true
  binds : ∀ d ∈ p.defs, BindOk d
section
variable {p : Prg} {P : Program} {w : World} {K : PySem.W.Frag} {mg : Str → Option Value} {base h : Heap}
noncomputable def Prg.tb (p : Prg) (ok : p.Ok) (K : PySem.W.Frag) : Tb := ⟨fun c => He.ga K (p.clsN c), anOf p.names, anOf_inj ok.names ok.namesOk⟩
theorem says_mem {fa : List He.Fa} {fn : List He.DefD} (c : He.SaysD fa fn K) {f : He.Fa} (h : f ∈ fa) : f.ok K = true := by
  obtain ⟨i, hi⟩ := List.getElem?_of_mem h
  exact c.fact i hi
theorem stuck_ok {k : Nat} {a : Addr} {fd : FuncData} {ps : List Str} {T : Tb} : FnOk P w K mg base CX0 k a fd ps (spOf T K fun _ _ => .stuck) :=
  ⟨fun _ _ _ _ ⟨_, _, _, _, _, f⟩ => f.elim, fun _ _ _ _ _ _ _ _ _ _ _ _ _ ⟨_, _, _, _, _, f⟩ => f.elim⟩
theorem facts_all (ok : p.Ok) (c : He.SaysD p.fa p.fn K) (KX : K.In h) (Gh : h.Ns mainGlobals mg) : ∀ k : Nat, Facts p.gt (p.tb ok K) (callK p.gt.fl p.code k) (2 * k) P w K mg base := by
  have mInt : ∀ q ∈ p.nums, (He.Fa.int q.1 q.2).ok K = true := fun q hq => says_mem c (List.mem_append_left _ (List.mem_map_of_mem hq))
  have mFree : ∀ q ∈ p.frees, (He.Fa.free q).ok K = true := fun q hq => says_mem c (List.mem_append_right _ (List.mem_append_left _ (List.mem_map_of_mem hq)))
  have mFn : ∀ d ∈ p.defs, d.dd.at_.2 = none → (He.Fa.glo d.dd.at_.1).ok K = true := fun d hd e =>
    says_mem c (List.mem_append_right _ (List.mem_append_right _ (List.mem_append_left _ (List.mem_filterMap.mpr ⟨d, hd, by rw [e]⟩))))
  have mGlo : ∀ x ∈ p.classes, (He.Fa.glo x).ok K = true := fun q hq => says_mem c (List.mem_append_right _ (List.mem_append_right _ (List.mem_append_right _ (List.mem_append_left _ (List.mem_map_of_mem hq)))))
  have mCls : ∀ x ∈ p.classes, (He.Fa.cls x).ok K = true := fun q hq => says_mem c (List.mem_append_right _ (List.mem_append_right _ (List.mem_append_right _ (List.mem_append_right _ (List.mem_append_left _ (List.mem_map_of_mem hq))))))
  have mMk : ∀ x ∈ p.classes, (He.Fa.mkr x).ok K = true := fun q hq => says_mem c (List.mem_append_right _ (List.mem_append_right _ (List.mem_append_right _ (List.mem_append_right _ (List.mem_append_right _ (List.mem_append_left _ (List.mem_map_of_mem hq)))))))
  have mNo : ∀ q ∈ p.fields, (He.Fa.noat (p.clsN q.1) (anOf p.names q.2)).ok K = true := fun q hq => says_mem c (List.mem_append_right _ (List.mem_append_right _ (List.mem_append_right _ (List.mem_append_right _ (List.mem_append_right _ (List.mem_append_right _
    (List.mem_map.mpr ⟨q, hq, rfl⟩)))))))
  have fun_ : ∀ (f : Nat) d, p.defs[f]? = some d → ∃ fd, FunD K d.dd.name d.dd.qual d.dd.params d.dd.body d.dd.scope (d.dd.dvs K) (d.dd.kws K) (He.fAd K d.dd.at_) fd := fun f d e => c.def_ f (d := d.dd) (by unfold Prg.fn; rw [List.getElem?_map, e]; rfl)
  have key : ∀ C n, (∀ (f : Nat) d, p.defs[f]? = some d → ∃ fd, FunD K d.dd.name d.dd.qual d.dd.params d.dd.body d.dd.scope (d.dd.dvs K) (d.dd.kws K) (He.fAd K d.dd.at_) fd ∧ FnOk P w K mg base CX0 n (He.fAd K d.dd.at_) fd d.ps (spOf (p.tb ok K) K (C f))) →
      Facts p.gt (p.tb ok K) C n P w K mg base := by
    intro C n hF
    refine ⟨fun x z e => ?_, fun f x e => ?_, fun cc f x e => ?_, fun x e => ?_, fun cc f e => ?_, rfl⟩
    · simp only [Prg.gt] at e
      split at e
      · rename_i i
        obtain ⟨q, hq, e⟩ := List.any_eq_true.mp e
        simp only [Bool.and_eq_true, decide_eq_true_eq] at e
        obtain ⟨e1, e2⟩ := e
        obtain ⟨t, ht⟩ := He.int_ok KX Gh (mInt q hq)
        refine ⟨.int i t, .int i, ?_, ⟨t, rfl⟩, fun as H => .int i⟩
        rw [← eq_of_beq e1, ht, e2]
      · cases e
    · simp only [Prg.gt] at e
      split at e
      · rename_i d hd
        split at e
        · rename_i hn
          obtain ⟨fd, F, ok1⟩ := hF f d hd
          have hm := List.mem_of_getElem? hd
          have e1 := eq_of_beq e
          have ea : He.fAd K d.dd.at_ = He.ga K x := by
            unfold He.fAd
            rw [hn, e1]
          rw [ea] at F ok1
          refine ⟨He.ga K x, fd, d.ps, ?_, F.kp, ok.binds d hm _ _ _ F, ok1⟩
          rw [← e1]
          exact He.glo_ok KX Gh (mFn d hm hn)
        · cases e
      · cases e
    · simp only [Prg.gt, Bool.and_eq_true] at e
      obtain ⟨e1, e2⟩ := e
      split at e1
      · rename_i y hy
        have e1 := eq_of_beq e1
        subst e1
        have hm1 := List.mem_of_getElem? hy
        split at e2
        · rename_i d hd
          split at e2
          · rename_i m hn
            simp only [Bool.and_eq_true] at e2
            obtain ⟨e3, e4⟩ := e2
            have e3 := eq_of_beq e3
            have e4 := eq_of_beq e4
            subst e4
            obtain ⟨fd, F, ok1⟩ := hF f d hd
            have hm := List.mem_of_getElem? hd
            have ec : p.clsN cc = y := by
              unfold Prg.clsN
              rw [List.getD_eq_getElem?_getD, hy]
              rfl
            have ea : He.fAd K d.dd.at_ = He.ma K (He.ga K y) "__init__" := by
              unfold He.fAd
              rw [hn, e3]
            have et : (p.tb ok K).cls cc = He.ga K y := by
              show He.ga K (p.clsN cc) = _
              rw [ec]
            rw [ea] at F ok1
            refine ⟨He.ma K (He.ga K y) "__init__", fd, d.ps, ?_, ?_, ?_, ok.binds d hm _ _ _ F, ok1⟩
            · rw [et]; exact He.mkr_ok (mMk y hm1)
            · rw [et]; exact He.cls_ok (mCls y hm1)
            · rw [et]; exact He.glo_ok KX Gh (mGlo y hm1)
          · cases e2
        · cases e2
      · cases e1
    · simp only [Prg.gt] at e
      obtain ⟨q, hq, e⟩ := List.any_eq_true.mp e
      rw [← eq_of_beq e]
      exact He.free_ok KX Gh (mFree q hq)
    · simp only [Prg.gt] at e
      obtain ⟨q, hq, e⟩ := List.any_eq_true.mp e
      simp only [Bool.and_eq_true] at e
      have e1 := eq_of_beq e.1
      have e2 := eq_of_beq e.2
      subst e1 e2
      exact He.noat_ok (mNo q hq)
  intro k
  induction k with
  | zero =>
    refine key _ _ fun f d hd => ?_
    obtain ⟨fd, F⟩ := fun_ f d hd
    exact ⟨fd, F, stuck_ok⟩
  | succ k ih =>
    refine key _ _ fun f d hd => ?_
    obtain ⟨fd, F⟩ := fun_ f d hd
    have hok := List.all_eq_true.mp ok.defs d (List.mem_of_getElem? hd)
    unfold DD.ok at hok
    simp only [Bool.and_eq_true, beq_iff_eq] at hok
    obtain ⟨⟨⟨h1, h2⟩, h3⟩, h4⟩ := hok
    refine ⟨fd, F, def_ok (d := d.md) (C := callK p.gt.fl p.code k) F (DD.scope_ok h1) ih h2 h3 h4 fun zs h => ?_⟩
    show (match p.code f with
      | some d => guard (zs.length = d.ps) (runD (callK p.gt.fl p.code k) p.gt.fl d.n d.body zs h)
      | none => .stuck) = _
    have e : p.code f = some d.md := by
      unfold Prg.code
      rw [hd]
      rfl
    rw [e]
theorem glo_mem {f : Nat} {d : DD} {x : Str} (hd : p.defs[f]? = some d) (ha : d.dd.at_ = (x, none)) : He.Fa.glo x ∈ p.fa :=
  List.mem_append_right _ (List.mem_append_right _ (List.mem_append_left _ (List.mem_filterMap.mpr ⟨d, List.mem_of_getElem? hd, by rw [ha]⟩)))
theorem all_ok (ok : p.Ok) (c : He.SaysD p.fa p.fn K) (KX : K.In h) (Gh : h.Ns mainGlobals mg) (k f : Nat) {d : DD} {fd : FuncData} (hd : p.defs[f]? = some d) (F : FunD K d.dd.name d.dd.qual d.dd.params d.dd.body d.dd.scope (d.dd.dvs K) (d.dd.kws K) (He.fAd K d.dd.at_) fd) :
    FnOk P w K mg base CX0 (2 * k) (He.fAd K d.dd.at_) fd d.ps (spOf (p.tb ok K) K (callK p.gt.fl p.code k f)) := by
  cases k with
  | zero => exact stuck_ok
  | succ k =>
    have hok := List.all_eq_true.mp ok.defs d (List.mem_of_getElem? hd)
    unfold DD.ok at hok
    simp only [Bool.and_eq_true, beq_iff_eq] at hok
    obtain ⟨⟨⟨h1, h2⟩, h3⟩, h4⟩ := hok
    refine def_ok (d := d.md) (C := callK p.gt.fl p.code k) F (DD.scope_ok h1) (facts_all ok c KX Gh k) h2 h3 h4 fun zs h => ?_
    show (match p.code f with
      | some d => guard (zs.length = d.ps) (runD (callK p.gt.fl p.code k) p.gt.fl d.n d.body zs h)
      | none => .stuck) = _
    have e : p.code f = some d.md := by
      unfold Prg.code
      rw [hd]
      rfl
    rw [e]
/-- the law: if its code, called with any script, gives True -/
def LawSays (p : Prg) (fl : Nat) (k n : Nat) : Prop := ∀ ns : List Int, ns.length ≤ n → ∃ h', callK p.gt.fl p.code k fl [.ob 0] [.fro (ns.map Z.int)] = .ok (.bl true) h'
theorem law_sp {ok : p.Ok} {f k n : Nat} (L : LawSays p f k n) (H : Hp) (a : Addr) (ns : List Int) (hl : ns.length ≤ n) (hO : Only H) (hS : SqL K H a (ns.map V.int)) :
    spOf (p.tb ok K) K (callK p.gt.fl p.code k f) [.ref a] H (fun v _ => v = .bl true) fun _ _ _ => False := by
  obtain ⟨h', e⟩ := L ns hl
  refine ⟨[a], [.fro (ns.map Z.int)], [.ob 0], ⟨rfl, fun i j q e1 e2 => ?_, fun i q o e1 e2 => ?_⟩, .cons (.ob rfl) .nil, ?_⟩
  · refine .inl ?_
    have h1 := (List.getElem?_eq_some_iff.mp e1).1
    have h2 := (List.getElem?_eq_some_iff.mp e2).1
    simp at h1 h2
    omega
  · have h1 := (List.getElem?_eq_some_iff.mp e1).1
    simp at h1
    subst h1
    simp at e1 e2
    subst e1 e2
    refine ⟨ns.map V.int, ?_, RZs.ints ns⟩
    rcases hS with (hS | ⟨o, hS⟩) | hS
    · rcases hO a with z | ⟨o, xs, z⟩
      · rw [hS] at z; cases z
      · rw [hS] at z; cases z
    · exact .inl ⟨o, hS⟩
    · exact .inr hS
  · rw [e]
    exact fun as' H' _ _ v q => q.bl_inv
end
end Zm
/-! Running the code: a small calculus of ends. -/
namespace Zm
open PySem PySem.Spec PyProof.Rows L2

def Ok {α : Type} (r : Res α) (Q : α → Mh → Prop) : Prop := match r with
  | .ok x h => Q x h
  | .stuck => False
section
variable {α β : Type} {Q Q' : α → Mh → Prop} {r : Res α}
theorem Ok_ok {x : α} {h : Mh} : Ok (.ok x h) Q = Q x h := rfl
theorem Ok_bind {Q : β → Mh → Prop} {f : α → Mh → Res β} : Ok (r.bind f) Q = Ok r (fun x h => Ok (f x h) Q) := by
  cases r <;> rfl
theorem Ok_guard {p : Prop} : Ok (guard p r) Q = (p ∧ Ok r Q) := by
  unfold guard
  split
  · rename_i hp
    exact propext ⟨fun q => ⟨hp, q⟩, fun q => q.2⟩
  · rename_i hp
    exact propext ⟨fun q => q.elim, fun q => absurd q.1 hp⟩
theorem Ok_ite {c : Bool} {a b : Res α} : Ok (if c = true then a else b) Q = if c = true then Ok a Q else Ok b Q := by
  cases c <;> rfl
theorem Ok.mono (h : Ok r Q) (k : ∀ x h, Q x h → Q' x h) : Ok r Q' := by
  cases r with
  | ok x h' => exact k x h' h
  | stuck => exact h
theorem Ok.ex (h : Ok r Q) : ∃ x h', r = .ok x h' ∧ Q x h' := by
  cases r with
  | ok x h' => exact ⟨x, h', rfl, h⟩
  | stuck => exact h.elim
theorem Ok.of_eq {x : α} {h : Mh} (e : r = .ok x h) (q : Q x h) : Ok r Q := by rw [e]; exact q
end


/-! ### what each piece of code does, one row each -/
section
variable {C : Cl} {fl : Nat → Nat → Bool} {ρ : Ev} {h : Mh}
set_option autoImplicit true
theorem r_dE_var : dE C (.var i : ME) ρ h = match ρ[i]? with
    | some (some z) => .ok z h
    | _ => .stuck := by
  first | rfl | rw [dE]
theorem r_dE_lit : dE C (.lit z : ME) ρ h = .ok z h := by
  first | rfl | rw [dE]
theorem r_dE_glb : dE C (.glb _u z : ME) ρ h = .ok z h := by
  first | rfl | rw [dE]
theorem r_dE_bin : dE C (.bin o a b : ME) ρ h = (dE C a ρ h).bind fun x h => (dE C b ρ h).bind fun y h => zBin o x y h := by
  first | rfl | rw [dE]
theorem r_dE_neg : dE C (.neg a : ME) ρ h = (dE C a ρ h).bind fun x h => zNeg x h := by
  first | rfl | rw [dE]
theorem r_dE_cmp : dE C (.cmp o a b : ME) ρ h = (dE C a ρ h).bind fun x h => (dE C b ρ h).bind fun y h => zCmp o x y h := by
  first | rfl | rw [dE]
theorem r_dE_cmp2 : dE C (.cmp2 o p a b c : ME) ρ h = (dE C a ρ h).bind fun x h => (dE C b ρ h).bind fun y h => (zCmp o x y h).bind fun k h => match k with
    | .bl true => (dE C c ρ h).bind fun z h => zCmp p y z h
    | .bl false => .ok (.bl false) h
    | _ => .stuck := by
  first | rfl | rw [dE]
theorem r_dE_and : dE C (.and a b : ME) ρ h = (dE C a ρ h).bind fun x h => (zTru x h).bind fun t h => if t then dE C b ρ h else .ok x h := by
  first | rfl | rw [dE]
theorem r_dE_or : dE C (.or a b : ME) ρ h = (dE C a ρ h).bind fun x h => (zTru x h).bind fun t h => if t then .ok x h else dE C b ρ h := by
  first | rfl | rw [dE]
theorem r_dE_not : dE C (.not a : ME) ρ h = (dE C a ρ h).bind fun x h => (zTru x h).bind fun t h => .ok (.bl (!t)) h := by
  first | rfl | rw [dE]
theorem r_dE_ite : dE C (.ite c a b : ME) ρ h = (dX C c ρ h).bind fun t h => if t then dE C a ρ h else dE C b ρ h := by
  first | rfl | rw [dE]
theorem r_dE_tup : dE C (.tup es : ME) ρ h = (dEs C es ρ h).bind fun xs h => guard (xs.length ≤ sizeLine) (.ok (.tup xs) h) := by
  first | rfl | rw [dE]
theorem r_dE_lst : dE C (.lst es : ME) ρ h = (dEs C es ρ h).bind fun xs h => guard (xs.length ≤ sizeLine) (newL h xs) := by
  first | rfl | rw [dE]
theorem r_dE_dct0 : dE C (.dct0 : ME) ρ h = .ok (.ob h.length) (h ++ [.dct []]) := by
  first | rfl | rw [dE]
theorem r_dE_idx : dE C (.idx a b : ME) ρ h = (dE C a ρ h).bind fun x h => (dE C b ρ h).bind fun y h => zIdx x y h := by
  first | rfl | rw [dE]
theorem r_dE_slc (a : ME) (lo hi : MP) : dE C (.slc a lo hi : ME) ρ h = (dE C a ρ h).bind fun x h => (dP C lo ρ h).bind fun l h => (dP C hi ρ h).bind fun u h => zSlc x l u h := by
  first | rfl | rw [dE]
theorem r_dE_fld : dE C (.fld e f : ME) ρ h = (dE C e ρ h).bind fun x h => zFld x f h := by
  first | rfl | rw [dE]
theorem r_dE_call : dE C (.call f es : ME) ρ h = (dEs C es ρ h).bind fun xs h => C f xs h := by
  first | rfl | rw [dE]
theorem r_dE_mk : dE C (.mk c f es : ME) ρ h = (dEs C es ρ h).bind fun xs h => (C f (.ob h.length :: xs) (h ++ [.ins c []])).bind fun y h' => match y with
    | .non => .ok (.ob h.length) h'
    | _ => .stuck := by
  first | rfl | rw [dE]
theorem r_dE_mth : dE C (.mth c f m o es : ME) ρ h = (dE C o ρ h).bind fun x h => match x with
    | .ob a => match h[a]? with
      | some (.ins c' fs) => guard (c' = c ∧ lookF fs m = none) ((dEs C es ρ h).bind fun xs h => C f (.ob a :: xs) h)
      | _ => .stuck
    | _ => .stuck := by
  first | rfl | rw [dE]
theorem r_dE_bf : dE C (.bf p es : ME) ρ h = (dEs C es ρ h).bind fun xs h => zBF p xs h := by
  first | rfl | rw [dE]
theorem r_dE_bm : dE C (.bm p o es : ME) ρ h = (dE C o ρ h).bind fun x h => guard (bmOk p x h) ((dEs C es ρ h).bind fun xs h => zBM p x xs h) := by
  first | rfl | rw [dE]
theorem r_dE_isT : dE C (.isT e : ME) ρ h = (dE C e ρ h).bind fun x h => match x with
    | .tup _ => .ok (.bl true) h
    | .non => .ok (.bl false) h
    | _ => .stuck := by
  first | rfl | rw [dE]
theorem r_dE_comp : dE C (.comp vs t it c e : ME) ρ h = (dI C it ρ h).bind fun w h => compL h.length w.still (tgt t) (dC C c) (dE C e) (wipeZ ρ vs) w.items (h ++ [.lst []]) := by
  first | rfl | rw [dE]
theorem r_dX_tr : dX C (.tr e : MX) ρ h = (dE C e ρ h).bind fun x h => zTru x h := by
  first | rfl | rw [dX]
theorem r_dX_and : dX C (.and a b : MX) ρ h = (dX C a ρ h).bind fun t h => if t then dX C b ρ h else .ok false h := by
  first | rfl | rw [dX]
theorem r_dX_or : dX C (.or a b : MX) ρ h = (dX C a ρ h).bind fun t h => if t then .ok true h else dX C b ρ h := by
  first | rfl | rw [dX]
theorem r_dX_not : dX C (.not a : MX) ρ h = (dX C a ρ h).bind fun t h => .ok (!t) h := by
  first | rfl | rw [dX]
theorem r_dEs_nil : dEs C (.nil : MEs) ρ h = .ok [] h := by
  first | rfl | rw [dEs]
theorem r_dEs_cons : dEs C (.cons e es : MEs) ρ h = (dE C e ρ h).bind fun x h => (dEs C es ρ h).bind fun xs h => .ok (x :: xs) h := by
  first | rfl | rw [dEs]
theorem r_dP_no : dP C (.no : MP) ρ h = .ok none h := by
  first | rfl | rw [dP]
theorem r_dP_some : dP C (.some e : MP) ρ h = (dE C e ρ h).bind fun x h => match x with
    | .int i => .ok (some i) h
    | _ => .stuck := by
  first | rfl | rw [dP]
theorem r_dC_no : dC C (.no : MC) ρ h = .ok true h := by
  first | rfl | rw [dC]
theorem r_dC_some : dC C (.some c : MC) ρ h = dX C c ρ h := by
  first | rfl | rw [dC]
theorem r_dI_seq : dI C (.seq e : MI) ρ h = (dE C e ρ h).bind fun x h => wkSeq x h := by
  first | rfl | rw [dI]
theorem r_dI_rng1 : dI C (.rng1 e : MI) ρ h = (dE C e ρ h).bind fun x h => wkRng (.int 0) x h := by
  first | rfl | rw [dI]
theorem r_dI_rng2 : dI C (.rng2 a b : MI) ρ h = (dE C a ρ h).bind fun x h => (dE C b ρ h).bind fun y h => wkRng x y h := by
  first | rfl | rw [dI]
theorem r_dI_rrng1 : dI C (.rrng1 e : MI) ρ h = (dE C e ρ h).bind fun x h => wkRev x h := by
  first | rfl | rw [dI]
theorem r_dG_nm : dG C fl (.nm i : MG) z ρ h = .ok (ρ.set i (some z)) h := by
  first | rfl | rw [dG]
theorem r_dG_tup : dG C fl (.tup is : MG) z ρ h = tgt (.tup is) z ρ h := by
  first | rfl | rw [dG]
theorem r_dG_sub : dG C fl (.sub o i : MG) z ρ h = (dE C o ρ h).bind fun x h => (dE C i ρ h).bind fun y h => (zSet x y z h).bind fun _ h => .ok ρ h := by
  first | rfl | rw [dG]
theorem r_dG_fld : dG C fl (.fld o f : MG) z ρ h = (dE C o ρ h).bind fun x h => (zSetF fl x f z h).bind fun _ h => .ok ρ h := by
  first | rfl | rw [dG]
theorem r_dS_asg : dS C fl (.asg t e : MS) ρ h = (dE C e ρ h).bind fun x h => (dG C fl t x ρ h).bind fun ρ h => .ok (.nx ρ) h := by
  first | rfl | rw [dS]
theorem r_dS_aug : dS C fl (.aug i o e : MS) ρ h = match ρ[i]? with
    | some (some x) => (dE C e ρ h).bind fun y h => (zBin o x y h).bind fun z h => .ok (.nx (ρ.set i (some z))) h
    | _ => .stuck := by
  first | rfl | rw [dS]
theorem r_dS_expr : dS C fl (.expr e : MS) ρ h = (dE C e ρ h).bind fun _ h => .ok (.nx ρ) h := by
  first | rfl | rw [dS]
theorem r_dS_ret : dS C fl (.ret e : MS) ρ h = (dE C e ρ h).bind fun x h => .ok (.ret x) h := by
  first | rfl | rw [dS]
theorem r_dS_retN : dS C fl (.retN : MS) ρ h = .ok (.ret .non) h := by
  first | rfl | rw [dS]
theorem r_dS_ite : dS C fl (.ite c a b : MS) ρ h = (dX C c ρ h).bind fun t h => if t then dSs C fl a ρ h else dSs C fl b ρ h := by
  first | rfl | rw [dS]
theorem r_dS_while : dS C fl (.while c b : MS) ρ h = whileM (dX C c) (dSs C fl b) ρ h := by
  first | rfl | rw [dS]
theorem r_dS_for : dS C fl (.for t it b : MS) ρ h = (dI C it ρ h).bind fun w h => forL w.still (tgt t) (dSs C fl b) w.items ρ h := by
  first | rfl | rw [dS]
theorem r_dS_pass : dS C fl (.pass : MS) ρ h = .ok (.nx ρ) h := by
  first | rfl | rw [dS]
theorem r_dS_brk : dS C fl (.brk : MS) ρ h = .ok (.brk ρ) h := by
  first | rfl | rw [dS]
theorem r_dS_cont : dS C fl (.cont : MS) ρ h = .ok (.cont ρ) h := by
  first | rfl | rw [dS]
theorem r_dS_never : dS C fl (.never : MS) ρ h = .stuck := by
  first | rfl | rw [dS]
theorem r_dSs_nil : dSs C fl (.nil : MSs) ρ h = .ok (.nx ρ) h := by
  first | rfl | rw [dSs]
theorem r_dSs_cons : dSs C fl (.cons s ss : MSs) ρ h = (dS C fl s ρ h).bind fun g h => match g with
    | .nx ρ => dSs C fl ss ρ h
    | .brk ρ => .ok (.brk ρ) h
    | .cont ρ => .ok (.cont ρ) h
    | .ret z => .ok (.ret z) h := by
  first | rfl | rw [dSs]
end

/-! ### the heap -/
theorem get_app {h l : Mh} {a : Nat} {o : Ob} (e : h[a]? = some o) : (h ++ l)[a]? = some o := by
  rw [List.getElem?_append_left (List.getElem?_eq_some_iff.mp e).1]
  exact e
theorem get_new {h : Mh} {o : Ob} : (h ++ [o])[h.length]? = some o := by simp
theorem get_set {h : Mh} {a : Nat} {o u : Ob} (e : h[a]? = some u) : (h.set a o)[a]? = some o := by
  rw [List.getElem?_set_self (List.getElem?_eq_some_iff.mp e).1]
theorem get_set_ne {h : Mh} {a b : Nat} {o : Ob} (n : a ≠ b) : (h.set a o)[b]? = h[b]? := List.getElem?_set_ne n
theorem lt_of_get {h : Mh} {a : Nat} {o : Ob} (e : h[a]? = some o) : a < h.length := (List.getElem?_eq_some_iff.mp e).1
theorem ne_of_get {h : Mh} {a b : Nat} {o u : Ob} (e : h[a]? = some o) (f : h[b]? = some u) (d : o ≠ u) : a ≠ b := by
  rintro rfl
  rw [e] at f
  exact d (Option.some.inj f)
/-- old objects stand as before -/
def Pre (h h' : Mh) : Prop := h <+: h'
theorem Pre.refl {h : Mh} : Pre h h := List.prefix_rfl
theorem Pre.trans {a b c : Mh} (x : Pre a b) (y : Pre b c) : Pre a c := List.IsPrefix.trans x y
theorem Pre.app {h l : Mh} : Pre h (h ++ l) := List.prefix_append _ _
theorem Pre.get {h h' : Mh} (p : Pre h h') {a : Nat} {o : Ob} (e : h[a]? = some o) : h'[a]? = some o := by
  obtain ⟨l, rfl⟩ := p
  exact get_app e
theorem Pre.len {h h' : Mh} (p : Pre h h') : h.length ≤ h'.length := List.IsPrefix.length_le p
/-- a new object is changed -/
theorem Pre.set {h h' : Mh} (p : Pre h h') {a : Nat} {o : Ob} (ha : h.length ≤ a) : Pre h (h'.set a o) := by
  obtain ⟨l, rfl⟩ := p
  rw [List.set_append_right _ _ ha]
  exact List.prefix_append _ _

/-! ### sizes -/
theorem line_eq : sizeLine = 16777216 := sizeLine_eq
theorem le_line {n : Nat} (h : n ≤ 16777216) : n ≤ sizeLine := by rw [line_eq]; exact h
theorem lt_line {n : Nat} (h : n < 16777216) : n < sizeLine := by rw [line_eq]; exact h

/-! ### operators on ints -/
theorem zAdd_int (i j : Int) (h : Mh) : zAdd (.int i) (.int j) h = .ok (.int (i + j)) h := rfl
theorem zSub_int (i j : Int) (h : Mh) : zSub (.int i) (.int j) h = .ok (.int (i - j)) h := rfl
theorem zAddI_int (i j : Int) (h : Mh) : zAddI (.int i) (.int j) h = .ok (.int (i + j)) h := rfl
theorem zMul_int (i j : Int) (h : Mh) : zMul (.int i) (.int j) h = guard (CMul i j) (.ok (.int (i * j)) h) := rfl
theorem zDiv_int (i j : Int) (h : Mh) : zDiv (.int i) (.int j) h = guard (CDivW i j) (.ok (.int (i / j)) h) := rfl
theorem zMod_int (i j : Int) (h : Mh) : zMod (.int i) (.int j) h = guard (0 < j) (.ok (.int (i % j)) h) := rfl
theorem zPow_int (i j : Int) (h : Mh) : zPow (.int i) (.int j) h = guard (CPow i j) (.ok (.int (i ^ j.toNat)) h) := rfl
theorem zNeg_int (i : Int) (h : Mh) : zNeg (.int i) h = .ok (.int (-i)) h := rfl
theorem zLt_int (i j : Int) (h : Mh) : zLt (.int i) (.int j) h = .ok (.bl (decide (i < j))) h := rfl
theorem zLe_int (i j : Int) (h : Mh) : zLe (.int i) (.int j) h = .ok (.bl (decide (i ≤ j))) h := rfl
theorem zGt_int (i j : Int) (h : Mh) : zGt (.int i) (.int j) h = .ok (.bl (decide (j < i))) h := rfl
theorem zGe_int (i j : Int) (h : Mh) : zGe (.int i) (.int j) h = .ok (.bl (decide (j ≤ i))) h := rfl
theorem shaped_int (i : Int) : SeqAt.shaped (.int i) = true := by
  simp [SeqAt.shaped, PyData.canLay0, PyData.depth]
theorem zEqB_int (i j : Int) (h : Mh) : zEqB (.int i) (.int j) h = .ok (i == j) h := by
  unfold zEqB
  simp only [pd, pdZ]
  rw [guard_pos ⟨shaped_int i, shaped_int j⟩]
  simp only [PyData.eqv]
theorem zEq_int (i j : Int) (h : Mh) : zEq (.int i) (.int j) h = .ok (.bl (decide (i = j))) h := by
  unfold zEq
  rw [zEqB_int, Res.bind_ok, Bool.beq_eq_decide_eq]
theorem zNe_int (i j : Int) (h : Mh) : zNe (.int i) (.int j) h = .ok (.bl (!decide (i = j))) h := by
  unfold zNe
  rw [zEqB_int, Res.bind_ok, Bool.beq_eq_decide_eq]
theorem zIs_non (a : Z) (h : Mh) : zIs a .non h = .ok (.bl (zIsN a)) h := rfl
theorem zIsNot_non (a : Z) (h : Mh) : zIsNot a .non h = .ok (.bl (!zIsN a)) h := rfl
theorem zTru_bl (b : Bool) (h : Mh) : zTru (.bl b) h = .ok b h := rfl
theorem zTru_int (i : Int) (h : Mh) : zTru (.int i) h = .ok (i != 0) h := rfl
theorem zTru_non (h : Mh) : zTru .non h = .ok false h := rfl
theorem zTru_tup (zs : List Z) (h : Mh) : zTru (.tup zs) h = .ok (!zs.isEmpty) h := rfl
theorem zTru_lst {a : Nat} {zs : List Z} {h : Mh} (e : h[a]? = some (.lst zs)) : zTru (.ob a) h = .ok (!zs.isEmpty) h := by
  simp only [zTru, e]
theorem zFld_ins {a c : Nat} {fs : List (Nat × Z)} {f : Nat} {h : Mh} (e : h[a]? = some (.ins c fs)) : zFld (.ob a) f h = oRes (lookF fs f) h := by
  simp only [zFld, e]
theorem zIdx_tup (zs : List Z) (j : Int) (h : Mh) : zIdx (.tup zs) (.int j) h = oRes (atI zs j) h := rfl
theorem zIdx_lst {a : Nat} {zs : List Z} {h : Mh} (e : h[a]? = some (.lst zs)) (j : Int) : zIdx (.ob a) (.int j) h = oRes (atI zs j) h := by
  simp only [zIdx, e]
theorem zIdx_fro {a : Nat} {zs : List Z} {h : Mh} (e : h[a]? = some (.fro zs)) (j : Int) : zIdx (.ob a) (.int j) h = oRes (atI zs j) h := by
  simp only [zIdx, e]
theorem zIdx_dct {a : Nat} {kvs : List (Key × Z)} {h : Mh} (e : h[a]? = some (.dct kvs)) (j : Int) : zIdx (.ob a) (.int j) h = oRes (valZ kvs (.inl j)) h := by
  simp only [zIdx, e, keyZ]
theorem CDivW_small {i j : Int} (h0 : 0 < j) (h : j < 4000000) : CDivW i j := by
  refine ⟨h0, ?_⟩
  have h1 : j.natAbs < 2 ^ 22 := by omega
  by_cases hz : j.natAbs = 0
  · omega
  · have := (Nat.log2_lt hz (k := 22)).mpr h1
    omega
theorem CMul_left {i j : Int} (h1 : -(2 ^ 64) < i) (h2 : i < 2 ^ 64) : CMul i j := .inl ⟨h1, h2⟩
theorem CMul_right {i j : Int} (h1 : -(2 ^ 64) < j) (h2 : j < 2 ^ 64) : CMul i j := .inr ⟨h1, h2⟩

/-! ### reading, built-ins -/
theorem atI_0 (x : Z) (xs : List Z) : atI (x :: xs) 0 = some x := by
  have := atI_nat (xs := x :: xs) (j := 0) (v := x) rfl
  exact this
theorem atI_1 (x y : Z) (xs : List Z) : atI (x :: y :: xs) 1 = some y := by
  have := atI_nat (xs := x :: y :: xs) (j := 1) (v := y) rfl
  exact this
theorem atI_2 (x y z : Z) (xs : List Z) : atI (x :: y :: z :: xs) 2 = some z := by
  have := atI_nat (xs := x :: y :: z :: xs) (j := 2) (v := z) rfl
  exact this
theorem atI_3 (x y z u : Z) (xs : List Z) : atI (x :: y :: z :: u :: xs) 3 = some u := by
  have := atI_nat (xs := x :: y :: z :: u :: xs) (j := 3) (v := u) rfl
  exact this
/-- a place by a number that is not negative -/
theorem atI_get {α : Type} {xs : List α} {i : Int} {v : α} (h0 : 0 ≤ i) (h : xs[i.toNat]? = some v) : atI xs i = some v := by
  have := atI_nat (xs := xs) (j := i.toNat) (v := v) h
  rwa [Int.toNat_of_nonneg h0] at this
theorem atI_end {α : Type} {xs : List α} {v : α} (h : xs.getLast? = some v) : atI xs (-1) = some v := by
  obtain ⟨ys, rfl⟩ := List.getLast?_eq_some_iff.mp h
  exact atI_last ys v
theorem ixN_get {n : Nat} {i : Int} (h0 : 0 ≤ i) (h : i < n) : ixN n i = some i.toNat := by
  unfold ixN
  rw [if_pos h0, if_pos h]
theorem oRes_some {α : Type} (x : α) (h : Mh) : oRes (some x) h = .ok x h := rfl
theorem zBF_int (i : Int) (h : Mh) : zBF .int [.int i] h = .ok (.int i) h := rfl
theorem zBF_len_lst {a : Nat} {zs : List Z} {h : Mh} (e : h[a]? = some (.lst zs)) : zBF .len [.ob a] h = .ok (.int zs.length) h := by
  simp only [zBF, e]
theorem zBF_len_fro {a : Nat} {zs : List Z} {h : Mh} (e : h[a]? = some (.fro zs)) : zBF .len [.ob a] h = .ok (.int zs.length) h := by
  simp only [zBF, e]
theorem zBF_len_tup (zs : List Z) (h : Mh) : zBF .len [.tup zs] h = .ok (.int zs.length) h := rfl
theorem zBF_tuple_lst {a : Nat} {zs : List Z} {h : Mh} (e : h[a]? = some (.lst zs)) : zBF .tuple [.ob a] h = .ok (.tup zs) h := by
  simp only [zBF, seqZ, e]
theorem zBF_list_tup (zs : List Z) (h : Mh) : zBF .list [.tup zs] h = newL h zs := rfl
theorem zBF_min (i j : Int) (h : Mh) : zBF .min [.int i, .int j] h = .ok (.int (if j < i then j else i)) h := rfl
theorem zSet_lst {a : Nat} {zs : List Z} {h : Mh} (e : h[a]? = some (.lst zs)) {k : Int} {j : Nat} (hk : ixN zs.length k = some j) (z : Z) : zSet (.ob a) (.int k) z h = .ok () (h.set a (.lst (zs.set j z))) := by
  simp only [zSet, e, hk]
theorem zSet_dct {a : Nat} {kvs : List (Key × Z)} {h : Mh} (e : h[a]? = some (.dct kvs)) (hl : kvs.length < sizeLine) (k : Int) (z : Z) : zSet (.ob a) (.int k) z h = .ok () (h.set a (.dct (putZ kvs (.inl k) z))) := by
  simp only [zSet, e, keyZ]
  exact guard_pos hl
theorem zBM_append {a : Nat} {zs : List Z} {h : Mh} (e : h[a]? = some (.lst zs)) (hl : zs.length < sizeLine) (z : Z) : zBM .append (.ob a) [z] h = .ok .non (h.set a (.lst (zs ++ [z]))) := by
  simp only [zBM, e]
  exact guard_pos hl
theorem bmOk_append {a : Nat} {zs : List Z} {h : Mh} (e : h[a]? = some (.lst zs)) : bmOk .append (.ob a) h := ⟨zs, e⟩
theorem bmOk_pop0 {a : Nat} {zs : List Z} {h : Mh} (e : h[a]? = some (.lst zs)) : bmOk .pop0 (.ob a) h := ⟨zs, e⟩
theorem zBM_pop0 {a : Nat} {zs : List Z} {z : Z} {h : Mh} (e : h[a]? = some (.lst (zs ++ [z]))) : zBM .pop0 (.ob a) [] h = .ok z (h.set a (.lst zs)) := by
  have : (zs ++ [z])[(zs ++ [z]).length - 1]? = some z := by simp
  simp only [zBM, e, this, List.dropLast_concat]
theorem bmOk_dget1 {a : Nat} {kvs : List (Key × Z)} {h : Mh} (e : h[a]? = some (.dct kvs)) : bmOk .dget1 (.ob a) h := ⟨kvs, e⟩
theorem zBM_dget1 {a : Nat} {kvs : List (Key × Z)} {h : Mh} (e : h[a]? = some (.dct kvs)) (k : Int) : zBM .dget1 (.ob a) [.int k] h = .ok ((valZ kvs (.inl k)).getD .non) h := by
  simp only [zBM, e, keyZ]
theorem newL_eq (h : Mh) (zs : List Z) : newL h zs = .ok (.ob h.length) (h ++ [.lst zs]) := rfl

/-- what stood stands, but for some objects -/
def Chg (bs : List Nat) (h h' : Mh) : Prop := h.length ≤ h'.length ∧ ∀ a o, a ∉ bs → h[a]? = some o → h'[a]? = some o
theorem Chg.refl {bs : List Nat} {h : Mh} : Chg bs h h := ⟨Nat.le_refl _, fun _ _ _ e => e⟩
theorem Chg.trans {bs : List Nat} {a b c : Mh} (x : Chg bs a b) (y : Chg bs b c) : Chg bs a c := ⟨Nat.le_trans x.1 y.1, fun p o n e => y.2 p o n (x.2 p o n e)⟩
theorem Chg.mono {bs cs : List Nat} {h h' : Mh} (x : Chg bs h h') (s : ∀ b ∈ bs, b ∈ cs) : Chg cs h h' := ⟨x.1, fun p o n e => x.2 p o (fun q => n (s p q)) e⟩
theorem Chg.app {bs : List Nat} {h l : Mh} : Chg bs h (h ++ l) := ⟨by simp, fun _ _ _ e => get_app e⟩
theorem Chg.set {bs : List Nat} {h : Mh} {a : Nat} {o : Ob} (m : a ∈ bs ∨ h.length ≤ a) : Chg bs h (h.set a o) := ⟨by simp, fun p q n e => by
  rw [get_set_ne]
  · exact e
  · rintro rfl
    rcases m with m | m
    · exact n m
    · exact absurd (lt_of_get e) (by omega)⟩
theorem Chg.of_pre {bs : List Nat} {h h' : Mh} (p : Pre h h') : Chg bs h h' := ⟨p.len, fun _ _ _ e => p.get e⟩
/-- a new object is changed -/
theorem Chg.setN {bs : List Nat} {h0 h : Mh} {a : Nat} {o : Ob} (x : Chg bs h0 h) (m : h0.length ≤ a) : Chg bs h0 (h.set a o) := ⟨by simpa using x.1, fun p q n e => by
  rw [get_set_ne]
  · exact x.2 p q n e
  · rintro rfl
    exact absurd (lt_of_get e) (by omega)⟩
theorem Chg.get {bs : List Nat} {h h' : Mh} (x : Chg bs h h') {a : Nat} {o : Ob} (n : a ∉ bs) (e : h[a]? = some o) : h'[a]? = some o := x.2 a o n e

/-! ### loops -/
theorem forL_nil {st : Mh → Prop} {t : Z → Ev → Mh → Res Ev} {b : Ev → Mh → Res Fl} {ρ : Ev} {h : Mh} (hs : st h) : forL st t b [] ρ h = .ok (.nx ρ) h := by
  rw [forL, guard_pos hs]
/-- a for by an invariant over the items done -/
theorem for_inv {st : Mh → Prop} {t : Z → Ev → Mh → Res Ev} {b : Ev → Mh → Res Fl} {Q : Fl → Mh → Prop} (I : List Z → Ev → Mh → Prop) {zs : List Z} {ρ : Ev} {h : Mh} (h0 : I [] ρ h) (hst : ∀ d ρ h, I d ρ h → st h)
    (step : ∀ d z r ρ h, zs = d ++ z :: r → I d ρ h → Ok (t z ρ h) fun ρ h => Ok (b ρ h) fun fl h => match fl with
      | .nx ρ => I (d ++ [z]) ρ h
      | .cont ρ => I (d ++ [z]) ρ h
      | .brk ρ => Q (.nx ρ) h
      | .ret z => Q (.ret z) h)
    (fin : ∀ ρ h, I zs ρ h → Q (.nx ρ) h) : Ok (forL st t b zs ρ h) Q := by
  have key : ∀ (r d : List Z) (ρ : Ev) (h : Mh), zs = d ++ r → I d ρ h → Ok (forL st t b r ρ h) Q := by
    intro r
    induction r with
    | nil =>
      intro d ρ h e i
      rw [forL_nil (hst d ρ h i), Ok_ok]
      rw [List.append_nil] at e
      rw [e] at fin
      exact fin ρ h i
    | cons z r ih =>
      intro d ρ h e i
      rw [forL, Ok_guard, Ok_bind]
      refine ⟨hst d ρ h i, (step d z r ρ h e i).mono fun ρ1 h1 q1 => ?_⟩
      rw [Ok_bind]
      refine q1.mono fun fl h2 q2 => ?_
      cases fl with
      | nx ρ2 => exact ih (d ++ [z]) ρ2 h2 (by simp [e]) q2
      | cont ρ2 => exact ih (d ++ [z]) ρ2 h2 (by simp [e]) q2
      | brk ρ2 => exact q2
      | ret z => exact q2
  exact key zs [] ρ h rfl h0
/-- enough turns -/
theorem whileM_Ok {c : Ev → Mh → Res Bool} {b : Ev → Mh → Res Fl} {ρ : Ev} {h : Mh} {Q : Fl → Mh → Prop} (n : Nat) (e : Ok (whileL c b n ρ h) Q) : Ok (whileM c b ρ h) Q := by
  obtain ⟨x, h', e1, q⟩ := e.ex
  exact Ok.of_eq (whileM_of e1) q
/-- a while by an invariant and a measure -/
theorem while_inv {c : Ev → Mh → Res Bool} {b : Ev → Mh → Res Fl} {Q : Fl → Mh → Prop} (I : Nat → Ev → Mh → Prop) {n : Nat} {ρ : Ev} {h : Mh} (h0 : I n ρ h)
    (step : ∀ m ρ h, I m ρ h → Ok (c ρ h) fun t h1 => if t then Ok (b ρ h1) fun fl h2 => (match fl with
      | .nx ρ2 => ∃ k, k < m ∧ I k ρ2 h2
      | .cont ρ2 => ∃ k, k < m ∧ I k ρ2 h2
      | .brk ρ2 => Q (.nx ρ2) h2
      | .ret z => Q (.ret z) h2) else Q (.nx ρ) h1) : Ok (whileM c b ρ h) Q := by
  have key : ∀ (n m : Nat) (ρ : Ev) (h : Mh), m < n → I m ρ h → Ok (whileL c b n ρ h) Q := by
    intro n
    induction n with
    | zero => intro m ρ h hn; omega
    | succ n ih =>
      intro m ρ h hn i
      rw [whileL, Ok_bind]
      refine (step m ρ h i).mono fun t h1 q1 => ?_
      cases t with
      | false => exact q1
      | true =>
        simp only [if_true] at q1 ⊢
        rw [Ok_bind]
        refine q1.mono fun fl h2 q2 => ?_
        cases fl with
        | nx ρ2 => obtain ⟨k, hk, q2⟩ := q2; exact ih k ρ2 h2 (by omega) q2
        | cont ρ2 => obtain ⟨k, hk, q2⟩ := q2; exact ih k ρ2 h2 (by omega) q2
        | brk ρ2 => exact q2
        | ret z => exact q2
  exact whileM_Ok (n + 1) (key (n + 1) n ρ h (Nat.lt_succ_self n) h0)
/-- for over a range -/
theorem for_rng {t : Z → Ev → Mh → Res Ev} {b : Ev → Mh → Res Fl} {Q : Fl → Mh → Prop} (I : Nat → Ev → Mh → Prop) {lo hi : Int} {ρ : Ev} {h : Mh} (b1 : -(2 ^ 62) ≤ lo ∧ lo < 2 ^ 62 ∧ -(2 ^ 62) ≤ hi ∧ hi < 2 ^ 62) (h0 : I 0 ρ h)
    (step : ∀ i ρ h, i < (hi - lo).toNat → I i ρ h → Ok (t (.int (lo + (i : Int))) ρ h) fun ρ h => Ok (b ρ h) fun fl h => match fl with
      | .nx ρ => I (i + 1) ρ h
      | .cont ρ => I (i + 1) ρ h
      | .brk ρ => Q (.nx ρ) h
      | .ret z => Q (.ret z) h)
    (fin : ∀ ρ h, I (hi - lo).toNat ρ h → Q (.nx ρ) h) : Ok (wkRng (.int lo) (.int hi) h) fun w h1 => Ok (forL w.still t b w.items ρ h1) Q := by
  show Ok (guard _ (.ok (⟨rngZ lo hi, fun _ => True⟩ : Wk) h)) _
  rw [Ok_guard, Ok_ok]
  refine And.intro b1 (for_inv (fun d ρ h => I d.length ρ h) h0 (fun _ _ _ _ => trivial) (fun d z r ρ h e i => ?_) fun ρ h i => fin ρ h ?_)
  · have hl : d.length < (hi - lo).toNat := by
      have := congrArg List.length e
      simp [rngZ] at this
      omega
    have hz : z = .int (lo + (d.length : Int)) := by
      have := congrArg (fun l => l[d.length]?) e
      simp [rngZ, hl] at this
      exact this.symm
    subst hz
    simpa using step d.length ρ h hl i
  · simpa [rngZ] using i
/-- for over a list, a tuple -/
theorem for_lst {t : Z → Ev → Mh → Res Ev} {b : Ev → Mh → Res Fl} {Q : Fl → Mh → Prop} (I : List Z → Ev → Mh → Prop) {a : Nat} {zs : List Z} {ρ : Ev} {h : Mh} (e : h[a]? = some (.lst zs)) (h0 : I [] ρ h) (hst : ∀ d ρ h, I d ρ h → h[a]? = some (.lst zs))
    (step : ∀ d z r ρ h, zs = d ++ z :: r → I d ρ h → Ok (t z ρ h) fun ρ h => Ok (b ρ h) fun fl h => match fl with
      | .nx ρ => I (d ++ [z]) ρ h
      | .cont ρ => I (d ++ [z]) ρ h
      | .brk ρ => Q (.nx ρ) h
      | .ret z => Q (.ret z) h)
    (fin : ∀ ρ h, I zs ρ h → Q (.nx ρ) h) : Ok (wkSeq (.ob a) h) fun w h1 => Ok (forL w.still t b w.items ρ h1) Q := by
  simp only [wkSeq, e, Ok_ok]
  exact for_inv I h0 hst step fin
/-- a comprehension -/
theorem comp_inv {D : Nat} {st : Mh → Prop} {t : Z → Ev → Mh → Res Ev} {c : Ev → Mh → Res Bool} {e : Ev → Mh → Res Z} {ρ : Ev} {Q : Z → Mh → Prop} (I : List Z → List Z → Mh → Prop) {zs : List Z} {h : Mh} (h0 : I [] [] h) (hst : ∀ d o h, I d o h → st h ∧ h[D]? = some (.lst o) ∧ o.length < sizeLine)
    (step : ∀ d z r o h, zs = d ++ z :: r → I d o h → Ok (t z ρ h) fun ρ1 h1 => Ok (c ρ1 h1) fun b h2 => if b then Ok (e ρ1 h2) fun y h3 => h3[D]? = some (.lst o) ∧ I (d ++ [z]) (o ++ [y]) (h3.set D (.lst (o ++ [y]))) else I (d ++ [z]) o h2)
    (fin : ∀ o h, I zs o h → Q (.ob D) h) : Ok (compL D st t c e ρ zs h) Q := by
  have key : ∀ (r d o : List Z) (h : Mh), zs = d ++ r → I d o h → Ok (compL D st t c e ρ r h) Q := by
    intro r
    induction r with
    | nil =>
      intro d o h e i
      rw [compL, Ok_guard, Ok_ok]
      rw [List.append_nil] at e
      rw [e] at fin
      exact ⟨(hst d o h i).1, fin o h i⟩
    | cons z r ih =>
      intro d o h e i
      rw [compL, Ok_guard, Ok_bind]
      refine ⟨(hst d o h i).1, (step d z r o h e i).mono fun ρ1 h1 q1 => ?_⟩
      rw [Ok_bind]
      refine q1.mono fun b h2 q2 => ?_
      cases b with
      | false => exact ih (d ++ [z]) o h2 (by simp [e]) q2
      | true =>
        simp only [if_true] at q2 ⊢
        rw [Ok_bind]
        refine q2.mono fun y h3 q3 => ?_
        rw [q3.1]
        simp only []
        rw [Ok_guard]
        exact ⟨(hst d o h i).2.2, ih (d ++ [z]) (o ++ [y]) _ (by simp [e]) q3.2⟩
  exact key zs [] [] h rfl h0
/-- comprehension over a range -/
theorem comp_rng {D : Nat} {t : Z → Ev → Mh → Res Ev} {c : Ev → Mh → Res Bool} {e : Ev → Mh → Res Z} {ρ : Ev} {Q : Z → Mh → Prop} (I : Nat → List Z → Mh → Prop) {lo hi : Int} {h : Mh} (b1 : -(2 ^ 62) ≤ lo ∧ lo < 2 ^ 62 ∧ -(2 ^ 62) ≤ hi ∧ hi < 2 ^ 62)
    (h0 : I 0 [] (h ++ [.lst []])) (hst : ∀ i o h1, I i o h1 → h1[h.length]? = some (.lst o) ∧ o.length < sizeLine)
    (step : ∀ i o h1, i < (hi - lo).toNat → I i o h1 → Ok (t (.int (lo + (i : Int))) ρ h1) fun ρ1 h1 => Ok (c ρ1 h1) fun b h2 => if b then Ok (e ρ1 h2) fun y h3 => h3[h.length]? = some (.lst o) ∧ I (i + 1) (o ++ [y]) (h3.set h.length (.lst (o ++ [y]))) else I (i + 1) o h2)
    (fin : ∀ o h1, I (hi - lo).toNat o h1 → Q (.ob h.length) h1) : Ok (wkRng (.int lo) (.int hi) h) fun w h1 => Ok (compL h1.length w.still t c e ρ w.items (h1 ++ [.lst []])) Q := by
  show Ok (guard _ (.ok (⟨rngZ lo hi, fun _ => True⟩ : Wk) h)) _
  rw [Ok_guard, Ok_ok]
  refine And.intro b1 (comp_inv (fun d o h => I d.length o h) h0 (fun d o h i => And.intro trivial (hst _ o h i)) (fun d z r o h1 e i => ?_) fun o h i => fin o h ?_)
  · have hl : d.length < (hi - lo).toNat := by
      have := congrArg List.length e
      simp [rngZ] at this
      omega
    have hz : z = .int (lo + (d.length : Int)) := by
      have := congrArg (fun l => l[d.length]?) e
      simp [rngZ, hl] at this
      exact this.symm
    subst hz
    simpa using step d.length o h1 hl i
  · simpa [rngZ] using i
noncomputable abbrev Prg.C (p : Prg) (k : Nat) : Cl := callK p.gt.fl p.code k
theorem Prg.call {p : Prg} {k f m n : Nat} {b : MSs} {zs : List Z} (e : p.code f = some ⟨m, n, b⟩) (h : Mh) (hl : zs.length = m) : p.C (k + 1) f zs h = runD (p.C k) p.gt.fl n b zs h := by
  show (match p.code f with
      | some d => guard (zs.length = d.ps) (runD (callK p.gt.fl p.code k) p.gt.fl d.n d.body zs h)
      | none => .stuck) = _
  rw [e]
  exact guard_pos hl
theorem runD_Ok {C : Cl} {fl : Nat → Nat → Bool} {n : Nat} {b : MSs} {zs : List Z} {h : Mh} {Q : Z → Mh → Prop} : Ok (runD C fl n b zs h) Q = Ok (dSs C fl b (zs.map some ++ List.replicate (n - zs.length) none) h) fun g h => match g with
  | .nx _ => Q .non h
  | .ret z => Q z h
  | _ => False := by
  unfold runD
  rw [Ok_bind]
  congr 1
  funext g h
  cases g <;> rfl
end Zm
/-! Plain data: comparing it. -/
namespace Zm
open PySem PySem.Spec PyProof.Rows L2
mutual
/-- no objects within, good texts, n deep at most -/
def plainZ : Nat → Z → Bool
  | _, .non => true
  | _, .bl _ => true
  | _, .int _ => true
  | _, .str x => PyData.strOk x
  | 0, .tup _ => false
  | n + 1, .tup zs => plainZs n zs
  | _, .ob _ => false
def plainZs : Nat → List Z → Bool
  | _, [] => true
  | n, z :: zs => plainZ n z && plainZs n zs
end
mutual
theorem plain_pd {f : Nat → Option PyData} : ∀ {n : Nat} {z : Z}, plainZ n z = true → ∃ d, pdZ f z = some d ∧ d.canLay0 = true ∧ d.depth ≤ n
  | _, .non, _ => ⟨_, rfl, by simp [PyData.canLay0], by simp [PyData.depth]⟩
  | _, .bl _, _ => ⟨_, rfl, by simp [PyData.canLay0], by simp [PyData.depth]⟩
  | _, .int _, _ => ⟨_, rfl, by simp [PyData.canLay0], by simp [PyData.depth]⟩
  | _, .str x, h => ⟨_, rfl, by simpa [PyData.canLay0, plainZ] using h, by simp [PyData.depth]⟩
  | 0, .tup zs, h => by simp [plainZ] at h
  | n + 1, .tup zs, h => by
    obtain ⟨ds, e, c, d⟩ := plain_pds (f := f) (n := n) (zs := zs) (by simpa [plainZ] using h)
    exact ⟨.tuple ds, by simp [pdZ, e], by simpa [PyData.canLay0] using c, by simpa [PyData.depth] using d⟩
  | _, .ob _, h => by simp [plainZ] at h
theorem plain_pds {f : Nat → Option PyData} : ∀ {n : Nat} {zs : List Z}, plainZs n zs = true → ∃ ds, pdZs f zs = some ds ∧ PyData.canLayAll0 ds = true ∧ PyData.depthAll ds ≤ n
  | _, [], _ => ⟨[], rfl, by simp [PyData.canLayAll0], by simp [PyData.depthAll]⟩
  | n, z :: zs, h => by
    simp only [plainZs, Bool.and_eq_true] at h
    obtain ⟨d, e1, c1, d1⟩ := plain_pd (f := f) h.1
    obtain ⟨ds, e2, c2, d2⟩ := plain_pds (f := f) h.2
    refine ⟨d :: ds, by simp [pdZs, e1, e2], by simp [PyData.canLayAll0, c1, c2], ?_⟩
    simp only [PyData.depthAll]
    omega
end
theorem zEqB_same {z : Z} {n : Nat} (h : Mh) (p : plainZ n z = true) (hn : n ≤ 60) : zEqB z z h = .ok true h := by
  obtain ⟨d, e, c, l⟩ := plain_pd (f := pdO h 3) p
  simp only [zEqB, pd, e]
  have s : SeqAt.shaped d = true := by
    simp only [SeqAt.shaped, c, Bool.true_and, decide_eq_true_eq]
    omega
  rw [guard_pos ⟨s, s⟩, SeqAt.eqv_refl d c]
theorem zEq_same {z : Z} {n : Nat} (h : Mh) (p : plainZ n z = true) (hn : n ≤ 60) : zEq z z h = .ok (.bl true) h := by
  rw [zEq, zEqB_same h p hn, Res.bind_ok]
theorem zEq_str {x y : Str} (h : Mh) (p : PyData.strOk x = true) (q : PyData.strOk y = true) : zEq (.str x) (.str y) h = .ok (.bl (x == y)) h := by
  simp [zEq, zEqB, pd, pdZ, Res.bind, guard, SeqAt.shaped, PyData.canLay0, PyData.depth, p, q, PyData.eqv]
theorem zNe_str {x y : Str} (h : Mh) (p : PyData.strOk x = true) (q : PyData.strOk y = true) : zNe (.str x) (.str y) h = .ok (.bl (!(x == y))) h := by
  simp [zNe, zEqB, pd, pdZ, Res.bind, guard, SeqAt.shaped, PyData.canLay0, PyData.depth, p, q, PyData.eqv]
theorem pd_lst {a : Nat} {zs : List Z} {ds : List PyData} {h : Mh} (e : h[a]? = some (.lst zs)) (p : pdZs (pdO h 2) zs = some ds) : pd h (.ob a) = some (.list ds) := by
  show pdO h (2 + 1) a = _
  rw [pdO, e]
  simp only [p, Option.map_some]
theorem zNe_lists {a b n : Nat} {zs : List Z} {h : Mh} (e1 : h[a]? = some (.lst zs)) (e2 : h[b]? = some (.lst zs)) (p : plainZs n zs = true) (hn : n ≤ 59) : zNe (.ob a) (.ob b) h = .ok (.bl false) h := by
  obtain ⟨ds, e, c, l⟩ := plain_pds (f := pdO h 2) p
  have s : SeqAt.shaped (.list ds) = true := by
    have e2 : PyData.depth (.list ds) ≤ 64 := by
      simp only [PyData.depth]
      omega
    simp only [SeqAt.shaped, PyData.canLay0, c, Bool.true_and, decide_eq_true_eq]
    exact e2
  have r : PyData.eqv (.list ds) (.list ds) = true := SeqAt.eqv_refl _ (by simpa [PyData.canLay0] using c)
  simp only [zNe, zEqB, pd_lst e1 e, pd_lst e2 e]
  rw [guard_pos ⟨s, s⟩, r]
  rfl
theorem pdZs_ints (f : Nat → Option PyData) : ∀ xs : List Int, pdZs f (xs.map Z.int) = some (xs.map PyData.int)
  | [] => rfl
  | x :: xs => by simp [pdZs, pdZ, pdZs_ints f xs]
theorem lay_ints : ∀ xs : List Int, PyData.canLayAll0 (xs.map PyData.int) = true
  | [] => by simp [PyData.canLayAll0]
  | x :: xs => by simp [PyData.canLayAll0, PyData.canLay0, lay_ints xs]
theorem dep_ints : ∀ xs : List Int, PyData.depthAll (xs.map PyData.int) = 0
  | [] => by simp [PyData.depthAll]
  | x :: xs => by simp [PyData.depthAll, PyData.depth, dep_ints xs]
theorem zIn_lst {a : Nat} {xs : List Int} {h : Mh} (e : h[a]? = some (.lst (xs.map Z.int))) (i : Int) : zIn (.int i) (.ob a) h = .ok (.bl (decide (i ∈ xs))) h := by
  have s : SeqAt.shaped (.list (xs.map PyData.int)) = true := by
    simp [SeqAt.shaped, PyData.canLay0, PyData.depth, lay_ints, dep_ints]
  simp only [zIn, zInB, e, zInL, pd_lst e (pdZs_ints _ _), show pd h (.int i) = some (.int i) from rfl]
  rw [guard_pos ⟨shaped_int i, s⟩, Res.bind_ok]
  congr 2
  clear e s
  induction xs with
  | nil => rfl
  | cons y ys ih =>
    rw [List.map_cons, List.any_cons, ih]
    have : PyData.eqv (.int y) (.int i) = decide (i = y) := by
      simp only [PyData.eqv, Bool.beq_eq_decide_eq]
      by_cases q : y = i
      · simp [q]
      · simp [q, Ne.symm q]
    rw [this]
    simp
theorem zNotIn_lst {a : Nat} {xs : List Int} {h : Mh} (e : h[a]? = some (.lst (xs.map Z.int))) (i : Int) : zNotIn (.int i) (.ob a) h = .ok (.bl (!decide (i ∈ xs))) h := by
  have := zIn_lst e i
  unfold zIn at this
  unfold zNotIn
  cases q : zInB (.int i) (.ob a) h with
  | stuck => rw [q] at this; cases this
  | ok b h' =>
    rw [q] at this
    cases this
    rfl

/-! ### dicts -/
theorem valZ_put (kvs : List (Key × Z)) (k j : Key) (z : Z) : valZ (putZ kvs k z) j = if j = k then some z else valZ kvs j := by
  unfold putZ
  split
  · rename_i hk
    induction kvs with
    | nil => simp at hk
    | cons kv r ih =>
      obtain ⟨g, y⟩ := kv
      by_cases hg : g = k
      · subst hg
        by_cases hj : j = g
        · subst hj
          simp [valZ]
        · have hgj : ¬ g = j := fun e => hj e.symm
          simp only [List.map_cons, if_true, if_neg hj, valZ, List.find?_cons, hgj, decide_false]
          clear ih hk
          induction r with
          | nil => rfl
          | cons kv r ih =>
            obtain ⟨g2, y2⟩ := kv
            by_cases h2 : g2 = g
            · subst h2
              simp only [List.map_cons, if_true, List.find?_cons, hgj, decide_false]
              exact ih
            · simp only [List.map_cons, if_neg h2, List.find?_cons]
              by_cases h3 : g2 = j
              · simp [h3]
              · simp only [h3, decide_false]
                exact ih
      · have hr : r.any (fun kv => decide (kv.1 = k)) = true := by simpa [hg] using hk
        have := ih hr
        simp only [List.map_cons, if_neg hg, valZ, List.find?_cons] at this ⊢
        by_cases h3 : g = j
        · subst h3
          simp [hg]
        · simp only [h3, decide_false]
          exact this
  · rename_i hk
    have hn : ∀ kv ∈ kvs, kv.1 ≠ k := by
      intro kv m e
      exact hk (List.any_eq_true.mpr ⟨kv, m, by simpa using e⟩)
    by_cases hj : j = k
    · subst hj
      rw [if_pos rfl]
      have : kvs.find? (fun kv => decide (kv.1 = j)) = none := by
        rw [List.find?_eq_none]
        intro kv m
        simpa using hn kv m
      simp [valZ, List.find?_append, this]
    · rw [if_neg hj]
      have : ¬ k = j := fun e => hj e.symm
      simp [valZ, List.find?_append, this]
theorem valZ_drop (kvs : List (Key × Z)) (k j : Key) : valZ (dropZ kvs k) j = if j = k then none else valZ kvs j := by
  unfold dropZ valZ
  induction kvs with
  | nil => simp
  | cons kv r ih =>
    obtain ⟨g, y⟩ := kv
    by_cases hg : g = k
    · subst hg
      simp only [List.filter_cons, ne_eq, not_true, decide_false, Bool.false_eq_true, if_false, ih]
      by_cases hj : j = g
      · rw [if_pos hj, if_pos hj]
      · rw [if_neg hj, if_neg hj]
        have : ¬ g = j := fun e => hj e.symm
        simp [List.find?_cons, this]
    · have : decide (g ≠ k) = true := by simpa using hg
      simp only [List.filter_cons, this, if_true, List.find?_cons]
      by_cases hj : g = j
      · subst hj
        simp [hg]
      · simp only [hj, decide_false]
        exact ih
theorem put_len (kvs : List (Key × Z)) (k : Key) (z : Z) : (putZ kvs k z).length ≤ kvs.length + 1 := by
  unfold putZ
  split
  · simp
  · simp
theorem drop_len (kvs : List (Key × Z)) (k : Key) : (dropZ kvs k).length ≤ kvs.length := List.length_filter_le _ _
/-- every key is an int -/
def IntKeys (kvs : List (Key × Z)) : Prop := ∀ kv ∈ kvs, ∃ i : Int, kv.1 = .inl i
theorem IntKeys.put {kvs : List (Key × Z)} (h : IntKeys kvs) (i : Int) (z : Z) : IntKeys (putZ kvs (.inl i) z) := by
  unfold putZ
  split
  · intro kv m
    obtain ⟨y, m2, rfl⟩ := List.mem_map.mp m
    split
    · exact h y m2
    · exact h y m2
  · intro kv m
    rcases List.mem_append.mp m with m | m
    · exact h kv m
    · simp at m
      exact ⟨i, by rw [m]⟩
theorem IntKeys.drop {kvs : List (Key × Z)} (h : IntKeys kvs) (k : Key) : IntKeys (dropZ kvs k) := fun kv m => h kv (List.mem_filter.mp m).1
theorem IntKeys.ints : ∀ {kvs : List (Key × Z)}, IntKeys kvs → ∃ is : List Int, keyInts kvs = some is ∧ kvs.map (·.1) = is.map .inl ∧ is.length = kvs.length
  | [], _ => ⟨[], rfl, rfl, rfl⟩
  | (k, z) :: r, h => by
    obtain ⟨i, e⟩ := h (k, z) (by simp)
    obtain ⟨is, e1, e2, e3⟩ := IntKeys.ints (kvs := r) (fun kv m => h kv (by simp [m]))
    cases e
    exact ⟨i :: is, by simp [keyInts, e1], by simp [e2], by simp [e3]⟩
theorem valZ_mem {kvs : List (Key × Z)} {k : Key} (m : k ∈ kvs.map (·.1)) : ∃ z, valZ kvs k = some z := by
  obtain ⟨kv, m2, rfl⟩ := List.mem_map.mp m
  have : (kvs.find? fun x => decide (x.1 = kv.1)).isSome := by
    rw [List.find?_isSome]
    exact ⟨kv, m2, by simp⟩
  obtain ⟨x, e⟩ := Option.isSome_iff_exists.mp this
  exact ⟨x.2, by simp [valZ, e]⟩
/-! ### loops by steps -/
def WhOk (c : Ev → Mh → Res Bool) (b : Ev → Mh → Res Fl) (ρ : Ev) (h : Mh) (Q : Fl → Mh → Prop) : Prop := Ok (whileM c b ρ h) Q
theorem wh_step {c : Ev → Mh → Res Bool} {b : Ev → Mh → Res Fl} {Q : Fl → Mh → Prop} {ρ : Ev} {h : Mh}
    (s : Ok (c ρ h) fun t h1 => if t then Ok (b ρ h1) fun fl h2 => (match fl with
      | .nx ρ2 => Ok (whileM c b ρ2 h2) Q
      | .cont ρ2 => Ok (whileM c b ρ2 h2) Q
      | .brk ρ2 => Q (.nx ρ2) h2
      | .ret z => Q (.ret z) h2) else Q (.nx ρ) h1) : Ok (whileM c b ρ h) Q := by
  obtain ⟨t, h1, e1, q1⟩ := s.ex
  cases t with
  | false =>
    refine whileM_Ok 1 ?_
    rw [whileL, e1, Res.bind_ok]
    exact q1
  | true =>
    simp only [if_true] at q1
    obtain ⟨fl, h2, e2, q2⟩ := q1.ex
    cases fl with
    | nx ρ2 =>
      obtain ⟨n, en⟩ := whileM_ex c b ρ2 h2
      simp only [] at q2
      rw [en] at q2
      refine whileM_Ok (n + 1) ?_
      rw [whileL, e1, Res.bind_ok]
      simp only [if_true]
      rw [e2, Res.bind_ok]
      exact q2
    | cont ρ2 =>
      obtain ⟨n, en⟩ := whileM_ex c b ρ2 h2
      simp only [] at q2
      rw [en] at q2
      refine whileM_Ok (n + 1) ?_
      rw [whileL, e1, Res.bind_ok]
      simp only [if_true]
      rw [e2, Res.bind_ok]
      exact q2
    | brk ρ2 =>
      refine whileM_Ok 1 ?_
      rw [whileL, e1, Res.bind_ok]
      simp only [if_true]
      rw [e2, Res.bind_ok]
      exact q2
    | ret z =>
      refine whileM_Ok 1 ?_
      rw [whileL, e1, Res.bind_ok]
      simp only [if_true]
      rw [e2, Res.bind_ok]
      exact q2
/-- for over a countdown -/
theorem for_rrng {t : Z → Ev → Mh → Res Ev} {b : Ev → Mh → Res Fl} {Q : Fl → Mh → Prop} (I : Nat → Ev → Mh → Prop) {n : Nat} {ρ : Ev} {h : Mh} (b1 : n < 2 ^ 62) (h0 : I n ρ h)
    (step : ∀ i ρ h, i < n → I (i + 1) ρ h → Ok (t (.int (i : Int)) ρ h) fun ρ h => Ok (b ρ h) fun fl h => match fl with
      | .nx ρ => I i ρ h
      | .cont ρ => I i ρ h
      | .brk ρ => Q (.nx ρ) h
      | .ret z => Q (.ret z) h)
    (fin : ∀ ρ h, I 0 ρ h → Q (.nx ρ) h) : Ok (wkRev (.int (n : Int)) h) fun w h1 => Ok (forL w.still t b w.items ρ h1) Q := by
  show Ok (guard _ (.ok (⟨rrngZ n, fun _ => True⟩ : Wk) h)) _
  rw [Ok_guard, Ok_ok]
  refine And.intro (by omega) (for_inv (fun d ρ h => d.length ≤ n ∧ I (n - d.length) ρ h) ⟨Nat.zero_le _, h0⟩ (fun _ _ _ _ => trivial) (fun d z r ρ h e i => ?_) fun ρ h i => fin ρ h ?_)
  · have hl : d.length < n := by
      have := congrArg List.length e
      simp [rrngZ] at this
      omega
    have hz : z = .int ((n - d.length - 1 : Nat) : Int) := by
      have := congrArg (fun l => l[d.length]?) e
      simp [rrngZ, hl] at this
      rw [← this]
      congr 1
      omega
    subst hz
    refine (step (n - d.length - 1) ρ h (by omega) (by rw [show n - d.length - 1 + 1 = n - d.length by omega]; exact i.2)).mono fun ρ1 h1 q => q.mono fun fl h2 q => ?_
    have e1 : n - (d ++ [Z.int ((n - d.length - 1 : Nat) : Int)]).length = n - d.length - 1 := by simp; omega
    have e2 : (d ++ [Z.int ((n - d.length - 1 : Nat) : Int)]).length ≤ n := by simp; omega
    cases fl with
    | nx ρ => exact ⟨e2, by rw [e1]; exact q⟩
    | cont ρ => exact ⟨e2, by rw [e1]; exact q⟩
    | brk ρ => exact q
    | ret z => exact q
  · have := i.2
    simpa [rrngZ] using this
/-- for over a tuple -/
theorem for_tup {t : Z → Ev → Mh → Res Ev} {b : Ev → Mh → Res Fl} {Q : Fl → Mh → Prop} (I : List Z → Ev → Mh → Prop) {zs : List Z} {ρ : Ev} {h : Mh} (h0 : I [] ρ h)
    (step : ∀ d z r ρ h, zs = d ++ z :: r → I d ρ h → Ok (t z ρ h) fun ρ h => Ok (b ρ h) fun fl h => match fl with
      | .nx ρ => I (d ++ [z]) ρ h
      | .cont ρ => I (d ++ [z]) ρ h
      | .brk ρ => Q (.nx ρ) h
      | .ret z => Q (.ret z) h)
    (fin : ∀ ρ h, I zs ρ h → Q (.nx ρ) h) : Ok (wkSeq (.tup zs) h) fun w h1 => Ok (forL w.still t b w.items ρ h1) Q := by
  simp only [wkSeq, Ok_ok]
  exact for_inv I h0 (fun _ _ _ _ => trivial) step fin
/-- comprehension over a list or tuple -/
theorem comp_lst {t : Z → Ev → Mh → Res Ev} {c : Ev → Mh → Res Bool} {e : Ev → Mh → Res Z} {ρ : Ev} {Q : Z → Mh → Prop} (I : List Z → List Z → Mh → Prop) {a : Nat} {zs : List Z} {h : Mh} (ha : h[a]? = some (.lst zs))
    (h0 : I [] [] (h ++ [.lst []])) (hst : ∀ d o h1, I d o h1 → h1[a]? = some (.lst zs) ∧ h1[h.length]? = some (.lst o) ∧ o.length < sizeLine)
    (step : ∀ d z r o h1, zs = d ++ z :: r → I d o h1 → Ok (t z ρ h1) fun ρ1 h1 => Ok (c ρ1 h1) fun b h2 => if b then Ok (e ρ1 h2) fun y h3 => h3[h.length]? = some (.lst o) ∧ I (d ++ [z]) (o ++ [y]) (h3.set h.length (.lst (o ++ [y]))) else I (d ++ [z]) o h2)
    (fin : ∀ o h1, I zs o h1 → Q (.ob h.length) h1) : Ok (wkSeq (.ob a) h) fun w h1 => Ok (compL h1.length w.still t c e ρ w.items (h1 ++ [.lst []])) Q := by
  simp only [wkSeq, ha, Ok_ok]
  exact comp_inv I h0 hst step fin
/-- a comprehension whose test and value are plain -/
theorem comp_pure {D : Nat} {st : Mh → Prop} {t : Z → Ev → Mh → Res Ev} {c : Ev → Mh → Res Bool} {e : Ev → Mh → Res Z} {ρ : Ev} {Q : Z → Mh → Prop} (p : Z → Bool) (g : Z → Z) {zs : List Z} {h : Mh} (hD : D = h.length) (hl : zs.length < 1000000) (hst : ∀ o, st (h ++ [.lst o]))
    (step : ∀ z, z ∈ zs → ∀ o, Ok (t z ρ (h ++ [.lst o])) fun ρ1 h1 => Ok (c ρ1 h1) fun b h2 => h2 = h ++ [.lst o] ∧ b = p z ∧ (p z = true → Ok (e ρ1 (h ++ [.lst o])) fun y h3 => y = g z ∧ h3 = h ++ [.lst o]))
    (fin : Q (.ob h.length) (h ++ [.lst ((zs.filter p).map g)])) : Ok (compL D st t c e ρ zs (h ++ [.lst []])) Q := by
  subst hD
  refine comp_inv (fun d o h1 => h1 = h ++ [.lst o] ∧ o = (d.filter p).map g ∧ d.length ≤ zs.length) ⟨rfl, rfl, Nat.zero_le _⟩ ?_ ?_ ?_
  · rintro d o h1 ⟨rfl, rfl, hd⟩
    refine ⟨hst _, by simp, ?_⟩
    rw [line_eq, List.length_map]
    have := List.length_filter_le p d
    omega
  · rintro d z r o h1 ez ⟨rfl, rfl, hd⟩
    have hzl := congrArg List.length ez
    simp only [List.length_append, List.length_cons] at hzl
    refine (step z (by rw [ez]; simp) _).mono fun ρ1 h1 q => q.mono fun b h2 q => ?_
    obtain ⟨rfl, rfl, q⟩ := q
    cases hp : p z with
    | false =>
      simp only [Bool.false_eq_true, if_false]
      exact ⟨trivial, by simp [List.filter_append, hp], by simp; omega⟩
    | true =>
      simp only [if_true]
      refine (q hp).mono fun y h3 q => ?_
      obtain ⟨rfl, rfl⟩ := q
      exact ⟨by simp, by simp, by simp [List.filter_append, hp], by simp; omega⟩
  · rintro o h1 ⟨rfl, rfl, _⟩
    exact fin
theorem cutZ_drop (xs : List Z) (n : Nat) : cutZ xs (some (n : Int)) none = xs.drop n := by
  simp only [cutZ, HT.sIx_nat, HT.sIx_none]
  by_cases h : n ≤ xs.length
  · rw [Nat.min_eq_left h, List.take_of_length_le]
    simp
  · rw [Nat.min_eq_right (by omega), List.drop_eq_nil_of_le (by omega), List.drop_eq_nil_of_le (by omega)]
    simp
theorem cutZ_take (xs : List Z) (n : Nat) : cutZ xs none (some (n : Int)) = xs.take n := by
  simp only [cutZ, HT.sIx_nat, HT.sIx_none, List.drop_zero, Nat.sub_zero]
  by_cases h : n ≤ xs.length
  · rw [Nat.min_eq_left h]
  · rw [Nat.min_eq_right (by omega), List.take_length, List.take_of_length_le (by omega)]
theorem line_0 : (0 ≤ sizeLine) = True := eq_true (le_line (by omega))
theorem line_1 : (1 ≤ sizeLine) = True := eq_true (le_line (by omega))
theorem line_2 : (2 ≤ sizeLine) = True := eq_true (le_line (by omega))
theorem line_3 : (3 ≤ sizeLine) = True := eq_true (le_line (by omega))
theorem line_4 : (4 ≤ sizeLine) = True := eq_true (le_line (by omega))
theorem line_5 : (5 ≤ sizeLine) = True := eq_true (le_line (by omega))
theorem line_6 : (6 ≤ sizeLine) = True := eq_true (le_line (by omega))
theorem line_7 : (7 ≤ sizeLine) = True := eq_true (le_line (by omega))
theorem line_8 : (8 ≤ sizeLine) = True := eq_true (le_line (by omega))
theorem line_9 : (9 ≤ sizeLine) = True := eq_true (le_line (by omega))
end Zm
-- def of the law: statement [31] of the top; 16 defs
namespace K89
open PySem PySem.Spec PyProof.Rows L2 Zm
def top (i : Nat) : Stmt := PySem.Challenge.pw_segmentfs_k89_faults_of_trees.main.body.getD i (.Pass ⟨0, 0, 0, 0⟩)
abbrev s_Layout_init : Stmt := inClass (top 12) 0
abbrev s_parts_of : Stmt := top 13
abbrev s_least_height : Stmt := top 15
abbrev s_fan_power : Stmt := top 17
abbrev s_wrong_block : Stmt := top 18
abbrev s_look_at : Stmt := top 19
abbrev s_is_least : Stmt := top 20
abbrev s_tree_fault : Stmt := top 21
abbrev s_PlainFile_init : Stmt := inClass (top 23) 0
abbrev s__law_number : Stmt := top 25
abbrev s__law_take : Stmt := top 26
abbrev s__law_keys : Stmt := top 27
abbrev s__law_tree : Stmt := top 28
abbrev s__law_bent : Stmt := top 29
abbrev s__law_twice : Stmt := top 30
abbrev s_law : Stmt := top 31
def m_Layout_init_13 : MSs := (.cons (.asg (.fld (.var 0) 1) (.bin .add (.bin .mul (.lit (.int 2)) (.fld (.var 0) 0)) (.bin .mul (.var 1) (.var 2)))) .nil)
def m_Layout_init_12 : MSs := (.cons (.asg (.fld (.var 0) 0) (.call 1 (.cons (.bin .mul (.lit (.int 2)) (.var 4)) (.cons (.var 3) .nil)))) m_Layout_init_13)
def m_Layout_init_11 : MSs := (.cons (.asg (.nm 4) (.bin .add (.bin .add (.bin .add (.bin .mul (.bin .add (.glb "SLOTS" (.int 3)) (.lit (.int 1))) (.fld (.var 0) 2)) (.glb "SLOTS" (.int 3))) (.lit (.int 3))) (.var 1))) m_Layout_init_12)
def m_Layout_init_10 : MSs := (.cons (.ite (.tr (.cmp .gt (.bin .add (.bin .add (.glb "HEAD_OCTETS" (.int 16)) (.bin .mul (.lit (.int 2)) (.fld (.var 0) 3))) (.call 1 (.cons (.fld (.var 0) 2) (.cons (.lit (.int 8)) .nil)))) (.var 3))) (.cons (.never) .nil) .nil) m_Layout_init_11)
def m_Layout_init_9 : MSs := (.cons (.asg (.fld (.var 0) 4) (.bin .div (.var 3) (.lit (.int 2)))) m_Layout_init_10)
def m_Layout_init_8 : MSs := (.cons (.asg (.fld (.var 0) 2) (.bin .add (.fld (.var 0) 5) (.fld (.var 0) 3))) m_Layout_init_9)
def m_Layout_init_7 : MSs := (.cons (.asg (.fld (.var 0) 5) (.bin .mul (.bin .sub (.var 1) (.lit (.int 2))) (.fld (.var 0) 3))) m_Layout_init_8)
def m_Layout_init_6 : MSs := (.cons (.asg (.fld (.var 0) 3) (.bin .sub (.var 2) (.lit (.int 1)))) m_Layout_init_7)
def m_Layout_init_5 : MSs := (.cons (.asg (.fld (.var 0) 6) (.var 3)) m_Layout_init_6)
def m_Layout_init_4 : MSs := (.cons (.asg (.fld (.var 0) 7) (.var 2)) m_Layout_init_5)
def m_Layout_init_3 : MSs := (.cons (.asg (.fld (.var 0) 8) (.var 1)) m_Layout_init_4)
def m_Layout_init_2 : MSs := (.cons (.ite (.tr (.cmp .notin (.var 3) (.tup (.cons (.lit (.int 64)) (.cons (.lit (.int 128)) (.cons (.lit (.int 256)) .nil)))))) (.cons (.never) .nil) .nil) m_Layout_init_3)
def m_Layout_init_1 : MSs := (.cons (.ite (.or (.tr (.cmp .lt (.var 2) (.glb "LEAST_BLOCKS" (.int 16)))) (.tr (.cmp .gt (.var 2) (.glb "MOST_BLOCKS" (.int 32))))) (.cons (.never) .nil) .nil) m_Layout_init_2)
def m_Layout_init : MSs := (.cons (.ite (.or (.tr (.cmp .lt (.var 1) (.glb "LEAST_SEGMENTS" (.int 4)))) (.tr (.cmp .gt (.var 1) (.glb "MOST_SEGMENTS" (.int 16))))) (.cons (.never) .nil) .nil) m_Layout_init_1)
def m_parts_of : MSs := (.cons (.ret (.bin .div (.bin .sub (.bin .add (.var 0) (.var 1)) (.lit (.int 1))) (.var 1))) .nil)
def m_least_height_2 : MSs := (.cons (.ret (.var 2)) .nil)
def m_least_height_1b1 : MSs := (.cons (.aug 2 .addI (.lit (.int 1))) .nil)
def m_least_height_1b0 : MSs := (.cons (.asg (.nm 1) (.bin .div (.var 1) (.fld (.var 0) 4))) m_least_height_1b1)
def m_least_height_1 : MSs := (.cons (.while (.tr (.cmp .gt (.var 1) (.lit (.int 0)))) m_least_height_1b0) m_least_height_2)
def m_least_height : MSs := (.cons (.asg (.nm 2) (.lit (.int 0))) m_least_height_1)
def m_fan_power_2 : MSs := (.cons (.ret (.var 2)) .nil)
def m_fan_power_1 : MSs := (.cons (.for (.nm 3) (.rng1 (.var 1)) (.cons (.asg (.nm 2) (.bin .mul (.var 2) (.fld (.var 0) 4))) .nil)) m_fan_power_2)
def m_fan_power : MSs := (.cons (.asg (.nm 2) (.lit (.int 1))) m_fan_power_1)
def m_wrong_block_4 : MSs := (.cons (.ret (.lit .non)) .nil)
def m_wrong_block_3 : MSs := (.cons (.ite (.not (.tr (.bf .any (.cons (.idx (.var 3) (.lit (.int 1))) .nil)))) (.cons (.ret (.tup (.cons (.lit (.str "index block without blocks")) (.cons (.var 1) .nil)))) .nil) .nil) m_wrong_block_4)
def m_wrong_block_2 : MSs := (.cons (.ite (.or (.tr (.cmp .is_ (.var 3) (.lit .non))) (.tr (.cmp .ne (.idx (.var 3) (.lit (.int 0))) (.glb "NODE" (.int 4))))) (.cons (.ret (.tup (.cons (.lit (.str "no index block")) (.cons (.var 1) .nil)))) .nil) .nil) m_wrong_block_3)
def m_wrong_block_1b1 : MSs := (.cons (.ret (.lit .non)) .nil)
def m_wrong_block_1b0 : MSs := (.cons (.ite (.or (.tr (.cmp .is_ (.var 3) (.lit .non))) (.tr (.cmp .ne (.idx (.var 3) (.lit (.int 0))) (.glb "DATA" (.int 3))))) (.cons (.ret (.tup (.cons (.lit (.str "no data block")) (.cons (.var 1) .nil)))) .nil) .nil) m_wrong_block_1b1)
def m_wrong_block_1 : MSs := (.cons (.ite (.tr (.cmp .eq (.var 2) (.lit (.int 0)))) m_wrong_block_1b0 .nil) m_wrong_block_2)
def m_wrong_block : MSs := (.cons (.asg (.nm 3) (.bm .dget1 (.var 0) (.cons (.var 1) .nil))) m_wrong_block_1)
def m_look_at_5 : MSs := (.cons (.ret (.tup (.cons (.lit .non) (.cons (.var 4) .nil)))) .nil)
def m_look_at_4b6e1b0 : MSs := (.cons (.ite (.tr (.cmp .ne (.idx (.var 10) (.var 12)) (.lit (.int 0)))) (.cons (.expr (.bm .append (.var 5) (.cons (.tup (.cons (.idx (.var 10) (.var 12)) (.cons (.bin .sub (.var 7) (.lit (.int 1))) (.cons (.bin .add (.var 8) (.bin .mul (.var 12) (.var 11))) .nil)))) .nil))) .nil) .nil) .nil)
def m_look_at_4b6e1 : MSs := (.cons (.for (.nm 12) (.rrng1 (.fld (.var 0) 4)) m_look_at_4b6e1b0) .nil)
def m_look_at_4b6e0 : MSs := (.cons (.asg (.nm 11) (.call 3 (.cons (.var 0) (.cons (.bin .sub (.var 7) (.lit (.int 1))) .nil)))) m_look_at_4b6e1)
def m_look_at_4b6 : MSs := (.cons (.ite (.tr (.cmp .eq (.var 7) (.lit (.int 0)))) (.cons (.expr (.bm .append (.var 4) (.cons (.tup (.cons (.var 8) (.cons (.var 10) .nil))) .nil))) .nil) m_look_at_4b6e0) .nil)
def m_look_at_4b5 : MSs := (.cons (.asg (.nm 10) (.idx (.idx (.var 1) (.var 6)) (.lit (.int 1)))) m_look_at_4b6)
def m_look_at_4b4 : MSs := (.cons (.ite (.tr (.cmp .isnot (.var 9) (.lit .non))) (.cons (.ret (.tup (.cons (.var 9) (.cons (.var 4) .nil)))) .nil) .nil) m_look_at_4b5)
def m_look_at_4b3 : MSs := (.cons (.asg (.nm 9) (.call 4 (.cons (.var 1) (.cons (.var 6) (.cons (.var 7) .nil))))) m_look_at_4b4)
def m_look_at_4b2 : MSs := (.cons (.expr (.bm .append (.var 3) (.cons (.var 6) .nil))) m_look_at_4b3)
def m_look_at_4b1 : MSs := (.cons (.ite (.tr (.cmp .in_ (.var 6) (.var 3))) (.cons (.ret (.tup (.cons (.tup (.cons (.lit (.str "block used twice")) (.cons (.var 6) .nil))) (.cons (.var 4) .nil)))) .nil) .nil) m_look_at_4b2)
def m_look_at_4b0 : MSs := (.cons (.asg (.tup [6, 7, 8]) (.bm .pop0 (.var 5) .nil)) m_look_at_4b1)
def m_look_at_4 : MSs := (.cons (.while (.tr (.var 5)) m_look_at_4b0) m_look_at_5)
def m_look_at_3 : MSs := (.cons (.ite (.tr (.cmp .ne (.fld (.var 2) 9) (.lit (.int 0)))) (.cons (.expr (.bm .append (.var 5) (.cons (.tup (.cons (.fld (.var 2) 9) (.cons (.fld (.var 2) 10) (.cons (.lit (.int 0)) .nil)))) .nil))) .nil) .nil) m_look_at_4)
def m_look_at_2 : MSs := (.cons (.asg (.nm 5) (.lst .nil)) m_look_at_3)
def m_look_at_1 : MSs := (.cons (.asg (.nm 4) (.lst .nil)) m_look_at_2)
def m_look_at : MSs := (.cons (.asg (.nm 3) (.lst .nil)) m_look_at_1)
def m_is_least_1 : MSs := (.cons (.ret (.cmp .eq (.fld (.var 1) 10) (.call 2 (.cons (.var 0) (.cons (.idx (.idx (.var 2) (.neg (.lit (.int 1)))) (.lit (.int 0))) .nil))))) .nil)
def m_is_least : MSs := (.cons (.ite (.not (.tr (.var 2))) (.cons (.ret (.cmp .eq (.fld (.var 1) 10) (.lit (.int 0)))) .nil) .nil) m_is_least_1)
def m_tree_fault_7 : MSs := (.cons (.ret (.lit .non)) .nil)
def m_tree_fault_6b0 : MSs := (.cons (.ite (.and (.tr (.cmp .eq (.var 7) (.bin .div (.fld (.var 2) 11) (.fld (.var 0) 6)))) (.tr (.bf .any (.cons (.slc (.var 8) (.some (.bin .mod (.fld (.var 2) 11) (.fld (.var 0) 6))) .no) .nil)))) (.cons (.ret (.tup (.cons (.lit (.str "octets behind the end")) (.cons (.fld (.var 2) 11) .nil)))) .nil) .nil) .nil)
def m_tree_fault_6 : MSs := (.cons (.for (.tup [7, 8]) (.seq (.var 4)) m_tree_fault_6b0) m_tree_fault_7)
def m_tree_fault_5 : MSs := (.cons (.ite (.tr (.var 6)) (.cons (.ret (.tup (.cons (.lit (.str "data block behind the end")) (.cons (.idx (.var 6) (.lit (.int 0))) .nil)))) .nil) .nil) m_tree_fault_6)
def m_tree_fault_4 : MSs := (.cons (.asg (.nm 6) (.comp [7, 8] (.tup [7, 8]) (.seq (.var 4)) (.some (.tr (.cmp .ge (.var 7) (.var 5)))) (.var 7))) m_tree_fault_5)
def m_tree_fault_3 : MSs := (.cons (.asg (.nm 5) (.call 1 (.cons (.fld (.var 2) 11) (.cons (.fld (.var 0) 6) .nil)))) m_tree_fault_4)
def m_tree_fault_2 : MSs := (.cons (.ite (.not (.tr (.call 6 (.cons (.var 0) (.cons (.var 2) (.cons (.var 4) .nil)))))) (.cons (.ret (.tup (.cons (.lit (.str "tree too high")) (.cons (.fld (.var 2) 9) .nil)))) .nil) .nil) m_tree_fault_3)
def m_tree_fault_1 : MSs := (.cons (.ite (.tr (.cmp .isnot (.var 3) (.lit .non))) (.cons (.ret (.var 3)) .nil) .nil) m_tree_fault_2)
def m_tree_fault : MSs := (.cons (.asg (.tup [3, 4]) (.call 5 (.cons (.var 0) (.cons (.var 1) (.cons (.var 2) .nil))))) m_tree_fault_1)
def m_PlainFile_init_2 : MSs := (.cons (.asg (.fld (.var 0) 9) (.var 3)) .nil)
def m_PlainFile_init_1 : MSs := (.cons (.asg (.fld (.var 0) 10) (.var 2)) m_PlainFile_init_2)
def m_PlainFile_init : MSs := (.cons (.asg (.fld (.var 0) 11) (.var 1)) m_PlainFile_init_1)
def m__law_number_6 : MSs := (.cons (.ret (.bin .mod (.bf .int (.cons (.bin .add (.bin .add (.bin .mul (.var 3) (.lit (.int 2147483399))) (.bin .mul (.var 4) (.lit (.int 31)))) (.var 2)) .nil)) (.lit (.int 4611686014132420609)))) .nil)
def m__law_number_5 : MSs := (.cons (.asg (.nm 4) (.bin .mod (.bf .int (.cons (.bin .add (.bin .add (.bin .mul (.bin .add (.var 3) (.lit (.int 11))) (.lit (.int 16807))) (.bin .mul (.bin .add (.var 2) (.lit (.int 1))) (.lit (.int 40692)))) (.var 1)) .nil)) (.lit (.int 2147483399)))) m__law_number_6)
def m__law_number_4 : MSs := (.cons (.asg (.nm 3) (.bin .mod (.bf .int (.cons (.bin .add (.bin .mul (.bin .add (.var 2) (.lit (.int 7))) (.lit (.int 48271))) (.bin .mul (.bin .add (.var 1) (.lit (.int 3))) (.lit (.int 69621)))) .nil)) (.lit (.int 2147483647)))) m__law_number_5)
def m__law_number_3 : MSs := (.cons (.ite (.and (.tr (.cmp .ge (.var 2) (.bin .pow (.lit (.int 10)) (.lit (.int 9))))) (.tr (.cmp .lt (.var 1) (.bf .len (.cons (.var 0) .nil))))) (.cons (.ret (.var 2)) .nil) .nil) m__law_number_4)
def m__law_number_2 : MSs := (.cons (.ite (.tr (.cmp .lt (.var 2) (.lit (.int 0)))) (.cons (.asg (.nm 2) (.bin .sub (.lit (.int 1)) (.bin .mul (.lit (.int 2)) (.var 2)))) .nil) .nil) m__law_number_3)
def m__law_number_1 : MSs := (.cons (.ite (.tr (.cmp .gt (.bf .len (.cons (.var 0) .nil)) (.lit (.int 0)))) (.cons (.asg (.nm 2) (.idx (.var 0) (.bin .mod (.bf .int (.cons (.var 1) .nil)) (.bf .len (.cons (.var 0) .nil))))) .nil) .nil) m__law_number_2)
def m__law_number : MSs := (.cons (.asg (.nm 2) (.lit (.int 0))) m__law_number_1)
def m__law_take_2 : MSs := (.cons (.ret (.var 2)) .nil)
def m__law_take_1 : MSs := (.cons (.asg (.sub (.var 0) (.lit (.int 0))) (.bin .div (.idx (.var 0) (.lit (.int 0))) (.var 1))) m__law_take_2)
def m__law_take : MSs := (.cons (.asg (.nm 2) (.bin .mod (.bf .int (.cons (.idx (.var 0) (.lit (.int 0))) .nil)) (.var 1))) m__law_take_1)
def m__law_keys_6 : MSs := (.cons (.ret (.var 5)) .nil)
def m__law_keys_5b0 : MSs := (.cons (.ite (.tr (.cmp .notin (.var 6) (.var 5))) (.cons (.expr (.bm .append (.var 5) (.cons (.var 6) .nil))) .nil) .nil) .nil)
def m__law_keys_5 : MSs := (.cons (.for (.nm 6) (.seq (.bf .sorted (.cons (.var 3) .nil))) m__law_keys_5b0) m__law_keys_6)
def m__law_keys_4 : MSs := (.cons (.asg (.nm 5) (.lst .nil)) m__law_keys_5)
def m__law_keys_3 : MSs := (.cons (.expr (.bm .append (.var 3) (.cons (.bin .sub (.var 2) (.lit (.int 1))) .nil))) m__law_keys_4)
def m__law_keys_2 : MSs := (.cons (.for (.nm 4) (.rng1 (.bin .add (.lit (.int 1)) (.call 10 (.cons (.var 0) (.cons (.lit (.int 9)) .nil))))) (.cons (.expr (.bm .append (.var 3) (.cons (.call 10 (.cons (.var 0) (.cons (.var 2) .nil))) .nil))) .nil)) m__law_keys_3)
def m__law_keys_1 : MSs := (.cons (.asg (.nm 3) (.lst .nil)) m__law_keys_2)
def m__law_keys : MSs := (.cons (.asg (.nm 2) (.idx (.lst (.cons (.lit (.int 1)) (.cons (.var 1) (.cons (.bin .mul (.var 1) (.var 1)) (.cons (.bin .mul (.bin .mul (.var 1) (.var 1)) (.var 1)) .nil))))) (.call 10 (.cons (.var 0) (.cons (.lit (.int 4)) .nil))))) m__law_keys_1)
def m__law_tree_6 : MSs := (.cons (.ret (.lst (.cons (.var 3) (.cons (.var 7) (.cons (.idx (.idx (.var 4) (.lit (.int 0))) (.lit (.int 1))) (.cons (.var 6) .nil)))))) .nil)
def m__law_tree_5b5 : MSs := (.cons (.asg (.nm 7) (.bin .add (.var 7) (.lit (.int 1)))) .nil)
def m__law_tree_5b4 : MSs := (.cons (.asg (.nm 4) (.var 8)) m__law_tree_5b5)
def m__law_tree_5b3 : MSs := (.cons (.for (.nm 5) (.rng1 (.bf .len (.cons (.var 8) .nil))) (.cons (.asg (.sub (.var 3) (.idx (.idx (.var 8) (.var 5)) (.lit (.int 1)))) (.tup (.cons (.lit (.int 4)) (.cons (.bf .tuple (.cons (.idx (.var 9) (.var 5)) .nil)) .nil)))) .nil)) m__law_tree_5b4)
def m__law_tree_5b2b2 : MSs := (.cons (.asg (.sub (.var 11) (.bin .sub (.idx (.var 10) (.lit (.int 0))) (.bin .mul (.idx (.idx (.var 8) (.neg (.lit (.int 1)))) (.lit (.int 0))) (.fld (.var 0) 4)))) (.idx (.var 10) (.lit (.int 1)))) .nil)
def m__law_tree_5b2b1 : MSs := (.cons (.asg (.nm 11) (.idx (.var 9) (.neg (.lit (.int 1))))) m__law_tree_5b2b2)
def m__law_tree_5b2b0b2 : MSs := (.cons (.asg (.nm 6) (.bin .add (.var 6) (.lit (.int 1)))) .nil)
def m__law_tree_5b2b0b1 : MSs := (.cons (.expr (.bm .append (.var 9) (.cons (.bin .mul (.lst (.cons (.lit (.int 0)) .nil)) (.fld (.var 0) 4)) .nil))) m__law_tree_5b2b0b2)
def m__law_tree_5b2b0b0 : MSs := (.cons (.expr (.bm .append (.var 8) (.cons (.tup (.cons (.bin .div (.idx (.var 10) (.lit (.int 0))) (.fld (.var 0) 4)) (.cons (.idx (.var 2) (.var 6)) .nil))) .nil))) m__law_tree_5b2b0b1)
def m__law_tree_5b2b0 : MSs := (.cons (.ite (.or (.tr (.cmp .eq (.bf .len (.cons (.var 8) .nil)) (.lit (.int 0)))) (.tr (.cmp .ne (.idx (.idx (.var 8) (.neg (.lit (.int 1)))) (.lit (.int 0))) (.bin .div (.idx (.var 10) (.lit (.int 0))) (.fld (.var 0) 4))))) m__law_tree_5b2b0b0 .nil) m__law_tree_5b2b1)
def m__law_tree_5b2 : MSs := (.cons (.for (.nm 10) (.seq (.var 4)) m__law_tree_5b2b0) m__law_tree_5b3)
def m__law_tree_5b1 : MSs := (.cons (.asg (.nm 9) (.lst .nil)) m__law_tree_5b2)
def m__law_tree_5b0 : MSs := (.cons (.asg (.nm 8) (.lst .nil)) m__law_tree_5b1)
def m__law_tree_5 : MSs := (.cons (.while (.tr (.cmp .gt (.idx (.idx (.var 4) (.neg (.lit (.int 1)))) (.lit (.int 0))) (.lit (.int 0)))) m__law_tree_5b0) m__law_tree_6)
def m__law_tree_4 : MSs := (.cons (.asg (.nm 7) (.lit (.int 0))) m__law_tree_5)
def m__law_tree_3 : MSs := (.cons (.asg (.nm 6) (.bf .len (.cons (.var 1) .nil))) m__law_tree_4)
def m__law_tree_2b1 : MSs := (.cons (.expr (.bm .append (.var 4) (.cons (.tup (.cons (.idx (.var 1) (.var 5)) (.cons (.idx (.var 2) (.var 5)) .nil))) .nil))) .nil)
def m__law_tree_2b0 : MSs := (.cons (.asg (.sub (.var 3) (.idx (.var 2) (.var 5))) (.tup (.cons (.lit (.int 3)) (.cons (.bf .tuple (.cons (.bin .mul (.lst (.cons (.bin .add (.lit (.int 1)) (.bin .mod (.bf .int (.cons (.var 5) .nil)) (.lit (.int 255)))) .nil)) (.fld (.var 0) 6)) .nil)) .nil)))) m__law_tree_2b1)
def m__law_tree_2 : MSs := (.cons (.for (.nm 5) (.rng1 (.bf .len (.cons (.var 1) .nil))) m__law_tree_2b0) m__law_tree_3)
def m__law_tree_1 : MSs := (.cons (.asg (.nm 4) (.lst .nil)) m__law_tree_2)
def m__law_tree : MSs := (.cons (.asg (.nm 3) .dct0) m__law_tree_1)
def m__law_bent_4 : MSs := (.cons (.ret (.lit (.str "no data block"))) .nil)
def m__law_bent_3 : MSs := (.cons (.ite (.tr (.var 5)) (.cons (.ret (.lit (.str "no index block"))) .nil) .nil) m__law_bent_4)
def m__law_bent_2e0e0e0b1 : MSs := (.cons (.ret (.lit (.str "index block without blocks"))) .nil)
def m__law_bent_2e0e0e0b0 : MSs := (.cons (.asg (.sub (.var 1) (.var 2)) (.tup (.cons (.lit (.int 4)) (.cons (.bf .tuple (.cons (.bin .mul (.lst (.cons (.lit (.int 0)) .nil)) (.fld (.var 0) 4)) .nil)) .nil)))) m__law_bent_2e0e0e0b1)
def m__law_bent_2e0e0e0 : MSs := (.cons (.ite (.and (.tr (.cmp .eq (.var 4) (.lit (.int 2)))) (.tr (.var 5))) m__law_bent_2e0e0e0b0 (.cons (.ret (.lit (.str ""))) .nil)) .nil)
def m__law_bent_2e0e0 : MSs := (.cons (.ite (.tr (.cmp .eq (.var 4) (.lit (.int 1)))) (.cons (.asg (.sub (.var 1) (.var 2)) (.tup (.cons (.lit (.int 4)) (.cons (.bf .tuple (.cons (.bin .mul (.lst (.cons (.var 2) .nil)) (.fld (.var 0) 4)) .nil)) .nil)))) .nil) m__law_bent_2e0e0e0) .nil)
def m__law_bent_2e0 : MSs := (.cons (.ite (.and (.tr (.cmp .eq (.var 4) (.lit (.int 1)))) (.tr (.var 5))) (.cons (.asg (.sub (.var 1) (.var 2)) (.tup (.cons (.lit (.int 3)) (.cons (.bf .tuple (.cons (.bin .mul (.lst (.cons (.lit (.int 0)) .nil)) (.fld (.var 0) 6)) .nil)) .nil)))) .nil) m__law_bent_2e0e0) .nil)
def m__law_bent_2 : MSs := (.cons (.ite (.tr (.cmp .eq (.var 4) (.lit (.int 0)))) (.cons (.expr (.bm .dpop1 (.var 1) (.cons (.var 2) .nil))) .nil) m__law_bent_2e0) m__law_bent_3)
def m__law_bent_1 : MSs := (.cons (.asg (.nm 5) (.cmp .eq (.idx (.idx (.var 1) (.var 2)) (.lit (.int 0))) (.lit (.int 4)))) m__law_bent_2)
def m__law_bent : MSs := (.cons (.asg (.nm 4) (.call 10 (.cons (.var 3) (.cons (.lit (.int 4)) .nil)))) m__law_bent_1)
def m__law_twice_7 : MSs := (.cons (.ret (.lit (.str "block used twice"))) .nil)
def m__law_twice_6 : MSs := (.cons (.asg (.sub (.var 2) (.idx (.var 1) (.lit (.int 2)))) (.tup (.cons (.lit (.int 4)) (.cons (.bf .tuple (.cons (.var 3) .nil)) .nil)))) m__law_twice_7)
def m__law_twice_5 : MSs := (.cons (.asg (.sub (.var 3) (.idx (.var 4) (.neg (.lit (.int 1))))) (.idx (.var 1) (.lit (.int 2)))) m__law_twice_6)
def m__law_twice_4 : MSs := (.cons (.ite (.tr (.cmp .eq (.bf .len (.cons (.var 4) .nil)) (.lit (.int 0)))) (.cons (.ret (.lit (.str ""))) .nil) .nil) m__law_twice_5)
def m__law_twice_3 : MSs := (.cons (.asg (.nm 4) (.comp [5] (.nm 5) (.rng1 (.fld (.var 0) 4)) (.some (.and (.tr (.cmp .eq (.idx (.var 3) (.var 5)) (.lit (.int 0)))) (.tr (.cmp .gt (.var 5) (.lit (.int 0)))))) (.var 5))) m__law_twice_4)
def m__law_twice_2 : MSs := (.cons (.asg (.nm 3) (.bf .list (.cons (.idx (.idx (.var 2) (.idx (.var 1) (.lit (.int 2)))) (.lit (.int 1))) .nil))) m__law_twice_3)
def m__law_twice_1 : MSs := (.cons (.ite (.tr (.cmp .eq (.idx (.var 1) (.lit (.int 1))) (.lit (.int 0)))) (.cons (.ret (.lit (.str ""))) .nil) .nil) m__law_twice_2)
def m__law_twice : MSs := (.cons (.asg (.nm 2) (.idx (.var 1) (.lit (.int 0)))) m__law_twice_1)
def m_law_25 : MSs := (.cons (.ret (.and (.isT (.var 18)) (.cmp .eq (.var 18) (.var 13)))) .nil)
def m_law_24 : MSs := (.cons (.ite (.tr (.cmp .is_ (.var 13) (.lit .non))) (.cons (.ret (.cmp .is_ (.var 18) (.lit .non))) .nil) .nil) m_law_25)
def m_law_23 : MSs := (.cons (.ite (.tr (.cmp .ne (.comp [15] (.nm 15) (.seq (.bf .sorted (.cons (.var 9) .nil))) .no (.tup (.cons (.var 15) (.cons (.idx (.var 9) (.var 15)) .nil)))) (.var 17))) (.cons (.ret (.lit (.bl false))) .nil) .nil) m_law_24)
def m_law_22 : MSs := (.cons (.asg (.nm 18) (.call 7 (.cons (.var 2) (.cons (.var 9) (.cons (.var 12) .nil))))) m_law_23)
def m_law_21 : MSs := (.cons (.asg (.nm 17) (.comp [15] (.nm 15) (.seq (.bf .sorted (.cons (.var 9) .nil))) .no (.tup (.cons (.var 15) (.cons (.idx (.var 9) (.var 15)) .nil))))) m_law_22)
def m_law_20b2 : MSs := (.cons (.ite (.tr (.cmp .eq (.fld (.var 12) 11) (.bin .mul (.idx (.var 4) (.neg (.lit (.int 1)))) (.var 3)))) (.cons (.asg (.nm 13) (.tup (.cons (.lit (.str "data block behind the end")) (.cons (.idx (.var 4) (.neg (.lit (.int 1)))) .nil)))) .nil) .nil) .nil)
def m_law_20b1 : MSs := (.cons (.ite (.tr (.cmp .lt (.fld (.var 12) 11) (.bin .sub (.bin .add (.bin .mul (.idx (.var 4) (.neg (.lit (.int 1)))) (.var 3)) (.var 3)) (.var 8)))) (.cons (.asg (.nm 13) (.tup (.cons (.lit (.str "octets behind the end")) (.cons (.fld (.var 12) 11) .nil)))) .nil) .nil) m_law_20b2)
def m_law_20b0 : MSs := (.cons (.asg (.nm 12) (.mk 1 8 (.cons (.bin .add (.bin .mul (.idx (.var 4) (.neg (.lit (.int 1)))) (.var 3)) (.call 10 (.cons (.var 1) (.cons (.bin .sub (.var 3) (.var 8)) .nil)))) (.cons (.idx (.var 7) (.lit (.int 1))) (.cons (.idx (.var 7) (.lit (.int 2))) .nil))))) m_law_20b1)
def m_law_20 : MSs := (.cons (.ite (.tr (.cmp .eq (.var 14) (.lit (.int 6)))) m_law_20b0 .nil) m_law_21)
def m_law_19b1 : MSs := (.cons (.asg (.nm 13) (.tup (.cons (.lit (.str "data block behind the end")) (.cons (.idx (.var 4) (.neg (.lit (.int 1)))) .nil)))) .nil)
def m_law_19b0 : MSs := (.cons (.asg (.nm 12) (.mk 1 8 (.cons (.bin .sub (.bin .mul (.idx (.var 4) (.neg (.lit (.int 1)))) (.var 3)) (.call 10 (.cons (.var 1) (.cons (.bin .add (.lit (.int 1)) (.bin .mul (.bf .min (.cons (.idx (.var 4) (.neg (.lit (.int 1)))) (.cons (.lit (.int 1)) .nil))) (.bin .sub (.var 3) (.lit (.int 1))))) .nil)))) (.cons (.idx (.var 7) (.lit (.int 1))) (.cons (.idx (.var 7) (.lit (.int 2))) .nil))))) m_law_19b1)
def m_law_19 : MSs := (.cons (.ite (.tr (.cmp .eq (.var 14) (.lit (.int 5)))) m_law_19b0 .nil) m_law_20)
def m_law_18b1 : MSs := (.cons (.asg (.nm 13) (.tup (.cons (.lit (.str "tree too high")) (.cons (.lit (.int 0)) .nil)))) .nil)
def m_law_18b0 : MSs := (.cons (.asg (.nm 12) (.mk 1 8 (.cons (.call 10 (.cons (.var 1) (.cons (.lit (.int 1000)) .nil))) (.cons (.bin .add (.lit (.int 1)) (.call 10 (.cons (.var 1) (.cons (.lit (.int 255)) .nil)))) (.cons (.lit (.int 0)) .nil))))) m_law_18b1)
def m_law_18 : MSs := (.cons (.ite (.tr (.cmp .eq (.var 14) (.lit (.int 4)))) m_law_18b0 .nil) m_law_19)
def m_law_17b2 : MSs := (.cons (.asg (.nm 13) (.tup (.cons (.lit (.str "tree too high")) (.cons (.idx (.var 6) (.lit (.int 44))) .nil)))) .nil)
def m_law_17b1 : MSs := (.cons (.asg (.nm 12) (.mk 1 8 (.cons (.var 10) (.cons (.bin .add (.idx (.var 7) (.lit (.int 1))) (.lit (.int 1))) (.cons (.idx (.var 6) (.lit (.int 44))) .nil))))) m_law_17b2)
def m_law_17b0 : MSs := (.cons (.asg (.sub (.var 9) (.idx (.var 6) (.lit (.int 44)))) (.tup (.cons (.lit (.int 4)) (.cons (.bf .tuple (.cons (.bin .add (.lst (.cons (.idx (.var 7) (.lit (.int 2))) .nil)) (.bin .mul (.lst (.cons (.lit (.int 0)) .nil)) (.bin .sub (.fld (.var 2) 4) (.lit (.int 1))))) .nil)) .nil)))) m_law_17b1)
def m_law_17 : MSs := (.cons (.ite (.tr (.cmp .eq (.var 14) (.lit (.int 3)))) m_law_17b0 .nil) m_law_18)
def m_law_16 : MSs := (.cons (.ite (.and (.tr (.cmp .eq (.var 14) (.lit (.int 2)))) (.tr (.cmp .ne (.call 14 (.cons (.var 2) (.cons (.var 7) .nil))) (.lit (.str ""))))) (.cons (.asg (.nm 13) (.tup (.cons (.lit (.str "block used twice")) (.cons (.idx (.var 7) (.lit (.int 2))) .nil)))) .nil) .nil) m_law_17)
def m_law_15b2 : MSs := (.cons (.ite (.tr (.cmp .ne (.var 16) (.lit (.str "")))) (.cons (.asg (.nm 13) (.tup (.cons (.var 16) (.cons (.var 15) .nil)))) .nil) .nil) .nil)
def m_law_15b1 : MSs := (.cons (.asg (.nm 16) (.call 13 (.cons (.var 2) (.cons (.var 9) (.cons (.var 15) (.cons (.var 1) .nil)))))) m_law_15b2)
def m_law_15b0 : MSs := (.cons (.asg (.nm 15) (.idx (.var 6) (.call 10 (.cons (.var 1) (.cons (.idx (.var 7) (.lit (.int 3))) .nil))))) m_law_15b1)
def m_law_15 : MSs := (.cons (.ite (.or (.tr (.cmp .eq (.var 14) (.lit (.int 0)))) (.tr (.cmp .eq (.var 14) (.lit (.int 1))))) m_law_15b0 .nil) m_law_16)
def m_law_14 : MSs := (.cons (.asg (.nm 14) (.call 10 (.cons (.var 1) (.cons (.lit (.int 8)) .nil)))) m_law_15)
def m_law_13 : MSs := (.cons (.asg (.nm 13) (.lit .non)) m_law_14)
def m_law_12 : MSs := (.cons (.asg (.nm 12) (.mk 1 8 (.cons (.var 10) (.cons (.idx (.var 7) (.lit (.int 1))) (.cons (.idx (.var 7) (.lit (.int 2))) .nil))))) m_law_13)
def m_law_11b1 : MSs := (.cons (.asg (.sub (.var 9) (.idx (.var 6) (.bin .sub (.bf .len (.cons (.var 4) .nil)) (.lit (.int 1))))) (.tup (.cons (.lit (.int 3)) (.cons (.bf .tuple (.cons (.bin .add (.slc (.var 11) .no (.some (.bin .sub (.var 3) (.var 8)))) (.bin .mul (.lst (.cons (.lit (.int 0)) .nil)) (.var 8))) .nil)) .nil)))) .nil)
def m_law_11b0 : MSs := (.cons (.asg (.nm 11) (.bf .list (.cons (.idx (.idx (.var 9) (.idx (.var 6) (.bin .sub (.bf .len (.cons (.var 4) .nil)) (.lit (.int 1))))) (.lit (.int 1))) .nil))) m_law_11b1)
def m_law_11 : MSs := (.cons (.ite (.tr (.cmp .gt (.var 8) (.lit (.int 0)))) m_law_11b0 .nil) m_law_12)
def m_law_10 : MSs := (.cons (.asg (.nm 10) (.bin .sub (.bin .add (.bin .mul (.idx (.var 4) (.neg (.lit (.int 1)))) (.var 3)) (.var 3)) (.var 8))) m_law_11)
def m_law_9 : MSs := (.cons (.asg (.nm 9) (.idx (.var 7) (.lit (.int 0)))) m_law_10)
def m_law_8 : MSs := (.cons (.asg (.nm 8) (.call 10 (.cons (.var 1) (.cons (.var 3) .nil)))) m_law_9)
def m_law_7 : MSs := (.cons (.asg (.nm 7) (.call 12 (.cons (.var 2) (.cons (.var 4) (.cons (.var 6) .nil))))) m_law_8)
def m_law_6 : MSs := (.cons (.asg (.nm 6) (.comp [19] (.nm 19) (.rng1 (.lit (.int 45))) .no (.bin .add (.lit (.int 1)) (.bin .mod (.bf .int (.cons (.bin .add (.bin .mul (.lit (.int 7)) (.var 19)) (.var 5)) .nil)) (.lit (.int 45)))))) m_law_7)
def m_law_5 : MSs := (.cons (.asg (.nm 5) (.call 10 (.cons (.var 1) (.cons (.lit (.int 20)) .nil)))) m_law_6)
def m_law_4 : MSs := (.cons (.asg (.nm 1) (.lst (.cons (.call 9 (.cons (.var 0) (.cons (.lit (.int 1)) .nil))) .nil))) m_law_5)
def m_law_3 : MSs := (.cons (.asg (.nm 4) (.call 11 (.cons (.var 1) (.cons (.fld (.var 2) 4) .nil)))) m_law_4)
def m_law_2 : MSs := (.cons (.asg (.nm 3) (.fld (.var 2) 6)) m_law_3)
def m_law_1 : MSs := (.cons (.asg (.nm 2) (.mk 0 0 (.cons (.lit (.int 4)) (.cons (.lit (.int 16)) (.cons (.idx (.lst (.cons (.lit (.int 64)) (.cons (.lit (.int 128)) (.cons (.lit (.int 256)) .nil)))) (.call 10 (.cons (.var 1) (.cons (.lit (.int 3)) .nil)))) .nil))))) m_law_2)
def m_law : MSs := (.cons (.asg (.nm 1) (.lst (.cons (.call 9 (.cons (.var 0) (.cons (.lit (.int 0)) .nil))) .nil))) m_law_1)
def d_Layout_init : DD := ⟨⟨("Layout", some "__init__"), "__init__", "Layout.__init__", defArgs s_Layout_init, defBody s_Layout_init, defScope s_Layout_init, [], []⟩, ["self", "segments", "segment_blocks", "block_size", "numbers"], ["self", "segments", "segment_blocks", "block_size"], ⟨4, 5, m_Layout_init⟩⟩
def d_parts_of : DD := ⟨⟨("parts_of", none), "parts_of", "parts_of", defArgs s_parts_of, defBody s_parts_of, defScope s_parts_of, [], []⟩, ["number", "size"], ["number", "size"], ⟨2, 2, m_parts_of⟩⟩
def d_least_height : DD := ⟨⟨("least_height", none), "least_height", "least_height", defArgs s_least_height, defBody s_least_height, defScope s_least_height, [], []⟩, ["layout", "number", "height"], ["layout", "number"], ⟨2, 3, m_least_height⟩⟩
def d_fan_power : DD := ⟨⟨("fan_power", none), "fan_power", "fan_power", defArgs s_fan_power, defBody s_fan_power, defScope s_fan_power, [], []⟩, ["layout", "level", "total", "_"], ["layout", "level"], ⟨2, 4, m_fan_power⟩⟩
def d_wrong_block : DD := ⟨⟨("wrong_block", none), "wrong_block", "wrong_block", defArgs s_wrong_block, defBody s_wrong_block, defScope s_wrong_block, [], []⟩, ["blocks", "ident", "level", "payload"], ["blocks", "ident", "level"], ⟨3, 4, m_wrong_block⟩⟩
def d_look_at : DD := ⟨⟨("look_at", none), "look_at", "look_at", defArgs s_look_at, defBody s_look_at, defScope s_look_at, [], []⟩, ["layout", "blocks", "file", "seen", "rows", "stack", "ident", "level", "first", "wrong", "body", "step", "k"], ["layout", "blocks", "file"], ⟨3, 13, m_look_at⟩⟩
def d_is_least : DD := ⟨⟨("is_least", none), "is_least", "is_least", defArgs s_is_least, defBody s_is_least, defScope s_is_least, [], []⟩, ["layout", "file", "rows"], ["layout", "file", "rows"], ⟨3, 3, m_is_least⟩⟩
def d_tree_fault : DD := ⟨⟨("tree_fault", none), "tree_fault", "tree_fault", defArgs s_tree_fault, defBody s_tree_fault, defScope s_tree_fault, [], []⟩, ["layout", "blocks", "file", "wrong", "rows", "end", "late", "number", "body"], ["layout", "blocks", "file"], ⟨3, 9, m_tree_fault⟩⟩
def d_PlainFile_init : DD := ⟨⟨("PlainFile", some "__init__"), "__init__", "PlainFile.__init__", defArgs s_PlainFile_init, defBody s_PlainFile_init, defScope s_PlainFile_init, [.int 0, .int 0, .int 0], []⟩, ["self", "size", "height", "root"], ["self", "size", "height", "root"], ⟨4, 4, m_PlainFile_init⟩⟩
def d__law_number : DD := ⟨⟨("_law_number", none), "_law_number", "_law_number", defArgs s__law_number, defBody s__law_number, defScope s__law_number, [], []⟩, ["_law_script", "_law_k", "_law_cell", "_law_first", "_law_second"], ["_law_script", "_law_k"], ⟨2, 5, m__law_number⟩⟩
def d__law_take : DD := ⟨⟨("_law_take", none), "_law_take", "_law_take", defArgs s__law_take, defBody s__law_take, defScope s__law_take, [], []⟩, ["_law_box", "_law_size", "_law_digit"], ["_law_box", "_law_size"], ⟨2, 3, m__law_take⟩⟩
def d__law_keys : DD := ⟨⟨("_law_keys", none), "_law_keys", "_law_keys", defArgs s__law_keys, defBody s__law_keys, defScope s__law_keys, [], []⟩, ["_law_box", "_law_fan", "_law_bound", "_law_keys_here", "_law_k", "_law_found", "_law_key"], ["_law_box", "_law_fan"], ⟨2, 7, m__law_keys⟩⟩
def d__law_tree : DD := ⟨⟨("_law_tree", none), "_law_tree", "_law_tree", defArgs s__law_tree, defBody s__law_tree, defScope s__law_tree, [], []⟩, ["_law_layout", "_law_keys_here", "_law_ids", "_law_blocks", "_law_level", "_law_k", "_law_at", "_law_height", "_law_upper", "_law_rows", "_law_pair", "_law_row"], ["_law_layout", "_law_keys_here", "_law_ids"], ⟨3, 12, m__law_tree⟩⟩
def d__law_bent : DD := ⟨⟨("_law_bent", none), "_law_bent", "_law_bent", defArgs s__law_bent, defBody s__law_bent, defScope s__law_bent, [], []⟩, ["_law_layout", "_law_blocks", "_law_ident", "_law_box", "_law_kind", "_law_node"], ["_law_layout", "_law_blocks", "_law_ident", "_law_box"], ⟨4, 6, m__law_bent⟩⟩
def d__law_twice : DD := ⟨⟨("_law_twice", none), "_law_twice", "_law_twice", defArgs s__law_twice, defBody s__law_twice, defScope s__law_twice, [], []⟩, ["_law_layout", "_law_tree_here", "_law_blocks", "_law_root", "_law_free", "_law_k"], ["_law_layout", "_law_tree_here"], ⟨2, 6, m__law_twice⟩⟩
def d_law : DD := ⟨⟨("law", none), "law", "law", defArgs s_law, defBody s_law, defScope s_law, [], []⟩, ["_law_script", "_law_box", "_law_layout", "_law_size", "_law_keys_here", "_law_shift", "_law_ids", "_law_tree_here", "_law_rest", "_law_blocks", "_law_length", "_law_tail", "_law_file", "_law_due", "_law_kind", "_law_ident", "_law_told", "_law_given", "_law_actual", "_law_k"], ["_law_script"], ⟨1, 20, m_law⟩⟩
def defs : List DD := [d_Layout_init, d_parts_of, d_least_height, d_fan_power, d_wrong_block, d_look_at, d_is_least, d_tree_fault, d_PlainFile_init, d__law_number, d__law_take, d__law_keys, d__law_tree, d__law_bent, d__law_twice, d_law]
def prg : Prg := ⟨defs, [("DATA", 3), ("NODE", 4), ("LEAST_SEGMENTS", 4), ("MOST_SEGMENTS", 16), ("LEAST_BLOCKS", 16), ("MOST_BLOCKS", 32), ("HEAD_OCTETS", 16), ("SLOTS", 3)], ["range", "any", "reversed", "int", "len", "sorted", "tuple", "list", "isinstance", "min"], ["Layout", "PlainFile"], ["region_blocks", "device_blocks", "last_id", "payload", "fan", "limit", "block_size", "segment_blocks", "segments", "root", "height", "size"], [(0, 8), (0, 7), (0, 6), (0, 3), (0, 5), (0, 2), (0, 4), (0, 0), (0, 1), (1, 11), (1, 10), (1, 9)]⟩
theorem b_Layout_init : BindOk d_Layout_init := fun _ _ _ F => F.bindsN fun _ _ _ _ _ _ us hl => match us, hl with | [_, _, _, _], _ => rfl
theorem b_parts_of : BindOk d_parts_of := fun _ _ _ F => F.bindsN fun _ _ _ _ _ _ us hl => match us, hl with | [_, _], _ => rfl
theorem b_least_height : BindOk d_least_height := fun _ _ _ F => F.bindsN fun _ _ _ _ _ _ us hl => match us, hl with | [_, _], _ => rfl
theorem b_fan_power : BindOk d_fan_power := fun _ _ _ F => F.bindsN fun _ _ _ _ _ _ us hl => match us, hl with | [_, _], _ => rfl
theorem b_wrong_block : BindOk d_wrong_block := fun _ _ _ F => F.bindsN fun _ _ _ _ _ _ us hl => match us, hl with | [_, _, _], _ => rfl
theorem b_look_at : BindOk d_look_at := fun _ _ _ F => F.bindsN fun _ _ _ _ _ _ us hl => match us, hl with | [_, _, _], _ => rfl
theorem b_is_least : BindOk d_is_least := fun _ _ _ F => F.bindsN fun _ _ _ _ _ _ us hl => match us, hl with | [_, _, _], _ => rfl
theorem b_tree_fault : BindOk d_tree_fault := fun _ _ _ F => F.bindsN fun _ _ _ _ _ _ us hl => match us, hl with | [_, _, _], _ => rfl
theorem b_PlainFile_init : BindOk d_PlainFile_init := fun K f fd F => by
  obtain ⟨ds, hv, hb⟩ := F.binds1 (ps := d_PlainFile_init.ps) 4 3 (List.cons_ne_nil _ _) rfl fun T kV doc pm an cdv ct us its hl hi => match us, hl, its, hi with | [_, _, _, _], _, [_, _, _], _ => ⟨_, rfl, rfl⟩
  cases hv
  exact hb
theorem b__law_number : BindOk d__law_number := fun _ _ _ F => F.bindsN fun _ _ _ _ _ _ us hl => match us, hl with | [_, _], _ => rfl
theorem b__law_take : BindOk d__law_take := fun _ _ _ F => F.bindsN fun _ _ _ _ _ _ us hl => match us, hl with | [_, _], _ => rfl
theorem b__law_keys : BindOk d__law_keys := fun _ _ _ F => F.bindsN fun _ _ _ _ _ _ us hl => match us, hl with | [_, _], _ => rfl
theorem b__law_tree : BindOk d__law_tree := fun _ _ _ F => F.bindsN fun _ _ _ _ _ _ us hl => match us, hl with | [_, _, _], _ => rfl
theorem b__law_bent : BindOk d__law_bent := fun _ _ _ F => F.bindsN fun _ _ _ _ _ _ us hl => match us, hl with | [_, _, _, _], _ => rfl
theorem b__law_twice : BindOk d__law_twice := fun _ _ _ F => F.bindsN fun _ _ _ _ _ _ us hl => match us, hl with | [_, _], _ => rfl
theorem b_law : BindOk d_law := fun _ _ _ F => F.bindsN fun _ _ _ _ _ _ us hl => match us, hl with | [_], _ => rfl
theorem binds : ∀ d ∈ prg.defs, BindOk d := by
  show ∀ d ∈ defs, BindOk d
  unfold defs
  exact List.forall_mem_cons.mpr ⟨b_Layout_init, List.forall_mem_cons.mpr ⟨b_parts_of, List.forall_mem_cons.mpr ⟨b_least_height, List.forall_mem_cons.mpr ⟨b_fan_power, List.forall_mem_cons.mpr ⟨b_wrong_block, List.forall_mem_cons.mpr ⟨b_look_at, List.forall_mem_cons.mpr ⟨b_is_least, List.forall_mem_cons.mpr ⟨b_tree_fault, List.forall_mem_cons.mpr ⟨b_PlainFile_init, List.forall_mem_cons.mpr ⟨b__law_number, List.forall_mem_cons.mpr ⟨b__law_take, List.forall_mem_cons.mpr ⟨b__law_keys, List.forall_mem_cons.mpr ⟨b__law_tree, List.forall_mem_cons.mpr ⟨b__law_bent, List.forall_mem_cons.mpr ⟨b__law_twice, List.forall_mem_cons.mpr ⟨b_law, List.forall_mem_nil _⟩⟩⟩⟩⟩⟩⟩⟩⟩⟩⟩⟩⟩⟩⟩⟩
theorem k_Layout_init : DD.ok prg.gt d_Layout_init = true := by decide +kernel
theorem k_parts_of : DD.ok prg.gt d_parts_of = true := by decide +kernel
theorem k_least_height : DD.ok prg.gt d_least_height = true := by decide +kernel
theorem k_fan_power : DD.ok prg.gt d_fan_power = true := by decide +kernel
theorem k_wrong_block : DD.ok prg.gt d_wrong_block = true := by decide +kernel
theorem k_look_at : DD.ok prg.gt d_look_at = true := by decide +kernel
theorem k_is_least : DD.ok prg.gt d_is_least = true := by decide +kernel
theorem k_tree_fault : DD.ok prg.gt d_tree_fault = true := by decide +kernel
theorem k_PlainFile_init : DD.ok prg.gt d_PlainFile_init = true := by decide +kernel
theorem k__law_number : DD.ok prg.gt d__law_number = true := by decide +kernel
theorem k__law_take : DD.ok prg.gt d__law_take = true := by decide +kernel
theorem k__law_keys : DD.ok prg.gt d__law_keys = true := by decide +kernel
theorem k__law_tree : DD.ok prg.gt d__law_tree = true := by decide +kernel
theorem k__law_bent : DD.ok prg.gt d__law_bent = true := by decide +kernel
theorem k__law_twice : DD.ok prg.gt d__law_twice = true := by decide +kernel
theorem k_law : DD.ok prg.gt d_law = true := by decide +kernel
theorem oks : prg.defs.all (DD.ok prg.gt) = true := by
  show defs.all _ = true
  unfold defs
  simp only [List.all_cons, List.all_nil, Bool.and_true, k_Layout_init, k_parts_of, k_least_height, k_fan_power, k_wrong_block, k_look_at, k_is_least, k_tree_fault, k_PlainFile_init, k__law_number, k__law_take, k__law_keys, k__law_tree, k__law_bent, k__law_twice, k_law, Bool.and_self]
theorem ok : prg.Ok := ⟨oks, by decide +kernel, by decide +kernel, binds⟩
abbrev iLaw : Nat := 15
abbrev f_Layout_init : Nat := 0
abbrev f_parts_of : Nat := 1
abbrev f_least_height : Nat := 2
abbrev f_fan_power : Nat := 3
abbrev f_wrong_block : Nat := 4
abbrev f_look_at : Nat := 5
abbrev f_is_least : Nat := 6
abbrev f_tree_fault : Nat := 7
abbrev f_PlainFile_init : Nat := 8
abbrev f__law_number : Nat := 9
abbrev f__law_take : Nat := 10
abbrev f__law_keys : Nat := 11
abbrev f__law_tree : Nat := 12
abbrev f__law_bent : Nat := 13
abbrev f__law_twice : Nat := 14
abbrev f_law : Nat := 15
abbrev a_region_blocks : Nat := 0
abbrev a_device_blocks : Nat := 1
abbrev a_last_id : Nat := 2
abbrev a_payload : Nat := 3
abbrev a_fan : Nat := 4
abbrev a_limit : Nat := 5
abbrev a_block_size : Nat := 6
abbrev a_segment_blocks : Nat := 7
abbrev a_segments : Nat := 8
abbrev a_root : Nat := 9
abbrev a_height : Nat := 10
abbrev a_size : Nat := 11
end K89
/-! Trees of blocks, in plain Lean. -/
namespace K89
open PySem PySem.Spec PyProof.Rows L2 Zm
abbrev Row := Int × List Int
abbrev Blk := Int → Option (Int × List Int)
inductive Out where
  | bad (m : Str) (i : Int)
  | go (seen : List Int) (rows : List Row)
def wrong (D : Blk) (id : Int) (l : Nat) : Option Str := match D id with
  | none => if l = 0 then some "no data block" else some "no index block"
  | some (k, b) => if l = 0 then (if k = 3 then none else some "no data block") else if k = 4 then (if b.any (fun x => x != 0) then none else some "index block without blocks") else some "no index block"
def bodyD (D : Blk) (id : Int) : List Int := match D id with
  | some (_, b) => b
  | none => []
/-- the children: id and first number -/
def kids (step first : Int) : Nat → List Int → List (Int × Int)
  | _, [] => []
  | k, x :: xs => if x = 0 then kids step first (k + 1) xs else (x, first + k * step) :: kids step first (k + 1) xs
def visits (f : Int → Int → List Int → List Row → Out) : List (Int × Int) → List Int → List Row → Out
  | [], seen, rows => .go seen rows
  | (id, first) :: cs, seen, rows => match f id first seen rows with
    | .bad m i => .bad m i
    | .go s r => visits f cs s r
def visit (D : Blk) (F : Nat) : Nat → Int → Int → List Int → List Row → Out
  | 0, id, first, seen, rows => if id ∈ seen then .bad "block used twice" id else match wrong D id 0 with
    | some m => .bad m id
    | none => .go (seen ++ [id]) (rows ++ [(first, bodyD D id)])
  | l + 1, id, first, seen, rows => if id ∈ seen then .bad "block used twice" id else match wrong D id (l + 1) with
    | some m => .bad m id
    | none => visits (visit D F l) (kids ((F : Int) ^ l) first 0 (bodyD D id)) (seen ++ [id]) rows
def GoodL (g : Int → Int → List Int → List Row → Prop) : Int → List Int → List Int → List Row → Prop
  | _, [], is, rs => is = [] ∧ rs = []
  | q, x :: xs, is, rs => (x = 0 ∧ GoodL g (q + 1) xs is rs) ∨ (x ≠ 0 ∧ ∃ i1 r1 i2 r2, g q x i1 r1 ∧ GoodL g (q + 1) xs i2 r2 ∧ is = i1 ++ i2 ∧ rs = r1 ++ r2)
def Good (D : Blk) (F : Nat) : Nat → Int → Int → List Int → List Row → Prop
  | 0, p, id, is, rs => ∃ b, D id = some (3, b) ∧ is = [id] ∧ rs = [(p, b)]
  | j + 1, p, id, is, rs => ∃ b is', D id = some (4, b) ∧ b.length = F ∧ b.any (fun x => x != 0) = true ∧ is = id :: is' ∧ GoodL (Good D F j) (p * F) b is' rs
theorem good_mono {D E : Blk} {F : Nat} : ∀ {j : Nat} {p id : Int} {is : List Int} {rs : List Row}, Good D F j p id is rs → (∀ i ∈ is, E i = D i) → Good E F j p id is rs := by
  intro j
  induction j with
  | zero =>
    rintro p id is rs ⟨b, e1, rfl, rfl⟩ m
    exact ⟨b, by rw [m id (by simp), e1], rfl, rfl⟩
  | succ j ih =>
    rintro p id is rs ⟨b, is', e1, e2, e3, rfl, g⟩ m
    refine ⟨b, is', by rw [m id (by simp), e1], e2, e3, rfl, ?_⟩
    have m' : ∀ i ∈ is', E i = D i := fun i h => m i (by simp [h])
    clear m e1 e2 e3
    generalize p * (F : Int) = q at g ⊢
    induction b generalizing q is' rs with
    | nil => exact g
    | cons x xs ihb =>
      rcases g with ⟨hx, g⟩ | ⟨hx, i1, r1, i2, r2, g1, g2, rfl, rfl⟩
      · exact .inl ⟨hx, ihb _ m' _ g⟩
      · exact .inr ⟨hx, i1, r1, i2, r2, ih g1 (fun i h => m' i (by simp [h])), ihb _ (fun i h => m' i (by simp [h])) _ g2, rfl, rfl⟩
theorem goodL_mono {D E : Blk} {F j : Nat} : ∀ {b : List Int} {q : Int} {is : List Int} {rs : List Row}, GoodL (Good D F j) q b is rs → (∀ i ∈ is, E i = D i) → GoodL (Good E F j) q b is rs := by
  intro b
  induction b with
  | nil => intro q is rs g m; exact g
  | cons x xs ihb =>
    intro q is rs g m
    rcases g with ⟨hx, g⟩ | ⟨hx, i1, r1, i2, r2, g1, g2, rfl, rfl⟩
    · exact .inl ⟨hx, ihb g m⟩
    · exact .inr ⟨hx, i1, r1, i2, r2, good_mono g1 (fun i h => m i (by simp [h])), ihb g2 (fun i h => m i (by simp [h])), rfl, rfl⟩
theorem first_eq (p : Int) (F j k : Nat) : p * (F : Int) ^ (j + 1) + (k : Int) * (F : Int) ^ j = (p * F + k) * (F : Int) ^ j := by
  rw [Int.pow_succ, Int.add_mul, Int.mul_comm ((F : Int) ^ j) F, ← Int.mul_assoc]
def visL_good {D : Blk} {F j : Nat} (ih : ∀ {p id : Int} {is : List Int} {rs : List Row} (seen : List Int) (rows : List Row), Good D F j p id is rs → is.Nodup → (∀ i ∈ is, i ∉ seen) → visit D F j id (p * (F : Int) ^ j) seen rows = .go (seen ++ is) (rows ++ rs)) (p : Int) :
    ∀ (b : List Int) (k : Nat) (is : List Int) (rs : List Row) (seen : List Int) (rows : List Row), GoodL (Good D F j) (p * F + k) b is rs → is.Nodup → (∀ i ∈ is, i ∉ seen) → visits (visit D F j) (kids ((F : Int) ^ j) (p * (F : Int) ^ (j + 1)) k b) seen rows = .go (seen ++ is) (rows ++ rs) := by
  intro b
  induction b with
  | nil =>
    rintro k is rs seen rows ⟨rfl, rfl⟩ _ _
    simp [kids, visits]
  | cons x xs ihb =>
    intro k is rs seen rows g nd dj
    rcases g with ⟨hx, g⟩ | ⟨hx, i1, r1, i2, r2, g1, g2, rfl, rfl⟩
    · rw [kids, if_pos hx]
      exact ihb (k + 1) is rs seen rows (by rw [show p * (F : Int) + ((k + 1 : Nat) : Int) = p * F + k + 1 by omega]; exact g) nd dj
    · rw [kids, if_neg hx, visits, first_eq, ih seen rows g1 (List.nodup_append.mp nd).1 (fun i h => dj i (by simp [h]))]
      simp only []
      rw [ihb (k + 1) i2 r2 (seen ++ i1) (rows ++ r1) (by rw [show p * (F : Int) + ((k + 1 : Nat) : Int) = p * F + k + 1 by omega]; exact g2) (List.nodup_append.mp nd).2.1]
      · simp
      · intro i h
        rw [List.mem_append]
        rintro (m | m)
        · exact dj i (by simp [h]) m
        · exact (List.nodup_append.mp nd).2.2 i m i h rfl
theorem wrong_leaf {D : Blk} {id : Int} {b : List Int} (e : D id = some (3, b)) : wrong D id 0 = none := by simp [wrong, e]
theorem wrong_node {D : Blk} {id : Int} {b : List Int} {l : Nat} (e : D id = some (4, b)) (a : b.any (fun x => x != 0) = true) : wrong D id (l + 1) = none := by
  simp only [wrong, e]
  simp [a]
theorem visit_good {D : Blk} {F : Nat} : ∀ (j : Nat) {p id : Int} {is : List Int} {rs : List Row} (seen : List Int) (rows : List Row), Good D F j p id is rs → is.Nodup → (∀ i ∈ is, i ∉ seen) → visit D F j id (p * (F : Int) ^ j) seen rows = .go (seen ++ is) (rows ++ rs) := by
  intro j
  induction j with
  | zero =>
    rintro p id is rs seen rows ⟨b, e, rfl, rfl⟩ _ dj
    rw [visit, if_neg (dj id (by simp)), wrong_leaf e]
    simp [bodyD, e]
  | succ j ih =>
    rintro p id is rs seen rows ⟨b, is', e, e2, e3, rfl, g⟩ nd dj
    rw [visit, if_neg (dj id (by simp)), wrong_node e e3]
    simp only [bodyD, e]
    have nd' := List.nodup_cons.mp nd
    have := visL_good ih p b 0 is' rs (seen ++ [id]) rows (by simpa using g) nd'.2 (by
      intro i h
      rw [List.mem_append]
      rintro (m | m)
      · exact dj i (by simp [h]) m
      · simp at m
        subst m
        exact nd'.1 h)
    rw [this]
    simp
/-- a block is bent: it is told, when it is reached -/
theorem visit_bent {D E : Blk} {F : Nat} {x : Int} {m : Str} (same : ∀ i, i ≠ x → E i = D i) (w0 : ∀ b, D x = some (3, b) → wrong E x 0 = some m) (w1 : ∀ b, D x = some (4, b) → ∀ l, wrong E x (l + 1) = some m) :
    ∀ (j : Nat) {p id : Int} {is : List Int} {rs : List Row} (seen : List Int) (rows : List Row), Good D F j p id is rs → is.Nodup → (∀ i ∈ is, i ∉ seen) → x ∈ is → visit E F j id (p * (F : Int) ^ j) seen rows = .bad m x := by
  intro j
  induction j with
  | zero =>
    rintro p id is rs seen rows ⟨b, e, rfl, rfl⟩ _ dj mx
    simp at mx
    subst mx
    rw [visit, if_neg (dj x (by simp)), w0 b e]
  | succ j ih =>
    rintro p id is rs seen rows ⟨b, is', e, e2, e3, rfl, g⟩ nd dj mx
    have nd' := List.nodup_cons.mp nd
    rw [visit, if_neg (dj id (by simp))]
    by_cases hx : id = x
    · subst hx
      rw [w1 b e j]
    · have hm : x ∈ is' := by
        rcases List.mem_cons.mp mx with m | m
        · exact absurd m.symm hx
        · exact m
      have eE : E id = some (4, b) := by rw [same id hx, e]
      rw [wrong_node eE e3]
      simp only [bodyD, eE]
      have dj' : ∀ i ∈ is', i ∉ seen ++ [id] := by
        intro i h
        rw [List.mem_append]
        rintro (m | m)
        · exact dj i (by simp [h]) m
        · simp at m
          subst m
          exact nd'.1 h
      have key : ∀ (b : List Int) (k : Nat) (is : List Int) (rs : List Row) (seen : List Int) (rows : List Row), GoodL (Good D F j) (p * F + k) b is rs → is.Nodup → (∀ i ∈ is, i ∉ seen) → x ∈ is → visits (visit E F j) (kids ((F : Int) ^ j) (p * (F : Int) ^ (j + 1)) k b) seen rows = .bad m x := by
        intro b
        induction b with
        | nil =>
          rintro k is rs seen rows ⟨rfl, rfl⟩ _ _ mx
          cases mx
        | cons y ys ihb =>
          intro k is rs seen rows g nd dj mx
          rcases g with ⟨hy, g⟩ | ⟨hy, i1, r1, i2, r2, g1, g2, rfl, rfl⟩
          · rw [kids, if_pos hy]
            exact ihb (k + 1) is rs seen rows (by rw [show p * (F : Int) + ((k + 1 : Nat) : Int) = p * F + k + 1 by omega]; exact g) nd dj mx
          · rw [kids, if_neg hy, visits, first_eq]
            by_cases h1 : x ∈ i1
            · rw [ih seen rows g1 (List.nodup_append.mp nd).1 (fun i h => dj i (by simp [h])) h1]
            · have g1' := good_mono (E := E) g1 fun i hi => same i fun q => h1 (q ▸ hi)
              rw [visit_good j seen rows g1' (List.nodup_append.mp nd).1 (fun i h => dj i (by simp [h]))]
              simp only []
              refine ihb (k + 1) i2 r2 (seen ++ i1) (rows ++ r1) (by rw [show p * (F : Int) + ((k + 1 : Nat) : Int) = p * F + k + 1 by omega]; exact g2) (List.nodup_append.mp nd).2.1 ?_ ?_
              · intro i h
                rw [List.mem_append]
                rintro (m | m)
                · exact dj i (by simp [h]) m
                · exact (List.nodup_append.mp nd).2.2 i m i h rfl
              · rcases List.mem_append.mp mx with m | m
                · exact absurd m h1
                · exact m
      exact key b 0 is' rs (seen ++ [id]) rows (by simpa using g) nd'.2 dj' hm
theorem visit_seen {D : Blk} {F j : Nat} {id first : Int} {seen : List Int} {rows : List Row} (h : id ∈ seen) : visit D F j id first seen rows = .bad "block used twice" id := by
  cases j <;> rw [visit, if_pos h]
/-- the root leads to itself -/
theorem visit_twice {D E : Blk} {F j f : Nat} {x : Int} {b is : List Int} {rs : List Row} (g : Good D F (j + 1) 0 x is rs) (nd : is.Nodup) (e : D x = some (4, b)) (z : b[f]? = some 0) (hx : x ≠ 0) (same : ∀ i, i ≠ x → E i = D i) (eE : E x = some (4, b.set f x)) :
    visit E F (j + 1) x 0 [] [] = .bad "block used twice" x := by
  obtain ⟨b', is', e1, e2, e3, rfl, g⟩ := g
  rw [e1] at e
  cases e
  have nd' := List.nodup_cons.mp nd
  have hf : f < b.length := (List.getElem?_eq_some_iff.mp z).1
  have ea : (b.set f x).any (fun x => x != 0) = true := by
    rw [List.any_eq_true]
    exact ⟨x, List.mem_iff_getElem?.mpr ⟨f, List.getElem?_set_self hf⟩, by simpa using hx⟩
  rw [visit, if_neg (by simp), wrong_node eE ea]
  simp only [bodyD, eE]
  have key : ∀ (b : List Int) (f k : Nat) (is : List Int) (rs : List Row) (seen : List Int) (rows : List Row), b[f]? = some 0 → GoodL (Good D F j) (0 * F + k) b is rs → is.Nodup → (∀ i ∈ is, i ∉ seen) → x ∈ seen → visits (visit E F j) (kids ((F : Int) ^ j) (0 * (F : Int) ^ (j + 1)) k (b.set f x)) seen rows = .bad "block used twice" x := by
    intro b
    induction b with
    | nil => intro f k is rs seen rows z; simp at z
    | cons y ys ihb =>
      intro f k is rs seen rows z g nd dj sx
      cases f with
      | zero =>
        rw [List.set_cons_zero, kids, if_neg hx, visits, visit_seen sx]
      | succ f =>
        rw [List.set_cons_succ]
        simp only [List.getElem?_cons_succ] at z
        rcases g with ⟨hy, g⟩ | ⟨hy, i1, r1, i2, r2, g1, g2, rfl, rfl⟩
        · rw [kids, if_pos hy]
          exact ihb f (k + 1) is rs seen rows z (by rw [show 0 * (F : Int) + ((k + 1 : Nat) : Int) = 0 * F + k + 1 by omega]; exact g) nd dj sx
        · rw [kids, if_neg hy, visits, first_eq]
          have g1' := good_mono (E := E) g1 fun i hi => same i fun q => dj i (by simp [hi]) (q ▸ sx)
          rw [visit_good j seen rows g1' (List.nodup_append.mp nd).1 (fun i h => dj i (by simp [h]))]
          simp only []
          refine ihb f (k + 1) i2 r2 (seen ++ i1) (rows ++ r1) z (by rw [show 0 * (F : Int) + ((k + 1 : Nat) : Int) = 0 * F + k + 1 by omega]; exact g2) (List.nodup_append.mp nd).2.1 ?_ (by simp [sx])
          intro i h
          rw [List.mem_append]
          rintro (m | m)
          · exact dj i (by simp [h]) m
          · exact (List.nodup_append.mp nd).2.2 i m i h rfl
  have := key b f 0 is' rs ([] ++ [x]) [] z (by simpa using g) nd'.2 (by
    intro i h m
    simp at m
    subst m
    exact nd'.1 h) (by simp)
  simpa using this

/-! ### putting a tree together -/
theorem goodL_zero {g : Int → Int → List Int → List Row → Prop} : ∀ (n : Nat) (q : Int), GoodL g q (List.replicate n 0) [] []
  | 0, _ => ⟨rfl, rfl⟩
  | n + 1, q => .inl ⟨rfl, goodL_zero n (q + 1)⟩
theorem goodL_put {g : Int → Int → List Int → List Row → Prop} : ∀ (row : List Int) (k : Nat) {q x : Int} {is i : List Int} {rs r : List Row}, GoodL g q row is rs → k < row.length → (∀ j, k ≤ j → j < row.length → row[j]? = some 0) → x ≠ 0 → g (q + k) x i r → GoodL g q (row.set k x) (is ++ i) (rs ++ r)
  | [], k, _, _, _, _, _, _, _, hk, _, _, _ => by simp at hk
  | y :: ys, 0, q, x, is, i, rs, r, gl, hk, z, hx, gx => by
    have hy : y = 0 := by simpa using z 0 (by omega) (by simp)
    have hz : ∀ (ys : List Int) (q : Int) (is : List Int) (rs : List Row), (∀ j, j < ys.length → ys[j]? = some 0) → GoodL g q ys is rs → is = [] ∧ rs = [] ∧ GoodL g q ys [] [] := by
      intro ys
      induction ys with
      | nil => intro q is rs _ h; exact ⟨h.1, h.2, rfl, rfl⟩
      | cons v vs ih =>
        intro q is rs hz h
        have hv : v = 0 := by simpa using hz 0 (by simp)
        rcases h with ⟨_, h⟩ | ⟨n, _⟩
        · obtain ⟨a, b, c⟩ := ih (q + 1) is rs (fun j hj => by simpa using hz (j + 1) (by simpa using hj)) h
          exact ⟨a, b, .inl ⟨hv, c⟩⟩
        · exact absurd hv n
    rcases gl with ⟨_, gl⟩ | ⟨n, _⟩
    · obtain ⟨rfl, rfl, c⟩ := hz ys (q + 1) is rs (fun j hj => by simpa using z (j + 1) (by omega) (by simpa using hj)) gl
      rw [List.set_cons_zero]
      exact .inr ⟨hx, i, r, [], [], by simpa using gx, c, by simp, by simp⟩
    · exact absurd hy n
  | y :: ys, k + 1, q, x, is, i, rs, r, gl, hk, z, hx, gx => by
    rw [List.set_cons_succ]
    have hk' : k < ys.length := by simpa using hk
    have z' : ∀ j, k ≤ j → j < ys.length → ys[j]? = some 0 := fun j h1 h2 => by simpa using z (j + 1) (by omega) (by simpa using h2)
    have gx' : g (q + 1 + k) x i r := by rw [show q + 1 + (k : Int) = q + ((k + 1 : Nat) : Int) by omega]; exact gx
    rcases gl with ⟨hy, gl⟩ | ⟨hy, i1, r1, i2, r2, g1, g2, rfl, rfl⟩
    · exact .inl ⟨hy, goodL_put ys k gl hk' z' hx gx'⟩
    · exact .inr ⟨hy, i1, r1, i2 ++ i, r2 ++ r, g1, goodL_put ys k g2 hk' z' hx gx', by simp, by simp⟩
/-- a level: numbers and ids -/
def Lev (D : Blk) (F j : Nat) : List (Int × Int) → List Int → List Row → Prop
  | [], is, rs => is = [] ∧ rs = []
  | (p, id) :: r, is, rs => ∃ i1 r1 i2 r2, Good D F j p id i1 r1 ∧ Lev D F j r i2 r2 ∧ is = i1 ++ i2 ∧ rs = r1 ++ r2
structure Up where
  q : Int
  id : Int
  row : List Int
/-- a level being made of the one below -/
def Ups (D : Blk) (F j : Nat) : List Up → List Int → List Row → Prop
  | [], is, rs => is = [] ∧ rs = []
  | u :: r, is, rs => ∃ i1 r1 i2 r2, u.row.length = F ∧ u.row.any (fun x => x != 0) = true ∧ GoodL (Good D F j) (u.q * F) u.row i1 r1 ∧ Ups D F j r i2 r2 ∧ is = i1 ++ i2 ∧ rs = r1 ++ r2
theorem ups_app {D : Blk} {F j : Nat} {u : Up} {i : List Int} {r : List Row} (h1 : u.row.length = F) (h2 : u.row.any (fun x => x != 0) = true) (h3 : GoodL (Good D F j) (u.q * F) u.row i r) : ∀ {us : List Up} {is : List Int} {rs : List Row}, Ups D F j us is rs → Ups D F j (us ++ [u]) (is ++ i) (rs ++ r)
  | [], _, _, ⟨rfl, rfl⟩ => ⟨i, r, [], [], h1, h2, h3, ⟨rfl, rfl⟩, by simp, by simp⟩
  | v :: us, _, _, ⟨i1, r1, i2, r2, a, b, c, d, rfl, rfl⟩ => ⟨i1, r1, i2 ++ i, r2 ++ r, a, b, c, ups_app h1 h2 h3 d, by simp, by simp⟩
theorem ups_last {D : Blk} {F j : Nat} {u : Up} : ∀ {us : List Up} {is : List Int} {rs : List Row}, Ups D F j (us ++ [u]) is rs → ∃ i1 r1 i2 r2, Ups D F j us i1 r1 ∧ u.row.length = F ∧ u.row.any (fun x => x != 0) = true ∧ GoodL (Good D F j) (u.q * F) u.row i2 r2 ∧ is = i1 ++ i2 ∧ rs = r1 ++ r2
  | [], _, _, ⟨i1, r1, i2, r2, a, b, c, ⟨e1, e2⟩, rfl, rfl⟩ => ⟨[], [], i1, r1, ⟨rfl, rfl⟩, a, b, c, by simp [e1], by simp [e2]⟩
  | v :: us, _, _, ⟨i1, r1, i2, r2, a, b, c, d, rfl, rfl⟩ => by
    obtain ⟨k1, s1, k2, s2, d1, d2, d3, d4, rfl, rfl⟩ := ups_last d
    exact ⟨i1 ++ k1, r1 ++ s1, k2, s2, ⟨i1, r1, k1, s1, a, b, c, d1, rfl, rfl⟩, d2, d3, d4, by simp, by simp⟩
theorem any_set {row : List Int} {k : Nat} {x : Int} (hk : k < row.length) (hx : x ≠ 0) : (row.set k x).any (fun x => x != 0) = true := by
  rw [List.any_eq_true]
  exact ⟨x, List.mem_iff_getElem?.mpr ⟨k, List.getElem?_set_self hk⟩, by simpa using hx⟩
/-- a pair begins a new block -/
theorem ups_new {D : Blk} {F j k : Nat} {us : List Up} {is i : List Int} {rs r : List Row} {p x y q : Int} (h : Ups D F j us is rs) (g : Good D F j p x i r) (e : p = q * F + k) (hk : k < F) (hx : x ≠ 0) : Ups D F j (us ++ [⟨q, y, (List.replicate F 0).set k x⟩]) (is ++ i) (rs ++ r) := by
  refine ups_app (by simp) (any_set (by simpa using hk) hx) ?_ h
  have := goodL_put (List.replicate F 0) k (goodL_zero (g := Good D F j) F (q * F)) (by simpa using hk) (fun j _ h => by simp at h; simp [h]) hx (by rw [← e]; exact g)
  simpa using this
/-- a pair goes into the last block -/
theorem ups_old {D : Blk} {F j k : Nat} {us : List Up} {u : Up} {is i : List Int} {rs r : List Row} {p x : Int} (h : Ups D F j (us ++ [u]) is rs) (g : Good D F j p x i r) (e : p = u.q * F + k) (hk : k < F) (hx : x ≠ 0) (z : ∀ j, k ≤ j → j < F → u.row[j]? = some 0) : Ups D F j (us ++ [⟨u.q, u.id, u.row.set k x⟩]) (is ++ i) (rs ++ r) := by
  obtain ⟨i1, r1, i2, r2, d1, d2, d3, d4, rfl, rfl⟩ := ups_last h
  rw [List.append_assoc, List.append_assoc]
  refine ups_app (by simpa using d2) (any_set (by rw [d2]; exact hk) hx) ?_ d1
  exact goodL_put u.row k d4 (by rw [d2]; exact hk) (fun j a b => z j a (by rw [← d2]; exact b)) hx (by rw [← e]; exact g)
theorem ups_len {D : Blk} {F j : Nat} : ∀ {us : List Up} {is : List Int} {rs : List Row}, Ups D F j us is rs → ∀ u ∈ us, u.row.length = F
  | [], _, _, _, u, m => by cases m
  | v :: us, _, _, ⟨_, _, _, _, a, _, _, d, _, _⟩, u, m => by
    rcases List.mem_cons.mp m with rfl | m
    · exact a
    · exact ups_len d u m
/-- the blocks of a level stand: it is a level -/
theorem lev_of {D E : Blk} {F j : Nat} : ∀ {us : List Up} {is : List Int} {rs : List Row}, Ups D F j us is rs → (∀ i ∈ is, E i = D i) → (∀ u ∈ us, E u.id = some (4, u.row)) → ∃ is', Lev E F (j + 1) (us.map fun u => (u.q, u.id)) is' rs ∧ is'.Perm (is ++ us.map (·.id))
  | [], _, _, ⟨rfl, rfl⟩, _, _ => ⟨[], ⟨rfl, rfl⟩, .refl _⟩
  | u :: us, _, _, ⟨i1, r1, i2, r2, a, b, c, d, rfl, rfl⟩, m, n => by
    obtain ⟨k, l, pm⟩ := lev_of d (fun i h => m i (by simp [h])) (fun v h => n v (by simp [h]))
    refine ⟨(u.id :: i1) ++ k, ⟨u.id :: i1, r1, k, r2, ⟨u.row, i1, n u (by simp), a, b, rfl, goodL_mono c (fun i h => m i (by simp [h]))⟩, l, rfl, rfl⟩, ?_⟩
    have p1 : ((u.id :: i1) ++ k).Perm ((u.id :: i1) ++ (i2 ++ us.map (·.id))) := pm.append_left _
    refine p1.trans ?_
    simp only [List.map_cons, List.append_assoc, List.cons_append]
    have p2 : (i1 ++ (i2 ++ u.id :: us.map (·.id))).Perm (u.id :: (i1 ++ (i2 ++ us.map (·.id)))) := by
      rw [← List.append_assoc, ← List.append_assoc]
      exact List.perm_middle
    exact p2.symm
theorem lev_split {D : Blk} {F j : Nat} : ∀ {a b : List (Int × Int)} {p id : Int} {is : List Int} {rs : List Row}, Lev D F j (a ++ (p, id) :: b) is rs → ∃ i1 r1 i2 r2 i3 r3, Lev D F j a i1 r1 ∧ Good D F j p id i2 r2 ∧ Lev D F j b i3 r3 ∧ is = i1 ++ i2 ++ i3 ∧ rs = r1 ++ r2 ++ r3
  | [], b, p, id, _, _, ⟨i1, r1, i2, r2, g, l, rfl, rfl⟩ => ⟨[], [], i1, r1, i2, r2, ⟨rfl, rfl⟩, g, l, by simp, by simp⟩
  | (q, y) :: a, b, p, id, _, _, ⟨i1, r1, i2, r2, g, l, rfl, rfl⟩ => by
    obtain ⟨k1, s1, k2, s2, k3, s3, d1, d2, d3, rfl, rfl⟩ := lev_split l
    exact ⟨i1 ++ k1, r1 ++ s1, k2, s2, k3, s3, ⟨i1, r1, k1, s1, g, d1, rfl, rfl⟩, d2, d3, by simp, by simp⟩
theorem lev_app {D : Blk} {F j : Nat} : ∀ {a b : List (Int × Int)} {i1 i2 : List Int} {r1 r2 : List Row}, Lev D F j a i1 r1 → Lev D F j b i2 r2 → Lev D F j (a ++ b) (i1 ++ i2) (r1 ++ r2)
  | [], b, _, _, _, _, ⟨rfl, rfl⟩, h => h
  | (q, y) :: a, b, _, _, _, _, ⟨i1, r1, i2, r2, g, l, rfl, rfl⟩, h => by
    rw [List.append_assoc, List.append_assoc]
    exact ⟨i1, r1, _, _, g, lev_app l h, rfl, rfl⟩
theorem lev_mono {D E : Blk} {F j : Nat} : ∀ {a : List (Int × Int)} {is : List Int} {rs : List Row}, Lev D F j a is rs → (∀ i ∈ is, E i = D i) → Lev E F j a is rs
  | [], _, _, h, _ => h
  | (q, y) :: a, _, _, ⟨i1, r1, i2, r2, g, l, rfl, rfl⟩, m => ⟨i1, r1, i2, r2, good_mono g (fun i h => m i (by simp [h])), lev_mono l (fun i h => m i (by simp [h])), rfl, rfl⟩
theorem good_root {D : Blk} {F : Nat} : ∀ {j : Nat} {p id : Int} {is : List Int} {rs : List Row}, Good D F j p id is rs → id ∈ is
  | 0, _, _, _, _, ⟨_, _, rfl, _⟩ => by simp
  | _ + 1, _, _, _, _, ⟨_, _, _, _, _, rfl, _⟩ => by simp
end K89
namespace K89
open PySem PySem.Spec PyProof.Rows L2 Zm
local macro_rules | `(tactic| walk_at "zs") => `(tactic| try simp only [runD_Ok, r_dE_var, r_dE_lit, r_dE_glb, r_dE_bin, r_dE_neg, r_dE_cmp, r_dE_cmp2, r_dE_and, r_dE_or, r_dE_not, r_dE_ite, r_dE_tup, r_dE_lst, r_dE_dct0, r_dE_idx, r_dE_slc, r_dE_fld, r_dE_call, r_dE_mk, r_dE_mth, r_dE_bf, r_dE_bm, r_dE_isT, r_dE_comp, r_dX_tr, r_dX_and, r_dX_or, r_dX_not, r_dEs_nil, r_dEs_cons, r_dP_no, r_dP_some, r_dC_no, r_dC_some, r_dI_seq, r_dI_rng1, r_dI_rng2, r_dI_rrng1, r_dG_nm, r_dG_tup, r_dG_sub, r_dG_fld, r_dS_asg, r_dS_aug, r_dS_expr, r_dS_ret, r_dS_retN, r_dS_ite, r_dS_while, r_dS_for, r_dS_pass, r_dS_brk, r_dS_cont, r_dS_never, r_dSs_nil, r_dSs_cons, tgt, zBin, zCmp, Res.bind_ok, Ok_ok, Ok_bind, Ok_guard, List.length_cons, List.length_nil, List.map_cons, List.map_nil, List.replicate, List.nil_append, List.cons_append, List.getElem?_cons_zero, List.getElem?_cons_succ, List.set_cons_zero, List.set_cons_succ, Nat.reduceSub, Nat.reduceAdd, zAdd_int, zSub_int, zAddI_int, zMul_int, zDiv_int, zMod_int, zPow_int, zNeg_int, zLt_int, zLe_int, zGt_int, zGe_int, zEq_int, zNe_int, zIs_non, zIsNot_non, zTru_bl, zTru_int, zTru_non, zTru_tup, atI_0, atI_1, atI_2, atI_3, oRes_some, zIdx_tup, zBF_int, zBF_len_tup, zBF_list_tup, zBF_min, newL_eq, if_true, if_false, Bool.false_eq_true, reduceIte, zIsN, Bool.not_true, Bool.not_false, beq_self_eq_true, bne_self_eq_false, Int.reduceBNe, Int.reduceEq, decide_true, decide_false, true_and, and_true, if_true, if_false, List.isEmpty_cons, List.isEmpty_nil, setAll, List.all_cons, List.all_nil, flatZ, wipeZ, line_0, line_1, line_2, line_3, line_4, line_5, line_6, line_7, line_8, line_9])
theorem parts_of (k : Nat) (a b : Int) (h : Mh) (hb : 0 < b) (hb2 : b < 4000000) : Ok (prg.C (k + 1) f_parts_of [.int a, .int b] h) fun z h' => z = .int ((a + b - 1) / b) ∧ h' = h := by
  rw [prg.call (b := m_parts_of) rfl h rfl]
  unfold m_parts_of
  walk_at "zs"
  exact CDivW_small hb hb2
theorem take (k b : Nat) (n s : Int) (h : Mh) (e : h[b]? = some (.lst [.int n])) (hs : 0 < s) (hs2 : s < 4000000) :
    Ok (prg.C (k + 1) f__law_take [.ob b, .int s] h) fun z h' => z = .int (n % s) ∧ h' = h.set b (.lst [.int (n / s)]) := by
  rw [prg.call (b := m__law_take) rfl h rfl]
  unfold m__law_take m__law_take_1 m__law_take_2
  walk_at "zs"
  simp only [zIdx_lst e]
  walk_at "zs"
  refine ⟨hs, ?_⟩
  simp only [zIdx_lst e]
  walk_at "zs"
  refine ⟨CDivW_small hs hs2, ?_⟩
  rw [zSet_lst e (j := 0) rfl]
  walk_at "zs"
/-- a layout object -/
def isLay (h : Mh) (a : Nat) (F B : Int) : Prop := ∃ fs, h[a]? = some (.ins 0 fs) ∧ lookF fs 4 = some (.int F) ∧ lookF fs 6 = some (.int B)
theorem pow_small {F : Nat} {i : Nat} (h2 : F ≤ 128) (h3 : i ≤ 5) : (F : Int) ^ i ≤ 128 ^ 5 := by
  have a : F ^ i ≤ 128 ^ i := Nat.pow_le_pow_left h2 i
  have b : 128 ^ i ≤ 128 ^ 5 := Nat.pow_le_pow_right (by omega) h3
  have c : ((F ^ i : Nat) : Int) ≤ ((128 ^ 5 : Nat) : Int) := by omega
  rw [Int.natCast_pow] at c
  simpa using c
theorem fan_power (k a l F : Nat) (B : Int) (h : Mh) (hl : isLay h a F B) (h2 : F ≤ 128) (h3 : l ≤ 5) : Ok (prg.C (k + 1) f_fan_power [.ob a, .int l] h) fun z h' => z = .int ((F : Int) ^ l) ∧ h' = h := by
  obtain ⟨fs, e1, e2, e3⟩ := hl
  rw [prg.call (b := m_fan_power) rfl h rfl]
  unfold m_fan_power m_fan_power_1 m_fan_power_2
  walk_at "zs"
  refine for_rng (fun i ρ h1 => h1 = h ∧ ∃ v, ρ = [some (.ob a), some (.int l), some (.int ((F : Int) ^ i)), v]) (by omega) ⟨rfl, _, rfl⟩ ?_ ?_
  · rintro i ρ h1 hi ⟨rfl, v, rfl⟩
    walk_at "zs"
    simp only [zFld_ins e1, e2]
    walk_at "zs"
    
    exact ⟨CMul_right (by omega) (by omega), _, by rw [Int.pow_succ]⟩
  · rintro ρ h1 ⟨rfl, v, rfl⟩
    walk_at "zs"
    simp
theorem least_height (k a j F : Nat) (n B : Int) (h : Mh) (hl : isLay h a F B) (h1 : 1 < F) (h2 : F ≤ 128) (hn : ∀ i, i < j → 0 < n / (F : Int) ^ i) (hj : n / (F : Int) ^ j = 0) : Ok (prg.C (k + 1) f_least_height [.ob a, .int n] h) fun z h' => z = .int j ∧ h' = h := by
  obtain ⟨fs, e1, e2, e3⟩ := hl
  rw [prg.call (b := m_least_height) rfl h rfl]
  unfold m_least_height m_least_height_1 m_least_height_2 m_least_height_1b0 m_least_height_1b1
  walk_at "zs"
  refine while_inv (n := j) (fun m ρ h1 => h1 = h ∧ ∃ i, m + i = j ∧ ρ = [some (.ob a), some (.int (n / (F : Int) ^ i)), some (.int i)]) ⟨rfl, 0, by omega, by simp⟩ ?_
  rintro m ρ h3 ⟨rfl, i, hm, rfl⟩
  walk_at "zs"
  by_cases hi : i < j
  · have := hn i hi
    simp only [this, decide_true, if_true]
    walk_at "zs"
    simp only [zFld_ins e1, e2]
    walk_at "zs"
    refine ⟨CDivW_small (by omega) (by omega), m - 1, by omega, i + 1, by omega, ?_⟩
    rw [Int.pow_succ, Int.ediv_ediv_of_nonneg (Int.pow_nonneg (by omega))]
    rfl
  · have hij : i = j := by omega
    subst hij
    rw [hj]
    walk_at "zs"
    simp

def blkZ (r : Int × List Int) : Z := .tup [.int r.1, .tup (r.2.map Z.int)]
structure Rep (kvs : List (Key × Z)) (D : Blk) : Prop where
  ks : IntKeys kvs
  at_ : ∀ i, valZ kvs (.inl i) = (D i).map blkZ
def upd (D : Blk) (i : Int) (r : Int × List Int) : Blk := fun j => if j = i then some r else D j
def del (D : Blk) (i : Int) : Blk := fun j => if j = i then none else D j
theorem Rep.put {kvs : List (Key × Z)} {D : Blk} (r : Rep kvs D) (i : Int) (b : Int × List Int) : Rep (putZ kvs (.inl i) (blkZ b)) (upd D i b) := ⟨r.ks.put i _, fun j => by
  rw [valZ_put, r.at_]
  unfold upd
  by_cases h : j = i
  · subst h
    rw [if_pos rfl, if_pos rfl]
    rfl
  · rw [if_neg h, if_neg (by simpa using h)]⟩
theorem Rep.del {kvs : List (Key × Z)} {D : Blk} (r : Rep kvs D) (i : Int) : Rep (dropZ kvs (.inl i)) (del D i) := ⟨r.ks.drop _, fun j => by
  rw [valZ_drop, r.at_]
  unfold K89.del
  by_cases h : j = i
  · subst h
    rw [if_pos rfl, if_pos rfl]
    rfl
  · rw [if_neg h, if_neg (by simpa using h)]⟩
def wz (o : Option Str) (i : Int) : Z := match o with
  | none => .non
  | some m => .tup [.str m, .int i]
theorem truths_ints : ∀ xs : List Int, truths (xs.map Z.int) = some (xs.map fun x => x != 0)
  | [] => rfl
  | x :: xs => by simp [truths, truths_ints xs]
theorem zAny_ints (xs : List Int) (h : Mh) : zBF .any [.tup (xs.map Z.int)] h = .ok (.bl (xs.any fun x => x != 0)) h := by
  simp only [zBF, seqZ, truths_ints, List.any_map]
  rfl
theorem wrong_block (k d l : Nat) (id : Int) (kvs : List (Key × Z)) (D : Blk) (h : Mh) (e : h[d]? = some (.dct kvs)) (r : Rep kvs D) : Ok (prg.C (k + 1) f_wrong_block [.ob d, .int id, .int l] h) fun z h' => z = wz (wrong D id l) id ∧ h' = h := by
  rw [prg.call (b := m_wrong_block) rfl h rfl]
  unfold m_wrong_block m_wrong_block_1 m_wrong_block_2 m_wrong_block_3 m_wrong_block_4 m_wrong_block_1b0 m_wrong_block_1b1
  walk_at "zs"
  refine ⟨⟨kvs, e⟩, ?_⟩
  simp only [zBM_dget1 e, r.at_]
  walk_at "zs"
  have hl : decide ((l : Int) = 0) = decide (l = 0) := by simp
  rw [hl]
  unfold wrong
  cases q : D id with
  | none =>
    by_cases h0 : l = 0
    · simp only [h0, Option.map_none, Option.getD_none]
      walk_at "zs"
      exact rfl
    · simp only [h0, Option.map_none, Option.getD_none]
      walk_at "zs"
      exact rfl
  | some kb =>
    obtain ⟨c, b⟩ := kb
    by_cases h0 : l = 0
    · simp only [h0, Option.map_some, Option.getD_some, blkZ]
      walk_at "zs"
      by_cases hc : c = 3
      · simp only [hc]
        walk_at "zs"
        rfl
      · simp only [hc]
        walk_at "zs"
        exact rfl
    · simp only [h0, Option.map_some, Option.getD_some, blkZ]
      walk_at "zs"
      by_cases hc : c = 4
      · simp only [hc]
        walk_at "zs"
        simp only [zAny_ints]
        walk_at "zs"
        cases b.any fun x => x != 0
        · walk_at "zs"
          exact rfl
        · walk_at "zs"
          rfl
      · simp only [hc]
        walk_at "zs"
        exact rfl
end K89
namespace K89
open PySem PySem.Spec PyProof.Rows L2 Zm
local macro_rules | `(tactic| walk_at "zs") => `(tactic| try simp only [runD_Ok, r_dE_var, r_dE_lit, r_dE_glb, r_dE_bin, r_dE_neg, r_dE_cmp, r_dE_cmp2, r_dE_and, r_dE_or, r_dE_not, r_dE_ite, r_dE_tup, r_dE_lst, r_dE_dct0, r_dE_idx, r_dE_slc, r_dE_fld, r_dE_call, r_dE_mk, r_dE_mth, r_dE_bf, r_dE_bm, r_dE_isT, r_dE_comp, r_dX_tr, r_dX_and, r_dX_or, r_dX_not, r_dEs_nil, r_dEs_cons, r_dP_no, r_dP_some, r_dC_no, r_dC_some, r_dI_seq, r_dI_rng1, r_dI_rng2, r_dI_rrng1, r_dG_nm, r_dG_tup, r_dG_sub, r_dG_fld, r_dS_asg, r_dS_aug, r_dS_expr, r_dS_ret, r_dS_retN, r_dS_ite, r_dS_while, r_dS_for, r_dS_pass, r_dS_brk, r_dS_cont, r_dS_never, r_dSs_nil, r_dSs_cons, tgt, zBin, zCmp, Res.bind_ok, Ok_ok, Ok_bind, Ok_guard, List.length_cons, List.length_nil, List.map_cons, List.map_nil, List.replicate, List.nil_append, List.cons_append, List.getElem?_cons_zero, List.getElem?_cons_succ, List.set_cons_zero, List.set_cons_succ, Nat.reduceSub, Nat.reduceAdd, zAdd_int, zSub_int, zAddI_int, zMul_int, zDiv_int, zMod_int, zPow_int, zNeg_int, zLt_int, zLe_int, zGt_int, zGe_int, zEq_int, zNe_int, zIs_non, zIsNot_non, zTru_bl, zTru_int, zTru_non, zTru_tup, atI_0, atI_1, atI_2, atI_3, oRes_some, zIdx_tup, zBF_int, zBF_len_tup, zBF_list_tup, zBF_min, newL_eq, if_true, if_false, Bool.false_eq_true, reduceIte, zIsN, Bool.not_true, Bool.not_false, beq_self_eq_true, bne_self_eq_false, Int.reduceBNe, Int.reduceEq, decide_true, decide_false, true_and, and_true, if_true, if_false, List.isEmpty_cons, List.isEmpty_nil, setAll, List.all_cons, List.all_nil, flatZ, wipeZ, line_0, line_1, line_2, line_3, line_4, line_5, line_6, line_7, line_8, line_9])
/-! look_at -/
theorem nodup_len : ∀ {xs ys : List Int}, xs.Nodup → (∀ x ∈ xs, x ∈ ys) → xs.length ≤ ys.length
  | [], _, _, _ => Nat.zero_le _
  | x :: xs, ys, nd, m => by
    have h1 := List.nodup_cons.mp nd
    have h2 : xs.length ≤ (ys.erase x).length := nodup_len h1.2 fun y hy => (List.mem_erase_of_ne fun (q : y = x) => h1.1 (q ▸ hy)).mpr (m y (by simp [hy]))
    have h3 := List.length_erase_of_mem (m x (by simp))
    have h4 := List.length_pos_of_mem (m x (by simp))
    simp only [List.length_cons]
    omega
def heap3 (h : Mh) (seen : List Int) (rows : List Row) (st : List Z) : Mh := h ++ [.lst (seen.map Z.int), .lst (rows.map blkZ), .lst st]
section
variable {h : Mh} {seen : List Int} {rows : List Row} {st : List Z}
theorem heap3_0 : (heap3 h seen rows st)[h.length]? = some (.lst (seen.map Z.int)) := by simp [heap3]
theorem heap3_1 : (heap3 h seen rows st)[h.length + 1]? = some (.lst (rows.map blkZ)) := by simp [heap3]
theorem heap3_2 : (heap3 h seen rows st)[h.length + 2]? = some (.lst st) := by simp [heap3]
theorem heap3_old {a : Nat} {o : Ob} (e : h[a]? = some o) : (heap3 h seen rows st)[a]? = some o := get_app e
theorem heap3_s0 {seen2 : List Int} : (heap3 h seen rows st).set h.length (.lst (seen2.map Z.int)) = heap3 h seen2 rows st := by simp [heap3, List.set_append]
theorem heap3_s1 {rows2 : List Row} : (heap3 h seen rows st).set (h.length + 1) (.lst (rows2.map blkZ)) = heap3 h seen rows2 st := by simp [heap3, List.set_append]
theorem heap3_s2 {st2 : List Z} : (heap3 h seen rows st).set (h.length + 2) (.lst st2) = heap3 h seen rows st2 := by simp [heap3, List.set_append]
end
def trZ (l : Nat) (c : Int × Int) : Z := .tup [.int c.1, .int l, .int c.2]
def env (a d f n : Nat) (vs : List (Option Z)) : Ev := some (.ob a) :: some (.ob d) :: some (.ob f) :: some (.ob n) :: some (.ob (n + 1)) :: some (.ob (n + 2)) :: vs
def look_c : MX := .tr (.var 5)
structure PS (U seen : List Int) (rows : List Row) : Prop where
  nd : seen.Nodup
  sub : ∀ i ∈ seen, i ∈ U
  le : rows.length ≤ seen.length
theorem PS.len {U seen : List Int} {rows : List Row} (p : PS U seen rows) : seen.length ≤ U.length := nodup_len p.nd p.sub
section
variable {h : Mh} {a d f k F : Nat} {B : Int} {kvs : List (Key × Z)} {D : Blk} {U : List Int}
/-- what is to hold behind a visit -/
def After (C : Cl) (h : Mh) (a d f : Nat) (U : List Int) (S : List Z) (Q : Fl → Mh → Prop) : Out → Prop
  | .bad m i => ∀ s r st, Q (.ret (.tup [.tup [.str m, .int i], .ob (h.length + 1)])) (heap3 h s r st)
  | .go s r => PS U s r → ∀ vs, vs.length = 7 → Ok (whileM (dX C (.tr (.var 5))) (dSs C prg.gt.fl m_look_at_4b0) (env a d f h.length vs) (heap3 h s r S)) Q
theorem two_line : 2 ≤ sizeLine := by rw [line_eq]; omega
theorem three_line : 3 ≤ sizeLine := by rw [line_eq]; omega
theorem kids_len (step first : Int) : ∀ (b : List Int) (k : Nat), (kids step first k b).length ≤ b.length
  | [], _ => Nat.le_refl _
  | x :: xs, k => by
    rw [kids]
    split
    · exact Nat.le_succ_of_le (kids_len step first xs (k + 1))
    · simpa using kids_len step first xs (k + 1)
theorem vs7 {vs : List (Option Z)} (hv : vs.length = 7) : ∃ v6 v7 v8 v9 v10 v11 v12, vs = [v6, v7, v8, v9, v10, v11, v12] := by
  match vs, hv with
  | [v6, v7, v8, v9, v10, v11, v12], _ => exact ⟨v6, v7, v8, v9, v10, v11, v12, rfl⟩
/-- the top of the stack is taken: up to what the block is -/
theorem run_top (hl : isLay h a F B) (e : h[d]? = some (.dct kvs)) (r : Rep kvs D) (hU : ∀ i, (D i).isSome = true → i ∈ U) (hUl : U.length ≤ 1000) {Q : Fl → Mh → Prop} (l : Nat) (id first : Int) (seen : List Int) (rows : List Row) (S : List Z) (vs : List (Option Z)) (hv : vs.length = 7) (ps : PS U seen rows)
    (h1 : id ∈ seen → ∀ s r st, Q (.ret (.tup [.tup [.str "block used twice", .int id], .ob (h.length + 1)])) (heap3 h s r st))
    (h2 : id ∉ seen → ∀ m, wrong D id l = some m → ∀ s r st, Q (.ret (.tup [.tup [.str m, .int id], .ob (h.length + 1)])) (heap3 h s r st))
    (h3 : id ∉ seen → wrong D id l = none → ∀ v11 v12 v10, ∀ c b, D id = some (c, b) → Ok (dSs (prg.C (k + 1)) prg.gt.fl m_look_at_4b6 [some (.ob a), some (.ob d), some (.ob f), some (.ob h.length), some (.ob (h.length + 1)), some (.ob (h.length + 2)), some (.int id), some (.int l), some (.int first), v10, some (.tup (b.map Z.int)), v11, v12] (heap3 h (seen ++ [id]) rows S)) fun fl h2 => (match fl with
      | .nx ρ2 => Ok (whileM (dX (prg.C (k + 1)) (.tr (.var 5))) (dSs (prg.C (k + 1)) prg.gt.fl m_look_at_4b0) ρ2 h2) Q
      | .cont ρ2 => Ok (whileM (dX (prg.C (k + 1)) (.tr (.var 5))) (dSs (prg.C (k + 1)) prg.gt.fl m_look_at_4b0) ρ2 h2) Q
      | .brk ρ2 => Q (.nx ρ2) h2
      | .ret z => Q (.ret z) h2)) :
    Ok (whileM (dX (prg.C (k + 1)) (.tr (.var 5))) (dSs (prg.C (k + 1)) prg.gt.fl m_look_at_4b0) (env a d f h.length vs) (heap3 h seen rows (S ++ [trZ l (id, first)]))) Q := by
  obtain ⟨v6, v7, v8, v9, v10, v11, v12, rfl⟩ := vs7 hv
  refine wh_step ?_
  unfold env
  walk_at "zs"
  simp only [zTru_lst heap3_2]
  walk_at "zs"
  have hne : (S ++ [trZ l (id, first)]).isEmpty = false := by simp
  simp only [hne]
  unfold m_look_at_4b0
  walk_at "zs"
  refine ⟨bmOk_pop0 heap3_2, ?_⟩
  simp only [zBM_pop0 heap3_2, heap3_s2]
  unfold trZ
  walk_at "zs"
  unfold m_look_at_4b1
  walk_at "zs"
  simp only [zIn_lst heap3_0]
  walk_at "zs"
  by_cases hs : id ∈ seen
  · simp only [hs]
    walk_at "zs"
    exact h1 hs _ _ _
  · simp only [hs]
    walk_at "zs"
    unfold m_look_at_4b2
    walk_at "zs"
    refine ⟨bmOk_append heap3_0, ?_⟩
    have hsl := ps.len
    rw [zBM_append heap3_0 (by rw [List.length_map, line_eq]; omega)]
    rw [show seen.map Z.int ++ [Z.int id] = (seen ++ [id]).map Z.int by simp, heap3_s0]
    walk_at "zs"
    unfold m_look_at_4b3
    walk_at "zs"
    refine (wrong_block k d l id kvs D _ (heap3_old e) r).mono ?_
    rintro z h' ⟨rfl, rfl⟩
    unfold m_look_at_4b4
    walk_at "zs"
    cases hw : wrong D id l with
    | some m =>
      simp only [wz, zIsN]
      walk_at "zs"
      exact h2 hs m hw _ _ _
    | none =>
      simp only [wz, zIsN]
      walk_at "zs"
      unfold m_look_at_4b5
      walk_at "zs"
      cases hd : D id with
      | none =>
        unfold wrong at hw
        rw [hd] at hw
        simp only [] at hw
        split at hw <;> cases hw
      | some cb =>
        obtain ⟨c, b⟩ := cb
        simp only [zIdx_dct (heap3_old e), r.at_, hd, Option.map_some]
        walk_at "zs"
        unfold blkZ
        walk_at "zs"
        exact h3 hs hw _ _ _ c b hd
theorem wrong_kind {D : Blk} {id : Int} {l : Nat} {c : Int} {b : List Int} (hd : D id = some (c, b)) (hw : wrong D id (l + 1) = none) : c = 4 := by
  unfold wrong at hw
  rw [hd] at hw
  by_cases hc : c = 4
  · exact hc
  · simp [hc] at hw
theorem PS.add {U seen : List Int} {rows rows2 : List Row} {id : Int} (p : PS U seen rows) (hs : id ∉ seen) (hm : id ∈ U) (hr : rows2.length ≤ rows.length + 1) : PS U (seen ++ [id]) rows2 := ⟨by
    rw [List.nodup_append]
    refine ⟨p.nd, by simp, fun x hx y hy => ?_⟩
    simp at hy
    subst hy
    rintro rfl
    exact hs hx, fun i hi => by
    rcases List.mem_append.mp hi with hi | hi
    · exact p.sub i hi
    · simp at hi
      exact hi ▸ hm, by have := p.le; simp; omega⟩
theorem run_visit (hl : isLay h a F B) (hF : F ≤ 128) (e : h[d]? = some (.dct kvs)) (r : Rep kvs D) (hU : ∀ i, (D i).isSome = true → i ∈ U) (hUl : U.length ≤ 1000) (hD : ∀ i b, D i = some (4, b) → b.length = F) {Q : Fl → Mh → Prop} :
    ∀ (l : Nat) (id first : Int) (seen : List Int) (rows : List Row) (S : List Z) (vs : List (Option Z)), l ≤ 5 → vs.length = 7 → PS U seen rows → S.length + l * 128 + 1 ≤ 5000 →
      After (prg.C (k + 1)) h a d f U S Q (visit D F l id first seen rows) →
      Ok (whileM (dX (prg.C (k + 1)) (.tr (.var 5))) (dSs (prg.C (k + 1)) prg.gt.fl m_look_at_4b0) (env a d f h.length vs) (heap3 h seen rows (S ++ [trZ l (id, first)]))) Q := by
  intro l
  induction l with
  | zero =>
    intro id first seen rows S vs hl5 hv ps hs af
    refine run_top hl e r hU hUl 0 id first seen rows S vs hv ps ?_ ?_ ?_
    · intro hi
      rw [visit, if_pos hi] at af
      exact af
    · intro hi m hw
      rw [visit, if_neg hi, hw] at af
      exact af
    · intro hi hw v11 v12 v10 c b hd
      rw [visit, if_neg hi, hw] at af
      unfold m_look_at_4b6
      walk_at "zs"
      simp only [show decide (((0 : Nat) : Int) = 0) = true from rfl]
      walk_at "zs"
      refine ⟨bmOk_append heap3_1, ?_⟩
      have hsl := ps.len
      have hsr := ps.le
      rw [zBM_append heap3_1 (by rw [List.length_map, line_eq]; omega)]
      rw [show rows.map blkZ ++ [Z.tup [.int first, .tup (b.map Z.int)]] = (rows ++ [(first, b)]).map blkZ by simp [blkZ], heap3_s1]
      walk_at "zs"
      have : bodyD D id = b := by simp [bodyD, hd]
      rw [this] at af
      exact af (ps.add hi (hU id (by simp [hd])) (by simp)) [_, _, _, _, _, _, _] rfl
  | succ l ih =>
    intro id first seen rows S vs hl5 hv ps hs af
    have ihs : ∀ (cs : List (Int × Int)) (seen : List Int) (rows : List Row) (vs : List (Option Z)), cs.length ≤ 128 → vs.length = 7 → PS U seen rows → After (prg.C (k + 1)) h a d f U S Q (visits (visit D F l) cs seen rows) → Ok (whileM (dX (prg.C (k + 1)) (.tr (.var 5))) (dSs (prg.C (k + 1)) prg.gt.fl m_look_at_4b0) (env a d f h.length vs) (heap3 h seen rows (S ++ (cs.map (trZ l)).reverse))) Q := by
      intro cs
      induction cs with
      | nil =>
        intro seen rows vs _ hv ps af
        simpa using af ps vs hv
      | cons c cs ihc =>
        intro seen rows vs hc hv ps af
        rw [List.map_cons, List.reverse_cons, ← List.append_assoc]
        simp only [List.length_cons] at hc
        refine ih c.1 c.2 seen rows _ vs (by omega) hv ps (by simp; omega) ?_
        rw [visits] at af
        cases q : visit D F l c.1 c.2 seen rows with
        | bad m i => rw [q] at af; exact af
        | go s r => rw [q] at af; exact fun ps vs hv => ihc s r vs (by omega) hv ps af
    refine run_top hl e r hU hUl (l + 1) id first seen rows S vs hv ps ?_ ?_ ?_
    · intro hi
      rw [visit, if_pos hi] at af
      exact af
    · intro hi m hw
      rw [visit, if_neg hi, hw] at af
      exact af
    · intro hi hw v11 v12 v10 c b hd
      rw [visit, if_neg hi, hw] at af
      have hb : bodyD D id = b := by simp [bodyD, hd]
      rw [hb] at af
      have hc := wrong_kind hd hw
      subst hc
      have hbl := hD id b hd
      unfold m_look_at_4b6
      walk_at "zs"
      have hl0 : decide (((l + 1 : Nat) : Int) = 0) = false := by simp; omega
      simp only [hl0]
      walk_at "zs"
      unfold m_look_at_4b6e0
      walk_at "zs"
      rw [show ((l + 1 : Nat) : Int) - 1 = (l : Int) by omega]
      have hl2 : isLay (heap3 h (seen ++ [id]) rows S) a F B := by
        obtain ⟨fs, e1, e2, e3⟩ := hl
        exact ⟨fs, heap3_old e1, e2, e3⟩
      refine (fan_power k a l F B _ hl2 hF (by omega)).mono ?_
      rintro z h' ⟨rfl, rfl⟩
      unfold m_look_at_4b6e1
      walk_at "zs"
      obtain ⟨fs, e1, e2, e3⟩ := hl2
      simp only [zFld_ins e1, e2]
      walk_at "zs"
      refine for_rrng (fun i ρ h1 => i ≤ F ∧ ∃ v12, ρ = [some (.ob a), some (.ob d), some (.ob f), some (.ob h.length), some (.ob (h.length + 1)), some (.ob (h.length + 2)), some (.int id), some (.int ((l + 1 : Nat) : Int)), some (.int first), v10, some (.tup (b.map Z.int)), some (.int ((F : Int) ^ l)), v12] ∧ h1 = heap3 h (seen ++ [id]) rows (S ++ ((kids ((F : Int) ^ l) first i (b.drop i)).map (trZ l)).reverse)) (by omega) ⟨Nat.le_refl _, _, rfl, ?_⟩ ?_ ?_
      · rw [List.drop_eq_nil_of_le (by omega)]
        simp [kids]
      · rintro i ρ h1 hiF ⟨_, v12, rfl, rfl⟩
        walk_at "zs"
        unfold m_look_at_4b6e1b0
        walk_at "zs"
        obtain ⟨x, hx⟩ : ∃ x, b[i]? = some x := ⟨b[i], List.getElem?_eq_getElem (by omega)⟩
        have hdr : b.drop i = x :: b.drop (i + 1) := by
          rw [List.drop_eq_getElem_cons (by omega)]
          congr 1
          rw [List.getElem?_eq_getElem (by omega)] at hx
          exact Option.some.inj hx
        have hat : atI (b.map Z.int) (i : Int) = some (.int x) := by
          rw [atI_nat]
          simp [hx]
        simp only [hat]
        walk_at "zs"
        rw [hdr, kids]
        by_cases h0 : x = 0
        · simp only [h0]
          walk_at "zs"
          exact ⟨by omega, _, rfl⟩
        · simp only [h0]
          walk_at "zs"
          refine ⟨bmOk_append heap3_2, CMul_left (by omega) (by omega), ?_⟩
          have hkl := kids_len ((F : Int) ^ l) first (b.drop (i + 1)) (i + 1)
          rw [List.length_drop] at hkl
          rw [zBM_append heap3_2 (by rw [line_eq]; simp; omega), heap3_s2]
          walk_at "zs"
          refine ⟨by omega, _, rfl, ?_⟩
          congr 1
          rw [show ((l + 1 : Nat) : Int) - 1 = (l : Int) by omega]
          simp [trZ]
      · rintro ρ h1 ⟨_, v12, rfl, rfl⟩
        walk_at "zs"
        rw [List.drop_zero]
        have hkl := kids_len ((F : Int) ^ l) first b 0
        exact ihs (kids ((F : Int) ^ l) first 0 b) (seen ++ [id]) rows [_, _, _, _, _, _, _] (by omega) rfl (ps.add hi (hU id (by simp [hd])) (by omega)) af
end
end K89
namespace K89
open PySem PySem.Spec PyProof.Rows L2 Zm
local macro_rules | `(tactic| walk_at "zs") => `(tactic| try simp only [runD_Ok, r_dE_var, r_dE_lit, r_dE_glb, r_dE_bin, r_dE_neg, r_dE_cmp, r_dE_cmp2, r_dE_and, r_dE_or, r_dE_not, r_dE_ite, r_dE_tup, r_dE_lst, r_dE_dct0, r_dE_idx, r_dE_slc, r_dE_fld, r_dE_call, r_dE_mk, r_dE_mth, r_dE_bf, r_dE_bm, r_dE_isT, r_dE_comp, r_dX_tr, r_dX_and, r_dX_or, r_dX_not, r_dEs_nil, r_dEs_cons, r_dP_no, r_dP_some, r_dC_no, r_dC_some, r_dI_seq, r_dI_rng1, r_dI_rng2, r_dI_rrng1, r_dG_nm, r_dG_tup, r_dG_sub, r_dG_fld, r_dS_asg, r_dS_aug, r_dS_expr, r_dS_ret, r_dS_retN, r_dS_ite, r_dS_while, r_dS_for, r_dS_pass, r_dS_brk, r_dS_cont, r_dS_never, r_dSs_nil, r_dSs_cons, tgt, zBin, zCmp, Res.bind_ok, Ok_ok, Ok_bind, Ok_guard, List.length_cons, List.length_nil, List.map_cons, List.map_nil, List.replicate, List.nil_append, List.cons_append, List.getElem?_cons_zero, List.getElem?_cons_succ, List.set_cons_zero, List.set_cons_succ, Nat.reduceSub, Nat.reduceAdd, zAdd_int, zSub_int, zAddI_int, zMul_int, zDiv_int, zMod_int, zPow_int, zNeg_int, zLt_int, zLe_int, zGt_int, zGe_int, zEq_int, zNe_int, zIs_non, zIsNot_non, zTru_bl, zTru_int, zTru_non, zTru_tup, atI_0, atI_1, atI_2, atI_3, oRes_some, zIdx_tup, zBF_int, zBF_len_tup, zBF_list_tup, zBF_min, newL_eq, if_true, if_false, Bool.false_eq_true, reduceIte, zIsN, Bool.not_true, Bool.not_false, beq_self_eq_true, bne_self_eq_false, Int.reduceBNe, Int.reduceEq, decide_true, decide_false, true_and, and_true, if_true, if_false, List.isEmpty_cons, List.isEmpty_nil, setAll, List.all_cons, List.all_nil, flatZ, wipeZ, line_0, line_1, line_2, line_3, line_4, line_5, line_6, line_7, line_8, line_9])
def isFile (h : Mh) (f : Nat) (size : Int) (height : Int) (root : Int) : Prop := ∃ fs, h[f]? = some (.ins 1 fs) ∧ lookF fs 11 = some (.int size) ∧ lookF fs 10 = some (.int height) ∧ lookF fs 9 = some (.int root)
def looks (D : Blk) (F j : Nat) (root : Int) : Out := if root = 0 then .go [] [] else visit D F j root 0 [] []
theorem look_at (k a d f F j : Nat) (B size root height : Int) (kvs : List (Key × Z)) (D : Blk) (U : List Int) (h : Mh) (hl : isLay h a F B) (hF : F ≤ 128) (e : h[d]? = some (.dct kvs)) (r : Rep kvs D) (hU : ∀ i, (D i).isSome = true → i ∈ U) (hUl : U.length ≤ 1000) (hD : ∀ i b, D i = some (4, b) → b.length = F)
    (hf : isFile h f size height root) (hj : root ≠ 0 → height = (j : Int) ∧ j ≤ 5) :
    Ok (prg.C (k + 2) f_look_at [.ob a, .ob d, .ob f] h) fun z h' => ∃ s rs st, h' = heap3 h s rs st ∧ match looks D F j root with
      | .bad m i => z = .tup [.tup [.str m, .int i], .ob (h.length + 1)]
      | .go s' r' => z = .tup [.non, .ob (h.length + 1)] ∧ rs = r' ∧ rs.length ≤ 1000 := by
  rw [prg.call (b := m_look_at) rfl h rfl]
  unfold m_look_at m_look_at_1 m_look_at_2
  walk_at "zs"
  unfold m_look_at_3
  walk_at "zs"
  obtain ⟨fs, f1, f2, f3, f4⟩ := hf
  have f1' : (heap3 h [] [] [])[f]? = some (.ins 1 fs) := heap3_old f1
  have hh : h ++ [Ob.lst []] ++ [Ob.lst []] ++ [Ob.lst []] = heap3 h [] [] [] := by simp [heap3]
  rw [hh, zFld_ins f1', f4]
  walk_at "zs"
  have ps0 : PS U [] [] := ⟨List.nodup_nil, by simp, by simp⟩
  by_cases h0 : root = 0
  · simp only [h0]
    walk_at "zs"
    unfold m_look_at_4
    walk_at "zs"
    refine wh_step ?_
    walk_at "zs"
    simp only [List.length_append, List.length_cons, List.length_nil, Nat.zero_add, List.append_nil, List.append_assoc, Nat.reduceAdd]
    simp only [zTru_lst heap3_2]
    walk_at "zs"
    unfold m_look_at_5
    walk_at "zs"
    refine ⟨[], [], [], rfl, ?_⟩
    simp [looks]
  · simp only [h0]
    walk_at "zs"
    simp only [List.length_append, List.length_cons, List.length_nil, Nat.zero_add, List.append_nil, List.append_assoc, Nat.reduceAdd]
    refine ⟨bmOk_append heap3_2, ?_⟩
    simp only [zFld_ins f1', f4]
    walk_at "zs"
    simp only [zFld_ins f1', f3]
    walk_at "zs"
    rw [zBM_append heap3_2 (by rw [line_eq]; simp), heap3_s2]
    walk_at "zs"
    unfold m_look_at_4
    walk_at "zs"
    obtain ⟨rfl, hj5⟩ := hj h0
    refine run_visit (k := k) hl hF e r hU hUl hD j root 0 [] [] [] [_, _, _, _, _, _, _] hj5 rfl ps0 (by simp; omega) ?_
    have hlk : looks D F j root = visit D F j root 0 [] [] := by simp [looks, h0]
    rw [hlk]
    cases q : visit D F j root 0 [] [] with
    | bad m i =>
      intro s rs st
      walk_at "zs"
      exact ⟨s, rs, st, rfl⟩
    | go s' r' =>
      intro ps vs hv
      obtain ⟨v6, v7, v8, v9, v10, v11, v12, rfl⟩ := vs7 hv
      refine wh_step ?_
      unfold env
      walk_at "zs"
      simp only [zTru_lst heap3_2]
      walk_at "zs"
      unfold m_look_at_5
      walk_at "zs"
      have h1 := ps.len
      have h2 := ps.le
      refine ⟨s', r', [], rfl, ?_⟩
      simp
      omega
theorem is_least (k a f p F j : Nat) (B size root height : Int) (rs : List Row) (h : Mh) (hl : isLay h a F B) (h1 : 1 < F) (h2 : F ≤ 128) (hf : isFile h f size height root) (hr : h[p]? = some (.lst (rs.map blkZ))) (hn : ∀ l ∈ rs.getLast?, (∀ i, i < j → 0 < l.1 / (F : Int) ^ i) ∧ l.1 / (F : Int) ^ j = 0) (h0 : rs = [] → j = 0) :
    Ok (prg.C (k + 2) f_is_least [.ob a, .ob f, .ob p] h) fun z h' => z = .bl (decide (height = j)) ∧ h' = h := by
  rw [prg.call (b := m_is_least) rfl h rfl]
  unfold m_is_least
  walk_at "zs"
  simp only [zTru_lst hr]
  walk_at "zs"
  obtain ⟨fs, f1, f2, f3, f4⟩ := hf
  rcases List.eq_nil_or_concat rs with rfl | ⟨r0, l, rfl⟩
  · simp only [List.map_nil, List.isEmpty_nil]
    walk_at "zs"
    simp only [zFld_ins f1, f3]
    walk_at "zs"
    rw [h0 rfl]
    rfl
  · have hne : (List.map blkZ (r0.concat l)).isEmpty = false := by simp
    simp only [hne]
    walk_at "zs"
    unfold m_is_least_1
    walk_at "zs"
    simp only [zFld_ins f1, f3]
    walk_at "zs"
    have hat : atI (List.map blkZ (r0.concat l)) (-1) = some (blkZ l) := atI_end (by simp)
    simp only [zIdx_lst hr, hat]
    walk_at "zs"
    unfold blkZ
    walk_at "zs"
    obtain ⟨n1, n2⟩ := hn l (by simp)
    refine (least_height k a j F l.1 B h hl h1 h2 n1 n2).mono ?_
    rintro z h' ⟨rfl, rfl⟩
    walk_at "zs"
/-- the fault of a tree whose blocks are sound -/
def late (B size : Int) (rs : List Row) : List Row := rs.filter fun r => decide ((size + B - 1) / B ≤ r.1)
def spill (B size : Int) (r : Row) : Bool := decide (r.1 = size / B) && (r.2.drop (size % B).toNat).any (fun x => x != 0)
def faultR (B size root height : Int) (j : Nat) (rs : List Row) : Option (Str × Int) :=
  if height = j then match late B size rs with
    | r :: _ => some ("data block behind the end", r.1)
    | [] => if rs.any (spill B size) then some ("octets behind the end", size) else none
  else some ("tree too high", root)
def faultO (B size root height : Int) (j : Nat) : Out → Option (Str × Int)
  | .bad m i => some (m, i)
  | .go _ rs => faultR B size root height j rs
def fz (o : Option (Str × Int)) : Z := match o with
  | none => .non
  | some (m, i) => .tup [.str m, .int i]
theorem tree_fault (k a d f F j j' : Nat) (B size root height : Int) (kvs : List (Key × Z)) (D : Blk) (U : List Int) (h : Mh) (hl : isLay h a F B) (h1 : 1 < F) (hF : F ≤ 128) (hB : 0 < B) (hB2 : B ≤ 256) (hs : 0 ≤ size) (e : h[d]? = some (.dct kvs)) (r : Rep kvs D) (hU : ∀ i, (D i).isSome = true → i ∈ U) (hUl : U.length ≤ 1000) (hD : ∀ i b, D i = some (4, b) → b.length = F)
    (hf : isFile h f size height root) (hj : root ≠ 0 → height = (j : Int) ∧ j ≤ 5)
    (hn : ∀ s rs, looks D F j root = .go s rs → (∀ l ∈ rs.getLast?, (∀ i, i < j' → 0 < l.1 / (F : Int) ^ i) ∧ l.1 / (F : Int) ^ j' = 0) ∧ (rs = [] → j' = 0)) :
    Ok (prg.C (k + 3) f_tree_fault [.ob a, .ob d, .ob f] h) fun z h' => z = fz (faultO B size root height j' (looks D F j root)) ∧ Pre h h' := by
  rw [prg.call (b := m_tree_fault) rfl h rfl]
  unfold m_tree_fault
  walk_at "zs"
  refine (look_at k a d f F j B size root height kvs D U h hl hF e r hU hUl hD hf hj).mono ?_
  rintro z h' ⟨s, rs, st, rfl, hz⟩
  have pre : Pre h (heap3 h s rs st) := Pre.app
  cases q : looks D F j root with
  | bad m i =>
    rw [q] at hz
    subst hz
    walk_at "zs"
    unfold m_tree_fault_1
    walk_at "zs"
    exact ⟨rfl, pre⟩
  | go s' r' =>
    rw [q] at hz
    obtain ⟨rfl, rfl, hrl⟩ := hz
    obtain ⟨n1, n2⟩ := hn _ _ q
    walk_at "zs"
    unfold m_tree_fault_1
    walk_at "zs"
    unfold m_tree_fault_2
    walk_at "zs"
    have hl2 : isLay (heap3 h s rs st) a F B := by
      obtain ⟨fs, e1, e2, e3⟩ := hl
      exact ⟨fs, heap3_old e1, e2, e3⟩
    have hf2 : isFile (heap3 h s rs st) f size height root := by
      obtain ⟨fs, e1, e2⟩ := hf
      exact ⟨fs, heap3_old e1, e2⟩
    refine (is_least k a f (h.length + 1) F j' B size root height rs _ hl2 h1 hF hf2 heap3_1 n1 n2).mono ?_
    rintro z h' ⟨rfl, rfl⟩
    walk_at "zs"
    obtain ⟨fs, f1, f2, f3, f4⟩ := hf2
    obtain ⟨gs, g1, g2, g3⟩ := hl2
    simp only [faultO, faultR]
    by_cases hh : height = (j' : Int)
    · simp only [hh]
      walk_at "zs"
      unfold m_tree_fault_3
      walk_at "zs"
      simp only [zFld_ins f1, f2]
      walk_at "zs"
      simp only [zFld_ins g1, g3]
      walk_at "zs"
      refine (parts_of (k + 1) size B _ hB (by omega)).mono ?_
      rintro z h' ⟨rfl, rfl⟩
      walk_at "zs"
      unfold m_tree_fault_4
      walk_at "zs"
      generalize hH : heap3 h s rs st = H at *
      have hrs : H[h.length + 1]? = some (.lst (rs.map blkZ)) := by rw [← hH]; exact heap3_1
      simp only [wkSeq, hrs]
      walk_at "zs"
      refine comp_pure (fun z => match z with
        | .tup [.int i, _] => decide ((size + B - 1) / B ≤ i)
        | _ => false) (fun z => match z with
        | .tup [x, _] => x
        | _ => .non) rfl (by rw [List.length_map]; omega) (fun o => get_app hrs) ?_ ?_
      · intro z hz o
        obtain ⟨rw, hm, rfl⟩ := List.mem_map.mp hz
        simp only [blkZ]
        walk_at "zs"
        exact fun _ => trivial
      · have hlate : ((rs.map blkZ).filter fun z => match z with
          | .tup [.int i, _] => decide ((size + B - 1) / B ≤ i)
          | _ => false).map (fun z => match z with
          | .tup [x, _] => x
          | _ => .non) = (late B size rs).map fun r => Z.int r.1 := by
          unfold late
          rw [List.filter_map, List.map_map]
          rfl
        rw [hlate]
        walk_at "zs"
        unfold m_tree_fault_5
        walk_at "zs"
        simp only [zTru_lst get_new]
        walk_at "zs"
        have pre2 : Pre h (H ++ [Ob.lst ((late B size rs).map fun r => Z.int r.1)]) := pre.trans Pre.app
        cases hlt : late B size rs with
        | cons l0 ls =>
          rw [hlt] at pre2
          simp only [List.map_cons]
          walk_at "zs"
          simp only [zIdx_lst get_new]
          walk_at "zs"
          exact ⟨rfl, pre2⟩
        | nil =>
          rw [hlt] at pre2
          simp only [List.map_nil]
          walk_at "zs"
          unfold m_tree_fault_6
          walk_at "zs"
          have hrs2 : (H ++ [Ob.lst []])[h.length + 1]? = some (.lst (rs.map blkZ)) := get_app hrs
          refine for_lst (fun dn ρ h1 => h1 = H ++ [Ob.lst []] ∧ (∃ v7 v8, ρ = [some (.ob a), some (.ob d), some (.ob f), some .non, some (.ob (h.length + 1)), some (.int ((size + B - 1) / B)), some (.ob H.length), v7, v8]) ∧ ∀ r ∈ rs, blkZ r ∈ dn → spill B size r = false) hrs2 ⟨rfl, ⟨_, _, rfl⟩, by simp⟩ ?_ ?_ ?_
          · rintro dn ρ h2 ⟨rfl, _⟩
            exact hrs2
          · rintro dn z rest ρ h2 ez ⟨rfl, ⟨v7, v8, rfl⟩, hsp⟩
            obtain ⟨rw, hm, rfl⟩ : ∃ r ∈ rs, blkZ r = z := List.mem_map.mp (by rw [ez]; simp)
            have f1' := get_app (l := [Ob.lst []]) f1
            have g1' := get_app (l := [Ob.lst []]) g1
            have hinj : ∀ r : Row, blkZ r = blkZ rw → r = rw := by
              intro r e
              obtain ⟨x, xs⟩ := r
              obtain ⟨y, ys⟩ := rw
              simp only [blkZ, Z.tup.injEq, List.cons.injEq, Z.int.injEq, and_true] at e
              have : xs = ys := List.map_inj_right (by intro a b h; cases h; rfl) |>.mp e.2
              rw [e.1, this]
            conv in (tgt _ _ _ _) => rw [blkZ]
            walk_at "zs"
            unfold m_tree_fault_6b0
            walk_at "zs"
            simp only [zFld_ins f1', f2]
            walk_at "zs"
            simp only [zFld_ins g1', g3]
            walk_at "zs"
            refine ⟨CDivW_small hB (by omega), ?_⟩
            by_cases h7 : rw.1 = size / B
            · simp only [h7]
              walk_at "zs"
              simp only [zFld_ins f1', f2]
              walk_at "zs"
              simp only [zFld_ins g1', g3]
              walk_at "zs"
              refine ⟨hB, ?_⟩
              have hmod : size % B = (((size % B).toNat : Nat) : Int) := (Int.toNat_of_nonneg (Int.emod_nonneg _ (by omega))).symm
              rw [hmod]
              simp only [zSlc, cutZ_drop, ← List.map_drop]
              walk_at "zs"
              simp only [zAny_ints]
              walk_at "zs"
              have hsv : spill B size rw = (rw.2.drop (size % B).toNat).any (fun x => x != 0) := by simp [spill, h7]
              cases hb : (rw.2.drop (size % B).toNat).any (fun x => x != 0) with
              | true =>
                walk_at "zs"
                simp only [zFld_ins f1', f2]
                walk_at "zs"
                have : rs.any (spill B size) = true := List.any_eq_true.mpr ⟨rw, hm, by rw [hsv, hb]⟩
                rw [this]
                exact ⟨rfl, pre2⟩
              | false =>
                walk_at "zs"
                refine ⟨⟨_, _, rfl⟩, ?_⟩
                intro r hr hm2
                rcases List.mem_append.mp hm2 with hm2 | hm2
                · exact hsp r hr hm2
                · rw [hinj r (by simpa using hm2), hsv, hb]
            · simp only [h7]
              walk_at "zs"
              refine ⟨⟨_, _, rfl⟩, ?_⟩
              intro r hr hm2
              rcases List.mem_append.mp hm2 with hm2 | hm2
              · exact hsp r hr hm2
              · rw [hinj r (by simpa using hm2)]
                simp [spill, h7]
          · rintro ρ h2 ⟨rfl, ⟨v7, v8, rfl⟩, hsp⟩
            walk_at "zs"
            unfold m_tree_fault_7
            walk_at "zs"
            have : rs.any (spill B size) = false := by
              rw [List.any_eq_false]
              intro r hr
              rw [hsp r hr (List.mem_map.mpr ⟨r, hr, rfl⟩)]
              simp
            rw [this]
            exact ⟨rfl, pre2⟩
    · simp only [hh]
      walk_at "zs"
      simp only [zFld_ins f1, f4]
      walk_at "zs"
      exact ⟨rfl, pre⟩
end K89
namespace K89
open PySem PySem.Spec PyProof.Rows L2 Zm
local macro_rules | `(tactic| walk_at "zs") => `(tactic| try simp only [runD_Ok, r_dE_var, r_dE_lit, r_dE_glb, r_dE_bin, r_dE_neg, r_dE_cmp, r_dE_cmp2, r_dE_and, r_dE_or, r_dE_not, r_dE_ite, r_dE_tup, r_dE_lst, r_dE_dct0, r_dE_idx, r_dE_slc, r_dE_fld, r_dE_call, r_dE_mk, r_dE_mth, r_dE_bf, r_dE_bm, r_dE_isT, r_dE_comp, r_dX_tr, r_dX_and, r_dX_or, r_dX_not, r_dEs_nil, r_dEs_cons, r_dP_no, r_dP_some, r_dC_no, r_dC_some, r_dI_seq, r_dI_rng1, r_dI_rng2, r_dI_rrng1, r_dG_nm, r_dG_tup, r_dG_sub, r_dG_fld, r_dS_asg, r_dS_aug, r_dS_expr, r_dS_ret, r_dS_retN, r_dS_ite, r_dS_while, r_dS_for, r_dS_pass, r_dS_brk, r_dS_cont, r_dS_never, r_dSs_nil, r_dSs_cons, tgt, zBin, zCmp, Res.bind_ok, Ok_ok, Ok_bind, Ok_guard, List.length_cons, List.length_nil, List.map_cons, List.map_nil, List.replicate, List.nil_append, List.cons_append, List.getElem?_cons_zero, List.getElem?_cons_succ, List.set_cons_zero, List.set_cons_succ, Nat.reduceSub, Nat.reduceAdd, zAdd_int, zSub_int, zAddI_int, zMul_int, zDiv_int, zMod_int, zPow_int, zNeg_int, zLt_int, zLe_int, zGt_int, zGe_int, zEq_int, zNe_int, zIs_non, zIsNot_non, zTru_bl, zTru_int, zTru_non, zTru_tup, atI_0, atI_1, atI_2, atI_3, oRes_some, zIdx_tup, zBF_int, zBF_len_tup, zBF_list_tup, zBF_min, newL_eq, if_true, if_false, Bool.false_eq_true, reduceIte, zIsN, Bool.not_true, Bool.not_false, beq_self_eq_true, bne_self_eq_false, Int.reduceBNe, Int.reduceEq, decide_true, decide_false, true_and, and_true, if_true, if_false, List.isEmpty_cons, List.isEmpty_nil, setAll, List.all_cons, List.all_nil, flatZ, wipeZ, line_0, line_1, line_2, line_3, line_4, line_5, line_6, line_7, line_8, line_9])
theorem cmulL {i j : Int} (h1 : -(2 ^ 64) < i := by omega) (h2 : i < 2 ^ 64 := by omega) : CMul i j := .inl ⟨h1, h2⟩
theorem cmulR {i j : Int} (h1 : -(2 ^ 64) < j := by omega) (h2 : j < 2 ^ 64 := by omega) : CMul i j := .inr ⟨h1, h2⟩
theorem law_number (k : Nat) (ns : List Int) (i : Int) (h : Mh) (e : h[0]? = some (.fro (ns.map Z.int))) : Ok (prg.C (k + 1) f__law_number [.ob 0, .int i] h) fun z h' => (∃ n, z = .int n) ∧ h' = h := by
  rw [prg.call (b := m__law_number) rfl h rfl]
  unfold m__law_number m__law_number_1
  walk_at "zs"
  simp only [zBF_len_fro e, List.length_map]
  walk_at "zs"
  have key : ∀ c : Int, Ok (dSs (prg.C k) prg.gt.fl m__law_number_2 [some (.ob 0), some (.int i), some (.int c), none, none] h) fun g h' => match g with
      | .nx _ => (∃ n, Z.non = Z.int n) ∧ h' = h
      | .ret z => (∃ n, z = Z.int n) ∧ h' = h
      | _ => False := by
    intro c
    have key2 : ∀ c : Int, Ok (dSs (prg.C k) prg.gt.fl m__law_number_3 [some (.ob 0), some (.int i), some (.int c), none, none] h) fun g h' => match g with
        | .nx _ => (∃ n, Z.non = Z.int n) ∧ h' = h
        | .ret z => (∃ n, z = Z.int n) ∧ h' = h
        | _ => False := by
      intro c
      have key3 : Ok (dSs (prg.C k) prg.gt.fl m__law_number_4 [some (.ob 0), some (.int i), some (.int c), none, none] h) fun g h' => match g with
          | .nx _ => (∃ n, Z.non = Z.int n) ∧ h' = h
          | .ret z => (∃ n, z = Z.int n) ∧ h' = h
          | _ => False := by
        unfold m__law_number_4
        walk_at "zs"
        refine ⟨cmulR, cmulR, by omega, ?_⟩
        unfold m__law_number_5
        walk_at "zs"
        refine ⟨cmulR, cmulR, by omega, ?_⟩
        unfold m__law_number_6
        walk_at "zs"
        exact ⟨cmulR, cmulR, by omega, _, rfl⟩
      unfold m__law_number_3
      walk_at "zs"
      refine ⟨⟨by omega, by omega, by decide⟩, ?_⟩
      by_cases h1 : ((10 : Int) ^ (9 : Int).toNat ≤ c)
      · simp only [h1]
        walk_at "zs"
        simp only [zBF_len_fro e, List.length_map]
        walk_at "zs"
        by_cases h2 : i < (ns.length : Int)
        · simp only [h2]
          walk_at "zs"
          exact ⟨_, rfl⟩
        · simp only [h2]
          walk_at "zs"
          exact key3
      · simp only [h1]
        walk_at "zs"
        exact key3
    unfold m__law_number_2
    walk_at "zs"
    by_cases h1 : c < 0
    · simp only [h1]
      walk_at "zs"
      exact ⟨cmulL, key2 _⟩
    · simp only [h1]
      walk_at "zs"
      exact key2 _
  by_cases h1 : (0 : Int) < (ns.length : Int)
  · simp only [h1]
    walk_at "zs"
    simp only [zBF_len_fro e, List.length_map]
    walk_at "zs"
    refine ⟨h1, ?_⟩
    have b1 := Int.emod_nonneg i (show (ns.length : Int) ≠ 0 by omega)
    have b2 := Int.emod_lt_of_pos i h1
    have : atI (ns.map Z.int) (i % (ns.length : Int)) = some (.int ns[(i % (ns.length : Int)).toNat]) := atI_get b1 (by
      rw [List.getElem?_map, List.getElem?_eq_getElem (by omega)]
      rfl)
    simp only [zIdx_fro e, this]
    walk_at "zs"
    exact key _
  · simp only [h1]
    walk_at "zs"
    exact key _
theorem sort_perm (ns : List Int) : (sortI ns).Perm ns := List.mergeSort_perm _ _
theorem sort_le (ns : List Int) : (sortI ns).Pairwise (fun a b => a ≤ b) := by
  have := List.pairwise_mergeSort (le := fun a b : Int => decide (a ≤ b)) (fun a b c h1 h2 => by simp at *; omega) (fun a b => by simp; omega) ns
  exact this.imp fun h => by simpa using h
theorem intsOf_map : ∀ xs : List Int, intsOf (xs.map Z.int) = some xs
  | [] => rfl
  | x :: xs => by simp [intsOf, intsOf_map xs]
theorem zSorted_lst {a : Nat} {xs : List Int} {h : Mh} (e : h[a]? = some (.lst (xs.map Z.int))) : zBF .sorted [.ob a] h = .ok (.ob h.length) (h ++ [.lst ((sortI xs).map Z.int)]) := by
  simp only [zBF, e, intsOf_map, newL]
structure Keys (F : Nat) (ks : List Int) : Prop where
  lt : ks.Pairwise (fun a b => a < b)
  nn : ∀ x ∈ ks, 0 ≤ x
  last : ∃ m, m ≤ 3 ∧ ks.getLast? = some ((F : Int) ^ m - 1)
  len : ks.length ≤ 10
theorem law_keys (k b F : Nat) (n : Int) (h : Mh) (e : h[b]? = some (.lst [.int n])) (h1 : 1 < F) (h2 : F ≤ 128) :
    Ok (prg.C (k + 2) f__law_keys [.ob b, .int F] h) fun z h' => ∃ r ks n', z = .ob r ∧ h'[r]? = some (.lst (ks.map Z.int)) ∧ h'[b]? = some (.lst [.int n']) ∧ Chg [b] h h' ∧ h.length ≤ r ∧ Keys F ks := by
  rw [prg.call (b := m__law_keys) rfl h rfl]
  unfold m__law_keys
  walk_at "zs"
  refine ⟨cmulL, cmulL, cmulR, ?_⟩
  have e1 : (h ++ [Ob.lst [Z.int 1, Z.int ↑F, Z.int (↑F * ↑F), Z.int (↑F * ↑F * ↑F)]])[b]? = some (.lst [.int n]) := get_app e
  have hb := lt_of_get e
  refine (take (k) b n 4 _ e1 (by omega) (by omega)).mono ?_
  rintro z h' ⟨rfl, rfl⟩
  have b1 := Int.emod_nonneg n (show (4 : Int) ≠ 0 by omega)
  have b2 := Int.emod_lt_of_pos n (show (0 : Int) < 4 by omega)
  obtain ⟨m, hm, hm2⟩ : ∃ m : Nat, m ≤ 3 ∧ n % 4 = (m : Int) := ⟨(n % 4).toNat, by omega, by omega⟩
  rw [hm2]
  have ep : ((h ++ [Ob.lst [Z.int 1, Z.int ↑F, Z.int (↑F * ↑F), Z.int (↑F * ↑F * ↑F)]]).set b (.lst [.int (n / 4)]))[h.length]? = some (.lst [Z.int 1, Z.int ↑F, Z.int (↑F * ↑F), Z.int (↑F * ↑F * ↑F)]) := by
    rw [get_set_ne (by omega)]
    exact get_new
  have eb : ((h ++ [Ob.lst [Z.int 1, Z.int ↑F, Z.int (↑F * ↑F), Z.int (↑F * ↑F * ↑F)]]).set b (.lst [.int (n / 4)]))[b]? = some (.lst [.int (n / 4)]) := get_set e1
  have hc : Chg [b] h ((h ++ [Ob.lst [Z.int 1, Z.int ↑F, Z.int (↑F * ↑F), Z.int (↑F * ↑F * ↑F)]]).set b (.lst [.int (n / 4)])) := Chg.app.trans (Chg.set (.inl (by simp)))
  have hat : atI [Z.int 1, Z.int ↑F, Z.int (↑F * ↑F), Z.int (↑F * ↑F * ↑F)] (m : Int) = some (.int ((F : Int) ^ m)) := by
    rw [atI_nat]
    match m, hm with
    | 0, _ => rfl
    | 1, _ => simp [Int.pow_succ]
    | 2, _ => simp [Int.pow_succ]
    | 3, _ => simp [Int.pow_succ]
  simp only [zIdx_lst ep, hat]
  walk_at "zs"
  generalize (h ++ [Ob.lst [Z.int 1, Z.int ↑F, Z.int (↑F * ↑F), Z.int (↑F * ↑F * ↑F)]]).set b (.lst [.int (n / 4)]) = H at eb hc ⊢
  have hp : (0 : Int) < (F : Int) ^ m := Int.pow_pos (by omega)
  have hp2 : (F : Int) ^ m < 4000000 := by
    have a : F ^ m ≤ 128 ^ m := Nat.pow_le_pow_left h2 m
    have b : 128 ^ m ≤ 128 ^ 3 := Nat.pow_le_pow_right (by omega) hm
    have c : ((F ^ m : Nat) : Int) ≤ ((128 ^ 3 : Nat) : Int) := by omega
    rw [Int.natCast_pow] at c
    omega
  unfold m__law_keys_1
  walk_at "zs"
  unfold m__law_keys_2
  walk_at "zs"
  have eb2 : (H ++ [Ob.lst []])[b]? = some (.lst [.int (n / 4)]) := get_app eb
  refine (take k b _ 9 _ eb2 (by omega) (by omega)).mono ?_
  rintro z h' ⟨rfl, rfl⟩
  walk_at "zs"
  have hbH := lt_of_get eb
  have b3 := Int.emod_nonneg (n / 4) (show (9 : Int) ≠ 0 by omega)
  have b4 := Int.emod_lt_of_pos (n / 4) (show (0 : Int) < 9 by omega)
  have hcH : h.length ≤ H.length := hc.1
  refine for_rng (fun i ρ h1 => ∃ (xs : List Int) (n' : Int) (v4 : Option Z), ρ = [some (.ob b), some (.int F), some (.int ((F : Int) ^ m)), some (.ob H.length), v4, none, none] ∧ h1[H.length]? = some (.lst (xs.map Z.int)) ∧ h1[b]? = some (.lst [.int n']) ∧ Chg [b] h h1 ∧ (∀ x ∈ xs, 0 ≤ x ∧ x < (F : Int) ^ m) ∧ xs.length = i) (by omega) ⟨[], _, _, rfl, ?_, get_set eb2, ?_, by simp, rfl⟩ ?_ ?_
  · rw [get_set_ne (by omega)]
    exact get_new
  · exact (hc.trans Chg.app).trans (Chg.set (.inl (by simp)))
  · rintro i ρ h1 hi ⟨xs, n', v4, rfl, ex, en, hch, hx, hxl⟩
    walk_at "zs"
    refine ⟨bmOk_append ex, ?_⟩
    refine (take k b _ _ _ en hp hp2).mono ?_
    rintro z h' ⟨rfl, rfl⟩
    walk_at "zs"
    have ex2 : (h1.set b (.lst [.int (n' / (F : Int) ^ m)]))[H.length]? = some (.lst (xs.map Z.int)) := by
      rw [get_set_ne (by omega)]
      exact ex
    rw [zBM_append ex2 (by rw [line_eq, List.length_map]; omega)]
    walk_at "zs"
    refine ⟨xs ++ [n' % (F : Int) ^ m], n' / (F : Int) ^ m, _, rfl, ?_, ?_, ?_, ?_, ?_⟩
    · rw [get_set ex2]
      simp
    · rw [get_set_ne (by omega), get_set en]
    · exact (hch.trans (Chg.set (.inl (by simp)))).setN hcH
    · intro x hm2
      rcases List.mem_append.mp hm2 with hm2 | hm2
      · exact hx x hm2
      · simp at hm2
        subst hm2
        exact ⟨Int.emod_nonneg _ (by omega), Int.emod_lt_of_pos _ hp⟩
    · simp [hxl]
  · rintro ρ h1 ⟨xs, n', v4, rfl, ex, en, hch, hx, hxl⟩
    walk_at "zs"
    unfold m__law_keys_3
    walk_at "zs"
    refine ⟨bmOk_append ex, ?_⟩
    rw [zBM_append ex (by rw [line_eq, List.length_map]; omega)]
    walk_at "zs"
    unfold m__law_keys_4
    walk_at "zs"
    unfold m__law_keys_5
    walk_at "zs"
    rw [show xs.map Z.int ++ [Z.int ((F : Int) ^ m - 1)] = (xs ++ [(F : Int) ^ m - 1]).map Z.int by simp]
    have hHl := lt_of_get ex
    generalize hG : h1.set H.length (Ob.lst ((xs ++ [(F : Int) ^ m - 1]).map Z.int)) = G
    have ex2 : G[H.length]? = some (.lst ((xs ++ [(F : Int) ^ m - 1]).map Z.int)) := by rw [← hG]; exact get_set ex
    have en2 : G[b]? = some (.lst [.int n']) := by rw [← hG, get_set_ne (by omega)]; exact en
    have hch2 : Chg [b] h G := by rw [← hG]; exact hch.setN hcH
    have ex3 : (G ++ [Ob.lst []])[H.length]? = some (.lst ((xs ++ [(F : Int) ^ m - 1]).map Z.int)) := get_app ex2
    rw [zSorted_lst ex3]
    walk_at "zs"
    generalize hS : sortI (xs ++ [(F : Int) ^ m - 1]) = S
    have hSp : S.Perm (xs ++ [(F : Int) ^ m - 1]) := hS ▸ sort_perm _
    have hSs : S.Pairwise (fun a b => a ≤ b) := hS ▸ sort_le _
    have hSm : ∀ x ∈ S, 0 ≤ x ∧ x ≤ (F : Int) ^ m - 1 := by
      intro x hx1
      rcases List.mem_append.mp (hSp.mem_iff.mp hx1) with q | q
      · have := hx x q
        omega
      · simp at q
        omega
    have hSl : (F : Int) ^ m - 1 ∈ S := hSp.mem_iff.mpr (by simp)
    have hSn : S.length ≤ 10 := by
      rw [hSp.length_eq]
      simp
      omega
    have eS : (G ++ [Ob.lst []] ++ [Ob.lst (S.map Z.int)])[(G ++ [Ob.lst []]).length]? = some (.lst (S.map Z.int)) := get_new
    refine for_lst (fun dn ρ h2 => ∃ (ds ys : List Int) (v6 : Option Z), ρ = [some (.ob b), some (.int F), some (.int ((F : Int) ^ m)), some (.ob H.length), v4, some (.ob G.length), v6] ∧ dn = ds.map Z.int ∧ h2 = (G ++ [Ob.lst (ys.map Z.int)] ++ [Ob.lst (S.map Z.int)]) ∧ ys.Pairwise (fun a b => a < b) ∧ (∀ x, x ∈ ys ↔ x ∈ ds) ∧ ys.length ≤ ds.length) eS ⟨[], [], none, rfl, rfl, rfl, .nil, by simp, by simp⟩ ?_ ?_ ?_
    · rintro dn ρ h2 ⟨ds, ys, v6, rfl, rfl, rfl, _⟩
      rw [show (G ++ [Ob.lst []]).length = (G ++ [Ob.lst (ys.map Z.int)]).length by simp]
      exact get_new
    · rintro dn z rest ρ h2 ez ⟨ds, ys, v6, rfl, rfl, rfl, hys, hmem, hlen⟩
      obtain ⟨r2, hr2⟩ : ∃ r2 : List Int, S = ds ++ r2 ∧ z :: rest = r2.map Z.int := by
        obtain ⟨a, c, e1, e2, e3⟩ := List.map_eq_append_iff.mp ez
        have : a = ds := List.map_inj_right (by intro a b h; cases h; rfl) |>.mp e2
        subst this
        exact ⟨c, e1, e3.symm⟩
      obtain ⟨hr2, hr3⟩ := hr2
      cases r2 with
      | nil => simp at hr3
      | cons x r2 =>
        simp only [List.map_cons, List.cons.injEq] at hr3
        obtain ⟨rfl, rfl⟩ := hr3
        have ey : (G ++ [Ob.lst (ys.map Z.int)] ++ [Ob.lst (S.map Z.int)])[G.length]? = some (.lst (ys.map Z.int)) := get_app get_new
        have hds : ∀ y ∈ ds, y ≤ x := fun y hy => (List.pairwise_append.mp (hr2 ▸ hSs)).2.2 y hy x (by simp)
        walk_at "zs"
        unfold m__law_keys_5b0
        walk_at "zs"
        simp only [zNotIn_lst ey]
        walk_at "zs"
        have hyl : ys.length ≤ 10 := by
          have := congrArg List.length hr2
          simp at this
          omega
        by_cases hxy : x ∈ ys
        · simp only [hxy]
          walk_at "zs"
          refine ⟨ds ++ [x], ys, _, rfl, by simp, rfl, hys, ?_, by simp; omega⟩
          intro y
          rw [hmem, List.mem_append]
          constructor
          · exact .inl
          · rintro (q | q)
            · exact q
            · simp at q
              subst q
              exact (hmem y).mp hxy
        · simp only [hxy]
          walk_at "zs"
          refine ⟨bmOk_append ey, ?_⟩
          rw [zBM_append ey (by rw [line_eq, List.length_map]; omega)]
          walk_at "zs"
          refine ⟨ds ++ [x], ys ++ [x], _, rfl, by simp, ?_, ?_, ?_, by simp; omega⟩
          · simp [List.set_append]
          · rw [List.pairwise_append]
            refine ⟨hys, by simp, fun a ha c hc => ?_⟩
            simp at hc
            subst hc
            have h1 := hds a ((hmem a).mp ha)
            have h2 : a ≠ c := fun q => hxy (q ▸ ha)
            omega
          · intro y
            simp [hmem]
    · rintro ρ h2 ⟨ds, ys, v6, rfl, e5, rfl, hys, hmem, hlen⟩
      have : S = ds := List.map_inj_right (by intro a b h; cases h; rfl) |>.mp e5
      subst this
      walk_at "zs"
      unfold m__law_keys_6
      walk_at "zs"
      refine ⟨_, ys, n', rfl, get_app get_new, get_app (get_app en2), (hch2.trans Chg.app).trans Chg.app, ?_, hys, ?_, ⟨m, hm, ?_⟩, by omega⟩
      · have := hch2.1
        omega
      · intro x hx1
        exact (hSm x ((hmem x).mp hx1)).1
      · rcases List.eq_nil_or_concat ys with rfl | ⟨y0, l, rfl⟩
        · have := (hmem _).mpr hSl
          simp at this
        · have hm1 := (hmem _).mpr hSl
          have hl1 := hSm l ((hmem l).mp (by simp))
          rw [List.concat_eq_append] at hm1 hys ⊢
          rcases List.mem_append.mp hm1 with q | q
          · have := (List.pairwise_append.mp hys).2.2 _ q l (by simp)
            omega
          · simp at q
            simp [q]
end K89
namespace K89
open PySem PySem.Spec PyProof.Rows L2 Zm
local macro_rules | `(tactic| walk_at "zs") => `(tactic| try simp only [runD_Ok, r_dE_var, r_dE_lit, r_dE_glb, r_dE_bin, r_dE_neg, r_dE_cmp, r_dE_cmp2, r_dE_and, r_dE_or, r_dE_not, r_dE_ite, r_dE_tup, r_dE_lst, r_dE_dct0, r_dE_idx, r_dE_slc, r_dE_fld, r_dE_call, r_dE_mk, r_dE_mth, r_dE_bf, r_dE_bm, r_dE_isT, r_dE_comp, r_dX_tr, r_dX_and, r_dX_or, r_dX_not, r_dEs_nil, r_dEs_cons, r_dP_no, r_dP_some, r_dC_no, r_dC_some, r_dI_seq, r_dI_rng1, r_dI_rng2, r_dI_rrng1, r_dG_nm, r_dG_tup, r_dG_sub, r_dG_fld, r_dS_asg, r_dS_aug, r_dS_expr, r_dS_ret, r_dS_retN, r_dS_ite, r_dS_while, r_dS_for, r_dS_pass, r_dS_brk, r_dS_cont, r_dS_never, r_dSs_nil, r_dSs_cons, tgt, zBin, zCmp, Res.bind_ok, Ok_ok, Ok_bind, Ok_guard, List.length_cons, List.length_nil, List.map_cons, List.map_nil, List.replicate, List.nil_append, List.cons_append, List.getElem?_cons_zero, List.getElem?_cons_succ, List.set_cons_zero, List.set_cons_succ, Nat.reduceSub, Nat.reduceAdd, zAdd_int, zSub_int, zAddI_int, zMul_int, zDiv_int, zMod_int, zPow_int, zNeg_int, zLt_int, zLe_int, zGt_int, zGe_int, zEq_int, zNe_int, zIs_non, zIsNot_non, zTru_bl, zTru_int, zTru_non, zTru_tup, atI_0, atI_1, atI_2, atI_3, oRes_some, zIdx_tup, zBF_int, zBF_len_tup, zBF_list_tup, zBF_min, newL_eq, if_true, if_false, Bool.false_eq_true, reduceIte, zIsN, Bool.not_true, Bool.not_false, beq_self_eq_true, bne_self_eq_false, Int.reduceBNe, Int.reduceEq, decide_true, decide_false, true_and, and_true, if_true, if_false, List.isEmpty_cons, List.isEmpty_nil, setAll, List.all_cons, List.all_nil, flatZ, wipeZ, line_0, line_1, line_2, line_3, line_4, line_5, line_6, line_7, line_8, line_9])
def pairZ (c : Int × Int) : Z := .tup [.int c.1, .int c.2]
def upZ (u : Up) : Z := .tup [.int u.q, .int u.id]
/-- the rows of a level being made: list objects -/
structure RowsAt (h : Mh) (lo : Nat) (ads : List Nat) (us : List Up) : Prop where
  len : ads.length = us.length
  nd : ads.Nodup
  ge : ∀ x ∈ ads, lo ≤ x ∧ x < h.length
  at_ : ∀ (i x : Nat) (u : Up), ads[i]? = some x → us[i]? = some u → h[x]? = some (Ob.lst (u.row.map Z.int))
theorem RowsAt.mono {h h' : Mh} {lo : Nat} {ads : List Nat} {us : List Up} (r : RowsAt h lo ads us) (c : h.length ≤ h'.length) (s : ∀ x ∈ ads, ∀ o, h[x]? = some o → h'[x]? = some o) : RowsAt h' lo ads us :=
  ⟨r.len, r.nd, fun x m => ⟨(r.ge x m).1, by have := (r.ge x m).2; omega⟩, fun i x u e1 e2 => s x (List.mem_of_getElem? e1) _ (r.at_ i x u e1 e2)⟩
theorem RowsAt.snoc {h : Mh} {lo x : Nat} {ads : List Nat} {us : List Up} {u : Up} (r : RowsAt h lo ads us) (hx : h[x]? = some (.lst (u.row.map Z.int))) (hn : x ∉ ads) (hl : lo ≤ x) : RowsAt h lo (ads ++ [x]) (us ++ [u]) := by
  refine ⟨by simp [r.len], ?_, ?_, ?_⟩
  · rw [List.nodup_append]
    refine ⟨r.nd, by simp, fun a ha b hb => ?_⟩
    simp at hb
    subst hb
    rintro rfl
    exact hn ha
  · intro y hy
    rcases List.mem_append.mp hy with hy | hy
    · exact r.ge y hy
    · simp at hy
      subst hy
      exact ⟨hl, lt_of_get hx⟩
  · intro i y v e1 e2
    by_cases hi : i < ads.length
    · rw [List.getElem?_append_left hi] at e1
      rw [List.getElem?_append_left (by rw [← r.len]; exact hi)] at e2
      exact r.at_ i y v e1 e2
    · rw [List.getElem?_append_right (by omega)] at e1
      rw [List.getElem?_append_right (by rw [← r.len]; omega)] at e2
      have hi2 : i - ads.length = 0 := by
        have := (List.getElem?_eq_some_iff.mp e1).1
        simp at this
        omega
      rw [hi2] at e1
      rw [← r.len, hi2] at e2
      simp at e1 e2
      subst e1 e2
      exact hx
theorem RowsAt.last {h : Mh} {lo x : Nat} {ads : List Nat} {us : List Up} {u : Up} (r : RowsAt h lo (ads ++ [x]) (us ++ [u])) : RowsAt h lo ads us ∧ h[x]? = some (.lst (u.row.map Z.int)) ∧ x ∉ ads := by
  have hl : ads.length = us.length := by
    have := r.len
    simp at this
    exact this
  have hnd := List.nodup_append.mp r.nd
  refine ⟨⟨hl, hnd.1, fun y m => r.ge y (by simp [m]), fun i y v e1 e2 => ?_⟩, ?_, fun m => hnd.2.2 x m x (by simp) rfl⟩
  · refine r.at_ i y v ?_ ?_
    · rw [List.getElem?_append_left (List.getElem?_eq_some_iff.mp e1).1]
      exact e1
    · rw [List.getElem?_append_left (List.getElem?_eq_some_iff.mp e2).1]
      exact e2
  · refine r.at_ ads.length x u (by simp) ?_
    rw [hl]
    simp
/-- a level half way: pairs done, what is made of them -/
structure Mid (F j : Nat) (ids : List Int) (at0 : Nat) (dn : List (Int × Int)) (us : List Up) : Prop where
  ups : ∀ D is rs, Lev D F j dn is rs → Ups D F j us is rs
  le : us.length ≤ dn.length
  ids : us.map (·.id) = (ids.drop at0).take us.length
  asc : (us.map (·.q)).Pairwise (fun a b => a < b)
  nn : ∀ u ∈ us, 0 ≤ u.q
  nil : us = [] → dn = []
  last : ∀ us0 u, us = us0 ++ [u] → ∃ c, dn.getLast? = some c ∧ u.q = c.1 / F ∧ u.row.length = F ∧ ∀ t : Nat, c.1 % F < (t : Int) → t < F → u.row[t]? = some 0
theorem mid_nil {F j at0 : Nat} {ids : List Int} : Mid F j ids at0 [] [] := ⟨fun D is rs h => h, by simp, by simp, by simp, by simp, fun _ => rfl, by simp⟩
theorem lev_snoc {D : Blk} {F j : Nat} {a : List (Int × Int)} {p id : Int} {is : List Int} {rs : List Row} (h : Lev D F j (a ++ [(p, id)]) is rs) : ∃ i1 r1 i2 r2, Lev D F j a i1 r1 ∧ Good D F j p id i2 r2 ∧ is = i1 ++ i2 ∧ rs = r1 ++ r2 := by
  obtain ⟨i1, r1, i2, r2, i3, r3, h1, h2, ⟨rfl, rfl⟩, rfl, rfl⟩ := lev_split h
  exact ⟨i1, r1, i2, r2, h1, h2, by simp, by simp⟩
theorem mod_parts (p : Int) (F : Nat) (hF : 0 < F) (hp : 0 ≤ p) : ∃ t : Nat, t < F ∧ p % F = (t : Int) ∧ p = p / F * F + t ∧ p - p / F * F = (t : Int) := by
  have h1 := Int.emod_nonneg p (show (F : Int) ≠ 0 by omega)
  have h2 := Int.emod_lt_of_pos p (show (0 : Int) < F by omega)
  have h3 := Int.mul_ediv_add_emod p F
  rw [Int.mul_comm] at h3
  exact ⟨(p % F).toNat, by omega, by omega, by omega, by omega⟩
theorem mid_new {F j at0 : Nat} {ids : List Int} {dn : List (Int × Int)} {us : List Up} {p id y : Int} {t : Nat} (m : Mid F j ids at0 dn us) (hF : 0 < F) (hp : 0 ≤ p) (hlt : ∀ c ∈ dn, c.1 < p) (hid : id ≠ 0) (hy : ids[at0 + us.length]? = some y) (ht : t < F) (hpt : p = p / F * F + t)
    (hne : ∀ us0 u, us = us0 ++ [u] → u.q ≠ p / F) : Mid F j ids at0 (dn ++ [(p, id)]) (us ++ [⟨p / F, y, (List.replicate F 0).set t id⟩]) := by
  refine ⟨?_, by have := m.le; simp; omega, ?_, ?_, ?_, by simp, ?_⟩
  · intro D is rs h
    obtain ⟨i1, r1, i2, r2, h1, h2, rfl, rfl⟩ := lev_snoc h
    exact ups_new (m.ups _ _ _ h1) h2 hpt ht hid
  · rw [List.map_append, m.ids, List.length_append, List.map_cons, List.map_nil, List.length_cons, List.length_nil]
    rw [List.take_add_one, List.getElem?_drop, hy]
    rfl
  · rw [List.map_append, List.pairwise_append]
    refine ⟨m.asc, by simp, fun a ha b hb => ?_⟩
    simp at hb
    subst hb
    rcases List.eq_nil_or_concat us with rfl | ⟨us0, u, rfl⟩
    · simp at ha
    · rw [List.concat_eq_append] at *
      obtain ⟨c, hc, hq, _, _⟩ := m.last us0 u rfl
      have hcp := hlt c (List.mem_of_getLast? hc)
      have hle : c.1 / (F : Int) ≤ p / F := Int.ediv_le_ediv (by omega) (by omega)
      have hn := hne us0 u rfl
      have hau : a ≤ u.q := by
        have := m.asc
        rw [List.map_append, List.pairwise_append] at this
        rw [List.map_append] at ha
        rcases List.mem_append.mp ha with q | q
        · exact Int.le_of_lt (this.2.2 a q u.q (by simp))
        · simp at q
          omega
      omega
  · intro u hu
    rcases List.mem_append.mp hu with hu | hu
    · exact m.nn u hu
    · simp at hu
      subst hu
      exact Int.ediv_nonneg hp (by omega)
  · intro us0 u e
    obtain ⟨rfl, e2⟩ := List.append_inj_left' e (by simp) |> fun h1 => (⟨h1, List.append_inj_right' e (by simp)⟩ : us = us0 ∧ _)
    simp at e2
    subst e2
    refine ⟨(p, id), by simp, rfl, by simp, fun t2 h1 h2 => ?_⟩
    have : p % F = (t : Int) := by
      have := Int.mul_ediv_add_emod p F
      rw [Int.mul_comm] at this
      omega
    simp only [this] at h1
    rw [List.getElem?_set_ne (by omega)]
    simp [h2]
theorem mid_old {F j at0 : Nat} {ids : List Int} {dn : List (Int × Int)} {us : List Up} {u : Up} {p id : Int} {t : Nat} (m : Mid F j ids at0 dn (us ++ [u])) (hF : 0 < F) (hp : 0 ≤ p) (hlt : ∀ c ∈ dn, c.1 < p) (hid : id ≠ 0) (ht : t < F) (hpt : p = p / F * F + t) (hq : u.q = p / F) :
    Mid F j ids at0 (dn ++ [(p, id)]) (us ++ [⟨u.q, u.id, u.row.set t id⟩]) := by
  obtain ⟨c, hc, hcq, hrl, hz⟩ := m.last us u rfl
  have hcp := hlt c (List.mem_of_getLast? hc)
  have hpm : p % F = (t : Int) := by
    have := Int.mul_ediv_add_emod p F
    rw [Int.mul_comm] at this
    omega
  have hcm : c.1 % F < (t : Int) := by
    have := Int.mul_ediv_add_emod c.1 F
    rw [Int.mul_comm, ← hcq, hq] at this
    omega
  refine ⟨?_, by have := m.le; simp at *; omega, ?_, ?_, ?_, by simp, ?_⟩
  · intro D is rs h
    obtain ⟨i1, r1, i2, r2, h1, h2, rfl, rfl⟩ := lev_snoc h
    refine ups_old (m.ups _ _ _ h1) h2 (by rw [hq]; exact hpt) ht hid fun t2 h3 h4 => hz t2 (by omega) h4
  · have := m.ids
    simpa using this
  · have := m.asc
    simpa using this
  · intro v hv
    rcases List.mem_append.mp hv with hv | hv
    · exact m.nn v (by simp [hv])
    · simp at hv
      subst hv
      exact m.nn u (by simp)
  · intro us0 v e
    have e2 := List.append_inj_right' e (by simp)
    simp at e2
    subst e2
    refine ⟨(p, id), by simp, hq, by simpa using hrl, fun t2 h1 h2 => ?_⟩
    simp only [hpm] at h1
    rw [List.getElem?_set_ne (by omega)]
    exact hz t2 (by omega) h2
end K89
namespace K89
open PySem PySem.Spec PyProof.Rows L2 Zm
local macro_rules | `(tactic| walk_at "zs") => `(tactic| try simp only [runD_Ok, r_dE_var, r_dE_lit, r_dE_glb, r_dE_bin, r_dE_neg, r_dE_cmp, r_dE_cmp2, r_dE_and, r_dE_or, r_dE_not, r_dE_ite, r_dE_tup, r_dE_lst, r_dE_dct0, r_dE_idx, r_dE_slc, r_dE_fld, r_dE_call, r_dE_mk, r_dE_mth, r_dE_bf, r_dE_bm, r_dE_isT, r_dE_comp, r_dX_tr, r_dX_and, r_dX_or, r_dX_not, r_dEs_nil, r_dEs_cons, r_dP_no, r_dP_some, r_dC_no, r_dC_some, r_dI_seq, r_dI_rng1, r_dI_rng2, r_dI_rrng1, r_dG_nm, r_dG_tup, r_dG_sub, r_dG_fld, r_dS_asg, r_dS_aug, r_dS_expr, r_dS_ret, r_dS_retN, r_dS_ite, r_dS_while, r_dS_for, r_dS_pass, r_dS_brk, r_dS_cont, r_dS_never, r_dSs_nil, r_dSs_cons, tgt, zBin, zCmp, Res.bind_ok, Ok_ok, Ok_bind, Ok_guard, List.length_cons, List.length_nil, List.map_cons, List.map_nil, List.replicate, List.nil_append, List.cons_append, List.getElem?_cons_zero, List.getElem?_cons_succ, List.set_cons_zero, List.set_cons_succ, Nat.reduceSub, Nat.reduceAdd, zAdd_int, zSub_int, zAddI_int, zMul_int, zDiv_int, zMod_int, zPow_int, zNeg_int, zLt_int, zLe_int, zGt_int, zGe_int, zEq_int, zNe_int, zIs_non, zIsNot_non, zTru_bl, zTru_int, zTru_non, zTru_tup, atI_0, atI_1, atI_2, atI_3, oRes_some, zIdx_tup, zBF_int, zBF_len_tup, zBF_list_tup, zBF_min, newL_eq, if_true, if_false, Bool.false_eq_true, reduceIte, zIsN, Bool.not_true, Bool.not_false, beq_self_eq_true, bne_self_eq_false, Int.reduceBNe, Int.reduceEq, decide_true, decide_false, true_and, and_true, if_true, if_false, List.isEmpty_cons, List.isEmpty_nil, setAll, List.all_cons, List.all_nil, flatZ, wipeZ, line_0, line_1, line_2, line_3, line_4, line_5, line_6, line_7, line_8, line_9])
theorem replicate_one (n : Nat) (x : Z) : (List.replicate n [x]).flatten = List.replicate n x := by
  induction n with
  | zero => rfl
  | succ n ih => rw [List.replicate_succ, List.flatten_cons, ih]; rfl
theorem zMul_lst {a n : Nat} {x : Z} {h : Mh} (e : h[a]? = some (.lst [x])) (hn : n ≤ 1000) : zMul (.ob a) (.int (n : Int)) h = .ok (.ob h.length) (h ++ [.lst (List.replicate n x)]) := by
  simp only [zMul, e]
  rw [guard_pos ⟨by omega, by omega, by rw [line_eq]; simp; omega⟩, Int.toNat_natCast, replicate_one]
  rfl
theorem zBF_len_len {a : Nat} {zs : List Z} {h : Mh} (e : h[a]? = some (.lst zs)) : zBF .len [.ob a] h = .ok (.int zs.length) h := zBF_len_lst e
section
variable {k a kA iA d L at0 j F : Nat} {B : Int} {ids : List Int}
theorem pair_tail {U W x t : Nat} {us0 : List Up} {u : Up} {ads0 : List Nat} {p id : Int} {v5 v11 at_ : Option Z} {h : Mh} {fs : List (Nat × Z)} (e1 : h[a]? = some (.ins 0 fs)) (e2 : lookF fs 4 = some (.int F))
    (eU : h[U]? = some (.lst ((us0 ++ [u]).map upZ))) (eW : h[W]? = some (.lst ((ads0 ++ [x]).map Z.ob))) (ex : h[x]? = some (.lst (u.row.map Z.int))) (hl : u.row.length = F) (ht : t < F) (hp : p - u.q * F = (t : Int)) (hF : F ≤ 128) {Q : Fl → Mh → Prop}
    (hQ : ∀ v11, Q (.nx [some (.ob a), some (.ob kA), some (.ob iA), some (.ob d), some (.ob L), v5, at_, some (.int j), some (.ob U), some (.ob W), some (pairZ (p, id)), v11]) (h.set x (.lst ((u.row.set t id).map Z.int)))) :
    Ok (dSs (prg.C k) prg.gt.fl m__law_tree_5b2b1 [some (.ob a), some (.ob kA), some (.ob iA), some (.ob d), some (.ob L), v5, at_, some (.int j), some (.ob U), some (.ob W), some (pairZ (p, id)), v11] h) Q := by
  unfold m__law_tree_5b2b1
  walk_at "zs"
  have a1 : atI ((ads0 ++ [x]).map Z.ob) (-1) = some (.ob x) := atI_end (by simp)
  have a2 : atI ((us0 ++ [u]).map upZ) (-1) = some (upZ u) := atI_end (by simp)
  simp only [zIdx_lst eW, a1]
  walk_at "zs"
  unfold m__law_tree_5b2b2
  walk_at "zs"
  unfold pairZ
  walk_at "zs"
  simp only [zIdx_lst eU, a2]
  walk_at "zs"
  unfold upZ
  walk_at "zs"
  simp only [zFld_ins e1, e2]
  walk_at "zs"
  rw [hp]
  have hk : ixN (u.row.map Z.int).length (t : Int) = some t := by
    have := ixN_get (n := (u.row.map Z.int).length) (i := (t : Int)) (by omega) (by simp; omega)
    simpa using this
  refine ⟨cmulR, ?_⟩
  rw [zSet_lst ex hk]
  walk_at "zs"
  rw [← List.map_set]
  exact hQ _
theorem tree_pairs {B : Int} {lv : List (Int × Int)} {g : Mh} {v5 v8 v9 v10 v11 : Option Z} {Q : Fl → Mh → Prop} (hl : isLay g a F B) (h1 : 1 < F) (h2 : F ≤ 128) (ei : g[iA]? = some (.lst (ids.map Z.int))) (eL : g[L]? = some (.lst (lv.map pairZ)))
    (hlt : (lv.map (·.1)).Pairwise (fun a b => a < b)) (hnn : ∀ c ∈ lv, 0 ≤ c.1) (hid : ∀ c ∈ lv, c.2 ≠ 0) (hln : lv.length ≤ 10) (hat : at0 + lv.length ≤ ids.length)
    (hQ : ∀ us ads v10 v11 h1, Mid F j ids at0 lv us → RowsAt h1 (g.length + 2) ads us → h1[g.length]? = some (.lst (us.map upZ)) → h1[g.length + 1]? = some (.lst (ads.map Z.ob)) → Chg [] g h1 →
      Ok (dSs (prg.C k) prg.gt.fl m__law_tree_5b3 [some (.ob a), some (.ob kA), some (.ob iA), some (.ob d), some (.ob L), v5, some (.int ((at0 + us.length : Nat) : Int)), some (.int j), some (.ob g.length), some (.ob (g.length + 1)), v10, v11] h1) Q) :
    Ok (dSs (prg.C k) prg.gt.fl m__law_tree_5b0 [some (.ob a), some (.ob kA), some (.ob iA), some (.ob d), some (.ob L), v5, some (.int (at0 : Int)), some (.int j), v8, v9, v10, v11] g) Q := by
  unfold m__law_tree_5b0
  walk_at "zs"
  unfold m__law_tree_5b1
  walk_at "zs"
  unfold m__law_tree_5b2
  walk_at "zs"
  simp only [List.length_append, List.length_cons, List.length_nil, Nat.zero_add]
  have eL2 : (g ++ [Ob.lst []] ++ [Ob.lst []])[L]? = some (.lst (lv.map pairZ)) := get_app (get_app eL)
  have hLl := lt_of_get eL
  refine for_lst (fun dn ρ h1 => ∃ (ds : List (Int × Int)) (us : List Up) (ads : List Nat) (v10 v11 : Option Z), dn = ds.map pairZ ∧ ρ = [some (.ob a), some (.ob kA), some (.ob iA), some (.ob d), some (.ob L), v5, some (.int ((at0 + us.length : Nat) : Int)), some (.int j), some (.ob g.length), some (.ob (g.length + 1)), v10, v11] ∧ Mid F j ids at0 ds us ∧ RowsAt h1 (g.length + 2) ads us ∧ h1[g.length]? = some (.lst (us.map upZ)) ∧ h1[g.length + 1]? = some (.lst (ads.map Z.ob)) ∧ Chg [] g h1) eL2 ⟨[], [], [], _, _, rfl, rfl, mid_nil, ⟨rfl, List.nodup_nil, by simp, by simp⟩, by simp, by simp, Chg.app.trans Chg.app⟩ ?_ ?_ ?_
  · rintro dn ρ h1 ⟨ds, us, ads, v10, v11, rfl, rfl, mid, ra, eU, eW, ch⟩
    exact ch.get (by simp) eL
  · rintro dn z rest ρ h3 ez ⟨ds, us, ads, v10, v11, rfl, rfl, mid, ra, eU, eW, ch⟩
    obtain ⟨c, cs, rfl, rfl⟩ : ∃ c cs, lv = ds ++ c :: cs ∧ z = pairZ c := by
      obtain ⟨x, y, e1, e2, e3⟩ := List.map_eq_append_iff.mp ez
      have hinj : ∀ a b : Int × Int, pairZ a = pairZ b → a = b := by
        rintro ⟨a1, a2⟩ ⟨b1, b2⟩ e
        simp [pairZ] at e
        simp [e]
      have := List.map_inj_right hinj |>.mp e2
      subst this
      cases y with
      | nil => simp at e3
      | cons c cs =>
        simp at e3
        exact ⟨c, cs, e1, e3.1.symm⟩
    obtain ⟨p, id⟩ := c
    have hp : 0 ≤ p := hnn (p, id) (by simp)
    have hidn : id ≠ 0 := hid (p, id) (by simp)
    have hds : ∀ c ∈ ds, c.1 < p := by
      intro c hc
      rw [List.map_append, List.pairwise_append] at hlt
      exact hlt.2.2 c.1 (List.mem_map.mpr ⟨c, hc, rfl⟩) p (by simp)
    obtain ⟨t, ht, hpm, hpe, hpd⟩ := mod_parts p F (by omega) hp
    obtain ⟨fs, e1, e2, e3⟩ := hl
    have f1 : h3[a]? = some (.ins 0 fs) := ch.get (by simp) e1
    have fi : h3[iA]? = some (.lst (ids.map Z.int)) := ch.get (by simp) ei
    have hU := lt_of_get eU
    have hW := lt_of_get eW
    have hul : us.length ≤ 10 := by
      have := mid.le
      simp at hln
      omega
    have hal := ra.len
    walk_at "zs"
    unfold m__law_tree_5b2b0
    walk_at "zs"
    simp only [zBF_len_lst eU, List.length_map]
    walk_at "zs"
    -- a new block
    have fresh : (∀ us0 u, us = us0 ++ [u] → u.q ≠ p / F) → ∀ v11, Ok (dSs (prg.C k) prg.gt.fl m__law_tree_5b2b0b0 [some (.ob a), some (.ob kA), some (.ob iA), some (.ob d), some (.ob L), v5, some (.int ((at0 + us.length : Nat) : Int)), some (.int j), some (.ob g.length), some (.ob (g.length + 1)), some (pairZ (p, id)), v11] h3) fun fl h4 => ∃ y x, fl = .nx [some (.ob a), some (.ob kA), some (.ob iA), some (.ob d), some (.ob L), v5, some (.int ((at0 + (us.length + 1) : Nat) : Int)), some (.int j), some (.ob g.length), some (.ob (g.length + 1)), some (pairZ (p, id)), v11] ∧ ids[at0 + us.length]? = some y ∧ h4[g.length]? = some (.lst ((us ++ [Up.mk (p / F) y (List.replicate F 0)]).map upZ)) ∧ h4[g.length + 1]? = some (.lst ((ads ++ [x]).map Z.ob)) ∧ RowsAt h4 (g.length + 2) (ads ++ [x]) (us ++ [Up.mk (p / F) y (List.replicate F 0)]) ∧ Chg [] g h4 := by
      intro hne v11
      unfold m__law_tree_5b2b0b0
      walk_at "zs"
      refine ⟨bmOk_append eU, ?_⟩
      unfold pairZ
      walk_at "zs"
      simp only [zFld_ins f1, e2]
      walk_at "zs"
      refine ⟨CDivW_small (by omega) (by omega), ?_⟩
      have hlen : at0 + us.length < ids.length := by
        have := mid.le
        simp at hat
        omega
      obtain ⟨y, hy⟩ : ∃ y, ids[at0 + us.length]? = some y := ⟨_, List.getElem?_eq_getElem hlen⟩
      have hya : atI (ids.map Z.int) ((at0 + us.length : Nat) : Int) = some (.int y) := by
        rw [atI_nat]
        simp [hy]
      simp only [zIdx_lst fi, hya]
      walk_at "zs"
      rw [zBM_append eU (by rw [line_eq]; simp; omega)]
      walk_at "zs"
      unfold m__law_tree_5b2b0b1
      walk_at "zs"
      have eW2 : (h3.set g.length (.lst (us.map upZ ++ [Z.tup [.int (p / F), .int y]])))[g.length + 1]? = some (.lst (ads.map Z.ob)) := by
        rw [get_set_ne (by omega)]
        exact eW
      refine ⟨bmOk_append eW2, ?_⟩
      generalize hh4 : h3.set g.length (.lst (us.map upZ ++ [Z.tup [.int (p / F), .int y]])) = h4 at *
      have f4 : h4[a]? = some (.ins 0 fs) := by
        rw [← hh4, get_set_ne (by have := lt_of_get e1; omega)]
        exact f1
      have f5 : (h4 ++ [Ob.lst [Z.int 0]])[a]? = some (.ins 0 fs) := get_app f4
      simp only [zFld_ins f5, e2]
      walk_at "zs"
      rw [zMul_lst get_new (by omega)]
      walk_at "zs"
      have eW3 : (h4 ++ [Ob.lst [Z.int 0]] ++ [Ob.lst (List.replicate F (Z.int 0))])[g.length + 1]? = some (.lst (ads.map Z.ob)) := get_app (get_app eW2)
      rw [zBM_append eW3 (by rw [line_eq]; simp; omega)]
      walk_at "zs"
      unfold m__law_tree_5b2b0b2
      walk_at "zs"
      have hl4 : h4.length = h3.length := by rw [← hh4]; simp
      have eU4 : h4[g.length]? = some (.lst (us.map upZ ++ [Z.tup [.int (p / F), .int y]])) := by rw [← hh4]; exact get_set eU
      refine ⟨y, h4.length + 1, ?_, hy, ?_, ?_, ?_, ?_⟩
      · simp [pairZ]
        omega
      · rw [get_set_ne (by omega), get_app (get_app eU4)]
        simp [upZ]
      · rw [get_set eW3]
        simp
      · have hfr : ∀ x ∈ ads, x < h3.length := fun x hx => (ra.ge x hx).2
        refine RowsAt.snoc (ra.mono (by simp; omega) ?_) ?_ ?_ ?_
        · intro x hx o eo
          have h5 := (ra.ge x hx)
          rw [get_set_ne (by omega)]
          refine get_app (get_app ?_)
          rw [← hh4, get_set_ne (by omega)]
          exact eo
        · rw [get_set_ne (by omega)]
          simp
        · intro hm
          have := hfr _ hm
          omega
        · omega
      · refine Chg.setN ((Chg.trans ?_ Chg.app).trans Chg.app) (by omega)
        rw [← hh4]
        exact ch.setN (Nat.le_refl _)
    have done : ∀ (us0 : List Up) (u : Up) (ads0 : List Nat) (x n : Nat) (v11 : Option Z) (h4 : Mh), n = (us0 ++ [u]).length → h4[g.length]? = some (.lst ((us0 ++ [u]).map upZ)) → h4[g.length + 1]? = some (.lst ((ads0 ++ [x]).map Z.ob)) → RowsAt h4 (g.length + 2) (ads0 ++ [x]) (us0 ++ [u]) → Chg [] g h4 → u.row.length = F → u.q = p / F → Mid F j ids at0 (ds ++ [(p, id)]) (us0 ++ [Up.mk u.q u.id (u.row.set t id)]) →
        Ok (dSs (prg.C k) prg.gt.fl m__law_tree_5b2b1 [some (.ob a), some (.ob kA), some (.ob iA), some (.ob d), some (.ob L), v5, some (.int ((at0 + n : Nat) : Int)), some (.int j), some (.ob g.length), some (.ob (g.length + 1)), some (pairZ (p, id)), v11] h4) fun fl h5 => match fl with
          | .nx ρ => ∃ (ds2 : List (Int × Int)) (us : List Up) (ads : List Nat) (v10 v11 : Option Z), ds.map pairZ ++ [pairZ (p, id)] = ds2.map pairZ ∧ ρ = [some (.ob a), some (.ob kA), some (.ob iA), some (.ob d), some (.ob L), v5, some (.int ((at0 + us.length : Nat) : Int)), some (.int j), some (.ob g.length), some (.ob (g.length + 1)), v10, v11] ∧ Mid F j ids at0 ds2 us ∧ RowsAt h5 (g.length + 2) ads us ∧ h5[g.length]? = some (.lst (us.map upZ)) ∧ h5[g.length + 1]? = some (.lst (ads.map Z.ob)) ∧ Chg [] g h5
          | .cont ρ => False
          | .brk ρ => False
          | .ret z => False := by
      intro us0 u ads0 x n v11 h4 hn eU4 eW4 ra4 ch4 hrl hq mid4
      subst hn
      obtain ⟨ra5, ex, hxn⟩ := ra4.last
      have hxge := ra4.ge x (by simp)
      have f4 : h4[a]? = some (.ins 0 fs) := ch4.get (by simp) e1
      refine pair_tail (t := t) f4 e2 eU4 eW4 ex hrl ht (by rw [hq]; exact hpd) h2 fun v11 => ?_
      refine ⟨ds ++ [(p, id)], us0 ++ [Up.mk u.q u.id (u.row.set t id)], ads0 ++ [x], some (pairZ (p, id)), v11, by simp, by simp, mid4, ?_, ?_, ?_, ?_⟩
      · refine RowsAt.snoc (ra5.mono (by simp) ?_) (get_set ex) hxn hxge.1
        intro y hy o eo
        have hne : x ≠ y := by
          rintro rfl
          exact hxn hy
        rw [get_set_ne hne]
        exact eo
      · rw [get_set_ne (by omega), eU4]
        simp [upZ]
      · rw [get_set_ne (by omega), eW4]
      · exact ch4.setN (by omega)
    have fin_new : (∀ us0 u, us = us0 ++ [u] → u.q ≠ p / F) → Ok (dSs (prg.C k) prg.gt.fl m__law_tree_5b2b0b0 [some (.ob a), some (.ob kA), some (.ob iA), some (.ob d), some (.ob L), v5, some (.int ((at0 + us.length : Nat) : Int)), some (.int j), some (.ob g.length), some (.ob (g.length + 1)), some (pairZ (p, id)), v11] h3) fun fl h4 => match fl with
        | .nx ρ => Ok (dSs (prg.C k) prg.gt.fl m__law_tree_5b2b1 ρ h4) fun fl h5 => match fl with
          | .nx ρ => ∃ (ds2 : List (Int × Int)) (us : List Up) (ads : List Nat) (v10 v11 : Option Z), ds.map pairZ ++ [pairZ (p, id)] = ds2.map pairZ ∧ ρ = [some (.ob a), some (.ob kA), some (.ob iA), some (.ob d), some (.ob L), v5, some (.int ((at0 + us.length : Nat) : Int)), some (.int j), some (.ob g.length), some (.ob (g.length + 1)), v10, v11] ∧ Mid F j ids at0 ds2 us ∧ RowsAt h5 (g.length + 2) ads us ∧ h5[g.length]? = some (.lst (us.map upZ)) ∧ h5[g.length + 1]? = some (.lst (ads.map Z.ob)) ∧ Chg [] g h5
          | .cont ρ => False
          | .brk ρ => False
          | .ret z => False
        | _ => False := by
      intro hne
      refine (fresh hne v11).mono ?_
      rintro fl h4 ⟨y, x, rfl, hy, eU4, eW4, ra4, ch4⟩
      have mid4 := mid_new (y := y) mid (by omega) hp hds hidn hy ht hpe hne
      exact done us (Up.mk (p / F) y (List.replicate F 0)) ads x (us.length + 1) v11 h4 (by simp) eU4 eW4 ra4 ch4 (by simp) rfl mid4
    have run_new : (∀ us0 u, us = us0 ++ [u] → u.q ≠ p / F) → ∀ {Q2 : Fl → Mh → Prop}, (∀ ρ h5, (∃ (ds2 : List (Int × Int)) (us : List Up) (ads : List Nat) (v10 v11 : Option Z), ds.map pairZ ++ [pairZ (p, id)] = ds2.map pairZ ∧ ρ = [some (.ob a), some (.ob kA), some (.ob iA), some (.ob d), some (.ob L), v5, some (.int ((at0 + us.length : Nat) : Int)), some (.int j), some (.ob g.length), some (.ob (g.length + 1)), v10, v11] ∧ Mid F j ids at0 ds2 us ∧ RowsAt h5 (g.length + 2) ads us ∧ h5[g.length]? = some (.lst (us.map upZ)) ∧ h5[g.length + 1]? = some (.lst (ads.map Z.ob)) ∧ Chg [] g h5) → Q2 (.nx ρ) h5) →
        Ok (dSs (prg.C k) prg.gt.fl m__law_tree_5b2b0b0 [some (.ob a), some (.ob kA), some (.ob iA), some (.ob d), some (.ob L), v5, some (.int ((at0 + us.length : Nat) : Int)), some (.int j), some (.ob g.length), some (.ob (g.length + 1)), some (pairZ (p, id)), v11] h3) fun x h => Ok (match x with
          | Fl.nx ρ => dSs (prg.C k) prg.gt.fl m__law_tree_5b2b1 ρ h
          | Fl.brk ρ => Res.ok (Fl.brk ρ) h
          | Fl.cont ρ => Res.ok (Fl.cont ρ) h
          | Fl.ret z => Res.ok (Fl.ret z) h) Q2 := by
      intro hne Q2 hq2
      refine (fin_new hne).mono ?_
      intro fl h4 q
      cases fl with
      | nx ρ =>
        refine Ok.mono q ?_
        intro fl5 h5 q5
        cases fl5 with
        | nx ρ5 => exact hq2 ρ5 h5 q5
        | cont _ => exact q5.elim
        | brk _ => exact q5.elim
        | ret _ => exact q5.elim
      | cont _ => exact q.elim
      | brk _ => exact q.elim
      | ret _ => exact q.elim
    rcases List.eq_nil_or_concat us with hus | ⟨us0, u, hus⟩
    · have h0 : decide ((us.length : Int) = 0) = true := by simp [hus]
      simp only [h0]
      walk_at "zs"
      exact run_new (fun us0 u e => by rw [hus] at e; simp at e) fun ρ h5 q5 => q5
    · have h0 : decide ((us.length : Int) = 0) = false := by simp [hus]; omega
      simp only [h0]
      walk_at "zs"
      rw [List.concat_eq_append] at hus
      have a2 : atI (us.map upZ) (-1) = some (upZ u) := atI_end (by simp [hus])
      simp only [zIdx_lst eU, a2]
      walk_at "zs"
      unfold upZ
      walk_at "zs"
      conv in (zIdx (pairZ (p, id)) _ _) => rw [pairZ]
      walk_at "zs"
      simp only [zFld_ins f1, e2]
      walk_at "zs"
      refine ⟨CDivW_small (by omega) (by omega), ?_⟩
      by_cases hq : u.q = p / F
      · simp only [hq]
        walk_at "zs"
        subst hus
        rcases List.eq_nil_or_concat ads with rfl | ⟨ads0, x, rfl⟩
        · simp at hal
        · rw [List.concat_eq_append] at *
          obtain ⟨c, _, _, hrl, _⟩ := mid.last us0 u rfl
          refine (done us0 u ads0 x _ v11 h3 rfl eU eW ra ch hrl hq (mid_old mid (by omega) hp hds hidn ht hpe hq)).mono ?_
          intro fl h5 q5
          cases fl with
          | nx ρ => exact q5
          | cont _ => exact q5.elim
          | brk _ => exact q5.elim
          | ret _ => exact q5.elim
      · simp only [hq]
        walk_at "zs"
        refine run_new (fun us1 u1 e => ?_) fun ρ h5 q5 => q5
        have e2 := List.append_inj_right' (hus.symm.trans e) (by simp)
        simp at e2
        rw [← e2]
        exact hq
  · rintro ρ h1 ⟨ds, us, ads, v10, v11, e, rfl, mid, ra, eU, eW, ch⟩
    walk_at "zs"
    have hinj : ∀ a b : Int × Int, pairZ a = pairZ b → a = b := by
      rintro ⟨a1, a2⟩ ⟨b1, b2⟩ e
      simp [pairZ] at e
      simp [e]
    have := List.map_inj_right hinj |>.mp e
    subst this
    exact hQ us ads v10 v11 h1 mid ra eU eW ch
end
end K89
namespace K89
open PySem PySem.Spec PyProof.Rows L2 Zm
local macro_rules | `(tactic| walk_at "zs") => `(tactic| try simp only [runD_Ok, r_dE_var, r_dE_lit, r_dE_glb, r_dE_bin, r_dE_neg, r_dE_cmp, r_dE_cmp2, r_dE_and, r_dE_or, r_dE_not, r_dE_ite, r_dE_tup, r_dE_lst, r_dE_dct0, r_dE_idx, r_dE_slc, r_dE_fld, r_dE_call, r_dE_mk, r_dE_mth, r_dE_bf, r_dE_bm, r_dE_isT, r_dE_comp, r_dX_tr, r_dX_and, r_dX_or, r_dX_not, r_dEs_nil, r_dEs_cons, r_dP_no, r_dP_some, r_dC_no, r_dC_some, r_dI_seq, r_dI_rng1, r_dI_rng2, r_dI_rrng1, r_dG_nm, r_dG_tup, r_dG_sub, r_dG_fld, r_dS_asg, r_dS_aug, r_dS_expr, r_dS_ret, r_dS_retN, r_dS_ite, r_dS_while, r_dS_for, r_dS_pass, r_dS_brk, r_dS_cont, r_dS_never, r_dSs_nil, r_dSs_cons, tgt, zBin, zCmp, Res.bind_ok, Ok_ok, Ok_bind, Ok_guard, List.length_cons, List.length_nil, List.map_cons, List.map_nil, List.replicate, List.nil_append, List.cons_append, List.getElem?_cons_zero, List.getElem?_cons_succ, List.set_cons_zero, List.set_cons_succ, Nat.reduceSub, Nat.reduceAdd, zAdd_int, zSub_int, zAddI_int, zMul_int, zDiv_int, zMod_int, zPow_int, zNeg_int, zLt_int, zLe_int, zGt_int, zGe_int, zEq_int, zNe_int, zIs_non, zIsNot_non, zTru_bl, zTru_int, zTru_non, zTru_tup, atI_0, atI_1, atI_2, atI_3, oRes_some, zIdx_tup, zBF_int, zBF_len_tup, zBF_list_tup, zBF_min, newL_eq, if_true, if_false, Bool.false_eq_true, reduceIte, zIsN, Bool.not_true, Bool.not_false, beq_self_eq_true, bne_self_eq_false, Int.reduceBNe, Int.reduceEq, decide_true, decide_false, true_and, and_true, if_true, if_false, List.isEmpty_cons, List.isEmpty_nil, setAll, List.all_cons, List.all_nil, flatZ, wipeZ, line_0, line_1, line_2, line_3, line_4, line_5, line_6, line_7, line_8, line_9])
/-- blocks of a made level are put into the dict -/
structure PutAll (D E : Blk) (us : List Up) : Prop where
  new : ∀ u ∈ us, E u.id = some (4, u.row)
  old : ∀ x, x ∉ us.map (·.id) → E x = D x
section
variable {k a kA iA d L j F : Nat} {ids : List Int} {D : Blk}
theorem tree_put {at_ v10 v11 v5 : Option Z} {us : List Up} {ads : List Nat} {g : Mh} {U W : Nat} {kvs : List (Key × Z)} {Q : Fl → Mh → Prop} (hd : g[d]? = some (.dct kvs)) (r : Rep kvs D) (hkl : kvs.length ≤ 1000) (hul : us.length ≤ 10)
    (eU : g[U]? = some (.lst (us.map upZ))) (eW : g[W]? = some (.lst (ads.map Z.ob))) (ra : RowsAt g (d + 1) ads us) (hnd : (us.map (·.id)).Nodup)
    (hQ : ∀ v5 E kvs' h1, PutAll D E us → Rep kvs' E → kvs'.length ≤ kvs.length + us.length → h1[d]? = some (.dct kvs') → h1.length = g.length → (∀ x, x ≠ d → h1[x]? = g[x]?) →
      Ok (dSs (prg.C k) prg.gt.fl m__law_tree_5b4 [some (.ob a), some (.ob kA), some (.ob iA), some (.ob d), some (.ob L), v5, at_, some (.int j), some (.ob U), some (.ob W), v10, v11] h1) Q) :
    Ok (dSs (prg.C k) prg.gt.fl m__law_tree_5b3 [some (.ob a), some (.ob kA), some (.ob iA), some (.ob d), some (.ob L), v5, at_, some (.int j), some (.ob U), some (.ob W), v10, v11] g) Q := by
  have hUd : U ≠ d := ne_of_get eU hd (by simp)
  have hWd : W ≠ d := ne_of_get eW hd (by simp)
  unfold m__law_tree_5b3
  walk_at "zs"
  simp only [zBF_len_lst eU, List.length_map]
  walk_at "zs"
  refine for_rng (fun i ρ h1 => ∃ v5 E kvs', ρ = [some (.ob a), some (.ob kA), some (.ob iA), some (.ob d), some (.ob L), v5, at_, some (.int j), some (.ob U), some (.ob W), v10, v11] ∧ PutAll D E (us.take i) ∧ Rep kvs' E ∧ kvs'.length ≤ kvs.length + i ∧ h1[d]? = some (.dct kvs') ∧ h1.length = g.length ∧ (∀ x, x ≠ d → h1[x]? = g[x]?)) (by omega) ⟨_, D, kvs, rfl, ⟨by simp, fun _ _ => rfl⟩, r, by omega, hd, rfl, fun _ _ => rfl⟩ ?_ ?_
  · rintro i ρ h1 hi ⟨v5, E, kvs', rfl, pa, rp, hkl', ed, hlen, hold⟩
    have hi2 : i < us.length := by omega
    have hU1 : h1[U]? = some (.lst (us.map upZ)) := by rw [hold U hUd]; exact eU
    have hW1 : h1[W]? = some (.lst (ads.map Z.ob)) := by rw [hold W hWd]; exact eW
    have hal := ra.len
    obtain ⟨u, hu⟩ : ∃ u, us[i]? = some u := ⟨_, List.getElem?_eq_getElem hi2⟩
    obtain ⟨x, hx⟩ : ∃ x, ads[i]? = some x := ⟨_, List.getElem?_eq_getElem (by omega)⟩
    have hxg := ra.at_ i x u hx hu
    have hx1 : h1[x]? = some (.lst (u.row.map Z.int)) := by
      rw [hold x ?_]
      · exact hxg
      · have := (ra.ge x (List.mem_of_getElem? hx)).1
        omega
    have a1 : atI (us.map upZ) ((i : Nat) : Int) = some (upZ u) := by
      rw [atI_nat]
      simp [hu]
    have a2 : atI (ads.map Z.ob) ((i : Nat) : Int) = some (.ob x) := by
      rw [atI_nat]
      simp [hx]
    walk_at "zs"
    simp only [Int.zero_add]
    simp only [zIdx_lst hW1, a2]
    walk_at "zs"
    simp only [zBF_tuple_lst hx1]
    walk_at "zs"
    simp only [zIdx_lst hU1, a1]
    walk_at "zs"
    unfold upZ
    walk_at "zs"
    rw [zSet_dct ed (by rw [line_eq]; omega)]
    walk_at "zs"
    have hui : u.id ∉ (us.take i).map (·.id) := by
      intro hm
      obtain ⟨w, hw, he⟩ := List.mem_map.mp hm
      obtain ⟨i2, hi3, he2⟩ := List.mem_take_iff_getElem.mp hw
      have hn := (List.pairwise_iff_getElem.mp hnd) i2 i (by simp; omega) (by simpa using hi2) (by omega)
      apply hn
      have h5 := (List.getElem?_eq_some_iff.mp hu).2
      simp [h5, he2, he]
    have htk : us.take (i + 1) = us.take i ++ [u] := by
      rw [List.take_add_one, hu]
      rfl
    refine ⟨_, upd E u.id (4, u.row), putZ kvs' (.inl u.id) (blkZ (4, u.row)), rfl, ⟨?_, ?_⟩, rp.put _ _, ?_, get_set ed, by simpa using hlen, fun y hy => by rw [get_set_ne (Ne.symm hy)]; exact hold y hy⟩
    · intro w hw
      rw [htk] at hw
      rcases List.mem_append.mp hw with hw | hw
      · unfold upd
        rw [if_neg]
        · exact pa.new w hw
        · rintro he
          exact hui (List.mem_map.mpr ⟨w, hw, he⟩)
      · simp at hw
        subst hw
        simp [upd]
    · intro y hy
      rw [htk] at hy
      simp only [List.map_append, List.mem_append, not_or] at hy
      unfold upd
      rw [if_neg (by simpa using hy.2)]
      exact pa.old y hy.1
    · have := put_len kvs' (.inl u.id) (blkZ (4, u.row))
      omega
  · rintro ρ h1 ⟨v5, E, kvs', rfl, pa, rp, hkl', ed, hlen, hold⟩
    walk_at "zs"
    have : (us.length : Int) - 0 = us.length := by omega
    rw [this, Int.toNat_natCast] at pa hkl'
    rw [List.take_length] at pa
    exact hQ v5 E kvs' h1 pa rp hkl' ed hlen hold
end
end K89
namespace K89
open PySem PySem.Spec PyProof.Rows L2 Zm
local macro_rules | `(tactic| walk_at "zs") => `(tactic| try simp only [runD_Ok, r_dE_var, r_dE_lit, r_dE_glb, r_dE_bin, r_dE_neg, r_dE_cmp, r_dE_cmp2, r_dE_and, r_dE_or, r_dE_not, r_dE_ite, r_dE_tup, r_dE_lst, r_dE_dct0, r_dE_idx, r_dE_slc, r_dE_fld, r_dE_call, r_dE_mk, r_dE_mth, r_dE_bf, r_dE_bm, r_dE_isT, r_dE_comp, r_dX_tr, r_dX_and, r_dX_or, r_dX_not, r_dEs_nil, r_dEs_cons, r_dP_no, r_dP_some, r_dC_no, r_dC_some, r_dI_seq, r_dI_rng1, r_dI_rng2, r_dI_rrng1, r_dG_nm, r_dG_tup, r_dG_sub, r_dG_fld, r_dS_asg, r_dS_aug, r_dS_expr, r_dS_ret, r_dS_retN, r_dS_ite, r_dS_while, r_dS_for, r_dS_pass, r_dS_brk, r_dS_cont, r_dS_never, r_dSs_nil, r_dSs_cons, tgt, zBin, zCmp, Res.bind_ok, Ok_ok, Ok_bind, Ok_guard, List.length_cons, List.length_nil, List.map_cons, List.map_nil, List.replicate, List.nil_append, List.cons_append, List.getElem?_cons_zero, List.getElem?_cons_succ, List.set_cons_zero, List.set_cons_succ, Nat.reduceSub, Nat.reduceAdd, zAdd_int, zSub_int, zAddI_int, zMul_int, zDiv_int, zMod_int, zPow_int, zNeg_int, zLt_int, zLe_int, zGt_int, zGe_int, zEq_int, zNe_int, zIs_non, zIsNot_non, zTru_bl, zTru_int, zTru_non, zTru_tup, atI_0, atI_1, atI_2, atI_3, oRes_some, zIdx_tup, zBF_int, zBF_len_tup, zBF_list_tup, zBF_min, newL_eq, if_true, if_false, Bool.false_eq_true, reduceIte, zIsN, Bool.not_true, Bool.not_false, beq_self_eq_true, bne_self_eq_false, Int.reduceBNe, Int.reduceEq, decide_true, decide_false, true_and, and_true, if_true, if_false, List.isEmpty_cons, List.isEmpty_nil, setAll, List.all_cons, List.all_nil, flatZ, wipeZ, line_0, line_1, line_2, line_3, line_4, line_5, line_6, line_7, line_8, line_9])
/-- the tree half way: level j is made -/
structure TI (F : Nat) (ids : List Int) (x0 last : Int) (rows : List Int → List Row) (n j at_ : Nat) (D : Blk) (lv : List (Int × Int)) : Prop where
  lev : ∀ bl, ∃ is, Lev (upd D x0 (3, bl)) F j lv is (rows bl) ∧ is.Perm (ids.take at_)
  ge : n ≤ at_
  le : at_ ≤ 10 * (j + 1)
  len : lv.length ≤ 10
  asc : (lv.map (·.1)).Pairwise (fun a b => a < b)
  nn : ∀ c ∈ lv, 0 ≤ c.1
  idn : ∀ c ∈ lv, c.2 ≠ 0
  lst : ∃ id, lv.getLast? = some (last / (F : Int) ^ j, id)
  hj : ∀ i, i < j → 0 < last / (F : Int) ^ i
  dim : ∀ i b, D i = some (4, b) → b.length = F
  dom : ∀ i, (D i).isSome = true → i ∈ ids
theorem ti_next {F : Nat} {ids : List Int} {x0 last : Int} {rows : List Int → List Row} {n j at_ : Nat} {D E : Blk} {lv : List (Int × Int)} {us : List Up} (t : TI F ids x0 last rows n j at_ D lv) (m : Mid F j ids at_ lv us) (pa : PutAll D E us) (h1 : 1 < F) (hx0 : x0 ∈ ids.take n) (nd : ids.Nodup) (nz : ∀ i ∈ ids, i ≠ 0) (hp : 0 < last / (F : Int) ^ j) :
    TI F ids x0 last rows n (j + 1) (at_ + us.length) E (us.map fun u => (u.q, u.id)) := by
  have hsub : ∀ u ∈ us, u.id ∈ ids.drop at_ := by
    intro u hu
    have : u.id ∈ us.map (·.id) := List.mem_map.mpr ⟨u, hu, rfl⟩
    rw [m.ids] at this
    exact List.mem_of_mem_take this
  have hdis : ∀ x ∈ ids.take at_, x ∉ us.map (·.id) := by
    intro x hx hm
    obtain ⟨u, hu, rfl⟩ := List.mem_map.mp hm
    have h3 := nd
    rw [← List.take_append_drop at_ ids] at h3
    exact (List.nodup_append.mp h3).2.2 _ hx _ (hsub u hu) rfl
  have hx1 : x0 ∈ ids.take at_ := by
    obtain ⟨i, hi, e⟩ := List.mem_take_iff_getElem.mp hx0
    exact List.mem_take_iff_getElem.mpr ⟨i, by have := t.ge; omega, e⟩
  have hux : ∀ u ∈ us, u.id ≠ x0 := fun u hu e => hdis x0 hx1 (List.mem_map.mpr ⟨u, hu, e⟩)
  refine ⟨?_, by have := t.ge; omega, ?_, ?_, ?_, ?_, ?_, ?_, ?_, ?_, ?_⟩
  · intro bl
    obtain ⟨is, hl, hpm⟩ := t.lev bl
    obtain ⟨is', hl', hpm'⟩ := lev_of (E := upd E x0 (3, bl)) (m.ups _ _ _ hl) (by
      intro i hi
      unfold upd
      by_cases h : i = x0
      · rw [if_pos h, if_pos h]
      · rw [if_neg h, if_neg h]
        exact pa.old i (hdis i (hpm.mem_iff.mp hi))) (by
      intro u hu
      unfold upd
      rw [if_neg (hux u hu)]
      exact pa.new u hu)
    refine ⟨is', hl', hpm'.trans ?_⟩
    rw [m.ids, List.take_add]
    exact hpm.append_right _
  · have := t.le
    have := m.le
    have := t.len
    omega
  · have := m.le
    have := t.len
    simp
    omega
  · rw [List.map_map]
    exact m.asc
  · intro c hc
    obtain ⟨u, hu, rfl⟩ := List.mem_map.mp hc
    exact m.nn u hu
  · intro c hc
    obtain ⟨u, hu, rfl⟩ := List.mem_map.mp hc
    exact nz _ (List.mem_of_mem_drop (hsub u hu))
  · obtain ⟨id, hid⟩ := t.lst
    rcases List.eq_nil_or_concat us with rfl | ⟨us0, u, rfl⟩
    · rw [m.nil rfl] at hid
      simp at hid
    · rw [List.concat_eq_append] at *
      obtain ⟨c, hc, hq, _⟩ := m.last us0 u rfl
      rw [hid] at hc
      cases hc
      refine ⟨u.id, ?_⟩
      simp only [List.map_append, List.map_cons, List.map_nil, List.getLast?_concat, hq]
      rw [Int.pow_succ, Int.ediv_ediv_of_nonneg (Int.pow_nonneg (by omega))]
  · intro i hi
    by_cases h : i = j
    · rw [h]; exact hp
    · exact t.hj i (by omega)
  · intro i b e
    by_cases h : i ∈ us.map (·.id)
    · obtain ⟨u, hu, rfl⟩ := List.mem_map.mp h
      rw [pa.new u hu] at e
      cases e
      obtain ⟨is, hl, _⟩ := t.lev []
      exact ups_len (m.ups _ _ _ hl) u hu
    · rw [pa.old i h] at e
      exact t.dim i b e
  · intro i e
    by_cases h : i ∈ us.map (·.id)
    · obtain ⟨u, hu, rfl⟩ := List.mem_map.mp h
      exact List.mem_of_mem_drop (hsub u hu)
    · rw [pa.old i h] at e
      exact t.dom i e
/-- all levels are made -/
structure Tree (F : Nat) (ids : List Int) (x0 last : Int) (rows : List Int → List Row) (n j at_ : Nat) (D : Blk) (root : Int) : Prop where
  good : ∀ bl, ∃ is, Good (upd D x0 (3, bl)) F j 0 root is (rows bl) ∧ is.Perm (ids.take at_)
  ge : n ≤ at_
  le : at_ ≤ 40
  j3 : j ≤ 3
  hj : ∀ i, i < j → 0 < last / (F : Int) ^ i
  h0 : last / (F : Int) ^ j = 0
  rn : root ≠ 0
  dim : ∀ i b, D i = some (4, b) → b.length = F
  dom : ∀ i, (D i).isSome = true → i ∈ ids
theorem last_small {F m j : Nat} {last : Int} (h1 : 1 < F) (hm : m ≤ 3) (e : last = (F : Int) ^ m - 1) (hj : 3 ≤ j) : last / (F : Int) ^ j = 0 := by
  have a : F ^ m ≤ F ^ j := Nat.pow_le_pow_right (by omega) (by omega)
  have b : ((F ^ m : Nat) : Int) ≤ ((F ^ j : Nat) : Int) := by omega
  have c : 0 < F ^ m := Nat.pow_pos (by omega)
  rw [Int.natCast_pow, Int.natCast_pow] at b
  have d : ((F ^ m : Nat) : Int) = (F : Int) ^ m := Int.natCast_pow F m
  exact Int.ediv_eq_zero_of_lt (by omega) (by omega)
theorem ti_end {F : Nat} {ids : List Int} {x0 last : Int} {rows : List Int → List Row} {n j at_ : Nat} {D : Blk} {lv : List (Int × Int)} (t : TI F ids x0 last rows n j at_ D lv) (h0 : last / (F : Int) ^ j = 0) (hj3 : j ≤ 3) : ∃ root, lv = [(0, root)] ∧ Tree F ids x0 last rows n j at_ D root := by
  obtain ⟨id, hid⟩ := t.lst
  rw [h0] at hid
  obtain ⟨ys, rfl⟩ := List.getLast?_eq_some_iff.mp hid
  cases ys with
  | nil =>
    refine ⟨id, rfl, ?_, t.ge, by have := t.le; omega, hj3, t.hj, h0, t.idn (0, id) (by simp), t.dim, t.dom⟩
    intro bl
    obtain ⟨is, hl, hp⟩ := t.lev bl
    obtain ⟨i1, r1, i2, r2, g, ⟨rfl, rfl⟩, e1, e2⟩ := hl
    simp at e1 e2
    subst e1
    refine ⟨is, ?_, hp⟩
    rw [e2]
    exact g
  | cons y ys =>
    have h1 := t.asc
    have h2 := t.nn y (by simp)
    rw [List.cons_append, List.map_cons, List.pairwise_cons] at h1
    have := h1.1 0 (by simp)
    omega
end K89
namespace K89
open PySem PySem.Spec PyProof.Rows L2 Zm
local macro_rules | `(tactic| walk_at "zs") => `(tactic| try simp only [runD_Ok, r_dE_var, r_dE_lit, r_dE_glb, r_dE_bin, r_dE_neg, r_dE_cmp, r_dE_cmp2, r_dE_and, r_dE_or, r_dE_not, r_dE_ite, r_dE_tup, r_dE_lst, r_dE_dct0, r_dE_idx, r_dE_slc, r_dE_fld, r_dE_call, r_dE_mk, r_dE_mth, r_dE_bf, r_dE_bm, r_dE_isT, r_dE_comp, r_dX_tr, r_dX_and, r_dX_or, r_dX_not, r_dEs_nil, r_dEs_cons, r_dP_no, r_dP_some, r_dC_no, r_dC_some, r_dI_seq, r_dI_rng1, r_dI_rng2, r_dI_rrng1, r_dG_nm, r_dG_tup, r_dG_sub, r_dG_fld, r_dS_asg, r_dS_aug, r_dS_expr, r_dS_ret, r_dS_retN, r_dS_ite, r_dS_while, r_dS_for, r_dS_pass, r_dS_brk, r_dS_cont, r_dS_never, r_dSs_nil, r_dSs_cons, tgt, zBin, zCmp, Res.bind_ok, Ok_ok, Ok_bind, Ok_guard, List.length_cons, List.length_nil, List.map_cons, List.map_nil, List.replicate, List.nil_append, List.cons_append, List.getElem?_cons_zero, List.getElem?_cons_succ, List.set_cons_zero, List.set_cons_succ, Nat.reduceSub, Nat.reduceAdd, zAdd_int, zSub_int, zAddI_int, zMul_int, zDiv_int, zMod_int, zPow_int, zNeg_int, zLt_int, zLe_int, zGt_int, zGe_int, zEq_int, zNe_int, zIs_non, zIsNot_non, zTru_bl, zTru_int, zTru_non, zTru_tup, atI_0, atI_1, atI_2, atI_3, oRes_some, zIdx_tup, zBF_int, zBF_len_tup, zBF_list_tup, zBF_min, newL_eq, if_true, if_false, Bool.false_eq_true, reduceIte, zIsN, Bool.not_true, Bool.not_false, beq_self_eq_true, bne_self_eq_false, Int.reduceBNe, Int.reduceEq, decide_true, decide_false, true_and, and_true, if_true, if_false, List.isEmpty_cons, List.isEmpty_nil, setAll, List.all_cons, List.all_nil, flatZ, wipeZ, line_0, line_1, line_2, line_3, line_4, line_5, line_6, line_7, line_8, line_9])
def rowsFrom (f : Nat → List Int) : Nat → List Int → List Row
  | _, [] => []
  | s, x :: xs => (x, f s) :: rowsFrom f (s + 1) xs
def dat (B k : Nat) : List Int := List.replicate B (1 + (k : Int) % 255)
def rowsOf (B : Nat) (ks : List Int) (bl : List Int) : List Row := rowsFrom (fun t => if t + 1 = ks.length then bl else dat B t) 0 ks
theorem lev0 {D : Blk} {F : Nat} (f : Nat → List Int) : ∀ (ks ids : List Int) (s : Nat), ks.length = ids.length → (∀ t x, ids[t]? = some x → D x = some (3, f (s + t))) → Lev D F 0 (ks.zip ids) ids (rowsFrom f s ks)
  | [], [], _, _, _ => ⟨rfl, rfl⟩
  | [], _ :: _, _, h, _ => by simp at h
  | _ :: _, [], _, h, _ => by simp at h
  | k :: ks, i :: ids, s, h, hD => ⟨[i], [(k, f s)], ids, rowsFrom f (s + 1) ks, ⟨f s, hD 0 i rfl, rfl, rfl⟩, lev0 f ks ids (s + 1) (by simpa using h) (fun t x e => by rw [show s + 1 + t = s + (t + 1) by omega]; exact hD (t + 1) x (by simpa using e)), rfl, rfl⟩
theorem rep0 : Rep [] (fun _ => none) := ⟨(by intro kv hkv; cases hkv), fun i => rfl⟩
theorem tuple_lst {a : Nat} {zs : List Z} {h : Mh} (e : h[a]? = some (.lst zs)) : zBF .tuple [.ob a] h = .ok (.tup zs) h := zBF_tuple_lst e
theorem ids_ne {ids : List Int} (nd : ids.Nodup) {i j : Nat} {x y : Int} (h1 : ids[i]? = some x) (h2 : ids[j]? = some y) (h : i < j) : x ≠ y := by
  obtain ⟨a1, b1⟩ := List.getElem?_eq_some_iff.mp h1
  obtain ⟨a2, b2⟩ := List.getElem?_eq_some_iff.mp h2
  have := (List.pairwise_iff_getElem.mp nd) i j a1 a2 h
  rw [b1, b2] at this
  exact this
theorem law_tree (k a kA iA F B : Nat) (ids ks : List Int) (last x0 : Int) (h : Mh) (hl : isLay h a F B) (h1 : 1 < F) (h2 : F ≤ 128) (hB : B ≤ 256) (eK : h[kA]? = some (.lst (ks.map Z.int))) (ei : h[iA]? = some (.lst (ids.map Z.int))) (hk : Keys F ks) (hlast : ks.getLast? = some last) (nd : ids.Nodup) (nz : ∀ i ∈ ids, i ≠ 0) (hil : ids.length = 45) (hx0 : ids[ks.length - 1]? = some x0) :
    Ok (prg.C (k + 1) f__law_tree [.ob a, .ob kA, .ob iA] h) fun z h' => ∃ R d kvs D j at_ root, z = .ob R ∧ h'[R]? = some (.lst [.ob d, .int ((j : Nat) : Int), .int root, .int ((at_ : Nat) : Int)]) ∧ h'[d]? = some (.dct kvs) ∧ Rep kvs D ∧ kvs.length ≤ 45 ∧ Chg [] h h' ∧ h.length ≤ d ∧ Tree F ids x0 last (rowsOf B ks) ks.length j at_ D root ∧ D x0 = some (3, dat B (ks.length - 1)) := by
  obtain ⟨m, hm, hlm⟩ := hk.last
  rw [hlast] at hlm
  cases hlm
  have hkn : 0 < ks.length := by
    cases ks with
    | nil => simp at hlast
    | cons _ _ => simp
  have hkl := hk.len
  rw [prg.call (b := m__law_tree) rfl h rfl]
  unfold m__law_tree
  walk_at "zs"
  unfold m__law_tree_1
  walk_at "zs"
  unfold m__law_tree_2
  walk_at "zs"
  simp only [List.length_append, List.length_cons, List.length_nil, Nat.zero_add]
  have eK2 : (h ++ [Ob.dct []] ++ [Ob.lst []])[kA]? = some (.lst (ks.map Z.int)) := get_app (get_app eK)
  simp only [zBF_len_lst eK2, List.length_map]
  walk_at "zs"
  obtain ⟨fs, e1, e2, e3⟩ := hl
  refine for_rng (fun i ρ h1 => ∃ (v5 : Option Z) (kvs : List (Key × Z)) (D : Blk), ρ = [some (.ob a), some (.ob kA), some (.ob iA), some (.ob h.length), some (.ob (h.length + 1)), v5, none, none, none, none, none, none] ∧ Rep kvs D ∧ kvs.length ≤ i ∧ h1[h.length]? = some (.dct kvs) ∧ h1[h.length + 1]? = some (.lst (((ks.take i).zip (ids.take i)).map pairZ)) ∧ Chg [] h h1 ∧ (∀ t x, t < i → ids[t]? = some x → D x = some (3, dat B t)) ∧ (∀ x, (D x).isSome = true → x ∈ ids.take i) ∧ (∀ x b, D x ≠ some (4, b))) (by omega) ⟨_, [], fun _ => none, rfl, rep0, Nat.le_refl _, by simp, by simp, Chg.app.trans Chg.app, by omega, by simp, by simp⟩ ?_ ?_
  · rintro i ρ h3 hi ⟨v5, kvs, D, rfl, rp, hkv, ed, eL, ch, hD, hdom, h4⟩
    have hi2 : i < ks.length := by omega
    have f1 : h3[a]? = some (.ins 0 fs) := ch.get (by simp) e1
    have fK : h3[kA]? = some (.lst (ks.map Z.int)) := ch.get (by simp) eK
    have fi : h3[iA]? = some (.lst (ids.map Z.int)) := ch.get (by simp) ei
    obtain ⟨y, hy⟩ : ∃ y, ids[i]? = some y := ⟨_, List.getElem?_eq_getElem (by omega)⟩
    obtain ⟨c, hc⟩ : ∃ c, ks[i]? = some c := ⟨_, List.getElem?_eq_getElem hi2⟩
    have a1 : atI (ids.map Z.int) ((i : Nat) : Int) = some (.int y) := by
      rw [atI_nat]
      simp [hy]
    have a2 : atI (ks.map Z.int) ((i : Nat) : Int) = some (.int c) := by
      rw [atI_nat]
      simp [hc]
    walk_at "zs"
    simp only [Int.zero_add]
    unfold m__law_tree_2b0
    walk_at "zs"
    refine ⟨by omega, ?_⟩
    have f2 : (h3 ++ [Ob.lst [Z.int (1 + (i : Int) % 255)]])[a]? = some (.ins 0 fs) := get_app f1
    simp only [zFld_ins f2, e3]
    walk_at "zs"
    rw [zMul_lst get_new (by omega)]
    walk_at "zs"
    rw [zBF_tuple_lst get_new]
    walk_at "zs"
    have f3 : (h3 ++ [Ob.lst [Z.int (1 + (i : Int) % 255)]] ++ [Ob.lst (List.replicate B (Z.int (1 + (i : Int) % 255)))])[iA]? = some (.lst (ids.map Z.int)) := get_app (get_app fi)
    have f4 : (h3 ++ [Ob.lst [Z.int (1 + (i : Int) % 255)]] ++ [Ob.lst (List.replicate B (Z.int (1 + (i : Int) % 255)))])[h.length]? = some (.dct kvs) := get_app (get_app ed)
    simp only [zIdx_lst f3, a1]
    walk_at "zs"
    rw [zSet_dct f4 (by rw [line_eq]; omega)]
    walk_at "zs"
    have hb : Z.tup [Z.int 3, Z.tup (List.replicate B (Z.int (1 + (i : Int) % 255)))] = blkZ (3, dat B i) := by simp [blkZ, dat]
    rw [hb]
    have hd3 := lt_of_get ed
    have hL3 := lt_of_get eL
    generalize hG : (h3 ++ [Ob.lst [Z.int (1 + (i : Int) % 255)]] ++ [Ob.lst (List.replicate B (Z.int (1 + (i : Int) % 255)))]).set h.length (.dct (putZ kvs (.inl y) (blkZ (3, dat B i)))) = G
    have gd : G[h.length]? = some (.dct (putZ kvs (.inl y) (blkZ (3, dat B i)))) := by rw [← hG]; exact get_set f4
    have gL : G[h.length + 1]? = some (.lst (((ks.take i).zip (ids.take i)).map pairZ)) := by
      rw [← hG, get_set_ne (by omega)]
      exact get_app (get_app eL)
    have gch : Chg [] h G := by
      rw [← hG]
      exact ((ch.trans Chg.app).trans Chg.app).setN (Nat.le_refl _)
    have gK : G[kA]? = some (.lst (ks.map Z.int)) := gch.get (by simp) eK
    have gi : G[iA]? = some (.lst (ids.map Z.int)) := gch.get (by simp) ei
    unfold m__law_tree_2b1
    walk_at "zs"
    refine ⟨bmOk_append gL, ?_⟩
    simp only [zIdx_lst gK, a2]
    walk_at "zs"
    simp only [zIdx_lst gi, a1]
    walk_at "zs"
    rw [zBM_append gL (by rw [line_eq, List.length_map, List.length_zip, List.length_take, List.length_take]; omega)]
    walk_at "zs"
    refine ⟨_, putZ kvs (.inl y) (blkZ (3, dat B i)), upd D y (3, dat B i), rfl, rp.put _ _, ?_, ?_, ?_, gch.setN (by omega), ?_, ?_, ?_⟩
    · have := put_len kvs (.inl y) (blkZ (3, dat B i))
      omega
    · rw [get_set_ne (by omega)]
      exact gd
    · rw [get_set gL]
      congr 2
      rw [List.take_add_one, List.take_add_one, hc, hy]
      rw [List.zip_append (by simp; omega)]
      simp [pairZ]
    · intro t x ht hx
      unfold upd
      by_cases hti : t = i
      · subst hti
        rw [hx] at hy
        cases hy
        simp
      · have : x ≠ y := ids_ne nd hx hy (by omega)
        rw [if_neg this]
        exact hD t x (by omega) hx
    · intro x hx
      unfold upd at hx
      rw [List.take_add_one, hy, List.mem_append]
      by_cases hxy : x = y
      · exact .inr (by simp [hxy])
      · rw [if_neg hxy] at hx
        exact .inl (hdom x hx)
    · intro x b hx
      unfold upd at hx
      by_cases hxy : x = y
      · rw [if_pos hxy] at hx
        simp at hx
      · rw [if_neg hxy] at hx
        exact h4 x b hx
  · rintro ρ h3 ⟨v5, kvs, D, rfl, rp, hkv, ed, eL, ch, hD, hdom, h4⟩
    walk_at "zs"
    have hn : ((ks.length : Int) - 0).toNat = ks.length := by omega
    rw [hn] at hkv eL hD hdom
    rw [List.take_length] at eL
    have fK : h3[kA]? = some (.lst (ks.map Z.int)) := ch.get (by simp) eK
    unfold m__law_tree_3
    walk_at "zs"
    simp only [zBF_len_lst fK, List.length_map]
    walk_at "zs"
    unfold m__law_tree_4
    walk_at "zs"
    unfold m__law_tree_5
    walk_at "zs"
    have hx0m : x0 ∈ ids.take ks.length := by
      obtain ⟨q, e⟩ := List.getElem?_eq_some_iff.mp hx0
      exact List.mem_take_iff_getElem.mpr ⟨ks.length - 1, by omega, e⟩
    have hzl : (ks.zip (ids.take ks.length)).map (·.1) = ks := by
      rw [List.map_fst_zip (by simp; omega)]
    have t0 : TI F ids x0 ((F : Int) ^ m - 1) (rowsOf B ks) ks.length 0 ks.length D (ks.zip (ids.take ks.length)) := by
      refine ⟨?_, Nat.le_refl _, by omega, by simp; omega, ?_, ?_, ?_, ?_, by omega, ?_, ?_⟩
      · intro bl
        refine ⟨ids.take ks.length, lev0 _ ks _ 0 (by simp; omega) ?_, .refl _⟩
        intro t x hx
        have ht : t < ks.length := by
          have := (List.getElem?_eq_some_iff.mp hx).1
          simp at this
          omega
        rw [List.getElem?_take_of_lt ht] at hx
        unfold upd
        rw [Nat.zero_add]
        by_cases h5 : t + 1 = ks.length
        · rw [show ks.length - 1 = t by omega, hx] at hx0
          cases hx0
          rw [if_pos rfl, if_pos h5]
        · rw [if_neg (ids_ne nd hx hx0 (by omega)), if_neg h5]
          exact hD t x ht hx
      · rw [hzl]
        exact hk.lt
      · intro c hc
        exact hk.nn _ (List.of_mem_zip hc).1
      · intro c hc
        exact nz _ (List.mem_of_mem_take (List.of_mem_zip hc).2)
      · refine ⟨x0, ?_⟩
        rw [List.getLast?_eq_getElem?, List.getElem?_zip_eq_some]
        rw [List.length_zip, List.length_take, show min ks.length (min ks.length ids.length) = ks.length by omega]
        refine ⟨?_, ?_⟩
        · rw [← List.getLast?_eq_getElem?, hlast]
          simp
        · rw [List.getElem?_take_of_lt (by omega), hx0]
      · intro i b e
        exact absurd e (h4 i b)
      · intro i e
        exact List.mem_of_mem_take (hdom i e)
    refine while_inv (n := 3) (fun mm ρ h5 => ∃ (j at_ L : Nat) (kvs : List (Key × Z)) (D : Blk) (lv : List (Int × Int)) (v5 v8 v9 v10 v11 : Option Z), mm + j = 3 ∧ ρ = [some (.ob a), some (.ob kA), some (.ob iA), some (.ob h.length), some (.ob L), v5, some (.int ((at_ : Nat) : Int)), some (.int ((j : Nat) : Int)), v8, v9, v10, v11] ∧ Rep kvs D ∧ kvs.length ≤ at_ ∧ h5[h.length]? = some (.dct kvs) ∧ h5[L]? = some (.lst (lv.map pairZ)) ∧ Chg [] h h5 ∧ TI F ids x0 ((F : Int) ^ m - 1) (rowsOf B ks) ks.length j at_ D lv ∧ D x0 = some (3, dat B (ks.length - 1))) ⟨0, ks.length, h.length + 1, kvs, D, _, v5, none, none, none, none, rfl, rfl, rp, hkv, ed, eL, ch, t0, hD _ _ (by omega) hx0⟩ ?_
    rintro mm ρ h5 ⟨j, at_, L, kvs, D, lv, v5, v8, v9, v10, v11, hmj, rfl, rp, hkv, ed, eL, ch, ti, hDx⟩
    obtain ⟨id, hid⟩ := ti.lst
    have aL : atI (lv.map pairZ) (-1) = some (pairZ (((F : Int) ^ m - 1) / (F : Int) ^ j, id)) := atI_end (by simp [hid])
    walk_at "zs"
    simp only [zIdx_lst eL, aL]
    walk_at "zs"
    unfold pairZ
    walk_at "zs"
    have hle := ti.le
    have hll := ti.len
    by_cases hp : 0 < ((F : Int) ^ m - 1) / (F : Int) ^ j
    · simp only [hp]
      walk_at "zs"
      have hj3 : j < 3 := by
        by_cases q : 3 ≤ j
        · rw [last_small h1 hm rfl q] at hp
          omega
        · omega
      refine tree_pairs (k := k) (kA := kA) (d := h.length) (j := j) (ids := ids) (lv := lv) ⟨fs, ch.get (by simp) e1, e2, e3⟩ h1 h2 (ch.get (by simp) ei) eL ti.asc ti.nn ti.idn hll (by omega) ?_
      intro us ads v10 v11 h6 mid ra eU eW ch6
      have ed6 : h6[h.length]? = some (.dct kvs) := ch6.get (by simp) ed
      have hd5 := lt_of_get ed
      have hmu : us.length ≤ 10 := by
        have := mid.le
        omega
      have hnu : (us.map (·.id)).Nodup := by
        rw [mid.ids]
        exact (nd.sublist (List.drop_sublist _ _)).sublist (List.take_sublist _ _)
      have ra6 : RowsAt h6 (h.length + 1) ads us := ⟨ra.len, ra.nd, fun x hx => ⟨by have := (ra.ge x hx).1; omega, (ra.ge x hx).2⟩, ra.at_⟩
      refine tree_put ed6 rp (by omega) hmu eU eW ra6 hnu ?_
      intro v5 E kvs' h7 pa rp7 hkl7 ed7 hlen7 hold7
      unfold m__law_tree_5b4
      walk_at "zs"
      unfold m__law_tree_5b5
      walk_at "zs"
      have ti' := ti_next ti mid pa h1 hx0m nd nz hp
      refine ⟨mm - 1, by omega, j + 1, at_ + us.length, h5.length, kvs', E, _, v5, _, _, _, _, by omega, rfl, rp7, by omega, ed7, ?_, ?_, ti', ?_⟩
      · rw [hold7 _ (by omega), eU, List.map_map]
        rfl
      · refine ⟨by have := ch.1; have := ch6.1; omega, fun x o hn2 e => ?_⟩
        have := lt_of_get e
        rw [hold7 x (by omega)]
        exact ch6.2 x o (by simp) (ch.2 x o (by simp) e)
      · rw [pa.old]
        · exact hDx
        · intro hmm
          have h8 := nd
          rw [← List.take_append_drop at_ ids] at h8
          rw [mid.ids] at hmm
          have hxa : x0 ∈ ids.take at_ := by
            obtain ⟨i, hi, e⟩ := List.mem_take_iff_getElem.mp hx0m
            exact List.mem_take_iff_getElem.mpr ⟨i, by have := ti.ge; omega, e⟩
          exact (List.nodup_append.mp h8).2.2 _ hxa _ (List.mem_of_mem_take hmm) rfl
    · simp only [hp]
      walk_at "zs"
      unfold m__law_tree_6
      walk_at "zs"
      have hF0 : (0 : Int) < (F : Int) ^ m := Int.pow_pos (by omega)
      have hnn : 0 ≤ ((F : Int) ^ m - 1) / (F : Int) ^ j := Int.ediv_nonneg (by omega) (Int.pow_nonneg (by omega))
      obtain ⟨root, rfl, tr⟩ := ti_end ti (by omega) (by omega)
      simp only [List.map_cons, List.map_nil] at eL
      simp only [zIdx_lst eL]
      walk_at "zs"
      unfold pairZ
      walk_at "zs"
      refine ⟨_, h.length, kvs, D, j, at_, root, rfl, get_new, get_app ed, rp, by have := tr.le; omega, ch.trans Chg.app, Nat.le_refl _, tr, hDx⟩
end K89
namespace K89
open PySem PySem.Spec PyProof.Rows L2 Zm
local macro_rules | `(tactic| walk_at "zs") => `(tactic| try simp only [runD_Ok, r_dE_var, r_dE_lit, r_dE_glb, r_dE_bin, r_dE_neg, r_dE_cmp, r_dE_cmp2, r_dE_and, r_dE_or, r_dE_not, r_dE_ite, r_dE_tup, r_dE_lst, r_dE_dct0, r_dE_idx, r_dE_slc, r_dE_fld, r_dE_call, r_dE_mk, r_dE_mth, r_dE_bf, r_dE_bm, r_dE_isT, r_dE_comp, r_dX_tr, r_dX_and, r_dX_or, r_dX_not, r_dEs_nil, r_dEs_cons, r_dP_no, r_dP_some, r_dC_no, r_dC_some, r_dI_seq, r_dI_rng1, r_dI_rng2, r_dI_rrng1, r_dG_nm, r_dG_tup, r_dG_sub, r_dG_fld, r_dS_asg, r_dS_aug, r_dS_expr, r_dS_ret, r_dS_retN, r_dS_ite, r_dS_while, r_dS_for, r_dS_pass, r_dS_brk, r_dS_cont, r_dS_never, r_dSs_nil, r_dSs_cons, tgt, zBin, zCmp, Res.bind_ok, Ok_ok, Ok_bind, Ok_guard, List.length_cons, List.length_nil, List.map_cons, List.map_nil, List.replicate, List.nil_append, List.cons_append, List.getElem?_cons_zero, List.getElem?_cons_succ, List.set_cons_zero, List.set_cons_succ, Nat.reduceSub, Nat.reduceAdd, zAdd_int, zSub_int, zAddI_int, zMul_int, zDiv_int, zMod_int, zPow_int, zNeg_int, zLt_int, zLe_int, zGt_int, zGe_int, zEq_int, zNe_int, zIs_non, zIsNot_non, zTru_bl, zTru_int, zTru_non, zTru_tup, atI_0, atI_1, atI_2, atI_3, oRes_some, zIdx_tup, zBF_int, zBF_len_tup, zBF_list_tup, zBF_min, newL_eq, if_true, if_false, Bool.false_eq_true, reduceIte, zIsN, Bool.not_true, Bool.not_false, beq_self_eq_true, bne_self_eq_false, Int.reduceBNe, Int.reduceEq, decide_true, decide_false, true_and, and_true, if_true, if_false, List.isEmpty_cons, List.isEmpty_nil, setAll, List.all_cons, List.all_nil, flatZ, wipeZ, line_0, line_1, line_2, line_3, line_4, line_5, line_6, line_7, line_8, line_9])
theorem zSetF_ins {fl : Nat → Nat → Bool} {a c f : Nat} {fs : List (Nat × Z)} {h : Mh} {z : Z} (e : h[a]? = some (.ins c fs)) (hl : fs.length < 1000) (hf : fl c f = true) : zSetF fl (.ob a) f z h = .ok () (h.set a (.ins c (putF' f z fs))) := by
  simp only [zSetF, e]
  exact guard_pos ⟨hl, hf⟩
theorem plain_file (k A : Nat) (size height root : Int) (h : Mh) (e : h[A]? = some (.ins 1 [])) : Ok (prg.C (k + 1) f_PlainFile_init [.ob A, .int size, .int height, .int root] h) fun z h' => z = .non ∧ ∃ fs, h' = h.set A (.ins 1 fs) ∧ isFile h' A size height root := by
  rw [prg.call (b := m_PlainFile_init) rfl h rfl]
  unfold m_PlainFile_init
  walk_at "zs"
  rw [zSetF_ins e (by simp) rfl]
  walk_at "zs"
  unfold m_PlainFile_init_1
  walk_at "zs"
  rw [zSetF_ins (get_set e) (by simp [putF']) rfl, List.set_set]
  walk_at "zs"
  unfold m_PlainFile_init_2
  walk_at "zs"
  rw [zSetF_ins (get_set e) (by simp [putF']) rfl, List.set_set]
  walk_at "zs"
  exact ⟨_, rfl, _, get_set e, rfl, rfl, rfl⟩
theorem layout_init (k A s : Nat) (h : Mh) (e : h[A]? = some (.ins 0 [])) (hs : s = 64 ∨ s = 128 ∨ s = 256) : Ok (prg.C (k + 2) f_Layout_init [.ob A, .int 4, .int 16, .int (s : Int)] h) fun z h' => z = .non ∧ ∃ fs, h' = h.set A (.ins 0 fs) ∧ isLay h' A ((s / 2 : Nat) : Int) (s : Int) := by
  rw [prg.call (b := m_Layout_init) rfl h rfl]
  unfold m_Layout_init
  walk_at "zs"
  simp only [Int.reduceLT]
  walk_at "zs"
  unfold m_Layout_init_1
  walk_at "zs"
  simp only [Int.reduceLT]
  walk_at "zs"
  unfold m_Layout_init_2
  walk_at "zs"
  have hin : Ok (zNotIn (.int (s : Int)) (.tup [.int 64, .int 128, .int 256]) h) fun z h' => z = .bl false ∧ h' = h := by
    simp only [zNotIn, zInB]
    walk_at "zs"
    rcases hs with rfl | rfl | rfl <;> exact ⟨rfl, rfl⟩
  refine hin.mono ?_
  rintro z h' ⟨rfl, rfl⟩
  walk_at "zs"
  unfold m_Layout_init_3
  walk_at "zs"
  rw [zSetF_ins e (by simp) rfl]
  walk_at "zs"
  unfold m_Layout_init_4
  walk_at "zs"
  rw [zSetF_ins (get_set e) (by simp [putF']) rfl, List.set_set]
  walk_at "zs"
  unfold m_Layout_init_5
  walk_at "zs"
  rw [zSetF_ins (get_set e) (by simp [putF']) rfl, List.set_set]
  walk_at "zs"
  unfold m_Layout_init_6
  walk_at "zs"
  rw [zSetF_ins (get_set e) (by simp [putF']) rfl, List.set_set]
  walk_at "zs"
  unfold m_Layout_init_7
  walk_at "zs"
  rw [zFld_ins (get_set e)]
  simp only [putF', lookF, Nat.reduceEqDiff, if_false, if_true, reduceIte, Int.reduceSub, Int.reduceAdd, Int.reduceMul]
  walk_at "zs"
  refine ⟨cmulR, ?_⟩
  rw [zSetF_ins (get_set e) (by simp [putF']) rfl, List.set_set]
  walk_at "zs"
  unfold m_Layout_init_8
  walk_at "zs"
  rw [zFld_ins (get_set e)]
  simp only [putF', lookF, Nat.reduceEqDiff, if_false, if_true, reduceIte, Int.reduceSub, Int.reduceAdd, Int.reduceMul]
  walk_at "zs"
  rw [zFld_ins (get_set e)]
  simp only [putF', lookF, Nat.reduceEqDiff, if_false, if_true, reduceIte, Int.reduceSub, Int.reduceAdd, Int.reduceMul]
  walk_at "zs"
  rw [zSetF_ins (get_set e) (by simp [putF']) rfl, List.set_set]
  walk_at "zs"
  unfold m_Layout_init_9
  walk_at "zs"
  refine ⟨CDivW_small (by omega) (by omega), ?_⟩
  rw [zSetF_ins (get_set e) (by simp [putF']) rfl, List.set_set]
  walk_at "zs"
  unfold m_Layout_init_10
  walk_at "zs"
  rw [zFld_ins (get_set e)]
  simp only [putF', lookF, Nat.reduceEqDiff, if_false, if_true, reduceIte, Int.reduceSub, Int.reduceAdd, Int.reduceMul]
  walk_at "zs"
  refine ⟨cmulL, ?_⟩
  rw [zFld_ins (get_set e)]
  simp only [putF', lookF, Nat.reduceEqDiff, if_false, if_true, reduceIte, Int.reduceSub, Int.reduceAdd, Int.reduceMul]
  walk_at "zs"
  refine (parts_of k 45 8 _ (by omega) (by omega)).mono ?_
  rintro z h' ⟨rfl, rfl⟩
  walk_at "zs"
  have h52 : decide ((s : Int) < 16 + 2 * 15 + (45 + 8 - 1) / 8) = false := by simp; omega
  simp only [Int.reduceAdd, Int.reduceMul, Int.reduceSub] at h52 ⊢
  simp only [h52]
  walk_at "zs"
  unfold m_Layout_init_11
  walk_at "zs"
  rw [zFld_ins (get_set e)]
  simp only [putF', lookF, Nat.reduceEqDiff, if_false, if_true, reduceIte, Int.reduceSub, Int.reduceAdd, Int.reduceMul]
  walk_at "zs"
  refine ⟨cmulL, ?_⟩
  unfold m_Layout_init_12
  walk_at "zs"
  refine ⟨cmulL, ?_⟩
  refine (parts_of k _ s _ (by omega) (by omega)).mono ?_
  rintro z h' ⟨rfl, rfl⟩
  walk_at "zs"
  rw [zSetF_ins (get_set e) (by simp [putF']) rfl, List.set_set]
  walk_at "zs"
  unfold m_Layout_init_13
  walk_at "zs"
  rw [zFld_ins (get_set e)]
  simp only [putF', lookF, Nat.reduceEqDiff, if_false, if_true, reduceIte, Int.reduceSub, Int.reduceAdd, Int.reduceMul]
  walk_at "zs"
  refine ⟨cmulL, cmulL, ?_⟩
  rw [zSetF_ins (get_set e) (by simp [putF']) rfl, List.set_set]
  walk_at "zs"
  refine ⟨_, rfl, _, get_set e, ?_, ?_⟩
  · simp [putF', lookF]
  · simp [putF', lookF]
end K89
namespace K89
open PySem PySem.Spec PyProof.Rows L2 Zm
local macro_rules | `(tactic| walk_at "zs") => `(tactic| try simp only [runD_Ok, r_dE_var, r_dE_lit, r_dE_glb, r_dE_bin, r_dE_neg, r_dE_cmp, r_dE_cmp2, r_dE_and, r_dE_or, r_dE_not, r_dE_ite, r_dE_tup, r_dE_lst, r_dE_dct0, r_dE_idx, r_dE_slc, r_dE_fld, r_dE_call, r_dE_mk, r_dE_mth, r_dE_bf, r_dE_bm, r_dE_isT, r_dE_comp, r_dX_tr, r_dX_and, r_dX_or, r_dX_not, r_dEs_nil, r_dEs_cons, r_dP_no, r_dP_some, r_dC_no, r_dC_some, r_dI_seq, r_dI_rng1, r_dI_rng2, r_dI_rrng1, r_dG_nm, r_dG_tup, r_dG_sub, r_dG_fld, r_dS_asg, r_dS_aug, r_dS_expr, r_dS_ret, r_dS_retN, r_dS_ite, r_dS_while, r_dS_for, r_dS_pass, r_dS_brk, r_dS_cont, r_dS_never, r_dSs_nil, r_dSs_cons, tgt, zBin, zCmp, Res.bind_ok, Ok_ok, Ok_bind, Ok_guard, List.length_cons, List.length_nil, List.map_cons, List.map_nil, List.replicate, List.nil_append, List.cons_append, List.getElem?_cons_zero, List.getElem?_cons_succ, List.set_cons_zero, List.set_cons_succ, Nat.reduceSub, Nat.reduceAdd, zAdd_int, zSub_int, zAddI_int, zMul_int, zDiv_int, zMod_int, zPow_int, zNeg_int, zLt_int, zLe_int, zGt_int, zGe_int, zEq_int, zNe_int, zIs_non, zIsNot_non, zTru_bl, zTru_int, zTru_non, zTru_tup, atI_0, atI_1, atI_2, atI_3, oRes_some, zIdx_tup, zBF_int, zBF_len_tup, zBF_list_tup, zBF_min, newL_eq, if_true, if_false, Bool.false_eq_true, reduceIte, zIsN, Bool.not_true, Bool.not_false, beq_self_eq_true, bne_self_eq_false, Int.reduceBNe, Int.reduceEq, decide_true, decide_false, true_and, and_true, if_true, if_false, List.isEmpty_cons, List.isEmpty_nil, setAll, List.all_cons, List.all_nil, flatZ, wipeZ, line_0, line_1, line_2, line_3, line_4, line_5, line_6, line_7, line_8, line_9])
theorem zBM_dpop1 {a : Nat} {kvs : List (Key × Z)} {h : Mh} {i : Int} {z : Z} (e : h[a]? = some (.dct kvs)) (v : valZ kvs (.inl i) = some z) : zBM .dpop1 (.ob a) [.int i] h = .ok z (h.set a (.dct (dropZ kvs (.inl i)))) := by
  simp only [zBM, e, keyZ, v]
theorem bmOk_dpop1 {a : Nat} {kvs : List (Key × Z)} {h : Mh} (e : h[a]? = some (.dct kvs)) : bmOk .dpop1 (.ob a) h := ⟨kvs, e⟩
/-- what a bent block is told as -/
structure Bent (F : Nat) (D E : Blk) (x : Int) (told : Str) : Prop where
  same : ∀ i, i ≠ x → E i = D i
  w0 : ∀ b, D x = some (3, b) → wrong E x 0 = some told
  w1 : ∀ b, D x = some (4, b) → ∀ l, wrong E x (l + 1) = some told
  dim : ∀ i b, E i = some (4, b) → b.length = F
  ne : told ≠ ("" : Str)
  ok : PyData.strOk told = true
theorem bent_of {F : Nat} {D E : Blk} {x c : Int} {b : List Int} {told : Str} (hx : D x = some (c, b)) (same : ∀ i, i ≠ x → E i = D i) (w : ∀ l, (c = 3 → l = 0) → (c = 4 → l ≠ 0) → wrong E x l = some told) (dim : ∀ i b, D i = some (4, b) → b.length = F) (dx : ∀ b, E x = some (4, b) → b.length = F) (ne : told ≠ ("" : Str)) (ok : PyData.strOk told = true) : Bent F D E x told := by
  refine ⟨same, fun b' e => ?_, fun b' e l => ?_, fun i b' e => ?_, ne, ok⟩
  · rw [hx] at e
    cases e
    exact w 0 (fun _ => rfl) (fun h => by cases h)
  · rw [hx] at e
    cases e
    exact w (l + 1) (fun h => by cases h) (fun _ => by omega)
  · by_cases h : i = x
    · subst h
      exact dx b' e
    · rw [same i h] at e
      exact dim i b' e
theorem law_bent (k a d b F B : Nat) (x c n : Int) (bd : List Int) (kvs : List (Key × Z)) (D : Blk) (h : Mh) (hl : isLay h a F B) (hF : F ≤ 128) (hB : B ≤ 256) (ed : h[d]? = some (.dct kvs)) (r : Rep kvs D) (hkl : kvs.length ≤ 100) (eb : h[b]? = some (.lst [.int n])) (hx : D x = some (c, bd)) (hc : c = 3 ∨ c = 4) (dim : ∀ i b, D i = some (4, b) → b.length = F) :
    Ok (prg.C (k + 2) f__law_bent [.ob a, .ob d, .int x, .ob b] h) fun z h' => ∃ told kvs' E, z = .str told ∧ h'[d]? = some (.dct kvs') ∧ Rep kvs' E ∧ kvs'.length ≤ kvs.length + 1 ∧ Chg [b, d] h h' ∧ ((told = ("" : Str) ∧ E = D) ∨ Bent F D E x told) := by
  have hdb : d ≠ b := ne_of_get ed eb (by simp)
  obtain ⟨fs, e1, e2, e3⟩ := hl
  rw [prg.call (b := m__law_bent) rfl h rfl]
  unfold m__law_bent
  walk_at "zs"
  refine (take k b n 4 h eb (by omega) (by omega)).mono ?_
  rintro z h' ⟨rfl, rfl⟩
  walk_at "zs"
  generalize hH : h.set b (.lst [.int (n / 4)]) = H
  have hd : H[d]? = some (.dct kvs) := by rw [← hH, get_set_ne (Ne.symm hdb)]; exact ed
  have ch : Chg [b, d] h H := by rw [← hH]; exact Chg.set (.inl (by simp))
  have hab : a ≠ b := ne_of_get e1 eb (by simp)
  have f1 : H[a]? = some (.ins 0 fs) := by rw [← hH, get_set_ne (Ne.symm hab)]; exact e1
  generalize n % 4 = m
  unfold m__law_bent_1
  walk_at "zs"
  simp only [zIdx_dct hd, r.at_, hx, Option.map_some]
  walk_at "zs"
  unfold blkZ
  walk_at "zs"
  -- the end: what is told
  have tail : ∀ (w : Str) (kvs' : List (Key × Z)) (E : Blk) (H2 : Mh) (v4 : Option Z), H2[d]? = some (.dct kvs') → Rep kvs' E → kvs'.length ≤ kvs.length + 1 → Chg [b, d] h H2 → (∀ i, i ≠ x → E i = D i) → (c = 3 → wrong E x 0 = some "no data block") → (c = 4 → ∀ l, wrong E x (l + 1) = some "no index block") → (∀ b, E x = some (4, b) → b.length = F) →
      Ok (dSs (prg.C (k + 1)) prg.gt.fl m__law_bent_3 [some (.ob a), some (.ob d), some (.int x), some (.ob b), v4, some (.bl (decide (c = 4)))] H2) fun fl h' => match fl with
        | .ret z => ∃ told kvs' E, z = .str told ∧ h'[d]? = some (.dct kvs') ∧ Rep kvs' E ∧ kvs'.length ≤ kvs.length + 1 ∧ Chg [b, d] h h' ∧ ((told = ("" : Str) ∧ E = D) ∨ Bent F D E x told)
        | _ => False := by
    intro w kvs' E H2 v4 hd2 rp hkl2 ch2 same w0 w1 dx
    unfold m__law_bent_3
    walk_at "zs"
    rcases hc with rfl | rfl
    · simp only [show decide ((3 : Int) = 4) = false from rfl]
      walk_at "zs"
      unfold m__law_bent_4
      walk_at "zs"
      refine ⟨_, kvs', E, rfl, hd2, rp, hkl2, ch2, .inr (bent_of hx same ?_ dim dx (by decide +kernel) (by decide +kernel))⟩
      intro l h3 _
      rw [h3 rfl]
      exact w0 rfl
    · walk_at "zs"
      refine ⟨_, kvs', E, rfl, hd2, rp, hkl2, ch2, .inr (bent_of hx same ?_ dim dx (by decide +kernel) (by decide +kernel))⟩
      intro l _ h4
      cases l with
      | zero => exact absurd rfl (h4 rfl)
      | succ l => exact w1 rfl l
  have fin : ∀ {fl : Fl} {h2 : Mh}, (match fl with
        | .ret z => ∃ told kvs' E, z = .str told ∧ h2[d]? = some (.dct kvs') ∧ Rep kvs' E ∧ kvs'.length ≤ kvs.length + 1 ∧ Chg [b, d] h h2 ∧ ((told = ("" : Str) ∧ E = D) ∨ Bent F D E x told)
        | _ => False) → match fl with
        | .nx ρ => ∃ told kvs' E, Z.non = .str told ∧ h2[d]? = some (.dct kvs') ∧ Rep kvs' E ∧ kvs'.length ≤ kvs.length + 1 ∧ Chg [b, d] h h2 ∧ ((told = ("" : Str) ∧ E = D) ∨ Bent F D E x told)
        | .ret z => ∃ told kvs' E, z = .str told ∧ h2[d]? = some (.dct kvs') ∧ Rep kvs' E ∧ kvs'.length ≤ kvs.length + 1 ∧ Chg [b, d] h h2 ∧ ((told = ("" : Str) ∧ E = D) ∨ Bent F D E x told)
        | _ => False := by
    intro fl h2 q
    cases fl with
    | ret z => exact q
    | nx _ => exact q.elim
    | brk _ => exact q.elim
    | cont _ => exact q.elim
  have putE : ∀ (p : Int × List Int) (H2 : Mh), H2[d]? = some (.dct kvs) → Chg [b, d] h H2 → (H2.set d (.dct (putZ kvs (.inl x) (blkZ p))))[d]? = some (.dct (putZ kvs (.inl x) (blkZ p))) ∧ Rep (putZ kvs (.inl x) (blkZ p)) (upd D x p) ∧ (putZ kvs (.inl x) (blkZ p)).length ≤ kvs.length + 1 ∧ Chg [b, d] h (H2.set d (.dct (putZ kvs (.inl x) (blkZ p)))) ∧ (∀ i, i ≠ x → upd D x p i = D i) ∧ upd D x p x = some p :=
    fun p H2 hd2 ch2 => ⟨get_set hd2, r.put _ _, put_len _ _ _, ch2.trans (Chg.set (.inl (by simp))), fun i hi => by unfold upd; rw [if_neg hi], by simp [upd]⟩
  unfold m__law_bent_2
  walk_at "zs"
  by_cases h0 : m = 0
  · simp only [h0]
    walk_at "zs"
    refine ⟨bmOk_dpop1 hd, ?_⟩
    rw [zBM_dpop1 hd (by rw [r.at_, hx]; rfl)]
    walk_at "zs"
    refine (tail ("" : Str) (dropZ kvs (.inl x)) (del D x) _ _ (get_set hd) (r.del x) (by have := drop_len kvs (.inl x); omega) (ch.trans (Chg.set (.inl (by simp)))) (fun i hi => by unfold del; rw [if_neg hi]) (fun _ => by simp [wrong, del]) (fun _ l => by simp [wrong, del]) (fun b e => by simp [del] at e)).mono fun _ _ q => fin q
  · simp only [h0]
    walk_at "zs"
    unfold m__law_bent_2e0
    walk_at "zs"
    by_cases hm1 : m = 1
    · simp only [hm1]
      walk_at "zs"
      rcases hc with rfl | rfl
      · simp only [show decide ((3 : Int) = 4) = false from rfl]
        walk_at "zs"
        unfold m__law_bent_2e0e0
        walk_at "zs"
        have f2 : (H ++ [Ob.lst [Z.int x]])[a]? = some (.ins 0 fs) := get_app f1
        simp only [zFld_ins f2, e2]
        walk_at "zs"
        rw [zMul_lst get_new (by omega)]
        walk_at "zs"
        rw [zBF_tuple_lst get_new]
        walk_at "zs"
        have hd2 : (H ++ [Ob.lst [Z.int x]] ++ [Ob.lst (List.replicate F (Z.int x))])[d]? = some (.dct kvs) := get_app (get_app hd)
        rw [zSet_dct hd2 (by rw [line_eq]; omega)]
        walk_at "zs"
        have hb : Z.tup [Z.int 4, Z.tup (List.replicate F (Z.int x))] = blkZ (4, List.replicate F x) := by simp [blkZ]
        rw [hb]
        obtain ⟨p1, p2, p3, p4, p5, p6⟩ := putE (4, List.replicate F x) _ hd2 ((ch.trans Chg.app).trans Chg.app)
        refine (tail ("" : Str) _ _ _ _ p1 p2 p3 p4 p5 (fun _ => by simp [wrong, p6]) (fun h => by cases h) (fun b e => by rw [p6] at e; cases e; simp)).mono fun _ _ q => fin q
      · walk_at "zs"
        have f2 : (H ++ [Ob.lst [Z.int 0]])[a]? = some (.ins 0 fs) := get_app f1
        simp only [zFld_ins f2, e3]
        walk_at "zs"
        rw [zMul_lst get_new (by omega)]
        walk_at "zs"
        rw [zBF_tuple_lst get_new]
        walk_at "zs"
        have hd2 : (H ++ [Ob.lst [Z.int 0]] ++ [Ob.lst (List.replicate B (Z.int 0))])[d]? = some (.dct kvs) := get_app (get_app hd)
        rw [zSet_dct hd2 (by rw [line_eq]; omega)]
        walk_at "zs"
        have hb : Z.tup [Z.int 3, Z.tup (List.replicate B (Z.int 0))] = blkZ (3, List.replicate B 0) := by simp [blkZ]
        rw [hb]
        obtain ⟨p1, p2, p3, p4, p5, p6⟩ := putE (3, List.replicate B 0) _ hd2 ((ch.trans Chg.app).trans Chg.app)
        refine (tail ("" : Str) _ _ _ _ p1 p2 p3 p4 p5 (fun h => by cases h) (fun _ l => by simp [wrong, p6]) (fun b e => by rw [p6] at e; cases e)).mono fun _ _ q => fin q
    · simp only [hm1]
      walk_at "zs"
      unfold m__law_bent_2e0e0
      walk_at "zs"
      simp only [hm1]
      walk_at "zs"
      unfold m__law_bent_2e0e0e0
      walk_at "zs"
      by_cases hm2 : m = 2
      · simp only [hm2]
        walk_at "zs"
        rcases hc with rfl | rfl
        · simp only [show decide ((3 : Int) = 4) = false from rfl]
          walk_at "zs"
          exact ⟨_, kvs, D, rfl, hd, r, by omega, ch, .inl ⟨rfl, rfl⟩⟩
        · walk_at "zs"
          unfold m__law_bent_2e0e0e0b0
          walk_at "zs"
          have f2 : (H ++ [Ob.lst [Z.int 0]])[a]? = some (.ins 0 fs) := get_app f1
          simp only [zFld_ins f2, e2]
          walk_at "zs"
          rw [zMul_lst get_new (by omega)]
          walk_at "zs"
          rw [zBF_tuple_lst get_new]
          walk_at "zs"
          have hd2 : (H ++ [Ob.lst [Z.int 0]] ++ [Ob.lst (List.replicate F (Z.int 0))])[d]? = some (.dct kvs) := get_app (get_app hd)
          rw [zSet_dct hd2 (by rw [line_eq]; omega)]
          walk_at "zs"
          have hb : Z.tup [Z.int 4, Z.tup (List.replicate F (Z.int 0))] = blkZ (4, List.replicate F 0) := by simp [blkZ]
          rw [hb]
          obtain ⟨p1, p2, p3, p4, p5, p6⟩ := putE (4, List.replicate F 0) _ hd2 ((ch.trans Chg.app).trans Chg.app)
          unfold m__law_bent_2e0e0e0b1
          walk_at "zs"
          refine ⟨_, _, _, rfl, p1, p2, p3, p4, .inr (bent_of hx p5 ?_ dim (fun b e => by rw [p6] at e; cases e; simp) (by decide +kernel) (by decide +kernel))⟩
          intro l _ h4
          have : ((List.replicate F (0 : Int)).any fun x => x != 0) = false := by
            rw [List.any_eq_false]
            intro y hy
            rw [List.eq_of_mem_replicate hy]
            decide
          simp [wrong, p6, h4 rfl, this]
      · simp only [hm2]
        walk_at "zs"
        exact ⟨_, kvs, D, rfl, hd, r, by omega, ch, .inl ⟨rfl, rfl⟩⟩
end K89
namespace K89
open PySem PySem.Spec PyProof.Rows L2 Zm
local macro_rules | `(tactic| walk_at "zs") => `(tactic| try simp only [runD_Ok, r_dE_var, r_dE_lit, r_dE_glb, r_dE_bin, r_dE_neg, r_dE_cmp, r_dE_cmp2, r_dE_and, r_dE_or, r_dE_not, r_dE_ite, r_dE_tup, r_dE_lst, r_dE_dct0, r_dE_idx, r_dE_slc, r_dE_fld, r_dE_call, r_dE_mk, r_dE_mth, r_dE_bf, r_dE_bm, r_dE_isT, r_dE_comp, r_dX_tr, r_dX_and, r_dX_or, r_dX_not, r_dEs_nil, r_dEs_cons, r_dP_no, r_dP_some, r_dC_no, r_dC_some, r_dI_seq, r_dI_rng1, r_dI_rng2, r_dI_rrng1, r_dG_nm, r_dG_tup, r_dG_sub, r_dG_fld, r_dS_asg, r_dS_aug, r_dS_expr, r_dS_ret, r_dS_retN, r_dS_ite, r_dS_while, r_dS_for, r_dS_pass, r_dS_brk, r_dS_cont, r_dS_never, r_dSs_nil, r_dSs_cons, tgt, zBin, zCmp, Res.bind_ok, Ok_ok, Ok_bind, Ok_guard, List.length_cons, List.length_nil, List.map_cons, List.map_nil, List.replicate, List.nil_append, List.cons_append, List.getElem?_cons_zero, List.getElem?_cons_succ, List.set_cons_zero, List.set_cons_succ, Nat.reduceSub, Nat.reduceAdd, zAdd_int, zSub_int, zAddI_int, zMul_int, zDiv_int, zMod_int, zPow_int, zNeg_int, zLt_int, zLe_int, zGt_int, zGe_int, zEq_int, zNe_int, zIs_non, zIsNot_non, zTru_bl, zTru_int, zTru_non, zTru_tup, atI_0, atI_1, atI_2, atI_3, oRes_some, zIdx_tup, zBF_int, zBF_len_tup, zBF_list_tup, zBF_min, newL_eq, if_true, if_false, Bool.false_eq_true, reduceIte, zIsN, Bool.not_true, Bool.not_false, beq_self_eq_true, bne_self_eq_false, Int.reduceBNe, Int.reduceEq, decide_true, decide_false, true_and, and_true, if_true, if_false, List.isEmpty_cons, List.isEmpty_nil, setAll, List.all_cons, List.all_nil, flatZ, wipeZ, line_0, line_1, line_2, line_3, line_4, line_5, line_6, line_7, line_8, line_9])
/-- a comprehension over a range, test and value plain -/
theorem comp_rng_pure {t : Z → Ev → Mh → Res Ev} {c : Ev → Mh → Res Bool} {e : Ev → Mh → Res Z} {ρ : Ev} {Q : Z → Mh → Prop} (p : Z → Bool) (g : Z → Z) {n : Nat} {h : Mh} (hn : n < 1000000)
    (step : ∀ i, i < n → ∀ o, Ok (t (.int (i : Int)) ρ (h ++ [.lst o])) fun ρ1 h1 => Ok (c ρ1 h1) fun b h2 => h2 = h ++ [.lst o] ∧ b = p (.int (i : Int)) ∧ (p (.int (i : Int)) = true → Ok (e ρ1 (h ++ [.lst o])) fun y h3 => y = g (.int (i : Int)) ∧ h3 = h ++ [.lst o]))
    (fin : Q (.ob h.length) (h ++ [.lst ((((List.range n).map fun i : Nat => Z.int (i : Int)).filter p).map g)])) : Ok (wkRng (.int 0) (.int (n : Int)) h) fun w h1 => Ok (compL h1.length w.still t c e ρ w.items (h1 ++ [.lst []])) Q := by
  show Ok (guard _ (.ok (⟨rngZ 0 n, fun _ => True⟩ : Wk) h)) _
  have hr : rngZ 0 (n : Int) = (List.range n).map fun i : Nat => Z.int (i : Int) := by
    simp [rngZ]
  rw [Ok_guard, Ok_ok]
  refine And.intro (by omega) ?_
  simp only [hr]
  refine comp_pure p g rfl (by simp; omega) (fun _ => trivial) ?_ fin
  intro z hz o
  obtain ⟨i, hi, rfl⟩ := List.mem_map.mp hz
  exact step i (List.mem_range.mp hi) o
theorem law_twice (k a R d j at_ F B : Nat) (root : Int) (kvs : List (Key × Z)) (D : Blk) (h : Mh) (hl : isLay h a F B) (h1 : 1 < F) (hF : F ≤ 128) (eR : h[R]? = some (.lst [.ob d, .int (j : Int), .int root, .int (at_ : Int)])) (ed : h[d]? = some (.dct kvs)) (r : Rep kvs D) (hkl : kvs.length ≤ 100)
    (hr : 0 < j → ∃ b, D root = some (4, b) ∧ b.length = F) :
    Ok (prg.C (k + 1) f__law_twice [.ob a, .ob R] h) fun z h' => ∃ told kvs' E, z = .str told ∧ h'[d]? = some (.dct kvs') ∧ Rep kvs' E ∧ kvs'.length ≤ kvs.length + 1 ∧ Chg [d] h h' ∧ ((told = ("" : Str) ∧ E = D) ∨ (told = ("block used twice" : Str) ∧ 0 < j ∧ ∃ b f, D root = some (4, b) ∧ b[f]? = some (0 : Int) ∧ E = upd D root (4, b.set f root))) := by
  have hdR : R ≠ d := ne_of_get eR ed (by simp)
  obtain ⟨fs, e1, e2, e3⟩ := hl
  rw [prg.call (b := m__law_twice) rfl h rfl]
  unfold m__law_twice
  walk_at "zs"
  simp only [zIdx_lst eR]
  walk_at "zs"
  unfold m__law_twice_1
  walk_at "zs"
  simp only [zIdx_lst eR]
  walk_at "zs"
  by_cases hj : j = 0
  · have : decide ((j : Int) = 0) = true := by simp [hj]
    simp only [this]
    walk_at "zs"
    exact ⟨_, kvs, D, rfl, ed, r, by omega, .refl, .inl ⟨rfl, rfl⟩⟩
  · have : decide ((j : Int) = 0) = false := by simp; omega
    simp only [this]
    walk_at "zs"
    obtain ⟨b, hb, hbl⟩ := hr (by omega)
    unfold m__law_twice_2
    walk_at "zs"
    simp only [zIdx_lst eR]
    walk_at "zs"
    simp only [zIdx_dct ed, r.at_, hb, Option.map_some]
    walk_at "zs"
    unfold blkZ
    walk_at "zs"
    unfold m__law_twice_3
    walk_at "zs"
    have f1 : (h ++ [Ob.lst (b.map Z.int)])[a]? = some (.ins 0 fs) := get_app e1
    simp only [zFld_ins f1, e2]
    walk_at "zs"
    have eb : (h ++ [Ob.lst (b.map Z.int)])[h.length]? = some (.lst (b.map Z.int)) := get_new
    refine comp_rng_pure (fun z => match z with
      | .int i => decide (b[i.toNat]? = some 0) && decide (0 < i)
      | _ => false) id (n := F) (by omega) ?_ ?_
    · intro i hi o
      obtain ⟨y, hy⟩ : ∃ y, b[i]? = some y := ⟨_, List.getElem?_eq_getElem (by omega)⟩
      have a1 : atI (b.map Z.int) ((i : Nat) : Int) = some (.int y) := by
        rw [atI_nat]
        simp [hy]
      have eb2 : (h ++ [Ob.lst (b.map Z.int)] ++ [Ob.lst o])[h.length]? = some (.lst (b.map Z.int)) := get_app eb
      walk_at "zs"
      simp only [zIdx_lst eb2, a1]
      walk_at "zs"
      by_cases hy0 : y = 0
      · subst hy0
        walk_at "zs"
        simp [hy, Ok]
      · simp only [hy0]
        walk_at "zs"
        simp [hy, hy0]
    · walk_at "zs"
      generalize hfr : ((((List.range F).map fun i : Nat => Z.int (i : Int)).filter fun z => match z with
        | .int i => decide (b[i.toNat]? = some 0) && decide (0 < i)
        | _ => false).map id) = free
      have hmem : ∀ z ∈ free, ∃ f : Nat, z = .int (f : Int) ∧ b[f]? = some (0 : Int) := by
        intro z hz
        rw [← hfr, List.map_id] at hz
        obtain ⟨h3, h4⟩ := List.mem_filter.mp hz
        obtain ⟨f, _, rfl⟩ := List.mem_map.mp h3
        simp at h4
        exact ⟨f, rfl, h4.1⟩
      have hfl : free.length ≤ 128 := by
        rw [← hfr, List.map_id]
        refine Nat.le_trans (List.length_filter_le _ _) ?_
        simp
        omega
      unfold m__law_twice_4
      walk_at "zs"
      simp only [zBF_len_lst get_new]
      walk_at "zs"
      rcases List.eq_nil_or_concat free with rfl | ⟨fr0, z, rfl⟩
      · walk_at "zs"
        refine ⟨_, kvs, D, rfl, get_app (get_app ed), r, by omega, Chg.app.trans Chg.app, .inl ⟨rfl, rfl⟩⟩
      · have : decide (((fr0.concat z).length : Int) = 0) = false := by simp; omega
        simp only [this]
        walk_at "zs"
        obtain ⟨f, rfl, hbf⟩ := hmem z (by simp)
        unfold m__law_twice_5
        walk_at "zs"
        have eR2 : (h ++ [Ob.lst (b.map Z.int)] ++ [Ob.lst (fr0.concat (Z.int (f : Int)))])[R]? = some (.lst [.ob d, .int (j : Int), .int root, .int (at_ : Int)]) := get_app (get_app eR)
        simp only [zIdx_lst eR2]
        walk_at "zs"
        have a2 : atI (fr0.concat (Z.int (f : Int))) (-1) = some (.int (f : Int)) := atI_end (by simp)
        simp only [zIdx_lst get_new, a2]
        walk_at "zs"
        have eb2 : (h ++ [Ob.lst (b.map Z.int)] ++ [Ob.lst (fr0.concat (Z.int (f : Int)))])[h.length]? = some (.lst (b.map Z.int)) := get_app eb
        have hfb := (List.getElem?_eq_some_iff.mp hbf).1
        have hk : ixN (b.map Z.int).length (f : Int) = some f := by
          have := ixN_get (n := (b.map Z.int).length) (i := (f : Int)) (by omega) (by simp; omega)
          simpa using this
        rw [zSet_lst eb2 hk]
        walk_at "zs"
        rw [← List.map_set]
        have hRl := lt_of_get eR
        have hdl := lt_of_get ed
        generalize hG : (h ++ [Ob.lst (b.map Z.int)] ++ [Ob.lst (fr0.concat (Z.int (f : Int)))]).set h.length (.lst ((b.set f root).map Z.int)) = G
        have gb : G[h.length]? = some (.lst ((b.set f root).map Z.int)) := by rw [← hG]; exact get_set eb2
        have gR : G[R]? = some (.lst [.ob d, .int (j : Int), .int root, .int (at_ : Int)]) := by rw [← hG, get_set_ne (by omega)]; exact eR2
        have gd : G[d]? = some (.dct kvs) := by rw [← hG, get_set_ne (by omega)]; exact get_app (get_app ed)
        have gch : Chg [d] h G := by rw [← hG]; exact (Chg.app.trans Chg.app).setN (Nat.le_refl _)
        unfold m__law_twice_6
        walk_at "zs"
        rw [zBF_tuple_lst gb]
        walk_at "zs"
        simp only [zIdx_lst gR]
        walk_at "zs"
        rw [zSet_dct gd (by rw [line_eq]; omega)]
        walk_at "zs"
        unfold m__law_twice_7
        walk_at "zs"
        refine ⟨_, _, upd D root (4, b.set f root), rfl, get_set gd, r.put root (4, b.set f root), put_len _ _ _, gch.trans (Chg.set (.inl (by simp))), .inr ⟨rfl, by omega, b, f, rfl, hbf, rfl⟩⟩
end K89
namespace K89
open PySem PySem.Spec PyProof.Rows L2 Zm
local macro_rules | `(tactic| walk_at "zs") => `(tactic| try simp only [runD_Ok, r_dE_var, r_dE_lit, r_dE_glb, r_dE_bin, r_dE_neg, r_dE_cmp, r_dE_cmp2, r_dE_and, r_dE_or, r_dE_not, r_dE_ite, r_dE_tup, r_dE_lst, r_dE_dct0, r_dE_idx, r_dE_slc, r_dE_fld, r_dE_call, r_dE_mk, r_dE_mth, r_dE_bf, r_dE_bm, r_dE_isT, r_dE_comp, r_dX_tr, r_dX_and, r_dX_or, r_dX_not, r_dEs_nil, r_dEs_cons, r_dP_no, r_dP_some, r_dC_no, r_dC_some, r_dI_seq, r_dI_rng1, r_dI_rng2, r_dI_rrng1, r_dG_nm, r_dG_tup, r_dG_sub, r_dG_fld, r_dS_asg, r_dS_aug, r_dS_expr, r_dS_ret, r_dS_retN, r_dS_ite, r_dS_while, r_dS_for, r_dS_pass, r_dS_brk, r_dS_cont, r_dS_never, r_dSs_nil, r_dSs_cons, tgt, zBin, zCmp, Res.bind_ok, Ok_ok, Ok_bind, Ok_guard, List.length_cons, List.length_nil, List.map_cons, List.map_nil, List.replicate, List.nil_append, List.cons_append, List.getElem?_cons_zero, List.getElem?_cons_succ, List.set_cons_zero, List.set_cons_succ, Nat.reduceSub, Nat.reduceAdd, zAdd_int, zSub_int, zAddI_int, zMul_int, zDiv_int, zMod_int, zPow_int, zNeg_int, zLt_int, zLe_int, zGt_int, zGe_int, zEq_int, zNe_int, zIs_non, zIsNot_non, zTru_bl, zTru_int, zTru_non, zTru_tup, atI_0, atI_1, atI_2, atI_3, oRes_some, zIdx_tup, zBF_int, zBF_len_tup, zBF_list_tup, zBF_min, newL_eq, if_true, if_false, Bool.false_eq_true, reduceIte, zIsN, Bool.not_true, Bool.not_false, beq_self_eq_true, bne_self_eq_false, Int.reduceBNe, Int.reduceEq, decide_true, decide_false, true_and, and_true, if_true, if_false, List.isEmpty_cons, List.isEmpty_nil, setAll, List.all_cons, List.all_nil, flatZ, wipeZ, line_0, line_1, line_2, line_3, line_4, line_5, line_6, line_7, line_8, line_9])
theorem zSorted_dct {a : Nat} {kvs : List (Key × Z)} {ns : List Int} {h : Mh} (e : h[a]? = some (.dct kvs)) (q : keyInts kvs = some ns) (hl : ns.length < 64) : zBF .sorted [.ob a] h = .ok (.ob h.length) (h ++ [.lst ((sortI ns).map Z.int)]) := by
  simp only [zBF, e, q, newL]
  exact guard_pos hl
def listing (kvs : List (Key × Z)) (ns : List Int) : List Z := ns.map fun i => .tup [.int i, (valZ kvs (.inl i)).getD .non]
theorem plain_ints : ∀ (n : Nat) (xs : List Int), plainZs n (xs.map Z.int) = true
  | n, [] => by cases n <;> rfl
  | n, x :: xs => by simp [plainZs, plainZ, plain_ints n xs]
theorem plain_blk (b : Int × List Int) : plainZ 2 (blkZ b) = true := by
  simp [blkZ, plainZ, plainZs, plain_ints]
theorem plain_listing {kvs : List (Key × Z)} {D : Blk} (r : Rep kvs D) : ∀ ns : List Int, plainZs 3 (listing kvs ns) = true
  | [] => rfl
  | x :: xs => by
    have ih := plain_listing r xs
    unfold listing at ih ⊢
    rw [List.map_cons, plainZs, ih, Bool.and_true]
    simp only [r.at_]
    cases D x with
    | none => simp [plainZ, plainZs]
    | some b =>
      have := plain_blk b
      simp only [Option.map_some, Option.getD_some]
      simp [plainZ, plainZs, this]
/-- the dict's listing is made -/
theorem list_comp {k d : Nat} {kvs : List (Key × Z)} {D : Blk} {ns : List Int} {ρ : Ev} {h : Mh} {Q : Z → Mh → Prop} (hρ : (wipeZ ρ [15]).length = 20) (h9 : ((wipeZ ρ [15])[9]? : Option (Option Z)) = some (some (.ob d))) (ed : h[d]? = some (.dct kvs)) (r : Rep kvs D) (q : keyInts kvs = some ns) (hl : ns.length < 64) (hm : ∀ i ∈ ns, ∃ z, valZ kvs (.inl i) = some z)
    (h9' : (ρ[9]? : Option (Option Z)) = some (some (.ob d)))
    (fin : Q (.ob (h.length + 1)) (h ++ [.lst ((sortI ns).map Z.int), .lst (listing kvs (sortI ns))])) :
    Ok (dE (prg.C k) (.comp [15] (.nm 15) (.seq (.bf .sorted (.cons (.var 9) .nil))) .no (.tup (.cons (.var 15) (.cons (.idx (.var 9) (.var 15)) .nil)))) ρ h) Q := by
  rw [r_dE_comp, Ok_bind, r_dI_seq, Ok_bind, r_dE_bf, Ok_bind, r_dEs_cons, Ok_bind, r_dE_var, h9']
  simp only [Ok_ok, Ok_bind, r_dEs_nil]
  rw [zSorted_dct ed q hl, Ok_ok]
  have eS : (h ++ [Ob.lst ((sortI ns).map Z.int)])[h.length]? = some (.lst ((sortI ns).map Z.int)) := get_new
  simp only [wkSeq, eS, Ok_ok]
  have hsl : (sortI ns).length = ns.length := (sort_perm ns).length_eq
  refine comp_pure (fun _ => true) (fun z => match z with
    | .int i => .tup [.int i, (valZ kvs (.inl i)).getD .non]
    | _ => .non) rfl (by simp; omega) (fun o => get_app eS) ?_ ?_
  · intro z hz o
    obtain ⟨i, hi, rfl⟩ := List.mem_map.mp hz
    have hi2 : i ∈ ns := (sort_perm ns).mem_iff.mp hi
    obtain ⟨z, hz2⟩ := hm i hi2
    have e15 : (((wipeZ ρ [15]).set 15 (some (.int i)))[15]? : Option (Option Z)) = some (some (.int i)) := List.getElem?_set_self (by omega)
    have e9 : (((wipeZ ρ [15]).set 15 (some (.int i)))[9]? : Option (Option Z)) = some (some (.ob d)) := by
      rw [List.getElem?_set_ne (by omega)]
      exact h9
    have ed2 : (h ++ [Ob.lst ((sortI ns).map Z.int)] ++ [Ob.lst o])[d]? = some (.dct kvs) := get_app (get_app ed)
    simp only [tgt, Ok_ok, r_dC_no, true_and]
    intro _
    rw [r_dE_tup, Ok_bind, r_dEs_cons, Ok_bind, r_dE_var, e15, Ok_ok, Ok_bind, r_dEs_cons, Ok_bind, r_dE_idx, Ok_bind, r_dE_var, e9]
    simp only [Ok_ok, Ok_bind, r_dE_var, e15, zIdx_dct ed2, hz2, oRes_some, r_dEs_nil]
    rw [Ok_guard, Ok_ok]
    exact ⟨le_line (by simp), rfl, rfl⟩
  · have : ((List.map Z.int (sortI ns)).filter fun _ => true).map (fun z => match z with
        | .int i => .tup [.int i, (valZ kvs (.inl i)).getD .non]
        | _ => .non) = listing kvs (sortI ns) := by
      rw [List.filter_eq_self.mpr (fun _ _ => rfl), List.map_map]
      rfl
    rw [this]
    simpa using fin
def Ends : Fl → Mh → Prop
  | .ret z, _ => z = .bl true
  | _, _ => False
theorem fz_plain {o : Option (Str × Int)} (h : ∀ m i, o = some (m, i) → PyData.strOk m = true) : plainZ 1 (fz o) = true := by
  cases o with
  | none => rfl
  | some mi =>
    obtain ⟨m, i⟩ := mi
    simp [fz, plainZ, plainZs, h m i rfl]
theorem law_end (k a d f F j j' B : Nat) (size root height : Int) (kvs : List (Key × Z)) (D : Blk) (U : List Int) (h : Mh) (v0 v1 v3 v4 v5 v6 v7 v8 v10 v11 v14 v15 v16 v17 v18 v19 : Option Z) (hl : isLay h a F B) (h1 : 1 < F) (hF : F ≤ 128) (hB : 0 < B) (hB2 : B ≤ 256) (hs : 0 ≤ size) (ed : h[d]? = some (.dct kvs)) (r : Rep kvs D) (hkl : kvs.length < 64) (hU : ∀ i, (D i).isSome = true → i ∈ U) (hUl : U.length ≤ 1000) (hD : ∀ i b, D i = some (4, b) → b.length = F)
    (hf : isFile h f size height root) (hj : root ≠ 0 → height = (j : Int) ∧ j ≤ 5)
    (hn : ∀ s rs, looks D F j root = .go s rs → (∀ l ∈ rs.getLast?, (∀ i, i < j' → 0 < l.1 / (F : Int) ^ i) ∧ l.1 / (F : Int) ^ j' = 0) ∧ (rs = [] → j' = 0))
    (due : Option (Str × Int)) (hdue : faultO B size root height j' (looks D F j root) = due) (hok : ∀ m i, due = some (m, i) → PyData.strOk m = true) :
    Ok (dSs (prg.C (k + 3)) prg.gt.fl m_law_21 [v0, v1, some (.ob a), v3, v4, v5, v6, v7, v8, some (.ob d), v10, v11, some (.ob f), some (fz due), v14, v15, v16, v17, v18, v19] h) Ends := by
  obtain ⟨ns, q1, q2, q3⟩ := r.ks.ints
  have hm : ∀ i ∈ ns, ∃ z, valZ kvs (.inl i) = some z := fun i hi => valZ_mem (by rw [q2]; exact List.mem_map.mpr ⟨i, hi, rfl⟩)
  unfold m_law_21
  rw [r_dSs_cons, Ok_bind, r_dS_asg, Ok_bind]
  refine list_comp (d := d) (kvs := kvs) (D := D) (ns := ns) rfl rfl ed r q1 (by omega) hm rfl ?_
  walk_at "zs"
  unfold m_law_22
  walk_at "zs"
  generalize hG : h ++ [Ob.lst ((sortI ns).map Z.int), Ob.lst (listing kvs (sortI ns))] = G
  have gd : G[d]? = some (.dct kvs) := by rw [← hG]; exact get_app ed
  have gl : isLay G a F B := by
    obtain ⟨fs, e1, e2⟩ := hl
    exact ⟨fs, by rw [← hG]; exact get_app e1, e2⟩
  have gf : isFile G f size height root := by
    obtain ⟨fs, e1, e2⟩ := hf
    exact ⟨fs, by rw [← hG]; exact get_app e1, e2⟩
  have g1 : G[h.length + 1]? = some (.lst (listing kvs (sortI ns))) := by rw [← hG]; simp
  refine (tree_fault k a d f F j j' B size root height kvs D U G gl h1 hF (by omega) (by omega) hs gd r hU hUl hD gf hj hn).mono ?_
  rintro z h2 ⟨rfl, pre⟩
  rw [hdue]
  walk_at "zs"
  unfold m_law_23
  rw [r_dSs_cons, Ok_bind, r_dS_ite, Ok_bind, r_dX_tr, Ok_bind, r_dE_cmp, Ok_bind]
  refine list_comp (d := d) (kvs := kvs) (D := D) (ns := ns) rfl rfl (pre.get gd) r q1 (by omega) hm rfl ?_
  walk_at "zs"
  have e1 : (h2 ++ [Ob.lst ((sortI ns).map Z.int), Ob.lst (listing kvs (sortI ns))])[h2.length + 1]? = some (.lst (listing kvs (sortI ns))) := by simp
  have e2 : (h2 ++ [Ob.lst ((sortI ns).map Z.int), Ob.lst (listing kvs (sortI ns))])[h.length + 1]? = some (.lst (listing kvs (sortI ns))) := get_app (pre.get g1)
  rw [zNe_lists e1 e2 (plain_listing r _) (by omega)]
  walk_at "zs"
  unfold m_law_24
  walk_at "zs"
  cases due with
  | none =>
    simp only [fz]
    walk_at "zs"
    rfl
  | some mi =>
    obtain ⟨m, i⟩ := mi
    have hp := fz_plain hok
    simp only [fz] at hp ⊢
    walk_at "zs"
    unfold m_law_25
    walk_at "zs"
    rw [zEq_same _ hp (by omega)]
    walk_at "zs"
    rfl
end K89
namespace K89
open PySem PySem.Spec PyProof.Rows L2 Zm
theorem rows_app (f : Nat → List Int) : ∀ (s : Nat) (ks : List Int) (l : Int), rowsFrom f s (ks ++ [l]) = rowsFrom f s ks ++ [(l, f (s + ks.length))]
  | s, [], l => rfl
  | s, x :: xs, l => by
    rw [List.cons_append, rowsFrom, rows_app f (s + 1) xs l, rowsFrom, List.length_cons]
    rw [show s + 1 + xs.length = s + (xs.length + 1) by omega]
    rfl
theorem rows_key (f : Nat → List Int) : ∀ (s : Nat) (ks : List Int) (r : Row), r ∈ rowsFrom f s ks → r.1 ∈ ks
  | s, [], r, h => by simp [rowsFrom] at h
  | s, x :: xs, r, h => by
    rw [rowsFrom] at h
    rcases List.mem_cons.mp h with h | h
    · subst h
      simp
    · exact List.mem_cons_of_mem _ (rows_key f (s + 1) xs r h)
/-- the rows: the last one, and those ahead of it -/
theorem rows_split {F B : Nat} {ks : List Int} {last : Int} (hk : Keys F ks) (hl : ks.getLast? = some last) (bl : List Int) : ∃ R0, rowsOf B ks bl = R0 ++ [(last, bl)] ∧ (∀ r ∈ R0, r.1 < last) ∧ 0 ≤ last := by
  obtain ⟨ys, rfl⟩ := List.getLast?_eq_some_iff.mp hl
  refine ⟨rowsFrom (fun t => if t + 1 = (ys ++ [last]).length then bl else dat B t) 0 ys, ?_, ?_, hk.nn last (by simp)⟩
  · rw [rowsOf, rows_app]
    simp
  · intro r hr
    have h1 := rows_key _ _ _ _ hr
    have h2 := hk.lt
    rw [List.pairwise_append] at h2
    exact h2.2.2 _ h1 last (by simp)
theorem late_none {B size last : Int} {R0 : List Row} {bl : List Int} (h : ∀ r ∈ R0, r.1 < last) (e : last < (size + B - 1) / B) : late B size (R0 ++ [(last, bl)]) = [] := by
  unfold late
  rw [List.filter_eq_nil_iff]
  intro r hr
  rcases List.mem_append.mp hr with hr | hr
  · have := h r hr
    simp
    omega
  · simp at hr
    subst hr
    simpa using e
theorem late_last {B size last : Int} {R0 : List Row} {bl : List Int} (h : ∀ r ∈ R0, r.1 < last) (e : (size + B - 1) / B = last) : late B size (R0 ++ [(last, bl)]) = [(last, bl)] := by
  unfold late
  rw [List.filter_append, List.filter_eq_nil_iff.mpr]
  · simp [e]
  · intro r hr
    have := h r hr
    simp
    omega
theorem div_of {n B q t : Int} (hB : 0 < B) (e : n = q * B + t) (h0 : 0 ≤ t) (h1 : t < B) : n / B = q ∧ n % B = t := by
  subst e
  refine ⟨?_, ?_⟩
  · rw [Int.add_comm, Int.add_mul_ediv_right _ _ (by omega), Int.ediv_eq_zero_of_lt h0 h1]
    omega
  · rw [Int.add_comm, Int.add_mul_emod_self_right, Int.emod_eq_of_lt h0 h1]
/-- the last data block, cut -/
def cutD (B k rest : Nat) : List Int := (dat B k).take (B - rest) ++ List.replicate rest 0
theorem sound_none {B rest k : Nat} {last : Int} {R0 : List Row} (hB : 0 < B) (hr : rest < B) (h : ∀ r ∈ R0, r.1 < last) (root : Int) (j : Nat) : faultR (B : Int) (last * B + B - rest) root (j : Int) j (R0 ++ [(last, cutD B k rest)]) = none := by
  have hBi : (0 : Int) < (B : Int) := by omega
  have e1 : ((last * (B : Int) + B - rest) + B - 1) / (B : Int) = last + 1 := by
    refine (div_of (t := (B : Int) - rest - 1) hBi ?_ (by omega) (by omega)).1
    rw [Int.add_mul]
    omega
  unfold faultR
  rw [if_pos rfl, late_none h (by omega)]
  simp only []
  rw [if_neg]
  intro hs
  obtain ⟨r, hr1, hr2⟩ := List.any_eq_true.mp hs
  unfold spill at hr2
  simp only [Bool.and_eq_true, decide_eq_true_eq] at hr2
  have hle : r.1 ≤ last := by
    rcases List.mem_append.mp hr1 with q | q
    · exact Int.le_of_lt (h r q)
    · simp at q
      rw [q]
      exact Int.le_refl _
  by_cases h0 : rest = 0
  · have := (div_of (n := last * (B : Int) + B - rest) (q := last + 1) (t := 0) hBi (by rw [Int.add_mul]; omega) (by omega) (by omega)).1
    rw [this] at hr2
    omega
  · obtain ⟨d1, d2⟩ := div_of (n := last * (B : Int) + B - rest) (q := last) (t := (B : Int) - rest) hBi (by omega) (by omega) (by omega)
    rw [d1, d2] at hr2
    rcases List.mem_append.mp hr1 with q | q
    · have := h r q
      omega
    · simp at q
      subst q
      have : (cutD B k rest).drop ((B : Int) - rest).toNat = List.replicate rest 0 := by
        unfold cutD
        rw [show ((B : Int) - rest).toNat = ((dat B k).take (B - rest)).length by
          simp [dat]
          try omega]
        exact List.drop_left
      rw [this] at hr2
      obtain ⟨y, hy1, hy2⟩ := List.any_eq_true.mp hr2.2
      rw [List.eq_of_mem_replicate hy1] at hy2
      simp at hy2
theorem behind_end {B : Nat} {last t : Int} {bl : List Int} {R0 : List Row} (hB : 0 < B) (h0 : 0 ≤ t) (h1 : t < B) (h : ∀ r ∈ R0, r.1 < last) (root : Int) (j : Nat) : faultR (B : Int) (last * B - t) root (j : Int) j (R0 ++ [(last, bl)]) = some (("data block behind the end" : Str), last) := by
  have hBi : (0 : Int) < (B : Int) := by omega
  have e1 : ((last * (B : Int) - t) + B - 1) / (B : Int) = last := (div_of (t := (B : Int) - 1 - t) hBi (by omega) (by omega) (by omega)).1
  unfold faultR
  rw [if_pos rfl, late_last h e1]
theorem within_end {B rest k : Nat} {last t : Int} {R0 : List Row} (hB : 0 < B) (hr : rest < B) (h0 : 0 < t) (h1 : t < (B : Int) - rest) (h : ∀ r ∈ R0, r.1 < last) (root : Int) (j : Nat) : faultR (B : Int) (last * B + t) root (j : Int) j (R0 ++ [(last, cutD B k rest)]) = some (("octets behind the end" : Str), last * B + t) := by
  have hBi : (0 : Int) < (B : Int) := by omega
  have e1 : ((last * (B : Int) + t) + B - 1) / (B : Int) = last + 1 := by
    refine (div_of (t := t - 1) hBi ?_ (by omega) (by omega)).1
    rw [Int.add_mul]
    omega
  obtain ⟨d1, d2⟩ := div_of (n := last * (B : Int) + t) (q := last) (t := t) hBi rfl (by omega) (by omega)
  unfold faultR
  rw [if_pos rfl, late_none h (by omega)]
  simp only []
  rw [if_pos]
  refine List.any_eq_true.mpr ⟨(last, cutD B k rest), by simp, ?_⟩
  unfold spill
  rw [d1, d2]
  simp only [decide_true, Bool.true_and]
  refine List.any_eq_true.mpr ⟨1 + (k : Int) % 255, ?_, ?_⟩
  · refine List.mem_iff_getElem?.mpr ⟨0, ?_⟩
    rw [List.getElem?_drop, Nat.add_zero]
    unfold cutD dat
    rw [List.getElem?_append_left (by simp; omega), List.getElem?_take_of_lt (by omega), List.getElem?_replicate, if_pos (by omega)]
  · have := Int.emod_nonneg (k : Int) (show (255 : Int) ≠ 0 by omega)
    simp
    omega
theorem good_mem {D : Blk} {F : Nat} : ∀ {j : Nat} {p id : Int} {is : List Int} {rs : List Row}, Good D F j p id is rs → ∀ i ∈ is, ∃ c b, D i = some (c, b) ∧ (c = 3 ∨ c = 4) := by
  intro j
  induction j with
  | zero =>
    rintro p id is rs ⟨b, e, rfl, rfl⟩ i hi
    simp at hi
    subst hi
    exact ⟨3, b, e, .inl rfl⟩
  | succ j ih =>
    have key : ∀ (b : List Int) (q : Int) (is : List Int) (rs : List Row), GoodL (Good D F j) q b is rs → ∀ i ∈ is, ∃ c b, D i = some (c, b) ∧ (c = 3 ∨ c = 4) := by
      intro b
      induction b with
      | nil =>
        intro q is rs g i hi
        rw [g.1] at hi
        cases hi
      | cons x xs ihb =>
        intro q is rs g i hi
        rcases g with ⟨_, g⟩ | ⟨_, i1, r1, i2, r2, g1, g2, rfl, rfl⟩
        · exact ihb _ _ _ g i hi
        · rcases List.mem_append.mp hi with hi | hi
          · exact ih g1 i hi
          · exact ihb _ _ _ g2 i hi
    rintro p id is rs ⟨b, is', e, _, _, rfl, g⟩ i hi
    rcases List.mem_cons.mp hi with rfl | hi
    · exact ⟨4, b, e, .inr rfl⟩
    · exact key _ _ _ _ g i hi
/-- one block more at the top -/
theorem good_top {D : Blk} {F j : Nat} {root x : Int} {is : List Int} {rs : List Row} (g : Good D F j 0 root is rs) (hF : 0 < F) (hr : root ≠ 0) (hx : x ∉ is) : Good (upd D x (4, root :: List.replicate (F - 1) 0)) F (j + 1) 0 x (x :: is) rs := by
  refine ⟨root :: List.replicate (F - 1) 0, is, by simp [upd], by simp; omega, by simp [hr], rfl, .inr ⟨hr, is, rs, [], [], ?_, goodL_zero _ _, by simp, by simp⟩⟩
  have := good_mono (E := upd D x (4, root :: List.replicate (F - 1) 0)) g fun i hi => by
    unfold upd
    rw [if_neg]
    rintro rfl
    exact hx hi
  simpa using this
end K89
namespace K89
open PySem PySem.Spec PyProof.Rows L2 Zm
local macro_rules | `(tactic| walk_at "zs") => `(tactic| try simp only [runD_Ok, r_dE_var, r_dE_lit, r_dE_glb, r_dE_bin, r_dE_neg, r_dE_cmp, r_dE_cmp2, r_dE_and, r_dE_or, r_dE_not, r_dE_ite, r_dE_tup, r_dE_lst, r_dE_dct0, r_dE_idx, r_dE_slc, r_dE_fld, r_dE_call, r_dE_mk, r_dE_mth, r_dE_bf, r_dE_bm, r_dE_isT, r_dE_comp, r_dX_tr, r_dX_and, r_dX_or, r_dX_not, r_dEs_nil, r_dEs_cons, r_dP_no, r_dP_some, r_dC_no, r_dC_some, r_dI_seq, r_dI_rng1, r_dI_rng2, r_dI_rrng1, r_dG_nm, r_dG_tup, r_dG_sub, r_dG_fld, r_dS_asg, r_dS_aug, r_dS_expr, r_dS_ret, r_dS_retN, r_dS_ite, r_dS_while, r_dS_for, r_dS_pass, r_dS_brk, r_dS_cont, r_dS_never, r_dSs_nil, r_dSs_cons, tgt, zBin, zCmp, Res.bind_ok, Ok_ok, Ok_bind, Ok_guard, List.length_cons, List.length_nil, List.map_cons, List.map_nil, List.replicate, List.nil_append, List.cons_append, List.getElem?_cons_zero, List.getElem?_cons_succ, List.set_cons_zero, List.set_cons_succ, Nat.reduceSub, Nat.reduceAdd, zAdd_int, zSub_int, zAddI_int, zMul_int, zDiv_int, zMod_int, zPow_int, zNeg_int, zLt_int, zLe_int, zGt_int, zGe_int, zEq_int, zNe_int, zIs_non, zIsNot_non, zTru_bl, zTru_int, zTru_non, zTru_tup, atI_0, atI_1, atI_2, atI_3, oRes_some, zIdx_tup, zBF_int, zBF_len_tup, zBF_list_tup, zBF_min, newL_eq, if_true, if_false, Bool.false_eq_true, reduceIte, zIsN, Bool.not_true, Bool.not_false, beq_self_eq_true, bne_self_eq_false, Int.reduceBNe, Int.reduceEq, decide_true, decide_false, true_and, and_true, if_true, if_false, List.isEmpty_cons, List.isEmpty_nil, setAll, List.all_cons, List.all_nil, flatZ, wipeZ, line_0, line_1, line_2, line_3, line_4, line_5, line_6, line_7, line_8, line_9])
section
variable {k a d f F j j2 B : Nat} {size root height last : Int} {kvs : List (Key × Z)} {D : Blk} {U is : List Int} {h : Mh} {v0 v1 v3 v4 v5 v6 v7 v8 v10 v11 v14 v15 v16 v17 v18 v19 : Option Z}
theorem end_go {rows : List Row} {bl : List Int} (hl : isLay h a F B) (h1 : 1 < F) (hF : F ≤ 128) (hB : 0 < B) (hB2 : B ≤ 256) (hs : 0 ≤ size) (ed : h[d]? = some (.dct kvs)) (r : Rep kvs D) (hkl : kvs.length < 64) (hU : ∀ i, (D i).isSome = true → i ∈ U) (hUl : U.length ≤ 1000) (hD : ∀ i b, D i = some (4, b) → b.length = F)
    (hf : isFile h f size height root) (hh : height = (j2 : Int)) (hj2 : j2 ≤ 5) (hr : root ≠ 0) (hg : Good D F j2 0 root is rows) (nd : is.Nodup) (hlast : rows.getLast? = some (last, bl)) (hj : ∀ i, i < j → 0 < last / (F : Int) ^ i) (h0 : last / (F : Int) ^ j = 0) (due : Option (Str × Int)) (hdue : faultR B size root height j rows = due) (hok : ∀ m i, due = some (m, i) → PyData.strOk m = true) :
    Ok (dSs (prg.C (k + 3)) prg.gt.fl m_law_21 [v0, v1, some (.ob a), v3, v4, v5, v6, v7, v8, some (.ob d), v10, v11, some (.ob f), some (fz due), v14, v15, v16, v17, v18, v19] h) Ends := by
  have hv : looks D F j2 root = .go is rows := by
    unfold looks
    rw [if_neg hr]
    have := visit_good j2 [] [] hg nd (by simp)
    simpa using this
  refine law_end k a d f F j2 j B size root height kvs D U h _ _ _ _ _ _ _ _ _ _ _ _ _ _ _ _ hl h1 hF hB hB2 hs ed r hkl hU hUl hD hf (fun _ => ⟨hh, hj2⟩) ?_ due ?_ hok
  · intro s rs e
    rw [hv] at e
    cases e
    refine ⟨fun l hl2 => ?_, fun e => ?_⟩
    · rw [hlast] at hl2
      cases hl2
      exact ⟨hj, h0⟩
    · rw [e] at hlast
      simp at hlast
  · rw [hv]
    exact hdue
theorem end_bad {m : Str} {i : Int} (hl : isLay h a F B) (h1 : 1 < F) (hF : F ≤ 128) (hB : 0 < B) (hB2 : B ≤ 256) (hs : 0 ≤ size) (ed : h[d]? = some (.dct kvs)) (r : Rep kvs D) (hkl : kvs.length < 64) (hU : ∀ i, (D i).isSome = true → i ∈ U) (hUl : U.length ≤ 1000) (hD : ∀ i b, D i = some (4, b) → b.length = F)
    (hf : isFile h f size height root) (hh : height = (j2 : Int)) (hj2 : j2 ≤ 5) (hr : root ≠ 0) (hv : visit D F j2 root 0 [] [] = .bad m i) (hok : PyData.strOk m = true) :
    Ok (dSs (prg.C (k + 3)) prg.gt.fl m_law_21 [v0, v1, some (.ob a), v3, v4, v5, v6, v7, v8, some (.ob d), v10, v11, some (.ob f), some (.tup [.str m, .int i]), v14, v15, v16, v17, v18, v19] h) Ends := by
  have hv : looks D F j2 root = .bad m i := by
    unfold looks
    rw [if_neg hr]
    exact hv
  refine law_end k a d f F j2 0 B size root height kvs D U h _ _ _ _ _ _ _ _ _ _ _ _ _ _ _ _ hl h1 hF hB hB2 hs ed r hkl hU hUl hD hf (fun _ => ⟨hh, hj2⟩) ?_ (some (m, i)) ?_ (by rintro m i e; cases e; exact hok)
  · intro s rs e
    rw [hv] at e
    cases e
  · rw [hv]
    rfl
end
/-- what stands ahead of the kinds -/
structure Sit (h : Mh) (a b kA iA R d f F B j at_ rest k0 : Nat) (root last : Int) (ks ids : List Int) (kvs : List (Key × Z)) (D : Blk) (is : List Int) (R0 : List Row) : Prop where
  hl : isLay h a F B
  h1 : 1 < F
  hF : F ≤ 128
  hB : 0 < B
  hB2 : B ≤ 256
  eb : ∃ n, h[b]? = some (.lst [.int n])
  eK : h[kA]? = some (.lst (ks.map Z.int))
  ei : h[iA]? = some (.lst (ids.map Z.int))
  eR : h[R]? = some (.lst [.ob d, .int (j : Int), .int root, .int (at_ : Int)])
  ed : h[d]? = some (.dct kvs)
  r : Rep kvs D
  hkl : kvs.length ≤ 46
  hf : isFile h f (last * B + B - rest) j root
  hg : Good D F j 0 root is (R0 ++ [(last, cutD B k0 rest)])
  pm : is.Perm (ids.take at_)
  R0l : ∀ r ∈ R0, r.1 < last
  l0 : 0 ≤ last
  kl : ks.getLast? = some last
  hj : ∀ i, i < j → 0 < last / (F : Int) ^ i
  h0 : last / (F : Int) ^ j = 0
  j3 : j ≤ 3
  rn : root ≠ 0
  at1 : 1 ≤ at_
  at2 : at_ ≤ 40
  dim : ∀ i b, D i = some (4, b) → b.length = F
  dom : ∀ i, (D i).isSome = true → i ∈ ids
  il : ids.length = 45
  nd : ids.Nodup
  nz : ∀ i ∈ ids, i ≠ 0
  rB : rest < B
section
variable {k a b kA iA R d f F B j at_ rest k0 : Nat} {root last : Int} {ks ids : List Int} {kvs : List (Key × Z)} {D : Blk} {is : List Int} {R0 : List Row} {h : Mh} {v5 v11 : Option Z}
theorem Sit.nodup (s : Sit h a b kA iA R d f F B j at_ rest k0 root last ks ids kvs D is R0) : is.Nodup := s.pm.nodup_iff.mpr (s.nd.sublist (List.take_sublist _ _))
theorem Sit.size0 (s : Sit h a b kA iA R d f F B j at_ rest k0 root last ks ids kvs D is R0) : 0 ≤ last * (B : Int) + B - rest := by
  have h1 := s.rB
  have h2 := Int.mul_nonneg s.l0 (show (0 : Int) ≤ (B : Int) by omega)
  omega
theorem isFile.mono {h h' : Mh} {f : Nat} {size height root : Int} (hf : isFile h f size height root) (m : ∀ o, h[f]? = some o → h'[f]? = some o) : isFile h' f size height root := by
  obtain ⟨fs, e, r⟩ := hf
  exact ⟨fs, m _ e, r⟩
theorem isLay.mono {h h' : Mh} {a : Nat} {F B : Int} (hf : isLay h a F B) (m : ∀ o, h[a]? = some o → h'[a]? = some o) : isLay h' a F B := by
  obtain ⟨fs, e, r⟩ := hf
  exact ⟨fs, m _ e, r⟩
theorem isFile.ne {h : Mh} {f x : Nat} {size height root : Int} {o : Ob} (hf : isFile h f size height root) (e : h[x]? = some o) (q : ∀ c fs, o ≠ .ins c fs) : f ≠ x := by
  obtain ⟨fs, e2, _⟩ := hf
  exact ne_of_get e2 e (fun q2 => q _ _ q2.symm)
theorem isLay.ne {h : Mh} {f x : Nat} {F B : Int} {o : Ob} (hf : isLay h f F B) (e : h[x]? = some o) (q : ∀ c fs, o ≠ .ins c fs) : f ≠ x := by
  obtain ⟨fs, e2, _⟩ := hf
  exact ne_of_get e2 e (fun q2 => q _ _ q2.symm)
/-- nothing is wrong -/
theorem kind_sound (s : Sit h a b kA iA R d f F B j at_ rest k0 root last ks ids kvs D is R0) {v0 v1 v3 v4 v6 v7 v8 v10 v14 v15 v16 v17 v18 v19 : Option Z} :
    Ok (dSs (prg.C (k + 3)) prg.gt.fl m_law_21 [v0, v1, some (.ob a), v3, v4, v5, v6, v7, v8, some (.ob d), v10, v11, some (.ob f), some .non, v14, v15, v16, v17, v18, v19] h) Ends :=
  end_go (bl := cutD B k0 rest) (U := ids) (is := is) s.hl s.h1 s.hF s.hB s.hB2 s.size0 s.ed s.r (by have := s.hkl; omega) s.dom (by have := s.il; omega) s.dim s.hf rfl (by have := s.j3; omega) s.rn s.hg s.nodup (by simp) s.hj s.h0 none (sound_none s.hB s.rB s.R0l root j) (by rintro m i e; cases e)
theorem kind7 (s : Sit h a b kA iA R d f F B j at_ rest k0 root last ks ids kvs D is R0) : Ok (dSs (prg.C (k + 3)) prg.gt.fl m_law_15 [some (.ob 0), some (.ob b), some (.ob a), some (.int (B : Int)), some (.ob kA), v5, some (.ob iA), some (.ob R), some (.int (rest : Int)), some (.ob d), some (.int (last * B + B - rest)), v11, some (.ob f), some .non, some (.int 7), none, none, none, none, none] h) Ends := by
  unfold m_law_15
  walk_at "zs"
  unfold m_law_16
  walk_at "zs"
  unfold m_law_17
  walk_at "zs"
  unfold m_law_18
  walk_at "zs"
  unfold m_law_19
  walk_at "zs"
  unfold m_law_20
  walk_at "zs"
  exact kind_sound s
theorem kind01 (s : Sit h a b kA iA R d f F B j at_ rest k0 root last ks ids kvs D is R0) (kd : Int) (hk : kd = 0 ∨ kd = 1) : Ok (dSs (prg.C (k + 3)) prg.gt.fl m_law_15 [some (.ob 0), some (.ob b), some (.ob a), some (.int (B : Int)), some (.ob kA), v5, some (.ob iA), some (.ob R), some (.int (rest : Int)), some (.ob d), some (.int (last * B + B - rest)), v11, some (.ob f), some .non, some (.int kd), none, none, none, none, none] h) Ends := by
  obtain ⟨n, eb⟩ := s.eb
  have hbR : b ≠ R := by
    intro q
    have h2 := s.eR
    rw [← q, eb] at h2
    simp at h2
  have hbi : b ≠ iA := by
    intro q
    have h2 := s.ei
    rw [← q, eb] at h2
    have := congrArg (fun o : Option Ob => match o with | some (.lst l) => l.length | _ => 0) h2
    simp at this
    have := s.il
    omega
  have hdb : d ≠ b := ne_of_get s.ed eb (by simp)
  have main : Ok (dSs (prg.C (k + 3)) prg.gt.fl m_law_15b0 [some (.ob 0), some (.ob b), some (.ob a), some (.int (B : Int)), some (.ob kA), v5, some (.ob iA), some (.ob R), some (.int (rest : Int)), some (.ob d), some (.int (last * B + B - rest)), v11, some (.ob f), some .non, some (.int kd), none, none, none, none, none] h) fun g h2 => match g with
      | .nx ρ => Ok (dSs (prg.C (k + 3)) prg.gt.fl m_law_16 ρ h2) Ends
      | _ => False := by
    unfold m_law_15b0
    walk_at "zs"
    rw [zIdx_lst s.eR]
    walk_at "zs"
    have h1 := s.at1
    have h2 := s.at2
    refine (take (k + 2) b n at_ h eb (by omega) (by omega)).mono ?_
    rintro z h' ⟨rfl, rfl⟩
    walk_at "zs"
    have hm1 := Int.emod_nonneg n (show (at_ : Int) ≠ 0 by omega)
    have hm2 := Int.emod_lt_of_pos n (show (0 : Int) < (at_ : Int) by omega)
    obtain ⟨t, ht, hte⟩ : ∃ t : Nat, t < at_ ∧ n % (at_ : Int) = (t : Int) := ⟨(n % (at_ : Int)).toNat, by omega, by omega⟩
    rw [hte]
    have hil := s.il
    obtain ⟨x, hx⟩ : ∃ x, ids[t]? = some x := ⟨_, List.getElem?_eq_getElem (by omega)⟩
    have a1 : atI (ids.map Z.int) (t : Int) = some (.int x) := by
      rw [atI_nat]
      simp [hx]
    generalize hH : h.set b (.lst [.int (n / (at_ : Int))]) = H
    have gi : H[iA]? = some (.lst (ids.map Z.int)) := by rw [← hH, get_set_ne hbi]; exact s.ei
    have gd : H[d]? = some (.dct kvs) := by rw [← hH, get_set_ne (Ne.symm hdb)]; exact s.ed
    have gb : H[b]? = some (.lst [.int (n / (at_ : Int))]) := by rw [← hH]; exact get_set eb
    have gl : isLay H a F B := s.hl.mono fun o e => by rw [← hH, get_set_ne (Ne.symm (s.hl.ne eb (by simp)))]; exact e
    have gf : isFile H f (last * B + B - rest) j root := s.hf.mono fun o e => by rw [← hH, get_set_ne (Ne.symm (s.hf.ne eb (by simp)))]; exact e
    simp only [zIdx_lst gi, a1]
    walk_at "zs"
    have hxm : x ∈ ids.take at_ := by
      obtain ⟨q, e⟩ := List.getElem?_eq_some_iff.mp hx
      exact List.mem_take_iff_getElem.mpr ⟨t, by omega, e⟩
    have hxi : x ∈ is := s.pm.mem_iff.mpr hxm
    obtain ⟨c, bd, hc, hc2⟩ := good_mem s.hg x hxi
    unfold m_law_15b1
    walk_at "zs"
    have hkl := s.hkl
    refine (law_bent (k + 1) a d b F B x c _ bd kvs D H gl s.hF s.hB2 gd s.r (by omega) gb hc hc2 s.dim).mono ?_
    rintro z h2 ⟨told, kvs', E, rfl, gd2, rp, hkl2, ch, hE⟩
    walk_at "zs"
    have gl2 : isLay h2 a F B := gl.mono fun o e => ch.get (by
      simp only [List.mem_cons, List.not_mem_nil, or_false, not_or]
      exact ⟨gl.ne gb (by simp), gl.ne gd (by simp)⟩) e
    have gf2 : isFile h2 f (last * B + B - rest) j root := gf.mono fun o e => ch.get (by
      simp only [List.mem_cons, List.not_mem_nil, or_false, not_or]
      exact ⟨gf.ne gb (by simp), gf.ne gd (by simp)⟩) e
    unfold m_law_15b2
    walk_at "zs"
    rcases hE with ⟨rfl, rfl⟩ | bt
    · rw [zNe_str _ (by decide +kernel) (by decide +kernel)]
      walk_at "zs"
      have hend : Ok (dSs (prg.C (k + 3)) prg.gt.fl m_law_21 [some (.ob 0), some (.ob b), some (.ob a), some (.int (B : Int)), some (.ob kA), v5, some (.ob iA), some (.ob R), some (.int (rest : Int)), some (.ob d), some (.int (last * B + B - rest)), v11, some (.ob f), some .non, some (.int kd), some (.int x), some (.str ""), none, none, none] h2) Ends := 
        end_go (bl := cutD B k0 rest) (U := ids) (is := is) gl2 s.h1 s.hF s.hB s.hB2 s.size0 gd2 rp (by omega) s.dom (by omega) s.dim gf2 rfl (by have := s.j3; omega) s.rn s.hg s.nodup (by simp) s.hj s.h0 none (sound_none s.hB s.rB s.R0l root j) (by rintro m i e; cases e)
      rcases hk with rfl | rfl
      · unfold m_law_16
        walk_at "zs"
        unfold m_law_17
        walk_at "zs"
        unfold m_law_18
        walk_at "zs"
        unfold m_law_19
        walk_at "zs"
        unfold m_law_20
        walk_at "zs"
        exact hend
      · unfold m_law_16
        walk_at "zs"
        unfold m_law_17
        walk_at "zs"
        unfold m_law_18
        walk_at "zs"
        unfold m_law_19
        walk_at "zs"
        unfold m_law_20
        walk_at "zs"
        exact hend
    · rw [zNe_str _ bt.ok (by decide +kernel)]
      have hne : (told == ("" : Str)) = false := by simpa using bt.ne
      rw [hne]
      walk_at "zs"
      have hv := visit_bent bt.same bt.w0 bt.w1 j [] [] s.hg s.nodup (by simp) hxi
      rw [Int.zero_mul] at hv
      have hend : Ok (dSs (prg.C (k + 3)) prg.gt.fl m_law_21 [some (.ob 0), some (.ob b), some (.ob a), some (.int (B : Int)), some (.ob kA), v5, some (.ob iA), some (.ob R), some (.int (rest : Int)), some (.ob d), some (.int (last * B + B - rest)), v11, some (.ob f), some (.tup [.str told, .int x]), some (.int kd), some (.int x), some (.str told), none, none, none] h2) Ends := 
        end_bad (U := ids) gl2 s.h1 s.hF s.hB s.hB2 s.size0 gd2 rp (by omega) (fun i hi => by
          by_cases q : i = x
          · rw [q]
            exact List.mem_of_mem_take hxm
          · rw [bt.same i q] at hi
            exact s.dom i hi) (by omega) bt.dim gf2 rfl (by have := s.j3; omega) s.rn hv bt.ok
      rcases hk with rfl | rfl
      · unfold m_law_16
        walk_at "zs"
        unfold m_law_17
        walk_at "zs"
        unfold m_law_18
        walk_at "zs"
        unfold m_law_19
        walk_at "zs"
        unfold m_law_20
        walk_at "zs"
        exact hend
      · unfold m_law_16
        walk_at "zs"
        unfold m_law_17
        walk_at "zs"
        unfold m_law_18
        walk_at "zs"
        unfold m_law_19
        walk_at "zs"
        unfold m_law_20
        walk_at "zs"
        exact hend
  have main2 : Ok (dSs (prg.C (k + 3)) prg.gt.fl m_law_15b0 [some (.ob 0), some (.ob b), some (.ob a), some (.int (B : Int)), some (.ob kA), v5, some (.ob iA), some (.ob R), some (.int (rest : Int)), some (.ob d), some (.int (last * B + B - rest)), v11, some (.ob f), some .non, some (.int kd), none, none, none, none, none] h) fun x h => Ok (match x with
      | Fl.nx ρ => dSs (prg.C (k + 3)) prg.gt.fl m_law_16 ρ h
      | Fl.brk ρ => Res.ok (Fl.brk ρ) h
      | Fl.cont ρ => Res.ok (Fl.cont ρ) h
      | Fl.ret z => Res.ok (Fl.ret z) h) Ends := by
    refine main.mono ?_
    intro fl h2 q
    cases fl with
    | nx ρ => exact q
    | brk _ => exact q.elim
    | cont _ => exact q.elim
    | ret _ => exact q.elim
  unfold m_law_15
  walk_at "zs"
  rcases hk with rfl | rfl
  · walk_at "zs"
    exact main2
  · walk_at "zs"
    exact main2
end
end K89
namespace K89
open PySem PySem.Spec PyProof.Rows L2 Zm
local macro_rules | `(tactic| walk_at "zs") => `(tactic| try simp only [runD_Ok, r_dE_var, r_dE_lit, r_dE_glb, r_dE_bin, r_dE_neg, r_dE_cmp, r_dE_cmp2, r_dE_and, r_dE_or, r_dE_not, r_dE_ite, r_dE_tup, r_dE_lst, r_dE_dct0, r_dE_idx, r_dE_slc, r_dE_fld, r_dE_call, r_dE_mk, r_dE_mth, r_dE_bf, r_dE_bm, r_dE_isT, r_dE_comp, r_dX_tr, r_dX_and, r_dX_or, r_dX_not, r_dEs_nil, r_dEs_cons, r_dP_no, r_dP_some, r_dC_no, r_dC_some, r_dI_seq, r_dI_rng1, r_dI_rng2, r_dI_rrng1, r_dG_nm, r_dG_tup, r_dG_sub, r_dG_fld, r_dS_asg, r_dS_aug, r_dS_expr, r_dS_ret, r_dS_retN, r_dS_ite, r_dS_while, r_dS_for, r_dS_pass, r_dS_brk, r_dS_cont, r_dS_never, r_dSs_nil, r_dSs_cons, tgt, zBin, zCmp, Res.bind_ok, Ok_ok, Ok_bind, Ok_guard, List.length_cons, List.length_nil, List.map_cons, List.map_nil, List.replicate, List.nil_append, List.cons_append, List.getElem?_cons_zero, List.getElem?_cons_succ, List.set_cons_zero, List.set_cons_succ, Nat.reduceSub, Nat.reduceAdd, zAdd_int, zSub_int, zAddI_int, zMul_int, zDiv_int, zMod_int, zPow_int, zNeg_int, zLt_int, zLe_int, zGt_int, zGe_int, zEq_int, zNe_int, zIs_non, zIsNot_non, zTru_bl, zTru_int, zTru_non, zTru_tup, atI_0, atI_1, atI_2, atI_3, oRes_some, zIdx_tup, zBF_int, zBF_len_tup, zBF_list_tup, zBF_min, newL_eq, if_true, if_false, Bool.false_eq_true, reduceIte, zIsN, Bool.not_true, Bool.not_false, beq_self_eq_true, bne_self_eq_false, Int.reduceBNe, Int.reduceEq, decide_true, decide_false, true_and, and_true, if_true, if_false, List.isEmpty_cons, List.isEmpty_nil, setAll, List.all_cons, List.all_nil, flatZ, wipeZ, line_0, line_1, line_2, line_3, line_4, line_5, line_6, line_7, line_8, line_9])
/-- a new file object -/
theorem mk_file (k : Nat) (size height root : Int) (h : Mh) {Q : Z → Mh → Prop} (hQ : ∀ h', Pre h h' → isFile h' h.length size height root → Q (.ob h.length) h') : Ok (match (prg.C (k + 1) 8 [.ob h.length, .int size, .int height, .int root] (h ++ [.ins 1 []])) with
    | .ok x h' => (fun (y : Z) (h' : Mh) => match y with
      | .non => Res.ok (Z.ob h.length) h'
      | _ => .stuck) x h'
    | .stuck => .stuck) Q := by
  obtain ⟨z, h', e, rfl, fs, rfl, hf⟩ := (plain_file k h.length size height root (h ++ [.ins 1 []]) get_new).ex
  have e2 : prg.C (k + 1) 8 [.ob h.length, .int size, .int height, .int root] (h ++ [.ins 1 []]) = .ok .non ((h ++ [Ob.ins 1 []]).set h.length (.ins 1 fs)) := e
  rw [e2]
  exact hQ _ (Pre.app.set (Nat.le_refl _)) hf
theorem mk_file' (k : Nat) (size height root : Int) (h : Mh) {Q : Z → Mh → Prop} (hQ : ∀ h', Pre h h' → isFile h' h.length size height root → Q (.ob h.length) h') : Ok (prg.C (k + 1) 8 [.ob h.length, .int size, .int height, .int root] (h ++ [.ins 1 []])) fun x h' => Ok (match x with
      | .non => Res.ok (Z.ob h.length) h'
      | _ => .stuck) Q := by
  refine (plain_file k h.length size height root (h ++ [.ins 1 []]) get_new).mono ?_
  rintro z h' ⟨rfl, fs, rfl, hf⟩
  exact hQ _ (Pre.app.set (Nat.le_refl _)) hf
section
variable {k a b kA iA R d f F B j at_ rest k0 : Nat} {root last : Int} {ks ids : List Int} {kvs : List (Key × Z)} {D : Blk} {is : List Int} {R0 : List Row} {h : Mh} {v5 v11 : Option Z}
theorem kind2 (s : Sit h a b kA iA R d f F B j at_ rest k0 root last ks ids kvs D is R0) : Ok (dSs (prg.C (k + 3)) prg.gt.fl m_law_15 [some (.ob 0), some (.ob b), some (.ob a), some (.int (B : Int)), some (.ob kA), v5, some (.ob iA), some (.ob R), some (.int (rest : Int)), some (.ob d), some (.int (last * B + B - rest)), v11, some (.ob f), some .non, some (.int 2), none, none, none, none, none] h) Ends := by
  unfold m_law_15
  walk_at "zs"
  unfold m_law_16
  walk_at "zs"
  have hkl := s.hkl
  have hr : 0 < j → ∃ b, D root = some (4, b) ∧ b.length = F := by
    intro h0
    obtain ⟨j0, rfl⟩ : ∃ j0, j = j0 + 1 := ⟨j - 1, by omega⟩
    obtain ⟨b, is', e, e2, _⟩ := s.hg
    exact ⟨b, e, e2⟩
  refine (law_twice (k + 2) a R d j at_ F B root kvs D h s.hl s.h1 s.hF s.eR s.ed s.r (by omega) hr).mono ?_
  rintro z h2 ⟨told, kvs', E, rfl, gd2, rp, hkl2, ch, hE⟩
  have gl2 : isLay h2 a F B := s.hl.mono fun o e => ch.get (by simpa using s.hl.ne s.ed (by simp)) e
  have gf2 : isFile h2 f (last * B + B - rest) j root := s.hf.mono fun o e => ch.get (by simpa using s.hf.ne s.ed (by simp)) e
  have gR2 : h2[R]? = some (.lst [.ob d, .int (j : Int), .int root, .int (at_ : Int)]) := ch.get (by
    simp only [List.mem_cons, List.not_mem_nil, or_false]
    exact ne_of_get s.eR s.ed (by simp)) s.eR
  have hil := s.il
  rcases hE with ⟨rfl, rfl⟩ | ⟨rfl, hj0, bd, fr, hbd, hfr, rfl⟩
  · rw [zNe_str _ (by decide +kernel) (by decide +kernel)]
    walk_at "zs"
    unfold m_law_17
    walk_at "zs"
    unfold m_law_18
    walk_at "zs"
    unfold m_law_19
    walk_at "zs"
    unfold m_law_20
    walk_at "zs"
    exact end_go (bl := cutD B k0 rest) (U := ids) (is := is) gl2 s.h1 s.hF s.hB s.hB2 s.size0 gd2 rp (by omega) s.dom (by omega) s.dim gf2 rfl (by have := s.j3; omega) s.rn s.hg s.nodup (by simp) s.hj s.h0 none (sound_none s.hB s.rB s.R0l root j) (by rintro m i e; cases e)
  · rw [zNe_str _ (by decide +kernel) (by decide +kernel)]
    have hne : (("block used twice" : Str) == ("" : Str)) = false := by decide +kernel
    rw [hne]
    walk_at "zs"
    simp only [zIdx_lst gR2]
    walk_at "zs"
    unfold m_law_17
    walk_at "zs"
    unfold m_law_18
    walk_at "zs"
    unfold m_law_19
    walk_at "zs"
    unfold m_law_20
    walk_at "zs"
    obtain ⟨j0, rfl⟩ : ∃ j0, j = j0 + 1 := ⟨j - 1, by omega⟩
    have hv := visit_twice (E := upd D root (4, bd.set fr root)) s.hg s.nodup hbd hfr s.rn (fun i hi => by unfold upd; rw [if_neg hi]) (by simp [upd])
    refine end_bad (U := ids) gl2 s.h1 s.hF s.hB s.hB2 s.size0 gd2 rp (by omega) (fun i hi => ?_) (by omega) (fun i b e => ?_) gf2 rfl (by have := s.j3; omega) s.rn hv (by decide +kernel)
    · by_cases q : i = root
      · rw [q]
        exact s.dom root (by simp [hbd])
      · unfold upd at hi
        rw [if_neg q] at hi
        exact s.dom i hi
    · unfold upd at e
      by_cases q : i = root
      · rw [if_pos q] at e
        cases e
        rw [List.length_set]
        exact s.dim root bd hbd
      · rw [if_neg q] at e
        exact s.dim i b e
theorem kind3 (s : Sit h a b kA iA R d f F B j at_ rest k0 root last ks ids kvs D is R0) : Ok (dSs (prg.C (k + 3)) prg.gt.fl m_law_15 [some (.ob 0), some (.ob b), some (.ob a), some (.int (B : Int)), some (.ob kA), v5, some (.ob iA), some (.ob R), some (.int (rest : Int)), some (.ob d), some (.int (last * B + B - rest)), v11, some (.ob f), some .non, some (.int 3), none, none, none, none, none] h) Ends := by
  unfold m_law_15
  walk_at "zs"
  unfold m_law_16
  walk_at "zs"
  unfold m_law_17
  walk_at "zs"
  unfold m_law_17b0
  walk_at "zs"
  rw [zIdx_lst s.eR]
  walk_at "zs"
  obtain ⟨fs, e1, e2, e3⟩ := s.hl
  have hF := s.hF
  have h1 := s.h1
  have hil := s.il
  have hkl := s.hkl
  have f1 : (h ++ [Ob.lst [Z.int root]] ++ [Ob.lst [Z.int 0]])[a]? = some (.ins 0 fs) := get_app (get_app e1)
  simp only [zFld_ins f1, e2]
  walk_at "zs"
  rw [show (F : Int) - 1 = ((F - 1 : Nat) : Int) by omega, zMul_lst get_new (by omega)]
  walk_at "zs"
  have g1 : (h ++ [Ob.lst [Z.int root]] ++ [Ob.lst [Z.int 0]] ++ [Ob.lst (List.replicate (F - 1) (Z.int 0))])[h.length]? = some (.lst [.int root]) := get_app (get_app get_new)
  have g2 : (h ++ [Ob.lst [Z.int root]] ++ [Ob.lst [Z.int 0]] ++ [Ob.lst (List.replicate (F - 1) (Z.int 0))])[(h ++ [Ob.lst [Z.int root]] ++ [Ob.lst [Z.int 0]]).length]? = some (.lst (List.replicate (F - 1) (Z.int 0))) := get_new
  have hadd : zAdd (.ob h.length) (.ob (h ++ [Ob.lst [Z.int root]] ++ [Ob.lst [Z.int 0]]).length) (h ++ [Ob.lst [Z.int root]] ++ [Ob.lst [Z.int 0]] ++ [Ob.lst (List.replicate (F - 1) (Z.int 0))]) = newL (h ++ [Ob.lst [Z.int root]] ++ [Ob.lst [Z.int 0]] ++ [Ob.lst (List.replicate (F - 1) (Z.int 0))]) ([Z.int root] ++ List.replicate (F - 1) (Z.int 0)) := by
    simp only [zAdd, g1, g2]
    exact guard_pos (by rw [line_eq]; simp; omega)
  rw [hadd]
  walk_at "zs"
  rw [zBF_tuple_lst get_new]
  walk_at "zs"
  have hb : Z.tup [Z.int 4, Z.tup (Z.int root :: List.replicate (F - 1) (Z.int 0))] = blkZ (4, root :: List.replicate (F - 1) 0) := by simp [blkZ]
  rw [hb]
  generalize hG : h ++ [Ob.lst [Z.int root]] ++ [Ob.lst [Z.int 0]] ++ [Ob.lst (List.replicate (F - 1) (Z.int 0))] ++ [Ob.lst (Z.int root :: List.replicate (F - 1) (Z.int 0))] = G
  have pre : Pre h G := by
    rw [← hG]
    exact ((Pre.app.trans Pre.app).trans Pre.app).trans Pre.app
  obtain ⟨x, hx⟩ : ∃ x, ids[44]? = some x := ⟨_, List.getElem?_eq_getElem (by omega)⟩
  have a1 : atI (ids.map Z.int) 44 = some (.int x) := by
    have := atI_nat (xs := ids.map Z.int) (j := 44) (v := .int x) (by simp [hx])
    exact this
  simp only [zIdx_lst (pre.get s.ei), a1]
  walk_at "zs"
  rw [zSet_dct (pre.get s.ed) (by rw [line_eq]; omega)]
  walk_at "zs"
  have hdi : iA ≠ d := ne_of_get s.ei s.ed (by simp)
  have hdR : R ≠ d := ne_of_get s.eR s.ed (by simp)
  have hda := s.hl.ne s.ed (by simp)
  have hdl := lt_of_get s.ed
  generalize hH : G.set d (.dct (putZ kvs (.inl x) (blkZ (4, root :: List.replicate (F - 1) 0)))) = H
  have gi : H[iA]? = some (.lst (ids.map Z.int)) := by rw [← hH, get_set_ne (Ne.symm hdi)]; exact pre.get s.ei
  have gR : H[R]? = some (.lst [.ob d, .int (j : Int), .int root, .int (at_ : Int)]) := by rw [← hH, get_set_ne (Ne.symm hdR)]; exact pre.get s.eR
  have gd : H[d]? = some (.dct (putZ kvs (.inl x) (blkZ (4, root :: List.replicate (F - 1) 0)))) := by rw [← hH]; exact get_set (pre.get s.ed)
  have gl : isLay H a F B := s.hl.mono fun o e => by rw [← hH, get_set_ne (Ne.symm hda)]; exact pre.get e
  unfold m_law_17b1
  walk_at "zs"
  simp only [zIdx_lst gR]
  walk_at "zs"
  try simp only [zIdx_lst gR]
  walk_at "zs"
  simp only [zIdx_lst gi, a1]
  walk_at "zs"
  refine mk_file' (k + 2) _ _ _ H fun h4 pre4 hf4 => ?_
  walk_at "zs"
  unfold m_law_17b2
  walk_at "zs"
  simp only [zIdx_lst (pre4.get gi), a1]
  walk_at "zs"
  unfold m_law_18
  walk_at "zs"
  unfold m_law_19
  walk_at "zs"
  unfold m_law_20
  walk_at "zs"
  have hxn : x ∉ is := by
    intro hm
    have h3 := s.pm.mem_iff.mp hm
    obtain ⟨i, hi, e⟩ := List.mem_take_iff_getElem.mp h3
    have := s.at2
    exact ids_ne s.nd (List.getElem?_eq_some_iff.mpr ⟨by omega, e⟩) hx (by omega) rfl
  have hg2 := good_top s.hg (by omega) s.rn hxn
  have hxr : x ∈ ids := List.mem_of_getElem? hx
  have hpl := put_len kvs (.inl x) (blkZ (4, root :: List.replicate (F - 1) 0))
  refine end_go (bl := cutD B k0 rest) (U := ids) (is := x :: is) (j2 := j + 1) (gl.mono fun o e => pre4.get e) s.h1 s.hF s.hB s.hB2 s.size0 (pre4.get gd) (s.r.put x _) (by omega) (fun i hi => ?_) (by omega) (fun i b e => ?_) hf4 (by omega) (by have := s.j3; omega) (s.nz x hxr) hg2 (List.nodup_cons.mpr ⟨hxn, s.nodup⟩) (by simp) s.hj s.h0 (some ("tree too high", x)) ?_ (by rintro m i e; cases e; decide +kernel)
  · by_cases q : i = x
    · rw [q]
      exact hxr
    · unfold upd at hi
      rw [if_neg q] at hi
      exact s.dom i hi
  · unfold upd at e
    by_cases q : i = x
    · rw [if_pos q] at e
      cases e
      simp
      omega
    · rw [if_neg q] at e
      exact s.dim i b e
  · unfold faultR
    rw [if_neg (by omega)]
end
end K89
namespace K89
open PySem PySem.Spec PyProof.Rows L2 Zm
local macro_rules | `(tactic| walk_at "zs") => `(tactic| try simp only [runD_Ok, r_dE_var, r_dE_lit, r_dE_glb, r_dE_bin, r_dE_neg, r_dE_cmp, r_dE_cmp2, r_dE_and, r_dE_or, r_dE_not, r_dE_ite, r_dE_tup, r_dE_lst, r_dE_dct0, r_dE_idx, r_dE_slc, r_dE_fld, r_dE_call, r_dE_mk, r_dE_mth, r_dE_bf, r_dE_bm, r_dE_isT, r_dE_comp, r_dX_tr, r_dX_and, r_dX_or, r_dX_not, r_dEs_nil, r_dEs_cons, r_dP_no, r_dP_some, r_dC_no, r_dC_some, r_dI_seq, r_dI_rng1, r_dI_rng2, r_dI_rrng1, r_dG_nm, r_dG_tup, r_dG_sub, r_dG_fld, r_dS_asg, r_dS_aug, r_dS_expr, r_dS_ret, r_dS_retN, r_dS_ite, r_dS_while, r_dS_for, r_dS_pass, r_dS_brk, r_dS_cont, r_dS_never, r_dSs_nil, r_dSs_cons, tgt, zBin, zCmp, Res.bind_ok, Ok_ok, Ok_bind, Ok_guard, List.length_cons, List.length_nil, List.map_cons, List.map_nil, List.replicate, List.nil_append, List.cons_append, List.getElem?_cons_zero, List.getElem?_cons_succ, List.set_cons_zero, List.set_cons_succ, Nat.reduceSub, Nat.reduceAdd, zAdd_int, zSub_int, zAddI_int, zMul_int, zDiv_int, zMod_int, zPow_int, zNeg_int, zLt_int, zLe_int, zGt_int, zGe_int, zEq_int, zNe_int, zIs_non, zIsNot_non, zTru_bl, zTru_int, zTru_non, zTru_tup, atI_0, atI_1, atI_2, atI_3, oRes_some, zIdx_tup, zBF_int, zBF_len_tup, zBF_list_tup, zBF_min, newL_eq, if_true, if_false, Bool.false_eq_true, reduceIte, zIsN, Bool.not_true, Bool.not_false, beq_self_eq_true, bne_self_eq_false, Int.reduceBNe, Int.reduceEq, decide_true, decide_false, true_and, and_true, if_true, if_false, List.isEmpty_cons, List.isEmpty_nil, setAll, List.all_cons, List.all_nil, flatZ, wipeZ, line_0, line_1, line_2, line_3, line_4, line_5, line_6, line_7, line_8, line_9])
section
variable {k a b kA iA R d f F B j at_ rest k0 : Nat} {root last : Int} {ks ids : List Int} {kvs : List (Key × Z)} {D : Blk} {is : List Int} {R0 : List Row} {h : Mh} {v5 v11 : Option Z}
theorem Sit.box (s : Sit h a b kA iA R d f F B j at_ rest k0 root last ks ids kvs D is R0) {n n2 : Int} (eb : h[b]? = some (.lst [.int n])) (hbK : b ≠ kA) (hbi : b ≠ iA) : Sit (h.set b (.lst [.int n2])) a b kA iA R d f F B j at_ rest k0 root last ks ids kvs D is R0 := by
  have hbR : b ≠ R := by
    intro q
    have h2 := s.eR
    rw [← q, eb] at h2
    simp at h2
  have hdb : d ≠ b := ne_of_get s.ed eb (by simp)
  exact { s with
    hl := s.hl.mono fun o e => by rw [get_set_ne (Ne.symm (s.hl.ne eb (by simp)))]; exact e
    eb := ⟨n2, get_set eb⟩
    eK := by rw [get_set_ne hbK]; exact s.eK
    ei := by rw [get_set_ne hbi]; exact s.ei
    eR := by rw [get_set_ne hbR]; exact s.eR
    ed := by rw [get_set_ne (Ne.symm hdb)]; exact s.ed
    hf := s.hf.mono fun o e => by rw [get_set_ne (Ne.symm (s.hf.ne eb (by simp)))]; exact e }

theorem kind4 (s : Sit h a b kA iA R d f F B j at_ rest k0 root last ks ids kvs D is R0) (hbK : b ≠ kA) (hbi : b ≠ iA) : Ok (dSs (prg.C (k + 3)) prg.gt.fl m_law_15 [some (.ob 0), some (.ob b), some (.ob a), some (.int (B : Int)), some (.ob kA), v5, some (.ob iA), some (.ob R), some (.int (rest : Int)), some (.ob d), some (.int (last * B + B - rest)), v11, some (.ob f), some .non, some (.int 4), none, none, none, none, none] h) Ends := by
  unfold m_law_15
  walk_at "zs"
  unfold m_law_16
  walk_at "zs"
  unfold m_law_17
  walk_at "zs"
  unfold m_law_18
  walk_at "zs"
  unfold m_law_18b0
  walk_at "zs"
  obtain ⟨n, eb⟩ := s.eb
  refine (take (k + 2) b n 1000 h eb (by omega) (by omega)).mono ?_
  rintro z h' ⟨rfl, rfl⟩
  walk_at "zs"
  have hm1 := Int.emod_nonneg n (show (1000 : Int) ≠ 0 by omega)
  have s2 := s.box (n2 := n / 1000) eb hbK hbi
  have eb2 : (h.set b (.lst [.int (n / 1000)]))[b]? = some (.lst [.int (n / 1000)]) := get_set eb
  refine (take (k + 2) b _ 255 _ eb2 (by omega) (by omega)).mono ?_
  rintro z h' ⟨rfl, rfl⟩
  walk_at "zs"
  have hm2 := Int.emod_nonneg (n / 1000) (show (255 : Int) ≠ 0 by omega)
  have s3 := s2.box (n2 := n / 1000 / 255) eb2 hbK hbi
  generalize (h.set b (.lst [.int (n / 1000)])).set b (.lst [.int (n / 1000 / 255)]) = H at s3 ⊢
  refine mk_file' (k + 2) _ _ _ H fun h4 pre4 hf4 => ?_
  walk_at "zs"
  unfold m_law_18b1
  walk_at "zs"
  unfold m_law_19
  walk_at "zs"
  unfold m_law_20
  walk_at "zs"
  have hkl := s.hkl
  have hil := s.il
  refine law_end k a d H.length F 0 0 B (n % 1000) 0 (1 + n / 1000 % 255) kvs D ids h4 _ _ _ _ _ _ _ _ _ _ _ _ _ _ _ _ (s3.hl.mono fun o e => pre4.get e) s.h1 s.hF s.hB s.hB2 hm1 (pre4.get s3.ed) s.r (by omega) s.dom (by omega) s.dim hf4 (fun q => absurd rfl q) ?_ (some ("tree too high", 0)) ?_ (by rintro m i e; cases e; decide +kernel)
  · intro s' rs e
    have : rs = [] := by
      unfold looks at e
      rw [if_pos rfl] at e
      cases e
      rfl
    subst this
    exact ⟨by simp, fun _ => rfl⟩
  · simp only [looks, if_true, faultO, faultR]
    rw [if_neg (by omega)]
theorem kind5 (s : Sit h a b kA iA R d f F B j at_ rest k0 root last ks ids kvs D is R0) (hbK : b ≠ kA) (hbi : b ≠ iA) : Ok (dSs (prg.C (k + 3)) prg.gt.fl m_law_15 [some (.ob 0), some (.ob b), some (.ob a), some (.int (B : Int)), some (.ob kA), v5, some (.ob iA), some (.ob R), some (.int (rest : Int)), some (.ob d), some (.int (last * B + B - rest)), v11, some (.ob f), some .non, some (.int 5), none, none, none, none, none] h) Ends := by
  have aK : atI (ks.map Z.int) (-1) = some (.int last) := atI_end (by simp [s.kl])
  have hB := s.hB
  have hB2 := s.hB2
  have hl0 := s.l0
  unfold m_law_15
  walk_at "zs"
  unfold m_law_16
  walk_at "zs"
  unfold m_law_17
  walk_at "zs"
  unfold m_law_18
  walk_at "zs"
  unfold m_law_19
  walk_at "zs"
  unfold m_law_19b0
  walk_at "zs"
  simp only [zIdx_lst s.eK, aK]
  walk_at "zs"
  refine ⟨cmulR, ?_⟩
  simp only [zIdx_lst s.eK, aK]
  walk_at "zs"
  refine ⟨cmulR, ?_⟩
  obtain ⟨n, eb⟩ := s.eb
  generalize hm : (1 : Int) + (if 1 < last then 1 else last) * ((B : Int) - 1) = w
  have hw : 0 < w ∧ w ≤ B ∧ (last = 0 → w = 1) := by
    by_cases q : 1 < last
    · rw [if_pos q] at hm
      omega
    · rw [if_neg q] at hm
      have : last = 0 ∨ last = 1 := by omega
      rcases this with r | r
      · rw [r] at hm
        omega
      · rw [r] at hm
        omega
  refine (take (k + 2) b n w h eb (by omega) (by omega)).mono ?_
  rintro z h' ⟨rfl, rfl⟩
  walk_at "zs"
  have s2 := s.box (n2 := n / w) eb hbK hbi
  have hm1 := Int.emod_nonneg n (show w ≠ 0 by omega)
  have hm2 := Int.emod_lt_of_pos n (show 0 < w by omega)
  generalize n % w = t at hm1 hm2 ⊢
  generalize h.set b (.lst [.int (n / w)]) = H at s2 ⊢
  simp only [zIdx_lst s2.eR]
  walk_at "zs"
  try simp only [zIdx_lst s2.eR]
  walk_at "zs"
  refine mk_file' (k + 2) _ _ _ H fun h4 pre4 hf4 => ?_
  walk_at "zs"
  unfold m_law_19b1
  walk_at "zs"
  simp only [zIdx_lst (pre4.get s2.eK), aK]
  walk_at "zs"
  unfold m_law_20
  walk_at "zs"
  have hkl := s.hkl
  have hil := s.il
  have hs : 0 ≤ last * (B : Int) - t := by
    by_cases q : last = 0
    · have := hw.2.2 q
      rw [q]
      omega
    · have : 1 * (B : Int) ≤ last * B := Int.mul_le_mul_of_nonneg_right (by omega) (by omega)
      omega
  exact end_go (bl := cutD B k0 rest) (U := ids) (is := is) (s2.hl.mono fun o e => pre4.get e) s.h1 s.hF s.hB s.hB2 hs (pre4.get s2.ed) s.r (by omega) s.dom (by omega) s.dim hf4 rfl (by have := s.j3; omega) s.rn s.hg s.nodup (by simp) s.hj s.h0 (some ("data block behind the end", last)) (behind_end s.hB hm1 (by omega) s.R0l root j) (by rintro m i e; cases e; decide +kernel)
theorem kind6 (s : Sit h a b kA iA R d f F B j at_ rest k0 root last ks ids kvs D is R0) (hbK : b ≠ kA) (hbi : b ≠ iA) : Ok (dSs (prg.C (k + 3)) prg.gt.fl m_law_15 [some (.ob 0), some (.ob b), some (.ob a), some (.int (B : Int)), some (.ob kA), v5, some (.ob iA), some (.ob R), some (.int (rest : Int)), some (.ob d), some (.int (last * B + B - rest)), v11, some (.ob f), some .non, some (.int 6), none, none, none, none, none] h) Ends := by
  have aK : atI (ks.map Z.int) (-1) = some (.int last) := atI_end (by simp [s.kl])
  have hB := s.hB
  have hB2 := s.hB2
  have hl0 := s.l0
  have hrB := s.rB
  unfold m_law_15
  walk_at "zs"
  unfold m_law_16
  walk_at "zs"
  unfold m_law_17
  walk_at "zs"
  unfold m_law_18
  walk_at "zs"
  unfold m_law_19
  walk_at "zs"
  unfold m_law_20
  walk_at "zs"
  unfold m_law_20b0
  walk_at "zs"
  simp only [zIdx_lst s.eK, aK]
  walk_at "zs"
  refine ⟨cmulR, ?_⟩
  obtain ⟨n, eb⟩ := s.eb
  refine (take (k + 2) b n _ h eb (by omega) (by omega)).mono ?_
  rintro z h' ⟨rfl, rfl⟩
  walk_at "zs"
  have s2 := s.box (n2 := n / ((B : Int) - rest)) eb hbK hbi
  have hm1 := Int.emod_nonneg n (show (B : Int) - rest ≠ 0 by omega)
  have hm2 := Int.emod_lt_of_pos n (show 0 < (B : Int) - rest by omega)
  generalize n % ((B : Int) - rest) = t at hm1 hm2 ⊢
  generalize h.set b (.lst [.int (n / ((B : Int) - rest))]) = H at s2 ⊢
  simp only [zIdx_lst s2.eR]
  walk_at "zs"
  try simp only [zIdx_lst s2.eR]
  walk_at "zs"
  refine mk_file' (k + 2) _ _ _ H fun h4 pre4 hf4 => ?_
  walk_at "zs"
  obtain ⟨gs, g1, g2, g3, g4⟩ := hf4
  have eK4 := pre4.get s2.eK
  unfold m_law_20b1
  walk_at "zs"
  simp only [zFld_ins g1, g2]
  walk_at "zs"
  simp only [zIdx_lst eK4, aK]
  walk_at "zs"
  refine ⟨cmulR, ?_⟩
  have hlt : decide (last * (B : Int) + t < last * B + B - rest) = true := by simp; omega
  simp only [hlt]
  walk_at "zs"
  simp only [zFld_ins g1, g2]
  walk_at "zs"
  unfold m_law_20b2
  walk_at "zs"
  simp only [zFld_ins g1, g2]
  walk_at "zs"
  simp only [zIdx_lst eK4, aK]
  walk_at "zs"
  refine ⟨cmulR, ?_⟩
  have hkl := s.hkl
  have hil := s.il
  have hs : 0 ≤ last * (B : Int) + t := by
    have := Int.mul_nonneg hl0 (show (0 : Int) ≤ (B : Int) by omega)
    omega
  by_cases ht : t = 0
  · have hd : decide (last * (B : Int) + t = last * B) = true := by simp; omega
    simp only [hd]
    walk_at "zs"
    simp only [zIdx_lst eK4, aK]
    walk_at "zs"
    have hbe := behind_end (t := 0) (bl := cutD B k0 rest) s.hB (by omega) (by omega) s.R0l root j
    have e0 : last * (B : Int) + t = last * B - 0 := by omega
    exact end_go (bl := cutD B k0 rest) (U := ids) (is := is) (s2.hl.mono fun o e => pre4.get e) s.h1 s.hF s.hB s.hB2 hs (pre4.get s2.ed) s.r (by omega) s.dom (by omega) s.dim ⟨gs, g1, g2, g3, g4⟩ rfl (by have := s.j3; omega) s.rn s.hg s.nodup (by simp) s.hj s.h0 (some ("data block behind the end", last)) (by rw [e0]; exact hbe) (by rintro m i e; cases e; decide +kernel)
  · have hd : decide (last * (B : Int) + t = last * B) = false := by simp; omega
    simp only [hd]
    walk_at "zs"
    exact end_go (bl := cutD B k0 rest) (U := ids) (is := is) (s2.hl.mono fun o e => pre4.get e) s.h1 s.hF s.hB s.hB2 hs (pre4.get s2.ed) s.r (by omega) s.dom (by omega) s.dim ⟨gs, g1, g2, g3, g4⟩ rfl (by have := s.j3; omega) s.rn s.hg s.nodup (by simp) s.hj s.h0 (some ("octets behind the end", last * B + t)) (within_end s.hB s.rB (by omega) hm2 s.R0l root j) (by rintro m i e; cases e; decide +kernel)
end
end K89
namespace K89
open PySem PySem.Spec PyProof.Rows L2 Zm
local macro_rules | `(tactic| walk_at "zs") => `(tactic| try simp only [runD_Ok, r_dE_var, r_dE_lit, r_dE_glb, r_dE_bin, r_dE_neg, r_dE_cmp, r_dE_cmp2, r_dE_and, r_dE_or, r_dE_not, r_dE_ite, r_dE_tup, r_dE_lst, r_dE_dct0, r_dE_idx, r_dE_slc, r_dE_fld, r_dE_call, r_dE_mk, r_dE_mth, r_dE_bf, r_dE_bm, r_dE_isT, r_dE_comp, r_dX_tr, r_dX_and, r_dX_or, r_dX_not, r_dEs_nil, r_dEs_cons, r_dP_no, r_dP_some, r_dC_no, r_dC_some, r_dI_seq, r_dI_rng1, r_dI_rng2, r_dI_rrng1, r_dG_nm, r_dG_tup, r_dG_sub, r_dG_fld, r_dS_asg, r_dS_aug, r_dS_expr, r_dS_ret, r_dS_retN, r_dS_ite, r_dS_while, r_dS_for, r_dS_pass, r_dS_brk, r_dS_cont, r_dS_never, r_dSs_nil, r_dSs_cons, tgt, zBin, zCmp, Res.bind_ok, Ok_ok, Ok_bind, Ok_guard, List.length_cons, List.length_nil, List.map_cons, List.map_nil, List.replicate, List.nil_append, List.cons_append, List.getElem?_cons_zero, List.getElem?_cons_succ, List.set_cons_zero, List.set_cons_succ, Nat.reduceSub, Nat.reduceAdd, zAdd_int, zSub_int, zAddI_int, zMul_int, zDiv_int, zMod_int, zPow_int, zNeg_int, zLt_int, zLe_int, zGt_int, zGe_int, zEq_int, zNe_int, zIs_non, zIsNot_non, zTru_bl, zTru_int, zTru_non, zTru_tup, atI_0, atI_1, atI_2, atI_3, oRes_some, zIdx_tup, zBF_int, zBF_len_tup, zBF_list_tup, zBF_min, newL_eq, if_true, if_false, Bool.false_eq_true, reduceIte, zIsN, Bool.not_true, Bool.not_false, beq_self_eq_true, bne_self_eq_false, Int.reduceBNe, Int.reduceEq, decide_true, decide_false, true_and, and_true, if_true, if_false, List.isEmpty_cons, List.isEmpty_nil, setAll, List.all_cons, List.all_nil, flatZ, wipeZ, line_0, line_1, line_2, line_3, line_4, line_5, line_6, line_7, line_8, line_9])
def idsOf (sh : Int) : List Int := (List.range 45).map fun i : Nat => 1 + (7 * (i : Int) + sh) % 45
theorem ids_nd (sh : Int) (h0 : 0 ≤ sh) (h1 : sh < 20) : (idsOf sh).Nodup := by
  have : ∀ s : Fin 20, (idsOf (s.val : Int)).Nodup := by decide +kernel
  have h2 := this ⟨sh.toNat, by omega⟩
  rwa [show (((⟨sh.toNat, by omega⟩ : Fin 20).val : Nat) : Int) = sh from Int.toNat_of_nonneg h0] at h2
theorem ids_nz (sh : Int) : ∀ i ∈ idsOf sh, i ≠ 0 := by
  intro i hi
  obtain ⟨t, _, rfl⟩ := List.mem_map.mp hi
  have := Int.emod_nonneg (7 * (t : Int) + sh) (show (45 : Int) ≠ 0 by omega)
  omega
theorem ids_len (sh : Int) : (idsOf sh).length = 45 := by simp [idsOf]
theorem cut_zero (B k : Nat) : cutD B k 0 = dat B k := by
  unfold cutD dat
  simp
theorem upd_same {D : Blk} {x : Int} {p : Int × List Int} (h : D x = some p) : upd D x p = D := by
  funext i
  unfold upd
  by_cases q : i = x
  · rw [if_pos q, q, h]
  · rw [if_neg q]
theorem mk_lay (k s : Nat) (h : Mh) {Q : Z → Mh → Prop} (hs : s = 64 ∨ s = 128 ∨ s = 256) (hQ : ∀ h', Pre h h' → isLay h' h.length ((s / 2 : Nat) : Int) (s : Int) → Q (.ob h.length) h') : Ok (prg.C (k + 2) 0 [.ob h.length, .int 4, .int 16, .int (s : Int)] (h ++ [.ins 0 []])) fun x h' => Ok (match x with
      | .non => Res.ok (Z.ob h.length) h'
      | _ => .stuck) Q := by
  refine (layout_init k h.length s (h ++ [.ins 0 []]) get_new hs).mono ?_
  rintro z h' ⟨rfl, fs, rfl, hf⟩
  exact hQ _ (Pre.app.set (Nat.le_refl _)) hf
theorem tail_cut {k a b kA iA R d B rest n : Nat} {x0 : Int} {ks ids : List Int} {kvs : List (Key × Z)} {D : Blk} {h : Mh} {v5 v10 : Option Z} {vs : List (Option Z)} (hvs : vs.length = 9) (eK : h[kA]? = some (.lst (ks.map Z.int))) (ei : h[iA]? = some (.lst (ids.map Z.int))) (ed : h[d]? = some (.dct kvs)) (r : Rep kvs D) (hkl : kvs.length ≤ 45) (hn : ks.length = n + 1) (hx0 : ids[n]? = some x0) (hD : D x0 = some (3, dat B n)) (hB : B ≤ 256) (hr : rest ≤ B)
    {Q : Fl → Mh → Prop} (hQ : ∀ v11 kvs' h2, h2[d]? = some (.dct kvs') → Rep kvs' (upd D x0 (3, cutD B n rest)) → kvs'.length ≤ 46 → (∀ y o, y ≠ d → h[y]? = some o → h2[y]? = some o) → h.length ≤ h2.length → Q (.nx (some (.ob 0) :: some (.ob b) :: some (.ob a) :: some (.int (B : Int)) :: some (.ob kA) :: v5 :: some (.ob iA) :: some (.ob R) :: some (.int (rest : Int)) :: some (.ob d) :: v10 :: v11 :: vs.drop 1)) h2) :
    Ok (dSs (prg.C k) prg.gt.fl m_law_11b0 (some (.ob 0) :: some (.ob b) :: some (.ob a) :: some (.int (B : Int)) :: some (.ob kA) :: v5 :: some (.ob iA) :: some (.ob R) :: some (.int (rest : Int)) :: some (.ob d) :: v10 :: vs) h) Q := by
  match vs, hvs with
  | [v11, v12, v13, v14, v15, v16, v17, v18, v19], _ =>
    have a1 : atI (ids.map Z.int) ((n : Nat) : Int) = some (.int x0) := by
      rw [atI_nat]
      simp [hx0]
    unfold m_law_11b0
    walk_at "zs"
    simp only [zBF_len_lst eK, List.length_map, hn]
    walk_at "zs"
    rw [show ((n + 1 : Nat) : Int) - 1 = (n : Int) by omega]
    simp only [zIdx_lst ei, a1]
    walk_at "zs"
    simp only [zIdx_dct ed, r.at_, hD, Option.map_some]
    walk_at "zs"
    unfold blkZ
    walk_at "zs"
    unfold m_law_11b1
    walk_at "zs"
    have hsl : zSlc (.ob h.length) none (some ((B : Int) - rest)) (h ++ [Ob.lst ((dat B n).map Z.int)]) = newL (h ++ [Ob.lst ((dat B n).map Z.int)]) (((dat B n).map Z.int).take (B - rest)) := by
      rw [show (B : Int) - rest = ((B - rest : Nat) : Int) by omega]
      simp only [zSlc, get_new, cutZ_take]
    rw [hsl]
    walk_at "zs"
    rw [zMul_lst get_new (by omega)]
    walk_at "zs"
    generalize hG0 : h ++ [Ob.lst ((dat B n).map Z.int)] = G0
    have g1 : (G0 ++ [Ob.lst (((dat B n).map Z.int).take (B - rest))] ++ [Ob.lst [Z.int 0]] ++ [Ob.lst (List.replicate rest (Z.int 0))])[G0.length]? = some (.lst (((dat B n).map Z.int).take (B - rest))) := get_app (get_app get_new)
    have g2 : (G0 ++ [Ob.lst (((dat B n).map Z.int).take (B - rest))] ++ [Ob.lst [Z.int 0]] ++ [Ob.lst (List.replicate rest (Z.int 0))])[(G0 ++ [Ob.lst (((dat B n).map Z.int).take (B - rest))] ++ [Ob.lst [Z.int 0]]).length]? = some (.lst (List.replicate rest (Z.int 0))) := get_new
    have hadd : zAdd (.ob G0.length) (.ob (G0 ++ [Ob.lst (((dat B n).map Z.int).take (B - rest))] ++ [Ob.lst [Z.int 0]]).length) (G0 ++ [Ob.lst (((dat B n).map Z.int).take (B - rest))] ++ [Ob.lst [Z.int 0]] ++ [Ob.lst (List.replicate rest (Z.int 0))]) = newL (G0 ++ [Ob.lst (((dat B n).map Z.int).take (B - rest))] ++ [Ob.lst [Z.int 0]] ++ [Ob.lst (List.replicate rest (Z.int 0))]) (((dat B n).map Z.int).take (B - rest) ++ List.replicate rest (Z.int 0)) := by
      simp only [zAdd, g1, g2]
      exact guard_pos (by rw [line_eq]; simp [dat]; omega)
    rw [hadd]
    walk_at "zs"
    rw [zBF_tuple_lst get_new]
    walk_at "zs"
    have hb : Z.tup [Z.int 3, Z.tup (((dat B n).map Z.int).take (B - rest) ++ List.replicate rest (Z.int 0))] = blkZ (3, cutD B n rest) := by simp [blkZ, cutD]
    rw [hb]
    generalize hG : G0 ++ [Ob.lst (((dat B n).map Z.int).take (B - rest))] ++ [Ob.lst [Z.int 0]] ++ [Ob.lst (List.replicate rest (Z.int 0))] ++ [Ob.lst (((dat B n).map Z.int).take (B - rest) ++ List.replicate rest (Z.int 0))] = G
    have pre : Pre h G := by
      rw [← hG, ← hG0]
      exact (((Pre.app.trans Pre.app).trans Pre.app).trans Pre.app).trans Pre.app
    simp only [zBF_len_lst (pre.get eK), List.length_map, hn]
    walk_at "zs"
    rw [show ((n + 1 : Nat) : Int) - 1 = (n : Int) by omega]
    simp only [zIdx_lst (pre.get ei), a1]
    walk_at "zs"
    rw [zSet_dct (pre.get ed) (by rw [line_eq]; omega)]
    walk_at "zs"
    have hpl := put_len kvs (.inl x0) (blkZ (3, cutD B n rest))
    refine hQ _ _ _ (get_set (pre.get ed)) (r.put x0 _) (by omega) (fun y o hy e => ?_) (by have := pre.len; simpa using this)
    rw [get_set_ne (Ne.symm hy)]
    exact pre.get e
end K89
namespace K89
open PySem PySem.Spec PyProof.Rows L2 Zm
local macro_rules | `(tactic| walk_at "zs") => `(tactic| try simp only [runD_Ok, r_dE_var, r_dE_lit, r_dE_glb, r_dE_bin, r_dE_neg, r_dE_cmp, r_dE_cmp2, r_dE_and, r_dE_or, r_dE_not, r_dE_ite, r_dE_tup, r_dE_lst, r_dE_dct0, r_dE_idx, r_dE_slc, r_dE_fld, r_dE_call, r_dE_mk, r_dE_mth, r_dE_bf, r_dE_bm, r_dE_isT, r_dE_comp, r_dX_tr, r_dX_and, r_dX_or, r_dX_not, r_dEs_nil, r_dEs_cons, r_dP_no, r_dP_some, r_dC_no, r_dC_some, r_dI_seq, r_dI_rng1, r_dI_rng2, r_dI_rrng1, r_dG_nm, r_dG_tup, r_dG_sub, r_dG_fld, r_dS_asg, r_dS_aug, r_dS_expr, r_dS_ret, r_dS_retN, r_dS_ite, r_dS_while, r_dS_for, r_dS_pass, r_dS_brk, r_dS_cont, r_dS_never, r_dSs_nil, r_dSs_cons, tgt, zBin, zCmp, Res.bind_ok, Ok_ok, Ok_bind, Ok_guard, List.length_cons, List.length_nil, List.map_cons, List.map_nil, List.replicate, List.nil_append, List.cons_append, List.getElem?_cons_zero, List.getElem?_cons_succ, List.set_cons_zero, List.set_cons_succ, Nat.reduceSub, Nat.reduceAdd, zAdd_int, zSub_int, zAddI_int, zMul_int, zDiv_int, zMod_int, zPow_int, zNeg_int, zLt_int, zLe_int, zGt_int, zGe_int, zEq_int, zNe_int, zIs_non, zIsNot_non, zTru_bl, zTru_int, zTru_non, zTru_tup, atI_0, atI_1, atI_2, atI_3, oRes_some, zIdx_tup, zBF_int, zBF_len_tup, zBF_list_tup, zBF_min, newL_eq, if_true, if_false, Bool.false_eq_true, reduceIte, zIsN, Bool.not_true, Bool.not_false, beq_self_eq_true, bne_self_eq_false, Int.reduceBNe, Int.reduceEq, decide_true, decide_false, true_and, and_true, if_true, if_false, List.isEmpty_cons, List.isEmpty_nil, setAll, List.all_cons, List.all_nil, flatZ, wipeZ, line_0, line_1, line_2, line_3, line_4, line_5, line_6, line_7, line_8, line_9])
theorem law_kinds {k a b kA iA R d f F B j at_ rest k0 : Nat} {root last : Int} {ks ids : List Int} {kvs : List (Key × Z)} {D : Blk} {is : List Int} {R0 : List Row} {h : Mh} {v5 v11 v13 : Option Z} (s : Sit h a b kA iA R d f F B j at_ rest k0 root last ks ids kvs D is R0) (hbK : b ≠ kA) (hbi : b ≠ iA) :
    Ok (dSs (prg.C (k + 3)) prg.gt.fl m_law_13 [some (.ob 0), some (.ob b), some (.ob a), some (.int (B : Int)), some (.ob kA), v5, some (.ob iA), some (.ob R), some (.int (rest : Int)), some (.ob d), some (.int (last * B + B - rest)), v11, some (.ob f), v13, none, none, none, none, none, none] h) Ends := by
  unfold m_law_13
  walk_at "zs"
  unfold m_law_14
  walk_at "zs"
  obtain ⟨n, eb⟩ := s.eb
  refine (take (k + 2) b n 8 h eb (by omega) (by omega)).mono ?_
  rintro z h' ⟨rfl, rfl⟩
  walk_at "zs"
  have s2 := s.box (n2 := n / 8) eb hbK hbi
  generalize h.set b (.lst [.int (n / 8)]) = H at s2 ⊢
  have h1 := Int.emod_nonneg n (show (8 : Int) ≠ 0 by omega)
  have h2 := Int.emod_lt_of_pos n (show (0 : Int) < 8 by omega)
  generalize n % 8 = m at h1 h2 ⊢
  have hm : (m = 0 ∨ m = 1) ∨ m = 2 ∨ m = 3 ∨ m = 4 ∨ m = 5 ∨ m = 6 ∨ m = 7 := by omega
  rcases hm with hm | rfl | rfl | rfl | rfl | rfl | rfl
  · exact kind01 s2 m hm
  · exact kind2 s2
  · exact kind3 s2
  · exact kind4 s2 hbK hbi
  · exact kind5 s2 hbK hbi
  · exact kind6 s2 hbK hbi
  · exact kind7 s2
theorem law_ok (ns : List Int) : Ok (prg.C 20 15 [.ob 0] [.fro (ns.map Z.int)]) fun z _ => z = .bl true := by
  rw [prg.call (k := 19) (b := m_law) rfl _ rfl]
  have fin : ∀ {fl : Fl} {h : Mh}, Ends fl h → (match fl with
      | .nx _ => Z.non = .bl true
      | .ret z => z = .bl true
      | _ => False) := by
    intro fl h q
    cases fl with
    | ret z => exact q
    | nx _ => exact q.elim
    | brk _ => exact q.elim
    | cont _ => exact q.elim
  rw [runD_Ok]
  refine Ok.mono (Q := Ends) ?_ fun fl h q => fin q
  walk_at "zs"
  unfold m_law
  walk_at "zs"
  have e0 : ([Ob.fro (ns.map Z.int)] : Mh)[0]? = some (.fro (ns.map Z.int)) := rfl
  refine (law_number 18 ns 0 _ e0).mono ?_
  rintro z h' ⟨⟨n0, rfl⟩, rfl⟩
  walk_at "zs"
  unfold m_law_1
  walk_at "zs"
  have q1 : ([Ob.fro (ns.map Z.int)] ++ [Ob.lst [Z.int n0]] ++ [Ob.lst [Z.int 64, Z.int 128, Z.int 256]] : Mh)[1]? = some (.lst [.int n0]) := rfl
  refine (take 18 1 n0 3 _ q1 (by omega) (by omega)).mono ?_
  rintro z h' ⟨rfl, rfl⟩
  walk_at "zs"
  have hb1 := Int.emod_nonneg n0 (show (3 : Int) ≠ 0 by omega)
  have hb2 := Int.emod_lt_of_pos n0 (show (0 : Int) < 3 by omega)
  obtain ⟨s, hs, hsa⟩ : ∃ s : Nat, (s = 64 ∨ s = 128 ∨ s = 256) ∧ atI [Z.int 64, Z.int 128, Z.int 256] (n0 % 3) = some (.int (s : Int)) := by
    have : n0 % 3 = 0 ∨ n0 % 3 = 1 ∨ n0 % 3 = 2 := by omega
    rcases this with q | q | q
    · exact ⟨64, by omega, by rw [q]; rfl⟩
    · exact ⟨128, by omega, by rw [q]; rfl⟩
    · exact ⟨256, by omega, by rw [q]; rfl⟩
  have hidx : zIdx (.ob 2) (.int (n0 % 3)) [Ob.fro (ns.map Z.int), Ob.lst [Z.int (n0 / 3)], Ob.lst [Z.int 64, Z.int 128, Z.int 256]] = .ok (.int (s : Int)) [Ob.fro (ns.map Z.int), Ob.lst [Z.int (n0 / 3)], Ob.lst [Z.int 64, Z.int 128, Z.int 256]] := by
    have g2 : ([Ob.fro (ns.map Z.int), Ob.lst [Z.int (n0 / 3)], Ob.lst [Z.int 64, Z.int 128, Z.int 256]] : Mh)[2]? = some (.lst [Z.int 64, Z.int 128, Z.int 256]) := rfl
    rw [zIdx_lst g2, hsa]
    rfl
  simp only [hidx]
  simp only [Ok_ok]
  have g0 : ([Ob.fro (ns.map Z.int), Ob.lst [Z.int (n0 / 3)], Ob.lst [Z.int 64, Z.int 128, Z.int 256]] : Mh)[0]? = some (.fro (ns.map Z.int)) := rfl
  have g1 : ([Ob.fro (ns.map Z.int), Ob.lst [Z.int (n0 / 3)], Ob.lst [Z.int 64, Z.int 128, Z.int 256]] : Mh)[1]? = some (.lst [.int (n0 / 3)]) := rfl
  generalize hG : ([Ob.fro (ns.map Z.int), Ob.lst [Z.int (n0 / 3)], Ob.lst [Z.int 64, Z.int 128, Z.int 256]] : Mh) = G at g0 g1 ⊢
  refine mk_lay 17 s G hs fun h2 p2 hl2 => ?_
  walk_at "zs"
  generalize hF : s / 2 = F at hl2
  have hF1 : 1 < F ∧ F ≤ 128 := by omega
  have hs2 : 0 < s ∧ s ≤ 256 := by omega
  generalize hA : G.length = a at hl2 ⊢
  obtain ⟨fs, f1, f2, f3⟩ := hl2
  unfold m_law_2
  walk_at "zs"
  simp only [zFld_ins f1, f3]
  walk_at "zs"
  unfold m_law_3
  walk_at "zs"
  simp only [zFld_ins f1, f2]
  walk_at "zs"
  refine (law_keys 17 1 F _ h2 (p2.get g1) hF1.1 hF1.2).mono ?_
  rintro z h3 ⟨kA, ks, n1, rfl, eK, en, ch3, hkA, hk⟩
  walk_at "zs"
  have f13 : h3[a]? = some (.ins 0 fs) := ch3.get (by
    simp only [List.mem_cons, List.not_mem_nil, or_false]
    exact ne_of_get f1 (p2.get g1) (by simp)) f1
  have g03 : h3[0]? = some (.fro (ns.map Z.int)) := ch3.get (by simp) (p2.get g0)
  unfold m_law_4
  walk_at "zs"
  refine (law_number 18 ns 1 h3 g03).mono ?_
  rintro z h' ⟨⟨n2, rfl⟩, rfl⟩
  walk_at "zs"
  have hkl := lt_of_get eK
  have hal := lt_of_get f13
  generalize hb : h'.length = b at *
  have e4 : (h' ++ [Ob.lst [Z.int n2]])[b]? = some (.lst [.int n2]) := by rw [← hb]; exact get_new
  unfold m_law_5
  walk_at "zs"
  refine (take 18 b n2 20 _ e4 (by omega) (by omega)).mono ?_
  rintro z h5 ⟨rfl, rfl⟩
  walk_at "zs"
  have hsh1 := Int.emod_nonneg n2 (show (20 : Int) ≠ 0 by omega)
  have hsh2 := Int.emod_lt_of_pos n2 (show (0 : Int) < 20 by omega)
  generalize n2 % 20 = sh at hsh1 hsh2 ⊢
  have f15 : ((h' ++ [Ob.lst [Z.int n2]]).set b (.lst [.int (n2 / 20)]))[a]? = some (.ins 0 fs) := by rw [get_set_ne (by omega)]; exact get_app f13
  have eK5 : ((h' ++ [Ob.lst [Z.int n2]]).set b (.lst [.int (n2 / 20)]))[kA]? = some (.lst (ks.map Z.int)) := by rw [get_set_ne (by omega)]; exact get_app eK
  have eb5 : ((h' ++ [Ob.lst [Z.int n2]]).set b (.lst [.int (n2 / 20)]))[b]? = some (.lst [.int (n2 / 20)]) := get_set e4
  generalize (h' ++ [Ob.lst [Z.int n2]]).set b (.lst [.int (n2 / 20)]) = H5 at f15 eK5 eb5 ⊢
  unfold m_law_6
  walk_at "zs"
  refine comp_rng_pure (fun _ => true) (fun z => match z with
    | .int i => .int (1 + (7 * i + sh) % 45)
    | _ => .non) (n := 45) (by omega) ?_ ?_
  · intro i hi o
    walk_at "zs"
    exact fun _ => ⟨cmulL, by omega⟩
  have hids : (((List.range 45).map fun i : Nat => Z.int (i : Int)).filter fun _ => true).map (fun z => match z with
    | .int i => .int (1 + (7 * i + sh) % 45)
    | _ => .non) = (idsOf sh).map Z.int := by
    rw [List.filter_eq_self.mpr (fun _ _ => rfl), List.map_map, idsOf, List.map_map]
    rfl
  rw [hids]
  walk_at "zs"
  have hbl5 := lt_of_get eb5
  have ei6 : (H5 ++ [Ob.lst ((idsOf sh).map Z.int)])[H5.length]? = some (.lst ((idsOf sh).map Z.int)) := get_new
  have f16 := get_app (l := [Ob.lst ((idsOf sh).map Z.int)]) f15
  have eK6 := get_app (l := [Ob.lst ((idsOf sh).map Z.int)]) eK5
  have eb6 := get_app (l := [Ob.lst ((idsOf sh).map Z.int)]) eb5
  generalize hiA : H5.length = iA at *
  generalize H5 ++ [Ob.lst ((idsOf sh).map Z.int)] = H6 at f16 eK6 eb6 ei6 ⊢
  obtain ⟨m, hm, hlast⟩ := hk.last
  generalize hlv : (F : Int) ^ m - 1 = last at hlast
  obtain ⟨n, hn⟩ : ∃ n, ks.length = n + 1 := by
    cases ks with
    | nil => simp at hlast
    | cons x xs => exact ⟨xs.length, rfl⟩
  have hil := ids_len sh
  have hkl2 := hk.len
  obtain ⟨x0, hx0⟩ : ∃ x, (idsOf sh)[n]? = some x := ⟨_, List.getElem?_eq_getElem (by omega)⟩
  unfold m_law_7
  walk_at "zs"
  refine (law_tree 18 a kA iA F s (idsOf sh) ks last x0 H6 ⟨fs, f16, f2, f3⟩ hF1.1 hF1.2 hs2.2 eK6 ei6 hk hlast (ids_nd sh hsh1 hsh2) (ids_nz sh) hil (by rw [hn]; exact hx0)).mono ?_
  rintro z h7 ⟨R, d, kvs, D, j, at_, root, rfl, eR, ed, rp, hkv, ch7, hd7, tr, hDx⟩
  rw [hn, Nat.add_sub_cancel] at hDx
  have f17 := ch7.get (by simp) f16
  have eK7 := ch7.get (by simp) eK6
  have eb7 := ch7.get (by simp) eb6
  have ei7 := ch7.get (by simp) ei6
  walk_at "zs"
  unfold m_law_8
  walk_at "zs"
  refine (take 18 b _ s h7 eb7 (by omega) (by omega)).mono ?_
  rintro z h8 ⟨rfl, rfl⟩
  walk_at "zs"
  have hr1 := Int.emod_nonneg (n2 / 20) (show (s : Int) ≠ 0 by omega)
  have hr2 := Int.emod_lt_of_pos (n2 / 20) (show (0 : Int) < (s : Int) by omega)
  obtain ⟨rest, hrest, hre⟩ : ∃ rest : Nat, rest < s ∧ n2 / 20 % (s : Int) = (rest : Int) := ⟨(n2 / 20 % (s : Int)).toNat, by omega, by omega⟩
  rw [hre]
  have hbR : b ≠ R := by
    intro q
    rw [← q, eb7] at eR
    simp at eR
  have hbd : d ≠ b := ne_of_get ed eb7 (by simp)
  have hbi : b ≠ iA := by omega
  have hbK : b ≠ kA := by omega
  have hba : b ≠ a := by omega
  have f18 : (h7.set b (.lst [.int (n2 / 20 / (s : Int))]))[a]? = some (.ins 0 fs) := by rw [get_set_ne hba]; exact f17
  have eK8 : (h7.set b (.lst [.int (n2 / 20 / (s : Int))]))[kA]? = some (.lst (ks.map Z.int)) := by rw [get_set_ne hbK]; exact eK7
  have ei8 : (h7.set b (.lst [.int (n2 / 20 / (s : Int))]))[iA]? = some (.lst ((idsOf sh).map Z.int)) := by rw [get_set_ne hbi]; exact ei7
  have eR8 : (h7.set b (.lst [.int (n2 / 20 / (s : Int))]))[R]? = some (.lst [.ob d, .int (j : Int), .int root, .int (at_ : Int)]) := by rw [get_set_ne hbR]; exact eR
  have ed8 : (h7.set b (.lst [.int (n2 / 20 / (s : Int))]))[d]? = some (.dct kvs) := by rw [get_set_ne (Ne.symm hbd)]; exact ed
  have eb8 : (h7.set b (.lst [.int (n2 / 20 / (s : Int))]))[b]? = some (.lst [.int (n2 / 20 / (s : Int))]) := get_set eb7
  generalize h7.set b (.lst [.int (n2 / 20 / (s : Int))]) = H8 at f18 eK8 ei8 eR8 ed8 eb8 ⊢
  unfold m_law_9
  walk_at "zs"
  simp only [zIdx_lst eR8]
  walk_at "zs"
  unfold m_law_10
  walk_at "zs"
  have aK : atI (ks.map Z.int) (-1) = some (.int last) := atI_end (by simp [hlast])
  simp only [zIdx_lst eK8, aK]
  walk_at "zs"
  refine ⟨cmulR, ?_⟩
  -- from the file on
  have from12 : ∀ (v11 : Option Z) (kvs' : List (Key × Z)) (h9 : Mh), h9[d]? = some (.dct kvs') → Rep kvs' (upd D x0 (3, cutD s n rest)) → kvs'.length ≤ 46 → (∀ y o, y ≠ d → H8[y]? = some o → h9[y]? = some o) →
      Ok (dSs (prg.C 19) prg.gt.fl m_law_12 [some (.ob 0), some (.ob b), some (.ob a), some (.int (s : Int)), some (.ob kA), some (.int sh), some (.ob iA), some (.ob R), some (.int (rest : Int)), some (.ob d), some (.int (last * s + s - rest)), v11, none, none, none, none, none, none, none, none] h9) Ends := by
    intro v11 kvs' h9 ed9 rp9 hkl9 hold
    have eR9 := hold R _ (ne_of_get eR8 ed8 (by simp)) eR8
    have f19 := hold a _ (ne_of_get f18 ed8 (by simp)) f18
    have eK9 := hold kA _ (ne_of_get eK8 ed8 (by simp)) eK8
    have ei9 := hold iA _ (ne_of_get ei8 ed8 (by simp)) ei8
    have eb9 := hold b _ (Ne.symm hbd) eb8
    unfold m_law_12
    walk_at "zs"
    simp only [zIdx_lst eR9]
    walk_at "zs"
    try simp only [zIdx_lst eR9]
    walk_at "zs"
    refine mk_file' 18 _ _ _ h9 fun h10 p10 hf10 => ?_
    walk_at "zs"
    obtain ⟨is, hg, pm⟩ := tr.good (cutD s n rest)
    obtain ⟨R0, hR0, hR1, hR2⟩ := rows_split (B := s) hk hlast (cutD s n rest)
    rw [hR0] at hg
    have hx0m : x0 ∈ idsOf sh := List.mem_of_getElem? hx0
    refine law_kinds (k := 16) (k0 := n) (ids := idsOf sh) (ks := ks) (is := is) (R0 := R0) (j := j) (at_ := at_) (root := root) (kvs := kvs') (D := upd D x0 (3, cutD s n rest)) (F := F) ⟨⟨fs, p10.get f19, f2, f3⟩, hF1.1, hF1.2, hs2.1, hs2.2, ⟨_, p10.get eb9⟩, p10.get eK9, p10.get ei9, p10.get eR9, p10.get ed9, rp9, hkl9, hf10, hg, pm, hR1, hR2, hlast, tr.hj, tr.h0, tr.j3, tr.rn, by have := tr.ge; omega, tr.le, fun i b e => ?_, fun i e => ?_, hil, ids_nd sh hsh1 hsh2, ids_nz sh, hrest⟩ hbK hbi
    · unfold upd at e
      by_cases q : i = x0
      · rw [if_pos q] at e
        cases e
      · rw [if_neg q] at e
        exact tr.dim i b e
    · unfold upd at e
      by_cases q : i = x0
      · rw [q]
        exact hx0m
      · rw [if_neg q] at e
        exact tr.dom i e
  unfold m_law_11
  walk_at "zs"
  by_cases hr0 : rest = 0
  · subst hr0
    simp only [show decide ((0 : Int) < ((0 : Nat) : Int)) = false from rfl]
    walk_at "zs"
    refine from12 none kvs _ ed8 ?_ (by omega) (fun _ _ _ e => e)
    rw [cut_zero, upd_same hDx]
    exact rp
  · have : decide ((0 : Int) < (rest : Int)) = true := by simp; omega
    simp only [this]
    walk_at "zs"
    refine tail_cut (n := n) (x0 := x0) (by rfl) eK8 ei8 ed8 rp hkv hn hx0 hDx hs2.2 (by omega) ?_
    intro v11 kvs' h9 ed9 rp9 hkl9 hold _
    walk_at "zs"
    exact from12 v11 kvs' h9 ed9 rp9 hkl9 hold
theorem law_says : Zm.LawSays prg iLaw 20 63 := by
  intro ns _
  obtain ⟨z, h', e, rfl⟩ := (law_ok ns).ex
  exact ⟨h', e⟩
end K89
namespace K89
open PySem PySem.Spec PyProof.Rows L2 Zm
abbrev R : PySem.W.OpenRow := PySem.W.OpenLaw.row PySem.Challenge.rw_segmentfs_k89_faults_of_trees
abbrev hk : PySem.W.Hook := He.hookD 6 prg.fa prg.fn
def ob (s : PySem.W.SharedT) : He.AlD := He.obsDG 6 prg.fa prg.fn (HandSHeadRun.getT s)
theorem ob_eq (s : PySem.W.SharedT) : ob s = hk.obs s.abs := He.obsDG_eq (HandSHeadRun.getT_eq s)
def loose : List PySem.Str := (["DATA", "NODE", "SegmentError", "InvalidFormat", "LEAST_SEGMENTS", "MOST_SEGMENTS", "LEAST_BLOCKS", "MOST_BLOCKS", "HEAD_OCTETS", "SLOTS", "Layout", "parts_of", "least_height", "fan_power", "wrong_block", "look_at", "is_least", "tree_fault", "PlainFile", "_law_number", "_law_take", "_law_keys", "_law_tree", "_law_bent", "_law_twice"] : List PySem.Str)
theorem run (w : World) : HandSHeadRun.RunEq R (PySem.W.view R.prog [31]) hk ob 4000 loose w := by
  intro os
  kernel_rfl
end K89
open PySem PySem.W PySem.Calls PyProof.Rows
theorem PySem.Challenge.cw_segmentfs_k89_faults_of_trees_holds : PySem.Challenge.rw_segmentfs_k89_faults_of_trees.Holds := by
  w_on; o_law
  refine HandSHeadRun.head_any (r := OpenLaw.row PySem.Challenge.rw_segmentfs_k89_faults_of_trees) (q := view (OpenLaw.row PySem.Challenge.rw_segmentfs_k89_faults_of_trees).prog [31]) (H := K89.hk) (ob := K89.ob) (M := 4000) (loose := K89.loose) (d := HandSHeadRun.topDef (OpenLaw.row PySem.Challenge.rw_segmentfs_k89_faults_of_trees).prog 31) (kwd := []) K89.ob_eq
    (by kernel_rfl) (fun s => by kernel_rfl) K89.run (by kernel_rfl) (by kernel_rfl) (by kernel_rfl) (by rfl) (by first | assumption | decide +kernel) (by decide +kernel) ⟨rfl, rfl, rfl, rfl, rfl, by decide +kernel⟩ ?hw ?hc
  case hw => w_witness2
  case hc =>
    refine L2.walk_ofE (l := PySem.Challenge.rw_segmentfs_k89_faults_of_trees) (n := 63) (k := 2 * 20) (x := "_law_script") (CX := L2.CX0) rfl (by decide) (by kernel_rfl) ⟨rfl, by decide, by decide⟩ ?F (fun _ _ _ _ z => z)
    intro w mg fa h Y G hmg0
    obtain ⟨K, KX, c⟩ := Y
    have hmg : mg ("law" : PySem.Str) = some (.ref fa) := by
      have e : (HandSHeadRun.topDef (OpenLaw.row PySem.Challenge.rw_segmentfs_k89_faults_of_trees).prog 31).name = ("law" : PySem.Str) := by kernel_rfl
      rw [← e]
      exact hmg0
    have e := hmg.symm.trans (He.glo_ok KX G (Zm.says_mem c (Zm.glo_mem (f := K89.iLaw) (d := K89.d_law) (x := "law") rfl rfl)))
    cases e
    obtain ⟨fd, F⟩ := c.def_ K89.iLaw (d := K89.d_law.dd) rfl
    refine ⟨K, fd, Zm.spOf (K89.prg.tb K89.ok K) K (Zm.callK K89.prg.gt.fl K89.prg.code 20 K89.iLaw), KX, fun s u => ?_, fun H a ns hl hO hS => Zm.law_sp K89.law_says H a ns hl hO hS, fun base hb hn => ?_⟩
    · exact L2.FunD.bindsA (ps := ["_law_script"]) F (fun _ _ _ _ _ _ us hl => match us, hl with | [_], _ => rfl) s [u] rfl
    · exact Zm.all_ok K89.ok c KX G 20 K89.iLaw (d := K89.d_law) rfl F
