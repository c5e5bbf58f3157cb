import PyProof.Rows.All
import Wide.All
import OpenK.AllK
import Wide.FinOn
import HandS.ForMost
import HandS.Flow
import HandS.Deep
import HandS.SortInts
import HandS.Wide
import HandS.RevRange
import HandS.TupAny
import HandS.IsInst
import HandS.Defaults
import KE.DataAny
import HandS.More
import KE.DataMinMax
import HandS.SetKeys
import HandS.DictComp
import HandS.TryOnly
import HandS.SortKw
import HandS.BoundList
import HandS.GenYield
import PyProof.GenComp
import HandS.GenList
import HandS.Words
import HandS.WordsExc
import HandS.Head0
import HandS.Head1
import HandS.Head2
import HandS.HeadEnd
import HandS.HeadHook1
import HandS.HeadHook2
import PyProof.P3Eq
import PySem.Challenge.RW_segmentfs_k88_faults_of_needed_blocks
set_option Elab.async false
set_option linter.all false
set_option maxRecDepth 100000
set_option maxHeartbeats 0
/-! Deep values over a heap of few kinds of objects, and how they lie in the layer's abstract heap. -/
namespace Zm
open PySem PySem.Spec PyProof.Rows L2

/-- a deep value: tuples are values, lists, dicts and instances are objects by number -/
inductive Z where
  | non | bl (b : Bool) | int (i : Int) | str (x : Str) | tup (zs : List Z) | ob (a : Nat)

inductive Ob where
  | lst (zs : List Z)
  | fro (zs : List Z)
  | dct (kvs : List (Key × Z))
  | ins (c : Nat) (fs : List (Nat × Z))

abbrev Mh := List Ob
abbrev Ev := List (Option Z)

/-- classes by number, attribute names by number -/
structure Tb where
  cls : Nat → Addr
  an : Nat → Str
  anInj : ∀ i j, an i = an j → i = j

section
variable (K : PySem.W.Frag) (as : List Addr) (H : Hp)
mutual
inductive RZ : Z → V → Prop
  | non : RZ .non .non
  | bl (b : Bool) : RZ (.bl b) (.bl b)
  | int (i : Int) : RZ (.int i) (.int i)
  | str (x : Str) : RZ (.str x) (.str x)
  | tup {p : Addr} {zs : List Z} {vs : List V} : SqT K H p vs → RZs zs vs → RZ (.tup zs) (.ref p)
  | ob {a : Nat} {p : Addr} : as[a]? = some p → RZ (.ob a) (.ref p)
inductive RZs : List Z → List V → Prop
  | nil : RZs [] []
  | cons {z : Z} {zs : List Z} {v : V} {vs : List V} : RZ z v → RZs zs vs → RZs (z :: zs) (v :: vs)
end
end

/-- tuples stay, objects stay where they are -/
structure Ext (K : PySem.W.Frag) (as : List Addr) (H : Hp) (as' : List Addr) (H' : Hp) : Prop where
  as : as <+: as'
  tup : ∀ p vs, SqT K H p vs → SqT K H' p vs

section
variable {K : PySem.W.Frag} {as as' as2 : List Addr} {H H' H2 : Hp}
theorem Ext.refl : Ext K as H as H := ⟨List.prefix_rfl, fun _ _ h => h⟩
theorem Ext.trans (h : Ext K as H as' H') (g : Ext K as' H' as2 H2) : Ext K as H as2 H2 :=
  ⟨h.as.trans g.as, fun p vs q => g.tup p vs (h.tup p vs q)⟩
theorem Ext.get (h : Ext K as H as' H') {a : Nat} {p : Addr} (e : as[a]? = some p) : as'[a]? = some p := by
  obtain ⟨l, rfl⟩ := h.as
  rw [List.getElem?_append_left (by exact (List.getElem?_eq_some_iff.mp e).1)]
  exact e
mutual
theorem RZ.mono (h : Ext K as H as' H') : ∀ {z : Z} {v : V}, RZ K as H z v → RZ K as' H' z v
  | _, _, .non => .non
  | _, _, .bl b => .bl b
  | _, _, .int i => .int i
  | _, _, .str x => .str x
  | _, _, .tup q r => .tup (h.tup _ _ q) (RZs.mono h r)
  | _, _, .ob e => .ob (h.get e)
theorem RZs.mono (h : Ext K as H as' H') : ∀ {zs : List Z} {vs : List V}, RZs K as H zs vs → RZs K as' H' zs vs
  | _, _, .nil => .nil
  | _, _, .cons r rs => .cons (RZ.mono h r) (RZs.mono h rs)
end
theorem RZs.length : ∀ {zs : List Z} {vs : List V}, RZs K as H zs vs → zs.length = vs.length
  | _, _, .nil => rfl
  | _, _, .cons _ rs => by simp [RZs.length rs]
theorem RZs.append : ∀ {zs ys : List Z} {vs us : List V}, RZs K as H zs vs → RZs K as H ys us → RZs K as H (zs ++ ys) (vs ++ us)
  | _, _, _, _, .nil, q => q
  | _, _, _, _, .cons r rs, q => .cons r (RZs.append rs q)
theorem RZs.take : ∀ {zs : List Z} {vs : List V} (n : Nat), RZs K as H zs vs → RZs K as H (zs.take n) (vs.take n)
  | _, _, 0, _ => by simpa using RZs.nil
  | _, _, n + 1, .nil => .nil
  | _, _, n + 1, .cons r rs => .cons r (RZs.take n rs)
theorem RZs.drop : ∀ {zs : List Z} {vs : List V} (n : Nat), RZs K as H zs vs → RZs K as H (zs.drop n) (vs.drop n)
  | _, _, 0, q => q
  | _, _, n + 1, .nil => .nil
  | _, _, n + 1, .cons r rs => RZs.drop n rs
theorem RZs.get : ∀ {zs : List Z} {vs : List V} {i : Nat} {z : Z}, RZs K as H zs vs → zs[i]? = some z → ∃ v, vs[i]? = some v ∧ RZ K as H z v
  | _, _, _, _, .nil, e => by simp at e
  | _, _, 0, _, .cons r _, e => by simp at e; subst e; exact ⟨_, rfl, r⟩
  | _, _, i + 1, z, .cons _ rs, e => by
    obtain ⟨v, h1, h2⟩ := RZs.get (i := i) (z := z) rs (by simpa using e)
    exact ⟨v, by simpa using h1, h2⟩
theorem RZs.set {z : Z} {v : V} (r : RZ K as H z v) : ∀ {zs : List Z} {vs : List V} (i : Nat), RZs K as H zs vs → RZs K as H (zs.set i z) (vs.set i v)
  | _, _, _, .nil => .nil
  | _, _, 0, .cons _ rs => .cons r rs
  | _, _, i + 1, .cons q rs => .cons q (RZs.set r i rs)
theorem RZs.eraseIdx : ∀ {zs : List Z} {vs : List V} (i : Nat), RZs K as H zs vs → RZs K as H (zs.eraseIdx i) (vs.eraseIdx i)
  | _, _, _, .nil => .nil
  | _, _, 0, .cons _ rs => rs
  | _, _, i + 1, .cons q rs => .cons q (RZs.eraseIdx i rs)
theorem RZs.reverse {zs : List Z} {vs : List V} (h : RZs K as H zs vs) : RZs K as H zs.reverse vs.reverse := by
  induction zs generalizing vs with
  | nil => cases h; exact .nil
  | cons z zs ih =>
    cases h with
    | cons r rs =>
      rw [List.reverse_cons, List.reverse_cons]
      exact (ih rs).append (.cons r .nil)
theorem RZs.dropLast {zs : List Z} {vs : List V} (h : RZs K as H zs vs) : RZs K as H zs.dropLast vs.dropLast := by
  rw [List.dropLast_eq_take, List.dropLast_eq_take, h.length]
  exact h.take _
/-- a value stands for one deep value only as far as its top goes -/
theorem RZ.int_inv {i : Int} {v : V} (h : RZ K as H (.int i) v) : v = .int i := by cases h; rfl
theorem RZ.str_inv {x : Str} {v : V} (h : RZ K as H (.str x) v) : v = .str x := by cases h; rfl
theorem RZ.bl_inv {b : Bool} {v : V} (h : RZ K as H (.bl b) v) : v = .bl b := by cases h; rfl
theorem RZ.non_inv {v : V} (h : RZ K as H .non v) : v = .non := by cases h; rfl
theorem RZ.tup_inv {zs : List Z} {v : V} (h : RZ K as H (.tup zs) v) : ∃ p vs, v = .ref p ∧ SqT K H p vs ∧ RZs K as H zs vs := by
  cases h with
  | tup q r => exact ⟨_, _, rfl, q, r⟩
theorem RZ.ob_inv {a : Nat} {v : V} (h : RZ K as H (.ob a) v) : ∃ p, v = .ref p ∧ as[a]? = some p := by
  cases h with
  | ob e => exact ⟨_, rfl, e⟩
theorem RZ.isNon {z : Z} {v : V} (h : RZ K as H z v) : decide (v = .non) = (match z with | .non => true | _ => false) := by
  cases h <;> simp
theorem RZs.ints_inv : ∀ {ns : List Int} {vs : List V}, RZs K as H (ns.map Z.int) vs → vs = ns.map V.int
  | [], _, h => by cases h; rfl
  | n :: ns, _, h => by
    cases h with
    | cons r rs => rw [RZ.int_inv r, RZs.ints_inv rs]; rfl
theorem RZs.ints : ∀ (ns : List Int), RZs K as H (ns.map Z.int) (ns.map V.int)
  | [] => .nil
  | n :: ns => .cons (.int n) (RZs.ints ns)
theorem RZs.rep {z : Z} {v : V} (h : RZ K as H z v) : ∀ n, RZs K as H (List.replicate n z) (List.replicate n v)
  | 0 => .nil
  | n + 1 => .cons h (RZs.rep h n)
theorem RZs.flat : ∀ {n : Nat} {zs : List Z} {vs : List V}, RZs K as H zs vs → RZs K as H (List.replicate n zs).flatten (List.replicate n vs).flatten
  | 0, _, _, _ => .nil
  | n + 1, _, _, h => by
    rw [List.replicate_succ, List.replicate_succ, List.flatten_cons, List.flatten_cons]
    exact h.append (RZs.flat h)
end

/-- entries of a dict, fields of an instance -/
abbrev RKs (K : PySem.W.Frag) (as : List Addr) (H : Hp) : List (Key × Z) → List (Key × V) → Prop :=
  Paired fun p q => p.1 = q.1 ∧ RZ K as H p.2 q.2
abbrev RFs (T : Tb) (K : PySem.W.Frag) (as : List Addr) (H : Hp) : List (Nat × Z) → List (Str × V) → Prop :=
  Paired fun p q => T.an p.1 = q.1 ∧ RZ K as H p.2 q.2
/-- a written list -/
def KL (K : PySem.W.Frag) (a : Addr) (xs : List V) : Prop :=
  ∃ (o : Obj) (its : Array Value) (n : Nat), K.lookup a = some o ∧ o.cls = .type "list" ∧ o.dict = none ∧ o.data = .seq its n ∧ its.size ≤ sizeLine ∧ Vals xs its.toList
/-- an object -/
def RO (T : Tb) (K : PySem.W.Frag) (as : List Addr) (H : Hp) : Ob → Addr → Prop
  | .lst zs, p => ∃ vs, H p = some (.lst vs) ∧ RZs K as H zs vs
  | .fro zs, p => ∃ vs, ((∃ o, H p = some (.frz o (.lst vs))) ∨ KL K p vs) ∧ RZs K as H zs vs
  | .dct kvs, p => ∃ kws, H p = some (.dK kws) ∧ RKs K as H kvs kws
  | .ins c fs, p => ∃ dx gs, H p = some (.ins (T.cls c) dx gs) ∧ RFs T K as H fs gs ∧ Cls K (T.cls c) ∧ ∀ q ∈ fs, NoAttr K (T.cls c) (T.an q.1)
structure RH (T : Tb) (K : PySem.W.Frag) (as : List Addr) (H : Hp) (h : Mh) : Prop where
  len : as.length = h.length
  nd : ∀ (a b : Nat) p, as[a]? = some p → as[b]? = some p → a = b ∨ (∃ zs, h[a]? = some (.fro zs)) ∨ ∃ zs, h[b]? = some (.fro zs)
  ob : ∀ (a : Nat) p o, as[a]? = some p → h[a]? = some o → RO T K as H o p

section
variable {T : Tb} {K : PySem.W.Frag} {as as' as2 : List Addr} {H H' H2 : Hp} {h h' : Mh}
theorem RKs.mono (e : Ext K as H as' H') {x : List (Key × Z)} {y : List (Key × V)} (r : RKs K as H x y) : RKs K as' H' x y :=
  Paired.mapP r fun _ _ q => ⟨q.1, q.2.mono e⟩
theorem RFs.mono (e : Ext K as H as' H') {x : List (Nat × Z)} {y : List (Str × V)} (r : RFs T K as H x y) : RFs T K as' H' x y :=
  Paired.mapP r fun _ _ q => ⟨q.1, q.2.mono e⟩
/-- what stands at p stays -/
theorem RO.mono (e : Ext K as H as' H') {o : Ob} {p : Addr} (hp : H' p = H p) (r : RO T K as H o p) : RO T K as' H' o p := by
  cases o with
  | lst zs => obtain ⟨vs, a, b⟩ := r; exact ⟨vs, by rw [hp]; exact a, b.mono e⟩
  | fro zs => obtain ⟨vs, a, b⟩ := r; exact ⟨vs, by rw [hp]; exact a, b.mono e⟩
  | dct kvs => obtain ⟨vs, a, b⟩ := r; exact ⟨vs, by rw [hp]; exact a, RKs.mono e b⟩
  | ins c fs => obtain ⟨dx, gs, a, b, c⟩ := r; exact ⟨dx, gs, by rw [hp]; exact a, RFs.mono e b, c⟩
theorem RO.any {o : Ob} {p : Addr} (r : RO T K as H o p) : (∃ u, H p = some u) ∨ ∃ zs vs, o = .fro zs ∧ KL K p vs ∧ RZs K as H zs vs := by
  cases o with
  | lst zs => obtain ⟨vs, a, b⟩ := r; exact .inl ⟨_, a⟩
  | fro zs =>
    obtain ⟨vs, a, b⟩ := r
    rcases a with ⟨o, a⟩ | a
    · exact .inl ⟨_, a⟩
    · exact .inr ⟨zs, vs, rfl, a, b⟩
  | dct kvs => obtain ⟨vs, a, b⟩ := r; exact .inl ⟨_, a⟩
  | ins c fs => obtain ⟨dx, gs, a, b⟩ := r; exact .inl ⟨_, a⟩
/-- tuples stay when a new object is laid -/
theorem tup_new {p : Addr} {o : HO} (hp : H p = none) : ∀ q vs, SqT K H q vs → SqT K (upd H p o) q vs := by
  intro q vs r
  rcases r with (r | ⟨ob, r⟩) | r
  · exact .inl (.inl (by rw [upd_ne (ne_of_none r hp)]; exact r))
  · exact .inl (.inr ⟨ob, by rw [upd_ne (ne_of_none r hp)]; exact r⟩)
  · exact .inr r
/-- .. and when a list, a dict, an instance is changed -/
theorem tup_set {p : Addr} {o : HO} (hp : Mut (H p)) : ∀ q vs, SqT K H q vs → SqT K (upd H p o) q vs := by
  intro q vs r
  rcases r with (r | ⟨ob, r⟩) | r
  · refine .inl (.inl ?_)
    rw [upd_ne]
    · exact r
    · rintro rfl
      rw [r] at hp
      exact hp
  · refine .inl (.inr ⟨ob, ?_⟩)
    rw [upd_ne]
    · exact r
    · rintro rfl
      rw [r] at hp
      exact hp
  · exact .inr r
theorem Ext.new {p : Addr} {o : HO} (hp : H p = none) : Ext K as H as (upd H p o) := ⟨List.prefix_rfl, tup_new hp⟩
theorem Ext.newO {p q : Addr} {o : HO} (hp : H p = none) : Ext K as H (as ++ [q]) (upd H p o) := ⟨List.prefix_append _ _, tup_new hp⟩
theorem Ext.set {p : Addr} {o : HO} (hp : Mut (H p)) : Ext K as H as (upd H p o) := ⟨List.prefix_rfl, tup_set hp⟩
theorem RH.there (r : RH T K as H h) {a : Nat} {p : Addr} (e : as[a]? = some p) : ∃ o, h[a]? = some o ∧ RO T K as H o p := by
  have ha : a < h.length := by rw [← r.len]; exact (List.getElem?_eq_some_iff.mp e).1
  exact ⟨h[a], List.getElem?_eq_getElem ha, r.ob a p _ e (List.getElem?_eq_getElem ha)⟩
theorem RH.addr (r : RH T K as H h) {a : Nat} {o : Ob} (e : h[a]? = some o) : ∃ p, as[a]? = some p ∧ RO T K as H o p := by
  have ha : a < as.length := by rw [r.len]; exact (List.getElem?_eq_some_iff.mp e).1
  exact ⟨as[a], List.getElem?_eq_getElem ha, r.ob a _ o (List.getElem?_eq_getElem ha) e⟩
/-- what stands at q stays where p is changed -/
theorem RO.keep (e : Ext K as H as' H') {o : Ob} {q : Addr} (r : RO T K as H o q) (hq : (∃ u, H q = some u) → H' q = H q) : RO T K as' H' o q := by
  rcases r.any with h | ⟨zs, vs, rfl, h1, h2⟩
  · exact r.mono e (hq h)
  · exact ⟨vs, .inr h1, h2.mono e⟩
/-- something untracked by the numbers is laid: a tuple, an instance's dict -/
theorem RH.other (r : RH T K as H h) {p : Addr} {o : HO} (hp : H p = none) : RH T K as (upd H p o) h := by
  refine ⟨r.len, r.nd, fun a q o' e1 e2 => (r.ob a q o' e1 e2).keep (Ext.new hp) fun ⟨u, hu⟩ => upd_ne ?_⟩
  rintro rfl
  rw [hp] at hu
  cases hu
/-- a new object -/
theorem RH.push (r : RH T K as H h) {p : Addr} {o : HO} {ob : Ob} (hp : H p = none) (ho : RO T K (as ++ [p]) (upd H p o) ob p) : RH T K (as ++ [p]) (upd H p o) (h ++ [ob]) := by
  have old : ∀ {a : Nat}, a < as.length → (as ++ [p])[a]? = as[a]? ∧ (h ++ [ob])[a]? = h[a]? := fun {a} ha =>
    ⟨List.getElem?_append_left ha, List.getElem?_append_left (by rw [← r.len]; exact ha)⟩
  have new : ∀ {a : Nat} {q : Addr}, (as ++ [p])[a]? = some q → ¬ a < as.length → a = as.length ∧ q = p := fun {a q} e ha => by
    have h1 : a = as.length := by
      have := (List.getElem?_eq_some_iff.mp e).1
      simp at this
      omega
    subst h1
    rw [List.getElem?_append_right (Nat.le_refl _)] at e
    simp at e
    exact ⟨rfl, e.symm⟩
  have fro : ∀ {a : Nat}, a < as.length → as[a]? = some p → ∃ zs, h[a]? = some (.fro zs) := fun {a} ha e => by
    obtain ⟨o', h1, h2⟩ := r.there e
    rcases h2.any with ⟨u, hu⟩ | ⟨zs, vs, rfl, _⟩
    · rw [hp] at hu; cases hu
    · exact ⟨zs, h1⟩
  refine ⟨by simp [r.len], fun a b q e1 e2 => ?_, fun a q o' e1 e2 => ?_⟩
  · by_cases ha : a < as.length
    · by_cases hb : b < as.length
      · rw [(old ha).1] at e1
        rw [(old hb).1] at e2
        rw [(old ha).2, (old hb).2]
        exact r.nd a b q e1 e2
      · obtain ⟨_, rfl⟩ := new e2 hb
        rw [(old ha).1] at e1
        rw [(old ha).2]
        exact .inr (.inl (fro ha e1))
    · obtain ⟨ha2, rfl⟩ := new e1 ha
      by_cases hb : b < as.length
      · rw [(old hb).1] at e2
        rw [(old hb).2]
        exact .inr (.inr (fro hb e2))
      · obtain ⟨hb2, _⟩ := new e2 hb
        exact .inl (ha2.trans hb2.symm)
  · by_cases ha : a < as.length
    · rw [(old ha).1] at e1
      rw [(old ha).2] at e2
      refine (r.ob a q o' e1 e2).keep (Ext.newO hp) fun ⟨u, hu⟩ => upd_ne ?_
      rintro rfl
      rw [hp] at hu
      cases hu
    · obtain ⟨h1, rfl⟩ := new e1 ha
      subst h1
      rw [List.getElem?_append_right (by rw [r.len]; exact Nat.le_refl _), r.len] at e2
      simp at e2
      subst e2
      exact ho
/-- an object is changed -/
theorem RH.set (r : RH T K as H h) {a : Nat} {p : Addr} {o : HO} {ob : Ob} (e : as[a]? = some p) (hm : Mut (H p)) (ha : ∀ zs, h[a]? ≠ some (.fro zs)) (ho : RO T K as (upd H p o) ob p) : RH T K as (upd H p o) (h.set a ob) := by
  have key : ∀ b, b ≠ a → as[b]? = some p → ∃ zs vs, h[b]? = some (.fro zs) ∧ KL K p vs ∧ RZs K as H zs vs := fun b hb e2 => by
    rcases r.nd a b p e e2 with q | ⟨zs, q⟩ | ⟨zs, q⟩
    · exact absurd q.symm hb
    · exact absurd q (ha zs)
    · obtain ⟨vs, h1, h2⟩ := r.ob b p _ e2 q
      rcases h1 with ⟨o', h1⟩ | h1
      · rw [h1] at hm; exact hm.elim
      · exact ⟨zs, vs, q, h1, h2⟩
  refine ⟨by simp [r.len], fun b c q e1 e2 => ?_, fun b q o' e1 e2 => ?_⟩
  · by_cases hbc : b = c
    · exact .inl hbc
    · by_cases hb : b = a
      · subst hb
        rw [e] at e1
        cases e1
        obtain ⟨zs, _, q, _⟩ := key c (Ne.symm hbc) e2
        exact .inr (.inr ⟨zs, by rw [List.getElem?_set_ne hbc]; exact q⟩)
      · by_cases hc : c = a
        · subst hc
          rw [e] at e2
          cases e2
          obtain ⟨zs, _, q, _⟩ := key b hb e1
          exact .inr (.inl ⟨zs, by rw [List.getElem?_set_ne (Ne.symm hb)]; exact q⟩)
        · rw [List.getElem?_set_ne (Ne.symm hb), List.getElem?_set_ne (Ne.symm hc)]
          exact r.nd b c q e1 e2
  · by_cases hb : a = b
    · subst hb
      rw [e] at e1
      cases e1
      have hl : a < h.length := by rw [← r.len]; exact (List.getElem?_eq_some_iff.mp e).1
      rw [List.getElem?_set_self hl] at e2
      cases e2
      exact ho
    · rw [List.getElem?_set_ne hb] at e2
      by_cases hq : q = p
      · subst hq
        obtain ⟨zs, vs, q1, q2, q3⟩ := key b (Ne.symm hb) e1
        rw [e2] at q1
        cases q1
        exact ⟨vs, .inr q2, q3.mono (Ext.set hm)⟩
      · exact (r.ob b q o' e1 e2).keep (Ext.set hm) fun _ => upd_ne hq
end

/-! ### environments -/
structure RE (K : PySem.W.Frag) (as : List Addr) (H : Hp) (σ : L2.St) (ρ : Ev) : Prop where
  len : ρ.length = σ.length
  at_ : ∀ (i : Nat) z, ρ[i]? = some (some z) → ∃ v, σ[i]? = some (some v) ∧ RZ K as H z v
section
variable {K : PySem.W.Frag} {as as' : List Addr} {H H' : Hp} {σ : L2.St} {ρ : Ev}
theorem RE.mono (e : Ext K as H as' H') (r : RE K as H σ ρ) : RE K as' H' σ ρ :=
  ⟨r.len, fun i z q => let ⟨v, a, b⟩ := r.at_ i z q; ⟨v, a, b.mono e⟩⟩
theorem RE.set (r : RE K as H σ ρ) {z : Z} {v : V} (q : RZ K as H z v) (i : Nat) : RE K as H (σ.set i (some v)) (ρ.set i (some z)) := by
  refine ⟨by simp [r.len], fun j y e => ?_⟩
  by_cases hj : i = j
  · subst hj
    by_cases hl : i < ρ.length
    · rw [List.getElem?_set_self hl] at e
      cases e
      exact ⟨v, List.getElem?_set_self (by rw [← r.len]; exact hl), q⟩
    · rw [List.getElem?_eq_none (by simpa using hl)] at e
      cases e
  · rw [List.getElem?_set_ne hj] at e ⊢
    exact r.at_ j y e
/-- names forgotten -/
def wipeZ (ρ : Ev) : List Nat → Ev
  | [] => ρ
  | v :: vs => (wipeZ ρ vs).set v none
theorem RE.wipe (r : RE K as H σ ρ) : ∀ vs : List Nat, RE K as H (L2.wipe σ vs) (wipeZ ρ vs)
  | [] => r
  | v :: vs => by
    have ih := RE.wipe r vs
    refine ⟨by simp [wipeZ, L2.wipe, ih.len], fun j y e => ?_⟩
    show ∃ w, ((L2.wipe σ vs).set v none)[j]? = some (some w) ∧ _
    have e' : ((wipeZ ρ vs).set v none)[j]? = some (some y) := e
    by_cases hj : v = j
    · subst hj
      by_cases hl : v < (wipeZ ρ vs).length
      · rw [List.getElem?_set_self hl] at e'
        cases e'
      · rw [List.getElem?_eq_none (by simpa using hl)] at e'
        cases e'
    · rw [List.getElem?_set_ne hj] at e' ⊢
      exact ih.at_ j y e'
end
end Zm
/-! What the code means over deep values: a total function. -/
namespace Zm
open PySem PySem.Spec PyProof.Rows L2

inductive Res (α : Type) where
  | ok (x : α) (h : Mh)
  | stuck
def Res.bind {α β : Type} (r : Res α) (f : α → Mh → Res β) : Res β := match r with
  | .ok x h => f x h
  | .stuck => .stuck
theorem Res.bind_ok {α β : Type} {x : α} {h : Mh} {f : α → Mh → Res β} : (Res.ok x h).bind f = f x h := rfl
theorem Res.bind_stuck {α β : Type} {f : α → Mh → Res β} : (Res.stuck : Res α).bind f = .stuck := rfl

open Classical in
/-- go on where p holds -/
noncomputable def guard {α : Type} (p : Prop) (r : Res α) : Res α := if p then r else .stuck
theorem guard_pos {α : Type} {p : Prop} {r : Res α} (h : p) : guard p r = r := if_pos h
theorem guard_true {α : Type} {r : Res α} : guard True r = r := if_pos trivial

/-! ### data, for == and in -/
mutual
def pdZ (f : Nat → Option PyData) : Z → Option PyData
  | .non => some .none
  | .bl b => some (.bool b)
  | .int i => some (.int i)
  | .str x => some (.str x)
  | .tup zs => (pdZs f zs).map .tuple
  | .ob a => f a
def pdZs (f : Nat → Option PyData) : List Z → Option (List PyData)
  | [] => some []
  | z :: zs => match pdZ f z, pdZs f zs with
    | some d, some ds => some (d :: ds)
    | _, _ => none
end
def pdO (h : Mh) : Nat → Nat → Option PyData
  | 0, _ => none
  | n + 1, a => match h[a]? with
    | some (.lst zs) => (pdZs (pdO h n) zs).map .list
    | some (.fro zs) => (pdZs (pdO h n) zs).map .list
    | _ => none
def pd (h : Mh) (z : Z) : Option PyData := pdZ (pdO h 3) z

noncomputable def zEqB (a b : Z) (h : Mh) : Res Bool := match pd h a, pd h b with
  | some d, some e => guard (SeqAt.shaped d = true ∧ SeqAt.shaped e = true) (.ok (PyData.eqv d e) h)
  | _, _ => .stuck
noncomputable def zEq (a b : Z) (h : Mh) : Res Z := (zEqB a b h).bind fun c h => .ok (.bl c) h
noncomputable def zNe (a b : Z) (h : Mh) : Res Z := (zEqB a b h).bind fun c h => .ok (.bl (!c)) h
def zIsN : Z → Bool
  | .non => true
  | _ => false
def zIs (a b : Z) (h : Mh) : Res Z := match b with
  | .non => .ok (.bl (zIsN a)) h
  | _ => .stuck
def zIsNot (a b : Z) (h : Mh) : Res Z := match b with
  | .non => .ok (.bl (!zIsN a)) h
  | _ => .stuck
def keyZ : Z → Option Key
  | .int i => some (.inl i)
  | .str x => some (.inr x)
  | _ => none
def valZ (kvs : List (Key × Z)) (k : Key) : Option Z := (kvs.find? fun kv => decide (kv.1 = k)).map (·.2)
def putZ (kvs : List (Key × Z)) (k : Key) (z : Z) : List (Key × Z) :=
  if kvs.any (fun kv => decide (kv.1 = k)) then kvs.map (fun kv => if kv.1 = k then (kv.1, z) else kv) else kvs ++ [(k, z)]
def dropZ (kvs : List (Key × Z)) (k : Key) : List (Key × Z) := kvs.filter fun kv => decide (kv.1 ≠ k)
def flatZ : Z → Bool
  | .non => true
  | .bl _ => true
  | .int _ => true
  | .str _ => true
  | _ => false
def eqF : Z → Z → Bool
  | .non, .non => true
  | .bl a, .bl b => a == b
  | .bl a, .int b => (if a then 1 else 0) == b
  | .int a, .bl b => a == (if b then 1 else 0)
  | .int a, .int b => a == b
  | .str a, .str b => a == b
  | _, _ => false
noncomputable def zInL (x : Z) (a : Nat) (h : Mh) : Res Bool := match pd h x, pd h (.ob a) with
  | some d, some (.list ds) => guard (SeqAt.shaped d = true ∧ SeqAt.shaped (.list ds) = true) (.ok (ds.any fun z => PyData.eqv z d) h)
  | _, _ => .stuck
noncomputable def zInB (x y : Z) (h : Mh) : Res Bool := match y with
  | .tup zs => guard (flatZ x = true ∧ zs.all flatZ = true) (.ok (zs.any fun y => eqF y x) h)
  | .ob a => match h[a]? with
    | some (.dct kvs) => match keyZ x with
      | some k => .ok (valZ kvs k).isSome h
      | none => .stuck
    | some (.lst _) => zInL x a h
    | some (.fro _) => zInL x a h
    | _ => .stuck
  | _ => .stuck
noncomputable def zIn (x y : Z) (h : Mh) : Res Z := (zInB x y h).bind fun c h => .ok (.bl c) h
noncomputable def zNotIn (x y : Z) (h : Mh) : Res Z := (zInB x y h).bind fun c h => .ok (.bl (!c)) h

/-! ### operators -/
def newL (h : Mh) (zs : List Z) : Res Z := .ok (.ob h.length) (h ++ [.lst zs])
noncomputable def zAdd : Z → Z → Mh → Res Z
  | .int i, .int j, h => .ok (.int (i + j)) h
  | .str x, .str y, h => guard (x.length + y.length ≤ sizeLine) (.ok (.str (x ++ y)) h)
  | .tup xs, .tup ys, h => guard (xs.length + ys.length ≤ sizeLine) (.ok (.tup (xs ++ ys)) h)
  | .ob a, .ob b, h => match h[a]?, h[b]? with
    | some (.lst xs), some (.lst ys) => guard (xs.length + ys.length ≤ sizeLine) (newL h (xs ++ ys))
    | _, _ => .stuck
  | _, _, _ => .stuck
def zAddI : Z → Z → Mh → Res Z
  | .int i, .int j, h => .ok (.int (i + j)) h
  | _, _, _ => .stuck
def zSub : Z → Z → Mh → Res Z
  | .int i, .int j, h => .ok (.int (i - j)) h
  | _, _, _ => .stuck
noncomputable def zMul : Z → Z → Mh → Res Z
  | .int i, .int j, h => guard (CMul i j) (.ok (.int (i * j)) h)
  | .ob a, .int k, h => match h[a]? with
    | some (.lst xs) => guard (-(2 ^ 63) ≤ k ∧ k < 2 ^ 63 ∧ xs.length * k.toNat ≤ sizeLine) (newL h (List.replicate k.toNat xs).flatten)
    | _ => .stuck
  | _, _, _ => .stuck
noncomputable def zDiv : Z → Z → Mh → Res Z
  | .int i, .int j, h => guard (CDivW i j) (.ok (.int (i / j)) h)
  | _, _, _ => .stuck
noncomputable def zMod : Z → Z → Mh → Res Z
  | .int i, .int j, h => guard (0 < j) (.ok (.int (i % j)) h)
  | _, _, _ => .stuck
noncomputable def zPow : Z → Z → Mh → Res Z
  | .int i, .int j, h => guard (CPow i j) (.ok (.int (i ^ j.toNat)) h)
  | _, _, _ => .stuck
def zNeg : Z → Mh → Res Z
  | .int i, h => .ok (.int (-i)) h
  | _, _ => .stuck
def zLt : Z → Z → Mh → Res Z
  | .int i, .int j, h => .ok (.bl (decide (i < j))) h
  | _, _, _ => .stuck
def zLe : Z → Z → Mh → Res Z
  | .int i, .int j, h => .ok (.bl (decide (i ≤ j))) h
  | _, _, _ => .stuck
def zGt : Z → Z → Mh → Res Z
  | .int i, .int j, h => .ok (.bl (decide (j < i))) h
  | _, _, _ => .stuck
def zGe : Z → Z → Mh → Res Z
  | .int i, .int j, h => .ok (.bl (decide (j ≤ i))) h
  | _, _, _ => .stuck
noncomputable def zTru : Z → Mh → Res Bool
  | .non, h => .ok false h
  | .bl b, h => .ok b h
  | .int i, h => .ok (i != 0) h
  | .str x, h => guard (x.length ≤ sizeLine) (.ok ((x.length : Int) != 0) h)
  | .tup zs, h => .ok (!zs.isEmpty) h
  | .ob a, h => match h[a]? with
    | some (.lst zs) => .ok (!zs.isEmpty) h
    | some (.fro zs) => .ok (!zs.isEmpty) h
    | some (.dct kvs) => .ok (!kvs.isEmpty) h
    | _ => .stuck
/-- the items of a list or a tuple -/
def seqZ (z : Z) (h : Mh) : Option (List Z) := match z with
  | .tup zs => some zs
  | .ob a => match h[a]? with
    | some (.lst zs) => some zs
    | some (.fro zs) => some zs
    | _ => none
  | _ => none
def oRes {α : Type} (o : Option α) (h : Mh) : Res α := match o with
  | some x => .ok x h
  | none => .stuck
def zIdx (x i : Z) (h : Mh) : Res Z := match x with
  | .ob a => match h[a]? with
    | some (.dct kvs) => match keyZ i with
      | some k => oRes (valZ kvs k) h
      | none => .stuck
    | some (.lst zs) => match i with
      | .int j => oRes (atI zs j) h
      | _ => .stuck
    | some (.fro zs) => match i with
      | .int j => oRes (atI zs j) h
      | _ => .stuck
    | _ => .stuck
  | .tup zs => match i with
    | .int j => oRes (atI zs j) h
    | _ => .stuck
  | _ => .stuck
def cutZ (xs : List Z) (lo hi : Option Int) : List Z := (xs.drop (HT.sIx xs.length 0 lo)).take (HT.sIx xs.length xs.length hi - HT.sIx xs.length 0 lo)
def zSlc (x : Z) (lo hi : Option Int) (h : Mh) : Res Z := match x with
  | .tup zs => .ok (.tup (cutZ zs lo hi)) h
  | .ob a => match h[a]? with
    | some (.lst zs) => newL h (cutZ zs lo hi)
    | some (.fro zs) => newL h (cutZ zs lo hi)
    | _ => .stuck
  | _ => .stuck
/-- o[i] = z -/
noncomputable def zSet (o i z : Z) (h : Mh) : Res Unit := match o with
  | .ob a => match h[a]? with
    | some (.lst zs) => match i with
      | .int k => match ixN zs.length k with
        | some j => .ok () (h.set a (.lst (zs.set j z)))
        | none => .stuck
      | _ => .stuck
    | some (.dct kvs) => match keyZ i with
      | some k => guard (kvs.length < sizeLine) (.ok () (h.set a (.dct (putZ kvs k z))))
      | none => .stuck
    | _ => .stuck
  | _ => .stuck
def lookF (fs : List (Nat × Z)) (f : Nat) : Option Z := match fs with
  | [] => none
  | (g, z) :: r => if f = g then some z else lookF r f
def putF' (f : Nat) (z : Z) : List (Nat × Z) → List (Nat × Z)
  | [] => [(f, z)]
  | (g, y) :: r => if g = f then (g, z) :: r else (g, y) :: putF' f z r
def zFld (o : Z) (f : Nat) (h : Mh) : Res Z := match o with
  | .ob a => match h[a]? with
    | some (.ins _ fs) => oRes (lookF fs f) h
    | _ => .stuck
  | _ => .stuck
noncomputable def zSetF (fl : Nat → Nat → Bool) (o : Z) (f : Nat) (z : Z) (h : Mh) : Res Unit := match o with
  | .ob a => match h[a]? with
    | some (.ins c fs) => guard (fs.length < 1000 ∧ fl c f = true) (.ok () (h.set a (.ins c (putF' f z fs))))
    | _ => .stuck
  | _ => .stuck

/-! ### built-in functions and methods -/
inductive BF where
  | len | tuple | list | int | min | max | sorted | any | all | max1 | min1
inductive BM where
  | append | pop0 | dget1 | dpop1 | extend | reverse | dget2 | dsetd | extT
def intsOf : List Z → Option (List Int)
  | [] => some []
  | .int i :: r => (intsOf r).map (i :: ·)
  | _ :: _ => none
def keyInts : List (Key × Z) → Option (List Int)
  | [] => some []
  | (.inl i, _) :: r => (keyInts r).map (i :: ·)
  | _ :: _ => none
def sortI (ns : List Int) : List Int := ns.mergeSort (fun a b => decide (a ≤ b))
noncomputable def truths : List Z → Option (List Bool)
  | [] => some []
  | .non :: r => (truths r).map (false :: ·)
  | .bl b :: r => (truths r).map (b :: ·)
  | .int i :: r => (truths r).map ((i != 0) :: ·)
  | _ :: _ => none
noncomputable def zBF (p : BF) (zs : List Z) (h : Mh) : Res Z := match p, zs with
  | .len, [z] => match z with
    | .str x => guard (x.length ≤ sizeLine) (.ok (.int x.length) h)
    | .tup ys => .ok (.int ys.length) h
    | .ob a => match h[a]? with
      | some (.lst ys) => .ok (.int ys.length) h
      | some (.fro ys) => .ok (.int ys.length) h
      | some (.dct kvs) => .ok (.int kvs.length) h
      | _ => .stuck
    | _ => .stuck
  | .tuple, [z] => match seqZ z h with
    | some ys => .ok (.tup ys) h
    | none => .stuck
  | .list, [z] => match seqZ z h with
    | some ys => newL h ys
    | none => .stuck
  | .int, [z] => match z with
    | .int i => .ok (.int i) h
    | .bl b => .ok (.int (if b then 1 else 0)) h
    | _ => .stuck
  | .min, [.int i, .int j] => .ok (.int (if j < i then j else i)) h
  | .max, [.int i, .int j] => .ok (.int (if j > i then j else i)) h
  | .sorted, [.ob a] => match h[a]? with
    | some (.lst ys) => match intsOf ys with
      | some ns => newL h ((sortI ns).map Z.int)
      | none => .stuck
    | some (.dct kvs) => match keyInts kvs with
      | some ns => guard (ns.length < 64) (newL h ((sortI ns).map Z.int))
      | none => .stuck
    | _ => .stuck
  | .any, [z] => match seqZ z h with
    | some ys => match truths ys with
      | some bs => .ok (.bl (bs.any id)) h
      | none => .stuck
    | none => .stuck
  | .all, [z] => match seqZ z h with
    | some ys => match truths ys with
      | some bs => .ok (.bl (bs.all id)) h
      | none => .stuck
    | none => .stuck
  | .max1, [z] => match seqZ z h with
    | some ys => match intsOf ys with
      | some (n :: ns) => .ok (.int (ns.foldl max n)) h
      | _ => .stuck
    | none => .stuck
  | .min1, [z] => match seqZ z h with
    | some ys => match intsOf ys with
      | some (n :: ns) => .ok (.int (ns.foldl min n)) h
      | _ => .stuck
    | none => .stuck
  | _, _ => .stuck
/-- max(z, default=d) -/
def zMaxD (z d : Z) (h : Mh) : Res Z := match seqZ z h with
  | some ys => match intsOf ys with
    | some [] => .ok d h
    | some (n :: ns) => .ok (.int (ns.foldl max n)) h
    | none => .stuck
  | none => .stuck
/-- the receiver of a method is of the method's type -/
def bmOk : BM → Z → Mh → Prop
  | .dget1, .ob a, h => ∃ kvs, h[a]? = some (.dct kvs)
  | .dpop1, .ob a, h => ∃ kvs, h[a]? = some (.dct kvs)
  | .dget2, .ob a, h => ∃ kvs, h[a]? = some (.dct kvs)
  | .dsetd, .ob a, h => ∃ kvs, h[a]? = some (.dct kvs)
  | _, .ob a, h => ∃ zs, h[a]? = some (.lst zs)
  | _, _, _ => False
noncomputable def zBM (p : BM) (o : Z) (zs : List Z) (h : Mh) : Res Z := match o with
  | .ob a => match p, zs with
    | .append, [z] => match h[a]? with
      | some (.lst ys) => guard (ys.length < sizeLine) (.ok .non (h.set a (.lst (ys ++ [z]))))
      | _ => .stuck
    | .extend, [.ob b] => match h[a]?, h[b]? with
      | some (.lst xs), some (.lst ys) => guard (xs.length + ys.length ≤ sizeLine) (.ok .non (h.set a (.lst (xs ++ ys))))
      | _, _ => .stuck
    | .pop0, [] => match h[a]? with
      | some (.lst ys) => match ys[ys.length - 1]? with
        | some z => .ok z (h.set a (.lst ys.dropLast))
        | none => .stuck
      | _ => .stuck
    | .reverse, [] => match h[a]? with
      | some (.lst ys) => .ok .non (h.set a (.lst ys.reverse))
      | _ => .stuck
    | .dget1, [k] => match h[a]?, keyZ k with
      | some (.dct kvs), some k => .ok ((valZ kvs k).getD .non) h
      | _, _ => .stuck
    | .dpop1, [k] => match h[a]? with
      | some (.dct kvs) => match keyZ k with
        | some k => match valZ kvs k with
          | some z => .ok z (h.set a (.dct (dropZ kvs k)))
          | none => .stuck
        | none => .stuck
      | _ => .stuck
    | .extT, [.tup ys] => match h[a]? with
      | some (.lst xs) => guard (xs.length + ys.length ≤ sizeLine) (.ok .non (h.set a (.lst (xs ++ ys))))
      | _ => .stuck
    | .dget2, [k, d] => match h[a]?, keyZ k with
      | some (.dct kvs), some k => .ok ((valZ kvs k).getD d) h
      | _, _ => .stuck
    | .dsetd, [k, d] => match h[a]?, keyZ k with
      | some (.dct kvs), some k => guard (kvs.length < sizeLine) (match valZ kvs k with
        | some z => .ok z h
        | none => .ok d (h.set a (.dct (putZ kvs k d))))
      | _, _ => .stuck
    | _, _ => .stuck
  | _ => .stuck

/-! ### the code -/
inductive BO where
  | add | sub | mul | div | mod | pow | addI
inductive CO where
  | lt | le | gt | ge | eq | ne | is_ | isnot | in_ | notin
mutual
inductive ME where
  | var (i : Nat)
  | lit (z : Z)
  | glb (x : Str) (z : Z)
  | bin (o : BO) (a b : ME)
  | neg (a : ME)
  | cmp (o : CO) (a b : ME)
  | cmp2 (o p : CO) (a b c : ME)
  | and (a b : ME)
  | or (a b : ME)
  | not (a : ME)
  | ite (c : MX) (a b : ME)
  | tup (es : MEs)
  | lst (es : MEs)
  | dct0
  | idx (a b : ME)
  | slc (a : ME) (lo hi : MP)
  | fld (e : ME) (f : Nat)
  | call (f : Nat) (es : MEs)
  | mk (c f : Nat) (es : MEs)
  | mkd (c f : Nat) (es : MEs) (ds : List Z)
  | mth (c f m : Nat) (o : ME) (es : MEs)
  | bf (p : BF) (es : MEs)
  | bm (p : BM) (o : ME) (es : MEs)
  | isT (e : ME)
  | comp (vs : List Nat) (t : MT) (it : MI) (c : MC) (e : ME)
  | dcomp (vs : List Nat) (t : MT) (it : MI) (c : MC) (k e : ME)
  | maxd (e d : ME)
/-- a test -/
inductive MX where
  | tr (e : ME)
  | and (a b : MX)
  | or (a b : MX)
  | not (a : MX)
/-- a comprehension's test -/
inductive MC where
  | no
  | some (c : MX)
inductive MEs where
  | nil
  | cons (e : ME) (es : MEs)
/-- an optional part -/
inductive MP where
  | no
  | some (e : ME)
/-- what is walked -/
inductive MI where
  | seq (e : ME)
  | rng1 (e : ME)
  | rng2 (a b : ME)
  | rrng1 (e : ME)
  | enum (e : ME)
inductive MT where
  | nm (i : Nat)
  | tup (is : List Nat)
end
inductive MG where
  | nm (i : Nat)
  | tup (is : List Nat)
  | sub (o i : ME)
  | fld (o : ME) (f : Nat)
  | flds (os : List (ME × Nat))
/-- a generator's call -/
inductive MY where
  | fn (f : Nat) (es : MEs)
  | mth (c f m : Nat) (o : ME) (es : MEs)
mutual
inductive MS where
  | asg (t : MG) (e : ME)
  | aug (i : Nat) (o : BO) (e : ME)
  | expr (e : ME)
  | ret (e : ME)
  | retN
  | ite (c : MX) (a b : MSs)
  | while (c : MX) (b : MSs)
  | for (t : MT) (it : MI) (b : MSs)
  | gfor (t : MT) (y : MY) (b : MSs)
  | try_ (b : MSs)
  | pass
  | brk
  | cont
  | never
inductive MSs where
  | nil
  | cons (s : MS) (ss : MSs)
end

inductive Fl where
  | nx (ρ : Ev)
  | brk (ρ : Ev)
  | cont (ρ : Ev)
  | ret (z : Z)

/-- a call: the def's number, its arguments; of a generator: also what its consumer does with an item, and the consumer's slots -/
structure Cl where
  fn : Nat → List Z → Mh → Res Z
  gen : Nat → List Z → (Ev → Z → Mh → Res Ev) → Ev → Mh → Res Ev
instance : CoeFun Cl (fun _ => Nat → List Z → Mh → Res Z) := ⟨Cl.fn⟩

noncomputable def zBin : BO → Z → Z → Mh → Res Z
  | .add => zAdd
  | .sub => zSub
  | .mul => zMul
  | .div => zDiv
  | .mod => zMod
  | .pow => zPow
  | .addI => zAddI
noncomputable def zCmp : CO → Z → Z → Mh → Res Z
  | .lt => zLt
  | .le => zLe
  | .gt => zGt
  | .ge => zGe
  | .eq => zEq
  | .ne => zNe
  | .is_ => zIs
  | .isnot => zIsNot
  | .in_ => zIn
  | .notin => zNotIn
def rngZ (lo hi : Int) : List Z := (List.range (hi - lo).toNat).map fun i : Nat => Z.int (lo + i)
def rrngZ (hi : Int) : List Z := (List.range hi.toNat).map fun i : Nat => Z.int (0 + ((hi - 0).toNat : Int) - 1 + (i : Nat) * (-1))
def setAll : List Nat → List Z → Ev → Option Ev
  | [], [], ρ => some ρ
  | i :: is, z :: zs, ρ => setAll is zs (ρ.set i (some z))
  | _, _, _ => none
def tgt : MT → Z → Ev → Mh → Res Ev
  | .nm i, z, ρ, h => .ok (ρ.set i (some z)) h
  | .tup is, .tup zs, ρ, h => oRes (setAll is zs ρ) h
  | .tup is, .ob a, ρ, h => match h[a]? with
    | some (.lst zs) => oRes (setAll is zs ρ) h
    | _ => .stuck
  | .tup _, _, _, _ => .stuck
/-- a consumer's turn -/
def turnZ (t : Z → Ev → Mh → Res Ev) (b : Ev → Mh → Res Fl) : Ev → Z → Mh → Res Ev := fun τ z h => (t z τ h).bind fun τ h => (b τ h).bind fun fl h => match fl with
  | .nx τ => .ok τ h
  | .cont τ => .ok τ h
  | _ => .stuck
/-- what is walked: the items, and what is to hold while it is walked -/
structure Wk where
  items : List Z
  still : Mh → Prop
noncomputable def wkSeq (z : Z) (h : Mh) : Res Wk := match z with
  | .tup zs => .ok ⟨zs, fun _ => True⟩ h
  | .ob a => match h[a]? with
    | some (.lst zs) => .ok ⟨zs, fun h' => h'[a]? = some (.lst zs)⟩ h
    | some (.fro zs) => .ok ⟨zs, fun h' => h'[a]? = some (.fro zs)⟩ h
    | _ => .stuck
  | _ => .stuck
noncomputable def wkRng (lo hi : Z) (h : Mh) : Res Wk := match lo, hi with
  | .int i, .int j => guard (-(2 ^ 62) ≤ i ∧ i < 2 ^ 62 ∧ -(2 ^ 62) ≤ j ∧ j < 2 ^ 62) (.ok ⟨rngZ i j, fun _ => True⟩ h)
  | _, _ => .stuck
noncomputable def wkEnum (z : Z) (h : Mh) : Res Wk := match z with
  | .ob a => match h[a]? with
    | some (.lst zs) => .ok ⟨zs.zipIdx.map fun p => .tup [.int (p.2 : Nat), p.1], fun h' => h'[a]? = some (.lst zs)⟩ h
    | _ => .stuck
  | _ => .stuck
noncomputable def wkRev (hi : Z) (h : Mh) : Res Wk := match hi with
  | .int j => guard (-(2 ^ 62) ≤ j ∧ j < 2 ^ 62) (.ok ⟨rrngZ j, fun _ => True⟩ h)
  | _ => .stuck

/-- a comprehension's turns: what is made is kept in the list at D -/
noncomputable def compL (D : Nat) (st : Mh → Prop) (t : Z → Ev → Mh → Res Ev) (c : Ev → Mh → Res Bool) (e : Ev → Mh → Res Z) (ρ : Ev) : List Z → Mh → Res Z
  | [], h => guard (st h) (.ok (.ob D) h)
  | z :: zs, h => guard (st h) ((t z ρ h).bind fun ρ' h => (c ρ' h).bind fun b h =>
      if b then (e ρ' h).bind fun y h => match h[D]? with
        | some (.lst acc) => guard (acc.length < sizeLine) (compL D st t c e ρ zs (h.set D (.lst (acc ++ [y]))))
        | _ => .stuck
      else compL D st t c e ρ zs h)
/-- of a dict -/
noncomputable def dcompL (D : Nat) (st : Mh → Prop) (t : Z → Ev → Mh → Res Ev) (c : Ev → Mh → Res Bool) (k e : Ev → Mh → Res Z) (ρ : Ev) : List Z → Mh → Res Z
  | [], h => guard (st h) (.ok (.ob D) h)
  | z :: zs, h => guard (st h) ((t z ρ h).bind fun ρ' h => (c ρ' h).bind fun b h =>
      if b then (k ρ' h).bind fun x h => (e ρ' h).bind fun y h => match h[D]?, keyZ x with
        | some (.dct acc), some x => guard (acc.length < sizeLine) (dcompL D st t c k e ρ zs (h.set D (.dct (putZ acc x y))))
        | _, _ => .stuck
      else dcompL D st t c k e ρ zs h)
noncomputable def forL (st : Mh → Prop) (t : Z → Ev → Mh → Res Ev) (b : Ev → Mh → Res Fl) : List Z → Ev → Mh → Res Fl
  | [], ρ, h => guard (st h) (.ok (.nx ρ) h)
  | z :: zs, ρ, h => guard (st h) ((t z ρ h).bind fun ρ h => (b ρ h).bind fun fl h => match fl with
    | .nx ρ => forL st t b zs ρ h
    | .cont ρ => forL st t b zs ρ h
    | .brk ρ => .ok (.nx ρ) h
    | .ret z => .ok (.ret z) h)
def whileL (c : Ev → Mh → Res Bool) (b : Ev → Mh → Res Fl) : Nat → Ev → Mh → Res Fl
  | 0, _, _ => .stuck
  | n + 1, ρ, h => (c ρ h).bind fun t h => if t then (b ρ h).bind fun fl h => (match fl with
      | .nx ρ => whileL c b n ρ h
      | .cont ρ => whileL c b n ρ h
      | .brk ρ => .ok (.nx ρ) h
      | .ret z => .ok (.ret z) h)
    else .ok (.nx ρ) h
theorem whileL_more {c : Ev → Mh → Res Bool} {b : Ev → Mh → Res Fl} : ∀ {n : Nat} {ρ : Ev} {h : Mh} {x : Fl} {h' : Mh}, whileL c b n ρ h = .ok x h' → ∀ k, whileL c b (n + k) ρ h = .ok x h'
  | 0, _, _, _, _, e, _ => by simp [whileL] at e
  | n + 1, ρ, h, x, h', e, k => by
    rw [show n + 1 + k = (n + k) + 1 by omega]
    rw [whileL] at e ⊢
    cases q : c ρ h with
    | stuck => rw [q] at e; cases e
    | ok t h1 =>
      rw [q, Res.bind_ok] at e
      rw [Res.bind_ok]
      cases t with
      | false => exact e
      | true =>
        simp only [if_true] at e ⊢
        cases q2 : b ρ h1 with
        | stuck => rw [q2] at e; cases e
        | ok g h2 =>
          rw [q2, Res.bind_ok] at e
          rw [Res.bind_ok]
          cases g with
          | nx ρ2 => exact whileL_more e k
          | cont ρ2 => exact whileL_more e k
          | brk ρ2 => exact e
          | ret z => exact e
open Classical in
/-- as many turns as it takes -/
noncomputable def whileM (c : Ev → Mh → Res Bool) (b : Ev → Mh → Res Fl) (ρ : Ev) (h : Mh) : Res Fl :=
  if hx : ∃ n x h', whileL c b n ρ h = .ok x h' then whileL c b (Classical.choose hx) ρ h else .stuck
theorem whileM_ex (c : Ev → Mh → Res Bool) (b : Ev → Mh → Res Fl) (ρ : Ev) (h : Mh) : ∃ n, whileM c b ρ h = whileL c b n ρ h := by
  unfold whileM
  split
  · exact ⟨_, rfl⟩
  · exact ⟨0, rfl⟩
theorem whileM_of {c : Ev → Mh → Res Bool} {b : Ev → Mh → Res Fl} {ρ : Ev} {h : Mh} {n : Nat} {x : Fl} {h' : Mh} (e : whileL c b n ρ h = .ok x h') : whileM c b ρ h = .ok x h' := by
  unfold whileM
  have hx : ∃ n x h', whileL c b n ρ h = .ok x h' := ⟨n, x, h', e⟩
  rw [dif_pos hx]
  obtain ⟨y, h2, e2⟩ := Classical.choose_spec hx
  have e3 := whileL_more e (Classical.choose hx)
  have e4 := whileL_more e2 n
  rw [Nat.add_comm] at e4
  rw [e2, ← e3, ← e4]

section
variable (C : Cl)
mutual
noncomputable def dE : ME → Ev → Mh → Res Z
  | .var i, ρ, h => match ρ[i]? with
    | some (some z) => .ok z h
    | _ => .stuck
  | .lit z, _, h => .ok z h
  | .glb _ z, _, h => .ok z h
  | .bin o a b, ρ, h => (dE a ρ h).bind fun x h => (dE b ρ h).bind fun y h => zBin o x y h
  | .neg a, ρ, h => (dE a ρ h).bind fun x h => zNeg x h
  | .cmp o a b, ρ, h => (dE a ρ h).bind fun x h => (dE b ρ h).bind fun y h => zCmp o x y h
  | .cmp2 o p a b c, ρ, h => (dE a ρ h).bind fun x h => (dE b ρ h).bind fun y h => (zCmp o x y h).bind fun k h => match k with
    | .bl true => (dE c ρ h).bind fun z h => zCmp p y z h
    | .bl false => .ok (.bl false) h
    | _ => .stuck
  | .and a b, ρ, h => (dE a ρ h).bind fun x h => (zTru x h).bind fun t h => if t then dE b ρ h else .ok x h
  | .or a b, ρ, h => (dE a ρ h).bind fun x h => (zTru x h).bind fun t h => if t then .ok x h else dE b ρ h
  | .not a, ρ, h => (dE a ρ h).bind fun x h => (zTru x h).bind fun t h => .ok (.bl (!t)) h
  | .ite c a b, ρ, h => (dX c ρ h).bind fun t h => if t then dE a ρ h else dE b ρ h
  | .tup es, ρ, h => (dEs es ρ h).bind fun xs h => guard (xs.length ≤ sizeLine) (.ok (.tup xs) h)
  | .lst es, ρ, h => (dEs es ρ h).bind fun xs h => guard (xs.length ≤ sizeLine) (newL h xs)
  | .dct0, _, h => .ok (.ob h.length) (h ++ [.dct []])
  | .idx a b, ρ, h => (dE a ρ h).bind fun x h => (dE b ρ h).bind fun y h => zIdx x y h
  | .slc a lo hi, ρ, h => (dE a ρ h).bind fun x h => (dP lo ρ h).bind fun l h => (dP hi ρ h).bind fun u h => zSlc x l u h
  | .fld e f, ρ, h => (dE e ρ h).bind fun x h => zFld x f h
  | .call f es, ρ, h => (dEs es ρ h).bind fun xs h => C f xs h
  | .mk c f es, ρ, h => (dEs es ρ h).bind fun xs h => (C f (.ob h.length :: xs) (h ++ [.ins c []])).bind fun y h' => match y with
    | .non => .ok (.ob h.length) h'
    | _ => .stuck
  | .mkd c f es ds, ρ, h => (dEs es ρ h).bind fun xs h => (C f (.ob h.length :: (xs ++ ds)) (h ++ [.ins c []])).bind fun y h' => match y with
    | .non => .ok (.ob h.length) h'
    | _ => .stuck
  | .mth c f m o es, ρ, h => (dE o ρ h).bind fun x h => match x with
    | .ob a => match h[a]? with
      | some (.ins c' fs) => guard (c' = c ∧ lookF fs m = none) ((dEs es ρ h).bind fun xs h => C f (.ob a :: xs) h)
      | _ => .stuck
    | _ => .stuck
  | .bf p es, ρ, h => (dEs es ρ h).bind fun xs h => zBF p xs h
  | .bm p o es, ρ, h => (dE o ρ h).bind fun x h => guard (bmOk p x h) ((dEs es ρ h).bind fun xs h => zBM p x xs h)
  | .isT e, ρ, h => (dE e ρ h).bind fun x h => match x with
    | .tup _ => .ok (.bl true) h
    | .non => .ok (.bl false) h
    | _ => .stuck
  | .comp vs t it c e, ρ, h => (dI it ρ h).bind fun w h => compL h.length w.still (tgt t) (dC c) (dE e) (wipeZ ρ vs) w.items (h ++ [.lst []])
  | .dcomp vs t it c k e, ρ, h => (dI it ρ h).bind fun w h => dcompL h.length w.still (tgt t) (dC c) (dE k) (dE e) (wipeZ ρ vs) w.items (h ++ [.dct []])
  | .maxd e d, ρ, h => (dE e ρ h).bind fun x h => (dE d ρ h).bind fun y h => zMaxD x y h
noncomputable def dX : MX → Ev → Mh → Res Bool
  | .tr e, ρ, h => (dE e ρ h).bind fun x h => zTru x h
  | .and a b, ρ, h => (dX a ρ h).bind fun t h => if t then dX b ρ h else .ok false h
  | .or a b, ρ, h => (dX a ρ h).bind fun t h => if t then .ok true h else dX b ρ h
  | .not a, ρ, h => (dX a ρ h).bind fun t h => .ok (!t) h
noncomputable def dEs : MEs → Ev → Mh → Res (List Z)
  | .nil, _, h => .ok [] h
  | .cons e es, ρ, h => (dE e ρ h).bind fun x h => (dEs es ρ h).bind fun xs h => .ok (x :: xs) h
/-- a slice's part -/
noncomputable def dP : MP → Ev → Mh → Res (Option Int)
  | .no, _, h => .ok none h
  | .some e, ρ, h => (dE e ρ h).bind fun x h => match x with
    | .int i => .ok (some i) h
    | _ => .stuck
/-- a comprehension's test -/
noncomputable def dC : MC → Ev → Mh → Res Bool
  | .no, _, h => .ok true h
  | .some c, ρ, h => dX c ρ h
noncomputable def dI : MI → Ev → Mh → Res Wk
  | .seq e, ρ, h => (dE e ρ h).bind fun x h => wkSeq x h
  | .rng1 e, ρ, h => (dE e ρ h).bind fun x h => wkRng (.int 0) x h
  | .rng2 a b, ρ, h => (dE a ρ h).bind fun x h => (dE b ρ h).bind fun y h => wkRng x y h
  | .rrng1 e, ρ, h => (dE e ρ h).bind fun x h => wkRev x h
  | .enum e, ρ, h => (dE e ρ h).bind fun x h => wkEnum x h
end
/-- a generator is made: how it runs -/
noncomputable def dY : MY → Ev → Mh → Res ((Ev → Z → Mh → Res Ev) → Ev → Mh → Res Ev)
  | .fn f es, ρ, h => (dEs C es ρ h).bind fun xs h => .ok (C.gen f xs) h
  | .mth c f m o es, ρ, h => (dE C o ρ h).bind fun x h => match x with
    | .ob a => match h[a]? with
      | some (.ins c' fs) => guard (c' = c ∧ lookF fs m = none) ((dEs C es ρ h).bind fun xs h => .ok (C.gen f (.ob a :: xs)) h)
      | _ => .stuck
    | _ => .stuck
variable (fl : Nat → Nat → Bool)
noncomputable def dFlds : List (ME × Nat) → List Z → Ev → Mh → Res Ev
  | [], [], ρ, h => .ok ρ h
  | q :: os, z :: zs, ρ, h => (dE C q.1 ρ h).bind fun x h => (zSetF fl x q.2 z h).bind fun _ h => dFlds os zs ρ h
  | _, _, _, _ => .stuck
noncomputable def dG : MG → Z → Ev → Mh → Res Ev
  | .nm i, z, ρ, h => .ok (ρ.set i (some z)) h
  | .tup is, z, ρ, h => tgt (.tup is) z ρ h
  | .sub o i, z, ρ, h => (dE C o ρ h).bind fun x h => (dE C i ρ h).bind fun y h => (zSet x y z h).bind fun _ h => .ok ρ h
  | .fld o f, z, ρ, h => (dE C o ρ h).bind fun x h => (zSetF fl x f z h).bind fun _ h => .ok ρ h
  | .flds os, z, ρ, h => match z with
    | .tup zs => dFlds C fl os zs ρ h
    | _ => .stuck
mutual
noncomputable def dS : MS → Ev → Mh → Res Fl
  | .asg t e, ρ, h => (dE C e ρ h).bind fun x h => (dG C fl t x ρ h).bind fun ρ h => .ok (.nx ρ) h
  | .aug i o e, ρ, h => match ρ[i]? with
    | some (some x) => (dE C e ρ h).bind fun y h => (zBin o x y h).bind fun z h => .ok (.nx (ρ.set i (some z))) h
    | _ => .stuck
  | .expr e, ρ, h => (dE C e ρ h).bind fun _ h => .ok (.nx ρ) h
  | .ret e, ρ, h => (dE C e ρ h).bind fun x h => .ok (.ret x) h
  | .retN, _, h => .ok (.ret .non) h
  | .ite c a b, ρ, h => (dX C c ρ h).bind fun t h => if t then dSs a ρ h else dSs b ρ h
  | .while c b, ρ, h => whileM (dX C c) (dSs b) ρ h
  | .for t it b, ρ, h => (dI C it ρ h).bind fun w h => forL w.still (tgt t) (dSs b) w.items ρ h
  | .gfor t y b, ρ, h => (dY C y ρ h).bind fun g h => (g (turnZ (tgt t) (dSs b)) ρ h).bind fun ρ h => .ok (.nx ρ) h
  | .try_ b, ρ, h => dSs b ρ h
  | .pass, ρ, h => .ok (.nx ρ) h
  | .brk, ρ, h => .ok (.brk ρ) h
  | .cont, ρ, h => .ok (.cont ρ) h
  | .never, _, _ => .stuck
noncomputable def dSs : MSs → Ev → Mh → Res Fl
  | .nil, ρ, h => .ok (.nx ρ) h
  | .cons s ss, ρ, h => (dS s ρ h).bind fun fl h => match fl with
    | .nx ρ => dSs ss ρ h
    | .brk ρ => .ok (.brk ρ) h
    | .cont ρ => .ok (.cont ρ) h
    | .ret z => .ok (.ret z) h
end
/-- a def's body at its arguments: n slots -/
noncomputable def runD (n : Nat) (b : MSs) (zs : List Z) (h : Mh) : Res Z :=
  (dSs C fl b (zs.map some ++ List.replicate (n - zs.length) none) h).bind fun fl h => match fl with
  | .nx _ => .ok .non h
  | .ret z => .ok z h
  | _ => .stuck
end
structure MD where
  ps : Nat
  n : Nat
  body : MSs

/-! ### generators -/
mutual
/-- a generator's text -/
inductive MGS where
  | plain (s : MS)
  | yld (e : ME)
  | ite (c : MX) (a b : MGSs)
  | for (t : MT) (it : MI) (b : MGSs)
inductive MGSs where
  | nil
  | cons (s : MGS) (ss : MGSs)
end
/-- what it does: the consumer's slots, how many items are out, its own slots -/
abbrev DG := Ev → Nat → Ev → Mh → Res (Ev × Nat × Fl)
def dSeq (a b : DG) : DG := fun τ m ρ h => (a τ m ρ h).bind fun r h => match r.2.2 with
  | .nx ρ => b r.1 r.2.1 ρ h
  | _ => .ok r h
def dNil : DG := fun τ m ρ h => .ok (τ, m, .nx ρ) h
def dPlain (ms : Ev → Mh → Res Fl) : DG := fun τ m ρ h => (ms ρ h).bind fun fl h => .ok (τ, m, fl) h
noncomputable def dYld (Y : Ev → Z → Mh → Res Ev) (me : Ev → Mh → Res Z) : DG := fun τ m ρ h => (me ρ h).bind fun z h => guard (m < sizeLine) ((Y τ z h).bind fun τ h => .ok (τ, m + 1, .nx ρ) h)
def dIte (mt : Ev → Mh → Res Bool) (a b : DG) : DG := fun τ m ρ h => (mt ρ h).bind fun t h => if t then a τ m ρ h else b τ m ρ h
/-- a for whose body may hand out -/
noncomputable def gForL (st : Mh → Prop) (t : Z → Ev → Mh → Res Ev) (b : DG) : List Z → DG
  | [], τ, m, ρ, h => guard (st h) (.ok (τ, m, .nx ρ) h)
  | z :: zs, τ, m, ρ, h => guard (st h) ((t z ρ h).bind fun ρ h => (b τ m ρ h).bind fun r h => match r.2.2 with
    | .nx ρ => gForL st t b zs r.1 r.2.1 ρ h
    | .cont ρ => gForL st t b zs r.1 r.2.1 ρ h
    | .brk ρ => .ok (r.1, r.2.1, .nx ρ) h
    | .ret z => .ok (r.1, r.2.1, .ret z) h)
noncomputable def dFor (mi : Ev → Mh → Res Wk) (t : Z → Ev → Mh → Res Ev) (b : DG) : DG := fun τ m ρ h => (mi ρ h).bind fun w h => gForL w.still t b w.items τ m ρ h
def flEnds : Fl → Bool
  | .nx _ => true
  | .ret .non => true
  | _ => false
/-- what a generator's text makes of its consumer -/
def genOf (d : (Ev → Z → Mh → Res Ev) → DG) (n : Nat) (zs : List Z) (Y : Ev → Z → Mh → Res Ev) (τ : Ev) (h : Mh) : Res Ev :=
  (d Y τ 0 (zs.map some ++ List.replicate (n - zs.length) none) h).bind fun r h => if flEnds r.2.2 then .ok r.1 h else .stuck
section
variable (C : Cl) (fl : Nat → Nat → Bool) (Y : Ev → Z → Mh → Res Ev)
mutual
noncomputable def dGS : MGS → DG
  | .plain s => dPlain (dS C fl s)
  | .yld e => dYld Y (dE C e)
  | .ite c a b => dIte (dX C c) (dGSs a) (dGSs b)
  | .for t it b => dFor (dI C it) (tgt t) (dGSs b)
noncomputable def dGSs : MGSs → DG
  | .nil => dNil
  | .cons s ss => dSeq (dGS s) (dGSs ss)
end
end
structure MDG where
  ps : Nat
  n : Nat
  body : MGSs
/-- a program's code: its defs, its generators -/
structure Codes where
  fn : Nat → Option MD
  gen : Nat → Option MDG
/-- calls nested k deep -/
noncomputable def callK (fl : Nat → Nat → Bool) (prog : Codes) : Nat → Cl
  | 0 => ⟨fun _ _ _ => .stuck, fun _ _ _ _ _ => .stuck⟩
  | k + 1 => ⟨fun f zs h => match prog.fn f with
      | some d => guard (zs.length = d.ps) (runD (callK fl prog k) fl d.n d.body zs h)
      | none => .stuck,
    fun f zs Y τ h => match prog.gen f with
      | some d => guard (zs.length = d.ps) (genOf (fun Y => dGSs (callK fl prog k) fl Y d.body) d.n zs Y τ h)
      | none => .stuck⟩
end Zm
/-! The layer's rules, over deep values: operators, calls of built-ins. -/
namespace Zm
open PySem PySem.Spec PyProof.Rows L2

variable {T : Tb}
def Fin {α : Type} (T : Tb) (K : PySem.W.Frag) (as : List Addr) (H : Hp) (Q : α → Mh → List Addr → Hp → Prop) : Res α → Prop
  | .ok x h => ∀ as' H', Ext K as H as' H' → RH T K as' H' h → Q x h as' H'
  | .stuck => False
abbrev FinV (T : Tb) (K : PySem.W.Frag) (as : List Addr) (H : Hp) (Q : VK) (r : Res Z) : Prop :=
  Fin T K as H (fun z _ as' H' => ∀ v, RZ K as' H' z v → Q v H') r
section
variable {K : PySem.W.Frag} {as as' : List Addr} {H H' : Hp} {h : Mh} {α β : Type}
theorem Fin.weaken {Q : α → Mh → List Addr → Hp → Prop} {r : Res α} (e : Ext K as H as' H') (f : Fin T K as H Q r) : Fin T K as' H' Q r := by
  cases r with
  | ok x h => exact fun a2 H2 e2 r2 => f a2 H2 (e.trans e2) r2
  | stuck => exact f
theorem Fin.mono {Q Q' : α → Mh → List Addr → Hp → Prop} {r : Res α} (f : Fin T K as H Q r) (g : ∀ x h as' H', Ext K as H as' H' → RH T K as' H' h → Q x h as' H' → Q' x h as' H') : Fin T K as H Q' r := by
  cases r with
  | ok x h => exact fun a2 H2 e2 r2 => g x h a2 H2 e2 r2 (f a2 H2 e2 r2)
  | stuck => exact f
theorem Fin.bind {Q : β → Mh → List Addr → Hp → Prop} {r : Res α} {g : α → Mh → Res β} (f : Fin T K as H Q (r.bind g)) :
    Fin T K as H (fun x h' as' H' => RH T K as' H' h' ∧ Ext K as H as' H' ∧ Fin T K as' H' Q (g x h')) r := by
  cases r with
  | ok x h => exact fun a2 H2 e2 r2 => ⟨r2, e2, Fin.weaken e2 f⟩
  | stuck => exact f
theorem Fin.guard {Q : α → Mh → List Addr → Hp → Prop} {p : Prop} {r : Res α} (f : Fin T K as H Q (guard p r)) : p ∧ Fin T K as H Q r := by
  unfold Zm.guard at f
  split at f
  · exact ⟨‹_›, f⟩
  · exact f.elim
theorem Fin.self {Q : α → Mh → List Addr → Hp → Prop} {x : α} (f : Fin T K as H Q (.ok x h)) (r : RH T K as H h) : Q x h as H := f as H Ext.refl r
theorem FinV.self {Q : VK} {z : Z} {v : V} (f : FinV T K as H Q (.ok z h)) (r : RH T K as H h) (q : RZ K as H z v) : Q v H := f as H Ext.refl r v q
theorem FinV.newL {Q : VK} {zs : List Z} {vs : List V} {p : Addr} (f : FinV T K as H Q (newL h zs)) (r : RH T K as H h) (q : RZs K as H zs vs) (hp : H p = none) : Q (.ref p) (upd H p (.lst vs)) := by
  refine f (as ++ [p]) (upd H p (.lst vs)) (Ext.newO hp) (r.push hp ⟨vs, upd_same, q.mono (Ext.newO hp)⟩) _ (.ob ?_)
  rw [← r.len]
  simp
theorem FinV.newD {Q : VK} {p : Addr} (f : FinV T K as H Q (.ok (.ob h.length) (h ++ [.dct []]))) (r : RH T K as H h) (hp : H p = none) : Q (.ref p) (upd H p (.dK [])) := by
  refine f (as ++ [p]) (upd H p (.dK [])) (Ext.newO hp) (r.push hp ⟨[], upd_same, .nil⟩) _ (.ob ?_)
  rw [← r.len]
  simp
theorem FinV.newT {Q : VK} {zs : List Z} {vs : List V} {p : Addr} (f : FinV T K as H Q (.ok (.tup zs) h)) (r : RH T K as H h) (q : RZs K as H zs vs) (hp : H p = none) : Q (.ref p) (upd H p (.tup vs)) :=
  f as (upd H p (.tup vs)) (Ext.new hp) (r.other hp) _ (.tup (SqT.of upd_same) (q.mono (Ext.new hp)))
theorem FinV.setO {Q : VK} {z : Z} {v : V} {a : Nat} {p : Addr} {o : HO} {ob : Ob} (f : FinV T K as H Q (.ok z (h.set a ob))) (r : RH T K as H h) (e : as[a]? = some p) (hm : Mut (H p)) (hf : ∀ zs, h[a]? ≠ some (.fro zs)) (ho : RO T K as (upd H p o) ob p)
    (q : RZ K as H z v) : Q v (upd H p o) :=
  f as (upd H p o) (Ext.set hm) (r.set e hm hf ho) _ (q.mono (Ext.set hm))
/-- the list at a -/
theorem RH.lst (r : RH T K as H h) {a : Nat} {p : Addr} {zs : List Z} (e : h[a]? = some (.lst zs)) (ep : as[a]? = some p) : ∃ vs, H p = some (.lst vs) ∧ RZs K as H zs vs := r.ob a p _ ep e
theorem RH.fro (r : RH T K as H h) {a : Nat} {p : Addr} {zs : List Z} (e : h[a]? = some (.fro zs)) (ep : as[a]? = some p) : ∃ vs, SqL K H p vs ∧ RZs K as H zs vs := by
  obtain ⟨vs, h1, h2⟩ := r.ob a p _ ep e
  refine ⟨vs, ?_, h2⟩
  rcases h1 with ⟨o, h1⟩ | h1
  · exact .inl (.inr ⟨o, h1⟩)
  · exact .inr h1
theorem RH.dct (r : RH T K as H h) {a : Nat} {p : Addr} {kvs : List (Key × Z)} (e : h[a]? = some (.dct kvs)) (ep : as[a]? = some p) : ∃ kws, H p = some (.dK kws) ∧ RKs K as H kvs kws := r.ob a p _ ep e
theorem RH.ins (r : RH T K as H h) {a : Nat} {p : Addr} {c : Nat} {fs : List (Nat × Z)} (e : h[a]? = some (.ins c fs)) (ep : as[a]? = some p) : ∃ dx gs, H p = some (.ins (T.cls c) dx gs) ∧ RFs T K as H fs gs ∧ Cls K (T.cls c) ∧ ∀ q ∈ fs, NoAttr K (T.cls c) (T.an q.1) := r.ob a p _ ep e
/-- a list or a tuple by its items -/
theorem seqZ_inv (r : RH T K as H h) {z : Z} {v : V} {zs : List Z} (e : seqZ z h = some zs) (q : RZ K as H z v) :
    ∃ p vs, v = .ref p ∧ RZs K as H zs vs ∧ ((SqL K H p vs ∧ ∃ a, z = .ob a ∧ as[a]? = some p) ∨ (SqT K H p vs ∧ z = .tup zs)) := by
  cases z with
  | tup ys =>
    simp only [seqZ, Option.some.injEq] at e
    subst e
    obtain ⟨p, vs, rfl, h1, h2⟩ := q.tup_inv
    exact ⟨p, vs, rfl, h2, .inr ⟨h1, rfl⟩⟩
  | ob a =>
    obtain ⟨p, rfl, ep⟩ := q.ob_inv
    simp only [seqZ] at e
    split at e
    · rename_i ys he
      cases e
      obtain ⟨vs, h1, h2⟩ := r.lst he ep
      exact ⟨p, vs, rfl, h2, .inl ⟨SqL.of h1, a, rfl, ep⟩⟩
    · rename_i ys he
      cases e
      obtain ⟨vs, h1, h2⟩ := r.fro he ep
      exact ⟨p, vs, rfl, h2, .inl ⟨h1, a, rfl, ep⟩⟩
    · cases e
  | _ => simp [seqZ] at e
end

/-! ### readings -/
def tOf (T : Tb) (K : PySem.W.Frag) (m : Ev → Mh → Res Z) : TE := fun σ H Q => ∃ as h ρ, RH T K as H h ∧ RE K as H σ ρ ∧ FinV T K as H Q (m ρ h)
def tOfB (T : Tb) (K : PySem.W.Frag) (m : Ev → Mh → Res Bool) : TT := fun σ H Q => ∃ as h ρ, RH T K as H h ∧ RE K as H σ ρ ∧ Fin T K as H (fun b _ _ H' => Q b H') (m ρ h)
def tOfA (T : Tb) (K : PySem.W.Frag) (m : Ev → Mh → Res (List Z)) : TA := fun σ H Q => ∃ as h ρ, RH T K as H h ∧ RE K as H σ ρ ∧ Fin T K as H (fun zs _ as' H' => ∀ vs, RZs K as' H' zs vs → Q vs H') (m ρ h)
def rOp (T : Tb) (K : PySem.W.Frag) (g : Z → Z → Mh → Res Z) : R2 := fun x y H Q => ∃ as h a b, RH T K as H h ∧ RZ K as H a x ∧ RZ K as H b y ∧ FinV T K as H Q (g a b h)
def rUn (T : Tb) (K : PySem.W.Frag) (g : Z → Mh → Res Z) : V → Hp → VK → Prop := fun x H Q => ∃ as h a, RH T K as H h ∧ RZ K as H a x ∧ FinV T K as H Q (g a h)
def rCl (T : Tb) (K : PySem.W.Frag) (g : List Z → Mh → Res Z) : List V → Hp → VK → Prop := fun xs H Q => ∃ as h zs, RH T K as H h ∧ RZs K as H zs xs ∧ FinV T K as H Q (g zs h)
def rMt (T : Tb) (K : PySem.W.Frag) (g : Z → List Z → Mh → Res Z) : V → List V → Hp → VK → Prop := fun x xs H Q => ∃ as h z zs, RH T K as H h ∧ RZ K as H z x ∧ RZs K as H zs xs ∧ FinV T K as H Q (g z zs h)

section
variable {X : Cx} {K : PySem.W.Frag}
theorem PE.imp {e : Expr} {t t' : TE} (h : PE X e t) (i : ∀ σ H Q, t' σ H Q → t σ H Q) : PE X e t' := ⟨fun pins s σ H Q I q => h.run pins s σ H Q I (i σ H Q q)⟩
theorem PT.imp {e : Expr} {t t' : TT} (h : PT X e t) (i : ∀ σ H Q, t' σ H Q → t σ H Q) : PT X e t' := ⟨fun pins s σ H Q I q => h.run pins s σ H Q I (i σ H Q q)⟩
theorem PA.imp {e : List Expr} {t t' : TA} (h : PA X e t) (i : ∀ σ H Q, t' σ H Q → t σ H Q) : PA X e t' := ⟨fun pos pins s σ H Q I q => h.run pos pins s σ H Q I (i σ H Q q)⟩
theorem PS.imp {e : Stmt} {t t' : TS} (h : PS X e t) (i : ∀ D σ H, t' D σ H → t D σ H) : PS X e t' := ⟨fun pins s σ H D I q => h.run pins s σ H D I (i D σ H q)⟩
theorem PSs.imp {e : List Stmt} {t t' : TS} (h : PSs X e t) (i : ∀ D σ H, t' D σ H → t D σ H) : PSs X e t' := ⟨fun pins s σ H D I q => h.run pins s σ H D I (i D σ H q)⟩
/-- the first of some things in a row -/
theorem tOf_bind {m : Ev → Mh → Res Z} {g : Ev → Z → Mh → Res Z} {σ : L2.St} {H : Hp} {Q : VK} {R : VK}
    (h : tOf T K (fun ρ h => (m ρ h).bind fun x h => g ρ x h) σ H Q) (k : ∀ as h ρ z v H', RH T K as H' h → RE K as H' σ ρ → RZ K as H' z v → FinV T K as H' Q (g ρ z h) → R v H') : tOf T K m σ H R := by
  obtain ⟨as, h0, ρ, rh, re, f⟩ := h
  exact ⟨as, h0, ρ, rh, re, f.bind.mono fun z h1 as1 H1 e1 r1 ⟨_, _, f1⟩ v q => k as1 h1 ρ z v H1 r1 (re.mono e1) q f1⟩
theorem tOf_bindB {m : Ev → Mh → Res Z} {g : Ev → Z → Mh → Res Bool} {σ : L2.St} {H : Hp} {Q : Bool → Hp → Prop} {R : VK}
    (h : tOfB T K (fun ρ h => (m ρ h).bind fun x h => g ρ x h) σ H Q) (k : ∀ as h ρ z v H', RH T K as H' h → RE K as H' σ ρ → RZ K as H' z v → Fin T K as H' (fun b _ _ H' => Q b H') (g ρ z h) → R v H') : tOf T K m σ H R := by
  obtain ⟨as, h0, ρ, rh, re, f⟩ := h
  exact ⟨as, h0, ρ, rh, re, f.bind.mono fun z h1 as1 H1 e1 r1 ⟨_, _, f1⟩ v q => k as1 h1 ρ z v H1 r1 (re.mono e1) q f1⟩
theorem tOf_bind2 {ma mb : Ev → Mh → Res Z} {g : Z → Z → Mh → Res Z} {σ : L2.St} {H : Hp} {Q : VK}
    (h : tOf T K (fun ρ h => (ma ρ h).bind fun x h => (mb ρ h).bind fun y h => g x y h) σ H Q) : tOf T K ma σ H fun x H1 => tOf T K mb σ H1 fun y H2 => rOp T K g x y H2 Q := by
  refine tOf_bind (g := fun ρ x h => (mb ρ h).bind fun y h => g x y h) h fun as h1 ρ z v H1 r1 re q f => ?_
  exact ⟨as, h1, ρ, r1, re, f.bind.mono fun y h2 as2 H2 e2 r2 ⟨_, _, f2⟩ w q2 => ⟨as2, h2, z, y, r2, q.mono e2, q2, f2⟩⟩
theorem le_op {op : Operator} {g : Z → Z → Mh → Res Z} {a b : Expr} {ma mb : Ev → Mh → Res Z} {pos : Pos} (ho : OpR X (binaryOp op) (rOp T X.K g)) (ha : PE X a (tOf T X.K ma)) (hb : PE X b (tOf T X.K mb)) :
    PE X (.BinOp a op b pos) (tOf T X.K fun ρ h => (ma ρ h).bind fun x h => (mb ρ h).bind fun y h => g x y h) :=
  PE.imp (pe_op ho ha hb) fun _ _ _ h => tOf_bind2 h
theorem le_cmp {op : CmpOp} {g : Z → Z → Mh → Res Z} {a b : Expr} {ma mb : Ev → Mh → Res Z} {pos : Pos} (ho : OpR X (compareOp op) (rOp T X.K g)) (ha : PE X a (tOf T X.K ma)) (hb : PE X b (tOf T X.K mb)) (hm : behindInMarks op b = false) :
    PE X (.Compare a [op] [b] pos) (tOf T X.K fun ρ h => (ma ρ h).bind fun x h => (mb ρ h).bind fun y h => g x y h) :=
  PE.imp (pe_cmpR ho ha hb hm) fun _ _ _ h => tOf_bind2 h
theorem le_un {op : UnaryOp} {g : Z → Mh → Res Z} {a : Expr} {ma : Ev → Mh → Res Z} {pos : Pos} (ho : UnR X (unaryOp op) (rUn T X.K g)) (ha : PE X a (tOf T X.K ma)) :
    PE X (.UnaryOp op a pos) (tOf T X.K fun ρ h => (ma ρ h).bind fun x h => g x h) :=
  PE.imp (pe_un ho ha) fun _ _ _ h => tOf_bind (g := fun _ x h => g x h) h fun as h1 ρ z v H1 r1 re q f => ⟨as, h1, z, r1, q, f⟩

/-! ### arithmetic -/
theorem int_int {f : Value → Value → Sem Value} {C : Int → Int → Prop} {g : Int → Int → V} (ho : OpR X f (rI C g)) {k : Z → Z → Mh → Res Z} {g' : Int → Int → Z}
    (hk : ∀ a b h Q as H, FinV T X.K as H Q (k a b h) → ∃ i j, a = .int i ∧ b = .int j ∧ C i j ∧ FinV T X.K as H Q (.ok (g' i j) h)) (hg : ∀ as H i j, RZ X.K as H (g' i j) (g i j)) : OpR X f (rOp T X.K k) := by
  intro pins s σ H x y v u Q I rx ry ⟨as, h, a, b, rh, ra, rb, fin⟩
  obtain ⟨i, j, rfl, rfl, c, fin⟩ := hk a b h Q as H fin
  exact ho pins s σ H x y v u Q I rx ry ⟨i, j, ra.int_inv, rb.int_inv, c, FinV.self fin rh (hg as H i j)⟩
theorem rI0_rI {f : Value → Value → Sem Value} {g : Int → Int → V} (ho : OpR X f (rI0 g)) : OpR X f (rI (fun _ _ => True) g) := by
  intro pins s σ H x y v u Q I rx ry ⟨i, j, e1, e2, _, q⟩
  exact ho pins s σ H x y v u Q I rx ry ⟨i, j, e1, e2, q⟩
theorem oz_sub : OpR X (binaryOp .Sub) (rOp T X.K zSub) := by
  refine int_int (g' := fun i j => .int (i - j)) (rI0_rI op_sub) (fun a b h Q as H f => ?_) fun as H i j => .int _
  cases a <;> cases b <;> first | exact f.elim | exact ⟨_, _, rfl, rfl, trivial, f⟩
theorem oz_div : OpR X (binaryOp .FloorDiv) (rOp T X.K zDiv) := by
  refine int_int (g' := fun i j => .int (i / j)) op_fdivW (fun a b h Q as H f => ?_) fun as H i j => .int _
  cases a <;> cases b <;> first | exact f.elim | exact ⟨_, _, rfl, rfl, (Fin.guard f).1, (Fin.guard f).2⟩
theorem oz_mod : OpR X (binaryOp .Mod) (rOp T X.K zMod) := by
  refine int_int (g' := fun i j => .int (i % j)) op_mod (fun a b h Q as H f => ?_) fun as H i j => .int _
  cases a <;> cases b <;> first | exact f.elim | exact ⟨_, _, rfl, rfl, (Fin.guard f).1, (Fin.guard f).2⟩
theorem oz_pow : OpR X (binaryOp .Pow) (rOp T X.K zPow) := by
  refine int_int (g' := fun i j => .int (i ^ j.toNat)) op_pow (fun a b h Q as H f => ?_) fun as H i j => .int _
  cases a <;> cases b <;> first | exact f.elim | exact ⟨_, _, rfl, rfl, (Fin.guard f).1, (Fin.guard f).2⟩
theorem oz_neg : UnR X (unaryOp .USub) (rUn T X.K zNeg) := by
  intro pins s σ H x v Q I rx ⟨as, h, a, rh, ra, fin⟩
  cases a <;> first | exact fin.elim | skip
  exact un_neg pins s σ H x v Q I rx ⟨_, ra.int_inv, FinV.self fin rh (.int _)⟩
theorem oz_mul : OpR X (binaryOp .Mult) (rOp T X.K zMul) := by
  intro pins s σ H x y v u Q I rx ry ⟨as, h, a, b, rh, ra, rb, fin⟩
  cases a <;> cases b <;> first | exact fin.elim | skip
  · obtain ⟨c, fin⟩ := Fin.guard fin
    exact op_mul pins s σ H x y v u Q I rx ry ⟨_, _, ra.int_inv, rb.int_inv, c, FinV.self fin rh (.int _)⟩
  · rename_i a k
    obtain ⟨p, rfl, ep⟩ := ra.ob_inv
    obtain rfl := rb.int_inv
    simp only [zMul] at fin
    split at fin
    · rename_i zs he
      obtain ⟨⟨c1, c2, c3⟩, fin⟩ := Fin.guard fin
      obtain ⟨vs, e1, e2⟩ := rh.lst he ep
      refine op_rep pins s σ H _ _ v u Q I rx ry ⟨p, k, vs, rfl, rfl, e1, c1, c2, by rw [← e2.length]; exact c3, fun q hq => ?_⟩
      exact FinV.newL fin rh e2.flat hq
    · exact fin.elim
theorem oz_add : OpR X (binaryOp .Add) (rOp T X.K zAdd) := by
  intro pins s σ H x y v u Q I rx ry ⟨as, h, a, b, rh, ra, rb, fin⟩
  cases a <;> cases b <;> first | exact fin.elim | skip
  · exact op_add pins s σ H x y v u Q I rx ry ⟨_, _, ra.int_inv, rb.int_inv, FinV.self fin rh (.int _)⟩
  · obtain ⟨c, fin⟩ := Fin.guard fin
    exact op_add_str pins s σ H x y v u Q I rx ry ⟨_, _, ra.str_inv, rb.str_inv, c, FinV.self fin rh (.str _)⟩
  · obtain ⟨c, fin⟩ := Fin.guard fin
    obtain ⟨p, vs, rfl, p1, p2⟩ := ra.tup_inv
    obtain ⟨q, us, rfl, q1, q2⟩ := rb.tup_inv
    refine op_catA pins s σ H _ _ v u Q I rx ry ⟨p, q, vs, us, rfl, rfl, p1, q1, by rw [← p2.length, ← q2.length]; exact c, fun e => ?_, fun _ e => ?_, fun _ _ r hr => FinV.newT fin rh (p2.append q2) hr⟩
    · subst e
      cases p2
      exact FinV.self fin rh rb
    · subst e
      cases q2
      rw [List.append_nil] at fin
      exact FinV.self fin rh ra
  · rename_i a b
    obtain ⟨p, rfl, ep⟩ := ra.ob_inv
    obtain ⟨q, rfl, eq⟩ := rb.ob_inv
    simp only [zAdd] at fin
    split at fin
    · rename_i xs ys hx hy
      obtain ⟨c, fin⟩ := Fin.guard fin
      obtain ⟨vs, e1, e2⟩ := rh.lst hx ep
      obtain ⟨us, f1, f2⟩ := rh.lst hy eq
      exact op_cat pins s σ H _ _ v u Q I rx ry ⟨p, q, vs, us, rfl, rfl, e1, f1, by rw [← e2.length, ← f2.length]; exact c, fun r hr => FinV.newL fin rh (e2.append f2) hr⟩
    · exact fin.elim

/-! ### comparisons -/
theorem oz_lt : OpR X (compareOp .Lt) (rOp T X.K zLt) := by
  refine int_int (g' := fun i j => .bl (decide (i < j))) (rI0_rI op_lt) (fun a b h Q as H f => ?_) fun as H i j => .bl _
  cases a <;> cases b <;> first | exact f.elim | exact ⟨_, _, rfl, rfl, trivial, f⟩
theorem oz_le : OpR X (compareOp .LtE) (rOp T X.K zLe) := by
  refine int_int (g' := fun i j => .bl (decide (i ≤ j))) (rI0_rI op_le) (fun a b h Q as H f => ?_) fun as H i j => .bl _
  cases a <;> cases b <;> first | exact f.elim | exact ⟨_, _, rfl, rfl, trivial, f⟩
theorem oz_gt : OpR X (compareOp .Gt) (rOp T X.K zGt) := by
  refine int_int (g' := fun i j => .bl (decide (j < i))) (rI0_rI op_gt) (fun a b h Q as H f => ?_) fun as H i j => .bl _
  cases a <;> cases b <;> first | exact f.elim | exact ⟨_, _, rfl, rfl, trivial, f⟩
theorem oz_ge : OpR X (compareOp .GtE) (rOp T X.K zGe) := by
  refine int_int (g' := fun i j => .bl (decide (j ≤ i))) (rI0_rI op_ge) (fun a b h Q as H f => ?_) fun as H i j => .bl _
  cases a <;> cases b <;> first | exact f.elim | exact ⟨_, _, rfl, rfl, trivial, f⟩
theorem RZ_isN {as : List Addr} {H : Hp} {z : Z} {v : V} (h : RZ K as H z v) : decide (v = .non) = zIsN z := by
  cases h <;> simp [zIsN]
theorem oz_is : OpR X (compareOp .Is) (rOp T X.K zIs) := by
  intro pins s σ H x y v u Q I rx ry ⟨as, h, a, b, rh, ra, rb, fin⟩
  cases b <;> first | exact fin.elim | skip
  refine op_isN pins s σ H x y v u Q I rx ry ⟨rb.non_inv, ?_⟩
  have e := RZ_isN ra
  rw [e]
  exact FinV.self fin rh (.bl _)
theorem oz_isnot : OpR X (compareOp .IsNot) (rOp T X.K zIsNot) := by
  intro pins s σ H x y v u Q I rx ry ⟨as, h, a, b, rh, ra, rb, fin⟩
  cases b <;> first | exact fin.elim | skip
  refine op_notN pins s σ H x y v u Q I rx ry ⟨rb.non_inv, ?_⟩
  have e := RZ_isN ra
  rw [e]
  exact FinV.self fin rh (.bl _)
mutual
theorem pdZ_dp {as : List Addr} {H : Hp} {f : Nat → Option PyData} (hf : ∀ a d p, f a = some d → as[a]? = some p → Dp K H (.ref p) d) :
    ∀ (z : Z) (v : V) (d : PyData), pdZ f z = some d → RZ K as H z v → Dp K H v d
  | .non, _, _, h, r => by simp only [pdZ, Option.some.injEq] at h; subst h; rw [r.non_inv]; exact .non
  | .bl b, _, _, h, r => by simp only [pdZ, Option.some.injEq] at h; subst h; rw [r.bl_inv]; exact .bl b
  | .int i, _, _, h, r => by simp only [pdZ, Option.some.injEq] at h; subst h; rw [r.int_inv]; exact .int i
  | .str x, _, _, h, r => by simp only [pdZ, Option.some.injEq] at h; subst h; rw [r.str_inv]; exact .str x
  | .tup zs, _, d, h, r => by
    simp only [pdZ] at h
    cases e : pdZs f zs with
    | none => rw [e] at h; simp at h
    | some ds =>
      rw [e] at h
      simp only [Option.map_some, Option.some.injEq] at h
      subst h
      obtain ⟨p, vs, rfl, h1, h2⟩ := r.tup_inv
      exact .tup h1 (pdZs_dp hf zs vs ds e h2)
  | .ob a, _, d, h, r => by
    simp only [pdZ] at h
    obtain ⟨p, rfl, ep⟩ := r.ob_inv
    exact hf a d p h ep
theorem pdZs_dp {as : List Addr} {H : Hp} {f : Nat → Option PyData} (hf : ∀ a d p, f a = some d → as[a]? = some p → Dp K H (.ref p) d) :
    ∀ (zs : List Z) (vs : List V) (ds : List PyData), pdZs f zs = some ds → RZs K as H zs vs → DpAll K H vs ds
  | [], _, _, h, r => by
    simp only [pdZs, Option.some.injEq] at h
    subst h
    cases r
    exact .nil
  | z :: zs, _, ds, h, r => by
    cases r with
    | cons r rs =>
      simp only [pdZs] at h
      split at h
      · rename_i d ds' e1 e2
        cases h
        exact .cons (pdZ_dp hf z _ d e1 r) (pdZs_dp hf zs _ ds' e2 rs)
      · cases h
end
theorem pdO_dp {as : List Addr} {H : Hp} {h : Mh} (r : RH T K as H h) : ∀ (n : Nat) (a : Nat) (d : PyData) (p : Addr), pdO h n a = some d → as[a]? = some p → Dp K H (.ref p) d
  | 0, _, _, _, e, _ => by simp [pdO] at e
  | n + 1, a, d, p, e, ep => by
    simp only [pdO] at e
    split at e
    · rename_i zs he
      obtain ⟨vs, h1, h2⟩ := r.lst he ep
      cases q : pdZs (pdO h n) zs with
      | none => rw [q] at e; simp at e
      | some ds =>
        rw [q] at e
        simp only [Option.map_some, Option.some.injEq] at e
        subst e
        exact .lst (SqL.of h1) (pdZs_dp (pdO_dp r n) zs vs ds q h2)
    · rename_i zs he
      obtain ⟨vs, h1, h2⟩ := r.fro he ep
      cases q : pdZs (pdO h n) zs with
      | none => rw [q] at e; simp at e
      | some ds =>
        rw [q] at e
        simp only [Option.map_some, Option.some.injEq] at e
        subst e
        exact .lst h1 (pdZs_dp (pdO_dp r n) zs vs ds q h2)
    · cases e
theorem pd_dp {as : List Addr} {H : Hp} {h : Mh} (r : RH T K as H h) {z : Z} {v : V} {d : PyData} (e : pd h z = some d) (q : RZ K as H z v) : Dp K H v d := pdZ_dp (pdO_dp r 3) z v d e q
theorem zEqB_inv {as : List Addr} {H : Hp} {h : Mh} {Q : Bool → Mh → List Addr → Hp → Prop} {a b : Z} (f : Fin T K as H Q (zEqB a b h)) : ∃ d e, pd h a = some d ∧ pd h b = some e ∧ SeqAt.shaped d = true ∧ SeqAt.shaped e = true ∧ Fin T K as H Q (.ok (PyData.eqv d e) h) := by
  unfold zEqB at f
  split at f
  · rename_i d e h1 h2
    obtain ⟨⟨c1, c2⟩, f⟩ := Fin.guard f
    exact ⟨d, e, h1, h2, c1, c2, f⟩
  · exact f.elim
theorem oz_eq (hu : X.A.units + 64 < cLine) : OpR X (compareOp .Eq) (rOp T X.K zEq) := by
  intro pins s σ H x y v u Q I rx ry ⟨as, h, a, b, rh, ra, rb, fin⟩
  obtain ⟨d, e, h1, h2, c1, c2, f⟩ := zEqB_inv (Fin.bind fin)
  obtain ⟨_, _, f⟩ := Fin.self f rh
  exact op_eqD hu pins s σ H x y v u Q I rx ry ⟨d, e, pd_dp rh h1 ra, pd_dp rh h2 rb, c1, c2, FinV.self f rh (.bl _)⟩
theorem oz_ne (hu : X.A.units + 64 < cLine) : OpR X (compareOp .NotEq) (rOp T X.K zNe) := by
  intro pins s σ H x y v u Q I rx ry ⟨as, h, a, b, rh, ra, rb, fin⟩
  obtain ⟨d, e, h1, h2, c1, c2, f⟩ := zEqB_inv (Fin.bind fin)
  obtain ⟨_, _, f⟩ := Fin.self f rh
  exact op_neD hu pins s σ H x y v u Q I rx ry ⟨d, e, pd_dp rh h1 ra, pd_dp rh h2 rb, c1, c2, FinV.self f rh (.bl _)⟩
/-! ### in -/
theorem keyZ_kV {as : List Addr} {H : Hp} {z : Z} {v : V} {k : Key} (e : keyZ z = some k) (r : RZ K as H z v) : v = kV k := by
  cases z <;> simp [keyZ] at e
  · subst e; rw [r.int_inv]; rfl
  · subst e; rw [r.str_inv]; rfl
theorem RKs.val {as : List Addr} {H : Hp} {k : Key} : ∀ {x : List (Key × Z)} {y : List (Key × V)}, RKs K as H x y → (valZ x k = none ∧ valV y k = none) ∨ ∃ z v, valZ x k = some z ∧ valV y k = some v ∧ RZ K as H z v
  | _, _, .nil => .inl ⟨rfl, rfl⟩
  | (k1, z1) :: x, (k2, v2) :: y, .cons r rs => by
    obtain ⟨e, q⟩ := r
    have e : k1 = k2 := e
    subst e
    unfold valZ valV
    rw [List.find?_cons, List.find?_cons]
    by_cases hk : k1 = k
    · have : decide (k1 = k) = true := decide_eq_true hk
      simp only [this]
      exact .inr ⟨z1, v2, rfl, rfl, q⟩
    · have : decide (k1 = k) = false := decide_eq_false hk
      simp only [this]
      exact RKs.val rs
theorem RKs.isSome {as : List Addr} {H : Hp} {k : Key} {x : List (Key × Z)} {y : List (Key × V)} (r : RKs K as H x y) : (valZ x k).isSome = (valV y k).isSome := by
  rcases r.val (k := k) with ⟨h1, h2⟩ | ⟨z, v, h1, h2, _⟩ <;> rw [h1, h2] <;> rfl
theorem flat_RZ {as : List Addr} {H : Hp} : ∀ {z : Z} {v : V}, flatZ z = true → RZ K as H z v → flatV v = true
  | .non, _, _, r => by rw [r.non_inv]; rfl
  | .bl b, _, _, r => by rw [r.bl_inv]; rfl
  | .int i, _, _, r => by rw [r.int_inv]; rfl
  | .str x, _, _, r => by rw [r.str_inv]; rfl
theorem flats_RZ {as : List Addr} {H : Hp} : ∀ {zs : List Z} {vs : List V}, zs.all flatZ = true → RZs K as H zs vs → vs.all flatV = true
  | _, _, _, .nil => rfl
  | z :: zs, v :: vs, h, .cons r rs => by
    rw [List.all_cons, Bool.and_eq_true] at h ⊢
    exact ⟨flat_RZ h.1 r, flats_RZ h.2 rs⟩
theorem eqF_V {as : List Addr} {H : Hp} {a b : Z} {x y : V} (fa : flatZ a = true) (fb : flatZ b = true) (ra : RZ K as H a x) (rb : RZ K as H b y) : eqF a b = eqV x y := by
  cases a <;> simp [flatZ] at fa <;> cases b <;> simp [flatZ] at fb <;> (cases ra; cases rb; rfl)
theorem any_eqF {as : List Addr} {H : Hp} {b : Z} {y : V} (fb : flatZ b = true) (rb : RZ K as H b y) : ∀ {zs : List Z} {vs : List V}, zs.all flatZ = true → RZs K as H zs vs → (zs.any fun a => eqF a b) = vs.any fun x => eqV x y
  | _, _, _, .nil => rfl
  | z :: zs, v :: vs, h, .cons r rs => by
    rw [List.all_cons, Bool.and_eq_true] at h
    rw [List.any_cons, List.any_cons, any_eqF fb rb h.2 rs, eqF_V h.1 fb r rb]
theorem op_dIn (hu : X.A.units + 1 < cLine) : OpR X (compareOp .In) (fun x y H Q => ∃ a o, y = .ref a ∧ DGet H a x o ∧ Q (.bl o.isSome) H) := by
  intro pins s σ H x y v u Q I rx ry ⟨a, o, e, g, q⟩
  subst e
  obtain rfl : u = Value.ref a := ry
  exact d_in hu I g rx fun s3 I3 => ⟨.bl o.isSome, H, I3, rfl, q⟩
theorem op_dNotIn (hu : X.A.units + 1 < cLine) : OpR X (compareOp .NotIn) (fun x y H Q => ∃ a o, y = .ref a ∧ DGet H a x o ∧ Q (.bl (!o.isSome)) H) := by
  intro pins s σ H x y v u Q I rx ry ⟨a, o, e, g, q⟩
  subst e
  obtain rfl : u = Value.ref a := ry
  exact d_notIn hu I g rx fun s3 I3 => ⟨.bl (!o.isSome), H, I3, rfl, q⟩
/-- the cases of in -/
theorem zInB_inv {as : List Addr} {H : Hp} {h : Mh} {Q : Bool → Mh → List Addr → Hp → Prop} {a b : Z} {x y : V} (rh : RH T K as H h) (ra : RZ K as H a x) (rb : RZ K as H b y) (f : Fin T K as H Q (zInB a b h)) :
    (∃ p vs, y = .ref p ∧ SqT K H p vs ∧ flatV x = true ∧ vs.all flatV = true ∧ Q (inV x vs) h as H) ∨
    (∃ p o, y = .ref p ∧ DGet H p x o ∧ Q o.isSome h as H) ∨
    (∃ d ds, Dp K H x d ∧ Dp K H y (.list ds) ∧ SeqAt.shaped d = true ∧ SeqAt.shaped (.list ds) = true ∧ Q (ds.any fun z => PyData.eqv z d) h as H) := by
  have hl : ∀ n, b = .ob n → Fin T K as H Q (zInL a n h) → ∃ d ds, Dp K H x d ∧ Dp K H y (.list ds) ∧ SeqAt.shaped d = true ∧ SeqAt.shaped (.list ds) = true ∧ Q (ds.any fun z => PyData.eqv z d) h as H := by
    intro n hb f
    unfold zInL at f
    split at f
    · rename_i d ds h1 h2
      obtain ⟨⟨c1, c2⟩, f⟩ := Fin.guard f
      exact ⟨d, ds, pd_dp rh h1 ra, pd_dp rh h2 (hb ▸ rb), c1, c2, Fin.self f rh⟩
    · exact f.elim
  cases b <;> first | exact f.elim | skip
  · rename_i zs
    obtain ⟨⟨c1, c2⟩, f⟩ := Fin.guard f
    obtain ⟨p, vs, rfl, h1, h2⟩ := rb.tup_inv
    refine .inl ⟨p, vs, rfl, h1, flat_RZ c1 ra, flats_RZ c2 h2, ?_⟩
    have := Fin.self f rh
    rw [any_eqF c1 ra c2 h2] at this
    exact this
  · rename_i n
    simp only [zInB] at f
    split at f
    · rename_i kvs he
      split at f
      · rename_i k hk
        obtain ⟨p, rfl, ep⟩ := rb.ob_inv
        obtain ⟨kws, h1, h2⟩ := rh.dct he ep
        refine .inr (.inl ⟨p, valV kws k, rfl, ?_, ?_⟩)
        · rw [keyZ_kV hk ra]
          exact DGet.k h1
        · rw [← h2.isSome]
          exact Fin.self f rh
      · exact f.elim
    · exact .inr (.inr (hl n rfl f))
    · exact .inr (.inr (hl n rfl f))
    · exact f.elim
theorem oz_in (hu : X.A.units + 65 < cLine) : OpR X (compareOp .In) (rOp T X.K zIn) := by
  intro pins s σ H x y v u Q I rx ry ⟨as, h, a, b, rh, ra, rb, fin⟩
  rcases zInB_inv rh ra rb (Fin.bind fin) with ⟨p, vs, rfl, h1, h2, h3, _, _, f⟩ | ⟨p, o, rfl, g, _, _, f⟩ | ⟨d, ds, h1, h2, h3, h4, _, _, f⟩
  · exact op_in_seq pins s σ H _ _ v u Q I rx ry ⟨p, vs, rfl, .inr h1, h2, h3, FinV.self f rh (.bl _)⟩
  · exact op_dIn (by omega) pins s σ H _ _ v u Q I rx ry ⟨p, o, rfl, g, FinV.self f rh (.bl _)⟩
  · exact op_inD hu pins s σ H _ _ v u Q I rx ry ⟨d, ds, h1, h2, h3, h4, FinV.self f rh (.bl _)⟩
theorem oz_notin (hu : X.A.units + 65 < cLine) : OpR X (compareOp .NotIn) (rOp T X.K zNotIn) := by
  intro pins s σ H x y v u Q I rx ry ⟨as, h, a, b, rh, ra, rb, fin⟩
  rcases zInB_inv rh ra rb (Fin.bind fin) with ⟨p, vs, rfl, h1, h2, h3, _, _, f⟩ | ⟨p, o, rfl, g, _, _, f⟩ | ⟨d, ds, h1, h2, h3, h4, _, _, f⟩
  · exact op_notIn_seq pins s σ H _ _ v u Q I rx ry ⟨p, vs, rfl, .inr h1, h2, h3, FinV.self f rh (.bl _)⟩
  · exact op_dNotIn (by omega) pins s σ H _ _ v u Q I rx ry ⟨p, o, rfl, g, FinV.self f rh (.bl _)⟩
  · exact op_notInD hu pins s σ H _ _ v u Q I rx ry ⟨d, ds, h1, h2, h3, h4, FinV.self f rh (.bl _)⟩
end
end Zm
namespace Zm
open PySem PySem.Spec PyProof.Rows L2
variable {T : Tb} {X : Cx} {K : PySem.W.Frag}

/-! ### truth -/
theorem zTru_inv {as : List Addr} {H : Hp} {h : Mh} {Q : Bool → Mh → List Addr → Hp → Prop} {z : Z} {v : V} (rh : RH T K as H h) (r : RZ K as H z v) (f : Fin T K as H Q (zTru z h)) : ∃ k, zTru z h = .ok k h ∧ TruV K v H k ∧ Q k h as H := by
  cases z with
  | non => rw [r.non_inv]; exact ⟨false, rfl, rfl, Fin.self f rh⟩
  | bl b => rw [r.bl_inv]; exact ⟨b, rfl, rfl, Fin.self f rh⟩
  | int i => rw [r.int_inv]; exact ⟨_, rfl, rfl, Fin.self f rh⟩
  | str x =>
    rw [r.str_inv]
    obtain ⟨c, f⟩ := Fin.guard f
    exact ⟨_, guard_pos c, ⟨c, rfl⟩, Fin.self f rh⟩
  | tup zs =>
    obtain ⟨p, vs, rfl, h1, h2⟩ := r.tup_inv
    refine ⟨_, rfl, .inr (.inl ⟨vs, h1, ?_⟩), Fin.self f rh⟩
    cases h2 <;> rfl
  | ob a =>
    obtain ⟨p, rfl, ep⟩ := r.ob_inv
    simp only [zTru] at f ⊢
    split at f
    · rename_i zs he
      obtain ⟨vs, h1, h2⟩ := rh.lst he ep
      refine ⟨_, rfl, .inl ⟨vs, SqL.of h1, ?_⟩, Fin.self f rh⟩
      cases h2 <;> rfl
    · rename_i zs he
      obtain ⟨vs, h1, h2⟩ := rh.fro he ep
      refine ⟨_, rfl, .inl ⟨vs, h1, ?_⟩, Fin.self f rh⟩
      cases h2 <;> rfl
    · rename_i kvs he
      obtain ⟨kws, h1, h2⟩ := rh.dct he ep
      refine ⟨_, rfl, .inr (.inr ⟨kws, h1, ?_⟩), Fin.self f rh⟩
      cases h2 <;> rfl
    · exact f.elim
/-- a test: an expression, then its truth -/
noncomputable abbrev mTst (m : Ev → Mh → Res Z) : Ev → Mh → Res Bool := fun ρ h => (m ρ h).bind fun x h => zTru x h
theorem lt_truth {a : Expr} {m : Ev → Mh → Res Z} (ha : PE X a (tOf T X.K m)) (he : ∀ whole, isTrue a X.env whole = (do let v ← whole; standAt a.pos; holding [v] (truthy v))) : PT X a (tOfB T X.K (mTst m)) := by
  refine PT.imp (pt_truth ha he) fun σ H Q h => tOf_bindB (g := fun _ x h => zTru x h) h fun as h1 ρ z v H1 r1 re q f => ?_
  obtain ⟨k, _, t, q⟩ := zTru_inv r1 q f
  exact ⟨k, t, q⟩
/-- an expression that gives a truth value -/
def BlOnly (m : Ev → Mh → Res Z) : Prop := ∀ ρ h z h', m ρ h = .ok z h' → ∃ b, z = .bl b
theorem tB_of {m : Ev → Mh → Res Z} (hb : BlOnly m) {σ : L2.St} {H : Hp} {Q : Bool → Hp → Prop} (h : tOfB T K (mTst m) σ H Q) : tOf T K m σ H fun x H' => ∃ k, x = .bl k ∧ Q k H' := by
  obtain ⟨as, h0, ρ, rh, re, f⟩ := h
  refine ⟨as, h0, ρ, rh, re, ?_⟩
  cases e : m ρ h0 with
  | stuck => rw [mTst, e] at f; exact f.elim
  | ok z h1 =>
    obtain ⟨b, rfl⟩ := hb ρ h0 z h1 e
    simp only [mTst, e, Res.bind_ok, zTru] at f
    intro as1 H1 e1 r1 v q
    exact ⟨b, q.bl_inv, f as1 H1 e1 r1⟩
theorem lt_cmp {op : CmpOp} {g : Z → Z → Mh → Res Z} {a b : Expr} {ma mb : Ev → Mh → Res Z} {pos : Pos} (ho : OpR X (compareOp op) (rOp T X.K g)) (hg : ∀ x y h z h', g x y h = .ok z h' → ∃ b, z = .bl b) (ha : PE X a (tOf T X.K ma)) (hb : PE X b (tOf T X.K mb)) (hm : behindInMarks op b = false) :
    PT X (.Compare a [op] [b] pos) (tOfB T X.K (mTst fun ρ h => (ma ρ h).bind fun x h => (mb ρ h).bind fun y h => g x y h)) := by
  refine PT.imp (pt_cmpR ho ha hb hm) fun σ H Q h => tOf_bind2 (tB_of (fun ρ h z h' e => ?_) h)
  cases e1 : ma ρ h with
  | stuck => rw [e1] at e; cases e
  | ok x h1 =>
    rw [e1, Res.bind_ok] at e
    cases e2 : mb ρ h1 with
    | stuck => rw [e2] at e; cases e
    | ok y h2 =>
      rw [e2, Res.bind_ok] at e
      exact hg x y h2 z h' e
noncomputable abbrev mChain (g g' : Z → Z → Mh → Res Z) (ma mb mc : Ev → Mh → Res Z) : Ev → Mh → Res Z := fun ρ h => (ma ρ h).bind fun x h => (mb ρ h).bind fun y h => (g x y h).bind fun k h => match k with
  | .bl true => (mc ρ h).bind fun z h => g' y z h
  | .bl false => .ok (.bl false) h
  | _ => .stuck
theorem chain_imp {g g' : Z → Z → Mh → Res Z} {ma mb mc : Ev → Mh → Res Z} {σ : L2.St} {H : Hp} {Q : VK} (h : tOf T K (mChain g g' ma mb mc) σ H Q) : tChain (rOp T K g) (rOp T K g') (tOf T K ma) (tOf T K mb) (tOf T K mc) σ H Q := by
  refine tOf_bind (g := fun ρ x h => (mb ρ h).bind fun y h => (g x y h).bind fun k h => match k with
    | .bl true => (mc ρ h).bind fun z h => g' y z h
    | .bl false => .ok (.bl false) h
    | _ => .stuck) h fun as h1 ρ x v H1 r1 re q f => ?_
  refine ⟨as, h1, ρ, r1, re, f.bind.mono fun y h2 as2 H2 e2 r2 ⟨_, _, f2⟩ w q2 => ?_⟩
  refine ⟨as2, h2, x, y, r2, q.mono e2, q2, f2.bind.mono fun k h3 as3 H3 e3 r3 ⟨_, _, f3⟩ z q3 => ?_⟩
  obtain ⟨b, rfl⟩ : ∃ b, k = .bl b := by
    cases k with
    | bl b => exact ⟨b, rfl⟩
    | _ => exact f3.elim
  refine ⟨b, q3.bl_inv, ?_⟩
  cases b with
  | true =>
    rw [if_pos rfl]
    exact ⟨as3, h3, ρ, r3, re.mono (e2.trans e3), f3.bind.mono fun z h4 as4 H4 e4 r4 ⟨_, _, f4⟩ w4 q4 => ⟨as4, h4, y, z, r4, q2.mono (e3.trans e4), q4, f4⟩⟩
  | false =>
    rw [if_neg Bool.false_ne_true]
    exact FinV.self f3 r3 (.bl false)
theorem le_chain {op op' : CmpOp} {g g' : Z → Z → Mh → Res Z} {a b c : Expr} {ma mb mc : Ev → Mh → Res Z} {pos : Pos} (ho : OpR X (compareOp op) (rOp T X.K g)) (ho' : OpR X (compareOp op') (rOp T X.K g')) (ha : PE X a (tOf T X.K ma)) (hb : PE X b (tOf T X.K mb)) (hc : PE X c (tOf T X.K mc))
    (hm : lastMarks [op, op'] [b, c] = false) : PE X (.Compare a [op, op'] [b, c] pos) (tOf T X.K (mChain g g' ma mb mc)) := PE.imp (pe_chain ho ho' ha hb hc hm) fun _ _ _ h => chain_imp h
theorem lt_chain {op op' : CmpOp} {g g' : Z → Z → Mh → Res Z} {a b c : Expr} {ma mb mc : Ev → Mh → Res Z} {pos : Pos} (ho : OpR X (compareOp op) (rOp T X.K g)) (ho' : OpR X (compareOp op') (rOp T X.K g')) (hg : ∀ x y h z h', g' x y h = .ok z h' → ∃ b, z = .bl b)
    (ha : PE X a (tOf T X.K ma)) (hb : PE X b (tOf T X.K mb)) (hc : PE X c (tOf T X.K mc)) (hm : lastMarks [op, op'] [b, c] = false) : PT X (.Compare a [op, op'] [b, c] pos) (tOfB T X.K (mTst (mChain g g' ma mb mc))) := by
  refine PT.imp (pt_chain ho ho' ha hb hc hm) fun σ H Q h => chain_imp (tB_of (fun ρ h z h' e => ?_) h)
  simp only [mChain] at e
  cases e1 : ma ρ h with
  | stuck => rw [e1] at e; cases e
  | ok x h1 =>
    rw [e1, Res.bind_ok] at e
    cases e2 : mb ρ h1 with
    | stuck => rw [e2] at e; cases e
    | ok y h2 =>
      rw [e2, Res.bind_ok] at e
      cases e3 : g x y h2 with
      | stuck => rw [e3] at e; cases e
      | ok k h3 =>
        rw [e3, Res.bind_ok] at e
        cases k <;> try cases e
        rename_i b
        cases b with
        | false => cases e; exact ⟨_, rfl⟩
        | true =>
          cases e4 : mc ρ h3 with
          | stuck => simp only [e4] at e; cases e
          | ok w h4 =>
            simp only [e4, Res.bind_ok] at e
            exact hg y w h4 z h' e
/-! ### and, or, not, if -/
noncomputable abbrev mAnd (ma mb : Ev → Mh → Res Z) : Ev → Mh → Res Z := fun ρ h => (ma ρ h).bind fun x h => (zTru x h).bind fun t h => if t then mb ρ h else .ok x h
noncomputable abbrev mOr (ma mb : Ev → Mh → Res Z) : Ev → Mh → Res Z := fun ρ h => (ma ρ h).bind fun x h => (zTru x h).bind fun t h => if t then .ok x h else mb ρ h
noncomputable abbrev mNot (ma : Ev → Mh → Res Z) : Ev → Mh → Res Z := fun ρ h => (ma ρ h).bind fun x h => (zTru x h).bind fun t h => .ok (.bl (!t)) h
variable {a b c : Expr} {ma mb mc : Ev → Mh → Res Z} {rest : List Expr} {pos : Pos}
theorem le_and (ha : PE X a (tOf T X.K ma)) (hb : PE X (.BoolOp .And (b :: rest) pos) (tOf T X.K mb)) : PE X (.BoolOp .And (a :: b :: rest) pos) (tOf T X.K (mAnd ma mb)) := by
  refine PE.imp (pe_andT ha hb) fun σ H Q h => tOf_bind (g := fun ρ x h => (zTru x h).bind fun t h => if t then mb ρ h else .ok x h) h fun as h1 ρ x v H1 r1 re q f => ?_
  obtain ⟨k, _, t, _, _, f⟩ := zTru_inv r1 q f.bind
  refine ⟨k, t, ?_⟩
  cases k with
  | true => exact ⟨as, h1, ρ, r1, re, f⟩
  | false => exact FinV.self f r1 q
theorem le_or (ha : PE X a (tOf T X.K ma)) (hb : PE X (.BoolOp .Or (b :: rest) pos) (tOf T X.K mb)) : PE X (.BoolOp .Or (a :: b :: rest) pos) (tOf T X.K (mOr ma mb)) := by
  refine PE.imp (pe_orT ha hb) fun σ H Q h => tOf_bind (g := fun ρ x h => (zTru x h).bind fun t h => if t then .ok x h else mb ρ h) h fun as h1 ρ x v H1 r1 re q f => ?_
  obtain ⟨k, _, t, _, _, f⟩ := zTru_inv r1 q f.bind
  refine ⟨k, t, ?_⟩
  cases k with
  | false => exact ⟨as, h1, ρ, r1, re, f⟩
  | true => exact FinV.self f r1 q
theorem le_not (ha : PE X a (tOf T X.K ma)) : PE X (.UnaryOp .Not a pos) (tOf T X.K (mNot ma)) := by
  refine PE.imp (pe_notT ha) fun σ H Q h => tOf_bind (g := fun ρ x h => (zTru x h).bind fun t h => .ok (.bl (!t)) h) h fun as h1 ρ x v H1 r1 re q f => ?_
  obtain ⟨k, _, t, _, _, f⟩ := zTru_inv r1 q f.bind
  exact ⟨k, t, FinV.self f r1 (.bl _)⟩
theorem tOfB_then {m : Ev → Mh → Res Bool} {g : Ev → Bool → Mh → Res Z} {σ : L2.St} {H : Hp} {Q : VK} {R : Bool → Hp → Prop}
    (h : tOf T K (fun ρ h => (m ρ h).bind fun t h => g ρ t h) σ H Q) (k : ∀ as h ρ t H', RH T K as H' h → RE K as H' σ ρ → FinV T K as H' Q (g ρ t h) → R t H') : tOfB T K m σ H R := by
  obtain ⟨as, h0, ρ, rh, re, f⟩ := h
  exact ⟨as, h0, ρ, rh, re, f.bind.mono fun t h2 as2 H2 e2 r2 ⟨_, _, f2⟩ => k as2 h2 ρ t H2 r2 (re.mono e2) f2⟩
theorem tOfB_bindB {m : Ev → Mh → Res Bool} {g : Ev → Bool → Mh → Res Bool} {σ : L2.St} {H : Hp} {Q : Bool → Hp → Prop} {R : Bool → Hp → Prop}
    (h : tOfB T K (fun ρ h => (m ρ h).bind fun t h => g ρ t h) σ H Q) (k : ∀ as h ρ t H', RH T K as H' h → RE K as H' σ ρ → Fin T K as H' (fun b _ _ H' => Q b H') (g ρ t h) → R t H') : tOfB T K m σ H R := by
  obtain ⟨as, h0, ρ, rh, re, f⟩ := h
  exact ⟨as, h0, ρ, rh, re, f.bind.mono fun t h2 as2 H2 e2 r2 ⟨_, _, f2⟩ => k as2 h2 ρ t H2 r2 (re.mono e2) f2⟩
variable {xa xb xc : Ev → Mh → Res Bool}
noncomputable abbrev mIte (xc : Ev → Mh → Res Bool) (ma mb : Ev → Mh → Res Z) : Ev → Mh → Res Z := fun ρ h => (xc ρ h).bind fun t h => if t then ma ρ h else mb ρ h
theorem le_ite (hc : PT X c (tOfB T X.K xc)) (ha : PE X a (tOf T X.K ma)) (hb : PE X b (tOf T X.K mb)) : PE X (.IfExp c a b pos) (tOf T X.K (mIte xc ma mb)) := by
  refine PE.imp (pe_ifExp hc ha hb) fun σ H Q h => tOfB_then (g := fun ρ t h => if t then ma ρ h else mb ρ h) h fun as h1 ρ t H1 r1 re f => ?_
  cases t with
  | true => exact ⟨as, h1, ρ, r1, re, f⟩
  | false => exact ⟨as, h1, ρ, r1, re, f⟩
noncomputable abbrev xAnd (xa xb : Ev → Mh → Res Bool) : Ev → Mh → Res Bool := fun ρ h => (xa ρ h).bind fun t h => if t then xb ρ h else .ok false h
noncomputable abbrev xOr (xa xb : Ev → Mh → Res Bool) : Ev → Mh → Res Bool := fun ρ h => (xa ρ h).bind fun t h => if t then .ok true h else xb ρ h
noncomputable abbrev xNot (xa : Ev → Mh → Res Bool) : Ev → Mh → Res Bool := fun ρ h => (xa ρ h).bind fun t h => .ok (!t) h
theorem lw_and (ha : PT X a (tOfB T X.K xa)) (hb : PW X (.BoolOp .And (b :: rest) pos) (tOfB T X.K xb)) : PW X (.BoolOp .And (a :: b :: rest) pos) (tOfB T X.K (xAnd xa xb)) := by
  refine ⟨fun wh pins s σ H Q I q => (pw_and ha hb).run wh pins s σ H Q I ?_⟩
  refine tOfB_bindB (g := fun ρ t h => if t then xb ρ h else .ok false h) q fun as h1 ρ t H1 r1 re f => ?_
  cases t with
  | true => rw [if_pos rfl]; exact ⟨as, h1, ρ, r1, re, f⟩
  | false => rw [if_neg Bool.false_ne_true]; exact Fin.self f r1
theorem lw_or (ha : PT X a (tOfB T X.K xa)) (hb : PW X (.BoolOp .Or (b :: rest) pos) (tOfB T X.K xb)) : PW X (.BoolOp .Or (a :: b :: rest) pos) (tOfB T X.K (xOr xa xb)) := by
  refine ⟨fun wh pins s σ H Q I q => (pw_or ha hb).run wh pins s σ H Q I ?_⟩
  refine tOfB_bindB (g := fun ρ t h => if t then .ok true h else xb ρ h) q fun as h1 ρ t H1 r1 re f => ?_
  cases t with
  | false => rw [if_neg Bool.false_ne_true]; exact ⟨as, h1, ρ, r1, re, f⟩
  | true => rw [if_pos rfl]; exact Fin.self f r1
theorem lt_not (ha : PT X a (tOfB T X.K xa)) : PT X (.UnaryOp .Not a pos) (tOfB T X.K (xNot xa)) :=
  PT.imp (pt_not ha) fun σ H Q h => tOfB_bindB (g := fun ρ t h => .ok (!t) h) h fun as h1 ρ t H1 r1 re f => Fin.self f r1

/-! ### names, constants, displays -/
theorem le_var {i : Nat} {x : Str} (hN : X.N[i]? = some x) (hv : Vis X.env.scope x) (hd : (x == ("__debug__" : Str)) = false) (hcd : (x == ("__classdict__" : Str)) = false) :
    PE X (.Name x pos) (tOf T X.K fun ρ h => match ρ[i]? with | some (some z) => .ok z h | _ => .stuck) := by
  refine PE.imp (pe_var hN hv hd hcd) fun σ H Q h => ?_
  obtain ⟨as, h0, ρ, rh, re, f⟩ := h
  dsimp only at f
  split at f
  · rename_i z e
    obtain ⟨v, e1, q⟩ := re.at_ i z e
    exact ⟨v, e1, FinV.self f rh q⟩
  · exact f.elim
theorem le_lit {e : Expr} {z : Z} {v : V} (he : PE X e (tC v)) (r : ∀ as H, RZ X.K as H z v) : PE X e (tOf T X.K fun _ h => .ok z h) := by
  refine PE.imp he fun σ H Q h => ?_
  obtain ⟨as, h0, ρ, rh, re, f⟩ := h
  exact FinV.self f rh (r as H)
theorem la_nil : PA X [] (tOfA T X.K fun _ h => .ok [] h) := by
  refine PA.imp pa_nil fun σ H Q h => ?_
  obtain ⟨as, h0, ρ, rh, re, f⟩ := h
  exact Fin.self f rh [] .nil
noncomputable abbrev mCons (m : Ev → Mh → Res Z) (ms : Ev → Mh → Res (List Z)) : Ev → Mh → Res (List Z) := fun ρ h => (m ρ h).bind fun x h => (ms ρ h).bind fun xs h => .ok (x :: xs) h
theorem la_cons {e : Expr} {es : List Expr} {m : Ev → Mh → Res Z} {ms : Ev → Mh → Res (List Z)} (he : PE X e (tOf T X.K m)) (hes : PA X es (tOfA T X.K ms)) (hs : starEach (e :: es) X.env = (false, eval e X.env) :: starEach es X.env) : PA X (e :: es) (tOfA T X.K (mCons m ms)) := by
  refine PA.imp (pa_cons he hes hs) fun σ H Q h => ?_
  obtain ⟨as, h0, ρ, rh, re, f⟩ := h
  refine ⟨as, h0, ρ, rh, re, f.bind.mono fun x h1 as1 H1 e1 r1 ⟨_, _, f1⟩ v q => ?_⟩
  refine ⟨as1, h1, ρ, r1, re.mono e1, f1.bind.mono fun xs h2 as2 H2 e2 r2 ⟨_, _, f2⟩ vs qs => ?_⟩
  exact Fin.self f2 r2 (v :: vs) (.cons (q.mono e2) qs)
/-- arguments, then something with them -/
theorem tOfA_then {ms : Ev → Mh → Res (List Z)} {g : Ev → List Z → Mh → Res Z} {σ : L2.St} {H : Hp} {Q : VK} {R : List V → Hp → Prop}
    (h : tOf T K (fun ρ h => (ms ρ h).bind fun xs h => g ρ xs h) σ H Q) (k : ∀ as h ρ xs vs H', RH T K as H' h → RE K as H' σ ρ → RZs K as H' xs vs → FinV T K as H' Q (g ρ xs h) → R vs H') : tOfA T K ms σ H R := by
  obtain ⟨as, h0, ρ, rh, re, f⟩ := h
  exact ⟨as, h0, ρ, rh, re, f.bind.mono fun xs h1 as1 H1 e1 r1 ⟨_, _, f1⟩ vs q => k as1 h1 ρ xs vs H1 r1 (re.mono e1) q f1⟩
theorem le_tup {es : List Expr} {ms : Ev → Mh → Res (List Z)} {x1 : Nat} (h : PA X es (tOfA T X.K ms)) : PE X (.Tuple es x1 pos) (tOf T X.K fun ρ h => (ms ρ h).bind fun xs h => guard (xs.length ≤ sizeLine) (.ok (.tup xs) h)) := by
  refine PE.imp (pe_tup h) fun σ H Q h => tOfA_then (g := fun _ xs h => guard (xs.length ≤ sizeLine) (.ok (.tup xs) h)) h fun as h1 ρ xs vs H1 r1 re q f => ?_
  obtain ⟨c, f⟩ := Fin.guard f
  exact ⟨by rw [← q.length]; exact c, fun p hp => FinV.newT f r1 q hp⟩
theorem le_lst {es : List Expr} {ms : Ev → Mh → Res (List Z)} (h : PA X es (tOfA T X.K ms)) : PE X (.List es pos) (tOf T X.K fun ρ h => (ms ρ h).bind fun xs h => guard (xs.length ≤ sizeLine) (newL h xs)) := by
  refine PE.imp (pe_lst h) fun σ H Q h => tOfA_then (g := fun _ xs h => guard (xs.length ≤ sizeLine) (newL h xs)) h fun as h1 ρ xs vs H1 r1 re q f => ?_
  obtain ⟨c, f⟩ := Fin.guard f
  exact ⟨by rw [← q.length]; exact c, fun p hp => FinV.newL f r1 q hp⟩
theorem le_dct0 : PE X (.Dict [] [] pos) (tOf T X.K fun _ h => .ok (.ob h.length) (h ++ [.dct []])) := by
  refine PE.imp pe_dnewK fun σ H Q h p hp => ?_
  obtain ⟨as, h0, ρ, rh, re, f⟩ := h
  exact FinV.newD f rh hp

/-! ### subscripts, slices -/
theorem atI_RZ {as : List Addr} {H : Hp} {zs : List Z} {vs : List V} {i : Int} {z : Z} (r : RZs K as H zs vs) (e : atI zs i = some z) : ∃ v, atI vs i = some v ∧ RZ K as H z v := by
  unfold atI at e ⊢
  rw [← r.length]
  cases q : ixN zs.length i with
  | none => rw [q] at e; cases e
  | some j =>
    rw [q] at e
    obtain ⟨v, h1, h2⟩ := r.get (i := j) e
    exact ⟨v, h1, h2⟩
theorem oRes_inv {α : Type} {as : List Addr} {H : Hp} {h : Mh} {Q : α → Mh → List Addr → Hp → Prop} {o : Option α} (f : Fin T K as H Q (oRes o h)) : ∃ x, o = some x ∧ Fin T K as H Q (.ok x h) := by
  cases o with
  | none => exact f.elim
  | some x => exact ⟨x, rfl, f⟩
theorem ix_dict (hu : X.A.units + 1 < cLine) : IxR X (fun x y H Q => ∃ a v, x = .ref a ∧ DGet H a y (some v) ∧ Q v H) := by
  intro value slice pins s σ H x y v u Q I rx ry h hs
  obtain ⟨a, w, e, g, q⟩ := h
  subst e
  obtain rfl : v = Value.ref a := rx
  have hT := dict_typeIs I g
  unfold subscriptTail
  refine wpAny_bind ?_
  rw [getitemInPython_of_ne hT.not_modules]
  refine wpAny_bind (wpAny_specialOf hT PySem.F.slot_dict_getitem.lookup ?_)
  have h₂ : wpAny (model X.prog X.w) X.A (getItem (.ref a) u) (EP X pins σ Q) X.xe s := d_getItem hu I g ry fun w' s3 I3 rw' => ⟨w, H, I3, rw', q⟩
  have fin : wpAny (model X.prog X.w) X.A (subscripted slice false (.ref a) u) (fun r s₃ => wpAny (model X.prog X.w) X.A (letTemporaryGo value (.ref a) r >>= fun _ => pure r) (EP X pins σ Q) X.xe s₃) X.xe s := by
    rw [hs]
    exact wpAny_operating (wpAny_mono h₂ (fun r s₃ h₃ => wpAny_bind (wpAny_letTemporaryGo (wpAny_pure h₃))) fun _ _ x => x)
  first
    | exact wpAny_pure (wpAny_bind fin)
    | exact wpAny_bind (wpAny_pure (wpAny_bind fin))
    | exact wpAny_bind fin
theorem iz_idx (hu : X.A.units + 1 < cLine) : IxR X (rOp T X.K zIdx) := by
  intro value slice pins s σ H x y v u Q I rx ry ⟨as, h, a, b, rh, ra, rb, f⟩ hs
  cases a <;> first | exact f.elim | skip
  · rename_i zs
    simp only [zIdx] at f
    cases b <;> first | exact f.elim | skip
    rename_i i
    obtain ⟨z, e, f⟩ := oRes_inv f
    obtain ⟨p, vs, rfl, h1, h2⟩ := ra.tup_inv
    obtain ⟨w, e1, q⟩ := atI_RZ h2 e
    exact ix_tup value slice pins s σ H _ y v u Q I rx ry ⟨p, vs, i, w, rfl, rb.int_inv, h1, e1, FinV.self f rh q⟩ hs
  · rename_i n
    simp only [zIdx] at f
    obtain ⟨p, rfl, ep⟩ := ra.ob_inv
    split at f
    · rename_i kvs he
      split at f
      · rename_i k hk
        obtain ⟨z, e, f⟩ := oRes_inv f
        obtain ⟨kws, h1, h2⟩ := rh.dct he ep
        rcases h2.val (k := k) with ⟨e1, _⟩ | ⟨z', w, e1, e2, q⟩
        · rw [e] at e1; cases e1
        · rw [e] at e1
          cases e1
          refine ix_dict hu value slice pins s σ H _ y v u Q I rx ry ⟨p, w, rfl, ?_, FinV.self f rh q⟩ hs
          rw [keyZ_kV hk rb, ← e2]
          exact DGet.k h1
      · exact f.elim
    · rename_i zs he
      cases b <;> first | exact f.elim | skip
      rename_i i
      obtain ⟨z, e, f⟩ := oRes_inv f
      obtain ⟨vs, h1, h2⟩ := rh.lst he ep
      obtain ⟨w, e1, q⟩ := atI_RZ h2 e
      exact ix_list value slice pins s σ H _ y v u Q I rx ry ⟨p, vs, i, w, rfl, rb.int_inv, SqL.of h1, e1, FinV.self f rh q⟩ hs
    · rename_i zs he
      cases b <;> first | exact f.elim | skip
      rename_i i
      obtain ⟨z, e, f⟩ := oRes_inv f
      obtain ⟨vs, h1, h2⟩ := rh.fro he ep
      obtain ⟨w, e1, q⟩ := atI_RZ h2 e
      exact ix_list value slice pins s σ H _ y v u Q I rx ry ⟨p, vs, i, w, rfl, rb.int_inv, h1, e1, FinV.self f rh q⟩ hs
    · exact f.elim
theorem le_idx (hu : X.A.units + 1 < cLine) (ha : PE X a (tOf T X.K ma)) (hb : PE X b (tOf T X.K mb)) (hs : PlainIx b) : PE X (.Subscript a b pos) (tOf T X.K fun ρ h => (ma ρ h).bind fun x h => (mb ρ h).bind fun y h => zIdx x y h) :=
  PE.imp (pe_ix (iz_idx hu) ha hb hs) fun _ _ _ h => tOf_bind2 h
theorem cutZ_cut {as : List Addr} {H : Hp} {zs : List Z} {vs : List V} (r : RZs K as H zs vs) (lo hi : Option Int) : RZs K as H (cutZ zs lo hi) (cutV vs lo hi) := by
  unfold cutZ cutV
  rw [r.length]
  exact (r.drop _).take _
def rSl (T : Tb) (K : PySem.W.Frag) : V → Option Int → Option Int → Hp → VK → Prop := fun x lo hi H Q => ∃ as h z, RH T K as H h ∧ RZ K as H z x ∧ FinV T K as H Q (zSlc z lo hi h)
theorem sz_slc : SlR X (rSl T X.K) := by
  intro pins s σ H x v vl vu lo hi sl Q I rx hs pl pu ⟨as, h, z, rh, r, f⟩
  cases z <;> first | exact f.elim | skip
  · rename_i zs
    obtain ⟨p, vs, rfl, h1, h2⟩ := r.tup_inv
    refine sl_tupA pins s σ H _ v vl vu lo hi sl Q I rx hs pl pu ⟨p, vs, rfl, h1, fun hw => ?_, fun _ q hq => ?_⟩
    · have e : cutZ zs lo hi = zs := by
        unfold cutZ
        rw [h2.length, hw.1, hw.2, List.drop_zero, Nat.sub_zero, ← h2.length, List.take_length]
      have f' : FinV T X.K as H Q (.ok (.tup (cutZ zs lo hi)) h) := f
      rw [e] at f'
      exact FinV.self f' rh r
    · exact FinV.newT f rh (cutZ_cut h2 lo hi) hq
  · rename_i n
    obtain ⟨p, rfl, ep⟩ := r.ob_inv
    simp only [zSlc] at f
    split at f
    · rename_i zs he
      obtain ⟨vs, h1, h2⟩ := rh.lst he ep
      exact sl_list pins s σ H _ v vl vu lo hi sl Q I rx hs pl pu ⟨p, vs, rfl, SqL.of h1, fun q hq => FinV.newL f rh (cutZ_cut h2 lo hi) hq⟩
    · rename_i zs he
      obtain ⟨vs, h1, h2⟩ := rh.fro he ep
      exact sl_list pins s σ H _ v vl vu lo hi sl Q I rx hs pl pu ⟨p, vs, rfl, h1, fun q hq => FinV.newL f rh (cutZ_cut h2 lo hi) hq⟩
    · exact f.elim
def tOfP (T : Tb) (K : PySem.W.Frag) (m : Ev → Mh → Res (Option Int)) : TO := fun σ H Q => ∃ as h ρ, RH T K as H h ∧ RE K as H σ ρ ∧ Fin T K as H (fun o _ _ H' => Q o H') (m ρ h)
theorem PO.imp {e : Option Expr} {t t' : TO} (h : PO X e t) (i : ∀ σ H Q, t' σ H Q → t σ H Q) : PO X e t' := ⟨fun pins s σ H Q I q => h.run pins s σ H Q I (i σ H Q q)⟩
theorem lp_none : PO X none (tOfP T X.K fun _ h => .ok none h) := by
  refine PO.imp po_none fun σ H Q h => ?_
  obtain ⟨as, h0, ρ, rh, re, f⟩ := h
  exact Fin.self f rh
theorem lp_some {e : Expr} {m : Ev → Mh → Res Z} (he : PE X e (tOf T X.K m)) : PO X (some e) (tOfP T X.K fun ρ h => (m ρ h).bind fun x h => match x with | .int i => .ok (some i) h | _ => .stuck) := by
  refine PO.imp (po_some he) fun σ H Q h => ?_
  obtain ⟨as, h0, ρ, rh, re, f⟩ := h
  refine ⟨as, h0, ρ, rh, re, f.bind.mono fun x h1 as1 H1 e1 r1 ⟨_, _, f1⟩ v q => ?_⟩
  cases x <;> first | exact f1.elim | skip
  exact ⟨_, q.int_inv, Fin.self f1 r1⟩
theorem le_slc {lo hi : Option Expr} {ml mh : Ev → Mh → Res (Option Int)} {p2 : Pos} (ha : PE X a (tOf T X.K ma)) (hl : PO X lo (tOfP T X.K ml)) (hh : PO X hi (tOfP T X.K mh)) :
    PE X (.Subscript a (.Slice lo hi none p2) pos) (tOf T X.K fun ρ h => (ma ρ h).bind fun x h => (ml ρ h).bind fun l h => (mh ρ h).bind fun u h => zSlc x l u h) := by
  refine PE.imp (pe_slice (sz_slc (T := T)) ha hl hh) fun σ H Q h => tOf_bind (g := fun ρ x h => (ml ρ h).bind fun l h => (mh ρ h).bind fun u h => zSlc x l u h) h fun as h1 ρ x v H1 r1 re q f => ?_
  refine ⟨as, h1, ρ, r1, re, f.bind.mono fun l h2 as2 H2 e2 r2 ⟨_, _, f2⟩ => ?_⟩
  exact ⟨as2, h2, ρ, r2, re.mono e2, f2.bind.mono fun u h3 as3 H3 e3 r3 ⟨_, _, f3⟩ => ⟨as3, h3, x, r3, q.mono (e2.trans e3), f3⟩⟩
end Zm
namespace Zm
open PySem PySem.Spec PyProof.Rows L2
variable {T : Tb} {X : Cx} {K : PySem.W.Frag}

/-! ### built-in functions by values -/
theorem CallR.or {f : Value} {r r' : List V → Hp → VK → Prop} (h : CallR X f r) (h' : CallR X f r') : CallR X f (fun xs H Q => r xs H Q ∨ r' xs H Q) := by
  intro pins s σ H xs us Q I rs q
  rcases q with q | q
  · exact h pins s σ H xs us Q I rs q
  · exact h' pins s σ H xs us Q I rs q
theorem CallR.imp {f : Value} {r r' : List V → Hp → VK → Prop} (h : CallR X f r) (i : ∀ xs H Q, r' xs H Q → r xs H Q) : CallR X f r' := fun pins s σ H xs us Q I rs q => h pins s σ H xs us Q I rs (i xs H Q q)
theorem one_inv {α : Type} {as : List Addr} {H : Hp} {zs : List Z} {xs : List V} {z : Z} (e : zs = [z]) (r : RZs K as H zs xs) : ∃ v, xs = [v] ∧ RZ K as H z v := by
  subst e
  cases r with
  | cons r1 r2 => cases r2; exact ⟨_, rfl, r1⟩
theorem RZs.one {as : List Addr} {H : Hp} {z : Z} {xs : List V} (r : RZs K as H [z] xs) : ∃ v, xs = [v] ∧ RZ K as H z v := by
  cases r with
  | cons r1 r2 => cases r2; exact ⟨_, rfl, r1⟩
theorem RZs.two {as : List Addr} {H : Hp} {z y : Z} {xs : List V} (r : RZs K as H [z, y] xs) : ∃ v u, xs = [v, u] ∧ RZ K as H z v ∧ RZ K as H y u := by
  cases r with
  | cons r1 r2 =>
    cases r2 with
    | cons r3 r4 => cases r4; exact ⟨_, _, rfl, r1, r3⟩
theorem RZs.nil_inv {as : List Addr} {H : Hp} {xs : List V} (r : RZs K as H [] xs) : xs = [] := by cases r; rfl
theorem RKs.length {as : List Addr} {H : Hp} {x : List (Key × Z)} {y : List (Key × V)} (r : RKs K as H x y) : x.length = y.length := Paired.length r
theorem cz_len : CallR X (.builtin "len") (rCl T X.K (zBF .len)) := by
  refine CallR.imp (CallR.or call_len call_lenD) fun xs H Q ⟨as, h, zs, rh, r, f⟩ => ?_
  unfold zBF at f
  split at f <;> try exact f.elim
  all_goals rename_i heq
  all_goals try (cases heq; done)
  rename_i z _
  obtain ⟨v, rfl, q⟩ := r.one
  split at f
  · obtain ⟨c, f⟩ := Fin.guard f
    rw [q.str_inv]
    exact .inl ⟨_, _, rfl, ⟨c, rfl⟩, FinV.self f rh (.int _)⟩
  · obtain ⟨p, vs, rfl, h1, h2⟩ := q.tup_inv
    exact .inl ⟨_, vs.length, rfl, .inr ⟨vs, h1, rfl⟩, by rw [← h2.length]; exact FinV.self f rh (.int _)⟩
  · obtain ⟨p, rfl, ep⟩ := q.ob_inv
    split at f
    · rename_i he
      obtain ⟨vs, h1, h2⟩ := rh.lst he ep
      exact .inl ⟨_, vs.length, rfl, .inl ⟨vs, SqL.of h1, rfl⟩, by rw [← h2.length]; exact FinV.self f rh (.int _)⟩
    · rename_i he
      obtain ⟨vs, h1, h2⟩ := rh.fro he ep
      exact .inl ⟨_, vs.length, rfl, .inl ⟨vs, h1, rfl⟩, by rw [← h2.length]; exact FinV.self f rh (.int _)⟩
    · rename_i he
      obtain ⟨kws, h1, h2⟩ := rh.dct he ep
      exact .inr ⟨p, kws, rfl, h1, by rw [← RKs.length h2]; exact FinV.self f rh (.int _)⟩
    · exact f.elim
  · exact f.elim
theorem cz_tuple : CallR X (.type "tuple") (rCl T X.K (zBF .tuple)) := by
  refine CallR.imp call_tuple_of fun xs H Q ⟨as, h, zs, rh, r, f⟩ => ?_
  unfold zBF at f
  split at f <;> try exact f.elim
  all_goals rename_i heq
  all_goals try (cases heq; done)
  rename_i z _
  obtain ⟨v, rfl, q⟩ := r.one
  split at f
  · rename_i ys e
    obtain ⟨p, vs, rfl, h1, h2⟩ := seqZ_inv rh e q
    refine ⟨p, vs, rfl, ?_⟩
    rcases h2 with ⟨hl, _⟩ | ⟨ht, _⟩
    · exact .inl ⟨hl, fun l hl => FinV.newT f rh h1 hl⟩
    · exact .inr ⟨ht, FinV.self f rh (.tup ht h1)⟩
  · exact f.elim
theorem cz_list : CallR X (.type "list") (rCl T X.K (zBF .list)) := by
  refine CallR.imp call_list_of fun xs H Q ⟨as, h, zs, rh, r, f⟩ => ?_
  unfold zBF at f
  split at f <;> try exact f.elim
  all_goals rename_i heq
  all_goals try (cases heq; done)
  rename_i z _
  obtain ⟨v, rfl, q⟩ := r.one
  split at f
  · rename_i ys e
    obtain ⟨p, vs, rfl, h1, h2⟩ := seqZ_inv rh e q
    refine ⟨p, vs, rfl, ?_, fun l hl => FinV.newL f rh h1 hl⟩
    rcases h2 with ⟨hl, _⟩ | ⟨ht, _⟩
    · exact .inl hl
    · exact .inr ht
  · exact f.elim
theorem cz_int : CallR X (.type "int") (rCl T X.K (zBF .int)) := by
  refine CallR.imp call_int1 fun xs H Q ⟨as, h, zs, rh, r, f⟩ => ?_
  unfold zBF at f
  split at f <;> try exact f.elim
  all_goals rename_i heq
  all_goals try (cases heq; done)
  rename_i z _
  obtain ⟨v, rfl, q⟩ := r.one
  split at f
  · rw [q.int_inv]
    exact .inl ⟨_, rfl, FinV.self f rh (.int _)⟩
  · rw [q.bl_inv]
    exact .inr ⟨_, rfl, FinV.self f rh (.int _)⟩
  · exact f.elim
theorem cz_min (hc : X.calm = true) : CallR X (.builtin "min") (rCl T X.K (zBF .min)) := by
  refine CallR.imp (call_min2 hc) fun xs H Q ⟨as, h, zs, rh, r, f⟩ => ?_
  unfold zBF at f
  split at f <;> try exact f.elim
  all_goals rename_i heq
  all_goals try (cases heq; done)
  obtain ⟨v, u, rfl, q1, q2⟩ := r.two
  rw [q1.int_inv, q2.int_inv]
  exact ⟨_, _, rfl, FinV.self f rh (.int _)⟩
theorem cz_max (hc : X.calm = true) : CallR X (.builtin "max") (rCl T X.K (zBF .max)) := by
  refine CallR.imp (call_max2 hc) fun xs H Q ⟨as, h, zs, rh, r, f⟩ => ?_
  unfold zBF at f
  split at f <;> try exact f.elim
  all_goals rename_i heq
  all_goals try (cases heq; done)
  obtain ⟨v, u, rfl, q1, q2⟩ := r.two
  rw [q1.int_inv, q2.int_inv]
  exact ⟨_, _, rfl, FinV.self f rh (.int _)⟩

/-! ### any, all, sorted -/
theorem truths_data {as : List Addr} {H : Hp} : ∀ {zs : List Z} {vs : List V} {bs : List Bool}, truths zs = some bs → RZs K as H zs vs →
    ∃ ds : List PyData, DpAll K H vs ds ∧ PyData.plainAll ds = true ∧ (∀ x ∈ ds, x.fits63) ∧ ds.map PyData.truthy = bs
  | [], _, bs, e, r => by
    cases e
    cases r
    exact ⟨[], .nil, rfl, by simp, rfl⟩
  | z :: zs, _, bs, e, r => by
    cases r with
    | @cons _ _ v vs r rs =>
      have key : ∀ (b : Bool) (d : PyData), (truths zs).map (b :: ·) = some bs → Dp K H v d → d.plain = true → d.fits63 → d.truthy = b → ∃ ds : List PyData, DpAll K H (v :: vs) ds ∧ PyData.plainAll ds = true ∧ (∀ x ∈ ds, x.fits63) ∧ ds.map PyData.truthy = bs := by
        intro b d e hd hp hf ht
        cases q : truths zs with
        | none => rw [q] at e; cases e
        | some bs' =>
          rw [q] at e
          cases e
          obtain ⟨ds, h1, h2, h3, h4⟩ := truths_data q rs
          refine ⟨d :: ds, .cons hd h1, ?_, fun x hx => ?_, ?_⟩
          · rw [PyData.plainAll, hp, h2]; rfl
          · rcases List.mem_cons.mp hx with rfl | hx
            · exact hf
            · exact h3 x hx
          · rw [List.map_cons, ht, h4]
      cases z <;> simp only [truths] at e <;> try cases e
      · exact key false .none e (by rw [r.non_inv]; exact .non) rfl trivial rfl
      · exact key _ (.bool _) e (by rw [r.bl_inv]; exact .bl _) rfl trivial rfl
      · exact key _ (.int _) e (by rw [r.int_inv]; exact .int _) rfl trivial rfl
theorem seq_reads {pins : List (Addr × Obj)} {σ : L2.St} {H : Hp} {s : Shared} {vs : List V} {ds : List PyData} {us : List Value} (I : Inv X pins σ H s) (h : DpAll X.K H vs ds) (r : Vals vs us) : ∃ as, ReadsAll s.heap us ds as := Dp.readsAll I ds vs us h r
theorem any_map (ds : List PyData) : (ds.map PyData.truthy).any id = ds.any PyData.truthy := by
  rw [List.any_map]
  rfl
theorem all_map (ds : List PyData) : (ds.map PyData.truthy).all id = ds.all PyData.truthy := by
  rw [List.all_map]
  rfl
theorem cz_any (hc : X.calm = true) : CallR X (.builtin "any") (rCl T X.K (zBF .any)) := by
  intro pins s σ H xs us Q I rs ⟨as, h, zs, rh, r, f⟩
  unfold zBF at f
  split at f <;> try exact f.elim
  all_goals rename_i heq
  all_goals try (cases heq; done)
  rename_i z _
  obtain ⟨v, rfl, q⟩ := r.one
  split at f
  · rename_i ys e
    split at f
    · rename_i bs eb
      obtain ⟨p, vs, rfl, h1, h2⟩ := seqZ_inv rh e q
      obtain rfl := Vals.ref1 rs
      obtain ⟨ds, d1, d2, d3, d4⟩ := truths_data eb h1
      have fin : Q (.bl (ds.any PyData.truthy)) H := by
        rw [← any_map, d4]
        exact FinV.self f rh (.bl _)
      rcases h2 with ⟨hl, _⟩ | ⟨ht, _⟩
      · obtain ⟨its, rv, pl, hz⟩ := I.list hl
        obtain ⟨as2, hr⟩ := seq_reads I d1 rv
        exact PySem.W.any_list_data (I.ok.hd hc) pl.isList (by simpa using hr) d2 d3 fun h' tk hk => ⟨.bl _, H, I.kept hk, rfl, fin⟩
      · obtain ⟨its, rv, pl, hz⟩ := I.tuple ht
        obtain ⟨as2, hr⟩ := seq_reads I d1 rv
        exact PySem.W.any_tuple_data (I.ok.hd hc) pl (by simpa using hr) d2 d3 fun h' tk hk => ⟨.bl _, H, I.kept hk, rfl, fin⟩
    · exact f.elim
  · exact f.elim
theorem cz_all (hc : X.calm = true) : CallR X (.builtin "all") (rCl T X.K (zBF .all)) := by
  intro pins s σ H xs us Q I rs ⟨as, h, zs, rh, r, f⟩
  unfold zBF at f
  split at f <;> try exact f.elim
  all_goals rename_i heq
  all_goals try (cases heq; done)
  rename_i z _
  obtain ⟨v, rfl, q⟩ := r.one
  split at f
  · rename_i ys e
    split at f
    · rename_i bs eb
      obtain ⟨p, vs, rfl, h1, h2⟩ := seqZ_inv rh e q
      obtain rfl := Vals.ref1 rs
      obtain ⟨ds, d1, d2, d3, d4⟩ := truths_data eb h1
      have fin : Q (.bl (ds.all PyData.truthy)) H := by
        rw [← all_map, d4]
        exact FinV.self f rh (.bl _)
      rcases h2 with ⟨hl, _⟩ | ⟨ht, _⟩
      · obtain ⟨its, rv, pl, hz⟩ := I.list hl
        obtain ⟨as2, hr⟩ := seq_reads I d1 rv
        exact PySem.W.all_list_data (I.ok.hd hc) pl.isList (by simpa using hr) d2 d3 fun h' tk hk => ⟨.bl _, H, I.kept hk, rfl, fin⟩
      · obtain ⟨its, rv, pl, hz⟩ := I.tuple ht
        obtain ⟨as2, hr⟩ := seq_reads I d1 rv
        exact PySem.W.all_tuple_data (I.ok.hd hc) pl (by simpa using hr) d2 d3 fun h' tk hk => ⟨.bl _, H, I.kept hk, rfl, fin⟩
    · exact f.elim
  · exact f.elim
theorem intsOf_eq : ∀ {zs : List Z} {ns : List Int}, intsOf zs = some ns → zs = ns.map Z.int
  | [], ns, e => by cases e; rfl
  | z :: zs, ns, e => by
    cases z <;> simp only [intsOf] at e <;> try cases e
    rename_i i
    cases q : intsOf zs with
    | none => rw [q] at e; cases e
    | some ms =>
      rw [q] at e
      cases e
      rw [intsOf_eq q]
      rfl
theorem keyInts_eq {as : List Addr} {H : Hp} : ∀ {kvs : List (Key × Z)} {kws : List (Key × V)} {ns : List Int}, keyInts kvs = some ns → RKs K as H kvs kws → kws.map (·.1) = ns.map Sum.inl
  | [], _, ns, e, .nil => by cases e; rfl
  | (k, z) :: kvs, (k2, v) :: kws, ns, e, .cons r rs => by
    obtain ⟨ek, _⟩ := r
    have ek : k = k2 := ek
    subst ek
    cases k with
    | inr x => simp only [keyInts] at e; cases e
    | inl i =>
      simp only [keyInts] at e
      cases q : keyInts kvs with
      | none => rw [q] at e; cases e
      | some ms =>
        rw [q] at e
        cases e
        rw [List.map_cons, List.map_cons, keyInts_eq q rs]
theorem sortI_perm (ns : List Int) : (sortI ns).Perm ns := List.mergeSort_perm _ _
theorem sortI_sorted (ns : List Int) : (sortI ns).Pairwise (· ≤ ·) := by
  have h := List.pairwise_mergeSort (le := fun a b : Int => decide (a ≤ b)) (fun a b c h1 h2 => by simp only [decide_eq_true_eq] at *; omega) (fun a b => by simp only [Bool.or_eq_true, decide_eq_true_eq]; omega) ns
  exact h.imp fun h => by simpa using h
theorem sorted_unique {xs ys : List Int} (p : xs.Perm ys) (h1 : xs.Pairwise (· ≤ ·)) (h2 : ys.Pairwise (· ≤ ·)) : xs = ys :=
  p.eq_of_pairwise (le := fun a b : Int => a ≤ b) (fun a b _ _ h3 h4 => Int.le_antisymm h3 h4) h1 h2
theorem cz_sorted (hc : X.calm = true) : CallR X (.builtin "sorted") (rCl T X.K (zBF .sorted)) := by
  refine CallR.imp (CallR.or cr_sortedI (call_sortedDI hc)) fun xs H Q ⟨as, h, zs, rh, r, f⟩ => ?_
  unfold zBF at f
  split at f <;> try exact f.elim
  all_goals rename_i heq
  all_goals try (cases heq; done)
  obtain ⟨v, rfl, q⟩ := r.one
  obtain ⟨p, rfl, ep⟩ := q.ob_inv
  split at f
  · rename_i ys he
    split at f
    · rename_i ns en
      obtain ⟨vs, h1, h2⟩ := rh.lst he ep
      rw [intsOf_eq en] at h2
      have e2 := RZs.ints_inv h2
      refine .inl ⟨p, ns, rfl, SqL.of (by rw [h1, e2]), fun ns' l pm sr hl => ?_⟩
      have e3 : ns' = sortI ns := sorted_unique (pm.trans (sortI_perm ns).symm) sr (sortI_sorted ns)
      rw [e3]
      exact FinV.newL f rh (RZs.ints _) hl
    · exact f.elim
  · rename_i kvs he
    split at f
    · rename_i ns en
      obtain ⟨c, f⟩ := Fin.guard f
      obtain ⟨kws, h1, h2⟩ := rh.dct he ep
      refine .inr ⟨p, kws, ns, rfl, .inl h1, keyInts_eq en h2, c, fun ns' l pm sr hl => ?_⟩
      have e3 : ns' = sortI ns := sorted_unique (pm.trans (sortI_perm ns).symm) sr (sortI_sorted ns)
      rw [e3]
      exact FinV.newL f rh (RZs.ints _) hl
    · exact f.elim
  · exact f.elim

/-! ### the greatest, the least of whole numbers -/
theorem ints_dp {H : Hp} : ∀ ns : List Int, DpAll K H (ns.map V.int) (ns.map PyData.int)
  | [] => .nil
  | n :: ns => .cons (.int n) (ints_dp ns)
theorem ints_alike (ns : List Int) : PySem.W.AlikeAll (ns.map PyData.int) := by
  refine ⟨fun x hx y hy => ?_, fun x hx e => ?_⟩
  · obtain ⟨a, _, rfl⟩ := List.mem_map.mp hx
    obtain ⟨b, _, rfl⟩ := List.mem_map.mp hy
    rfl
  · obtain ⟨a, _, rfl⟩ := List.mem_map.mp hx
    cases e
theorem ints_depth : ∀ ns : List Int, PyData.depthAll (ns.map PyData.int) ≤ 1
  | [] => by simp [PyData.depthAll]
  | n :: ns => by
    have := ints_depth ns
    simp only [List.map_cons, PyData.depthAll, PyData.depth]
    omega
theorem reads_int {h : Heap} {v : Value} {i : Int} {bs : List Addr} (r : Reads h v (.int i) bs) : ∃ t, v = .int i t := by
  cases r
  exact ⟨_, rfl⟩
theorem cz_max1 (hc : X.calm = true) (hu : X.A.units + 64 < cLine) : CallR X (.builtin "max") (rCl T X.K (zBF .max1)) := by
  intro pins s σ H xs us Q I rs ⟨as, h, zs, rh, r, f⟩
  unfold zBF at f
  split at f <;> try exact f.elim
  all_goals rename_i heq
  all_goals try (cases heq; done)
  rename_i z _
  obtain ⟨v, rfl, q⟩ := r.one
  split at f <;> try exact f.elim
  rename_i ys e
  split at f <;> try exact f.elim
  rename_i n ns eb
  obtain ⟨p, vs, rfl, h1, h2⟩ := seqZ_inv rh e q
  obtain rfl := Vals.ref1 rs
  obtain rfl := intsOf_eq eb
  obtain rfl := h1.ints_inv
  have fin : Q (.int (ns.foldl max n)) H := FinV.self f rh (.int _)
  have hd : X.A.units + 1 + PyData.depthAll (PyData.int n :: ns.map PyData.int) < cLine := by
    have := ints_depth (n :: ns)
    rw [List.map_cons] at this
    omega
  have go : ∀ {h' tk v bs}, Reads h' v (PySem.W.maxD (.int n) (ns.map PyData.int)) bs → (∀ b o, s.heap.get? b = some o → h'.get? b = some o) → EP X pins σ Q v { s with heap := h', toks := tk } := by
    intro h' tk v bs hr hk
    rw [PySem.W.maxD_ints] at hr
    obtain ⟨t, rfl⟩ := reads_int hr
    exact ⟨.int _, H, I.kept hk, ⟨_, rfl⟩, fin⟩
  rcases h2 with ⟨hl, _⟩ | ⟨ht, _⟩
  · obtain ⟨its, rv, pl, hz⟩ := I.list hl
    obtain ⟨as2, hr⟩ := seq_reads I (ints_dp (n :: ns)) rv
    exact PySem.W.max_list_data (I.ok.hd hc) pl.isList (by simpa using hr) (ints_alike (n :: ns)) hd fun i v h' tk bs _ hr hk => go hr hk
  · obtain ⟨its, rv, pl, hz⟩ := I.tuple ht
    obtain ⟨as2, hr⟩ := seq_reads I (ints_dp (n :: ns)) rv
    exact PySem.W.max_tuple_data (I.ok.hd hc) pl (by simpa using hr) (ints_alike (n :: ns)) hd fun i v h' tk bs _ hr hk => go hr hk
theorem cz_min1 (hc : X.calm = true) (hu : X.A.units + 64 < cLine) : CallR X (.builtin "min") (rCl T X.K (zBF .min1)) := by
  intro pins s σ H xs us Q I rs ⟨as, h, zs, rh, r, f⟩
  unfold zBF at f
  split at f <;> try exact f.elim
  all_goals rename_i heq
  all_goals try (cases heq; done)
  rename_i z _
  obtain ⟨v, rfl, q⟩ := r.one
  split at f <;> try exact f.elim
  rename_i ys e
  split at f <;> try exact f.elim
  rename_i n ns eb
  obtain ⟨p, vs, rfl, h1, h2⟩ := seqZ_inv rh e q
  obtain rfl := Vals.ref1 rs
  obtain rfl := intsOf_eq eb
  obtain rfl := h1.ints_inv
  have fin : Q (.int (ns.foldl min n)) H := FinV.self f rh (.int _)
  have hd : X.A.units + 1 + PyData.depthAll (PyData.int n :: ns.map PyData.int) < cLine := by
    have := ints_depth (n :: ns)
    rw [List.map_cons] at this
    omega
  have go : ∀ {h' tk v bs}, Reads h' v (PySem.W.minD (.int n) (ns.map PyData.int)) bs → (∀ b o, s.heap.get? b = some o → h'.get? b = some o) → EP X pins σ Q v { s with heap := h', toks := tk } := by
    intro h' tk v bs hr hk
    rw [PySem.W.minD_ints] at hr
    obtain ⟨t, rfl⟩ := reads_int hr
    exact ⟨.int _, H, I.kept hk, ⟨_, rfl⟩, fin⟩
  rcases h2 with ⟨hl, _⟩ | ⟨ht, _⟩
  · obtain ⟨its, rv, pl, hz⟩ := I.list hl
    obtain ⟨as2, hr⟩ := seq_reads I (ints_dp (n :: ns)) rv
    exact PySem.W.min_list_data (I.ok.hd hc) pl.isList (by simpa using hr) (ints_alike (n :: ns)) hd fun i v h' tk bs _ hr hk => go hr hk
  · obtain ⟨its, rv, pl, hz⟩ := I.tuple ht
    obtain ⟨as2, hr⟩ := seq_reads I (ints_dp (n :: ns)) rv
    exact PySem.W.min_tuple_data (I.ok.hd hc) pl (by simpa using hr) (ints_alike (n :: ns)) hd fun i v h' tk bs _ hr hk => go hr hk
end Zm
namespace Zm
open PySem PySem.Spec PyProof.Rows L2
variable {T : Tb} {X : Cx} {K : PySem.W.Frag}

/-! ### shapes of the text -/
def noStar : Expr → Bool
  | .Starred .. => false
  | _ => true
def noCall : Expr → Bool
  | .Call .. => false
  | _ => true
def noComp : Expr → Bool
  | .ListComp .. => false
  | .SetComp .. => false
  | .DictComp .. => false
  | _ => true
def noSlice : Expr → Bool
  | .Slice .. => false
  | _ => true
def noSet : Expr → Bool
  | .Set .. => false
  | _ => true
def noDisp : Expr → Bool
  | .Tuple .. => false
  | .List .. => false
  | _ => true
theorem star_cons {e : Expr} (h : noStar e = true) (es : List Expr) (env : Env) : starEach (e :: es) env = (false, eval e env) :: starEach es env := by
  cases e <;> first | rfl | cases h
theorem star_plain (env : Env) : ∀ {es : List Expr}, es.all noStar = true → ∀ p : Bool × Sem Value, p ∈ starEach es env → p.1 = false
  | [], _, p, hp => by cases hp
  | e :: es, h, p, hp => by
    rw [List.all_cons, Bool.and_eq_true] at h
    rw [star_cons h.1] at hp
    rcases List.mem_cons.mp hp with rfl | hp
    · rfl
    · exact star_plain env h.2 p hp
theorem back_plain {es : List Expr} (h : es.all noStar = true) (pos : Pos) (env : Env) : (backTo pos (starEach es env)).any (·.1) = false := by
  rw [List.any_eq_false]
  intro p hp
  unfold backTo at hp
  obtain ⟨q, hq, rfl⟩ := List.mem_map.mp hp
  have := star_plain env h q hq
  simp [this]
theorem back_all {es : List Expr} (h : es.all noStar = true) (pos : Pos) (env : Env) : (backTo pos (starEach es env)).all (fun x => !x.1) = true := by
  rw [List.all_eq_true]
  intro p hp
  unfold backTo at hp
  obtain ⟨q, hq, rfl⟩ := List.mem_map.mp hp
  have := star_plain env h q hq
  simp [this]
theorem base_plain {o : Expr} (h : noCall o = true) (a : Str) (env : Env) (w : Sem Value) : attributeBase o a env w = w := by
  cases o <;> first | rfl | cases h
theorem ix_plain {b : Expr} (h : noSlice b = true) : PlainIx b := by
  intro o i
  cases b <;> first | rfl | cases h
theorem swaps_no {e : Expr} (h : noComp e = true) (t : Option Expr) (l : Nat) (env : Env) : swapsWith e t l env = pure false := by
  cases e <;> first | rfl | cases h
theorem set_no {e : Expr} (h : noSet e = true) (env : Env) (x : Value) : foldedSetIterable e env x = pure x := by
  cases e <;> first | rfl | cases h
theorem in_marks {e : Expr} (h : noSet e = true) (op : CmpOp) : behindInMarks op e = false := by
  cases e <;> first | rfl | cases h
theorem few_plain {e : Expr} {es : List Expr} (h : (e :: es).all noStar = true) (hl : (e :: es).length < 30) (pos : Pos) (env : Env) :
    ((backTo pos (starEach (e :: es) env)).all (fun x => !x.1) && (backToKw pos (keywordEach [] env)).all (fun x => x.1.isSome)
      && decide ((e :: es).length + ([] : List Keyword).length + (if ([] : List Keyword).isEmpty then 0 else 1) < 30)) = true := by
  rw [back_all h]
  have : decide ((e :: es).length + ([] : List Keyword).length + (if ([] : List Keyword).isEmpty then 0 else 1) < 30) = true := by
    apply decide_eq_true
    simpa using hl
  rw [this]
  rfl

variable {a b c : Expr} {ma mb mc : Ev → Mh → Res Z} {rest : List Expr} {pos : Pos}
/-! ### fields -/
theorem look_F {as : List Addr} {H : Hp} {f : Nat} {z : Z} : ∀ {x : List (Nat × Z)} {y : List (Str × V)}, RFs T K as H x y → lookF x f = some z → ∃ v, y.lookup (T.an f) = some v ∧ RZ K as H z v
  | _, _, .nil, e => by simp [lookF] at e
  | (g, w) :: x, (n, v) :: y, .cons r rs, e => by
    obtain ⟨e1, q⟩ := r
    have e1 : T.an g = n := e1
    subst e1
    simp only [lookF] at e
    by_cases hg : f = g
    · subst hg
      rw [if_pos rfl] at e
      cases e
      exact ⟨v, by rw [List.lookup_cons]; simp, q⟩
    · rw [if_neg hg] at e
      obtain ⟨u, h1, h2⟩ := look_F rs e
      refine ⟨u, ?_, h2⟩
      rw [List.lookup_cons]
      have : (T.an f == T.an g) = false := beq_eq_false_iff_ne.mpr fun q => hg (T.anInj _ _ q)
      rw [this]
      exact h1
theorem look_no {as : List Addr} {H : Hp} {f : Nat} : ∀ {x : List (Nat × Z)} {y : List (Str × V)}, RFs T K as H x y → lookF x f = none → y.lookup (T.an f) = none
  | _, _, .nil, e => rfl
  | (g, w) :: x, (n, v) :: y, .cons r rs, e => by
    obtain ⟨e1, q⟩ := r
    have e1 : T.an g = n := e1
    subst e1
    simp only [lookF] at e
    by_cases hg : f = g
    · subst hg
      rw [if_pos rfl] at e
      cases e
    · rw [if_neg hg] at e
      rw [List.lookup_cons]
      have : (T.an f == T.an g) = false := beq_eq_false_iff_ne.mpr fun q => hg (T.anInj _ _ q)
      rw [this]
      exact look_no rs e
theorem look_mem {f : Nat} {z : Z} : ∀ {x : List (Nat × Z)}, lookF x f = some z → (f, z) ∈ x
  | [], e => by simp [lookF] at e
  | (g, w) :: x, e => by
    simp only [lookF] at e
    by_cases hg : f = g
    · subst hg
      rw [if_pos rfl] at e
      cases e
      exact List.mem_cons_self
    · rw [if_neg hg] at e
      exact List.mem_cons_of_mem _ (look_mem e)
theorem le_fld {f : Nat} {x : Str} (hx : x = T.an f) (ha : PE X a (tOf T X.K ma)) (hb : attributeBase a x X.env (eval a X.env) = eval a X.env) : PE X (.Attribute a x pos) (tOf T X.K fun ρ h => (ma ρ h).bind fun y h => zFld y f h) := by
  subst hx
  refine PE.imp (pe_fld ha hb) fun σ H Q h => tOf_bind (g := fun _ y h => zFld y f h) h fun as h1 ρ z v H1 r1 re q f => ?_
  cases z <;> first | exact f.elim | skip
  rename_i n
  obtain ⟨p, rfl, ep⟩ := q.ob_inv
  simp only [zFld] at f
  split at f
  · rename_i c fs he
    obtain ⟨w, ew, f⟩ := oRes_inv f
    obtain ⟨dx, gs, e1, e2, e3, e4⟩ := r1.ins he ep
    obtain ⟨u, h1, h2⟩ := look_F e2 ew
    exact ⟨p, _, dx, gs, u, rfl, e1, e3, e4 _ (look_mem ew), h1, FinV.self f r1 h2⟩
  · exact f.elim
theorem put_F {as : List Addr} {H : Hp} {f : Nat} {z : Z} {v : V} (q : RZ K as H z v) : ∀ {x : List (Nat × Z)} {y : List (Str × V)}, RFs T K as H x y → RFs T K as H (putF' f z x) (putF (T.an f) v y)
  | _, _, .nil => .cons ⟨rfl, q⟩ .nil
  | (g, w) :: x, (n, u) :: y, .cons r rs => by
    obtain ⟨e1, q1⟩ := r
    have e1 : T.an g = n := e1
    subst e1
    simp only [putF', putF]
    by_cases hg : g = f
    · subst hg
      rw [if_pos rfl, if_pos rfl]
      exact .cons ⟨rfl, q⟩ rs
    · rw [if_neg hg, if_neg fun q => hg (T.anInj _ _ q)]
      exact .cons ⟨rfl, q1⟩ (put_F q rs)
theorem put_mem {f : Nat} {z : Z} {P : Nat → Prop} (hf : P f) : ∀ {x : List (Nat × Z)}, (∀ q ∈ x, P q.1) → ∀ q ∈ putF' f z x, P q.1
  | [], _, q, hq => by
    simp only [putF', List.mem_singleton] at hq
    subst hq
    exact hf
  | (g, w) :: x, h, q, hq => by
    simp only [putF'] at hq
    by_cases hg : g = f
    · rw [if_pos hg] at hq
      rcases List.mem_cons.mp hq with rfl | hq
      · exact h (g, w) List.mem_cons_self
      · exact h q (List.mem_cons_of_mem _ hq)
    · rw [if_neg hg] at hq
      rcases List.mem_cons.mp hq with rfl | hq
      · exact h (g, w) List.mem_cons_self
      · exact put_mem hf (fun q hq => h q (List.mem_cons_of_mem _ hq)) q hq

/-! ### methods of built-in types -/
theorem RKs.put {as : List Addr} {H : Hp} {k : Key} {z : Z} {v : V} (q : RZ K as H z v) {x : List (Key × Z)} {y : List (Key × V)} (r : RKs K as H x y) : RKs K as H (putZ x k z) (putK y k v) := by
  have hany : ∀ {x : List (Key × Z)} {y : List (Key × V)}, RKs K as H x y → x.any (fun kv => decide (kv.1 = k)) = y.any (fun kv => decide (kv.1 = k)) := by
    intro x y r
    induction r with
    | nil => rfl
    | cons r rs ih => rw [List.any_cons, List.any_cons, ih, r.1]
  have happ : ∀ {x x' : List (Key × Z)} {y y' : List (Key × V)}, RKs K as H x y → RKs K as H x' y' → RKs K as H (x ++ x') (y ++ y') := by
    intro x x' y y' r r'
    induction r with
    | nil => exact r'
    | cons r rs ih => exact .cons r ih
  have hmap : ∀ {x : List (Key × Z)} {y : List (Key × V)}, RKs K as H x y → RKs K as H (x.map fun kv => if kv.1 = k then (kv.1, z) else kv) (y.map fun kv => if kv.1 = k then (kv.1, v) else kv) := by
    intro x y r
    induction r with
    | nil => exact .nil
    | @cons p q' _ _ r rs ih =>
      rw [List.map_cons, List.map_cons]
      refine .cons ?_ ih
      by_cases hk : p.1 = k
      · rw [if_pos hk, if_pos (r.1 ▸ hk)]
        exact ⟨r.1, q⟩
      · rw [if_neg hk, if_neg (r.1 ▸ hk)]
        exact r
  unfold putZ putK
  rw [hany r]
  split
  · exact hmap r
  · exact happ r (.cons ⟨rfl, q⟩ .nil)
theorem RKs.drop {as : List Addr} {H : Hp} {k : Key} {x : List (Key × Z)} {y : List (Key × V)} (r : RKs K as H x y) : RKs K as H (dropZ x k) (dropK y k) := by
  unfold dropZ dropK
  induction r with
  | nil => exact .nil
  | @cons p q' _ _ r rs ih =>
    rw [List.filter_cons, List.filter_cons]
    by_cases hk : p.1 = k
    · have h2 : q'.1 = k := r.1 ▸ hk
      rw [if_neg (by simp [hk]), if_neg (by simp [h2])]
      exact ih
    · have h2 : ¬ q'.1 = k := r.1 ▸ hk
      rw [if_pos (by simp [hk]), if_pos (by simp [h2])]
      exact .cons r ih
theorem mz_append : MtR X "list.append" (rMt T X.K (zBM .append)) := by
  intro pins s σ H x xs v us Q I rx rs ⟨as, h, z, zs, rh, r, rr, f⟩
  refine mt_append pins s σ H x xs v us Q I rx rs ?_
  unfold zBM at f
  split at f <;> try exact f.elim
  rename_i n
  obtain ⟨p, rfl, ep⟩ := r.ob_inv
  split at f <;> try exact f.elim
  all_goals rename_i heq
  all_goals try (cases heq; done)
  split at f <;> try exact f.elim
  obtain ⟨w, rfl, q⟩ := rr.one
  rename_i he
  obtain ⟨c, f⟩ := Fin.guard f
  obtain ⟨vs, e1, e2⟩ := rh.lst he ep
  refine ⟨p, vs, w, rfl, rfl, e1, by rw [← e2.length]; exact c, ?_⟩
  have hm : Mut (H p) := by rw [e1]; exact trivial
  exact FinV.setO f rh ep hm (fun _ q => by rw [he] at q; cases q) ⟨_, upd_same, (e2.append (.cons q .nil)).mono (Ext.set hm)⟩ .non
theorem mz_extend : MtR X "list.extend" (rMt T X.K (zBM .extend)) := by
  intro pins s σ H x xs v us Q I rx rs ⟨as, h, z, zs, rh, r, rr, f⟩
  refine mt_extend pins s σ H x xs v us Q I rx rs ?_
  unfold zBM at f
  split at f <;> try exact f.elim
  rename_i n
  obtain ⟨p, rfl, ep⟩ := r.ob_inv
  split at f <;> try exact f.elim
  all_goals rename_i heq
  all_goals try (cases heq; done)
  split at f <;> try exact f.elim
  obtain ⟨w, rfl, q⟩ := rr.one
  obtain ⟨p2, rfl, ep2⟩ := q.ob_inv
  rename_i he he2
  obtain ⟨c, f⟩ := Fin.guard f
  obtain ⟨vs, e1, e2⟩ := rh.lst he ep
  obtain ⟨ws, g1, g2⟩ := rh.lst he2 ep2
  refine ⟨p, p2, vs, ws, rfl, rfl, e1, g1, by rw [← e2.length, ← g2.length]; exact c, ?_⟩
  have hm : Mut (H p) := by rw [e1]; exact trivial
  exact FinV.setO f rh ep hm (fun _ q => by rw [he] at q; cases q) ⟨_, upd_same, (e2.append g2).mono (Ext.set hm)⟩ .non
theorem mz_pop0 : MtR X "list.pop" (rMt T X.K (zBM .pop0)) := by
  intro pins s σ H x xs v us Q I rx rs ⟨as, h, z, zs, rh, r, rr, f⟩
  refine mt_pop pins s σ H x xs v us Q I rx rs ?_
  unfold zBM at f
  split at f <;> try exact f.elim
  rename_i n
  obtain ⟨p, rfl, ep⟩ := r.ob_inv
  split at f <;> try exact f.elim
  all_goals rename_i heq
  all_goals try (cases heq; done)
  split at f <;> try exact f.elim
  obtain rfl := rr.nil_inv
  rename_i ys he
  split at f <;> try exact f.elim
  rename_i w hw
  obtain ⟨vs, e1, e2⟩ := rh.lst he ep
  obtain ⟨u, h1, h2⟩ := e2.get hw
  refine ⟨p, vs, u, rfl, rfl, e1, by rw [← e2.length]; exact h1, ?_⟩
  have hm : Mut (H p) := by rw [e1]; exact trivial
  exact FinV.setO f rh ep hm (fun _ q => by rw [he] at q; cases q) ⟨_, upd_same, e2.dropLast.mono (Ext.set hm)⟩ h2
theorem mz_reverse : MtR X "list.reverse" (rMt T X.K (zBM .reverse)) := by
  intro pins s σ H x xs v us Q I rx rs ⟨as, h, z, zs, rh, r, rr, f⟩
  refine mt_reverse pins s σ H x xs v us Q I rx rs ?_
  unfold zBM at f
  split at f <;> try exact f.elim
  rename_i n
  obtain ⟨p, rfl, ep⟩ := r.ob_inv
  split at f <;> try exact f.elim
  all_goals rename_i heq
  all_goals try (cases heq; done)
  split at f <;> try exact f.elim
  obtain rfl := rr.nil_inv
  rename_i ys he
  obtain ⟨vs, e1, e2⟩ := rh.lst he ep
  refine ⟨p, vs, rfl, rfl, e1, ?_⟩
  have hm : Mut (H p) := by rw [e1]; exact trivial
  exact FinV.setO f rh ep hm (fun _ q => by rw [he] at q; cases q) ⟨_, upd_same, e2.reverse.mono (Ext.set hm)⟩ .non
theorem mz_dget1 (hu : X.A.units + 1 < cLine) : MtR X "dict.get" (rMt T X.K (zBM .dget1)) := by
  intro pins s σ H x xs v us Q I rx rs ⟨as, h, z, zs, rh, r, rr, f⟩
  unfold zBM at f
  split at f <;> try exact f.elim
  rename_i n
  obtain ⟨p, rfl, ep⟩ := r.ob_inv
  split at f <;> try exact f.elim
  all_goals rename_i heq
  all_goals try (cases heq; done)
  split at f <;> try exact f.elim
  obtain ⟨w, rfl, q⟩ := rr.one
  rename_i kvs k he hk
  obtain ⟨kws, e1, e2⟩ := rh.dct he ep
  obtain rfl : v = Value.ref p := rx
  obtain ⟨u, rfl, ru⟩ := rs.one
  rw [keyZ_kV hk q] at ru
  refine d_get1 hu I (DGet.k (k := k) e1) ru fun w' s' I' rw' => ⟨_, H, I', rw', ?_⟩
  rcases e2.val (k := k) with ⟨g1, g2⟩ | ⟨z1, v1, g1, g2, g3⟩
  · rw [g1] at f
    rw [g2]
    exact FinV.self f rh .non
  · rw [g1] at f
    rw [g2]
    exact FinV.self f rh g3
theorem d_popT {pins : List (Addr × Obj)} {σ : L2.St} {H : Hp} {s : Shared} {Q : Value → Shared → Prop} {E : Value → Shared → Prop} {A : Around} {p : Addr} {kvs : List (Key × V)} {k : Key} {v : V} {u : Value} (I : Inv X pins σ H s) (e : H p = some (.dK kvs)) (ry : RelV (kV k) u) (l : valV kvs k = some v)
    (h : ∀ w' s', Inv X pins σ (upd H p (.dK (dropK kvs k))) s' → RelV v w' → Q w' s') : wpAny (model X.prog X.w) A (call (.builtin "dict.pop") [.ref p, u]) Q E s := by
  obtain ⟨z, hd, vs, rel, dd⟩ := dk_of I.hok e
  obtain ⟨w', hw, rw'⟩ := RelO.some_of (v := v) (o := valueAt vs k) (by rw [← l]; exact rel.val k)
  have hp : (keyPart u).isSome = true := by
    cases k with
    | inl i => obtain ⟨t, q⟩ := (show ∃ t, u = Value.int i t from ry); subst q; rfl
    | inr x => obtain ⟨t, q⟩ := (show ∃ t, u = Value.str x t from ry); subst q; rfl
  refine call_meetsIn PySem.F.slot_dict_pop dd.typeIs PySem.F.entry_dict_pop (PySem.F.args_dict_pop_2 _ _) (meets_dict_pop_there (mixKind X.prog X.w) p (kV_is ry) [] (.inl rfl) hp)
    ⟨vs, w', dd, by rw [← rel.length]; exact z, hw, fun h' dd' hs => h w' _ ?_ rw'⟩
  have he : ∃ q, h'.get? p = some q := let ⟨q, _, _, hq, _⟩ := dd'; ⟨q, hq⟩
  exact d_write I (by rw [e]; exact True.intro) hs he (dk_new (Nat.le_trans (dropK_le kvs k) z) hd (rel.drop k) dd')
theorem mz_dpop1 : MtR X "dict.pop" (rMt T X.K (zBM .dpop1)) := by
  intro pins s σ H x xs v us Q I rx rs ⟨as, h, z, zs, rh, r, rr, f⟩
  unfold zBM at f
  split at f <;> try exact f.elim
  rename_i n
  obtain ⟨p, rfl, ep⟩ := r.ob_inv
  split at f <;> try exact f.elim
  all_goals rename_i heq
  all_goals try (cases heq; done)
  split at f <;> try exact f.elim
  rename_i kvs he
  split at f <;> try exact f.elim
  rename_i k hk
  split at f <;> try exact f.elim
  rename_i w0 hw
  obtain ⟨w, rfl, q⟩ := rr.one
  obtain ⟨kws, e1, e2⟩ := rh.dct he ep
  obtain rfl : v = Value.ref p := rx
  obtain ⟨u, rfl, ru⟩ := rs.one
  rw [keyZ_kV hk q] at ru
  rcases e2.val (k := k) with ⟨g1, g2⟩ | ⟨z1, v1, g1, g2, g3⟩
  · rw [hw] at g1; cases g1
  · rw [hw] at g1
    cases g1
    refine d_popT I e1 ru g2 fun w' s' I' rw' => ⟨_, _, I', rw', ?_⟩
    have hm : Mut (H p) := by rw [e1]; exact trivial
    exact FinV.setO f rh ep hm (fun _ q => by rw [he] at q; cases q) ⟨_, upd_same, RKs.mono (Ext.set hm) e2.drop⟩ g3
theorem mz_dget2 (hu : X.A.units + 1 < cLine) : MtR X "dict.get" (rMt T X.K (zBM .dget2)) := by
  intro pins s σ H x xs v us Q I rx rs ⟨as, h, z, zs, rh, r, rr, f⟩
  unfold zBM at f
  split at f <;> try exact f.elim
  rename_i n
  obtain ⟨p, rfl, ep⟩ := r.ob_inv
  split at f <;> try exact f.elim
  all_goals rename_i heq
  all_goals try (cases heq; done)
  split at f <;> try exact f.elim
  obtain ⟨w, w2, rfl, q, q2⟩ := rr.two
  rename_i kvs k he hk
  obtain ⟨kws, e1, e2⟩ := rh.dct he ep
  obtain rfl : v = Value.ref p := rx
  obtain ⟨u, u2, rfl, ru, ru2⟩ : ∃ u u2, us = [u, u2] ∧ RelV w u ∧ RelV w2 u2 := by
    cases rs with
    | cons a b => cases b with
      | cons c d => cases d; exact ⟨_, _, rfl, a, c⟩
  rw [keyZ_kV hk q] at ru
  refine d_get2 hu I (DGet.k (k := k) e1) ru ru2 fun w' s' I' rw' => ⟨_, H, I', rw', ?_⟩
  rcases e2.val (k := k) with ⟨g1, g2⟩ | ⟨z1, v1, g1, g2, g3⟩
  · rw [g1] at f
    rw [g2]
    exact FinV.self f rh q2
  · rw [g1] at f
    rw [g2]
    exact FinV.self f rh g3
theorem mz_dsetd : MtR X "dict.setdefault" (rMt T X.K (zBM .dsetd)) := by
  intro pins s σ H x xs v us Q I rx rs ⟨as, h, z, zs, rh, r, rr, f⟩
  unfold zBM at f
  split at f <;> try exact f.elim
  rename_i n
  obtain ⟨p, rfl, ep⟩ := r.ob_inv
  split at f <;> try exact f.elim
  all_goals rename_i heq
  all_goals try (cases heq; done)
  split at f <;> try exact f.elim
  obtain ⟨w, w2, rfl, q, q2⟩ := rr.two
  rename_i kvs k he hk
  obtain ⟨kws, e1, e2⟩ := rh.dct he ep
  obtain rfl : v = Value.ref p := rx
  obtain ⟨u, u2, rfl, ru, ru2⟩ : ∃ u u2, us = [u, u2] ∧ RelV w u ∧ RelV w2 u2 := by
    cases rs with
    | cons a b => cases b with
      | cons c d => cases d; exact ⟨_, _, rfl, a, c⟩
  rw [keyZ_kV hk q] at ru
  have hm : Mut (H p) := by rw [e1]; exact trivial
  have hlen : kvs.length = kws.length := RKs.length e2
  obtain ⟨c, f⟩ := Fin.guard f
  refine d_setd I e1 ru ru2 (by rw [← hlen]; exact c) (fun v0 hv0 w' s' I' rw' => ?_) fun hn w' s' I' rw' => ⟨w2, _, I', rw', ?_⟩
  · rcases e2.val (k := k) with ⟨g1, g2⟩ | ⟨z2, v1, g1, g2, g3⟩
    · rw [g2] at hv0; cases hv0
    · rw [g2] at hv0
      cases hv0
      rw [g1] at f
      exact ⟨_, H, I', rw', FinV.self f rh g3⟩
  · rcases e2.val (k := k) with ⟨g1, g2⟩ | ⟨z2, v1, g1, g2, g3⟩
    · rw [g1] at f
      exact FinV.setO f rh ep hm (fun _ q => by rw [he] at q; cases q) ⟨_, upd_same, RKs.mono (Ext.set hm) (RKs.put q2 e2)⟩ q2
    · rw [g2] at hn; cases hn
/-- .. by a tuple -/
theorem ext_meets (l : Addr) (items : Array Value) (n : Nat) (b : Addr) (items2 : Array Value) (n2 : Nat) (o2 : Obj) (hc : o2.cls = .type "tuple") (hd : o2.data = .seq items2 n2) (h1 : items.size + items2.size ≤ sizeLine) :
    Meets (Builtin.«list.extend» ⟨[.ref l, .ref b], []⟩) (fun _ R s => s.heap.get? l = some { cls := .type "list", dict := none, data := .seq items n, slots := #[] } ∧ s.heap.get? b = some o2 ∧ R (.ok (.ret Value.none)) { s with heap := s.heap.update l (Obj.mapSeq fun x => x ++ items2), toks := s.toks }) :=
  .of_wp fun prog w A R s h => by
    obtain ⟨hl, hb, h⟩ := h
    show wpAny _ _ (Builtin.List.listExtendWith (.ref l) (.ref b) .none) _ _ s
    unfold Builtin.List.listExtendWith Builtin.List.listItems
    have t2 : (Builtin.List.listSameRef (.ref l) (.ref b) || Value.type "tuple" == Value.type "list" || Value.type "tuple" == Value.type "tuple") = true := by simp
    have t3 : (!items.isEmpty && Builtin.List.listTooLong (items.size + items2.size)) = false := by rw [notLongL h1, Bool.and_false]
    refine wpAny_bind (wpAny_typeOf ⟨o2, hb, hc⟩ ?_); simp only [t2, if_true]
    refine wpAny_bind (wpAny_bind (wpAny_seqItems hb hd (wpAny_pure ?_))); refine wpAny_bind ?_
    refine wpAny_bind (wpAny_seqItems hl rfl (wpAny_pure ?_)); simp only [t3, Bool.false_eq_true, if_false]
    refine wpAny_bind (wpAny_updateSeq hl rfl ?_ (by omega) (by rw [Array.size_append]; omega))
    exact wpAny_pure ⟨_, rfl, h⟩
theorem mz_extT : MtR X "list.extend" (rMt T X.K (zBM .extT)) := by
  intro pins s σ H x xs v us Q I rx rs ⟨as, h, z, zs, rh, r, rr, f⟩
  unfold zBM at f
  split at f <;> try exact f.elim
  rename_i n
  obtain ⟨p, rfl, ep⟩ := r.ob_inv
  split at f <;> try exact f.elim
  all_goals rename_i heq
  all_goals try (cases heq; done)
  split at f <;> try exact f.elim
  obtain ⟨w, rfl, q⟩ := rr.one
  obtain ⟨p2, ws, rfl, g1, g2⟩ := q.tup_inv
  rename_i he
  obtain ⟨c, f⟩ := Fin.guard f
  obtain ⟨vs, e1, e2⟩ := rh.lst he ep
  have hm : Mut (H p) := by rw [e1]; exact trivial
  obtain rfl : v = Value.ref p := rx
  obtain ⟨u, rfl, ru⟩ := rs.one
  obtain rfl : u = Value.ref p2 := ru
  obtain ⟨zz, its, n1, r1, hl, o1⟩ := I.lstM e1
  obtain ⟨its2, rv2, pl2, hz2⟩ := I.tuple g1
  obtain ⟨ob2, o2, oc2, n2, od2⟩ := pl2
  have hsz : its.toArray.size + its2.toArray.size ≤ sizeLine := by
    have h1 := e2.length
    have h2 := g2.length
    have h3 := r1.length
    have h4 := rv2.length
    rw [List.size_toArray, List.size_toArray]
    omega
  refine call_meets PySem.F.slot_list_extend ⟨_, o1, rfl⟩ PySem.F.entry_list_extend (PySem.F.args_list_extend_2 _ _) (ext_meets p its.toArray n1 p2 its2.toArray n2 ob2 oc2 od2 hsz) ⟨o1, o2, ?_⟩
  refine ⟨.non, _, I.lset (its' := its ++ its2) e1 o1 (by simp) (r1.append rv2) ?_, rfl, ?_⟩
  · rw [List.length_append]
    rw [← e2.length, ← g2.length]
    exact c
  · exact FinV.setO f rh ep hm (fun _ q => by rw [he] at q; cases q) ⟨_, upd_same, (e2.append g2).mono (Ext.set hm)⟩ .non
/-- the built-in type of a method -/
def bmT : BM → String
  | .dget1 => "dict"
  | .dpop1 => "dict"
  | .dget2 => "dict"
  | .dsetd => "dict"
  | _ => "list"
def bmName : BM → Str
  | .append => "append"
  | .pop0 => "pop"
  | .dget1 => "get"
  | .dpop1 => "pop"
  | .extend => "extend"
  | .reverse => "reverse"
  | .dget2 => "get"
  | .dsetd => "setdefault"
  | .extT => "extend"
theorem bm_ty {as : List Addr} {H : Hp} {h : Mh} {p : BM} {z : Z} {v : V} (rh : RH T K as H h) (r : RZ K as H z v) (ok : bmOk p z h) : tyV K (bmT p) v H := by
  have L : (∃ a zs, z = .ob a ∧ h[a]? = some (.lst zs)) → tyV K "list" v H := by
    rintro ⟨a, zs, rfl, e⟩
    obtain ⟨q, rfl, ep⟩ := r.ob_inv
    obtain ⟨vs, e1, e2⟩ := rh.lst e ep
    exact .inl ⟨rfl, vs, SqL.of e1⟩
  have D : (∃ a kvs, z = .ob a ∧ h[a]? = some (.dct kvs)) → tyV K "dict" v H := by
    rintro ⟨a, zs, rfl, e⟩
    obtain ⟨q, rfl, ep⟩ := r.ob_inv
    obtain ⟨vs, e1, e2⟩ := rh.dct e ep
    exact .inr (.inr (.inl ⟨rfl, .inl ⟨vs, e1⟩⟩))
  cases p <;> cases z <;> first | exact False.elim ok | (obtain ⟨zs, e⟩ := ok; first | exact L ⟨_, zs, rfl, e⟩ | exact D ⟨_, zs, rfl, e⟩)
abbrev mBM (p : BM) (mo : Ev → Mh → Res Z) (ms : Ev → Mh → Res (List Z)) : Ev → Mh → Res Z := fun _ _ => .stuck
theorem bm_imp {p : BM} {mo : Ev → Mh → Res Z} {ms : Ev → Mh → Res (List Z)} {σ : L2.St} {H : Hp} {Q : VK}
    (h : tOf T K (fun ρ h => (mo ρ h).bind fun x h => guard (bmOk p x h) ((ms ρ h).bind fun xs h => zBM p x xs h)) σ H Q) :
    tBM K (bmT p) (rMt T K (zBM p)) (tOf T K mo) (tOfA T K ms) σ H Q := by
  refine tOf_bind (g := fun ρ x h => guard (bmOk p x h) ((ms ρ h).bind fun xs h => zBM p x xs h)) h fun as h1 ρ z v H1 r1 re q f => ?_
  obtain ⟨ok, f⟩ := Fin.guard f
  refine ⟨bm_ty r1 q ok, as, h1, ρ, r1, re, f.bind.mono fun zs h2 as2 H2 e2 r2 ⟨_, _, f2⟩ vs qs => ?_⟩
  exact ⟨as2, h2, z, zs, r2, q.mono e2, qs, f2⟩
theorem bm_imp0 {p : BM} {mo : Ev → Mh → Res Z} {σ : L2.St} {H : Hp} {Q : VK}
    (h : tOf T K (fun ρ h => (mo ρ h).bind fun x h => guard (bmOk p x h) ((Res.ok [] h).bind fun xs h => zBM p x xs h)) σ H Q) :
    tBM0 K (bmT p) (rMt T K (zBM p)) (tOf T K mo) σ H Q := by
  refine tOf_bind (g := fun ρ x h => guard (bmOk p x h) ((Res.ok [] h).bind fun xs h => zBM p x xs h)) h fun as h1 ρ z v H1 r1 re q f => ?_
  obtain ⟨ok, f⟩ := Fin.guard f
  exact ⟨bm_ty r1 q ok, as, h1, z, [], r1, q, .nil, f⟩
theorem le_bm {p : BM} {o e : Expr} {es : List Expr} {apos cpos : Pos} {mo : Ev → Mh → Res Z} {ms : Ev → Mh → Res (List Z)} (hu : X.A.units + 1 < cLine) (ho : PE X o (tOf T X.K mo)) (ha : PA X (e :: es) (tOfA T X.K ms)) (hx : bmName p = name) (hp : p ≠ .pop0 ∧ p ≠ .reverse)
    (hbase : noCall o = true) (hs : (e :: es).all noStar = true) (hl : (e :: es).length < 30) (hline : (apos.endLine == cpos.line) = true) :
    PE X (.Call (.Attribute o name apos) (e :: es) [] cpos) (tOf T X.K fun ρ h => (mo ρ h).bind fun x h => guard (bmOk p x h) ((ms ρ h).bind fun xs h => zBM p x xs h)) := by
  subst hx
  have hs2 := hs
  rw [List.all_cons, Bool.and_eq_true] at hs2
  have fin : ∀ {id : String}, PlainAttrs (bmT p) → Slot (bmT p) (bmName p) id → typeOf (.builtin id) = pure (.type "method_descriptor") → MtR X id (rMt T X.K (zBM p)) →
      PE X (.Call (.Attribute o (bmName p) apos) (e :: es) [] cpos) (tOf T X.K fun ρ h => (mo ρ h).bind fun x h => guard (bmOk p x h) ((ms ρ h).bind fun xs h => zBM p x xs h)) :=
    fun pa sl ty hm => PE.imp (pe_bm pa sl ty hm ho ha (base_plain hbase _ _ _) (few_plain hs hl _ _) hline (star_cons hs2.1 _ _) (back_plain hs2.2 _ _)) fun _ _ _ h => bm_imp h
  cases p with
  | append => exact fin PySem.F.plainAttrs_list PySem.F.slot_list_append PySem.F.type_list_append mz_append
  | extend => exact fin PySem.F.plainAttrs_list PySem.F.slot_list_extend PySem.F.type_list_extend mz_extend
  | dget1 => exact fin PySem.F.plainAttrs_dict PySem.F.slot_dict_get PySem.F.type_dict_get (mz_dget1 hu)
  | dpop1 => exact fin PySem.F.plainAttrs_dict PySem.F.slot_dict_pop PySem.F.type_dict_pop mz_dpop1
  | dget2 => exact fin PySem.F.plainAttrs_dict PySem.F.slot_dict_get PySem.F.type_dict_get (mz_dget2 hu)
  | dsetd => exact fin PySem.F.plainAttrs_dict PySem.F.slot_dict_setdefault PySem.F.type_dict_setdefault mz_dsetd
  | extT => exact fin PySem.F.plainAttrs_list PySem.F.slot_list_extend PySem.F.type_list_extend mz_extT
  | pop0 => exact absurd rfl hp.1
  | reverse => exact absurd rfl hp.2
theorem le_bm0 {p : BM} {o : Expr} {apos cpos : Pos} {mo : Ev → Mh → Res Z} (ho : PE X o (tOf T X.K mo)) (hx : bmName p = name) (hp : p = .pop0 ∨ p = .reverse)
    (hbase : noCall o = true) (hline : (apos.endLine == cpos.line) = true) :
    PE X (.Call (.Attribute o name apos) [] [] cpos) (tOf T X.K fun ρ h => (mo ρ h).bind fun x h => guard (bmOk p x h) ((Res.ok [] h).bind fun xs h => zBM p x xs h)) := by
  subst hx
  rcases hp with rfl | rfl
  · exact PE.imp (pe_bm0 PySem.F.plainAttrs_list PySem.F.slot_list_pop PySem.F.type_list_pop mz_pop0 ho (base_plain hbase _ _ _) hline) fun _ _ _ h => bm_imp0 h
  · exact PE.imp (pe_bm0 PySem.F.plainAttrs_list PySem.F.slot_list_reverse PySem.F.type_list_reverse mz_reverse ho (base_plain hbase _ _ _) hline) fun _ _ _ h => bm_imp0 h

/-! ### built-in functions -/
def bfName : BF → Str
  | .len => "len"
  | .tuple => "tuple"
  | .list => "list"
  | .int => "int"
  | .min => "min"
  | .max => "max"
  | .sorted => "sorted"
  | .any => "any"
  | .all => "all"
  | .max1 => "max"
  | .min1 => "min"
theorem bf_imp {p : BF} {ms : Ev → Mh → Res (List Z)} {σ : L2.St} {H : Hp} {Q : VK} (h : tOf T K (fun ρ h => (ms ρ h).bind fun xs h => zBF p xs h) σ H Q) : tCB (rCl T K (zBF p)) (tOfA T K ms) σ H Q :=
  tOfA_then (g := fun _ xs h => zBF p xs h) h fun as h1 ρ xs vs H1 r1 re q f => ⟨as, h1, xs, r1, q, f⟩
theorem le_bf {p : BF} {e : Expr} {es : List Expr} {np pos : Pos} {ms : Ev → Mh → Res (List Z)} (hc : X.calm = true) (hu : X.A.units + 64 < cLine) (ha : PA X (e :: es) (tOfA T X.K ms)) (hx : bfName p = name) (hg : Gl X name) (hm : X.mg name = none) (hs : (e :: es).all noStar = true) :
    PE X (.Call (.Name name np) (e :: es) [] pos) (tOf T X.K fun ρ h => (ms ρ h).bind fun xs h => zBF p xs h) := by
  subst hx
  have hs2 := hs
  rw [List.all_cons, Bool.and_eq_true] at hs2
  have finB : ∀ {id : String}, CallR X (.builtin id) (rCl T X.K (zBF p)) → bootBuiltins (bfName p) = some (.builtin id) → bfName p ≠ "__name__" → (bfName p == ("__debug__" : Str)) = false →
      PE X (.Call (.Name (bfName p) np) (e :: es) [] pos) (tOf T X.K fun ρ h => (ms ρ h).bind fun xs h => zBF p xs h) :=
    fun hc hv hn hd => PE.imp (pe_callB hc hg hm hv ha hn hd (star_cons hs2.1 _ _) (back_plain hs2.2 _ _)) fun _ _ _ h => bf_imp h
  have finT : ∀ {id : String}, CallR X (.type id) (rCl T X.K (zBF p)) → bootBuiltins (bfName p) = some (.type id) → bfName p ≠ "__name__" → (bfName p == ("__debug__" : Str)) = false →
      PE X (.Call (.Name (bfName p) np) (e :: es) [] pos) (tOf T X.K fun ρ h => (ms ρ h).bind fun xs h => zBF p xs h) :=
    fun hc hv hn hd => PE.imp (pe_callTy hc hg hm hv ha hn hd (star_cons hs2.1 _ _) (back_plain hs2.2 _ _)) fun _ _ _ h => bf_imp h
  cases p with
  | len => exact finB cz_len PySem.boot_len (by decide) (by decide)
  | tuple => exact finT cz_tuple (by decide +kernel) (by decide) (by decide)
  | list => exact finT cz_list (by decide +kernel) (by decide) (by decide)
  | int => exact finT cz_int (by decide +kernel) (by decide) (by decide)
  | min => exact finB (cz_min hc) (by decide +kernel) (by decide) (by decide)
  | max => exact finB (cz_max hc) (by decide +kernel) (by decide) (by decide)
  | sorted => exact finB (cz_sorted hc) (by decide +kernel) (by decide) (by decide)
  | any => exact finB (cz_any hc) (by decide +kernel) (by decide) (by decide)
  | all => exact finB (cz_all hc) (by decide +kernel) (by decide) (by decide)
  | max1 => exact finB (cz_max1 hc hu) (by decide +kernel) (by decide) (by decide)
  | min1 => exact finB (cz_min1 hc hu) (by decide +kernel) (by decide) (by decide)
end Zm
namespace Zm
open PySem PySem.Spec PyProof.Rows L2
variable {T : Tb} {X : Cx} {K : PySem.W.Frag}
variable {a b c : Expr} {ma mb mc : Ev → Mh → Res Z} {rest : List Expr} {pos : Pos}

/-! ### calls of the program's own defs -/
/-- a def's promise: what g gives -/
def spOf (T : Tb) (K : PySem.W.Frag) (g : List Z → Mh → Res Z) : Sp := fun vs H Q _ => rCl T K g vs H Q
theorem le_call {CX : CXT} {k : Nat} {f : Addr} {fd : FuncData} {ps : List Str} {g : List Z → Mh → Res Z} {x : Str} {np : Pos} {e : Expr} {es : List Expr} {ms : Ev → Mh → Res (List Z)}
    (F : FnOk X.prog X.w X.K X.mg X.base CX0 k f fd ps (spOf T X.K g)) (hr : Room k X.A) (hg : Gl X x) (hm : X.mg x = some (.ref f)) (hk : PySem.W.keepIn X.K (.ref f) = true) (hb : Binds X.K fd ps [])
    (ha : PA X (e :: es) (tOfA T X.K ms)) (hdb : (x == ("__debug__" : Str)) = false) (hs : (e :: es).all noStar = true) :
    PE X (.Call (.Name x np) (e :: es) [] pos) (tOf T X.K fun ρ h => (ms ρ h).bind fun xs h => g xs h) := by
  have hs2 := hs
  rw [List.all_cons, Bool.and_eq_true] at hs2
  refine PE.imp (pe_call (E := E0) F hr hg hm hk hb .nil pass0 ha hdb (star_cons hs2.1 _ _) (back_plain hs2.2 _ _)) fun σ H Q h => ?_
  refine tOfA_then (g := fun _ xs h => g xs h) h fun as h1 ρ xs vs H1 r1 re q f => ?_
  rw [List.append_nil]
  exact ⟨as, h1, xs, r1, q, f⟩
theorem le_call0 {CX : CXT} {k : Nat} {f : Addr} {fd : FuncData} {ps : List Str} {g : List Z → Mh → Res Z} {x : Str} {np : Pos}
    (F : FnOk X.prog X.w X.K X.mg X.base CX0 k f fd ps (spOf T X.K g)) (hr : Room k X.A) (hg : Gl X x) (hm : X.mg x = some (.ref f)) (hk : PySem.W.keepIn X.K (.ref f) = true) (hb : Binds X.K fd ps [])
    (hdb : (x == ("__debug__" : Str)) = false) :
    PE X (.Call (.Name x np) [] [] pos) (tOf T X.K fun ρ h => (Res.ok [] h).bind fun xs h => g xs h) := by
  refine PE.imp (pe_call0 (E := E0) F hr hg hm hk hb .nil pass0 hdb) fun σ H Q h => ?_
  obtain ⟨as, h0, ρ, rh, re, f⟩ := h
  exact ⟨as, h0, [], rh, .nil, f⟩
theorem make_imp {as : List Addr} {H : Hp} {h : Mh} {c : Nat} {g : List Z → Mh → Res Z} {xs : List Z} {vs : List V} {Q : VK} {E : XK} (cl : Cls K (T.cls c)) (rh : RH T K as H h) (q : RZs K as H xs vs)
    (f : FinV T K as H Q ((g (.ob h.length :: xs) (h ++ [.ins c []])).bind fun y h' => match y with | .non => .ok (.ob h.length) h' | _ => .stuck)) :
    ∀ x dx, H x = none → H dx = none → dx ≠ x → spOf T K g (.ref x :: vs) (upd (upd H dx (.own x)) x (.ins (T.cls c) dx [])) (fun v H2 => v = .non ∧ Q (.ref x) H2) E := by
  intro x dx hx hdx hne
  have r1 : RH T K as (upd H dx (.own x)) h := rh.other hdx
  have hx1 : upd H dx (.own x) x = none := by rw [upd_ne (Ne.symm hne)]; exact hx
  have e1 : Ext K as H as (upd H dx (.own x)) := Ext.new hdx
  have e2 : Ext K as (upd H dx (.own x)) (as ++ [x]) (upd (upd H dx (.own x)) x (.ins (T.cls c) dx [])) := Ext.newO hx1
  have r2 : RH T K (as ++ [x]) (upd (upd H dx (.own x)) x (.ins (T.cls c) dx [])) (h ++ [.ins c []]) := r1.push hx1 ⟨dx, [], upd_same, .nil, cl, fun q hq => nomatch hq⟩
  have hob : (as ++ [x])[h.length]? = some x := by rw [← rh.len]; simp
  refine ⟨as ++ [x], _, .ob h.length :: xs, r2, .cons (.ob hob) (q.mono (e1.trans e2)), ?_⟩
  refine (Fin.weaken (e1.trans e2) f).bind.mono fun y h3 as3 H3 e3 r3 ⟨_, _, f3⟩ v qv => ?_
  cases y <;> first | exact f3.elim | skip
  exact ⟨qv.non_inv, FinV.self f3 r3 (.ob (e3.get hob))⟩
noncomputable abbrev mMk (c : Nat) (g : List Z → Mh → Res Z) (ms : Ev → Mh → Res (List Z)) : Ev → Mh → Res Z := fun ρ h => (ms ρ h).bind fun xs h => (g (.ob h.length :: xs) (h ++ [.ins c []])).bind fun y h' => match y with | .non => .ok (.ob h.length) h' | _ => .stuck
theorem le_mk {k : Nat} {f : Addr} {fd : FuncData} {ps : List Str} {c : Nat} {g : List Z → Mh → Res Z} {x : Str} {np : Pos} {e : Expr} {es : List Expr} {ms : Ev → Mh → Res (List Z)} (M : Mk X.K (T.cls c) f) (cl : Cls X.K (T.cls c))
    (F : FnOk X.prog X.w X.K X.mg X.base CX0 k f fd ps (spOf T X.K g)) (hr : Room (k + 1) X.A) (hg : Gl X x) (hm : X.mg x = some (.ref (T.cls c))) (hb : Binds X.K fd ps [])
    (ha : PA X (e :: es) (tOfA T X.K ms)) (hdb : (x == ("__debug__" : Str)) = false) (hs : (e :: es).all noStar = true) :
    PE X (.Call (.Name x np) (e :: es) [] pos) (tOf T X.K (mMk c g ms)) := by
  have hs2 := hs
  rw [List.all_cons, Bool.and_eq_true] at hs2
  refine PE.imp (pe_make (E := E0) M F hr hg hm hb .nil pass0 ha hdb (star_cons hs2.1 _ _) (back_plain hs2.2 _ _)) fun σ H Q h => ?_
  refine tOfA_then (g := fun _ xs h => (g (.ob h.length :: xs) (h ++ [.ins c []])).bind fun y h' => match y with | .non => .ok (.ob h.length) h' | _ => .stuck) h fun as h1 ρ xs vs H1 r1 re q f => ?_
  rw [List.append_nil]
  exact make_imp cl r1 q f
theorem le_mk0 {k : Nat} {f : Addr} {fd : FuncData} {ps : List Str} {c : Nat} {g : List Z → Mh → Res Z} {x : Str} {np : Pos} (M : Mk X.K (T.cls c) f) (cl : Cls X.K (T.cls c))
    (F : FnOk X.prog X.w X.K X.mg X.base CX0 k f fd ps (spOf T X.K g)) (hr : Room (k + 1) X.A) (hg : Gl X x) (hm : X.mg x = some (.ref (T.cls c))) (hb : Binds X.K fd ps []) (hdb : (x == ("__debug__" : Str)) = false) :
    PE X (.Call (.Name x np) [] [] pos) (tOf T X.K (mMk c g fun _ h => .ok [] h)) := by
  refine PE.imp (pe_make0 (E := E0) M F hr hg hm hb .nil pass0 hdb) fun σ H Q h => ?_
  obtain ⟨as, h0, ρ, rh, re, f⟩ := h
  exact make_imp cl rh .nil f
/-! ### isinstance(e, tuple) -/
noncomputable abbrev mIsT (m : Ev → Mh → Res Z) : Ev → Mh → Res Z := fun ρ h => (m ρ h).bind fun x h => match x with
  | .tup _ => .ok (.bl true) h
  | .non => .ok (.bl false) h
  | _ => .stuck
theorem le_isT {e : Expr} {np np2 : Pos} {m : Ev → Mh → Res Z} (he : PE X e (tOf T X.K m)) (hg : Gl X "isinstance") (hm : X.mg "isinstance" = none) (hg2 : Gl X "tuple") (hm2 : X.mg "tuple" = none) (hs : noStar e = true) :
    PE X (.Call (.Name "isinstance" np) [e, .Name "tuple" np2] [] pos) (tOf T X.K (mIsT m)) := by
  have ht : PE X (.Name "tuple" np2) (tC (.ty "tuple")) := pe_bltn (v := .ty "tuple") hg2 hm2 (by decide +kernel) rfl
  refine PE.imp (pe_callB call_isi hg hm (by decide +kernel) (pa_cons he (pa_cons ht pa_nil (star_cons rfl _ _)) (star_cons hs _ _)) (by decide) (by decide) (star_cons hs _ _) (back_plain (by rfl) _ _)) fun σ H Q h => ?_
  refine tOf_bind (g := fun _ x h => match x with
    | .tup _ => .ok (.bl true) h
    | .non => .ok (.bl false) h
    | _ => .stuck) h fun as h1 ρ z v H1 r1 re q f => ?_
  cases z <;> first | exact f.elim | skip
  · rw [q.non_inv]
    exact ⟨.non, .ty "tuple", _, _, false, rfl, .ty _, .base .non, kit_ty (by decide +kernel), FinV.self f r1 (.bl _)⟩
  · obtain ⟨p, vs, rfl, h1, h2⟩ := q.tup_inv
    have ty : TyX X.K H1 (.ref p) (.type "tuple") := by
      rcases h1 with (h1 | ⟨o, h1⟩) | ⟨o, its, n, h1, h2, _⟩
      · exact .base (.tup h1)
      · exact .fTuple h1
      · exact .kTuple h1 h2
    exact ⟨.ref p, .ty "tuple", _, _, true, rfl, .ty _, ty, kit_ty (by decide +kernel), FinV.self f r1 (.bl _)⟩

/-! ### targets -/
/-- the slots that may have changed -/
def SetOn (is : List Nat) (σ σ' : L2.St) : Prop := σ'.length = σ.length ∧ ∀ j, j ∉ is → σ'[j]? = σ[j]?
theorem SetOn.refl {is : List Nat} {σ : L2.St} : SetOn is σ σ := ⟨rfl, fun _ _ => rfl⟩
theorem SetOn.set {is : List Nat} {σ σ' : L2.St} {i : Nat} {v : Option V} (h : SetOn is σ σ') (hi : i ∈ is) : SetOn is σ (σ'.set i v) := by
  refine ⟨by simp [h.1], fun j hj => ?_⟩
  rw [List.getElem?_set_ne (by rintro rfl; exact hj hi)]
  exact h.2 j hj
def gOf (T : Tb) (K : PySem.W.Frag) (is : List Nat) (t : Z → Ev → Mh → Res Ev) : TG := fun v σ H Q => ∃ as h ρ z, RH T K as H h ∧ RE K as H σ ρ ∧ RZ K as H z v ∧
  Fin T K as H (fun ρ' _ as' H' => ∀ σ', RE K as' H' σ' ρ' → SetOn is σ σ' → Q σ' H') (t z ρ h)
theorem PG.imp {e : Expr} {t t' : TG} (h : PG X e t) (i : ∀ v σ H Q, t' v σ H Q → t v σ H Q) : PG X e t' := ⟨fun pins s σ H v u Q I r q => h.run pins s σ H v u Q I r (i v σ H Q q)⟩
theorem lg_nm {i : Nat} {x : Str} (hN : X.N.Nodup) (hi : X.N[i]? = some x) (hx : Loc X.env.scope x) (hf : X.fn x = true ∨ X.env.scope.names.lookup x = some .local) : PG X (.Name x pos) (gOf T X.K [i] (tgt (.nm i))) := by
  refine PG.imp (pg_name hN hi hx hf) fun v σ H Q ⟨as, h, ρ, z, rh, re, q, f⟩ => ?_
  exact Fin.self f rh _ (re.set q i) (SetOn.refl.set (by simp))
def gOfs (T : Tb) (K : PySem.W.Frag) (is : List Nat) : TGs := fun vs σ H Q => ∃ as h ρ zs ρ', RH T K as H h ∧ RE K as H σ ρ ∧ RZs K as H zs vs ∧ setAll is zs ρ = some ρ' ∧ ∀ σ', RE K as H σ' ρ' → SetOn is σ σ' → Q σ' H
theorem PGs.imp {e : List Expr} {t t' : TGs} (h : PGs X e t) (i : ∀ v σ H Q, t' v σ H Q → t v σ H Q) : PGs X e t' := ⟨fun pins s σ H v u Q I r q => h.run pins s σ H v u Q I r (i v σ H Q q)⟩
theorem SetOn.mono {is js : List Nat} {σ σ' : L2.St} (h : SetOn is σ σ') (s : ∀ i ∈ is, i ∈ js) : SetOn js σ σ' := ⟨h.1, fun j hj => h.2 j fun q => hj (s j q)⟩
theorem SetOn.trans {is : List Nat} {σ σ' σ2 : L2.St} (h : SetOn is σ σ') (g : SetOn is σ' σ2) : SetOn is σ σ2 := ⟨g.1.trans h.1, fun j hj => (g.2 j hj).trans (h.2 j hj)⟩
theorem lgs_nil : PGs X [] (gOfs T X.K []) := by
  refine PGs.imp pgs_nil fun vs σ H Q ⟨as, h, ρ, zs, ρ', rh, re, q, e, k⟩ => ?_
  cases zs with
  | nil =>
    cases q
    simp only [setAll, Option.some.injEq] at e
    subst e
    exact ⟨rfl, k σ re SetOn.refl⟩
  | cons z zs => simp [setAll] at e
theorem assign_each {e : Expr} (h : noStar e = true) (es : List Expr) (env : Env) : (assignEach (e :: es) env).map (·.2) = assign e env :: (assignEach es env).map (·.2) := by
  cases e <;> first | rfl | cases h
theorem lgs_cons {i : Nat} {is : List Nat} {x : Str} {es : List Expr} (hN : X.N.Nodup) (hi : X.N[i]? = some x) (hx : Loc X.env.scope x) (hf : X.fn x = true ∨ X.env.scope.names.lookup x = some .local) (h : PGs X es (gOfs T X.K is)) :
    PGs X (.Name x pos :: es) (gOfs T X.K (i :: is)) := by
  refine PGs.imp (pgs_cons (pg_name hN hi hx hf) h (assign_each rfl _ _)) fun vs σ H Q ⟨as, h, ρ, zs, ρ', rh, re, q, e, k⟩ => ?_
  cases zs with
  | nil => simp [setAll] at e
  | cons z zs =>
    cases q with
    | cons r rs =>
      refine ⟨_, _, rfl, as, h, ρ.set i (some z), zs, ρ', rh, re.set r i, rs, by simpa [setAll] using e, fun σ' re' so => ?_⟩
      refine k σ' re' ?_
      exact (SetOn.refl.set (is := i :: is) (by simp)).trans (so.mono fun j hj => List.mem_cons_of_mem _ hj)
theorem setAll_len : ∀ {is : List Nat} {zs : List Z} {ρ ρ' : Ev}, setAll is zs ρ = some ρ' → zs.length = is.length
  | [], [], _, _, _ => rfl
  | [], _ :: _, _, _, e => by simp [setAll] at e
  | _ :: _, [], _, _, e => by simp [setAll] at e
  | i :: is, z :: zs, ρ, ρ', e => by
    simp only [setAll] at e
    rw [List.length_cons, List.length_cons, setAll_len e]
theorem PG.or {e : Expr} {t t' : TG} (h : PG X e t) (h' : PG X e t') : PG X e (fun v σ H Q => t v σ H Q ∨ t' v σ H Q) :=
  ⟨fun pins s σ H v u Q I r q => q.elim (h.run pins s σ H v u Q I r) (h'.run pins s σ H v u Q I r)⟩
theorem lg_tup {es : List Expr} {k : Nat} {is : List Nat} (hc : X.calm = true) (h : PGs X es (gOfs T X.K is)) (hn : (assignEach es X.env).length = is.length) (hst : (assignEach es X.env).findIdx? (·.1) = none) : PG X (.Tuple es k pos) (gOf T X.K is (tgt (.tup is))) := by
  refine PG.imp (PG.or (pg_tup hc h hn hst) (pg_lst hc h hn hst)) fun v σ H Q ⟨as, h, ρ, z, rh, re, q, f⟩ => ?_
  cases z <;> first | exact f.elim | skip
  · rename_i zs
    obtain ⟨ρ', e, f⟩ := oRes_inv f
    obtain ⟨p, vs, rfl, h1, h2⟩ := q.tup_inv
    refine .inl ⟨p, vs, rfl, h1, ?_, as, h, ρ, zs, ρ', rh, re, h2, e, fun σ' re' so => Fin.self f rh σ' re' so⟩
    rw [← h2.length, setAll_len e]
  · rename_i n
    obtain ⟨p, rfl, ep⟩ := q.ob_inv
    simp only [tgt] at f
    split at f <;> try exact f.elim
    rename_i zs hz
    obtain ⟨ρ', e, f⟩ := oRes_inv f
    obtain ⟨vs, h1, h2⟩ := rh.lst hz ep
    refine .inr ⟨p, vs, rfl, SqL.of h1, ?_, as, h, ρ, zs, ρ', rh, re, h2, e, fun σ' re' so => Fin.self f rh σ' re' so⟩
    rw [← h2.length, setAll_len e]

/-! ### what is walked -/
/-- J walks w -/
def ItOk (T : Tb) (K : PySem.W.Frag) (as0 : List Addr) (H0 : Hp) (J : It) (w : Wk) : Prop := ∀ as H h i, Ext K as0 H0 as H → RH T K as H h → w.still h →
  (i < w.items.length → J.go i H ∧ ∀ x H', J.yld i H x H' → ∃ z, w.items[i]? = some z ∧ Ext K as H as H' ∧ RH T K as H' h ∧ RZ K as H' z x) ∧ (i = w.items.length → J.stop i H)
def iOf (T : Tb) (K : PySem.W.Frag) (m : Ev → Mh → Res Wk) : TI := fun σ H R => ∃ as h ρ, RH T K as H h ∧ RE K as H σ ρ ∧ Fin T K as H (fun w h' as' H' => w.still h' → ∀ J, ItOk T K as' H' J w → R J H') (m ρ h)
theorem PI.imp {tg e : Expr} {t t' : TI} (h : PI X tg e t) (i : ∀ σ H R, t' σ H R → t σ H R) : PI X tg e t' := ⟨fun pins s σ H R I q => h.run pins s σ H R I (i σ H R q)⟩
theorem lst_it {as0 : List Addr} {H0 : Hp} {n : Nat} {p : Addr} {zs : List Z} (ep : as0[n]? = some p) : ItOk T K as0 H0 (Itl K p) ⟨zs, fun h => h[n]? = some (.lst zs)⟩ := by
  intro as H h i e rh st
  obtain ⟨vs, h1, h2⟩ := rh.lst st (e.get ep)
  refine ⟨fun hi => ⟨⟨vs, vs[i]'(by rw [← h2.length]; exact hi), SqL.of h1, by simp⟩, fun x H' y => ?_⟩, fun hi => ⟨vs, SqL.of h1, by rw [← h2.length]; exact Nat.le_of_eq hi.symm⟩⟩
  obtain ⟨rfl, y⟩ := y
  obtain ⟨v, g1, g2⟩ := h2.get (i := i) (List.getElem?_eq_getElem hi)
  have ex := y vs (SqL.of h1)
  rw [g1] at ex
  cases ex
  exact ⟨_, List.getElem?_eq_getElem hi, Ext.refl, rh, g2⟩
theorem fro_it {as0 : List Addr} {H0 : Hp} {n : Nat} {p : Addr} {zs : List Z} (ep : as0[n]? = some p) : ItOk T K as0 H0 (Itl K p) ⟨zs, fun h => h[n]? = some (.fro zs)⟩ := by
  intro as H h i e rh st
  obtain ⟨vs, h1, h2⟩ := rh.fro st (e.get ep)
  have hq : SqL K H p vs := h1
  refine ⟨fun hi => ⟨⟨vs, vs[i]'(by rw [← h2.length]; exact hi), hq, by simp⟩, fun x H' y => ?_⟩, fun hi => ⟨vs, hq, by rw [← h2.length]; exact Nat.le_of_eq hi.symm⟩⟩
  obtain ⟨rfl, y⟩ := y
  obtain ⟨v, g1, g2⟩ := h2.get (i := i) (List.getElem?_eq_getElem hi)
  have ex := y vs hq
  rw [g1] at ex
  cases ex
  exact ⟨_, List.getElem?_eq_getElem hi, Ext.refl, rh, g2⟩
theorem tup_it {as0 : List Addr} {H0 : Hp} {p : Addr} {zs : List Z} {vs : List V} (hq : SqT K H0 p vs) (hr : RZs K as0 H0 zs vs) : ItOk T K as0 H0 (Itt K p) ⟨zs, fun _ => True⟩ := by
  intro as H h i e rh st
  have h1 := e.tup _ _ hq
  have h2 := hr.mono e
  refine ⟨fun hi => ⟨⟨vs, vs[i]'(by rw [← h2.length]; exact hi), h1, by simp⟩, fun x H' y => ?_⟩, fun hi => ⟨vs, h1, by rw [← h2.length]; exact Nat.le_of_eq hi.symm⟩⟩
  obtain ⟨rfl, y⟩ := y
  obtain ⟨v, g1, g2⟩ := h2.get (i := i) (List.getElem?_eq_getElem hi)
  have ex := y vs h1
  rw [g1] at ex
  cases ex
  exact ⟨_, List.getElem?_eq_getElem hi, Ext.refl, rh, g2⟩
theorem rng_it {as0 : List Addr} {H0 : Hp} {lo hi : Int} : ItOk T K as0 H0 (Itr lo (hi - lo).toNat) ⟨rngZ lo hi, fun _ => True⟩ := by
  intro as H h i e rh st
  have hl : (rngZ lo hi).length = (hi - lo).toNat := by simp [rngZ]
  refine ⟨fun hi' => ⟨?_, fun x H' y => ?_⟩, fun hi' => ?_⟩
  · show i < (hi - lo).toNat
    rw [← hl]; exact hi'
  · obtain ⟨rfl, rfl⟩ := y
    refine ⟨.int (lo + (i : Int)), ?_, Ext.refl, rh, .int _⟩
    show (rngZ lo hi)[i]? = _
    unfold rngZ
    rw [List.getElem?_map, List.getElem?_range (by rw [← hl]; exact hi')]
    rfl
  · show (hi - lo).toNat ≤ i
    rw [← hl]; exact Nat.le_of_eq hi'.symm
theorem rev_it {as0 : List Addr} {H0 : Hp} {hi : Int} : ItOk T K as0 H0 (Itc (0 + (((hi - 0).toNat : Nat) : Int) - 1) (-1) (hi - 0).toNat) ⟨rrngZ hi, fun _ => True⟩ := by
  intro as H h i e rh st
  have hl : (rrngZ hi).length = (hi - 0).toNat := by simp [rrngZ]
  refine ⟨fun hi' => ⟨?_, fun x H' y => ?_⟩, fun hi' => ?_⟩
  · show i < (hi - 0).toNat
    rw [← hl]; exact hi'
  · obtain ⟨rfl, rfl⟩ := y
    refine ⟨_, ?_, Ext.refl, rh, .int _⟩
    show (rrngZ hi)[i]? = _
    unfold rrngZ
    rw [List.getElem?_map, List.getElem?_range (by have : i < (hi - 0).toNat := by rw [← hl]; exact hi'
                                                   simpa using this)]
    rfl
  · show (hi - 0).toNat ≤ i
    rw [← hl]; exact Nat.le_of_eq hi'.symm
noncomputable abbrev mSeq (m : Ev → Mh → Res Z) : Ev → Mh → Res Wk := fun ρ h => (m ρ h).bind fun x h => wkSeq x h
/-- a list or a tuple is walked: one rule for both -/
theorem pi_seq {tg l : Expr} {tl : TE} (hl : PE X l tl) : PI X tg l (fun σ H R => tl σ H fun x H1 => (∃ a, x = .ref a ∧ (∃ xs, SqL X.K H1 a xs) ∧ R (Itl X.K a) H1) ∨ ∃ a, x = .ref a ∧ (∃ xs, SqT X.K H1 a xs) ∧ R (Itt X.K a) H1) := by
  refine ⟨fun pins s σ H R I h => ?_⟩
  refine thn (hl.run pins s σ H _ I h) fun v s1 ⟨x, H1, I1, r1, q1⟩ => ?_
  rcases q1 with ⟨a, e, ⟨xs, hq⟩, q⟩ | ⟨a, e, ⟨xs, hq⟩, q⟩
  · subst e
    cases r1
    obtain ⟨its, rv, p, hz⟩ := I1.list hq
    refine wpAny_pyIter_list p.isList ?_
    refine ⟨s1.heap.objs.size, [s1.heap.objs.size], _, _, H1, rfl, I1.kept (t' := s1.toks) fun b o e => Heap.get?_push_of_some _ e, turn_list a _, ⟨_, Heap.get?_push_size _ rfl, rfl, rfl⟩, fun b hb => ?_, q⟩
    have e : b = s1.heap.objs.size := by simpa using hb
    subst e
    exact I1.fpOk (Nat.le_refl _) (I1.hok.fresh (Nat.le_refl _))
  · subst e
    cases r1
    obtain ⟨its, rv, p, hz⟩ := I1.tuple hq
    refine wpAny_pyIter_tuple (show s1.heap.IsTuple a its.toArray from p) ?_
    refine ⟨s1.heap.objs.size, [s1.heap.objs.size], _, _, H1, rfl, I1.kept (t' := s1.toks) fun b o e => Heap.get?_push_of_some _ e, turn_tuple a _, ⟨_, Heap.get?_push_size _ rfl, rfl, rfl⟩, fun b hb => ?_, q⟩
    have e : b = s1.heap.objs.size := by simpa using hb
    subst e
    exact I1.fpOk (Nat.le_refl _) (I1.hok.fresh (Nat.le_refl _))
theorem li_seq {tg e : Expr} {m : Ev → Mh → Res Z} (he : PE X e (tOf T X.K m)) : PI X tg e (iOf T X.K (mSeq m)) := by
  refine PI.imp (pi_seq he) fun σ H R h => ?_
  obtain ⟨as, h0, ρ, rh, re, f⟩ := h
  refine ⟨as, h0, ρ, rh, re, f.bind.mono fun z h1 as1 H1 e1 r1 ⟨_, _, f1⟩ v q => ?_⟩
  cases z <;> first | exact f1.elim | skip
  · obtain ⟨p, vs, rfl, t1, t2⟩ := q.tup_inv
    exact .inr ⟨p, rfl, ⟨vs, t1⟩, Fin.self f1 r1 trivial _ (tup_it t1 t2)⟩
  · rename_i n
    obtain ⟨p, rfl, ep⟩ := q.ob_inv
    simp only [wkSeq] at f1
    split at f1
    · rename_i zs hz
      obtain ⟨vs, g1, g2⟩ := r1.lst hz ep
      exact .inl ⟨p, rfl, ⟨vs, SqL.of g1⟩, Fin.self f1 r1 hz _ (lst_it ep)⟩
    · rename_i zs hz
      obtain ⟨vs, g1, g2⟩ := r1.fro hz ep
      exact .inl ⟨p, rfl, ⟨vs, g1⟩, Fin.self f1 r1 hz _ (fro_it ep)⟩
    · exact f1.elim
noncomputable abbrev mRng1 (m : Ev → Mh → Res Z) : Ev → Mh → Res Wk := fun ρ h => (m ρ h).bind fun x h => wkRng (.int 0) x h
noncomputable abbrev mRng2 (ma mb : Ev → Mh → Res Z) : Ev → Mh → Res Wk := fun ρ h => (ma ρ h).bind fun x h => (mb ρ h).bind fun y h => wkRng x y h
noncomputable abbrev mRev1 (m : Ev → Mh → Res Z) : Ev → Mh → Res Wk := fun ρ h => (m ρ h).bind fun x h => wkRev x h
theorem li_rng1 {tg e : Expr} {np : Pos} {m : Ev → Mh → Res Z} (hg : Gl X "range") (hm : X.mg "range" = none) (he : PE X e (tOf T X.K m)) (hs : noStar e = true) : PI X tg (.Call (.Name "range" np) [e] [] pos) (iOf T X.K (mRng1 m)) := by
  refine PI.imp (pi_range1 hg hm (pa_cons he pa_nil (star_cons hs _ _)) (star_cons hs _ _)) fun σ H R h => ?_
  obtain ⟨as, h0, ρ, rh, re, f⟩ := h
  refine ⟨as, h0, ρ, rh, re, f.bind.mono fun z h1 as1 H1 e1 r1 ⟨_, _, f1⟩ v q => ?_⟩
  cases z <;> first | exact f1.elim | skip
  rename_i j _
  rw [q.int_inv]
  obtain ⟨⟨c1, c2, c3, c4⟩, f2⟩ := Fin.guard f1
  have r := Fin.self f2 r1 trivial _ rng_it
  refine ⟨j, rfl, c3, c4, ?_⟩
  simpa using r
theorem li_rng2 {tg a b : Expr} {np : Pos} {ma mb : Ev → Mh → Res Z} (hg : Gl X "range") (hm : X.mg "range" = none) (ha : PE X a (tOf T X.K ma)) (hb : PE X b (tOf T X.K mb)) (hs : noStar a = true) (hs2 : noStar b = true) : PI X tg (.Call (.Name "range" np) [a, b] [] pos) (iOf T X.K (mRng2 ma mb)) := by
  refine PI.imp (pi_range2 hg hm (pa_cons ha (pa_cons hb pa_nil (star_cons hs2 _ _)) (star_cons hs _ _)) (by rw [star_cons hs, star_cons hs2] <;> rfl) (by rw [star_cons hs2] <;> rfl)) fun σ H R h => ?_
  obtain ⟨as, h0, ρ, rh, re, f⟩ := h
  refine ⟨as, h0, ρ, rh, re, f.bind.mono fun z h1 as1 H1 e1 r1 ⟨_, _, f1⟩ v q => ?_⟩
  refine ⟨as1, h1, ρ, r1, re.mono e1, f1.bind.mono fun y h2 as2 H2 e2 r2 ⟨_, _, f2⟩ w q2 => ?_⟩
  cases z <;> first | exact f2.elim | skip
  cases y <;> first | exact f2.elim | skip
  rename_i i _ j _
  rw [q.int_inv, q2.int_inv]
  obtain ⟨⟨c1, c2, c3, c4⟩, f3⟩ := Fin.guard f2
  exact ⟨i, j, rfl, ⟨c1, c2, c3, c4⟩, Fin.self f3 r2 trivial _ rng_it⟩
theorem li_rev1 {tg e : Expr} {np np2 rp : Pos} {m : Ev → Mh → Res Z} (hg : Gl X "reversed") (hm : X.mg "reversed" = none) (hg2 : Gl X "range") (hm2 : X.mg "range" = none) (he : PE X e (tOf T X.K m)) (hs : noStar e = true) :
    PI X tg (.Call (.Name "reversed" np) [.Call (.Name "range" np2) [e] [] rp] [] pos) (iOf T X.K (mRev1 m)) := by
  refine PI.imp (pi_revR hg hm (prg_1 hg2 hm2 he (star_cons hs _ _)) (star_cons rfl _ _)) fun σ H R h => ?_
  obtain ⟨as, h0, ρ, rh, re, f⟩ := h
  refine ⟨as, h0, ρ, rh, re, f.bind.mono fun z h1 as1 H1 e1 r1 ⟨_, _, f1⟩ v q => ?_⟩
  cases z <;> first | exact f1.elim | skip
  rename_i j _
  rw [q.int_inv]
  obtain ⟨⟨c3, c4⟩, f2⟩ := Fin.guard f1
  exact ⟨j, rfl, by decide, by decide, c3, c4, Fin.self f2 r1 trivial _ rev_it⟩

/-! ### comprehensions -/
theorem wipe_wipe {is vs : List Nat} {σ σ' : L2.St} (h : SetOn is (L2.wipe σ vs) σ') (hs : ∀ i ∈ is, i ∈ vs) : L2.wipe σ' vs = L2.wipe σ vs := by
  have key : ∀ (τ : L2.St) (ws : List Nat) (j : Nat), (L2.wipe τ ws)[j]? = if j ∈ ws then (if j < τ.length then some none else none) else τ[j]? := by
    intro τ ws
    induction ws with
    | nil => intro j; simp [L2.wipe]
    | cons w ws ih =>
      intro j
      show ((L2.wipe τ ws).set w none)[j]? = _
      by_cases hj : w = j
      · subst hj
        rw [if_pos List.mem_cons_self]
        by_cases hl : w < (L2.wipe τ ws).length
        · rw [List.getElem?_set_self hl]
          rw [L2.wipe_length] at hl
          rw [if_pos hl]
        · rw [List.getElem?_eq_none (by simpa using hl)]
          rw [L2.wipe_length] at hl
          rw [if_neg hl]
      · rw [List.getElem?_set_ne hj, ih j]
        by_cases hm : j ∈ ws
        · rw [if_pos hm, if_pos (List.mem_cons_of_mem _ hm)]
        · rw [if_neg hm, if_neg (by simp only [List.mem_cons, not_or]; exact ⟨fun q => hj q.symm, hm⟩)]
  refine List.ext_getElem? fun j => ?_
  rw [key, key]
  by_cases hj : j ∈ vs
  · rw [if_pos hj, if_pos hj, h.1, L2.wipe_length]
  · rw [if_neg hj, if_neg hj, h.2 j fun q => hj (hs j q), key, if_neg hj]
noncomputable abbrev mComp (vs : List Nat) (mi : Ev → Mh → Res Wk) (t : Z → Ev → Mh → Res Ev) (mc : Ev → Mh → Res Bool) (me : Ev → Mh → Res Z) : Ev → Mh → Res Z :=
  fun ρ h => (mi ρ h).bind fun w h => compL h.length w.still t mc me (wipeZ ρ vs) w.items (h ++ [.lst []])
theorem comp_imp {is vs : List Nat} {mi : Ev → Mh → Res Wk} {t : Z → Ev → Mh → Res Ev} {mc : Ev → Mh → Res Bool} {me : Ev → Mh → Res Z} (hs : ∀ i ∈ is, i ∈ vs) {σ : L2.St} {H : Hp} {Q : VK}
    (h : tOf T K (mComp vs mi t mc me) σ H Q) : tLc (iOf T K mi) (gOf T K is t) (tOfB T K mc) (tOf T K me) vs σ H Q := by
  obtain ⟨as, h0, ρ, rh, re, f⟩ := h
  refine ⟨as, h0, ρ, rh, re, f.bind.mono fun w h1 as1 H1 e1 r1 ⟨_, _, f1⟩ st0 J hJ D hD => ?_⟩
  have eD : Ext K as1 H1 (as1 ++ [D]) (upd H1 D (.lst [])) := Ext.newO hD
  have rD : RH T K (as1 ++ [D]) (upd H1 D (.lst [])) (h1 ++ [.lst []]) := r1.push hD ⟨[], upd_same, .nil⟩
  have oD : (as1 ++ [D])[h1.length]? = some D := by rw [← r1.len]; simp
  have reW : RE K (as1 ++ [D]) (upd H1 D (.lst [])) (L2.wipe σ vs) (wipeZ ρ vs) := (re.mono (e1.trans eD)).wipe vs
  refine ⟨fun i m H => m + i = w.items.length ∧ ∃ as h, Ext K (as1 ++ [D]) (upd H1 D (.lst [])) as H ∧ RH T K as H h ∧ FinV T K as H Q (compL h1.length w.still t mc me (wipeZ ρ vs) (w.items.drop i) h),
    ⟨w.items.length, rfl, as1 ++ [D], _, Ext.refl, rD, by rw [List.drop_zero]; exact Fin.weaken eD f1⟩, ?_⟩
  rintro i m H ⟨hm, as2, h2, e2, r2, f2⟩
  have oD2 : as2[h1.length]? = some D := e2.get oD
  by_cases hi : i < w.items.length
  · have hd : w.items.drop i = w.items[i] :: w.items.drop (i + 1) := List.drop_eq_getElem_cons hi
    rw [hd, compL] at f2
    obtain ⟨st, f2⟩ := Fin.guard f2
    obtain ⟨go, yl⟩ := (hJ as2 H h2 i (eD.trans e2) r2 st).1 hi
    refine .inr ⟨go, fun H' => (m - 1) + (i + 1) = w.items.length ∧ ∃ as h, Ext K (as1 ++ [D]) (upd H1 D (.lst [])) as H' ∧ RH T K as H' h ∧ FinV T K as H' Q (compL h1.length w.still t mc me (wipeZ ρ vs) (w.items.drop (i + 1)) h),
      fun H' n => ⟨m - 1, by omega, n⟩, fun x H' y => ?_⟩
    obtain ⟨z, ez, e3, r3, q⟩ := yl x H' y
    rw [List.getElem?_eq_getElem hi] at ez
    cases ez
    have f3 := Fin.weaken e3 f2
    refine ⟨as2, h2, _, _, r3, reW.mono (e2.trans e3), q, f3.bind.mono fun ρ4 h4 as4 H4 e4 r4 ⟨_, _, f4⟩ σ4 re4 so => ?_⟩
    refine ⟨wipe_wipe so hs, as4, h4, ρ4, r4, re4, f4.bind.mono fun b h5 as5 H5 e5 r5 ⟨_, _, f5⟩ => ?_⟩
    have eA : Ext K (as1 ++ [D]) (upd H1 D (.lst [])) as5 H5 := e2.trans (e3.trans (e4.trans e5))
    cases b with
    | false =>
      dsimp only
      rw [if_neg Bool.false_ne_true]
      exact ⟨by omega, as5, h5, eA, r5, f5⟩
    | true =>
      dsimp only
      rw [if_pos rfl]
      refine ⟨as5, h5, ρ4, r5, re4.mono e5, Fin.mono (Fin.bind f5) fun y h6 as6 H6 e6 r6 ⟨_, _, f6⟩ u qy => ?_⟩
      have oD6 : as6[h1.length]? = some D := (eA.trans e6).get oD
      split at f6
      · rename_i acc hacc
        obtain ⟨cl, f6⟩ := Fin.guard f6
        obtain ⟨us, u1, u2⟩ := r6.lst hacc oD6
        have hM : Mut (H6 D) := by rw [u1]; exact trivial
        have eN : Ext K as6 H6 as6 (upd H6 D (.lst (us ++ [u]))) := Ext.set hM
        refine ⟨us, u1, by rw [← u2.length]; exact cl, by omega, as6, _, (eA.trans e6).trans eN, r6.set (ob := .lst (acc ++ [y])) oD6 hM (fun _ q => by rw [hacc] at q; cases q) ⟨_, upd_same, (u2.append (.cons qy .nil)).mono eN⟩, Fin.weaken eN f6⟩
      · exact f6.elim
  · have hi2 : i = w.items.length := by omega
    rw [List.drop_eq_nil_of_le (by omega), compL] at f2
    obtain ⟨st, f2⟩ := Fin.guard f2
    exact .inl ⟨(hJ as2 H h2 i (eD.trans e2) r2 st).2 hi2, FinV.self f2 r2 (.ob oD2)⟩
theorem lts_nil : PTs X [] (tOfB T X.K fun _ h => .ok true h) := by
  refine ⟨fun pins s σ H Q I h => pts_nil.run pins s σ H Q I ?_⟩
  obtain ⟨as, h0, ρ, rh, re, f⟩ := h
  exact Fin.self f rh

/-! ### statements -/
def FinS (T : Tb) (K : PySem.W.Frag) (as : List Addr) (H : Hp) (D : Ends) (r : Res Fl) : Prop := Fin T K as H (fun fl _ as' H' => match fl with
  | .nx ρ => ∀ σ', RE K as' H' σ' ρ → D.nx σ' H'
  | .brk ρ => ∀ σ', RE K as' H' σ' ρ → D.bk σ' H'
  | .cont ρ => ∀ σ', RE K as' H' σ' ρ → D.ct σ' H'
  | .ret z => ∀ v, RZ K as' H' z v → D.rt v H') r
def sOf (T : Tb) (K : PySem.W.Frag) (m : Ev → Mh → Res Fl) : TS := fun D σ H => ∃ as h ρ, RH T K as H h ∧ RE K as H σ ρ ∧ FinS T K as H D (m ρ h)
theorem ls_asg {tg e : Expr} {is : List Nat} {t : Z → Ev → Mh → Res Ev} (he : PE X e (tOf T X.K ma)) (hg : PG X tg (gOf T X.K is t)) (hs : swapsWithSole [tg] e pos.line X.env = pure false) (hw : swappedStores [tg] e X.env = pure none)
    (h1 : (assignEach [tg] X.env).map (·.2) = [assign tg X.env]) : PS X (.Assign [tg] e pos) (sOf T X.K fun ρ h => (ma ρ h).bind fun x h => (t x ρ h).bind fun ρ h => .ok (.nx ρ) h) := by
  refine PS.imp (ps_asg he hg hs hw h1) fun D σ H h => ?_
  obtain ⟨as, h0, ρ, rh, re, f⟩ := h
  refine ⟨as, h0, ρ, rh, re, Fin.mono (Fin.bind f) fun z h1 as1 H1 e1 r1 ⟨_, _, f1⟩ v q => ?_⟩
  exact ⟨as1, h1, ρ, z, r1, re.mono e1, q, f1.bind.mono fun ρ2 h2 as2 H2 e2 r2 ⟨_, _, f2⟩ σ' re' so => Fin.self f2 r2 σ' re'⟩
end Zm
namespace Zm
open PySem PySem.Spec PyProof.Rows L2
variable {T : Tb} {X : Cx} {K : PySem.W.Frag}
variable {a b c : Expr} {ma mb mc : Ev → Mh → Res Z} {rest : List Expr} {pos : Pos}

noncomputable abbrev mAsg (ma : Ev → Mh → Res Z) (t : Z → Ev → Mh → Res Ev) : Ev → Mh → Res Fl := fun ρ h => (ma ρ h).bind fun x h => (t x ρ h).bind fun ρ h => .ok (.nx ρ) h
theorem asg_imp {is : List Nat} {t : Z → Ev → Mh → Res Ev} {te : TE} {g : TG} (h1 : ∀ σ H Q, tOf T K ma σ H Q → te σ H Q) (h2 : ∀ v σ H Q, gOf T K is t v σ H Q → g v σ H Q) {D : Ends} {σ : L2.St} {H : Hp} (h : sOf T K (mAsg ma t) D σ H) : tAsg te g D σ H := by
  obtain ⟨as, h0, ρ, rh, re, f⟩ := h
  refine h1 _ _ _ ⟨as, h0, ρ, rh, re, Fin.mono (Fin.bind f) fun z h1 as1 H1 e1 r1 ⟨_, _, f1⟩ v q => h2 _ _ _ _ ?_⟩
  exact ⟨as1, h1, ρ, z, r1, re.mono e1, q, f1.bind.mono fun ρ2 h2 as2 H2 e2 r2 ⟨_, _, f2⟩ σ' re' so => Fin.self f2 r2 σ' re'⟩
/-- name = value -/
theorem ls_set {i : Nat} {x : Str} {e : Expr} {pos' : Pos} (hN : X.N.Nodup) (hi : X.N[i]? = some x) (hx : Loc X.env.scope x) (hf : X.fn x = true ∨ X.env.scope.names.lookup x = some .local) (he : PE X e (tOf T X.K ma)) (hs : noComp e = true) :
    PS X (.Assign [.Name x pos'] e pos) (sOf T X.K (mAsg ma (tgt (.nm i)))) :=
  PS.imp (ps_set hN hi hx he (swaps_no hs _ _ _) hf) fun D σ H h => asg_imp (is := [i]) (fun _ _ _ h => h) (fun v σ H Q ⟨as, h, ρ, z, rh, re, q, f⟩ => Fin.self f rh _ (re.set q i) (SetOn.refl.set (by simp))) h
/-- name = [..] -/
theorem ls_setLc {i : Nat} {y : Str} {py : Pos} {elt tg iter : Expr} {ifs : List Expr} {scope : Scope} {own : List (Str × Nat)} {pos' spos : Pos} {is : List Nat} {mi : Ev → Mh → Res Wk} {t : Z → Ev → Mh → Res Ev} {mt : Ev → Mh → Res Bool} {me : Ev → Mh → Res Z}
    (hc : X.calm = true) (hN : X.N.Nodup) (hy : X.N[i]? = some y) (hyl : X.env.scope.names.lookup y = some .local)
    (hsw : swapsWith (.ListComp elt [⟨tg, iter, ifs, 0⟩] scope pos') (some (.Name y py)) spos.line X.env = pure true) (hi : PI X tg iter (iOf T X.K mi)) (ok : BlkOk X.N X.env.scope scope own)
    (hg : ∀ (s : Shared) (H : Hp) (C : Addr) (cl : List (Str × Addr)) (fp : List Addr), PG (X.blk s H scope (compEnvC scope cl C X.env) fp) tg (gOf T X.K is t)) (ht : ∀ (s : Shared) (H : Hp) (C : Addr) (cl : List (Str × Addr)) (fp : List Addr), PTs (X.blk s H scope (compEnvC scope cl C X.env) fp) ifs (tOfB T X.K mt))
    (he : ∀ (s : Shared) (H : Hp) (C : Addr) (cl : List (Str × Addr)) (fp : List Addr), PE (X.blk s H scope (compEnvC scope cl C X.env) fp) elt (tOf T X.K me)) (hs : noSet iter = true) (hv : ∀ j ∈ is, j ∈ own.map (·.2)) :
    PS X (.Assign [.Name y py] (.ListComp elt [⟨tg, iter, ifs, 0⟩] scope pos') spos) (sOf T X.K (mAsg (mComp (own.map (·.2)) mi t mt me) (tgt (.nm i)))) :=
  PS.imp (ps_setLc hc hN hy hyl hsw hi ok hg ht he (set_no hs _)) fun D σ H h => asg_imp (is := [i]) (fun _ _ _ h => comp_imp hv h) (fun v σ H Q ⟨as, h, ρ, z, rh, re, q, f⟩ => Fin.self f rh _ (re.set q i) (SetOn.refl.set (by simp))) h
theorem le_comp {elt tg iter : Expr} {ifs : List Expr} {scope : Scope} {own : List (Str × Nat)} {is : List Nat} {mi : Ev → Mh → Res Wk} {t : Z → Ev → Mh → Res Ev} {mt : Ev → Mh → Res Bool} {me : Ev → Mh → Res Z}
    (hc : X.calm = true) (hN : X.N.Nodup) (hi : PI X tg iter (iOf T X.K mi)) (ok : BlkOk X.N X.env.scope scope own)
    (hg : ∀ (s : Shared) (H : Hp) (C : Addr) (cl : List (Str × Addr)) (fp : List Addr), PG (X.blk s H scope (compEnvC scope cl C X.env) fp) tg (gOf T X.K is t)) (ht : ∀ (s : Shared) (H : Hp) (C : Addr) (cl : List (Str × Addr)) (fp : List Addr), PTs (X.blk s H scope (compEnvC scope cl C X.env) fp) ifs (tOfB T X.K mt))
    (he : ∀ (s : Shared) (H : Hp) (C : Addr) (cl : List (Str × Addr)) (fp : List Addr), PE (X.blk s H scope (compEnvC scope cl C X.env) fp) elt (tOf T X.K me)) (hs : noSet iter = true) (hv : ∀ j ∈ is, j ∈ own.map (·.2)) :
    PE X (.ListComp elt [⟨tg, iter, ifs, 0⟩] scope pos) (tOf T X.K (mComp (own.map (·.2)) mi t mt me)) :=
  PE.imp (pe_lc hc hN hi ok hg ht he (set_no hs _)) fun _ _ _ h => comp_imp hv h
theorem stores_no {tg e : Expr} (h : noDisp tg = true ∨ noDisp e = true) (env : Env) : swappedStores [tg] e env = pure none := by
  rcases h with h | h
  · cases tg <;> first | rfl | cases h
  · cases tg <;> first | rfl | (cases e <;> first | rfl | cases h)
theorem swaps_sole {tg e : Expr} (h : noComp e = true) (l : Nat) (env : Env) : swapsWithSole [tg] e l env = pure false := by
  unfold swapsWithSole
  exact swaps_no h _ _ _
/-- a, b = value -/
theorem ls_tup {es : List Expr} {k : Nat} {p2 : Pos} {e : Expr} {is : List Nat} (he : PE X e (tOf T X.K ma)) (hg : PG X (.Tuple es k p2) (gOf T X.K is (tgt (.tup is)))) (hs : noComp e = true) (hd : noDisp e = true) :
    PS X (.Assign [.Tuple es k p2] e pos) (sOf T X.K (mAsg ma (tgt (.tup is)))) :=
  PS.imp (ps_asg he hg (swaps_sole hs _ _) (stores_no (.inr hd) _) (assign_each rfl _ _)) fun _ _ _ h => asg_imp (fun _ _ _ h => h) (fun _ _ _ _ h => h) h
theorem PSet.or {r r' : TSet} (h : PSet X r) (h' : PSet X r') : PSet X (fun o i v H Q => r o i v H Q ∨ r' o i v H Q) := by
  intro pins s σ H o i v ov iv u Q I ro ri rv q
  rcases q with q | q
  · exact h pins s σ H o i v ov iv u Q I ro ri rv q
  · exact h' pins s σ H o i v ov iv u Q I ro ri rv q
theorem set_dict (hu : X.A.units + 1 < cLine) : PSet X (fun o i v H Q => ∃ a H', o = .ref a ∧ DPut H a i v H' ∧ Q H') := by
  intro pins s σ H o i v ov iv u Q I ro ri rv ⟨a, H', e, g, q⟩
  subst e
  obtain rfl : ov = Value.ref a := ro
  exact d_setItem hu I g ri rv fun s' I' => ⟨H', I', q⟩
def sOfSet (T : Tb) (K : PySem.W.Frag) : TSet := fun o i v H Q => ∃ as h x y z, RH T K as H h ∧ RZ K as H x o ∧ RZ K as H y i ∧ RZ K as H z v ∧ Fin T K as H (fun _ _ as' H' => Ext K as H as' H' → Q H') (zSet x y z h)
theorem Fin.unit {Q : Unit → Mh → List Addr → Hp → Prop} {as as' : List Addr} {H H' : Hp} {h' : Mh} (f : Fin T K as H Q (.ok () h')) (e : Ext K as H as' H') (r : RH T K as' H' h') : Q () h' as' H' := f as' H' e r
theorem zz_set (hu : X.A.units + 1 < cLine) : PSet X (sOfSet T X.K) := by
  intro pins s σ H o i v ov iv u Q I ro ri rv ⟨as, h, x, y, z, rh, rx, ry, rz, f⟩
  refine (PSet.or set_list (set_dict hu)) pins s σ H o i v ov iv u Q I ro ri rv ?_
  cases x <;> first | exact f.elim | skip
  rename_i n
  obtain ⟨p, rfl, ep⟩ := rx.ob_inv
  simp only [zSet] at f
  split at f
  · rename_i zs he
    cases y <;> first | exact f.elim | skip
    rename_i k
    rw [ry.int_inv]
    dsimp only at f
    split at f
    · rename_i j hj
      obtain ⟨vs, e1, e2⟩ := rh.lst he ep
      have hm : Mut (H p) := by rw [e1]; exact trivial
      refine .inl ⟨p, vs, k, j, rfl, rfl, e1, by rw [← e2.length]; exact hj, ?_⟩
      exact Fin.unit f (Ext.set hm) (rh.set (ob := .lst (zs.set j z)) ep hm (fun _ q => by rw [he] at q; cases q) ⟨_, upd_same, (e2.set rz j).mono (Ext.set hm)⟩) (Ext.set hm)
    · exact f.elim
  · rename_i kvs he
    split at f
    · rename_i k hk
      obtain ⟨c, f⟩ := Fin.guard f
      obtain ⟨kws, e1, e2⟩ := rh.dct he ep
      have hm : Mut (H p) := by rw [e1]; exact trivial
      rw [keyZ_kV hk ry]
      refine .inr ⟨p, _, rfl, DPut.k e1 (by rw [← RKs.length e2]; exact c), ?_⟩
      exact Fin.unit f (Ext.set hm) (rh.set (ob := .dct (putZ kvs k z)) ep hm (fun _ q => by rw [he] at q; cases q) ⟨_, upd_same, RKs.mono (Ext.set hm) (e2.put rz)⟩) (Ext.set hm)
    · exact f.elim
  · exact f.elim
noncomputable abbrev mSub (mo mi : Ev → Mh → Res Z) : Z → Ev → Mh → Res Ev := fun z ρ h => (mo ρ h).bind fun x h => (mi ρ h).bind fun y h => (zSet x y z h).bind fun _ h => .ok ρ h
theorem lg_sub {o i : Expr} {mo mi : Ev → Mh → Res Z} {p2 : Pos} (hu : X.A.units + 1 < cLine) (ho : PE X o (tOf T X.K mo)) (hi : PE X i (tOf T X.K mi)) (hs : noSlice i = true) : PG X (.Subscript o i p2) (gOf T X.K [] (mSub mo mi)) := by
  refine PG.imp (pg_sub ho hi (zz_set (T := T) hu) fun v => by cases i <;> first | rfl | cases hs) fun v σ H Q ⟨as, h, ρ, z, rh, re, q, f⟩ => ?_
  refine ⟨as, h, ρ, rh, re, f.bind.mono fun x h1 as1 H1 e1 r1 ⟨_, _, f1⟩ vo qo => ?_⟩
  refine ⟨as1, h1, ρ, r1, re.mono e1, f1.bind.mono fun y h2 as2 H2 e2 r2 ⟨_, _, f2⟩ vi qi => ?_⟩
  exact ⟨as2, h2, x, y, z, r2, qo.mono e2, qi, q.mono (e1.trans e2), f2.bind.mono fun _ h3 as3 H3 e3 r3 ⟨_, _, f3⟩ e4 => Fin.self f3 r3 σ (re.mono (e1.trans (e2.trans e3))) SetOn.refl⟩
theorem ls_sub {o i e : Expr} {mo mi : Ev → Mh → Res Z} {p2 : Pos} (hu : X.A.units + 1 < cLine) (ho : PE X o (tOf T X.K mo)) (hi : PE X i (tOf T X.K mi)) (hsl : noSlice i = true) (he : PE X e (tOf T X.K ma)) (hs : noComp e = true) :
    PS X (.Assign [.Subscript o i p2] e pos) (sOf T X.K (mAsg ma (mSub mo mi))) :=
  PS.imp (ps_asg he (lg_sub hu ho hi hsl) (swaps_sole hs _ _) (stores_no (.inl rfl) _) (assign_each rfl _ _)) fun _ _ _ h => asg_imp (fun _ _ _ h => h) (fun _ _ _ _ h => h) h
theorem swaps_fld {o : Expr} {x : Str} {p2 : Pos} (e : Expr) (l : Nat) (env : Env) : swapsWith e (some (.Attribute o x p2)) l env = pure false := by
  cases e <;> rfl
/-- o.f = value -/
noncomputable abbrev mFldG (fl : Nat → Nat → Bool) (f : Nat) (mo : Ev → Mh → Res Z) : Z → Ev → Mh → Res Ev := fun z ρ h => (mo ρ h).bind fun x h => (zSetF fl x f z h).bind fun _ h => .ok ρ h
theorem ls_fld {fl : Nat → Nat → Bool} (hfl : ∀ c f, fl c f = true → NoAttr X.K (T.cls c) (T.an f)) {f0 : Nat} {x : Str} {o e : Expr} {mo : Ev → Mh → Res Z} {p2 : Pos} (hx : x = T.an f0) (ho : PE X o (tOf T X.K mo)) (he : PE X e (tOf T X.K ma)) :
    PS X (.Assign [.Attribute o x p2] e pos) (sOf T X.K (mAsg ma (mFldG fl f0 mo))) := by
  subst hx
  refine PS.imp (ps_fld ho he (swaps_fld _ _ _)) fun D σ H h => ?_
  obtain ⟨as, h0, ρ, rh, re, f⟩ := h
  refine ⟨as, h0, ρ, rh, re, Fin.mono (Fin.bind f) fun z h1 as1 H1 e1 r1 ⟨_, _, f1⟩ v q => ?_⟩
  refine ⟨as1, h1, ρ, r1, re.mono e1, f1.bind.bind.mono fun y h2 as2 H2 e2 r2 ⟨_, _, f2⟩ w qw => ?_⟩
  cases y <;> first | exact f2.elim | skip
  rename_i n _
  obtain ⟨p, rfl, ep⟩ := qw.ob_inv
  simp only [zSetF] at f2
  split at f2
  · rename_i c fs hfs
    obtain ⟨⟨c1, c2⟩, f2⟩ := Fin.guard (Fin.bind f2)
    obtain ⟨dx, gs, g1, g2, g3, g4⟩ := r2.ins hfs ep
    have hm : Mut (H2 p) := by rw [g1]; exact trivial
    have ex : Ext X.K as2 H2 as2 (upd H2 p (.ins (T.cls c) dx (putF (T.an f0) v gs))) := Ext.set hm
    have r3 : RH T X.K as2 (upd H2 p (.ins (T.cls c) dx (putF (T.an f0) v gs))) (h2.set n (.ins c (putF' f0 z fs))) :=
      r2.set ep hm (fun _ q => by rw [hfs] at q; cases q) ⟨dx, _, upd_same, put_F (q.mono (e2.trans ex)) (RFs.mono ex g2), g3, put_mem (P := fun f => NoAttr X.K (T.cls c) (T.an f)) (hfl c f0 c2) g4⟩
    refine ⟨p, _, dx, gs, rfl, g1, g3, hfl c f0 c2, by rw [← Paired.length g2]; exact c1, ?_⟩
    obtain ⟨_, _, f4⟩ := f2 as2 _ ex r3
    obtain ⟨_, _, f5⟩ := Fin.self f4 r3
    exact Fin.self f5 r3 σ (re.mono (e1.trans (e2.trans ex)))
  · exact f2.elim
theorem ls_expr {e : Expr} (he : PE X e (tOf T X.K ma)) (hs : noComp e = true) : PS X (.Expr e pos) (sOf T X.K fun ρ h => (ma ρ h).bind fun _ h => .ok (.nx ρ) h) := by
  refine PS.imp (ps_expr he (swaps_no hs _ _ _)) fun D σ H h => ?_
  obtain ⟨as, h0, ρ, rh, re, f⟩ := h
  exact ⟨as, h0, ρ, rh, re, Fin.mono (Fin.bind f) fun z h1 as1 H1 e1 r1 ⟨_, _, f1⟩ v q => Fin.self f1 r1 σ (re.mono e1)⟩
theorem ls_ret {e : Expr} (he : PE X e (tOf T X.K ma)) : PS X (.Return (some e) pos) (sOf T X.K fun ρ h => (ma ρ h).bind fun x h => .ok (.ret x) h) := by
  refine PS.imp (ps_ret he) fun D σ H h => ?_
  obtain ⟨as, h0, ρ, rh, re, f⟩ := h
  exact ⟨as, h0, ρ, rh, re, Fin.mono (Fin.bind f) fun z h1 as1 H1 e1 r1 ⟨_, _, f1⟩ v q => Fin.self f1 r1 v q⟩
theorem ls_retN : PS X (.Return none pos) (sOf T X.K fun _ h => .ok (.ret .non) h) := by
  refine PS.imp ps_retN fun D σ H h => ?_
  obtain ⟨as, h0, ρ, rh, re, f⟩ := h
  exact Fin.self f rh .non .non
theorem ls_pass : PS X (.Pass pos) (sOf T X.K fun ρ h => .ok (.nx ρ) h) := by
  refine PS.imp ps_pass fun D σ H h => ?_
  obtain ⟨as, h0, ρ, rh, re, f⟩ := h
  exact Fin.self f rh σ re
theorem ls_brk : PS X (.Break pos) (sOf T X.K fun ρ h => .ok (.brk ρ) h) := by
  refine PS.imp ps_break fun D σ H h => ?_
  obtain ⟨as, h0, ρ, rh, re, f⟩ := h
  exact Fin.self f rh σ re
theorem ls_cont : PS X (.Continue pos) (sOf T X.K fun ρ h => .ok (.cont ρ) h) := by
  refine PS.imp ps_continue fun D σ H h => ?_
  obtain ⟨as, h0, ρ, rh, re, f⟩ := h
  exact Fin.self f rh σ re
theorem ls_never {st : Stmt} : PS X st (sOf T X.K fun _ _ => .stuck) := PS.imp ps_never fun D σ H h => by
  obtain ⟨as, h0, ρ, rh, re, f⟩ := h
  exact f
theorem lss_nil : PSs X [] (sOf T X.K fun ρ h => .ok (.nx ρ) h) := by
  refine PSs.imp pss_nil fun D σ H h => ?_
  obtain ⟨as, h0, ρ, rh, re, f⟩ := h
  exact Fin.self f rh σ re
noncomputable abbrev mSq (m n : Ev → Mh → Res Fl) : Ev → Mh → Res Fl := fun ρ h => (m ρ h).bind fun fl h => match fl with
  | .nx ρ => n ρ h
  | .brk ρ => .ok (.brk ρ) h
  | .cont ρ => .ok (.cont ρ) h
  | .ret z => .ok (.ret z) h
theorem lss_cons {st : Stmt} {sts : List Stmt} {m n : Ev → Mh → Res Fl} (h1 : PS X st (sOf T X.K m)) (h2 : PSs X sts (sOf T X.K n)) : PSs X (st :: sts) (sOf T X.K (mSq m n)) := by
  refine PSs.imp (pss_cons h1 h2) fun D σ H h => ?_
  obtain ⟨as, h0, ρ, rh, re, f⟩ := h
  refine ⟨as, h0, ρ, rh, re, Fin.mono (Fin.bind f) fun fl h1 as1 H1 e1 r1 ⟨_, _, f1⟩ => ?_⟩
  cases fl with
  | nx ρ1 => exact fun σ' re' => ⟨as1, h1, ρ1, r1, re', f1⟩
  | brk ρ1 => exact fun σ' re' => Fin.self f1 r1 σ' re'
  | cont ρ1 => exact fun σ' re' => Fin.self f1 r1 σ' re'
  | ret z => exact fun v q => Fin.self f1 r1 v q
theorem ls_ite {xc : Ev → Mh → Res Bool} {sa sb : List Stmt} {m n : Ev → Mh → Res Fl} (hc : PT X c (tOfB T X.K xc)) (ha : PSs X sa (sOf T X.K m)) (hb : PSs X sb (sOf T X.K n)) : PS X (.If c sa sb pos) (sOf T X.K fun ρ h => (xc ρ h).bind fun t h => if t then m ρ h else n ρ h) := by
  refine PS.imp (ps_if hc ha hb) fun D σ H h => ?_
  obtain ⟨as, h0, ρ, rh, re, f⟩ := h
  refine ⟨as, h0, ρ, rh, re, Fin.mono (Fin.bind f) fun t h2 as2 H2 e2 r2 ⟨_, _, f2⟩ => ?_⟩
  cases t with
  | true =>
    rw [if_pos rfl]
    exact ⟨as2, h2, ρ, r2, re.mono e2, f2⟩
  | false =>
    rw [if_neg Bool.false_ne_true]
    exact ⟨as2, h2, ρ, r2, re.mono e2, f2⟩
theorem ls_while {xc : Ev → Mh → Res Bool} {sb : List Stmt} {m : Ev → Mh → Res Fl} (hp : PassesOwn (model X.prog X.w) X.A X.env X.xe) (hc : PT X c (tOfB T X.K xc)) (hb : PSs X sb (sOf T X.K m)) : PS X (.While c sb [] pos) (sOf T X.K (whileM xc m)) := by
  refine PS.imp (ps_while hp hc hb) fun D σ H h => ?_
  obtain ⟨as, h0, ρ, rh, re, f⟩ := h
  obtain ⟨n, en⟩ := whileM_ex xc m ρ h0
  rw [en] at f
  refine ⟨fun k σ H => ∃ as h ρ, RH T X.K as H h ∧ RE X.K as H σ ρ ∧ FinS T X.K as H D (whileL xc m k ρ h), ⟨n, as, h0, ρ, rh, re, f⟩, ?_⟩
  rintro k σ H ⟨as, h, ρ, rh, re, f⟩
  cases k with
  | zero => exact f.elim
  | succ k =>
    refine ⟨as, h, ρ, rh, re, Fin.mono (Fin.bind f) fun t h1 as1 H1 e1 r1 ⟨_, _, f1⟩ => ?_⟩
    cases t with
    | false =>
      rw [if_neg Bool.false_ne_true]
      exact Fin.self f1 r1 σ (re.mono e1)
    | true =>
      rw [if_pos rfl]
      refine ⟨fun σ H => ∃ as h ρ, RH T X.K as H h ∧ RE X.K as H σ ρ ∧ FinS T X.K as H D (whileL xc m k ρ h), fun σ' H' w => ⟨k, Nat.lt_succ_self k, w⟩, as1, h1, ρ, r1, re.mono e1, ?_⟩
      refine Fin.mono (Fin.bind f1) fun fl h2 as2 H2 e2 r2 ⟨_, _, f2⟩ => ?_
      cases fl with
      | nx ρ1 => exact fun σ' re' => ⟨as2, h2, ρ1, r2, re', f2⟩
      | cont ρ1 => exact fun σ' re' => ⟨as2, h2, ρ1, r2, re', f2⟩
      | brk ρ1 => exact fun σ' re' => Fin.self f2 r2 σ' re'
      | ret z => exact fun v q => Fin.self f2 r2 v q
theorem ls_for {tg iter : Expr} {sb : List Stmt} {is : List Nat} {mi : Ev → Mh → Res Wk} {t : Z → Ev → Mh → Res Ev} {m : Ev → Mh → Res Fl} (hp : PassesOwn (model X.prog X.w) X.A X.env X.xe) (hc : X.calm = true) (hi : PI X tg iter (iOf T X.K mi)) (hg : PG X tg (gOf T X.K is t)) (hb : PSs X sb (sOf T X.K m)) (hs : noSet iter = true) :
    PS X (.For tg iter sb [] pos) (sOf T X.K fun ρ h => (mi ρ h).bind fun w h => forL w.still t m w.items ρ h) := by
  refine PS.imp (ps_for hp hc hi hg hb (set_no hs _)) fun D σ H h => ?_
  obtain ⟨as, h0, ρ, rh, re, f⟩ := h
  refine ⟨as, h0, ρ, rh, re, Fin.mono (Fin.bind f) fun w h1 as1 H1 e1 r1 ⟨_, _, f1⟩ st0 J hJ => ?_⟩
  refine ⟨fun i m' σ H => m' + i = w.items.length ∧ ∃ as h ρ, Ext X.K as1 H1 as H ∧ RH T X.K as H h ∧ RE X.K as H σ ρ ∧ FinS T X.K as H D (forL w.still t m (w.items.drop i) ρ h),
    ⟨w.items.length, rfl, as1, h1, ρ, Ext.refl, r1, re.mono e1, by rw [List.drop_zero]; exact f1⟩, ?_⟩
  rintro i m' σ H ⟨hm, as2, h2, ρ2, e2, r2, re2, f2⟩
  by_cases hi : i < w.items.length
  · have hd : w.items.drop i = w.items[i] :: w.items.drop (i + 1) := List.drop_eq_getElem_cons hi
    rw [hd, forL] at f2
    obtain ⟨st, f2⟩ := Fin.guard f2
    obtain ⟨go, yl⟩ := (hJ as2 H h2 i e2 r2 st).1 hi
    refine .inr ⟨go, fun σ' H' => (m' - 1) + (i + 1) = w.items.length ∧ ∃ as h ρ, Ext X.K as1 H1 as H' ∧ RH T X.K as H' h ∧ RE X.K as H' σ' ρ ∧ FinS T X.K as H' D (forL w.still t m (w.items.drop (i + 1)) ρ h),
      fun σ' H' n => ⟨m' - 1, by omega, n⟩, fun x H' y => ?_⟩
    obtain ⟨z, ez, e3, r3, q⟩ := yl x H' y
    rw [List.getElem?_eq_getElem hi] at ez
    cases ez
    have f3 := Fin.weaken e3 f2
    refine ⟨as2, h2, ρ2, _, r3, re2.mono e3, q, Fin.mono (Fin.bind f3) fun ρ4 h4 as4 H4 e4 r4 ⟨_, _, f4⟩ σ4 re4 so => ?_⟩
    refine ⟨as4, h4, ρ4, r4, re4, Fin.mono (Fin.bind f4) fun fl h5 as5 H5 e5 r5 ⟨_, _, f5⟩ => ?_⟩
    have eA : Ext X.K as1 H1 as5 H5 := e2.trans (e3.trans (e4.trans e5))
    cases fl with
    | nx ρ5 => exact fun σ' re' => ⟨by omega, as5, h5, ρ5, eA, r5, re', f5⟩
    | cont ρ5 => exact fun σ' re' => ⟨by omega, as5, h5, ρ5, eA, r5, re', f5⟩
    | brk ρ5 => exact fun σ' re' => Fin.self f5 r5 σ' re'
    | ret z => exact fun v q => Fin.self f5 r5 v q
  · have hi2 : i = w.items.length := by omega
    rw [List.drop_eq_nil_of_le (by omega), forL] at f2
    obtain ⟨st, f2⟩ := Fin.guard f2
    exact .inl ⟨(hJ as2 H h2 i e2 r2 st).2 hi2, Fin.self f2 r2 σ re2⟩
/-- x op= e -/
theorem oz_iadd : OpR X (inplaceOp .Add) (rOp T X.K zAddI) := by
  refine int_int (g' := fun i j => .int (i + j)) (rI0_rI iop_add) (fun a b h Q as H f => ?_) fun as H i j => .int _
  cases a <;> cases b <;> first | exact f.elim | exact ⟨_, _, rfl, rfl, trivial, f⟩
theorem oz_isub : OpR X (inplaceOp .Sub) (rOp T X.K zSub) := by
  refine int_int (g' := fun i j => .int (i - j)) (rI0_rI iop_sub) (fun a b h Q as H f => ?_) fun as H i j => .int _
  cases a <;> cases b <;> first | exact f.elim | exact ⟨_, _, rfl, rfl, trivial, f⟩
theorem ls_aug {op : Operator} {g : Z → Z → Mh → Res Z} {i : Nat} {x : Str} {e : Expr} {p2 : Pos} (ho : OpR X (inplaceOp op) (rOp T X.K g)) (hN : X.N.Nodup) (hi : X.N[i]? = some x) (hx : Loc X.env.scope x) (hf : X.fn x = true ∨ X.env.scope.names.lookup x = some .local) (he : PE X e (tOf T X.K ma)) :
    PS X (.AugAssign (.Name x p2) op e pos) (sOf T X.K fun ρ h => match ρ[i]? with
      | some (some x) => (ma ρ h).bind fun y h => (g x y h).bind fun z h => .ok (.nx (ρ.set i (some z))) h
      | _ => .stuck) := by
  refine PS.imp (ps_aug hN hi hx he ho hf) fun D σ H h => ?_
  obtain ⟨as, h0, ρ, rh, re, f⟩ := h
  dsimp only at f
  split at f
  · rename_i z ez
    obtain ⟨v, e1, q⟩ := re.at_ i z ez
    refine ⟨v, e1, as, h0, ρ, rh, re, Fin.mono (Fin.bind f) fun y h1 as1 H1 e1 r1 ⟨_, _, f1⟩ w q1 => ?_⟩
    exact ⟨as1, h1, z, y, r1, q.mono e1, q1, f1.bind.mono fun z2 h2 as2 H2 e2 r2 ⟨_, _, f2⟩ u q2 => Fin.self f2 r2 _ ((re.mono (e1.trans e2)).set q2 i)⟩
  · exact f.elim
end Zm
/-! More rules over deep values: enumerate, dict comprehensions, max with a default, own methods, fields as targets, try. -/
namespace Zm
open PySem PySem.Spec PyProof.Rows L2
variable {T : Tb} {X : Cx} {K : PySem.W.Frag}
variable {a b c : Expr} {ma mb mc : Ev → Mh → Res Z} {rest : List Expr} {pos : Pos}

/-! ### enumerate -/
noncomputable abbrev mEnum (m : Ev → Mh → Res Z) : Ev → Mh → Res Wk := fun ρ h => (m ρ h).bind fun x h => wkEnum x h
theorem enum_it {as0 : List Addr} {H0 : Hp} {n : Nat} {p : Addr} {zs : List Z} (ep : as0[n]? = some p) : ItOk T K as0 H0 (Ite K p) ⟨zs.zipIdx.map fun p => .tup [.int (p.2 : Nat), p.1], fun h => h[n]? = some (.lst zs)⟩ := by
  intro as H h i e rh st
  obtain ⟨vs, h1, h2⟩ := rh.lst st (e.get ep)
  have hlen : (zs.zipIdx.map fun p => Z.tup [.int (p.2 : Nat), p.1]).length = vs.length := by simp [h2.length]
  refine ⟨fun hi => ⟨⟨vs, vs[i]'(by rw [← hlen]; exact hi), SqL.of h1, by simp⟩, fun x H' y => ?_⟩, fun hi => ⟨vs, SqL.of h1, by rw [← hlen]; exact Nat.le_of_eq hi.symm⟩⟩
  obtain ⟨TT, u, rfl, hT, rfl, hu⟩ := y
  have hi' : i < zs.length := by simpa using hi
  obtain ⟨v, g1, g2⟩ := h2.get (i := i) (List.getElem?_eq_getElem hi')
  have ex := hu vs (SqL.of h1)
  rw [g1] at ex
  cases ex
  refine ⟨.tup [.int (i : Nat), zs[i]], by simp [List.getElem?_eq_getElem hi'], Ext.new hT, rh.other hT, .tup (SqT.of upd_same) (.cons (.int _) (.cons (g2.mono (Ext.new hT)) .nil))⟩
theorem li_enum {elts : List Expr} {kk : Nat} {tpos np : Pos} {e : Expr} {m : Ev → Mh → Res Z} (hg : Gl X "enumerate") (hm : X.mg "enumerate" = none) (he : PE X e (tOf T X.K m)) (hs : noStar e = true) : PI X (.Tuple elts kk tpos) (.Call (.Name "enumerate" np) [e] [] pos) (iOf T X.K (mEnum m)) := by
  refine PI.imp (pi_enum hg hm (pa_cons he pa_nil (star_cons hs _ _)) (star_cons hs _ _)) fun σ H R h => ?_
  obtain ⟨as, h0, ρ, rh, re, f⟩ := h
  refine ⟨as, h0, ρ, rh, re, f.bind.mono fun z h1 as1 H1 e1 r1 ⟨_, _, f1⟩ v q => ?_⟩
  cases z <;> first | exact f1.elim | skip
  rename_i n
  obtain ⟨p, rfl, ep⟩ := q.ob_inv
  simp only [wkEnum] at f1
  split at f1 <;> try exact f1.elim
  rename_i zs hz
  obtain ⟨vs, g1, g2⟩ := r1.lst hz ep
  exact ⟨p, vs, rfl, SqL.of g1, Fin.self f1 r1 hz _ (enum_it ep)⟩

/-! ### dict comprehensions -/
noncomputable abbrev mDcomp (vs : List Nat) (mi : Ev → Mh → Res Wk) (t : Z → Ev → Mh → Res Ev) (mc : Ev → Mh → Res Bool) (mk me : Ev → Mh → Res Z) : Ev → Mh → Res Z :=
  fun ρ h => (mi ρ h).bind fun w h => dcompL h.length w.still t mc mk me (wipeZ ρ vs) w.items (h ++ [.dct []])
theorem dcomp_imp {is vs : List Nat} {mi : Ev → Mh → Res Wk} {t : Z → Ev → Mh → Res Ev} {mc : Ev → Mh → Res Bool} {mk me : Ev → Mh → Res Z} (hs : ∀ i ∈ is, i ∈ vs) {σ : L2.St} {H : Hp} {Q : VK}
    (h : tOf T K (mDcomp vs mi t mc mk me) σ H Q) : tDc (iOf T K mi) (gOf T K is t) (tOfB T K mc) (tOf T K mk) (tOf T K me) vs σ H Q := by
  obtain ⟨as, h0, ρ, rh, re, f⟩ := h
  refine ⟨as, h0, ρ, rh, re, f.bind.mono fun w h1 as1 H1 e1 r1 ⟨_, _, f1⟩ st0 J hJ D hD => ?_⟩
  have eD : Ext K as1 H1 (as1 ++ [D]) (upd H1 D (.dK [])) := Ext.newO hD
  have rD : RH T K (as1 ++ [D]) (upd H1 D (.dK [])) (h1 ++ [.dct []]) := r1.push hD ⟨[], upd_same, .nil⟩
  have oD : (as1 ++ [D])[h1.length]? = some D := by rw [← r1.len]; simp
  have reW : RE K (as1 ++ [D]) (upd H1 D (.dK [])) (L2.wipe σ vs) (wipeZ ρ vs) := (re.mono (e1.trans eD)).wipe vs
  refine ⟨fun i m H => m + i = w.items.length ∧ ∃ as h, Ext K (as1 ++ [D]) (upd H1 D (.dK [])) as H ∧ RH T K as H h ∧ FinV T K as H Q (dcompL h1.length w.still t mc mk me (wipeZ ρ vs) (w.items.drop i) h),
    ⟨w.items.length, rfl, as1 ++ [D], _, Ext.refl, rD, by rw [List.drop_zero]; exact Fin.weaken eD f1⟩, ?_⟩
  rintro i m H ⟨hm, as2, h2, e2, r2, f2⟩
  have oD2 : as2[h1.length]? = some D := e2.get oD
  by_cases hi : i < w.items.length
  · have hd : w.items.drop i = w.items[i] :: w.items.drop (i + 1) := List.drop_eq_getElem_cons hi
    rw [hd, dcompL] at f2
    obtain ⟨st, f2⟩ := Fin.guard f2
    obtain ⟨go, yl⟩ := (hJ as2 H h2 i (eD.trans e2) r2 st).1 hi
    refine .inr ⟨go, fun H' => (m - 1) + (i + 1) = w.items.length ∧ ∃ as h, Ext K (as1 ++ [D]) (upd H1 D (.dK [])) as H' ∧ RH T K as H' h ∧ FinV T K as H' Q (dcompL h1.length w.still t mc mk me (wipeZ ρ vs) (w.items.drop (i + 1)) h),
      fun H' n => ⟨m - 1, by omega, n⟩, fun x H' y => ?_⟩
    obtain ⟨z, ez, e3, r3, q⟩ := yl x H' y
    rw [List.getElem?_eq_getElem hi] at ez
    cases ez
    have f3 := Fin.weaken e3 f2
    refine ⟨as2, h2, _, _, r3, reW.mono (e2.trans e3), q, f3.bind.mono fun ρ4 h4 as4 H4 e4 r4 ⟨_, _, f4⟩ σ4 re4 so => ?_⟩
    refine ⟨wipe_wipe so hs, as4, h4, ρ4, r4, re4, f4.bind.mono fun b h5 as5 H5 e5 r5 ⟨_, _, f5⟩ => ?_⟩
    have eA : Ext K (as1 ++ [D]) (upd H1 D (.dK [])) as5 H5 := e2.trans (e3.trans (e4.trans e5))
    cases b with
    | false =>
      dsimp only
      rw [if_neg Bool.false_ne_true]
      exact ⟨by omega, as5, h5, eA, r5, f5⟩
    | true =>
      dsimp only
      rw [if_pos rfl]
      refine ⟨as5, h5, ρ4, r5, re4.mono e5, Fin.mono (Fin.bind f5) fun k h6 as6 H6 e6 r6 ⟨_, _, f6⟩ uk qk => ?_⟩
      refine ⟨as6, h6, ρ4, r6, re4.mono (e5.trans e6), Fin.mono (Fin.bind f6) fun y h7 as7 H7 e7 r7 ⟨_, _, f7⟩ u qy => ?_⟩
      have oD7 : as7[h1.length]? = some D := (eA.trans (e6.trans e7)).get oD
      split at f7
      · rename_i acc x hacc hx
        obtain ⟨cl, f7⟩ := Fin.guard f7
        obtain ⟨us, u1, u2⟩ := r7.dct hacc oD7
        have hM : Mut (H7 D) := by rw [u1]; exact trivial
        have eN : Ext K as7 H7 as7 (upd H7 D (.dK (putK us x u))) := Ext.set hM
        refine ⟨us, x, keyZ_kV hx qk, u1, by rw [← RKs.length u2]; exact cl, by omega, as7, _, (eA.trans (e6.trans e7)).trans eN, r7.set (ob := .dct (putZ acc x y)) oD7 hM (fun _ q => by rw [hacc] at q; cases q) ⟨_, upd_same, RKs.mono eN (RKs.put qy u2)⟩, Fin.weaken eN f7⟩
      · exact f7.elim
  · have hi2 : i = w.items.length := by omega
    rw [List.drop_eq_nil_of_le (by omega), dcompL] at f2
    obtain ⟨st, f2⟩ := Fin.guard f2
    exact .inl ⟨(hJ as2 H h2 i (eD.trans e2) r2 st).2 hi2, FinV.self f2 r2 (.ob oD2)⟩
theorem le_dcomp {kx vx tg iter : Expr} {ifs : List Expr} {scope : Scope} {own : List (Str × Nat)} {is : List Nat} {mi : Ev → Mh → Res Wk} {t : Z → Ev → Mh → Res Ev} {mt : Ev → Mh → Res Bool} {mk me : Ev → Mh → Res Z} (hc : X.calm = true) (hN : X.N.Nodup)
    (hi : PI X tg iter (iOf T X.K mi)) (ok : BlkOk X.N X.env.scope scope own) (hg : ∀ s H Ca cl fp, PG (X.blk s H scope (compEnvC scope cl Ca X.env) fp) tg (gOf T X.K is t)) (ht : ∀ s H Ca cl fp, PTs (X.blk s H scope (compEnvC scope cl Ca X.env) fp) ifs (tOfB T X.K mt))
    (hk : ∀ s H Ca cl fp, PE (X.blk s H scope (compEnvC scope cl Ca X.env) fp) kx (tOf T X.K mk)) (he : ∀ s H Ca cl fp, PE (X.blk s H scope (compEnvC scope cl Ca X.env) fp) vx (tOf T X.K me)) (hs : noSet iter = true) (his : ∀ i ∈ is, i ∈ own.map (·.2)) :
    PE X (.DictComp kx vx [⟨tg, iter, ifs, 0⟩] scope pos) (tOf T X.K (mDcomp (own.map (·.2)) mi t mt mk me)) :=
  PE.imp (pe_dc hc hN hi ok hg ht hk he (set_no hs _)) fun _ _ _ h => dcomp_imp his h

/-- name = {..} on one line, the name a local -/
theorem sw_dict {kx vx : Expr} {gs : List Comprehension} {scope : Scope} {p2 py : Pos} {y : Str} {l : Nat} {env : Env} (hk : env.scope.kind = .function) (hy : env.scope.names.lookup y = some .local) (hl : (py.line == p2.line) = true)
    (ha : (scope.names.any fun (n, k) => n == y && (k == .local || k == .cell)) = false) : swapsWith (.DictComp kx vx gs scope p2) (some (.Name y py)) l env = pure true := by
  have ky : env.kindOf y = some .local := hy
  have hb : env.blockKind = .function := by rw [Env.blockKind, hk]; rfl
  unfold swapsWith
  simp only [hb, ky, ha, hl, Expr.pos]; rfl
theorem ps_setDc {i : Nat} {y : Str} {py : Pos} {kx vx tg iter : Expr} {ifs : List Expr} {scope : Scope} {own : List (Str × Nat)} {p2 spos : Pos} {wi : TI} {g : TG} {tt : TT} {tk tv : TE} (hc : X.calm = true) (hN : X.N.Nodup) (hy : X.N[i]? = some y) (hyl : X.env.scope.names.lookup y = some .local)
    (hsw : swapsWith (.DictComp kx vx [⟨tg, iter, ifs, 0⟩] scope p2) (some (.Name y py)) spos.line X.env = pure true) (hi : PI X tg iter wi) (ok : BlkOk X.N X.env.scope scope own) (hg : ∀ s H Ca cl fp, PG (X.blk s H scope (compEnvC scope cl Ca X.env) fp) tg g) (ht : ∀ s H Ca cl fp, PTs (X.blk s H scope (compEnvC scope cl Ca X.env) fp) ifs tt)
    (hk : ∀ s H Ca cl fp, PE (X.blk s H scope (compEnvC scope cl Ca X.env) fp) kx tk) (he : ∀ s H Ca cl fp, PE (X.blk s H scope (compEnvC scope cl Ca X.env) fp) vx tv) (hs : ∀ x, foldedSetIterable iter X.env x = pure x) :
    PS X (.Assign [.Name y py] (.DictComp kx vx [⟨tg, iter, ifs, 0⟩] scope p2) spos) (tAsg (tDc wi g tt tk tv (own.map (·.2))) (gName i)) := by
  refine ⟨fun pins s σ H D I h => ?_⟩
  rw [exec_Assign_Name_used _ _ _ _ hsw]; refine wpAny_bind (wpAny_standAt (wpAny_bind ?_))
  show wpAny _ X.A (do let _ ← comprehension (.DictComp kx vx [⟨tg, iter, ifs, 0⟩] scope p2) scope X.env (firstIterPos [⟨tg, iter, ifs, 0⟩] p2) newDict false (eval iter X.env) (some (assign (.Name y py) X.env))) _ _ s
  have h : tDc wi g tt tk tv (own.map (·.2)) σ H (fun x H1 => gName i x σ H1 D.nx) := h
  refine wpAny_bind (thn (dc_core (Qf := fun _ s' => SP X pins D .next s') hc hN I hi ok hg ht hk he hs h fun L C s' m H' I' q hn f => ?_) fun _ s' hq => wpAny_pure (wpAny_pure hq)); show wpAny _ _ (assign (.Name y py) X.env (.ref L)) _ _ _
  obtain ⟨f0, f1, f2, f3, f4, f5⟩ := f; refine wpAny_assign_Name (store_ok2 (v := V.ref L) I' hN hy (.inl hyl) rfl (fun s2 I2 ⟨a, sb, ha⟩ => ?_) (.inr hyl))
  have haC : C ≠ a := ha.elim (fun z => by rw [z]; exact f1) fun z e => f4 y a z e.symm
  refine ⟨m, hn.sameBut sb haC, fun h3 sb3 => ⟨_, H', I2.turned (t' := s2.toks) (fun b o hb e => (sb3.2 b hb).trans e) f0 f1 f3 f4 f5, q⟩⟩
theorem ls_setDc {i : Nat} {y : Str} {py : Pos} {kx vx tg iter : Expr} {ifs : List Expr} {scope : Scope} {own : List (Str × Nat)} {p2 spos : Pos} {is : List Nat} {mi : Ev → Mh → Res Wk} {t : Z → Ev → Mh → Res Ev} {mt : Ev → Mh → Res Bool} {mk me : Ev → Mh → Res Z} (hc : X.calm = true) (hN : X.N.Nodup) (hy : X.N[i]? = some y) (hyl : X.env.scope.names.lookup y = some .local)
    (hsw : swapsWith (.DictComp kx vx [⟨tg, iter, ifs, 0⟩] scope p2) (some (.Name y py)) spos.line X.env = pure true) (hi : PI X tg iter (iOf T X.K mi)) (ok : BlkOk X.N X.env.scope scope own) (hg : ∀ s H Ca cl fp, PG (X.blk s H scope (compEnvC scope cl Ca X.env) fp) tg (gOf T X.K is t)) (ht : ∀ s H Ca cl fp, PTs (X.blk s H scope (compEnvC scope cl Ca X.env) fp) ifs (tOfB T X.K mt))
    (hk : ∀ s H Ca cl fp, PE (X.blk s H scope (compEnvC scope cl Ca X.env) fp) kx (tOf T X.K mk)) (he : ∀ s H Ca cl fp, PE (X.blk s H scope (compEnvC scope cl Ca X.env) fp) vx (tOf T X.K me)) (hs : noSet iter = true) (his : ∀ i ∈ is, i ∈ own.map (·.2)) :
    PS X (.Assign [.Name y py] (.DictComp kx vx [⟨tg, iter, ifs, 0⟩] scope p2) spos) (sOf T X.K (mAsg (mDcomp (own.map (·.2)) mi t mt mk me) (tgt (.nm i)))) :=
  PS.imp (ps_setDc hc hN hy hyl hsw hi ok hg ht hk he (set_no hs _)) fun D σ H h => asg_imp (is := [i]) (fun _ _ _ h => dcomp_imp his h) (fun v σ H Q ⟨as, h, ρ, z, rh, re, q, f⟩ => Fin.self f rh _ (re.set q i) (SetOn.refl.set (by simp))) h

/-! ### max(e, default=d) -/
def rMaxDf (T : Tb) (K : PySem.W.Frag) : List V → List V → Hp → VK → Prop := fun xs zs H Q => ∃ as h x d, RH T K as H h ∧ RZs K as H [x] xs ∧ RZs K as H [d] zs ∧ FinV T K as H Q (zMaxD x d h)
theorem cz_maxd (hc : X.calm = true) (hu : X.A.units + 64 < cLine) : CallRK X (.builtin "max") ["default"] (rMaxDf T X.K) := by
  intro pins s σ H xs zs us ws Q I rx rz ⟨as, h, x, d, rh, r1, r2, f⟩
  unfold zMaxD at f
  split at f <;> try exact f.elim
  rename_i ys e
  obtain ⟨v, rfl, q⟩ := r1.one
  obtain ⟨vd, rfl, qd⟩ := r2.one
  obtain ⟨p, vs, rfl, h1, h2⟩ := seqZ_inv rh e q
  obtain rfl := Vals.ref1 rx
  obtain ⟨wd, rfl, rwd⟩ := rz.one
  show wpAny _ _ (call (.builtin "max") [.ref p] [("default", wd)]) _ _ _
  split at f <;> try exact f.elim
  all_goals rename_i eb
  · obtain rfl := intsOf_eq eb
    cases h1
    have fin : Q vd H := FinV.self f rh qd
    have hd : X.A.units + 1 + PyData.depthAll [] < cLine := by simp only [PyData.depthAll]; omega
    rcases h2 with ⟨hl, _⟩ | ⟨ht, _⟩
    · obtain ⟨its, rv, pl, hz⟩ := I.list hl
      cases rv
      exact PySem.W.max_list_default (as := []) (I.ok.hd hc) pl.isList (by exact .nil) (ints_alike []) hd (fun _ h' tk hk => ⟨vd, H, I.kept hk, rwd, fin⟩) fun y ys _ _ _ _ _ e => by cases e
    · obtain ⟨its, rv, pl, hz⟩ := I.tuple ht
      cases rv
      exact PySem.W.max_tuple_default (as := []) (I.ok.hd hc) pl (by exact .nil) (ints_alike []) hd (fun _ h' tk hk => ⟨vd, H, I.kept hk, rwd, fin⟩) fun y ys _ _ _ _ _ e => by cases e
  · rename_i n ns
    obtain rfl := intsOf_eq eb
    obtain rfl := h1.ints_inv
    have fin : Q (.int (ns.foldl max n)) H := FinV.self f rh (.int _)
    have hd : X.A.units + 1 + PyData.depthAll (PyData.int n :: ns.map PyData.int) < cLine := by
      have := ints_depth (n :: ns)
      rw [List.map_cons] at this
      omega
    have go : ∀ {h' tk v bs}, Reads h' v (PySem.W.maxD (.int n) (ns.map PyData.int)) bs → (∀ b o, s.heap.get? b = some o → h'.get? b = some o) → EP X pins σ Q v { s with heap := h', toks := tk } := by
      intro h' tk v bs hr hk
      rw [PySem.W.maxD_ints] at hr
      obtain ⟨t, rfl⟩ := reads_int hr
      exact ⟨.int _, H, I.kept hk, ⟨_, rfl⟩, fin⟩
    rcases h2 with ⟨hl, _⟩ | ⟨ht, _⟩
    · obtain ⟨its, rv, pl, hz⟩ := I.list hl
      obtain ⟨as2, hr⟩ := seq_reads I (ints_dp (n :: ns)) rv
      exact PySem.W.max_list_default (I.ok.hd hc) pl.isList (by simpa using hr) (ints_alike (n :: ns)) hd (fun e => by cases e) fun y ys i v h' tk bs e _ hr hk => by
        cases e
        exact go hr hk
    · obtain ⟨its, rv, pl, hz⟩ := I.tuple ht
      obtain ⟨as2, hr⟩ := seq_reads I (ints_dp (n :: ns)) rv
      exact PySem.W.max_tuple_default (I.ok.hd hc) pl (by simpa using hr) (ints_alike (n :: ns)) hd (fun e => by cases e) fun y ys i v h' tk bs e _ hr hk => by
        cases e
        exact go hr hk
noncomputable abbrev mMaxD (ma mb : Ev → Mh → Res Z) : Ev → Mh → Res Z := fun ρ h => (ma ρ h).bind fun x h => (mb ρ h).bind fun y h => zMaxD x y h
theorem le_maxd {np kp : Pos} (hc : X.calm = true) (hu : X.A.units + 64 < cLine) (ha : PE X a (tOf T X.K ma)) (hb : PE X b (tOf T X.K mb)) (hg : Gl X "max") (hm : X.mg "max" = none) (hs : noStar a = true) :
    PE X (.Call (.Name "max" np) [a] [⟨some "default", b, kp⟩] pos) (tOf T X.K (mMaxD ma mb)) := by
  have hall : [a].all noStar = true := by rw [List.all_cons, hs]; rfl
  refine PE.imp (pe_callBK (cz_maxd (T := T) hc hu) hg hm (by decide +kernel) (pa_cons ha pa_nil (star_cons hs _ _)) (pk_cons hb pk_nil) (by decide) (by decide) (by rw [star_cons hs]; rfl) (back_plain hall _ _)) fun σ H Q h => ?_
  obtain ⟨as, h0, ρ, rh, re, f⟩ := h
  refine ⟨as, h0, ρ, rh, re, f.bind.mono fun x h1 as1 H1 e1 r1 ⟨_, _, f1⟩ v q => ?_⟩
  refine ⟨as1, h1, ρ, r1, re.mono e1, f1.bind.mono fun y h2 as2 H2 e2 r2 ⟨_, _, f2⟩ u qu => ?_⟩
  exact ⟨as2, h2, x, y, r2, .cons (q.mono e2) .nil, .cons qu .nil, f2⟩

/-! ### C(..) with defaults -/
noncomputable abbrev mMkd (c : Nat) (g : List Z → Mh → Res Z) (ms : Ev → Mh → Res (List Z)) (ds : List Z) : Ev → Mh → Res Z := fun ρ h => (ms ρ h).bind fun xs h => (g (.ob h.length :: (xs ++ ds)) (h ++ [.ins c []])).bind fun y h' => match y with | .non => .ok (.ob h.length) h' | _ => .stuck
theorem le_mkd {k : Nat} {f : Addr} {fd : FuncData} {ps : List Str} {c : Nat} {g : List Z → Mh → Res Z} {x : Str} {np : Pos} {e : Expr} {es : List Expr} {ms : Ev → Mh → Res (List Z)} {ds : List Z} {dvs : List V} {dus : List Value} (M : Mk X.K (T.cls c) f) (cl : Cls X.K (T.cls c))
    (F : FnOk X.prog X.w X.K X.mg X.base CX0 k f fd ps (spOf T X.K g)) (hr : Room (k + 1) X.A) (hg : Gl X x) (hm : X.mg x = some (.ref (T.cls c))) (hb : Binds X.K fd ps dus) (hd : Vals dvs dus) (hz : ∀ as H, RZs X.K as H ds dvs)
    (ha : PA X (e :: es) (tOfA T X.K ms)) (hdb : (x == ("__debug__" : Str)) = false) (hs : (e :: es).all noStar = true) :
    PE X (.Call (.Name x np) (e :: es) [] pos) (tOf T X.K (mMkd c g ms ds)) := by
  have hs2 := hs
  rw [List.all_cons, Bool.and_eq_true] at hs2
  refine PE.imp (pe_make (E := E0) M F hr hg hm hb hd pass0 ha hdb (star_cons hs2.1 _ _) (back_plain hs2.2 _ _)) fun σ H Q h => ?_
  refine tOfA_then (g := fun _ xs h => (g (.ob h.length :: (xs ++ ds)) (h ++ [.ins c []])).bind fun y h' => match y with | .non => .ok (.ob h.length) h' | _ => .stuck) h fun as h1 ρ xs vs H1 r1 re q f => ?_
  exact make_imp cl r1 (q.append (hz as H1)) f
/-! ### own methods -/
theorem form_plain {es : List Expr} (h : es.all noStar = true) (hl : es.length < 30) (pos : Pos) (env : Env) : methodCallForm (es.length + ([] : List Keyword).length) (backTo pos (starEach es env)) (backToKw pos (keywordEach [] env)) = true := by
  unfold methodCallForm
  rw [back_all h]
  have : decide (es.length + ([] : List Keyword).length + (if (backToKw pos (keywordEach [] env)).isEmpty then 0 else 1) < 30) = true := by
    apply decide_eq_true
    show es.length + 0 + 0 < 30
    omega
  rw [this]
  rfl
theorem meth_tree {o : Expr} {m : Str} {apos : Pos} {es : List Expr} (env : Env) (hb : noCall o = true) (hs : es.all noStar = true) (hl : es.length < 30) (hline : (apos.endLine == pos.line) = true) :
    eval (.Call (.Attribute o m apos) es [] pos) env = (do
      let ov ← eval o env
      standAt apos.atName
      let (f, first) ← holding [ov] (getMethod ov m (do return (← importBound o env).getD true))
      callWith pos f first (backTo pos (starEach es env)) (backToKw pos (keywordEach [] env))) := by
  have e : eval (.Call (.Attribute o m apos) es [] pos) env = (do
      let ov ← attributeBase o m env (eval o env)
      standAt apos.atName
      methodCall o m apos pos env ov (es.length + ([] : List Keyword).length) (backTo pos (starEach es env)) (backToKw pos (keywordEach [] env))) := rfl
  rw [e, base_plain hb]
  unfold methodCall methodCallPos calleeOf
  rw [form_plain hs hl]
  have hl2 : (!true || apos.endLine == pos.line) = true := by rw [hline]; rfl
  simp only [hl2, reduceIte]
  rfl
noncomputable abbrev mMth (c m : Nat) (g : List Z → Mh → Res Z) (mo : Ev → Mh → Res Z) (ms : Ev → Mh → Res (List Z)) : Ev → Mh → Res Z := fun ρ h => (mo ρ h).bind fun x h => match x with
  | .ob a => match h[a]? with
    | some (.ins c' fs) => guard (c' = c ∧ lookF fs m = none) ((ms ρ h).bind fun xs h => g (.ob a :: xs) h)
    | _ => .stuck
  | _ => .stuck
theorem mth_imp {cn m : Nat} {g : List Z → Mh → Res Z} {mo : Ev → Mh → Res Z} {ms : Ev → Mh → Res (List Z)} {ts : TA} (hts : ∀ σ H (Q : List V → Hp → Prop), tOfA T K ms σ H Q → ts σ H Q) {σ : L2.St} {H : Hp} {Q : VK} {E : XK}
    (h : tOf T K (mMth cn m g mo ms) σ H Q) : tMeth (T.cls cn) (T.an m) (spOf T K g) [] E (tOf T K mo) ts σ H Q := by
  refine tOf_bind (g := fun ρ x h => match x with
    | .ob a => match h[a]? with
      | some (.ins c' fs) => guard (c' = cn ∧ lookF fs m = none) ((ms ρ h).bind fun xs h => g (.ob a :: xs) h)
      | _ => .stuck
    | _ => .stuck) h fun as h1 ρ z v H1 r1 re q f => ?_
  cases z <;> first | exact f.elim | skip
  rename_i n
  obtain ⟨p, rfl, ep⟩ := q.ob_inv
  dsimp only at f
  split at f <;> try exact f.elim
  rename_i c' fs hfs
  obtain ⟨⟨hcc, hl⟩, f5⟩ := Fin.guard f
  subst hcc
  obtain ⟨dx, gs, g1, g2, g3, g4⟩ := r1.ins hfs ep
  refine ⟨p, dx, gs, rfl, g1, look_no g2 hl, hts _ _ _ ⟨as, h1, ρ, r1, re, f5.bind.mono fun xs h2 as2 H2 e2 r2 ⟨_, _, f2⟩ vs qs => ?_⟩⟩
  show spOf T K g (.ref p :: (vs ++ [])) H2 Q E
  rw [List.append_nil]
  exact ⟨as2, h2, .ob n :: xs, r2, .cons (.ob (e2.get ep)) qs, f2⟩
theorem le_mth {k : Nat} {f : Addr} {fd : FuncData} {ps : List Str} {cn m : Nat} {x : Str} {g : List Z → Mh → Res Z} {o e : Expr} {es : List Expr} {apos : Pos} {mo : Ev → Mh → Res Z} {ms : Ev → Mh → Res (List Z)} (hx : x = T.an m) (ho : PE X o (tOf T X.K mo)) (cl : Cls X.K (T.cls cn)) (hm : Meth X.K (T.cls cn) x f)
    (F : FnOk X.prog X.w X.K X.mg X.base CX0 k f fd ps (spOf T X.K g)) (hr : Room k X.A) (hb : Binds X.K fd ps []) (ha : PA X (e :: es) (tOfA T X.K ms)) (hs : (e :: es).all noStar = true) (hl : (e :: es).length < 30) (hbase : noCall o = true) (hline : (apos.endLine == pos.line) = true) :
    PE X (.Call (.Attribute o x apos) (e :: es) [] pos) (tOf T X.K (mMth cn m g mo ms)) := by
  subst hx
  have hs2 := hs
  rw [List.all_cons, Bool.and_eq_true] at hs2
  exact PE.imp (pe_meth (E := E0) ho cl hm F hr hb .nil pass0 ha (star_cons hs2.1 _ _) (back_plain hs2.2 _ _) (meth_tree _ hbase hs hl hline)) fun σ H Q h => mth_imp (fun _ _ _ h => h) h
theorem le_mth0 {k : Nat} {f : Addr} {fd : FuncData} {ps : List Str} {cn m : Nat} {x : Str} {g : List Z → Mh → Res Z} {o : Expr} {apos : Pos} {mo : Ev → Mh → Res Z} (hx : x = T.an m) (ho : PE X o (tOf T X.K mo)) (cl : Cls X.K (T.cls cn)) (hm : Meth X.K (T.cls cn) x f)
    (F : FnOk X.prog X.w X.K X.mg X.base CX0 k f fd ps (spOf T X.K g)) (hr : Room k X.A) (hb : Binds X.K fd ps []) (hbase : noCall o = true) (hline : (apos.endLine == pos.line) = true) :
    PE X (.Call (.Attribute o x apos) [] [] pos) (tOf T X.K (mMth cn m g mo fun _ h => .ok [] h)) := by
  subst hx
  refine PE.imp (pe_meth0 (E := E0) ho cl hm F hr hb .nil pass0 (meth_tree _ hbase rfl (by decide) hline)) fun σ H Q h => mth_imp (ts := tNil) (fun σ H Q h => ?_) h
  obtain ⟨as, h0, ρ, rh, re, f⟩ := h
  exact Fin.self f rh [] .nil

/-! ### try, where nothing is raised -/
theorem ls_try {body : List Stmt} {h0 : ExceptHandler} {hs : List ExceptHandler} {m : Ev → Mh → Res Fl} (hx : ∀ e s, ¬ X.xe e s) (hb : PSs X body (sOf T X.K m)) : PS X (.Try body (h0 :: hs) [] [] pos) (sOf T X.K m) := by
  refine ⟨fun pins s σ H D I h => wpAny_Try_except (wpAny_mono (hb.run pins s σ H D I h) (fun f s1 hsp => ?_) fun e s1 hxe => (hx _ _ hxe).elim)⟩
  cases f with
  | next => exact wpAny_execs_nil hsp
  | brk => exact hsp
  | cont => exact hsp
  | ret u => exact hsp

/-! ### o.f, o.g = e -/
theorem lg_fld {fl : Nat → Nat → Bool} (hfl : ∀ c f, fl c f = true → NoAttr X.K (T.cls c) (T.an f)) {f0 : Nat} {x : Str} {o : Expr} {mo : Ev → Mh → Res Z} {p2 : Pos} (hx : x = T.an f0) (ho : PE X o (tOf T X.K mo)) : PG X (.Attribute o x p2) (gOf T X.K [] (mFldG fl f0 mo)) := by
  subst hx
  refine ⟨fun pins s σ H v u Q I rv ⟨as, h, ρ, z, rh, re, q, f⟩ => ?_⟩
  rw [assign_Attribute]
  refine wpAny_bind (wpAny_holding (thn (ho.run pins s σ H (fun w H1 => ∃ as1 h1 n, w = w ∧ Ext X.K as H as1 H1 ∧ RH T X.K as1 H1 h1 ∧ RZ X.K as1 H1 (.ob n) w ∧ Fin T X.K as1 H1 (fun ρ' _ as' H' => ∀ σ', RE X.K as' H' σ' ρ' → SetOn [] σ σ' → Q σ' H') ((zSetF fl (.ob n) f0 z h1).bind fun _ h => .ok ρ h)) I
    ⟨as, h, ρ, rh, re, f.bind.mono fun y h1 as1 H1 e1 r1 ⟨_, _, f1⟩ w qw => ?_⟩) fun ov s1 ⟨w, H1, I1, rw_, as1, h1, n, _, e1, r1, qw, f1⟩ => ?_))
  · cases y <;> first | exact f1.elim | skip
    exact ⟨as1, h1, _, rfl, e1, r1, qw, f1⟩
  · obtain ⟨p, rfl, ep⟩ := qw.ob_inv
    obtain rfl : ov = Value.ref p := rw_
    simp only [zSetF] at f1
    split at f1 <;> try exact f1.elim
    rename_i c fs hfs
    obtain ⟨⟨c1, c2⟩, f2⟩ := Fin.guard (Fin.bind f1)
    obtain ⟨dx, gs, g1, g2, g3, g4⟩ := r1.ins hfs ep
    have hm : Mut (H1 p) := by rw [g1]; exact trivial
    have ex : Ext X.K as1 H1 as1 (upd H1 p (.ins (T.cls c) dx (putF (T.an f0) v gs))) := Ext.set hm
    have r3 : RH T X.K as1 (upd H1 p (.ins (T.cls c) dx (putF (T.an f0) v gs))) (h1.set n (.ins c (putF' f0 z fs))) :=
      r1.set ep hm (fun _ q => by rw [hfs] at q; cases q) ⟨dx, _, upd_same, put_F (q.mono (e1.trans ex)) (RFs.mono ex g2), g3, put_mem (P := fun f => NoAttr X.K (T.cls c) (T.an f)) (hfl c f0 c2) g4⟩
    refine wpAny_bind (wpAny_standAt (wpAny_bind (wpAny_holding (setattr_ok I1 g1 g3 (hfl c f0 c2) (by rw [← Paired.length g2]; exact c1) rv fun s2 I2 => wpAny_release ⟨σ, _, I2, ?_⟩))))
    obtain ⟨_, _, f4⟩ := f2 as1 _ ex r3
    exact Fin.self f4 r3 σ (re.mono (e1.trans ex)) SetOn.refl
/-- several fields -/
noncomputable def mFlds (fl : Nat → Nat → Bool) : List ((Ev → Mh → Res Z) × Nat) → List Z → Ev → Mh → Res Ev
  | [], [], ρ, h => .ok ρ h
  | q :: os, z :: zs, ρ, h => (q.1 ρ h).bind fun x h => (zSetF fl x q.2 z h).bind fun _ h => mFlds fl os zs ρ h
  | _, _, _, _ => .stuck
def gOfL (T : Tb) (K : PySem.W.Frag) (t : List Z → Ev → Mh → Res Ev) : TGs := fun vs σ H Q => ∃ as h ρ zs, RH T K as H h ∧ RE K as H σ ρ ∧ RZs K as H zs vs ∧ Fin T K as H (fun ρ' _ as' H' => ∀ σ', RE K as' H' σ' ρ' → SetOn [] σ σ' → Q σ' H') (t zs ρ h)
theorem lgL_nil {fl : Nat → Nat → Bool} : PGs X [] (gOfL T X.K (mFlds fl [])) := by
  refine PGs.imp pgs_nil fun vs σ H Q ⟨as, h, ρ, zs, rh, re, q, f⟩ => ?_
  cases zs with
  | nil =>
    cases q
    exact ⟨rfl, Fin.self f rh σ re SetOn.refl⟩
  | cons z zs => exact f.elim
theorem lgL_cons {fl : Nat → Nat → Bool} (hfl : ∀ c f, fl c f = true → NoAttr X.K (T.cls c) (T.an f)) {f0 : Nat} {x : Str} {o : Expr} {mo : Ev → Mh → Res Z} {p2 : Pos} {os : List ((Ev → Mh → Res Z) × Nat)} {es : List Expr} (hx : x = T.an f0) (ho : PE X o (tOf T X.K mo)) (h : PGs X es (gOfL T X.K (mFlds fl os))) :
    PGs X (.Attribute o x p2 :: es) (gOfL T X.K (mFlds fl ((mo, f0) :: os))) := by
  refine PGs.imp (pgs_cons (lg_fld hfl hx ho) h (assign_each rfl _ _)) fun vs σ H Q ⟨as, h, ρ, zs, rh, re, q, f⟩ => ?_
  cases zs with
  | nil => exact f.elim
  | cons z zs =>
    cases q with
    | cons r rs =>
      refine ⟨_, _, rfl, as, h, ρ, z, rh, re, r, ?_⟩
      have f' : Fin T X.K as H (fun ρ' _ as' H' => ∀ σ', RE X.K as' H' σ' ρ' → SetOn [] σ σ' → Q σ' H') ((mFldG fl f0 mo z ρ h).bind fun _ h => mFlds fl os zs ρ h) := by
        have : (mFldG fl f0 mo z ρ h).bind (fun _ h => mFlds fl os zs ρ h) = mFlds fl ((mo, f0) :: os) (z :: zs) ρ h := by
          show ((mo ρ h).bind fun x h => (zSetF fl x f0 z h).bind fun _ h => .ok ρ h).bind (fun _ h => mFlds fl os zs ρ h) = (mo ρ h).bind fun x h => (zSetF fl x f0 z h).bind fun _ h => mFlds fl os zs ρ h
          cases mo ρ h with
          | stuck => rfl
          | ok x h1 =>
            rw [Res.bind_ok, Res.bind_ok]
            cases zSetF fl x f0 z h1 <;> rfl
        rw [this]
        exact f
      refine f'.bind.mono fun ρ1 h1 as1 H1 e1 r1 ⟨_, _, f1⟩ σ1 re1 so => ?_
      have hσ : σ1 = σ := List.ext_getElem? fun j => so.2 j (by simp)
      subst hσ
      exact ⟨as1, h1, ρ, zs, r1, re.mono e1, rs.mono e1, f1⟩
theorem mFlds_len {fl : Nat → Nat → Bool} : ∀ {os : List ((Ev → Mh → Res Z) × Nat)} {zs : List Z} {ρ : Ev} {h : Mh} {ρ' : Ev} {h' : Mh}, mFlds fl os zs ρ h = .ok ρ' h' → zs.length = os.length
  | [], [], _, _, _, _, _ => rfl
  | [], _ :: _, _, _, _, _, e => by simp [mFlds] at e
  | _ :: _, [], _, _, _, _, e => by simp [mFlds] at e
  | q :: os, z :: zs, ρ, h, ρ', h', e => by
    rw [mFlds] at e
    cases q1 : q.1 ρ h with
    | stuck => rw [q1] at e; cases e
    | ok x h1 =>
      rw [q1, Res.bind_ok] at e
      cases q2 : zSetF fl x q.2 z h1 with
      | stuck => rw [q2] at e; cases e
      | ok y h2 =>
        rw [q2, Res.bind_ok] at e
        rw [List.length_cons, List.length_cons, mFlds_len e]
noncomputable abbrev mFldsG (fl : Nat → Nat → Bool) (os : List ((Ev → Mh → Res Z) × Nat)) : Z → Ev → Mh → Res Ev := fun z ρ h => match z with
  | .tup zs => mFlds fl os zs ρ h
  | _ => .stuck
theorem ls_flds {fl : Nat → Nat → Bool} {es : List Expr} {k : Nat} {p2 : Pos} {e : Expr} {os : List ((Ev → Mh → Res Z) × Nat)} (hc : X.calm = true) (he : PE X e (tOf T X.K ma)) (h : PGs X es (gOfL T X.K (mFlds fl os))) (hn : (assignEach es X.env).length = os.length) (hst : (assignEach es X.env).findIdx? (·.1) = none) (hs : noComp e = true) (hd : noDisp e = true) :
    PS X (.Assign [.Tuple es k p2] e pos) (sOf T X.K (mAsg ma (mFldsG fl os))) := by
  have pg : PG X (.Tuple es k p2) (gOf T X.K [] (mFldsG fl os)) := by
    refine PG.imp (pg_tup hc h hn hst) fun v σ H Q ⟨as, h, ρ, z, rh, re, q, f⟩ => ?_
    cases z <;> first | exact f.elim | skip
    rename_i zs
    obtain ⟨p, vs, rfl, h1, h2⟩ := q.tup_inv
    refine ⟨p, vs, rfl, h1, ?_, as, h, ρ, zs, rh, re, h2, f⟩
    have f : Fin T X.K as H _ (mFlds fl os zs ρ h) := f
    cases q : mFlds fl os zs ρ h with
    | stuck => rw [q] at f; exact f.elim
    | ok ρ' h' => rw [← h2.length, mFlds_len q]
  exact PS.imp (ps_asg he pg (swaps_sole hs _ _) (stores_no (.inr hd) _) (assign_each rfl _ _)) fun _ _ _ h => asg_imp (fun _ _ _ h => h) (fun _ _ _ _ h => h) h
end Zm
/-! What runs leaves the sleeping generators alone: it is run with their sleep made dead. -/
namespace Zm
open PySem PySem.Spec PyProof.Rows L2
open Sem (wp)

def dead : Resume → Sem PySem.Fin := fun _ => .unsupported "a dead generator"
theorem no_dead {M : Model} {Γ : PySem.Ctx} {p : Pos} {t : Sem PySem.Fin} {fs : List Frame} {s s' : Shared} {e : End} (h : Runs M Γ p t fs s e s') : ∀ w, t ≠ .unsupported w := by
  induction h <;> intro w q <;> first | (cases q; done) | (subst q; rename_i ih _ ; exact ih w rfl) | (subst q; rename_i ih ; exact ih w rfl) | (subst q; rename_i ih _ _; exact ih w rfl) | (subst q; rename_i ih _ _ _; exact ih w rfl)
/-- x is y asleep for good -/
def Dd (x y : GenState) : Prop := x = y ∨ ∃ k l c p fs b, y = .suspended k l c p fs b ∧ x = .suspended dead l c p fs b
theorem Dd.seen {x y : GenState} (h : Dd x y) : x.seen = y.seen := by
  rcases h with rfl | ⟨k, l, c, p, fs, b, rfl, rfl⟩
  · rfl
  · rfl
structure SimG (A B : Array GenState) : Prop where
  sz : A.size = B.size
  at_ : ∀ (i : Nat) (x : GenState), A[i]? = some x → ∃ y, B[i]? = some y ∧ Dd x y
def CleanG (A : Array GenState) : Prop := ∀ (i : Nat) k l c p fs b, A[i]? = some (GenState.suspended k l c p fs b) → k = dead ∨ splitAtGen fs = none
/-- the dead ones stand -/
def KeepD (A A' B B' : Array GenState) : Prop := ∀ (i : Nat) l c p fs b, A[i]? = some (GenState.suspended dead l c p fs b) → A'[i]? = A[i]? ∧ B'[i]? = B[i]?
theorem KeepD.refl {A B : Array GenState} : KeepD A A B B := fun _ _ _ _ _ _ _ => ⟨rfl, rfl⟩
theorem KeepD.trans {A A' A2 B B' B2 : Array GenState} (x : KeepD A A' B B') (y : KeepD A' A2 B' B2) : KeepD A A2 B B2 := fun i l c p fs b e => by
  obtain ⟨h1, h2⟩ := x i l c p fs b e
  obtain ⟨h3, h4⟩ := y i l c p fs b (h1.trans e)
  exact ⟨h3.trans h1, h4.trans h2⟩
theorem SimG.push {A B : Array GenState} (h : SimG A B) (x : GenState) : SimG (A.push x) (B.push x) := by
  refine ⟨by simp [h.sz], fun i y e => ?_⟩
  rw [Array.getElem?_push] at e
  rw [Array.getElem?_push, ← h.sz]
  split at e
  · rename_i q
    rw [if_pos q]
    cases e
    exact ⟨x, rfl, .inl rfl⟩
  · rename_i q
    rw [if_neg q]
    exact h.at_ i y e
theorem SimG.set {A B : Array GenState} (h : SimG A B) (g : Nat) (x : GenState) : SimG (A.setIfInBounds g x) (B.setIfInBounds g x) := by
  refine ⟨by simp [h.sz], fun i y e => ?_⟩
  rw [Array.getElem?_setIfInBounds] at e
  rw [Array.getElem?_setIfInBounds, ← h.sz]
  split at e
  · rename_i q
    subst q
    rw [if_pos rfl]
    split at e
    · cases e
      rename_i q
      rw [if_pos q]
      exact ⟨x, rfl, .inl rfl⟩
    · cases e
  · rename_i q
    rw [if_neg q]
    exact h.at_ i y e
theorem CleanG.push {A : Array GenState} (h : CleanG A) (c : Code) : CleanG (A.push (.fresh c)) := fun i k l c' p fs b e => by
  rw [Array.getElem?_push] at e
  split at e
  · cases e
  · exact h i k l c' p fs b e
theorem CleanG.set {A : Array GenState} (h : CleanG A) (g : Nat) {x : GenState} (hx : ∀ k l c p fs b, x = .suspended k l c p fs b → splitAtGen fs = none) : CleanG (A.setIfInBounds g x) := fun i k l c' p fs b e => by
  rw [Array.getElem?_setIfInBounds] at e
  split at e
  · split at e
    · cases e
      exact .inr (hx _ _ _ _ _ _ rfl)
    · cases e
  · exact h i k l c' p fs b e
theorem KeepD.push {A B : Array GenState} (x : GenState) (h : SimG A B) : KeepD A (A.push x) B (B.push x) := fun i l c p fs b e => by
  have hi := (Array.getElem?_eq_some_iff.mp e).1
  rw [Array.getElem?_push, Array.getElem?_push, if_neg (by omega), if_neg (by have := h.sz; omega)]
  exact ⟨rfl, rfl⟩
theorem KeepD.set {A B : Array GenState} {g : Nat} {y : GenState} (x : GenState) (hg : A[g]? = some y) (hy : ∀ l c p fs b, y ≠ .suspended dead l c p fs b) : KeepD A (A.setIfInBounds g x) B (B.setIfInBounds g x) := fun i l c p fs b e => by
  have hi : g ≠ i := by
    rintro rfl
    rw [hg] at e
    cases e
    exact hy _ _ _ _ _ rfl
  rw [Array.getElem?_setIfInBounds_ne hi, Array.getElem?_setIfInBounds_ne hi]
  exact ⟨rfl, rfl⟩
theorem KeepD.around {A A1 A2 B B1 B2 : Array GenState} {g : Nat} {y r x : GenState} (hg : A[g]? = some y) (hy : ∀ l c p fs b, y ≠ .suspended dead l c p fs b) (h1 : KeepD (A.setIfInBounds g r) A1 (B.setIfInBounds g r) B1) (h2 : KeepD (A1.setIfInBounds g x) A2 (B1.setIfInBounds g x) B2) : KeepD A A2 B B2 := fun i l c p fs b e => by
  have hi : g ≠ i := by
    rintro rfl
    rw [hg] at e
    cases e
    exact hy _ _ _ _ _ rfl
  obtain ⟨q1, q2⟩ := h1 i l c p fs b (by rw [Array.getElem?_setIfInBounds_ne hi]; exact e)
  rw [Array.getElem?_setIfInBounds_ne hi] at q1 q2
  obtain ⟨q3, q4⟩ := h2 i l c p fs b (by rw [Array.getElem?_setIfInBounds_ne hi, q1]; exact e)
  rw [Array.getElem?_setIfInBounds_ne hi] at q3 q4
  exact ⟨q3.trans q1, q4.trans q2⟩
theorem split_ret {k : Result → Sem PySem.Fin} {h : Option Value} {g : Bool} {l : List Value} {c : Code} {p : Pos} {kp : List Value} {fs : List Frame} (e : splitAtGen (.ret k h g l c p kp :: fs) = none) : splitAtGen fs = none := by
  unfold splitAtGen at e
  simpa using e
theorem split_app : ∀ {fs gs : List Frame}, splitAtGen fs = none → splitAtGen gs = none → splitAtGen (fs ++ gs) = none
  | [], _, _, h => h
  | .gen .. :: _, _, h, _ => by simp [splitAtGen] at h
  | .ret .. :: fs, gs, h, h2 => by
    have := split_app (fs := fs) (gs := gs) (split_ret h) h2
    rw [List.cons_append, splitAtGen, this]
    · rfl
    · intro g k l c p q; cases q
def EndC : End → Prop
  | .susp _ _ _ _ _ _ fs => splitAtGen fs = none
  | _ => True
theorem EndC.state {e : End} (h : EndC e) : ∀ k l c p fs b, e.genState = .suspended k l c p fs b → splitAtGen fs = none := by
  intro k l c p fs b q
  cases e with
  | ret r => cases q
  | susp v g l0 k0 c0 p0 fs0 =>
    cases q
    exact h
theorem SimG.eq {A B : Array GenState} (h : SimG A B) {g : Nat} {x : GenState} (hg : A[g]? = some x) (hx : ∀ l c p fs b, x ≠ .suspended dead l c p fs b) : B[g]? = some x := by
  obtain ⟨y, e1, e2⟩ := h.at_ _ _ hg
  rcases e2 with rfl | ⟨k, l, c, p, fs, b, rfl, e2⟩
  · exact e1
  · exact absurd e2 (hx _ _ _ _ _)
theorem SimG.sus {A B : Array GenState} (h : SimG A B) (hc : CleanG A) {g : Nat} {k : Resume → Sem PySem.Fin} {l : List Value} {c : Code} {p : Pos} {fs : List Frame} {b : Bool} {r : Resume} (hg : A[g]? = some (.suspended k l c p fs b)) (nd : ∀ w, k r ≠ .unsupported w) :
    (∀ l2 c2 p2 fs2 b2, GenState.suspended k l c p fs b ≠ .suspended dead l2 c2 p2 fs2 b2) ∧ B[g]? = some (.suspended k l c p fs b) ∧ splitAtGen fs = none := by
  have hk : k ≠ dead := fun q => nd "a dead generator" (by rw [q]; rfl)
  have hn : ∀ l2 c2 p2 fs2 b2, GenState.suspended k l c p fs b ≠ .suspended dead l2 c2 p2 fs2 b2 := fun _ _ _ _ _ q => by
    cases q
    exact hk rfl
  exact ⟨hn, h.eq hg hn, (hc _ _ _ _ _ _ _ hg).resolve_left hk⟩
abbrev withG (s : Shared) (B : Array GenState) : Shared := { s with gens := B }
theorem runs_sim {M : Model} {Γ : PySem.Ctx} {p : Pos} {t : Sem PySem.Fin} {fs : List Frame} {s s' : Shared} {e : End} (h : Runs M Γ p t fs s e s') :
    ∀ B, SimG s.gens B → CleanG s.gens → splitAtGen fs = none → ∃ B', Runs M Γ p t fs (withG s B) e (withG s' B') ∧ SimG s'.gens B' ∧ CleanG s'.gens ∧ EndC e ∧ KeepD s.gens s'.gens B B' := by
  induction h with
  | done => intro B h1 h2 _; exact ⟨B, .done, h1, h2, trivial, .refl⟩
  | raise => intro B h1 h2 _; exact ⟨B, .raise, h1, h2, trivial, .refl⟩
  | again hq _ ih => intro B h1 h2 _; obtain ⟨B', r, q⟩ := ih B h1 h2 rfl; exact ⟨B', .again hq r, q⟩
  | rule _ ih => intro B h1 h2 _; obtain ⟨B', r, q⟩ := ih B h1 h2 rfl; exact ⟨B', .rule r, q⟩
  | «at» _ ih => intro B h1 h2 _; obtain ⟨B', r, q⟩ := ih B h1 h2 rfl; exact ⟨B', .at r, q⟩
  | load ho _ ih => intro B h1 h2 _; obtain ⟨B', r, q⟩ := ih B h1 h2 rfl; exact ⟨B', .load ho r, q⟩
  | update ho _ ih => intro B h1 h2 _; obtain ⟨B', r, q⟩ := ih B h1 h2 rfl; exact ⟨B', .update ho r, q⟩
  | loadIfAlive _ ih => intro B h1 h2 _; obtain ⟨B', r, q⟩ := ih B h1 h2 rfl; exact ⟨B', .loadIfAlive r, q⟩
  | point _ ih => intro B h1 h2 _; obtain ⟨B', r, q⟩ := ih B h1 h2 rfl; exact ⟨B', .point r, q⟩
  | alloc _ ih => intro B h1 h2 _; obtain ⟨B', r, q⟩ := ih B h1 h2 rfl; exact ⟨B', .alloc r, q⟩
  | fresh _ ih => intro B h1 h2 _; obtain ⟨B', r, q⟩ := ih B h1 h2 rfl; exact ⟨B', .fresh r, q⟩
  | ask _ ih => intro B h1 h2 _; obtain ⟨B', r, q⟩ := ih B h1 h2 rfl; exact ⟨B', .ask r, q⟩
  | choose hn _ ih => intro B h1 h2 _; obtain ⟨B', r, q⟩ := ih B h1 h2 rfl; exact ⟨B', .choose hn r, q⟩
  | os _ ih => intro B h1 h2 _; obtain ⟨B', r, q⟩ := ih B h1 h2 rfl; exact ⟨B', .os r, q⟩
  | handled _ ih => intro B h1 h2 _; obtain ⟨B', r, q⟩ := ih B h1 h2 rfl; exact ⟨B', .handled r, q⟩
  | stack _ ih => intro B h1 h2 _; obtain ⟨B', r, q⟩ := ih B h1 h2 rfl; exact ⟨B', .stack r, q⟩
  | thread _ ih => intro B h1 h2 _; obtain ⟨B', r, q⟩ := ih B h1 h2 rfl; exact ⟨B', .thread r, q⟩
  | genState hg _ ih =>
    intro B h1 h2 _
    obtain ⟨B', r, q⟩ := ih B h1 h2 rfl
    obtain ⟨y, e1, e2⟩ := h1.at_ _ _ hg
    refine ⟨B', .genState (s := withG _ B) e1 ?_, q⟩
    rw [← e2.seen]
    exact r
  | newGen _ ih =>
    intro B h1 h2 _
    obtain ⟨B', r, q1, q2, q3, q4⟩ := ih (B.push _) (h1.push _) (h2.push _) rfl
    refine ⟨B', .newGen ?_, q1, q2, q3, (KeepD.push _ h1).trans q4⟩
    rw [show (withG _ B).gens.size = _ from h1.sz.symm]
    exact r
  | call _ _ ih1 ih2 =>
    intro B h1 h2 _
    obtain ⟨B1, r1, q1, q2, _, q4⟩ := ih1 B h1 h2 rfl
    obtain ⟨B2, r2, p1, p2, p3, p4⟩ := ih2 B1 q1 q2 rfl
    exact ⟨B2, .call r1 r2, p1, p2, p3, q4.trans p4⟩
  | callSusp _ ih =>
    intro B h1 h2 _
    obtain ⟨B1, r1, q1, q2, q3, q4⟩ := ih B h1 h2 rfl
    exact ⟨B1, .callSusp r1, q1, q2, split_app q3 (by rfl), q4⟩
  | yield => intro B h1 h2 _; exact ⟨B, .yield, h1, h2, rfl, .refl⟩
  | resumeFresh hg _ hq _ ih1 ih2 =>
    intro B h1 h2 _
    have ey := h1.eq hg (fun _ _ _ _ _ q => by cases q)
    obtain ⟨B1, r1, q1, q2, q3, q4⟩ := ih1 (B.setIfInBounds _ .running) (h1.set _ _) (h2.set _ (fun _ _ _ _ _ _ q => by cases q)) rfl
    obtain ⟨B2, r2, p1, p2, p3, p4⟩ := ih2 (B1.setIfInBounds _ _) (q1.set _ _) (q2.set _ q3.state) rfl
    exact ⟨B2, .resumeFresh (s := withG _ B) ey r1 hq r2, p1, p2, p3, q4.around hg (fun _ _ _ _ _ q => by cases q) p4⟩
  | resumeSuspended hg hr hq _ ih1 ih2 =>
    intro B h1 h2 _
    obtain ⟨hn, ey, hfs⟩ := h1.sus h2 hg (no_dead hr)
    obtain ⟨B1, r1, q1, q2, q3, q4⟩ := ih1 (B.setIfInBounds _ .running) (h1.set _ _) (h2.set _ (fun _ _ _ _ _ _ q => by cases q)) hfs
    obtain ⟨B2, r2, p1, p2, p3, p4⟩ := ih2 (B1.setIfInBounds _ _) (q1.set _ _) (q2.set _ q3.state) rfl
    exact ⟨B2, .resumeSuspended (s := withG _ B) ey r1 hq r2, p1, p2, p3, q4.around hg hn p4⟩
  | resumeJustStarted hg hv _ ih =>
    intro B h1 h2 _
    have ey := h1.eq hg (fun _ _ _ _ _ q => by cases q)
    obtain ⟨B', r, q⟩ := ih B h1 h2 rfl
    exact ⟨B', .resumeJustStarted (s := withG _ B) ey hv r, q⟩
  | resumeThrowFresh hg _ ih =>
    intro B h1 h2 _
    have ey := h1.eq hg (fun _ _ _ _ _ q => by cases q)
    obtain ⟨B', r, q1, q2, q3, q4⟩ := ih (B.setIfInBounds _ _) (h1.set _ _) (h2.set _ (fun _ _ _ _ _ _ q => by cases q)) rfl
    exact ⟨B', .resumeThrowFresh (s := withG _ B) ey r, q1, q2, q3, (KeepD.set _ hg (fun _ _ _ _ _ q => by cases q)).trans q4⟩
  | resumeRunning hg _ ih =>
    intro B h1 h2 _
    have ey := h1.eq hg (fun _ _ _ _ _ q => by cases q)
    obtain ⟨B', r, q⟩ := ih B h1 h2 rfl
    exact ⟨B', .resumeRunning (s := withG _ B) ey r, q⟩
  | resumeFinished hg _ ih =>
    intro B h1 h2 _
    have ey := h1.eq hg (fun _ _ _ _ _ q => by cases q)
    obtain ⟨B', r, q⟩ := ih B h1 h2 rfl
    exact ⟨B', .resumeFinished (s := withG _ B) ey r, q⟩
  | segRet _ _ ih1 ih2 =>
    intro B h1 h2 hs
    obtain ⟨B1, r1, q1, q2, _, q4⟩ := ih1 B h1 h2 rfl
    obtain ⟨B2, r2, p1, p2, p3, p4⟩ := ih2 B1 q1 q2 (split_ret hs)
    exact ⟨B2, .segRet r1 r2, p1, p2, p3, q4.trans p4⟩
  | segGen _ _ _ _ => intro B h1 h2 hs; simp [splitAtGen] at hs
  | segSuspOut hs _ ih =>
    intro B h1 h2 _
    obtain ⟨B1, r1, q1, q2, q3, q4⟩ := ih B h1 h2 rfl
    exact ⟨B1, .segSuspOut hs r1, q1, q2, split_app q3 hs, q4⟩
  | segSuspGen hs _ _ _ _ _ => intro B h1 h2 q; rw [hs] at q; cases q
theorem wakes_sim {M : Model} {Γ : PySem.Ctx} {p : Pos} {g : Nat} {r : Resume} {s s' : Shared} {res : GenResult} (h : Wakes M Γ p g r s res s') :
    ∀ B, SimG s.gens B → CleanG s.gens → ∃ B', Wakes M Γ p g r (withG s B) res (withG s' B') ∧ SimG s'.gens B' ∧ CleanG s'.gens ∧ KeepD s.gens s'.gens B B' := by
  intro B h1 h2
  unfold Wakes at h
  split at h
  · exact h.elim
  · rename_i c hg
    have ey := h1.eq hg (fun _ _ _ _ _ q => by cases q)
    split at h
    · obtain ⟨e₁, s₁, hr, hq, rfl, rfl⟩ := h
      obtain ⟨B1, r1, q1, q2, q3, q4⟩ := runs_sim hr (B.setIfInBounds g .running) (h1.set _ _) (h2.set _ (fun _ _ _ _ _ _ q => by cases q)) rfl
      refine ⟨B1.setIfInBounds g e₁.genState, ?_, q1.set _ _, q2.set _ q3.state, q4.around hg (fun _ _ _ _ _ q => by cases q) .refl⟩
      unfold Wakes
      rw [show (withG s B).gens[g]? = _ from ey]
      exact ⟨e₁, _, r1, hq, rfl, rfl⟩
    · rename_i hv
      obtain ⟨rfl, rfl⟩ := h
      refine ⟨B, ?_, h1, h2, .refl⟩
      rename_i v
      unfold Wakes
      rw [show (withG s' B).gens[g]? = _ from ey]
      cases v <;> first | exact absurd rfl hv | exact ⟨rfl, rfl⟩
    · obtain ⟨rfl, rfl⟩ := h
      refine ⟨B.setIfInBounds g .finished, ?_, h1.set _ _, h2.set _ (fun _ _ _ _ _ _ q => by cases q), KeepD.set _ hg (fun _ _ _ _ _ q => by cases q)⟩
      unfold Wakes
      rw [show (withG s B).gens[g]? = _ from ey]
      exact ⟨rfl, rfl⟩
  · rename_i k l c p0 fs cl hg
    obtain ⟨e₁, s₁, hr, hq, rfl, rfl⟩ := h
    obtain ⟨hn, ey, hfs⟩ := h1.sus h2 hg (no_dead hr)
    obtain ⟨B1, r1, q1, q2, q3, q4⟩ := runs_sim hr (B.setIfInBounds g .running) (h1.set _ _) (h2.set _ (fun _ _ _ _ _ _ q => by cases q)) hfs
    refine ⟨B1.setIfInBounds g e₁.genState, ?_, q1.set _ _, q2.set _ q3.state, q4.around hg hn .refl⟩
    unfold Wakes
    rw [show (withG s B).gens[g]? = _ from ey]
    exact ⟨e₁, _, r1, hq, rfl, rfl⟩
  · rename_i hg
    obtain ⟨rfl, rfl⟩ := h
    refine ⟨B, ?_, h1, h2, .refl⟩
    unfold Wakes
    rw [show (withG s' B).gens[g]? = _ from h1.eq hg (fun _ _ _ _ _ q => by cases q)]
    exact ⟨rfl, rfl⟩
  · rename_i hg
    obtain ⟨rfl, rfl⟩ := h
    refine ⟨B, ?_, h1, h2, .refl⟩
    unfold Wakes
    rw [show (withG s' B).gens[g]? = _ from h1.eq hg (fun _ _ _ _ _ q => by cases q)]
    exact ⟨rfl, rfl⟩
abbrev QSim {β : Type} (G B : Array GenState) (Q : β → Pos → Shared → Prop) : β → Pos → Shared → Prop := fun a p' s' => ∃ A', Q a p' (withG s' A') ∧ SimG A' s'.gens ∧ CleanG A' ∧ KeepD G A' B s'.gens
theorem QSim.trans {β : Type} {G G1 B B1 : Array GenState} {Q : β → Pos → Shared → Prop} (k : KeepD G G1 B B1) {a : β} {p : Pos} {s : Shared} (h : QSim G1 B1 Q a p s) : QSim G B Q a p s := by
  obtain ⟨A', h1, h2, h3, h4⟩ := h
  exact ⟨A', h1, h2, h3, k.trans h4⟩
theorem wp_imp {α : Type} {M : Model} {Γ : PySem.Ctx} {t : Sem α} {Q Q' : α → Pos → Shared → Prop} {E E' : Value → Pos → Shared → Prop} {p : Pos} {s : Shared} (h : wp M Γ t Q E p s) (f : ∀ a p s, Q a p s → Q' a p s) (g : ∀ a p s, E a p s → E' a p s) : wp M Γ t Q' E' p s :=
  Sem.wp_mono M Γ t f g p s h
theorem wp_sim {α : Type} (M : Model) (Γ : PySem.Ctx) (t : Sem α) : ∀ (Q : α → Pos → Shared → Prop) (E : Value → Pos → Shared → Prop) (p : Pos) (s : Shared) (B : Array GenState), SimG s.gens B → CleanG s.gens → wp M Γ t Q E p s →
    wp M Γ t (QSim s.gens B Q) (QSim s.gens B E) p (withG s B) := by
  induction t with
  | pure a => intro Q E p s B h1 h2 h; exact ⟨s.gens, h, h1, h2, .refl⟩
  | raise e => intro Q E p s B h1 h2 h; exact ⟨s.gens, h, h1, h2, .refl⟩
  | unsupported _ => intro Q E p s B _ _ h; exact h
  | finish _ => intro Q E p s B _ _ h; exact h
  | rule _ k ih => intro Q E p s B h1 h2 h; exact ih () Q E p s B h1 h2 h
  | «at» p' k ih => intro Q E p s B h1 h2 h; exact ih () Q E p' s B h1 h2 h
  | load a _ k ih => intro Q E p s B h1 h2 h; obtain ⟨o, ho, h⟩ := h; exact ⟨o, ho, ih o Q E p s B h1 h2 h⟩
  | update a _ f k ih => intro Q E p s B h1 h2 h; exact ⟨h.1, ih () Q E p { s with heap := s.heap.update a f } B h1 h2 h.2⟩
  | loadIfAlive a k ih => intro Q E p s B h1 h2 h; exact ih _ Q E p s B h1 h2 h
  | point _ k ih => intro Q E p s B h1 h2 h; exact ih () Q E p s B h1 h2 h
  | register _ _ => intro Q E p s B _ _ h; exact h
  | alloc o k ih => intro Q E p s B h1 h2 h; exact ih _ Q E p { s with heap := s.heap.push o } B h1 h2 h
  | fresh k ih => intro Q E p s B h1 h2 h; exact ih _ Q E p { s with toks := s.toks + 1 } B h1 h2 h
  | ask k ih => intro Q E p s B h1 h2 h; exact ih _ Q E p s B h1 h2 h
  | choose src m k ih => intro Q E p s B h1 h2 h; exact ⟨h.1, ih _ Q E p { s with drawn := s.drawn.bump src } B h1 h2 h.2⟩
  | os q _ k ih => intro Q E p s B h1 h2 h; exact ih _ Q E p { s with os := (Os.step s.os q).1 } B h1 h2 h
  | call c hd _ _ k ih =>
    intro Q E p s B h1 h2 h
    obtain ⟨r, s', hr, h⟩ := h
    obtain ⟨B', r1, q1, q2, _, q4⟩ := runs_sim hr B h1 h2 rfl
    exact ⟨r, _, r1, wp_imp (ih r Q E p s' B' q1 q2 h) (fun _ _ _ z => QSim.trans q4 z) fun _ _ _ z => QSim.trans q4 z⟩
  | handled own k ih => intro Q E p s B h1 h2 h; exact ih _ Q E p s B h1 h2 h
  | genState g k ih =>
    intro Q E p s B h1 h2 h
    obtain ⟨st, hs, h⟩ := h
    obtain ⟨y, e1, e2⟩ := h1.at_ _ _ hs
    refine ⟨y, e1, ?_⟩
    rw [← e2.seen]
    exact ih _ Q E p s B h1 h2 h
  | newGen c k ih =>
    intro Q E p s B h1 h2 h
    have := ih _ Q E p { s with gens := s.gens.push (.fresh c) } (B.push (.fresh c)) (h1.push (.fresh c)) (h2.push c) h
    show wp M Γ (k (withG s B).gens.size) _ _ p _
    rw [show (withG s B).gens.size = s.gens.size from h1.sz.symm]
    exact wp_imp this (fun _ _ _ z => QSim.trans (KeepD.push _ h1) z) fun _ _ _ z => QSim.trans (KeepD.push _ h1) z
  | resume g r _ k ih =>
    intro Q E p s B h1 h2 h
    obtain ⟨res, s', hw, h⟩ := h
    obtain ⟨B', r1, q1, q2, q4⟩ := wakes_sim hw B h1 h2
    exact ⟨res, _, r1, wp_imp (ih res Q E p s' B' q1 q2 h) (fun _ _ _ z => QSim.trans q4 z) fun _ _ _ z => QSim.trans q4 z⟩
  | yield _ _ _ _ => intro Q E p s B _ _ h; exact h
  | stack k ih => intro Q E p s B h1 h2 h; exact ih _ Q E p s B h1 h2 h
  | fork _ _ => intro Q E p s B _ _ h; exact h
  | thread k ih => intro Q E p s B h1 h2 h; exact ih _ Q E p s B h1 h2 h
  | await _ _ _ _ _ => intro Q E p s B _ _ h; exact h

/-- asleep for good -/
def stk : GenState → GenState
  | .suspended _ l c p fs b => .suspended dead l c p fs b
  | x => x
theorem stk_sim (G : Array GenState) : SimG (G.map stk) G := by
  refine ⟨by simp, fun i x e => ?_⟩
  rw [Array.getElem?_map] at e
  cases q : G[i]? with
  | none => rw [q] at e; cases e
  | some y =>
    rw [q] at e
    cases e
    refine ⟨y, rfl, ?_⟩
    cases y <;> first | exact .inl rfl | exact .inr ⟨_, _, _, _, _, _, rfl, rfl⟩
theorem stk_clean (G : Array GenState) : CleanG (G.map stk) := fun i k l c p fs b e => by
  rw [Array.getElem?_map] at e
  cases q : G[i]? with
  | none => rw [q] at e; cases e
  | some y =>
    rw [q] at e
    cases y <;> first | (cases e; done) | (cases e; exact .inl rfl)
/-- all that slept sleeps as before -/
def SleepK (G G' : Array GenState) : Prop := ∀ (i : Nat) k l c p fs b, G[i]? = some (GenState.suspended k l c p fs b) → G'[i]? = some (GenState.suspended k l c p fs b)
theorem SleepK.refl {G : Array GenState} : SleepK G G := fun _ _ _ _ _ _ _ e => e
theorem SleepK.trans {G G1 G2 : Array GenState} (x : SleepK G G1) (y : SleepK G1 G2) : SleepK G G2 := fun i k l c p fs b e => y _ _ _ _ _ _ _ (x i k l c p fs b e)
theorem bare_sim {A B : Array GenState} (h : SimG A B) (a : AllBare A) : AllBare B := fun y hy => by
  obtain ⟨i, hi, rfl⟩ := Array.mem_iff_getElem.mp hy
  have hA : i < A.size := by have := h.sz; omega
  obtain ⟨z, e1, e2⟩ := h.at_ i _ (Array.getElem?_eq_getElem hA)
  rw [Array.getElem?_eq_getElem hi] at e1
  cases e1
  have := a _ (Array.getElem_mem hA)
  rcases e2 with e2 | ⟨k, l, c, p, fs, b, e2, e3⟩
  · rw [← e2]; exact this
  · rw [e3] at this
    rw [e2]
    exact this
theorem bare_stk {G : Array GenState} (a : AllBare G) : AllBare (G.map stk) := fun y hy => by
  obtain ⟨x, hx, rfl⟩ := Array.mem_map.mp hy
  have := a x hx
  cases x <;> exact this
/-- THE FRAME: where a text runs well with all sleepers dead, it runs so and leaves them as they are -/
theorem wpAny_frame {α : Type} {M : Model} {A : Around} {t : Sem α} {Q : α → Shared → Prop} {E : Value → Shared → Prop} {s : Shared} (h : wpAny M A t Q E (withG s (s.gens.map stk))) :
    wpAny M A t (fun a s' => SleepK s.gens s'.gens ∧ ∃ A', Q a (withG s' A') ∧ SimG A' s'.gens) (fun e s' => ∃ A', E e (withG s' A') ∧ SimG A' s'.gens) s := by
  intro Γ p hΓ
  have := wp_sim M Γ t _ _ p _ s.gens (stk_sim s.gens) (stk_clean s.gens) (h Γ p hΓ)
  refine wp_imp this (fun a p' s' ⟨A', h1, h2, h3, h4⟩ => ⟨fun i k l c q fs b e => ?_, A', h1, h2⟩) fun e p' s' ⟨A', h1, h2, _⟩ => ⟨A', h1, h2⟩
  have := (h4 i l c q fs b (by
    show (s.gens.map stk)[i]? = _
    rw [Array.getElem?_map, e]
    rfl)).2
  rw [this, e]
end Zm
/-! A generator's frame between two of its resumes. -/
namespace Zm
open PySem PySem.Spec PyProof.Rows L2

/-- the heap below L -/
def goneO : Obj := { cls := .none, dict := none, data := .freed, slots := #[] }
def cutH (L : Nat) (h : Heap) : Heap := ⟨(Array.range L).map fun i => (h.objs[i]?).getD goneO, h.life⟩
theorem cutH_size' (L : Nat) (h : Heap) : (cutH L h).objs.size = L := by
  simp [cutH]
theorem cutH_size (L : Nat) (h : Heap) : (cutH L h).objs.size ≤ L := Nat.le_of_eq (cutH_size' L h)
theorem cutH_get {L : Nat} {h : Heap} {b : Addr} (hb : b < L) : (cutH L h).get? b = h.get? b := by
  have e : (cutH L h).objs[b]? = some ((h.objs[b]?).getD goneO) := by
    unfold cutH
    rw [Array.getElem?_map, Array.getElem?_eq_getElem (by simpa using hb)]
    simp
  unfold Heap.get?
  rw [e]
  cases h.objs[b]? with
  | none => rfl
  | some o => rfl
theorem cutH_lt {L : Nat} {h : Heap} {b : Addr} {o : Obj} (e : (cutH L h).get? b = some o) : b < L := Nat.lt_of_lt_of_le (Heap.lt_size e) (cutH_size L h)
theorem of_cutH {L : Nat} {h : Heap} {b : Addr} {o : Obj} (e : (cutH L h).get? b = some o) : h.get? b = some o := by
  rw [← cutH_get (cutH_lt e)]
  exact e
/-- a generator's activation -/
structure Gx where
  prog : Program
  w : World
  K : PySem.W.Frag
  mg : Str → Option Value
  base : Heap
  A : Around
  N : List Str
  env : Env
  outer : List Env
/-- its context from a resume on: s, H then; P: what the consumer pins -/
def Gx.cx (G : Gx) (s : Shared) (H : Hp) (P : List (Addr × Obj)) : Cx :=
  { prog := G.prog, w := G.w, K := G.K, mg := G.mg, base := G.base, A := G.A, N := G.N, s_0 := { s with heap := cutH G.env.locals s.heap }, H_0 := H, env := G.env, outer := G.outer, stack := G.env :: G.outer, ex := [], fn := fun _ => true, calm := true, pn := P, xe := fun _ _ => False }
/-- what holds of it at all times -/
structure Gx.Ok (G : Gx) : Prop where
  kind : G.env.scope.kind = .function
  glob : G.env.globals = mainGlobals
  blt : G.env.builtins = builtinsNs
  cells : G.env.cells = []
  has : ∀ x, G.env.kindOf x ≠ some .cell ∧ G.env.kindOf x ≠ some .free
  hd : G.A.handled = none
  frames : G.A.frames = some (G.env :: G.outer)
  frame : G.env.frame = some G.env.locals
  bsz : G.base.objs.size ≤ G.env.locals
  old : ∀ b ∈ frs G.outer, b < G.env.locals
/-- pins -/
def PinOk (G : Gx) (H : Hp) (s : Shared) (P : List (Addr × Obj)) : Prop := ∀ p ∈ P, s.heap.get? p.1 = some p.2 ∧ H p.1 = none ∧ p.1 ≠ G.env.locals ∧ p.1 ∉ frs G.outer ∧ ∀ v, p.2.data ≠ .cell v
/-- the outer world at a resume -/
structure OutOk (G : Gx) (H : Hp) (s : Shared) : Prop where
  mod : Mod G.K G.mg G.base
  bs : ∀ b o, G.base.get? b = some o → s.heap.get? b = some o ∧ H b = none
  funs : s.heap.FunFrames G.base G.outer
  frf : ∀ b ∈ frs G.outer, H b = none
  hok : HOk G.prog G.w H s.heap
  bare : AllBare s.gens
theorem funFrames_cut {L : Nat} {h base : Heap} : ∀ {l : List Env}, h.FunFrames base l → (∀ b ∈ frs l, b < L) → (cutH L h).FunFrames base l
  | [], _, _ => trivial
  | env :: rest, ⟨hk, ⟨a, o, hf, hn, ho, hd⟩, hr⟩, hl => by
    have ha : a < L := hl a (by unfold frs; rw [List.filterMap_cons, hf]; exact List.mem_cons_self)
    refine ⟨hk, ⟨a, o, hf, hn, by rw [cutH_get ha]; exact ho, hd⟩, funFrames_cut hr fun b hb => hl b ?_⟩
    unfold frs
    rw [List.filterMap_cons, hf]
    exact List.mem_cons_of_mem _ hb
/-- the frame stands: its own object, its iterators -/
theorem Gx.resume {G : Gx} (ok : G.Ok) {σ : L2.St} {ip P : List (Addr × Obj)} {H : Hp} {s : Shared} (out : OutOk G H s) (hP : PinOk G H s P) (hip : PinOk G H s ip)
    (loc : ∃ m, s.heap.Ns G.env.locals m ∧ ∀ (i : Nat) (x : Str) (v : V), G.N[i]? = some x → σ[i]? = some (some v) → Vis G.env.scope x → ∃ u, RelV v u ∧ Look G.env s.heap m x u) (free : H G.env.locals = none) (len : σ.length = G.N.length) :
    Inv (G.cx s H P) ip σ H s := by
  have hcl : ∀ (x : Str) (c : Addr), G.env.cells.lookup x = some c → False := fun x c e => by
    rw [ok.cells] at e
    cases e
  refine ⟨⟨out.mod, ok.kind, ok.glob, ok.blt, cutH_size _ _, fun x y c h1 _ => (hcl x c h1).elim, fun x hx => ?_, fun x c _ h => (hcl x c h).elim, fun _ => ok.hd, ok.frames, .inr ⟨rfl, ok.frame⟩, fun b hb => ?_, fun b o e => ?_, ?_, fun b o _ hb => ?_, fun b hb => ?_, funFrames_cut out.funs ok.old, out.frf⟩,
    rfl, out.bare, ?_, loc, fun x c h => (hcl x c h).elim, free, fun x c h => (hcl x c h).elim, fun p hp => ?_, out.hok, len⟩
  · rcases hx with hx | hx
    · exact absurd hx (ok.has x).1
    · exact absurd hx (ok.has x).2
  · exact absurd hb (by simp [Gx.cx])
  · have hb : b < G.env.locals := Nat.lt_of_lt_of_le (Heap.lt_size e) ok.bsz
    exact ⟨(cutH_get hb).trans (out.bs b o e).1, (out.bs b o e).2⟩
  · show G.base.objs.size ≤ (cutH G.env.locals s.heap).objs.size
    rw [cutH_size']
    exact ok.bsz
  · exact absurd hb (by simp [Gx.cx])
  · exact absurd hb (by simp [Gx.cx])
  · exact Un.kept fun b o e => of_cutH e
  · rcases List.mem_append.mp hp with hp | hp
    · exact hP p hp
    · exact hip p hp
/-- THE OTHER WAY: the consumer stands while the generator runs -/
theorem carry {X : Cx} {pins : List (Addr × Obj)} {σ : L2.St} {H : Hp} {s : Shared} (I : Inv X pins σ H s) {G : Gx} {P ip : List (Addr × Obj)} {σg : L2.St} {H' : Hp} {s' : Shared} (J : Inv (G.cx s H P) ip σg H' s') (hp : G.prog = X.prog) (hw : G.w = X.w) (ho : G.outer = X.stack) (old : ∀ b ∈ frs G.outer, b < G.env.locals)
    (hL : X.s_0.heap.objs.size ≤ G.env.locals) (hloc : X.env.locals < G.env.locals ∨ ∃ o, (X.env.locals, o) ∈ P) (hcells : ∀ x c, X.env.cells.lookup x = some c → c < G.env.locals) (hpins : ∀ p ∈ X.pn ++ pins, p.1 < G.env.locals ∨ p ∈ P) (hP : ∀ p ∈ P, s.heap.get? p.1 = some p.2) : Inv X pins σ H' s' := by
  have U : Un (frs X.stack) [] H H' (cutH G.env.locals s.heap) s'.heap := by
    have := J.base
    rw [show (G.cx s H P).fs = frs X.stack by show frs G.outer = _; rw [ho]] at this
    exact this
  have PP : ∀ p ∈ P, s'.heap.get? p.1 = some p.2 ∧ H' p.1 = none := fun p hp => by
    obtain ⟨h1, h2, _⟩ := J.pin p (List.mem_append_left _ hp)
    exact ⟨h1, h2⟩
  let ch : List Addr := (List.range s.heap.objs.size).filter fun b => decide (G.env.locals ≤ b) && !(P.map (·.1)).contains b
  have hch : ∀ b, b ∈ ch → G.env.locals ≤ b ∧ ∀ p ∈ P, p.1 ≠ b := fun b hb => by
    have := (List.mem_filter.mp hb).2
    simp only [Bool.and_eq_true, decide_eq_true_eq, Bool.not_eq_true', List.contains_eq_mem, decide_eq_false_iff_not] at this
    refine ⟨this.1, fun p hp e => this.2 (List.mem_map.mpr ⟨p, hp, e⟩)⟩
  have nch : ∀ b o, s.heap.get? b = some o → b ∉ ch → b < G.env.locals ∨ ∃ p ∈ P, p.1 = b := fun b o e hb => by
    by_cases hl : b < G.env.locals
    · exact .inl hl
    · refine .inr ?_
      by_cases hq : ∃ p ∈ P, p.1 = b
      · exact hq
      · refine absurd (List.mem_filter.mpr ⟨List.mem_range.mpr (Heap.lt_size e), ?_⟩) hb
        simp only [Bool.and_eq_true, decide_eq_true_eq, Bool.not_eq_true', List.contains_eq_mem, decide_eq_false_iff_not]
        refine ⟨Nat.le_of_not_lt hl, fun hm => ?_⟩
        obtain ⟨p, hp, e⟩ := List.mem_map.mp hm
        exact hq ⟨p, hp, e⟩
  have byP : ∀ b o, s.heap.get? b = some o → (∃ p ∈ P, p.1 = b) → s'.heap.get? b = some o ∧ H' b = none := fun b o e ⟨p, hp, q⟩ => by
    subst q
    have h1 := hP p hp
    rw [e] at h1
    cases h1
    exact PP p hp
  refine I.call' (ch := ch) J.os ⟨fun b o e n hf hb => ?_, fun b o e n hf hb => ?_, fun b o e n hb => ?_, fun b o e hb => ?_, U.tups, U.frzs, U.tbls⟩ ?_ J.bare fun b hb => ?_
  · rcases nch b o e hb with q | q
    · exact U.keep b o ((cutH_get q).trans e) n hf (by simp)
    · exact (byP b o e q).1
  · have hl : b < G.env.locals := old b (by rw [ho]; exact hf)
    exact U.slot b o ((cutH_get hl).trans e) n hf (by simp)
  · rcases nch b o e hb with q | q
    · exact U.free b o ((cutH_get q).trans e) n (by simp)
    · exact (byP b o e q).2
  · rcases nch b o e hb with q | q
    · exact U.there b o ((cutH_get q).trans e) (by simp)
    · exact ⟨o, (byP b o e q).1⟩
  · have := J.hok
    rw [← hp, ← hw]
    exact this
  · obtain ⟨h1, h2⟩ := hch b hb
    refine ⟨.inr (Nat.le_trans hL h1), fun q => ?_, fun x c e q => ?_, fun p hp q => ?_⟩
    · rcases hloc with z | ⟨o, z⟩
      · rw [← q] at z
        exact absurd (Nat.lt_of_lt_of_le z h1) (Nat.lt_irrefl _)
      · exact h2 _ z q.symm
    · have := hcells x c e
      rw [q] at this
      exact absurd (Nat.lt_of_lt_of_le this h1) (Nat.lt_irrefl _)
    · rcases hpins p hp with z | z
      · rw [q] at z
        exact absurd (Nat.lt_of_lt_of_le z h1) (Nat.lt_irrefl _)
      · exact h2 p z q
end Zm
/-! A generator's text: its judgement. -/
namespace Zm
open PySem PySem.Spec PyProof.Rows L2 GenW

/-- a consumer asleep: its own slots, the numbers' places, the heap, the state, what it pins -/
abbrev CIt := Ev → List Addr → Hp → Shared → List (Addr × Obj) → Prop
section
variable (G : Gx) (T : Tb) (CI : CIt)
/-- it stands while the generator runs -/
def Carries : Prop := ∀ τ as H s P, CI τ as H s P → OutOk G H s ∧ PinOk G H s P ∧ ∀ ip σg as' H' s', Inv (G.cx s H P) ip σg H' s' → Ext G.K as H as' H' → CI τ as' H' s' P
/-- the generator's own objects: they stand while the consumer runs -/
def PinG (gp : List (Addr × Obj)) (H : Hp) (s : Shared) : Prop := ∀ p ∈ gp, s.heap.get? p.1 = some p.2 ∧ H p.1 = none ∧ G.env.locals ≤ p.1 ∧ p.1 ∉ frs G.outer ∧ ∀ v, p.2.data ≠ .cell v
def Apt (P gp : List (Addr × Obj)) : Prop := ∀ p ∈ P, ∀ q ∈ gp, p.1 ≠ q.1
/-- where a generator's text stands -/
def GAt (ip : List (Addr × Obj)) (τ : Ev) (as : List Addr) (H : Hp) (h : Mh) (σ : L2.St) (ρ : Ev) (s : Shared) : Prop :=
  ∃ s_r H_r as_r P, CI τ as_r H_r s_r P ∧ Ext G.K as_r H_r as H ∧ Inv (G.cx s_r H_r P) ip σ H s ∧ RH T G.K as H h ∧ RE G.K as H σ ρ ∧ Apt P ip ∧ ∀ p ∈ ip, G.env.locals ≤ p.1
/-- an item is handed out -/
def GYp (Y : Ev → Z → Mh → Res Ev) : Protocol := fun n s₀ v s kap => ∃ τ m z x as H h P gp τ' h', n + 1 + m = sizeLine ∧ RelV x v ∧ RZ G.K as H z x ∧ RH T G.K as H h ∧ CI τ as H s P ∧ PinG G gp H s ∧ Apt P gp ∧ Y τ z h = .ok τ' h' ∧
  ∀ as' H' s' P', RH T G.K as' H' h' → Ext G.K as H as' H' → CI τ' as' H' s' P' → P'.map (·.1) = P.map (·.1) → PinG G gp H' s' → kap (.send .none) s'
/-- behind a statement -/
def FlowAt (ip : List (Addr × Obj)) (τ : Ev) (as : List Addr) (H : Hp) (h : Mh) (fl : Fl) (f : Flow) (s : Shared) : Prop := match fl, f with
  | .nx ρ, .next => ∃ σ, GAt G T CI ip τ as H h σ ρ s
  | .brk ρ, .brk => ∃ σ, GAt G T CI ip τ as H h σ ρ s
  | .cont ρ, .cont => ∃ σ, GAt G T CI ip τ as H h σ ρ s
  | .ret z, .ret u => ∃ σ ρ v, RelV v u ∧ RZ G.K as H z v ∧ GAt G T CI ip τ as H h σ ρ s
  | _, _ => False
/-- where its code stands -/
structure GCd (A : Around) (c : Code) (fs : List Frame) (gd : Bool → Bool) : Prop where
  over : A.over c fs = G.A
  split : splitAtGen fs = none
  guard : fs.any Frame.guarded = false
  gd : gd false = false
/-- what follows -/
def GCont (as0 : List Addr) (H0 : Hp) (Y : Ev → Z → Mh → Res Ev) (ip : List (Addr × Obj)) (A : Around) (R : GenEnd) (c : Code) (fs : List Frame) (K : Flow → Sem PySem.Fin) (r : Ev × Nat × Fl) (h' : Mh) : Prop :=
  ∀ (n : Nat) (s₀ s : Shared) (f : Flow) as H, n + r.2.1 = sizeLine → Ext G.K as0 H0 as H → FlowAt G T CI ip r.1 as H h' r.2.2 f s → Seg (model G.prog G.w) A R (GYp G T CI Y) n s₀ c (K f) fs s
def GSj (Y : Ev → Z → Mh → Res Ev) (ex : Sem Flow) (d : DG) : Prop :=
  ∀ (A : Around) (ip : List (Addr × Obj)) (R : GenEnd) (n m : Nat) (τ : Ev) (as : List Addr) (H : Hp) (h : Mh) (σ : L2.St) (ρ : Ev) (s s₀ : Shared) (c : Code) (fs : List Frame) (K : Flow → Sem PySem.Fin) (J : Value → Sem PySem.Fin) (gd : Bool → Bool) (lv : List Value → List Value) (r : Ev × Nat × Fl) (h' : Mh),
    GCd G A c fs gd → n + m = sizeLine → GAt G T CI ip τ as H h σ ρ s → d τ m ρ h = .ok r h' → GCont G T CI as H Y ip A R c fs K r h' → Seg (model G.prog G.w) A R (GYp G T CI Y) n s₀ c (ex.wrap K J gd lv) fs s
end
section
variable {G : Gx} {T : Tb} {CI : CIt} {Y : Ev → Z → Mh → Res Ev}
theorem RE.blank {K : PySem.W.Frag} {as : List Addr} {H : Hp} (σ : L2.St) : RE K as H σ (List.replicate σ.length none) := by
  refine ⟨by simp, fun i z e => ?_⟩
  rw [List.getElem?_replicate] at e
  split at e <;> cases e
/-- a statement that hands out nothing -/
theorem gj_plain {st : Stmt} {ms : Ev → Mh → Res Fl} (hp : ∀ s H P, PS (G.cx s H P) st (sOf T G.K ms)) : GSj G T CI Y (exec st G.env) (fun τ m ρ h => (ms ρ h).bind fun fl h => .ok (τ, m, fl) h) := by
  intro A ip R n m τ as H h σ ρ s s₀ c fs K J gd lv r h' g hn hat hd k
  obtain ⟨s_r, H_r, as_r, P, ci, ex, I, rh, re, ap, ge⟩ := hat
  dsimp only at hd
  cases q : ms ρ h with
  | stuck => rw [q] at hd; cases hd
  | ok fl h1 =>
    rw [q, Res.bind_ok] at hd
    cases hd
    refine seg_wrap ?_
    rw [g.over]
    have key := (hp s_r H_r P).run ip s σ H
      { nx := fun σ' H' => ∃ as' ρ', fl = .nx ρ' ∧ Ext G.K as H as' H' ∧ RH T G.K as' H' h' ∧ RE G.K as' H' σ' ρ',
        bk := fun σ' H' => ∃ as' ρ', fl = .brk ρ' ∧ Ext G.K as H as' H' ∧ RH T G.K as' H' h' ∧ RE G.K as' H' σ' ρ',
        ct := fun σ' H' => ∃ as' ρ', fl = .cont ρ' ∧ Ext G.K as H as' H' ∧ RH T G.K as' H' h' ∧ RE G.K as' H' σ' ρ',
        rt := fun v H' => ∃ as' z, fl = .ret z ∧ Ext G.K as H as' H' ∧ RH T G.K as' H' h' ∧ RZ G.K as' H' z v } I
      ⟨as, h, ρ, rh, re, by
        rw [q]
        intro as' H' e' r'
        cases fl with
        | nx ρ' => exact fun σ' re' => ⟨as', ρ', rfl, e', r', re'⟩
        | brk ρ' => exact fun σ' re' => ⟨as', ρ', rfl, e', r', re'⟩
        | cont ρ' => exact fun σ' re' => ⟨as', ρ', rfl, e', r', re'⟩
        | ret z => exact fun v q => ⟨as', z, rfl, e', r', q⟩⟩
    refine wpAny_mono key (fun f s' hs => ?_) fun x s' hx => hx.elim
    cases f with
    | next =>
      obtain ⟨σ', H', I', as', ρ', rfl, e', r', re'⟩ := hs
      exact k n s₀ s' .next as' H' hn e' ⟨σ', s_r, H_r, as_r, P, ci, ex.trans e', I', r', re', ap, ge⟩
    | brk =>
      obtain ⟨σ', H', I', as', ρ', rfl, e', r', re'⟩ := hs
      exact k n s₀ s' .brk as' H' hn e' ⟨σ', s_r, H_r, as_r, P, ci, ex.trans e', I', r', re', ap, ge⟩
    | cont =>
      obtain ⟨σ', H', I', as', ρ', rfl, e', r', re'⟩ := hs
      exact k n s₀ s' .cont as' H' hn e' ⟨σ', s_r, H_r, as_r, P, ci, ex.trans e', I', r', re', ap, ge⟩
    | ret u =>
      obtain ⟨v, σ', H', I', rv, as', z, rfl, e', r', rz⟩ := hs
      exact k n s₀ s' (.ret u) as' H' hn e' ⟨σ', _, v, rv, rz, s_r, H_r, as_r, P, ci, ex.trans e', I', r', RE.blank σ', ap, ge⟩
theorem gj_nil : GSj G T CI Y (execs [] G.env) dNil := by
  intro A ip R n m τ as H h σ ρ s s₀ c fs K J gd lv r h' g hn hat hd k
  unfold dNil at hd
  cases hd
  exact seg_execs_nil (k n s₀ s .next as H hn .refl ⟨σ, hat⟩)
theorem gj_cons {st : Stmt} {rest : List Stmt} {a b : DG} (ha : GSj G T CI Y (exec st G.env) a) (hb : GSj G T CI Y (execs rest G.env) b) : GSj G T CI Y (execs (st :: rest) G.env) (dSeq a b) := by
  intro A ip R n m τ as H h σ ρ s s₀ c fs K J gd lv r h' g hn hat hd k
  unfold dSeq at hd
  refine seg_execs_cons ?_
  cases q : a τ m ρ h with
  | stuck => rw [q] at hd; cases hd
  | ok r1 h1 =>
    rw [q, Res.bind_ok] at hd
    refine ha A ip R n m τ as H h σ ρ s s₀ c fs _ J gd lv r1 h1 g hn hat q fun n' s₀' s' f as' H' hn' he' hf => ?_
    obtain ⟨τ1, m1, fl⟩ := r1
    cases f with
    | next =>
      cases fl <;> first | exact hf.elim | skip
      obtain ⟨σ', at'⟩ := hf
      exact hb A ip R n' m1 τ1 as' H' h1 σ' _ s' s₀' c fs K J gd lv r h' g hn' at' hd fun n2 s2 s3 f2 as2 H2 hn2 he2 hf2 => k n2 s2 s3 f2 as2 H2 hn2 (he'.trans he2) hf2
    | brk =>
      cases fl <;> first | exact hf.elim | skip
      cases hd
      exact k n' s₀' s' .brk as' H' hn' he' hf
    | cont =>
      cases fl <;> first | exact hf.elim | skip
      cases hd
      exact k n' s₀' s' .cont as' H' hn' he' hf
    | ret u =>
      cases fl <;> first | exact hf.elim | skip
      cases hd
      exact k n' s₀' s' (.ret u) as' H' hn' he' hf
/-- the frame's own objects -/
theorem GAt.pins {ip : List (Addr × Obj)} {τ : Ev} {as : List Addr} {H : Hp} {h : Mh} {σ : L2.St} {ρ : Ev} {s : Shared} (old : ∀ b ∈ frs G.outer, b < G.env.locals) (hat : GAt G T CI ip τ as H h σ ρ s) : ∃ oL, s.heap.get? G.env.locals = some oL ∧ PinG G ((G.env.locals, oL) :: ip) H s := by
  obtain ⟨s_r, H_r, as_r, P, ci, ex, I, rh, re, ap, ge⟩ := hat
  obtain ⟨m, ⟨o, es, ep, ho, hd, _⟩, _⟩ := I.loc
  refine ⟨o, ho, fun p hp => ?_⟩
  rcases List.mem_cons.mp hp with rfl | hp
  · exact ⟨ho, I.free, Nat.le_refl _, fun hm => absurd (old _ hm) (Nat.lt_irrefl _), fun v q => by rw [hd] at q; cases q⟩
  · obtain ⟨h1, h2, h3, h4, h5⟩ := I.pin p (List.mem_append_right _ hp)
    exact ⟨h1, h2, ge p hp, h4, h5⟩
/-- woken -/
theorem GAt.woken (ok : G.Ok) (car : Carries G CI) {ip : List (Addr × Obj)} {τ : Ev} {as : List Addr} {H : Hp} {h : Mh} {σ : L2.St} {ρ : Ev} {s : Shared} (hat : GAt G T CI ip τ as H h σ ρ s) {oL : Obj} (ho : s.heap.get? G.env.locals = some oL)
    {P P' : List (Addr × Obj)} (ap : Apt P ((G.env.locals, oL) :: ip)) {τ' : Ev} {as' : List Addr} {H' : Hp} {h' : Mh} {s' : Shared} (rh : RH T G.K as' H' h') (ex : Ext G.K as H as' H') (ci : CI τ' as' H' s' P') (hP : P'.map (·.1) = P.map (·.1)) (pg : PinG G ((G.env.locals, oL) :: ip) H' s') :
    GAt G T CI ip τ' as' H' h' σ ρ s' := by
  obtain ⟨s_r, H_r, as_r, P0, ci0, ex0, I, rh0, re, ap0, ge⟩ := hat
  obtain ⟨out, pk, _⟩ := car τ' as' H' s' P' ci
  have apt' : Apt P' ip := fun p hp q hq e => by
    have : p.1 ∈ P.map (·.1) := by
      rw [← hP]
      exact List.mem_map.mpr ⟨p, hp, rfl⟩
    obtain ⟨p2, hp2, e2⟩ := List.mem_map.mp this
    exact ap p2 hp2 q (List.mem_cons_of_mem _ hq) (e2.trans e)
  have hL := pg (G.env.locals, oL) List.mem_cons_self
  refine ⟨s', H', as', P', ci, .refl, Gx.resume ok out pk (fun p hp => ?_) ?_ hL.2.1 I.len, rh, re.mono ex, apt', ge⟩
  · obtain ⟨h1, h2, h3, h4, h5⟩ := pg p (List.mem_cons_of_mem _ hp)
    exact ⟨h1, h2, (I.pin p (List.mem_append_right _ hp)).2.2.1, h4, h5⟩
  · obtain ⟨m, ⟨o, es, ep, ho2, hd, hk, hf⟩, hl⟩ := I.loc
    rw [show (G.cx s_r H_r P0).env.locals = G.env.locals from rfl, ho] at ho2
    cases ho2
    refine ⟨m, ⟨oL, es, ep, hL.1, hd, hk, hf⟩, fun i x v e1 e2 e3 => ?_⟩
    obtain ⟨u, r, l⟩ := hl i x v e1 e2 e3
    refine ⟨u, r, ?_⟩
    rcases l with l | ⟨_, c, e, _⟩
    · exact .inl l
    · have : G.env.cells.lookup x = some c := e
      rw [ok.cells] at this
      cases this
/-- yield -/
theorem gj_yield (ok : G.Ok) (car : Carries G CI) {e : Expr} {yp pos : Pos} {me : Ev → Mh → Res Z} (he : ∀ s H P, PE (G.cx s H P) e (tOf T G.K me)) (hco : G.env.scope.isCoroutine = false) (hi : interactive G.env = false) : GSj G T CI Y (exec (.Expr (.Yield (some e) yp) pos) G.env) (dYld Y me) := by
  intro A ip R n m τ as H h σ ρ s s₀ c fs K J gd lv r h' g hn hat hd k
  unfold dYld at hd
  have hat0 := hat
  obtain ⟨s_r, H_r, as_r, P, ci, ex, I, rh, re, ap, ge⟩ := hat
  cases q : me ρ h with
  | stuck => rw [q] at hd; cases hd
  | ok z h1 =>
    rw [q, Res.bind_ok] at hd
    unfold guard at hd
    split at hd
    · rename_i hm
      obtain ⟨n, rfl⟩ : ∃ k, n = k + 1 := ⟨n - 1, by omega⟩
      refine seg_Expr_Yield g.split g.gd g.guard ?_ hco hi
      rw [g.over]
      have key := (he s_r H_r P).run ip s σ H (fun v H' => ∃ as', Ext G.K as H as' H' ∧ RH T G.K as' H' h1 ∧ RZ G.K as' H' z v) I ⟨as, h, ρ, rh, re, by
        rw [q]
        exact fun as' H' e' r' v qz => ⟨as', e', r', qz⟩⟩
      refine wpAny_mono key (fun v s' hv => ?_) fun x s' hx => hx.elim
      obtain ⟨x, H1, I1, rv, as1, ex1, rh1, rz⟩ := hv
      have at1 : GAt G T CI ip τ as1 H1 h1 σ ρ s' := ⟨s_r, H_r, as_r, P, ci, ex.trans ex1, I1, rh1, re.mono ex1, ap, ge⟩
      obtain ⟨oL, ho, pg⟩ := at1.pins ok.old
      obtain ⟨out, pk, cc⟩ := car τ as_r H_r s_r P ci
      have apL : Apt P ((G.env.locals, oL) :: ip) := fun p hp q hq e => by
        rcases List.mem_cons.mp hq with rfl | hq
        · exact (pk p hp).2.2.1 e
        · exact ap p hp q hq e
      intro kap hk
      cases hY : Y τ z h1 with
      | stuck => rw [hY] at hd; cases hd
      | ok τ' h2 =>
        rw [hY, Res.bind_ok] at hd
        cases hd
        refine ⟨τ, m, z, x, as1, H1, h1, P, (G.env.locals, oL) :: ip, τ', h', by omega, rv, rz, rh1, cc ip σ as1 H1 s' I1 (ex.trans ex1), pg, apL, hY, ?_⟩
        intro as' H' s'' P' rh' ex' ci' hP' pg'
        refine hk .none s'' ?_
        exact k n s'' s'' .next as' H' (by show n + (m + 1) = _; omega) (ex1.trans ex') ⟨σ, at1.woken ok car ho apL rh' ex' ci' hP' pg'⟩
    · cases hd
end
end Zm
/-! A generator's text: if, loops. -/
namespace Zm
open PySem PySem.Spec PyProof.Rows L2 GenW
section
variable {M : Model} {A : Around} {R : GenEnd} {Y : Protocol} {n : Nat} {s₀ : Shared} {c : Code} {fs : List Frame} {s : Shared} {env : Env} {K : Flow → Sem PySem.Fin} {H : Value → Sem PySem.Fin} {gd : Bool → Bool} {lv : List Value → List Value}
theorem seg_For {tg iter : Expr} {body orelse : List Stmt} {pos : Pos}
    (h : wpAny M (A.over c fs) (eval iter env) (fun x s1 => wpAny M (A.over c fs) (pyIter x) (fun it s2 => ∀ p, Seg M A R Y n s₀ (.forLoop tg it body orelse env) (M.den (.forLoop tg it body orelse env))
      (.ret (fun r => ((match r with | .ok f => (.pure f : Sem Flow) | .error e => .raise e).onRaise (cameBack env)).wrap K H gd lv) none (gd false) (lv []) c p [] :: fs) s2) (fun x s' => Seg M A R Y n s₀ c (H x) fs s') s1) (fun x s' => Seg M A R Y n s₀ c (H x) fs s') s)
    (hs : ∀ x, foldedSetIterable iter env x = pure x) : Seg M A R Y n s₀ c ((exec (.For tg iter body orelse pos) env).wrap K H gd lv) fs s := by
  rw [exec_For]
  refine seg_bind_wrap (wpAny_standAt (seg_bind_wrap (wpAny_mono h (fun x s1 h1 => ?_) fun _ _ z => z)))
  refine seg_bind_wrap (wpAny_of_eq (hs x) (seg_bind_wrap (wpAny_standAt (seg_bind_wrap (wpAny_holding (wpAny_mono h1 (fun it s2 h2 => ?_) fun _ _ z => z))))))
  exact seg_call h2
end
section
variable {prog : Program} {w : World} {A : Around} {R : GenEnd} {Y : Protocol} {n : Nat} {s₀ : Shared} {fs : List Frame} {s : Shared} {env : Env}
theorem seg_forLoop {tg : Expr} {it : Value} {body : List Stmt}
    (h : wpAny (model prog w) (A.over (.forLoop tg it body [] env) fs) (pyNext it) (fun r s1 => match r with
      | none => Seg (model prog w) A R Y n s₀ (.forLoop tg it body [] env) (.pure (.again (.block [] env))) fs s1
      | some v => wpAny (model prog w) (A.over (.forLoop tg it body [] env) fs) (letOwnedTupleGo tg it v) (fun _ s2 => wpAny (model prog w) (A.over (.forLoop tg it body [] env) fs) (assign tg env v) (fun _ s3 =>
          Seg (model prog w) A R Y n s₀ (.forLoop tg it body [] env) ((execs body env).wrap (fun f => match f with
            | .next | .cont => .pure (.again (.forLoop tg it body [] env))
            | .brk => .pure (.done .next)
            | .ret v => .pure (.done (.ret v))) (fun e => (do noteFrame e env; theTreesLotGoes e : Sem Unit).wrap (fun _ => .raise e) .raise id id) id id) fs s3) (fun _ _ => False) s2) (fun _ _ => False) s1) (fun _ _ => False) s) :
    Seg (model prog w) A R Y n s₀ (.forLoop tg it body [] env) ((model prog w).den (.forLoop tg it body [] env)) fs s := by
  show Seg _ A R Y n s₀ _ ((forTurn tg it body [] env).onRaise (fun x => do noteFrame x env; theTreesLotGoes x)) fs s
  unfold forTurn
  rw [Sem.onRaise_eq_wrap]
  refine seg_bind_wrap (wpAny_standAt (seg_bind_wrap (wpAny_onRaise (wpAny_mono h (fun r s1 h1 => ?_) fun _ _ z => z.elim))))
  cases r with
  | none => exact h1
  | some v =>
    refine seg_bind_wrap (wpAny_mono h1 (fun _ s2 h2 => ?_) fun _ _ z => z.elim)
    refine seg_bind_wrap (wpAny_mono h2 (fun _ s3 h3 => ?_) fun _ _ z => z.elim)
    rw [Sem.bind_eq_wrap', Sem.wrap_wrap]
    rw [Sem.wrap_congr (execs body env) _ _ (K' := fun f => match f with
            | .next | .cont => .pure (.again (.forLoop tg it body [] env))
            | .brk => .pure (.done .next)
            | .ret v => .pure (.done (.ret v))) (H' := (fun e => (do noteFrame e env; theTreesLotGoes e : Sem Unit).wrap (fun _ => .raise e) .raise id id))
        (fun f => by cases f <;> rfl)
        (fun e => by first | exact Sem.bind_eq_wrap _ _ | (show (do noteFrame e env; theTreesLotGoes e : Sem Unit).bind (fun _ => .raise e) = _; rw [Sem.bind_eq_wrap]))]
    exact h3
end
section
variable {G : Gx} {T : Tb} {CI : CIt} {Y : Ev → Z → Mh → Res Ev}
theorem gj_if {test : Expr} {body orelse : List Stmt} {pos : Pos} {mt : Ev → Mh → Res Bool} {a b : DG} (ht : ∀ s H P, PT (G.cx s H P) test (tOfB T G.K mt)) (ha : GSj G T CI Y (execs body G.env) a) (hb : GSj G T CI Y (execs orelse G.env) b) :
    GSj G T CI Y (exec (.If test body orelse pos) G.env) (dIte mt a b) := by
  intro A ip R n m τ as H h σ ρ s s₀ c fs K J gd lv r h' g hn hat hd k
  obtain ⟨s_r, H_r, as_r, P, ci, ex, I, rh, re, ap, ge⟩ := hat
  unfold dIte at hd
  cases q : mt ρ h with
  | stuck => rw [q] at hd; cases hd
  | ok t h1 =>
    rw [q, Res.bind_ok] at hd
    rw [exec_If]
    refine seg_bind_wrap (wpAny_standAt (seg_bind_wrap ?_))
    rw [g.over]
    have key := (ht s_r H_r P).run ip s σ H (fun b H' => b = t ∧ ∃ as', Ext G.K as H as' H' ∧ RH T G.K as' H' h1) I ⟨as, h, ρ, rh, re, by
      rw [q]
      exact fun as' H' e' r' => ⟨rfl, as', e', r'⟩⟩
    refine wpAny_mono key (fun b s' hv => ?_) fun x s' hx => hx.elim
    obtain ⟨H1, I1, rfl, as1, ex1, rh1⟩ := hv
    have at1 : GAt G T CI ip τ as1 H1 h1 σ ρ s' := ⟨s_r, H_r, as_r, P, ci, ex.trans ex1, I1, rh1, re.mono ex1, ap, ge⟩
    cases b with
    | true =>
      rw [if_pos rfl] at hd ⊢
      exact ha A ip R n m τ as1 H1 h1 σ ρ s' s₀ c fs K J gd lv r h' g hn at1 hd fun n2 s2 s3 f2 as2 H2 hn2 he2 hf2 => k n2 s2 s3 f2 as2 H2 hn2 (ex1.trans he2) hf2
    | false =>
      rw [if_neg Bool.false_ne_true] at hd ⊢
      exact hb A ip R n m τ as1 H1 h1 σ ρ s' s₀ c fs K J gd lv r h' g hn at1 hd fun n2 s2 s3 f2 as2 H2 hn2 he2 hf2 => k n2 s2 s3 f2 as2 H2 hn2 (ex1.trans he2) hf2
theorem gcd_loop {A : Around} {c c' : Code} {fs : List Frame} {gd : Bool → Bool} {k : Result → Sem PySem.Fin} {l kp : List Value} {p : Pos} (g : GCd G A c fs gd) (hw : c'.weight = 0) (hu : c'.cUnits = 0) : GCd G A c' (.ret k none (gd false) l c p kp :: fs) id where
  over := (over_loop hw hu).trans g.over
  split := by
    show (splitAtGen fs).map _ = none
    rw [g.split]; rfl
  guard := by
    show (gd false || fs.any Frame.guarded) = false
    rw [g.gd, g.guard]; rfl
  gd := rfl
end
end Zm
/-! A generator's text: for. -/
namespace Zm
open PySem PySem.Spec PyProof.Rows L2 GenW
theorem fm_congr {α β : Type} {f g : α → Option β} : ∀ {l : List α}, (∀ a ∈ l, f a = g a) → l.filterMap f = l.filterMap g
  | [], _ => rfl
  | a :: l, h => by
    rw [List.filterMap_cons, List.filterMap_cons, h a List.mem_cons_self, fm_congr fun b hb => h b (List.mem_cons_of_mem _ hb)]
section
variable {G : Gx} {T : Tb} {CI : CIt} {Y : Ev → Z → Mh → Res Ev}
theorem GAt.unpin {ip pl : List (Addr × Obj)} {τ : Ev} {as : List Addr} {H : Hp} {h : Mh} {σ : L2.St} {ρ : Ev} {s : Shared} (hat : GAt G T CI (ip ++ pl) τ as H h σ ρ s) : GAt G T CI ip τ as H h σ ρ s := by
  obtain ⟨s_r, H_r, as_r, P, ci, ex, I, rh, re, ap, ge⟩ := hat
  exact ⟨s_r, H_r, as_r, P, ci, ex, I.unpinned, rh, re, fun p hp q hq => ap p hp q (List.mem_append_left _ hq), fun p hp => ge p (List.mem_append_left _ hp)⟩
theorem gj_for (ok : G.Ok) {tg iter : Expr} {body : List Stmt} {pos : Pos} {is : List Nat} {mi : Ev → Mh → Res Wk} {t : Z → Ev → Mh → Res Ev} {b : DG} (hi : ∀ s H P, PI (G.cx s H P) tg iter (iOf T G.K mi)) (hg : ∀ s H P, PG (G.cx s H P) tg (gOf T G.K is t)) (hb : GSj G T CI Y (execs body G.env) b)
    (hs : ∀ x, foldedSetIterable iter G.env x = pure x) : GSj G T CI Y (exec (.For tg iter body [] pos) G.env) (dFor mi t b) := by
  intro A ip R n m τ as H h σ ρ s s₀ c fs K J gd lv r h' g hn hat hd k
  obtain ⟨s_r, H_r, as_r, P, ci, ex, I, rh, re, ap, ge⟩ := hat
  unfold dFor at hd
  cases q : mi ρ h with
  | stuck => rw [q] at hd; cases hd
  | ok w h1 =>
    rw [q, Res.bind_ok] at hd
    refine seg_For ?_ hs
    rw [g.over]
    have key := (hi s_r H_r P).run ip s σ H (fun J H' => ∃ as', Ext G.K as H as' H' ∧ RH T G.K as' H' h1 ∧ ItOk T G.K as' H' J w) I ⟨as, h, ρ, rh, re, by
      rw [q]
      exact fun as' H' e' r' st J hJ => ⟨as', e', r', hJ⟩⟩
    refine wpAny_mono key (fun v s1 hv => ?_) fun x s' hx => hx.elim
    refine wpAny_mono hv (fun itv s2 hp => ?_) fun x s' hx => hx.elim
    obtain ⟨it, fp, tn, Jt, H2, rfl, I2, Tn, st2, f2, as2, e2, r2, io⟩ := hp
    intro p
    have ge2 : ∀ b ∈ fp, G.env.locals ≤ b := fun b hb => by
      rcases (f2 b hb).2.2.2.1 with z | z
      · exact absurd z (by simp [Gx.cx])
      · have : (cutH G.env.locals s_r.heap).objs.size ≤ b := z
        rwa [cutH_size'] at this
    have at2 : GAt G T CI (ip ++ pinsAt fp s2.heap) τ as2 H2 h1 σ ρ s2 := by
      refine ⟨s_r, H_r, as_r, P, ci, ex.trans e2, I2.pinned f2 (Tn.obj 0 _ st2), r2, re.mono e2, fun p hp q hq => ?_, fun p hp => ?_⟩
      · rcases List.mem_append.mp hq with hq | hq
        · exact ap p hp q hq
        · obtain ⟨hb, _⟩ := of_pinsAt hq
          exact (f2 q.1 hb).2.2.2.2.2 p (List.mem_append_left _ hp)
      · rcases List.mem_append.mp hp with hp | hp
        · exact ge p hp
        · exact ge2 p.1 (of_pinsAt hp).1
    have gl := fun (kk : Result → Sem PySem.Fin) => gcd_loop (G := G) (k := kk) (c' := .forLoop tg (.ref it) body [] G.env) (l := lv []) (kp := []) (p := p) g rfl rfl
    have loop : ∀ (k0 i n m : Nat) (τ : Ev) (as : List Addr) (H : Hp) (h : Mh) (σ : L2.St) (ρ : Ev) (s s₀ : Shared), i + k0 = w.items.length → n + m = sizeLine → Ext G.K as2 H2 as H → GAt G T CI (ip ++ pinsAt fp s.heap) τ as H h σ ρ s → tn i s.heap →
        gForL w.still t b (w.items.drop i) τ m ρ h = .ok r h' →
        Seg (model G.prog G.w) A R (GYp G T CI Y) n s₀ (.forLoop tg (.ref it) body [] G.env) ((model G.prog G.w).den (.forLoop tg (.ref it) body [] G.env))
          (.ret (fun r => ((match r with | .ok f => (.pure f : Sem Flow) | .error e => .raise e).onRaise (cameBack G.env)).wrap K J gd lv) none (gd false) (lv []) c p [] :: fs) s := by
      intro k0
      induction k0 with
      | zero =>
        intro i n m τ as H h σ ρ s s₀ hk hn he hat ht hd
        have hat0 := hat.unpin
        obtain ⟨s_r, H_r, as_r, P, ci, ex, I, rh, re, ap, ge⟩ := hat
        rw [List.drop_eq_nil_of_le (by omega), gForL] at hd
        unfold guard at hd
        split at hd
        · rename_i st
          cases hd
          have stop := (io as H h' i he rh st).2 (by omega)
          refine seg_forLoop ?_
          rw [(gl _).over]
          have fpo : ∀ b ∈ fp, FpOk (G.cx s_r H_r P) ip H b := fun b hb => by
            obtain ⟨o, e, d⟩ := Tn.obj _ _ ht b hb
            obtain ⟨q1, q2, q3, q4, q5⟩ := I.pin (b, o) (List.mem_append_right _ (List.mem_append_right _ (mem_pinsAt hb e)))
            refine ⟨q2, q3, q4, .inr ?_, fun x c e => ?_, fun p hp => ?_⟩
            · show (cutH G.env.locals s_r.heap).objs.size ≤ b
              rw [cutH_size']
              exact ge2 b hb
            · have : G.env.cells.lookup x = some c := e
              rw [ok.cells] at this
              cases this
            · rcases List.mem_append.mp hp with hp | hp
              · exact ap p hp (b, o) (List.mem_append_right _ (mem_pinsAt hb e))
              · exact (f2 b hb).2.2.2.2.2 p (List.mem_append_right _ hp)
          refine wpAny_mono (Tn.done (G.cx s_r H_r P) rfl rfl rfl rfl i ip s σ H (fun _ _ => False) I.unpinned fpo ht stop) (fun r s1 ⟨hr, I1⟩ => ?_) fun _ _ z => z.elim
          subst hr
          refine seg_again rfl ?_
          exact seg_leaf (.ok .next) (k n s₀ s1 .next as H hn (e2.trans he) ⟨σ, s_r, H_r, as_r, P, ci, ex, I1, rh, re, fun p hp q hq => ap p hp q (List.mem_append_left _ hq), fun p hp => ge p (List.mem_append_left _ hp)⟩)
        · cases hd
      | succ k0 ih =>
        intro i n m τ as H h σ ρ s s₀ hk hn he hat ht hd
        obtain ⟨s_r, H_r, as_r, P, ci, ex, I, rh, re, ap, ge⟩ := hat
        have hi : i < w.items.length := by omega
        rw [List.drop_eq_getElem_cons hi, gForL] at hd
        unfold guard at hd
        split at hd
        · rename_i st
          have go := (io as H h i he rh st).1 hi
          refine seg_forLoop ?_
          rw [(gl _).over]
          have stat : ∀ {H' : Hp}, (∀ b ∈ fp, H' b = none) → ∀ b ∈ fp, FpOk (G.cx s_r H_r P) ip H' b := fun {H'} hn' b hb => by
            obtain ⟨o, e, d⟩ := Tn.obj _ _ ht b hb
            obtain ⟨q1, q2, q3, q4, q5⟩ := I.pin (b, o) (List.mem_append_right _ (List.mem_append_right _ (mem_pinsAt hb e)))
            refine ⟨hn' b hb, q3, q4, .inr ?_, fun x c e => ?_, fun p hp => ?_⟩
            · show (cutH G.env.locals s_r.heap).objs.size ≤ b
              rw [cutH_size']
              exact ge2 b hb
            · have : G.env.cells.lookup x = some c := e
              rw [ok.cells] at this
              cases this
            · rcases List.mem_append.mp hp with hp | hp
              · exact ap p hp (b, o) (List.mem_append_right _ (mem_pinsAt hb e))
              · exact (f2 b hb).2.2.2.2.2 p (List.mem_append_right _ hp)
          have fpo := stat (H' := H) fun b hb => by
            obtain ⟨o, e, d⟩ := Tn.obj _ _ ht b hb
            exact (I.pin (b, o) (List.mem_append_right _ (List.mem_append_right _ (mem_pinsAt hb e)))).2.1
          refine wpAny_mono (Tn.item (G.cx s_r H_r P) rfl rfl rfl rfl i ip s σ H (fun _ _ => False) I.unpinned fpo ht go.1) (fun r0 s1 ⟨u, hr, h4⟩ => ?_) fun _ _ z => z.elim
          subst hr
          refine wpAny_mono h4 (fun _ s3 ⟨x, H5, I5, r5, y5, st5, fr5⟩ => ?_) fun _ _ z => z.elim
          obtain ⟨z, ez, e3, r3, qz⟩ := go.2 x H5 y5
          rw [List.getElem?_eq_getElem hi] at ez
          cases ez
          have I5' := I5.pinned (stat fr5) (Tn.obj _ _ st5)
          cases qt : t w.items[i] ρ h with
          | stuck => rw [qt] at hd; cases hd
          | ok ρ2 h2 =>
            rw [qt, Res.bind_ok] at hd
            cases qb : b τ m ρ2 h2 with
            | stuck => rw [qb] at hd; cases hd
            | ok r1 h3 =>
              rw [qb, Res.bind_ok] at hd
              have kg := (hg s_r H_r P).run (ip ++ pinsAt fp s3.heap) s3 σ H5 x u (fun σ' H' => ∃ as', Ext G.K as H5 as' H' ∧ RH T G.K as' H' h2 ∧ RE G.K as' H' σ' ρ2) I5' r5 ⟨as, h, ρ, _, r3, re.mono e3, qz, by
                rw [qt]
                exact fun as' H' e' r' σ' re' _ => ⟨as', e', r', re'⟩⟩
              refine wpAny_mono kg (fun _ s6 ⟨σ6, H6, I6, as6, e6, r6, re6⟩ => ?_) fun _ _ z => z.elim
              have at6 : GAt G T CI (ip ++ pinsAt fp s3.heap) τ as6 H6 h2 σ6 ρ2 s6 := by
                refine ⟨s_r, H_r, as_r, P, ci, ex.trans (e3.trans e6), I6, r6, re6, fun p hp q hq => ?_, fun p hp => ?_⟩
                · rcases List.mem_append.mp hq with hq | hq
                  · exact ap p hp q (List.mem_append_left _ hq)
                  · obtain ⟨hb, _⟩ := of_pinsAt hq
                    exact (fpo q.1 hb).2.2.2.2.2 p (List.mem_append_left _ hp)
                · rcases List.mem_append.mp hp with hp | hp
                  · exact ge p (List.mem_append_left _ hp)
                  · exact ge2 p.1 (of_pinsAt hp).1
              have eA : Ext G.K as2 H2 as6 H6 := he.trans (e3.trans e6)
              refine hb A (ip ++ pinsAt fp s3.heap) R n m τ as6 H6 h2 σ6 ρ2 s6 s₀ _ _ _ _ id id r1 h3 (gl _) hn at6 qb fun n7 s₀7 s7 f as7 H7 hn7 e7 hf => ?_
              obtain ⟨τ1, m1, fl⟩ := r1
              have again : ∀ {ρ7 : Ev} {σ7 : L2.St}, GAt G T CI (ip ++ pinsAt fp s3.heap) τ1 as7 H7 h3 σ7 ρ7 s7 → gForL w.still t b (w.items.drop (i + 1)) τ1 m1 ρ7 h3 = .ok r h' →
                  Seg (model G.prog G.w) A R (GYp G T CI Y) n7 s₀7 (.forLoop tg (.ref it) body [] G.env) ((model G.prog G.w).den (.forLoop tg (.ref it) body [] G.env))
                    (.ret (fun r => ((match r with | .ok f => (.pure f : Sem Flow) | .error e => .raise e).onRaise (cameBack G.env)).wrap K J gd lv) none (gd false) (lv []) c p [] :: fs) s7 := by
                intro ρ7 σ7 at7 hd7
                have same : ∀ b ∈ fp, ∀ o, s3.heap.get? b = some o → s7.heap.get? b = some o := fun b hb o e => by
                  obtain ⟨_, _, _, _, _, _, I7, _⟩ := at7
                  exact (I7.pin (b, o) (List.mem_append_right _ (List.mem_append_right _ (mem_pinsAt hb e)))).1
                have epin : pinsAt fp s7.heap = pinsAt fp s3.heap := by
                  unfold pinsAt
                  refine fm_congr fun b hb => ?_
                  obtain ⟨o, e, _⟩ := Tn.obj _ _ st5 b hb
                  rw [e, same b hb o e]
                exact ih (i + 1) n7 m1 τ1 as7 H7 h3 σ7 ρ7 s7 s₀7 (by omega) hn7 (eA.trans e7) (by rw [epin]; exact at7) (Tn.keep _ _ _ st5 same) hd7
              cases f with
              | next =>
                cases fl <;> first | exact hf.elim | skip
                obtain ⟨σ7, at7⟩ := hf
                exact seg_again rfl (again at7 hd)
              | cont =>
                cases fl <;> first | exact hf.elim | skip
                obtain ⟨σ7, at7⟩ := hf
                exact seg_again rfl (again at7 hd)
              | brk =>
                cases fl <;> first | exact hf.elim | skip
                obtain ⟨σ7, at7⟩ := hf
                cases hd
                exact seg_leaf (.ok .next) (k n7 s₀7 s7 .next as7 H7 hn7 (e2.trans (eA.trans e7)) ⟨σ7, at7.unpin⟩)
              | ret u7 =>
                cases fl <;> first | exact hf.elim | skip
                obtain ⟨σ7, ρ7, v7, rv7, rz7, at7⟩ := hf
                cases hd
                exact seg_leaf (.ok (.ret u7)) (k n7 s₀7 s7 (.ret u7) as7 H7 hn7 (e2.trans (eA.trans e7)) ⟨σ7, ρ7, v7, rv7, rz7, at7.unpin⟩)
        · cases hd
    exact loop w.items.length 0 n m τ as2 H2 h1 σ ρ s2 s₀ (Nat.zero_add _) hn .refl at2 st2 (by rw [List.drop_zero]; exact hd)
end
end Zm
/-! A generator is woken; its run as a whole. -/
namespace Zm
open PySem PySem.Spec PyProof.Rows L2 GenW
open Sem (wp)

/-- a resume: a sleeper sleeps as it says -/
theorem resume_S {M : Model} {A : Around} {R : GenEnd} {Y : Protocol} {n : Nat} {E : Value → Shared → Prop} {s : Shared} {g : Nat} {gs : GenState} {r : Resume} {l : List Value} {α : Type} {k : GenResult → Sem α} {Q : α → Shared → Prop}
    (hg : s.gens[g]? = some gs) (hgo : gs.Goes M A R Y n r (s.setGen g .running)) (hR : ∀ x s1, R n (s.setGen g .running) x s1 → wpAny M A (k (End.ret x).result) Q E (s1.setGen g .finished))
    (hY : ∀ v s1 kk ll c p fs, Y (n - 1) (s.setGen g .running) v s1 (fun r' s2 => match n with | 0 => False | m + 1 => Seg M A R Y m s2 c (kk r') fs s2) → wpAny M A (k (.yielded v)) Q E (s1.setGen g (.suspended kk ll c p fs false))) :
    wpAny M A (.resume g r l k) Q E s := by
  intro Γ p hΓ
  rw [Sem.wp_resume]
  have both : ∀ e1 s1, SegEnd R Y n (Seg.next M A R Y n) (s.setGen g .running) e1 s1 → e1.quiet = true ∧ wp M Γ (k e1.result) (fun a _ s' => Q a s') (fun e _ s' => E e s') p (s1.setGen g e1.genState) := by
    rintro (x | ⟨v, g0, l0, k0, c0, p0, fs0⟩) s1 he
    · exact ⟨rfl, hR x s1 he Γ p hΓ⟩
    · have hb : (g0 || fs0.any Frame.guarded) = false := by simpa [End.quiet] using he.1
      refine ⟨he.1, ?_⟩
      have := hY v s1 k0 l0 c0 p0 fs0 (by cases n <;> exact he.2) Γ p hΓ
      rw [show (End.susp v g0 l0 k0 c0 p0 fs0).genState = .suspended k0 l0 c0 p0 fs0 false by simp only [End.genState, hb]]
      exact this
  cases gs <;> first | exact hgo.elim | skip
  · rename_i c
    obtain ⟨rfl, hs⟩ := hgo
    obtain ⟨e1, s1, hr, he⟩ := seg_iff.mp hs (Γ.wake c p) p rfl (hΓ.wake c p)
    exact ⟨_, _, by rw [Wakes, hg]; exact ⟨e1, s1, hr, (both e1 s1 he).1, rfl, rfl⟩, (both e1 s1 he).2⟩
  · rename_i k1 l1 c1 p1 fs1 b1
    obtain ⟨e1, s1, hr, he⟩ := seg_iff.mp hgo (Γ.wake c1 p) p1 rfl (hΓ.wake c1 p)
    exact ⟨_, _, by rw [Wakes, hg]; exact ⟨e1, s1, hr, (both e1 s1 he).1, rfl, rfl⟩, (both e1 s1 he).2⟩
/-- next(..) of a generator -/
theorem next_S {P : Program} {w : World} {A : Around} {E : Value → Shared → Prop} {s : Shared} {a : Addr} {g n : Nat} {gs : GenState} {F : Shared → Prop} {Y : Protocol} {Q : Option Value → Shared → Prop} (hh : A.handled = none) (hl : s.heap.NoLimit) (hroom : A.depth < recursionLimit)
    (hg : s.heap.IsGen a g) (hgs : s.gens[g]? = some gs) (hgo : gs.Goes (model P w) A.in1 (fun _ _ r s1 => (r = .ok (.ret .none) ∨ r = .ok .next) ∧ F s1) Y n (.send .none) (s.setGen g .running))
    (hY : ∀ v s1 kk ll c p fs, Y (n - 1) (s.setGen g .running) v s1 (fun r' s2 => match n with | 0 => False | m + 1 => Seg (model P w) A.in1 (fun _ _ r s1 => (r = .ok (.ret .none) ∨ r = .ok .next) ∧ F s1) Y m s2 c (kk r') fs s2) → Q (some v) (s1.setGen g (.suspended kk ll c p fs false)))
    (hP : ∀ s1, F s1 → ∀ h', (∀ b o, s1.heap.get? b = some o → h'.get? b = some o) → Q none { s1.setGen g .finished with heap := h' }) : wpAny (model P w) A (pyNext (.ref a)) Q E s := by
  have ty := hg.typeIs
  unfold pyNext
  refine wpAny_bind (wpAny_attempt (wpAny_callSpecial?_slot (name := Str.ofString "__next__") ty slot_gen_next (wpAny_call_entry slot_gen_next ty entry_gen_next ?_ (args_gen_next _))))
  show wpAny _ A.in1 (Builtin.Generator.genWake (.ref a) (.send .none)) _ _ s; unfold Builtin.Generator.genWake; refine wpAny_bind (wpAny_holding (wpAny_genNumber hg (wpAny_bind (wpAny_genState hgs ?_))))
  cases gs <;> first | exact hgo.elim | skip
  all_goals
    refine wpAny_bind (wpAny_roomToWake hl hroom ?_); show wpAny _ A.in1 (.resume g (.send .none) [] _) _ _ s
    refine resume_S hgs hgo (fun x s1 ⟨hr, hp⟩ => ?_) (fun v s1 kk ll c p fs hv => ?_)
    · have hres : End.result (.ret x) = .returned .none := by rcases hr with rfl | rfl <;> rfl
      rw [hres]
      show wpAny _ A.in1 (newExc (.type "StopIteration") [] >>= _) _ _ _
      refine wpAny_bind ?_; simp only [newExc, newTuple]
      refine wpAny_bind (wpAny_newObj_type ?_ (by size_fits)); refine wpAny_bind (m := firstArgMember _ _) (wpAny_of_eq (a := Value.none) (by first | rfl | (simp only [firstArgMember]; rfl)) ?_)
      refine wpAny_newObj_type ?_ (by size_fits); simp only [raiseNew]
      refine wpAny_bind (wpAny_bind (wpAny_handled ?_)); rw [show A.in1.handled = none from hh]
      refine wpAny_throw (wpAny_bind (wpAny_isInstance (T := "StopIteration") (b := true) ⟨_, Heap.get?_push_size _ rfl, rfl⟩ isSubtype_stop (wpAny_pure ?_)))
      exact hP s1 hp _ fun b o hb => Heap.get?_push_of_some _ (Heap.get?_push_of_some _ hb)
    · exact wpAny_pure ⟨v, rfl, wpAny_pure (hY v s1 kk ll c p fs hv)⟩
end Zm
/-! A generator's run from its start; a for over a generator that was just made. -/
namespace Zm
open PySem PySem.Spec PyProof.Rows L2 GenW
section
variable (G : Gx) (T : Tb) (CI : CIt)
/-- the end of its run -/
def GFin (as0 : List Addr) (H0 : Hp) (τ' : Ev) (h' : Mh) : Shared → Prop := fun s => ∃ as H P, Ext G.K as0 H0 as H ∧ RH T G.K as H h' ∧ CI τ' as H s P
abbrev GEnd (as0 : List Addr) (H0 : Hp) (τ' : Ev) (h' : Mh) : GenEnd := fun _ _ r s1 => (r = .ok (.ret .none) ∨ r = .ok .next) ∧ GFin G T CI as0 H0 τ' h' s1
end
theorem gen_start {G : Gx} {T : Tb} {CI : CIt} {Y : Ev → Z → Mh → Res Ev} (car : Carries G CI) {body : List Stmt} {d : DG} (hb : GSj G T CI Y (execs body G.env) d) {Aw : Around} (hA : Aw.over (.func body G.env) [] = G.A) {τ τ' : Ev} {as : List Addr} {H : Hp} {h h' : Mh} {σ : L2.St} {ρ : Ev} {s s₀ : Shared} {m' : Nat} {fl : Fl}
    (hat : GAt G T CI [] τ as H h σ ρ s) (hd : d τ 0 ρ h = .ok (τ', m', fl) h') (hfl : flEnds fl = true) : Seg (model G.prog G.w) Aw (GEnd G T CI as H τ' h') (GYp G T CI Y) sizeLine s₀ (.func body G.env) ((model G.prog G.w).den (.func body G.env)) [] s := by
  have fin : ∀ {as1 : List Addr} {H1 : Hp} {σ1 : L2.St} {ρ1 : Ev} {s1 : Shared}, Ext G.K as H as1 H1 → GAt G T CI [] τ' as1 H1 h' σ1 ρ1 s1 → GFin G T CI as H τ' h' s1 := by
    intro as1 H1 σ1 ρ1 s1 e ⟨s_r, H_r, as_r, P, ci, ex, I, rh, _⟩
    exact ⟨as1, H1, P, e, rh, (car _ _ _ _ _ ci).2.2 [] _ _ _ _ I ex⟩
  refine seg_func (hb Aw [] _ sizeLine 0 τ as H h σ ρ s s₀ _ [] _ _ id id _ h' ⟨hA, rfl, rfl, rfl⟩ (Nat.add_zero _) hat hd fun n s₁ s1 f as1 H1 hn e hf => ?_)
  cases f with
  | next =>
    cases fl <;> first | exact hf.elim | skip
    obtain ⟨σ1, at1⟩ := hf
    exact seg_end (.ok (.ret .none)) ⟨.inl rfl, fin e at1⟩
  | brk => cases fl <;> first | exact hf.elim | cases hfl
  | cont => cases fl <;> first | exact hf.elim | cases hfl
  | ret u =>
    cases fl <;> first | exact hf.elim | skip
    rename_i z
    cases z <;> try (cases hfl; done)
    obtain ⟨σ1, ρ1, v, rv, rz, at1⟩ := hf
    rw [rz.non_inv] at rv
    have eu : u = .none := rv
    subst eu
    exact seg_end (.ok (.ret .none)) ⟨.inl rfl, fin e at1⟩

/-- a generator that has not begun -/
def GNew (X : Cx) (T : Tb) (pins : List (Addr × Obj)) (as : List Addr) (H : Hp) (gen : (Ev → Z → Mh → Res Ev) → Ev → Mh → Res Ev) (u : Value) (s : Shared) : Prop :=
  ∃ (G : Gx) (a : Addr) (g : Nat) (oL go : Obj) (c : Code), u = .ref a ∧ G.Ok ∧ G.prog = X.prog ∧ G.w = X.w ∧ G.K = X.K ∧ G.mg = X.mg ∧ G.base = X.base ∧ G.outer = X.stack ∧
    (X.env.locals < G.env.locals ∧ (∀ x c, X.env.cells.lookup x = some c → c < G.env.locals) ∧ (∀ p ∈ X.pn ++ pins, p.1 < G.env.locals) ∧ X.s_0.heap.objs.size ≤ G.env.locals ∧ G.env.locals < a) ∧
    (H G.env.locals = none ∧ H a = none ∧ s.heap.get? G.env.locals = some oL ∧ (∀ v, oL.data ≠ .cell v) ∧ s.heap.get? a = some go) ∧
    (go.cls = .type "generator" ∧ (∃ nm qn, go.data = .fields #[.int g 0, nm, qn]) ∧ go.slots = #[] ∧ s.gens[g]? = some (.fresh c)) ∧
    ∀ (CI : CIt) Y τ as' H' h' s' P τ' h'', Carries G CI → CI τ as' H' s' P → RH T X.K as' H' h' → Ext X.K as H as' H' → PinG G [(G.env.locals, oL)] H' s' → Apt P [(G.env.locals, oL)] → gen Y τ h' = .ok τ' h'' →
      Seg (model X.prog X.w) X.A.in1 (GEnd G T CI as' H' τ' h'') (GYp G T CI Y) sizeLine s' c ((model X.prog X.w).den c) [] s'
theorem Inv.regen {X : Cx} {pins : List (Addr × Obj)} {σ : L2.St} {H : Hp} {s : Shared} (I : Inv X pins σ H s) {B : Array GenState} (hb : AllBare B) : Inv X pins σ H { s with gens := B } :=
  ⟨I.ok, I.os, hb, I.base, I.loc, I.cell, I.free, I.freeC, I.pin, I.hok, I.len⟩
theorem Inv.fs_stack {X : Cx} {pins : List (Addr × Obj)} {σ : L2.St} {H : Hp} {s : Shared} (I : Inv X pins σ H s) {b : Addr} (hb : b ∈ X.fs) : b ∈ frs X.stack := by
  rcases I.ok.stk with e | ⟨e, f⟩
  · rw [e]; exact hb
  · rw [e]
    show b ∈ (X.env :: X.outer).filterMap _
    rw [List.filterMap_cons, f]
    exact List.mem_cons_of_mem _ hb
theorem gfor_run {X : Cx} {T : Tb} (hx : ∀ e s, ¬ X.xe e s) (hh : X.A.handled = none) (hdp : X.A.depth < recursionLimit) {tg : Expr} {body : List Stmt} {is : List Nat} {t : Z → Ev → Mh → Res Ev} {mb : Ev → Mh → Res Fl} (hg : PG X tg (gOf T X.K is t)) (hb : PSs X body (sOf T X.K mb))
    {pins : List (Addr × Obj)} {s : Shared} {σ : L2.St} {as : List Addr} {H : Hp} {h : Mh} {ρ : Ev} {gen : (Ev → Z → Mh → Res Ev) → Ev → Mh → Res Ev} {u : Value} {D : Ends} {τ' : Ev} {h'' : Mh}
    (I : Inv X pins σ H s) (rh : RH T X.K as H h) (re : RE X.K as H σ ρ) (gn : GNew X T pins as H gen u s) (hr : gen (turnZ t mb) ρ h = .ok τ' h'')
    (fin : ∀ as' H' σ', Ext X.K as H as' H' → RH T X.K as' H' h'' → RE X.K as' H' σ' τ' → D.nx σ' H') :
    codeAny (model X.prog X.w) X.A (.forLoop tg u body [] X.env) (fun r s' => match r with | .ok f => SP X pins D f s' | .error e => cameBackBy (model X.prog X.w) X.A X.env X.xe e s') s := by
  obtain ⟨G, a, g, oL, go, c, rfl, ok, ep, ew, eK, em, eb, eo, ⟨l1, l2, l3, l4, l5⟩, ⟨q1, q2, q3, q4, q5⟩, ⟨g1, g2, g3, g4⟩, wake⟩ := gn
  obtain ⟨prog, w, K, mg, base, A, N, env, outer⟩ := G
  dsimp only at ep ew eK em eb eo l1 l2 l3 l4 l5 q1 q3 wake
  subst ep ew eK em eb eo
  have gcell : ∀ v, go.data ≠ .cell v := fun v e => by
    obtain ⟨nm, qn, e2⟩ := g2
    rw [e2] at e; cases e
  have aL : a ≠ env.locals := Nat.ne_of_gt l5
  have aS : a ∉ frs X.stack := fun hm => absurd (Nat.lt_trans (ok.old a hm) l5) (Nat.lt_irrefl _)
  let G : Gx := ⟨X.prog, X.w, X.K, X.mg, X.base, A, N, env, X.stack⟩
  let CI : CIt := fun τ as2 H2 s2 P => P = [(a, go)] ∧ Ext X.K as H as2 H2 ∧ ∃ σ2, Inv X pins σ2 H2 s2 ∧ RE X.K as2 H2 σ2 τ ∧ s2.heap.get? a = some go ∧ H2 a = none
  have car : Carries G CI := by
    rintro τ as2 H2 s2 P ⟨rfl, ex, σ2, I2, re2, ga, ha⟩
    have e0 := I2.env0
    refine ⟨⟨e0.mod, e0.bs, e0.funs, e0.frf, e0.hok, e0.bare⟩, fun p hp => ?_, fun ip σg as3 H3 s3 J e3 => ?_⟩
    · rw [List.mem_singleton.mp hp]
      exact ⟨ga, ha, aL, aS, gcell⟩
    · obtain ⟨p1, p2, _⟩ := J.pin (a, go) (List.mem_append_left _ (List.mem_singleton.mpr rfl))
      refine ⟨rfl, ex.trans e3, σ2, carry I2 J rfl rfl rfl ok.old l4 (.inl l1) l2 (fun p hp => .inl (l3 p hp)) (fun p hp => ?_), re2.mono e3, p1, p2⟩
      rw [List.mem_singleton.mp hp]
      exact ga
  have isg : ∀ {hp : Heap}, hp.get? a = some go → hp.IsGen a g := fun {hp} e => by
    obtain ⟨nm, qn, e2⟩ := g2
    exact ⟨go, nm, qn, e, g1, e2, g3⟩
  have apt : Apt [(a, go)] [(env.locals, oL)] := fun p hp q hq => by
    rw [List.mem_singleton.mp hp, List.mem_singleton.mp hq]
    exact aL
  have reg : ∀ {τ as2 H2 s2 P} {B : Array GenState}, CI τ as2 H2 s2 P → AllBare B → CI τ as2 H2 { s2 with gens := B } P := fun {τ as2 H2 s2 P B} ⟨e1, ex, σ2, I2, re2, ga, ha⟩ hB => ⟨e1, ex, σ2, Inv.regen I2 hB, re2, ga, ha⟩
  refine codeAny_forLoop_any (fun n s2 => ∃ τ as2 H2 h2 gs, CI τ as2 H2 s2 [(a, go)] ∧ RH T X.K as2 H2 h2 ∧ s2.gens[g]? = some gs ∧ gs.Goes (model X.prog X.w) X.A.in1 (GEnd G T CI as H τ' h'') (GYp G T CI (turnZ t mb)) n (.send .none) (s2.setGen g .running)) ?_ sizeLine ?_
  · rintro n s2 ⟨τ, as2, H2, h2, gs, ⟨_, ex, σ2, I2, re2, ga, ha⟩, rh2, hgs, hgo⟩
    refine wpAny_gsz (n := g + 1) (Array.getElem?_eq_some_iff.mp hgs).1 (next_S hh I2.nolimit hdp (isg ga) hgs hgo (fun v s1 kk ll cd p fs hv hsz => ?_) (fun s1 hF hp hk _ => ?_))
    · obtain ⟨τ1, m, z, x, as1, H1, h1, P, gp, τ2, h3, hm, rv, rz, rh1, ci, pg, ap, hY, kont⟩ := hv
      obtain ⟨rfl, ex1, σ1, I1, re1, ga1, ha1⟩ := ci
      obtain ⟨nm, qn, gd⟩ := g2
      have B1 := allBare_setGen (g := g) (x := .suspended kk ll cd p fs false) I1.bare rfl
      have sz1 : g < s1.gens.size := by
        have e : (s1.setGen g (.suspended kk ll cd p fs false)).gens.size = s1.gens.size := setGen_size _ _ _
        exact Nat.lt_of_lt_of_eq hsz e
      have pinA : ∀ q ∈ pins ++ (a, go) :: gp, s1.heap.get? q.1 = some q.2 ∧ H1 q.1 = none ∧ q.1 ≠ X.env.locals ∧ q.1 ∉ X.fs ∧ ∀ v, q.2.data ≠ .cell v := fun q hq => by
        rcases List.mem_append.mp hq with hq | hq
        · exact I1.pin q (List.mem_append_right _ hq)
        · rcases List.mem_cons.mp hq with rfl | hq
          · exact ⟨ga1, ha1, Nat.ne_of_gt (Nat.lt_trans l1 l5), fun hm => aS (Inv.fs_stack I1 hm), gcell⟩
          · obtain ⟨p1, p2, p3, p4, p5⟩ := pg q hq
            exact ⟨p1, p2, Nat.ne_of_gt (Nat.lt_of_lt_of_le l1 p3), fun hm => p4 (Inv.fs_stack I1 hm), p5⟩
      have IP : Inv X (pins ++ (a, go) :: gp) σ1 H1 (s1.setGen g (.suspended kk ll cd p fs false)) := Inv.regen (I1.pins_of pinA) B1
      unfold turnZ at hY
      cases qt : t z τ1 h1 with
      | stuck => rw [qt] at hY; cases hY
      | ok ρ4 h4 =>
        rw [qt, Res.bind_ok] at hY
        cases qb : mb ρ4 h4 with
        | stuck => rw [qb] at hY; cases hY
        | ok fl h5 =>
          rw [qb, Res.bind_ok] at hY
          refine go_of (o := go) (n := "generator") (vs := #[.int g 0, nm, qn]) ga1 g1 gd (by decide) ?_
          have kg := wpAny_frame (hg.run (pins ++ (a, go) :: gp) (withG (s1.setGen g (.suspended kk ll cd p fs false)) _) σ1 H1 x v (fun σ' H' => ∃ as', Ext X.K as1 H1 as' H' ∧ RH T X.K as' H' h4 ∧ RE X.K as' H' σ' ρ4) (Inv.regen IP (bare_stk B1)) rv
            ⟨as1, h1, τ1, z, rh1, re1, rz, by rw [qt]; exact fun as' H' e' r' σ' re' _ => ⟨as', e', r', re'⟩⟩)
          refine wpAny_mono kg (fun _ s6 ⟨sk6, A6, ⟨σ6, H6, I6, as6, e6, r6, re6⟩, sim6⟩ => ?_) fun e s6 ⟨_, bad, _⟩ => (hx _ _ bad).elim
          have I6' : Inv X (pins ++ (a, go) :: gp) σ6 H6 s6 := Inv.regen (s := withG s6 A6) I6 (bare_sim sim6 I6.bare)
          have kb := wpAny_frame (hb.run (pins ++ (a, go) :: gp) (withG s6 _) σ6 H6
            { nx := fun σ' H' => ∃ as' ρ', fl = .nx ρ' ∧ Ext X.K as6 H6 as' H' ∧ RH T X.K as' H' h5 ∧ RE X.K as' H' σ' ρ',
              bk := fun σ' H' => ∃ ρ', fl = .brk ρ',
              ct := fun σ' H' => ∃ as' ρ', fl = .cont ρ' ∧ Ext X.K as6 H6 as' H' ∧ RH T X.K as' H' h5 ∧ RE X.K as' H' σ' ρ',
              rt := fun v H' => ∃ z, fl = .ret z } (Inv.regen I6' (bare_stk I6'.bare))
            ⟨as6, h4, ρ4, r6, re6, by
              rw [qb]
              intro as' H' e' r'
              cases fl with
              | nx ρ' => exact fun σ' re' => ⟨as', ρ', rfl, e', r', re'⟩
              | brk ρ' => exact fun σ' re' => ⟨ρ', rfl⟩
              | cont ρ' => exact fun σ' re' => ⟨as', ρ', rfl, e', r', re'⟩
              | ret z => exact fun v q => ⟨z, rfl⟩⟩)
          refine wpAny_mono kb (fun f s7 ⟨sk7, A7, hf, sim7⟩ => ?_) fun e s7 ⟨_, bad, _⟩ => (hx _ _ bad).elim
          have again : ∀ {σ7 : L2.St} {H7 : Hp} {as7 : List Addr}, Inv X (pins ++ (a, go) :: gp) σ7 H7 (withG s7 A7) → Ext X.K as6 H6 as7 H7 → RH T X.K as7 H7 h3 → RE X.K as7 H7 σ7 τ2 →
              ∃ m, m < n ∧ ∃ τ as2 H2 h2 gs, CI τ as2 H2 s7 [(a, go)] ∧ RH T X.K as2 H2 h2 ∧ s7.gens[g]? = some gs ∧ gs.Goes (model X.prog X.w) X.A.in1 (GEnd G T CI as H τ' h'') (GYp G T CI (turnZ t mb)) m (.send .none) (s7.setGen g .running) := by
            intro σ7 H7 as7 I7 e7 r7 re7
            have I7' : Inv X (pins ++ (a, go) :: gp) σ7 H7 s7 := Inv.regen (s := withG s7 A7) I7 (bare_sim sim7 I7.bare)
            have pin7 := fun q hq => I7'.pin q (List.mem_append_right _ (List.mem_append_right _ hq))
            obtain ⟨p1, p2, _⟩ := pin7 (a, go) List.mem_cons_self
            have ci7 : CI τ2 as7 H7 s7 [(a, go)] := ⟨rfl, ex1.trans (e6.trans e7), σ7, I7'.unpinned, re7, p1, p2⟩
            have B7 := allBare_setGen (g := g) (x := .running) I7'.bare rfl
            have goes := kont as7 H7 (s7.setGen g .running) [(a, go)] r7 (e6.trans e7) (reg ci7 B7) rfl fun q hq => by
              obtain ⟨z1, z2, _⟩ := pin7 q (List.mem_cons_of_mem _ hq)
              obtain ⟨_, _, z3, z4, z5⟩ := pg q hq
              exact ⟨z1, z2, z3, z4, z5⟩
            cases n with
            | zero => exact goes.elim
            | succ n =>
              have hs1 : (s1.setGen g (.suspended kk ll cd p fs false)).gens[g]? = some (.suspended kk ll cd p fs false) := setGen_at sz1
              exact ⟨n, Nat.lt_succ_self n, τ2, as7, H7, h3, _, ci7, r7, sk7 _ _ _ _ _ _ _ (sk6 _ _ _ _ _ _ _ hs1), goes⟩
          cases f with
          | next =>
            obtain ⟨σ7, H7, I7, as7, ρ7, rfl, e7, r7, re7⟩ := hf
            cases hY
            exact again I7 e7 r7 re7
          | cont =>
            obtain ⟨σ7, H7, I7, as7, ρ7, rfl, e7, r7, re7⟩ := hf
            cases hY
            exact again I7 e7 r7 re7
          | brk =>
            obtain ⟨σ7, H7, I7, ρ7, rfl⟩ := hf
            cases hY
          | ret u7 =>
            obtain ⟨v7, σ7, H7, I7, rv7, z7, rfl⟩ := hf
            cases hY
    · obtain ⟨as3, H3, P, e3, r3, rfl, ex3, σ3, I3, re3, ga3, ha3⟩ := hF
      refine wpAny_execs_nil ⟨σ3, H3, ?_, fin as3 H3 σ3 e3 r3 re3⟩
      exact I3.call' (s' := { s1.setGen g .finished with heap := hp }) (ch := []) rfl (Un.kept hk) (I3.hok.kept hk) (allBare_setGen (g := g) (x := .finished) I3.bare rfl) fun b hb => by cases hb
  · refine ⟨ρ, as, H, h, .fresh c, ⟨rfl, .refl, σ, I, re, q5, q2⟩, rh, g4, rfl, ?_⟩
    refine wake CI (turnZ t mb) ρ as H h (s.setGen g .running) [(a, go)] τ' h'' car (reg ⟨rfl, .refl, σ, I, re, q5, q2⟩ (allBare_setGen (g := g) (x := .running) I.bare rfl)) rh .refl (fun p hp => ?_) apt hr
    rw [List.mem_singleton.mp hp]
    exact ⟨q3, q1, Nat.le_refl _, fun hm => absurd (ok.old _ hm) (Nat.lt_irrefl _), q4⟩
end Zm
/-! A generator def is called. -/
namespace Zm
open PySem PySem.Spec PyProof.Rows L2 GenW

theorem noCells : ∀ {names : List (Str × NameKind)} {n : Nat} {acc : List (Str × Addr)}, (∀ y ∈ names, y.2 ≠ .cell) → cellsFrom n names acc = acc
  | [], _, _, _ => rfl
  | (x, k) :: r, n, acc, h => by
    have h1 : (k == NameKind.cell) = false := by
      cases e : (k == NameKind.cell) with
      | false => rfl
      | true => exact absurd (eq_of_beq e) (h (x, k) List.mem_cons_self)
    rw [cellsFrom, h1]
    exact noCells fun y hy => h y (List.mem_cons_of_mem _ hy)
theorem RE_start {K : PySem.W.Frag} {as : List Addr} {H : Hp} {zs : List Z} {vs : List V} (N : List Str) (r : RZs K as H zs vs) : RE K as H (L2.start N vs) (zs.map some ++ List.replicate (N.length - zs.length) none) := by
  have hl := r.length
  refine ⟨by unfold L2.start; simp [hl], fun i z e => ?_⟩
  by_cases hi : i < zs.length
  · rw [List.getElem?_append_left (by simpa using hi), List.getElem?_map] at e
    cases q : zs[i]? with
    | none => rw [q] at e; cases e
    | some y =>
      rw [q] at e
      cases e
      obtain ⟨v, h1, h2⟩ := r.get q
      refine ⟨v, ?_, h2⟩
      unfold L2.start
      rw [List.getElem?_append_left (by rw [List.length_map, ← hl]; exact hi), List.getElem?_map, h1]
      rfl
  · rw [List.getElem?_append_right (by simpa using hi)] at e
    rw [List.getElem?_replicate] at e
    split at e <;> cases e
/-- a generator def of the text -/
structure GDef (K : PySem.W.Frag) (N ps : List Str) (f : Addr) (fd : FuncData) (body : List Stmt) (scope : Scope) : Prop where
  ex : ∃ (x qual : Str) (params : Arguments) (oc : Value) (od : Option Addr) (dV kV doc pm : Value) (an : Option Addr) (cdv ct : Value) (osl : Array (Option Value)),
    fd = PySem.W.fnOf x qual params body scope dV kV doc pm an cdv ct ∧ K.lookup f = some ⟨oc, od, .func fd, osl⟩ ∧ PySem.W.codeIn K cdv qual = true
  sc : GScope N ps scope
  flat : ∀ y ∈ scope.names, y.2 ≠ .cell ∧ y.2 ≠ .free
  pl : ∀ x ∈ ps, scope.names.lookup x = some .local
/-- its text, wherever it runs -/
def GBody (T : Tb) (P : Program) (w : World) (K : PySem.W.Frag) (mg : Str → Option Value) (base : Heap) (k : Nat) (N : List Str) (body : List Stmt) (scope : Scope) (d : (Ev → Z → Mh → Res Ev) → DG) : Prop :=
  ∀ (G : Gx) (CI : CIt) Y, G.prog = P → G.w = w → G.K = K → G.mg = mg → G.base = base → G.N = N → G.env.scope = scope → Room k G.A → G.Ok → Carries G CI → GSj G T CI Y (execs body G.env) (d Y)
theorem gnew_call {X : Cx} {T : Tb} {N ps : List Str} {f : Addr} {fd : FuncData} {body : List Stmt} {scope : Scope} {d : (Ev → Z → Mh → Res Ev) → DG} {k : Nat} (D : GDef X.K N ps f fd body scope) (hbody : GBody T X.prog X.w X.K X.mg X.base k N body scope d) (hr : Room (k + 2) X.A)
    {pins : List (Addr × Obj)} {s : Shared} {σ : L2.St} {as : List Addr} {H : Hp} {zs : List Z} {vs : List V} {us : List Value} {args : List Value} {E : Value → Shared → Prop} (I : Inv X pins σ H s) (r : Vals vs us) (rz : RZs X.K as H zs vs) (hl : us.length = ps.length) (hb : BindsTo s fd ⟨args, []⟩ (ps.zip us)) :
    wpAny (model X.prog X.w) X.A (call (.ref f) args) (fun u s' => Inv X pins σ H s' ∧ GNew X T pins as H (genOf d N.length zs) u s') E s := by
  obtain ⟨⟨x, qual, params, oc, od, dV, kV, doc, pm, an, cdv, ct, osl, rfl, lk, hcd⟩, S, flat, pl⟩ := D
  have KX := I.kIn
  have lim := I.nolimit
  have e0 := I.env0
  refine wpAny_call (codeAny_call_generator hr.depth (KX _ _ lk) rfl S.co S.gen rfl (PySem.W.codeRec_of KX hcd) (hb _ _ _ _ ?_))
  refine wpAny_newFunctionEnv_cells S.kind (fun ⟨n, v⟩ hy => .inl (pl n (List.of_mem_zip hy).1)) fun env he s1 xc => ?_
  have hcells : cellsFrom (s.heap.objs.size + 1) scope.names [] = [] := noCells fun y hy => (flat y hy).1
  have henv : env = envOfC qual scope s.heap.objs.size f cdv := he
  subst henv
  obtain ⟨h1, tk, es1, hk1⟩ := xc.done
  have os1 : s1.os = s.os := by rw [es1]
  have gen1 : s1.gens = s.gens := by rw [es1]
  have lt1 : s.heap.objs.size < s1.heap.objs.size := xc.toInCall.ns.lt
  have kp1 : ∀ b o, s.heap.get? b = some o → s1.heap.get? b = some o := xc.toInCall.keep
  have hus : vs.length = us.length := r.length
  refine ⟨lim.keeps kp1, ?_⟩
  obtain ⟨oL, es, ep, ho, hdd, hkk, hff⟩ := xc.toInCall.ns
  have main : ∀ (go : Obj) (nm qn : Value) (tk2 : Nat), go.cls = .type "generator" → go.data = .fields #[.int s1.gens.size 0, nm, qn] → go.slots = #[] → (∀ h : Heap, (h.push go).get? h.objs.size = some go) →
      Inv X pins σ H { s1 with gens := s1.gens.push (.fresh (.func body (envOfC qual scope s.heap.objs.size f cdv))), toks := tk2, heap := s1.heap.push go } ∧
      GNew X T pins as H (genOf d N.length zs) (.ref s1.heap.objs.size) { s1 with gens := s1.gens.push (.fresh (.func body (envOfC qual scope s.heap.objs.size f cdv))), toks := tk2, heap := s1.heap.push go } := by
    intro go nm qn tk2 hgc hgd hgs hgp
    have kp2 : ∀ b o, s.heap.get? b = some o → (s1.heap.push go).get? b = some o := fun b o e => Heap.get?_push_of_some _ (kp1 b o e)
    have B2 : AllBare (s1.gens.push (.fresh (.func body (envOfC qual scope s.heap.objs.size f cdv)))) := AllBare.push (by rw [gen1]; exact I.bare) rfl
    refine ⟨I.call' (ch := []) os1 (Un.kept kp2) (I.hok.kept kp2) B2 (fun b hb => (by cases hb)), ?_⟩
    let G : Gx := ⟨X.prog, X.w, X.K, X.mg, X.base, X.A.in1.deeper (envOfC qual scope s.heap.objs.size f cdv), N, envOfC qual scope s.heap.objs.size f cdv, X.stack⟩
    have frm : X.A.in1.frames = some X.stack := e0.frames
    have ok : G.Ok := by
      refine ⟨S.kind, rfl, rfl, hcells, fun y => ⟨fun q => ?_, fun q => ?_⟩, hr.hd, Around.frames_deeper frm, rfl, e0.bsz, fun b hb => ?_⟩
      · have q : scope.names.lookup y = some .cell := q
        exact (flat _ (PySem.mem_of_lookup q)).1 rfl
      · have q : scope.names.lookup y = some .free := q
        exact (flat _ (PySem.mem_of_lookup q)).2 rfl
      · obtain ⟨_, o, hob, _⟩ := e0.funs.mem hb
        exact Heap.lt_size hob
    have rG : Room k G.A := (hr.in1).deeper _
    refine ⟨G, s1.heap.objs.size, s1.gens.size, oL, go, _, rfl, ok, rfl, rfl, rfl, rfl, rfl, rfl, ⟨I.lt, fun y c e => ?_, fun p hp => Heap.lt_size (I.pin p hp).1, I.sz, lt1⟩,
      ⟨I.hok.fresh (Nat.le_refl _), I.hok.fresh (Nat.le_of_lt lt1), Heap.get?_push_of_some _ ho, (fun v q => (by rw [hdd] at q; cases q)), hgp _⟩, ⟨hgc, ⟨nm, qn, hgd⟩, hgs, Array.getElem?_push_size ..⟩, ?_⟩
    · obtain ⟨v, hc⟩ := I.cell y c e
      exact hc.lt
    · intro CI Y τ as' H' h' s' P τ' h'' car ci rh' ex pg ap hgen
      unfold genOf at hgen
      cases q : d Y τ 0 (zs.map some ++ List.replicate (N.length - zs.length) none) h' with
      | stuck => rw [q] at hgen; cases hgen
      | ok r1 h1 =>
        obtain ⟨τ1, m1, fl⟩ := r1
        rw [q, Res.bind_ok] at hgen
        dsimp only at hgen
        split at hgen
        · rename_i hfl
          cases hgen
          obtain ⟨out, pk, _⟩ := car τ as' H' s' P ci
          obtain ⟨w1, w2, w3, w4, w5⟩ := pg _ (List.mem_singleton.mpr rfl)
          refine gen_start (G := G) car (hbody G CI Y rfl rfl rfl rfl rfl rfl rfl rG ok car) over_func (fl := fl) (m' := m1) ⟨s', H', as', P, ci, .refl, Gx.resume (σ := L2.start N vs) ok out pk (fun p hp => (by cases hp)) ⟨_, ⟨oL, es, ep, w1, hdd, hkk, hff⟩, fun i y v e1 e2 e3 => ?_⟩ w2 ?_, rh', RE_start N (rz.mono ex), fun p hp q hq => (by cases hq), fun p hp => (by cases hp)⟩ q hfl
          · have hi : i < vs.length := by
              unfold L2.start at e2
              by_cases hi : i < vs.length
              · exact hi
              · rw [List.getElem?_append_right (by simpa using hi), List.getElem?_replicate] at e2
                split at e2 <;> cases e2
            have ha : vs[i]? = some v := by
              unfold L2.start at e2
              rw [List.getElem?_append_left (by simpa using hi), List.getElem?_map] at e2
              cases e : vs[i]? with
              | none => rw [e] at e2; cases e2
              | some a => rw [e] at e2; cases e2; rfl
            obtain ⟨u, hu, rv⟩ := r.get ha
            have hp : ps[i]? = some y := by
              rw [← S.pre, List.getElem?_take_of_lt (by omega)]
              exact e1
            refine ⟨u, rv, .inl ⟨pl y (List.mem_of_getElem? hp), ?_⟩⟩
            exact bindL_get (by rw [← S.pre]; exact S.nd.sublist (List.take_sublist _ _)) hp hu (pl y (List.mem_of_getElem? hp))
          · have hpl : ps.length ≤ N.length := by
              have := congrArg List.length S.pre
              rw [List.length_take] at this
              omega
            unfold L2.start
            show _ = N.length
            rw [List.length_append, List.length_map, List.length_replicate]
            omega
        · cases hgen
  exact main _ _ _ _ rfl rfl rfl fun h => Heap.get?_push_size _ rfl

/-! ### an expression that makes a generator -/
abbrev GenZ := (Ev → Z → Mh → Res Ev) → Ev → Mh → Res Ev
structure PY (T : Tb) (X : Cx) (e : Expr) (my : Ev → Mh → Res GenZ) : Prop where
  run : ∀ (pins : List (Addr × Obj)) (s : Shared) (σ : L2.St) (as : List Addr) (H : Hp) (h : Mh) (ρ : Ev) (gen : GenZ) (h' : Mh), Inv X pins σ H s → RH T X.K as H h → RE X.K as H σ ρ → my ρ h = .ok gen h' →
    wpAny (model X.prog X.w) X.A (eval e X.env) (fun u s' => ∃ as' H', Ext X.K as H as' H' ∧ RH T X.K as' H' h' ∧ Inv X pins σ H' s' ∧ GNew X T pins as' H' gen u s') X.xe s
section
variable {X : Cx} {T : Tb} {pos : Pos}
/-- its def keeps to the text -/
structure GFn (T : Tb) (P : Program) (w : World) (K : PySem.W.Frag) (mg : Str → Option Value) (base : Heap) (k : Nat) (f : Addr) (fd : FuncData) (n : Nat) (gen : List Z → GenZ) : Prop where
  ex : ∃ (N ps : List Str) (body : List Stmt) (scope : Scope) (d : (Ev → Z → Mh → Res Ev) → DG), GDef K N ps f fd body scope ∧ GBody T P w K mg base k N body scope d ∧ Binds K fd ps [] ∧ ps.length = n ∧ ∀ zs : List Z, zs.length = n → gen zs = genOf d N.length zs
theorem gfn_call {f : Addr} {fd : FuncData} {k n : Nat} {gen : List Z → GenZ} (F : GFn T X.prog X.w X.K X.mg X.base k f fd n gen) (hr : Room (k + 2) X.A)
    {pins : List (Addr × Obj)} {s : Shared} {σ : L2.St} {as : List Addr} {H : Hp} {zs : List Z} {vs : List V} {us : List Value} {E : Value → Shared → Prop} (I : Inv X pins σ H s) (r : Vals vs us) (rz : RZs X.K as H zs vs) (hl : zs.length = n) :
    wpAny (model X.prog X.w) X.A (call (.ref f) us) (fun u s' => Inv X pins σ H s' ∧ GNew X T pins as H (gen zs) u s') E s := by
  obtain ⟨N, ps, body, scope, d, D, hb, bi, hn, hg⟩ := F.ex
  have h1 : us.length = ps.length := by rw [hn, ← hl, rz.length, r.length]
  rw [hg zs hl]
  have b := bi s us I.kIn (by rw [List.append_nil]; exact h1)
  rw [List.append_nil] at b
  exact gnew_call D hb hr I r rz h1 b
theorem ly_fn {f : Addr} {fd : FuncData} {k n : Nat} {gen : List Z → GenZ} {x : Str} {np : Pos} {e : Expr} {es : List Expr} {ms : Ev → Mh → Res (List Z)} (F : GFn T X.prog X.w X.K X.mg X.base k f fd n gen) (hr : Room (k + 2) X.A) (hg : Gl X x) (hm : X.mg x = some (.ref f)) (hk : PySem.W.keepIn X.K (.ref f) = true)
    (ha : PA X (e :: es) (tOfA T X.K ms)) (hdb : (x == ("__debug__" : Str)) = false) (hs : (e :: es).all noStar = true) (hlen : ∀ ρ h zs h', ms ρ h = .ok zs h' → zs.length = n) : PY T X (.Call (.Name x np) (e :: es) [] pos) (fun ρ h => (ms ρ h).bind fun xs h => .ok (gen xs) h) := by
  have hs2 := hs
  rw [List.all_cons, Bool.and_eq_true] at hs2
  refine ⟨fun pins s σ as H h ρ g h' I rh re hy => ?_⟩
  cases q : ms ρ h with
  | stuck => rw [q] at hy; cases hy
  | ok zs h1 =>
    rw [q, Res.bind_ok] at hy
    cases hy
    refine wpAny_Call_Name_kw (ld_glob I hg hm ?_ hdb)
    refine PySem.W.callWith_K (h₀ := X.base) I.ok.mod.kin hk (thn (ha.run pos pins s σ H (fun vs H1 => ∃ as1, Ext X.K as H as1 H1 ∧ RH T X.K as1 H1 h' ∧ RZs X.K as1 H1 zs vs) I ⟨as, h, ρ, rh, re, by
      rw [q]
      exact fun as' H' e' r' vs qs => ⟨as', e', r', qs⟩⟩) fun us s1 ⟨vs, H1, I1, r, as1, e1, r1, qs⟩ => ⟨I1.kIn, ?_⟩) (star_cons hs2.1 _ _) (back_plain hs2.2 _ _)
    rw [List.nil_append]
    exact thn (gfn_call F hr I1 r qs (hlen _ _ _ _ q)) fun u s2 ⟨I2, gn⟩ => ⟨as1, H1, e1, r1, I2, gn⟩
noncomputable abbrev yMth (c m : Nat) (gen : List Z → GenZ) (mo : Ev → Mh → Res Z) (ms : Ev → Mh → Res (List Z)) : Ev → Mh → Res GenZ := fun ρ h => (mo ρ h).bind fun x h => match x with
  | .ob a => match h[a]? with
    | some (.ins c' fs) => guard (c' = c ∧ lookF fs m = none) ((ms ρ h).bind fun xs h => .ok (gen (.ob a :: xs)) h)
    | _ => .stuck
  | _ => .stuck
theorem ly_mth0 {f : Addr} {fd : FuncData} {k cn m : Nat} {gen : List Z → GenZ} {x : Str} {apos : Pos} {o : Expr} {mo : Ev → Mh → Res Z} (hx : x = T.an m) (ho : PE X o (tOf T X.K mo)) (cl : Cls X.K (T.cls cn)) (hm : Meth X.K (T.cls cn) x f) (F : GFn T X.prog X.w X.K X.mg X.base k f fd 1 gen) (hr : Room (k + 2) X.A)
    (hbase : noCall o = true) (hline : (apos.endLine == pos.line) = true) : PY T X (.Call (.Attribute o x apos) [] [] pos) (yMth cn m gen mo fun _ h => .ok [] h) := by
  subst hx
  refine ⟨fun pins s σ as H h ρ g h' I rh re hy => ?_⟩
  unfold yMth at hy
  cases q : mo ρ h with
  | stuck => rw [q] at hy; cases hy
  | ok z h1 =>
    rw [q, Res.bind_ok] at hy
    refine PySem.W.methodCall_KW (thn (ho.run pins s σ H (fun v H1 => ∃ as1, Ext X.K as H as1 H1 ∧ RH T X.K as1 H1 h1 ∧ RZ X.K as1 H1 z v) I ⟨as, h, ρ, rh, re, by
      rw [q]
      exact fun as' H' e' r' v qv => ⟨as', e', r', qv⟩⟩) fun u s1 ⟨v, H1, I1, rv, as1, e1, r1, qv⟩ => ?_) (meth_tree _ hbase rfl (by decide) hline)
    cases z <;> try (cases hy; done)
    rename_i n
    dsimp only at hy
    split at hy <;> try (cases hy; done)
    rename_i c' fs hfs
    unfold guard at hy
    split at hy <;> try (cases hy; done)
    rename_i hc
    obtain ⟨hc1, hl⟩ := hc
    subst hc1
    rw [Res.bind_ok] at hy
    cases hy
    obtain ⟨p, rfl, ep⟩ := qv.ob_inv
    obtain rfl : u = Value.ref p := rv
    obtain ⟨dx, gs, g1, g2, g3, g4⟩ := r1.ins hfs ep
    refine getmeth_ok I1 g1 cl hm (look_no g2 hl) ?_
    refine PySem.W.callWith_K0 (first := [.ref p]) I1.kIn hm.kp ?_
    exact thn (gfn_call F hr (us := [.ref p]) (vs := [.ref p]) I1 (.cons rfl .nil) (.cons (.ob ep) .nil) rfl) fun u s2 ⟨I2, gn⟩ => ⟨as1, H1, e1, r1, I2, gn⟩
/-- for .. in a generator that is made there -/
theorem ls_gfor {tg iter : Expr} {body : List Stmt} {is : List Nat} {t : Z → Ev → Mh → Res Ev} {my : Ev → Mh → Res GenZ} {mb : Ev → Mh → Res Fl} (hx : ∀ e s, ¬ X.xe e s) (hh : X.A.handled = none) (hdp : X.A.depth < recursionLimit) (hy : PY T X iter my) (hg : PG X tg (gOf T X.K is t)) (hb : PSs X body (sOf T X.K mb)) (hs : noSet iter = true) :
    PS X (.For tg iter body [] pos) (sOf T X.K fun ρ h => (my ρ h).bind fun g h => (g (turnZ t mb) ρ h).bind fun ρ h => .ok (.nx ρ) h) := by
  refine ⟨fun pins s σ H D I ⟨as, h, ρ, rh, re, f⟩ => ?_⟩
  have f : FinS T X.K as H D ((my ρ h).bind fun g h => (g (turnZ t mb) ρ h).bind fun ρ h => .ok (.nx ρ) h) := f
  cases q : my ρ h with
  | stuck => rw [q] at f; exact f.elim
  | ok gen h1 =>
    rw [q, Res.bind_ok] at f
    cases q2 : gen (turnZ t mb) ρ h1 with
    | stuck => rw [q2] at f; exact f.elim
    | ok ρ' h2 =>
      rw [q2, Res.bind_ok] at f
      refine wpAny_For (thn (hy.run pins s σ as H h ρ gen h1 I rh re q) fun u s1 ⟨as1, H1, e1, r1, I1, gn⟩ => ?_) (set_no hs _)
      have gn0 := gn
      obtain ⟨G, a, g, oL, go, c, rfl, _, _, _, _, _, _, _, _, ⟨_, _, _, _, w5⟩, ⟨v1, ⟨nm, qn, v2⟩, v3, v4⟩, _⟩ := gn0
      refine wpAny_pyIter_gen (g := g) ⟨go, nm, qn, w5, v1, v2, v3⟩ ?_
      exact gfor_run hx hh hdp hg hb I1 r1 (re.mono e1) gn q2 fun as' H' σ' e' r' re' => f as' H' (e1.trans e') r' σ' re'
end
end Zm
/-! A checker: does a text mean this code? And its soundness. -/
namespace Zm
open PySem PySem.Spec PyProof.Rows L2

/-- what the module's names mean -/
structure GT where
  con : Str → Z → Bool
  fn : Nat → Str → Bool
  cl : Nat → Nat → Str → Bool
  cld : Nat → Nat → Str → List Z → Bool
  meth : Nat → Nat → Nat → Bool
  gfn : Nat → Str → Nat → Bool
  gmeth : Nat → Nat → Nat → Nat → Bool
  free : Str → Bool
  an : Nat → Str
  fl : Nat → Nat → Bool
/-- .. and that the heap says so -/
structure Facts (G : GT) (T : Tb) (C : Cl) (n : Nat) (P : Program) (w : World) (K : PySem.W.Frag) (mg : Str → Option Value) (base : Heap) : Prop where
  con : ∀ x z, G.con x z = true → ∃ u v, mg x = some u ∧ RelV v u ∧ ∀ as H, RZ K as H z v
  fn : ∀ f x, G.fn f x = true → ∃ a fd ps, mg x = some (.ref a) ∧ PySem.W.keepIn K (.ref a) = true ∧ Binds K fd ps [] ∧ FnOk P w K mg base CX0 n a fd ps (spOf T K (C.fn f))
  cl : ∀ c f x, G.cl c f x = true → ∃ a fd ps, Mk K (T.cls c) a ∧ Cls K (T.cls c) ∧ mg x = some (.ref (T.cls c)) ∧ Binds K fd ps [] ∧ FnOk P w K mg base CX0 n a fd ps (spOf T K (C.fn f))
  cld : ∀ c f x ds, G.cld c f x ds = true → ∃ a fd ps dvs dus, Mk K (T.cls c) a ∧ Cls K (T.cls c) ∧ mg x = some (.ref (T.cls c)) ∧ Binds K fd ps dus ∧ Vals dvs dus ∧ (∀ as H, RZs K as H ds dvs) ∧ FnOk P w K mg base CX0 n a fd ps (spOf T K (C.fn f))
  meth : ∀ c f m, G.meth c f m = true → ∃ a fd ps, Cls K (T.cls c) ∧ Meth K (T.cls c) (T.an m) a ∧ Binds K fd ps [] ∧ FnOk P w K mg base CX0 n a fd ps (spOf T K (C.fn f))
  gfn : ∀ f x k, G.gfn f x k = true → ∃ a fd j, j + 1 ≤ n ∧ mg x = some (.ref a) ∧ PySem.W.keepIn K (.ref a) = true ∧ GFn T P w K mg base j a fd k (C.gen f)
  gmeth : ∀ c f m k, G.gmeth c f m k = true → ∃ a fd j, j + 1 ≤ n ∧ Cls K (T.cls c) ∧ Meth K (T.cls c) (T.an m) a ∧ GFn T P w K mg base j a fd k (C.gen f)
  free : ∀ x, G.free x = true → mg x = none
  fl : ∀ c f, G.fl c f = true → NoAttr K (T.cls c) (T.an f)
  an : G.an = T.an

abbrev Nm := List (Str × NameKind)
def debugS : Str := "__debug__"
def classdictS : Str := "__classdict__"
def visB (nm : Nm) (x : Str) : Bool := match nm.lookup x with
  | some .local => true
  | some .cell => true
  | some .free => true
  | _ => false
def gloB (nm : Nm) (x : Str) : Bool := match nm.lookup x with
  | some .globalImplicit => true
  | _ => false
/-- a name that may be stored -/
def locB (all : Bool) (nm : Nm) (x : Str) : Bool := match nm.lookup x with
  | some .local => true
  | some .cell => all
  | _ => false
def eqN (N : List Str) (i : Nat) (x : Str) : Bool := match N[i]? with
  | some y => y == x
  | none => false
def boB : BO → Operator → Bool
  | .add, .Add => true
  | .sub, .Sub => true
  | .mul, .Mult => true
  | .div, .FloorDiv => true
  | .mod, .Mod => true
  | .pow, .Pow => true
  | _, _ => false
def coB : CO → CmpOp → Bool
  | .lt, .Lt => true
  | .le, .LtE => true
  | .gt, .Gt => true
  | .ge, .GtE => true
  | .eq, .Eq => true
  | .ne, .NotEq => true
  | .is_, .Is => true
  | .isnot, .IsNot => true
  | .in_, .In => true
  | .notin, .NotIn => true
  | _, _ => false
def isCmp : Expr → Bool
  | .Compare .. => true
  | _ => false
/-- an expression whose test is its value's truth -/
def plainT : Expr → Bool
  | .UnaryOp .. => false
  | .BoolOp .. => false
  | .IfExp .. => false
  | .Compare .. => false
  | _ => true
def litB : Z → Const → Bool
  | .non, .none => true
  | .bl b, .bool c => b == c
  | .int i, .int j => i == j
  | .str x, .str y => x == y
  | _, _ => false
def okBM (p : BM) (n : Nat) : Bool := match p with
  | .pop0 => n == 0
  | .reverse => n == 0
  | _ => decide (0 < n ∧ n < 30)
/-- the names of a block's scope -/
def relN (names nm : Nm) : Nm := names.map fun (n, k) => if (k == .free && nm.lookup n == some .cell) then (n, .cell) else (n, k)
/-- targets: only names that are local -/
def ckTs (N : List Str) (b : Bool) : List Nat → Nm → List Expr → Bool
  | [], _, es => es.isEmpty
  | i :: is, nm, es => match es with
    | .Name x _ :: xs => eqN N i x && locB b nm x && ckTs N b is nm xs
    | _ => false
def ckT (N : List Str) (b : Bool) : MT → Nm → Expr → Bool
  | .nm i, nm, e => match e with
    | .Name x _ => eqN N i x && locB b nm x
    | _ => false
  | .tup is, nm, e => match e with
    | .Tuple xs _ _ => ckTs N b is nm xs
    | _ => false
/-- enumerate wants a written tuple -/
def ckIt : MI → Expr → Bool
  | .enum _, e => match e with
    | .Tuple .. => true
    | _ => false
  | _, _ => true
def lenEs : MEs → Nat
  | .nil => 0
  | .cons _ es => lenEs es + 1
def ckIn : MT → List Nat → Bool
  | .nm i, vs => vs.contains i
  | .tup is, vs => is.all fun i => vs.contains i
section
variable (G : GT) (N : List Str)
def ownOf (vs : List Nat) : List (Str × Nat) := vs.map fun i => (N.getD i "", i)
mutual
def ckE : ME → Nm → Expr → Bool
  | .var i, nm, e => match e with
    | .Name x _ => eqN N i x && visB nm x && !(x == debugS) && !(x == classdictS)
    | _ => false
  | .lit z, _, e => match e with
    | .Constant c _ _ => litB z c
    | _ => false
  | .glb x z, nm, e => match e with
    | .Name y _ => (x == y) && gloB nm y && G.con y z && !(y == debugS)
    | _ => false
  | .bin o a b, nm, e => match e with
    | .BinOp x op y _ => boB o op && ckE a nm x && ckE b nm y
    | _ => false
  | .neg a, nm, e => match e with
    | .UnaryOp .USub x _ => ckE a nm x
    | _ => false
  | .cmp o a b, nm, e => match e with
    | .Compare x [op] [y] _ => coB o op && ckE a nm x && ckE b nm y && noSet y
    | _ => false
  | .cmp2 o p a b c, nm, e => match e with
    | .Compare x [op, op2] [y, z] _ => coB o op && coB p op2 && ckE a nm x && ckE b nm y && ckE c nm z && noSet z
    | _ => false
  | .and a b, nm, e => match e with
    | .BoolOp .And (x :: y :: r) pos => ckE a nm x && (match r with
      | [] => ckE b nm y
      | _ :: _ => ckE b nm (.BoolOp .And (y :: r) pos))
    | _ => false
  | .or a b, nm, e => match e with
    | .BoolOp .Or (x :: y :: r) pos => ckE a nm x && (match r with
      | [] => ckE b nm y
      | _ :: _ => ckE b nm (.BoolOp .Or (y :: r) pos))
    | _ => false
  | .not a, nm, e => match e with
    | .UnaryOp .Not x _ => ckE a nm x
    | _ => false
  | .ite c a b, nm, e => match e with
    | .IfExp t x y _ => ckX c nm t && ckE a nm x && ckE b nm y
    | _ => false
  | .tup es, nm, e => match e with
    | .Tuple xs _ _ => ckEs es nm xs && xs.all noStar
    | _ => false
  | .lst es, nm, e => match e with
    | .List xs _ => ckEs es nm xs && xs.all noStar
    | _ => false
  | .dct0, _, e => match e with
    | .Dict [] [] _ => true
    | _ => false
  | .idx a b, nm, e => match e with
    | .Subscript x y _ => ckE a nm x && ckE b nm y && noSlice y
    | _ => false
  | .slc a lo hi, nm, e => match e with
    | .Subscript x (.Slice l u none _) _ => ckE a nm x && ckP lo nm l && ckP hi nm u
    | _ => false
  | .fld a f, nm, e => match e with
    | .Attribute x n _ => ckE a nm x && (n == G.an f) && noCall x
    | _ => false
  | .call f es, nm, e => match e with
    | .Call (.Name x _) xs [] _ => G.fn f x && gloB nm x && !(x == debugS) && ckEs es nm xs && xs.all noStar
    | _ => false
  | .mk c f es, nm, e => match e with
    | .Call (.Name x _) xs [] _ => G.cl c f x && gloB nm x && !(x == debugS) && ckEs es nm xs && xs.all noStar
    | _ => false
  | .mkd c f es ds, nm, e => match e with
    | .Call (.Name x _) (y :: ys) [] _ => G.cld c f x ds && gloB nm x && !(x == debugS) && ckEs es nm (y :: ys) && (y :: ys).all noStar
    | _ => false
  | .mth c f m o es, nm, e => match e with
    | .Call (.Attribute x n apos) ys [] cpos => G.meth c f m && (n == G.an m) && noCall x && (apos.endLine == cpos.line) && ckE o nm x && ckEs es nm ys && ys.all noStar && decide (ys.length < 30)
    | _ => false
  | .dcomp vs t it c k a, nm, e => match e with
    | .DictComp kx vx [⟨tg, iter, ifs, 0⟩] scope _ => ckI it nm iter && blkC N ⟨.function, nm, false, false, []⟩ scope (ownOf N vs) && noSet iter && ckT N false t (relN scope.names nm) tg && ckIn t vs && ckC c (relN scope.names nm) ifs && ckE k (relN scope.names nm) kx && ckE a (relN scope.names nm) vx && ckIt it tg
    | _ => false
  | .maxd a d, nm, e => match e with
    | .Call (.Name x _) [y] [⟨some k, z, _⟩] _ => (x == "max") && (k == "default") && gloB nm x && G.free x && ckE a nm y && ckE d nm z && noStar y
    | _ => false
  | .bf p es, nm, e => match e with
    | .Call (.Name x _) (y :: ys) [] _ => (bfName p == x) && gloB nm x && G.free x && ckEs es nm (y :: ys) && (y :: ys).all noStar
    | _ => false
  | .bm p o es, nm, e => match e with
    | .Call (.Attribute x n apos) ys [] cpos => (bmName p == n) && okBM p ys.length && noCall x && (apos.endLine == cpos.line) && ckE o nm x && ckEs es nm ys && ys.all noStar
    | _ => false
  | .isT a, nm, e => match e with
    | .Call (.Name x _) [y, .Name t _] [] _ => (x == "isinstance") && (t == "tuple") && gloB nm x && gloB nm t && G.free x && G.free t && ckE a nm y && noStar y
    | _ => false
  | .comp vs t it c a, nm, e => match e with
    | .ListComp elt [⟨tg, iter, ifs, 0⟩] scope _ => ckI it nm iter && blkC N ⟨.function, nm, false, false, []⟩ scope (ownOf N vs) && noSet iter && ckT N false t (relN scope.names nm) tg && ckIn t vs && ckC c (relN scope.names nm) ifs && ckE a (relN scope.names nm) elt && ckIt it tg
    | _ => false
def ckX : MX → Nm → Expr → Bool
  | .tr a, nm, e => (isCmp e || plainT e) && ckE a nm e
  | .and a b, nm, e => match e with
    | .BoolOp .And (x :: y :: r) pos => ckX a nm x && (match r with
      | [] => ckX b nm y
      | _ :: _ => ckX b nm (.BoolOp .And (y :: r) pos))
    | _ => false
  | .or a b, nm, e => match e with
    | .BoolOp .Or (x :: y :: r) pos => ckX a nm x && (match r with
      | [] => ckX b nm y
      | _ :: _ => ckX b nm (.BoolOp .Or (y :: r) pos))
    | _ => false
  | .not a, nm, e => match e with
    | .UnaryOp .Not x _ => ckX a nm x
    | _ => false
def ckEs : MEs → Nm → List Expr → Bool
  | .nil, _, es => es.isEmpty
  | .cons a as, nm, es => match es with
    | x :: xs => ckE a nm x && ckEs as nm xs
    | [] => false
def ckP : MP → Nm → Option Expr → Bool
  | .no, _, e => e.isNone
  | .some a, nm, e => match e with
    | .some x => ckE a nm x
    | .none => false
def ckC : MC → Nm → List Expr → Bool
  | .no, _, e => e.isEmpty
  | .some a, nm, e => match e with
    | [x] => ckX a nm x
    | _ => false
def ckI : MI → Nm → Expr → Bool
  | .seq a, nm, e => ckE a nm e
  | .rng1 a, nm, e => match e with
    | .Call (.Name x _) [y] [] _ => (x == "range") && gloB nm x && G.free x && ckE a nm y && noStar y
    | _ => false
  | .rng2 a b, nm, e => match e with
    | .Call (.Name x _) [y, z] [] _ => (x == "range") && gloB nm x && G.free x && ckE a nm y && noStar y && ckE b nm z && noStar z
    | _ => false
  | .rrng1 a, nm, e => match e with
    | .Call (.Name x _) [.Call (.Name x2 _) [y] [] _] [] _ => (x == "reversed") && gloB nm x && G.free x && (x2 == "range") && gloB nm x2 && G.free x2 && ckE a nm y && noStar y
    | _ => false
  | .enum a, nm, e => match e with
    | .Call (.Name x _) [y] [] _ => (x == "enumerate") && gloB nm x && G.free x && ckE a nm y && noStar y
    | _ => false
end
def ckFlds : List (ME × Nat) → Nm → List Expr → Bool
  | [], _, es => es.isEmpty
  | q :: os, nm, es => match es with
    | .Attribute x n _ :: xs => ckE G N q.1 nm x && (n == G.an q.2) && ckFlds os nm xs
    | _ => false
def ckY : MY → Nm → Expr → Bool
  | .fn f es, nm, e => match e with
    | .Call (.Name x _) (y :: ys) [] _ => G.gfn f x (lenEs es) && gloB nm x && !(x == debugS) && ckEs G N es nm (y :: ys) && (y :: ys).all noStar
    | _ => false
  | .mth c f m o es, nm, e => match e with
    | .Call (.Attribute x n apos) [] [] cpos => (match es with
      | .nil => true
      | _ => false) && G.gmeth c f m 1 && (n == G.an m) && noCall x && (apos.endLine == cpos.line) && ckE G N o nm x
    | _ => false
/-- name = [..] on one line -/
def swB (nm : Nm) (x : Str) (px : Pos) (e : Expr) : Bool := match e with
  | .ListComp _ _ scope pos => (match nm.lookup x with
    | some .local => true
    | _ => false) && (px.line == pos.line) && !(scope.names.any fun (n, k) => n == x && (k == .local || k == .cell))
  | .DictComp _ _ _ scope pos => (match nm.lookup x with
    | some .local => true
    | _ => false) && (px.line == pos.line) && !(scope.names.any fun (n, k) => n == x && (k == .local || k == .cell))
  | _ => false
def augB : BO → Operator → Bool
  | .sub, .Sub => true
  | _, _ => false
mutual
def ckS : MS → Nm → Stmt → Bool
  | .asg t m, nm, st => match st with
    | .Assign [tg] e _ => ckE G N m nm e && (match t with
      | .nm i => match tg with
        | .Name x px => eqN N i x && locB true nm x && (noComp e || swB nm x px e)
        | _ => false
      | .tup is => match tg with
        | .Tuple xs _ _ => ckTs N true is nm xs && noComp e && noDisp e
        | _ => false
      | .sub o i => match tg with
        | .Subscript x y _ => ckE G N o nm x && ckE G N i nm y && noSlice y && noComp e
        | _ => false
      | .fld o f => match tg with
        | .Attribute x n _ => ckE G N o nm x && (n == G.an f)
        | _ => false
      | .flds os => match tg with
        | .Tuple xs _ _ => ckFlds G N os nm xs && noComp e && noDisp e
        | _ => false)
    | _ => false
  | .aug i o m, nm, st => match st with
    | .AugAssign (.Name x _) op e _ => (match o, op with
      | .addI, .Add => true
      | .sub, .Sub => true
      | _, _ => false) && eqN N i x && locB true nm x && ckE G N m nm e
    | _ => false
  | .expr m, nm, st => match st with
    | .Expr e _ => ckE G N m nm e && noComp e
    | _ => false
  | .ret m, nm, st => match st with
    | .Return (some e) _ => ckE G N m nm e
    | _ => false
  | .retN, _, st => match st with
    | .Return none _ => true
    | _ => false
  | .ite c a b, nm, st => match st with
    | .If t x y _ => ckX G N c nm t && ckSs a nm x && ckSs b nm y
    | _ => false
  | .while c b, nm, st => match st with
    | .While t x [] _ => ckX G N c nm t && ckSs b nm x
    | _ => false
  | .for t it b, nm, st => match st with
    | .For tg iter x [] _ => ckI G N it nm iter && noSet iter && ckT N true t nm tg && ckSs b nm x && ckIt it tg
    | _ => false
  | .gfor t y b, nm, st => match st with
    | .For tg iter x [] _ => ckY G N y nm iter && noSet iter && ckT N true t nm tg && ckSs b nm x
    | _ => false
  | .try_ b, nm, st => match st with
    | .Try x (_ :: _) [] [] _ => ckSs b nm x
    | _ => false
  | .pass, _, st => match st with
    | .Pass _ => true
    | _ => false
  | .brk, _, st => match st with
    | .Break _ => true
    | _ => false
  | .cont, _, st => match st with
    | .Continue _ => true
    | _ => false
  | .never, _, _ => true
def ckSs : MSs → Nm → List Stmt → Bool
  | .nil, _, sts => sts.isEmpty
  | .cons s ss, nm, sts => match sts with
    | x :: xs => ckS s nm x && ckSs ss nm xs
    | [] => false
end
mutual
def ckGS : MGS → Nm → Stmt → Bool
  | .plain s, nm, st => ckS G N s nm st
  | .yld m, nm, st => match st with
    | .Expr (.Yield (some e) _) _ => ckE G N m nm e
    | _ => false
  | .ite c a b, nm, st => match st with
    | .If t x y _ => ckX G N c nm t && ckGSs a nm x && ckGSs b nm y
    | _ => false
  | .for t it b, nm, st => match st with
    | .For tg iter x [] _ => ckI G N it nm iter && noSet iter && ckT N true t nm tg && ckGSs b nm x && ckIt it tg
    | _ => false
def ckGSs : MGSs → Nm → List Stmt → Bool
  | .nil, _, sts => sts.isEmpty
  | .cons s ss, nm, sts => match sts with
    | x :: xs => ckGS s nm x && ckGSs ss nm xs
    | [] => false
end
end
end Zm
namespace Zm
open PySem PySem.Spec PyProof.Rows L2
variable {G : GT} {T : Tb} {C : Cl} {n : Nat} {N : List Str}

structure GX (G : GT) (T : Tb) (C : Cl) (n : Nat) (N : List Str) (X : Cx) (nm : Nm) (all : Bool) : Prop where
  fx : Facts G T C n X.prog X.w X.K X.mg X.base
  calm : X.calm = true
  nd : X.N.Nodup
  room : Room (n + 1) X.A
  eN : X.N = N
  enm : X.env.scope.names = nm
  kind : X.env.scope.kind = .function
  fn : all = true → ∀ x, X.fn x = true
  noxe : ∀ e s, ¬ X.xe e s

section
variable {X : Cx} {nm : Nm} {all : Bool}
theorem GX.u65 (g : GX G T C n N X nm all) : X.A.units + 65 < cLine := by have := g.room.un; omega
theorem GX.u64 (g : GX G T C n N X nm all) : X.A.units + 64 < cLine := by have := g.room.un; omega
theorem GX.u1 (g : GX G T C n N X nm all) : X.A.units + 1 < cLine := by have := g.room.un; omega
theorem GX.room0 (g : GX G T C n N X nm all) : Room n X.A := g.room.mono (Nat.le_succ n)
theorem GX.N_ {i : Nat} {x : Str} (g : GX G T C n N X nm all) (h : eqN N i x = true) : X.N[i]? = some x := by
  unfold eqN at h
  rw [g.eN]
  split at h
  · rename_i y e
    rw [e, eq_of_beq h]
  · cases h
theorem GX.vis {x : Str} (g : GX G T C n N X nm all) (h : visB nm x = true) : Vis X.env.scope x := by
  unfold visB at h
  unfold Vis
  rw [g.enm]
  split at h
  · exact .inl (by assumption)
  · exact .inr (.inl (by assumption))
  · exact .inr (.inr (by assumption))
  · cases h
theorem GX.glo {x : Str} (g : GX G T C n N X nm all) (h : gloB nm x = true) : Gl X x := by
  unfold gloB at h
  unfold Gl Env.kindOf
  rw [g.enm]
  split at h
  · assumption
  · cases h
theorem GX.loc {x : Str} {b : Bool} (g : GX G T C n N X nm all) (hb : b = true → all = true) (h : locB b nm x = true) : L2.Loc X.env.scope x ∧ (X.fn x = true ∨ X.env.scope.names.lookup x = some .local) := by
  unfold locB at h
  unfold L2.Loc
  rw [g.enm]
  split at h
  · rename_i e
    exact ⟨.inl e, .inr e⟩
  · rename_i e
    exact ⟨.inr e, .inl (g.fn (hb h) x)⟩
  · cases h
theorem GX.blk (g : GX G T C n N X nm all) {scope : Scope} (hk : scope.kind = .function) (s : Shared) (H : Hp) (Ca : Addr) (cl : List (Str × Addr)) (fp : List Addr) :
    GX G T C n N (X.blk s H scope (compEnvC scope cl Ca X.env) fp) (relN scope.names nm) false := by
  refine ⟨g.fx, g.calm, g.nd, g.room, g.eN, ?_, hk, (fun h => by cases h), fun _ _ q => q⟩
  show scope.names.map _ = relN scope.names nm
  unfold relN
  refine List.map_congr_left fun p _ => ?_
  obtain ⟨y, k⟩ := p
  show (if (k == .free && X.env.scope.kind == .function && X.env.scope.names.lookup y == some .cell) = true then _ else _) = _
  rw [g.kind, g.enm]
  simp
end
theorem bne_not {x y : Str} (h : (!(x == y)) = true) : (x == y) = false := by
  cases e : (x == y) with
  | true => rw [e] at h; cases h
  | false => rfl
theorem zCmp_bl (o : CO) (x y : Z) (h : Mh) (z : Z) (h' : Mh) (e : zCmp o x y h = .ok z h') : ∃ b, z = .bl b := by
  have kb : ∀ {r : Res Bool} {f : Bool → Bool}, (r.bind fun c h => .ok (.bl (f c)) h) = Res.ok z h' → ∃ b, z = .bl b := by
    intro r f e
    cases r with
    | stuck => cases e
    | ok b h2 =>
      rw [Res.bind_ok] at e
      cases e
      exact ⟨_, rfl⟩
  cases o
  case eq => exact kb (f := fun c => c) e
  case ne => exact kb (f := fun c => !c) e
  case in_ => exact kb (f := fun c => c) e
  case notin => exact kb (f := fun c => !c) e
  case is_ => simp only [zCmp, zIs] at e; split at e <;> first | (cases e; exact ⟨_, rfl⟩) | cases e
  case isnot => simp only [zCmp, zIsNot] at e; split at e <;> first | (cases e; exact ⟨_, rfl⟩) | cases e
  case lt => simp only [zCmp, zLt] at e; split at e <;> first | (cases e; exact ⟨_, rfl⟩) | cases e
  case le => simp only [zCmp, zLe] at e; split at e <;> first | (cases e; exact ⟨_, rfl⟩) | cases e
  case gt => simp only [zCmp, zGt] at e; split at e <;> first | (cases e; exact ⟨_, rfl⟩) | cases e
  case ge => simp only [zCmp, zGe] at e; split at e <;> first | (cases e; exact ⟨_, rfl⟩) | cases e
theorem bo_ok {X : Cx} {o : BO} {op : Operator} (h : boB o op = true) : OpR X (binaryOp op) (rOp T X.K (zBin o)) := by
  cases o <;> cases op <;> first | cases h | skip
  · exact oz_add
  · exact oz_sub
  · exact oz_mul
  · exact oz_div
  · exact oz_mod
  · exact oz_pow
theorem co_ok {X : Cx} {nm : Nm} {all : Bool} (g : GX G T C n N X nm all) {o : CO} {op : CmpOp} (h : coB o op = true) : OpR X (compareOp op) (rOp T X.K (zCmp o)) := by
  cases o <;> cases op <;> first | cases h | skip
  · exact oz_lt
  · exact oz_le
  · exact oz_gt
  · exact oz_ge
  · exact oz_eq g.u64
  · exact oz_ne g.u64
  · exact oz_is
  · exact oz_isnot
  · exact oz_in g.u65
  · exact oz_notin g.u65
/-- what is shown of an expression -/
def Snd (T : Tb) (C : Cl) (X : Cx) (m : ME) (e : Expr) : Prop := PE X e (tOf T X.K (dE C m)) ∧ (isCmp e = true → PT X e (tOfB T X.K (dX C (.tr m))))
theorem snd_of {X : Cx} {m : ME} {e : Expr} (h : PE X e (tOf T X.K (dE C m))) (hc : isCmp e = false) : Snd T C X m e := ⟨h, fun q => by rw [hc] at q; cases q⟩
theorem lit_ok {X : Cx} {z : Z} {c : Const} {j : Nat} {pos : Pos} (h : litB z c = true) : PE X (.Constant c j pos) (tOf T X.K fun _ h => .ok z h) := by
  cases z <;> cases c <;> first | cases h | skip
  · exact le_lit pe_non fun _ _ => .non
  · obtain rfl := eq_of_beq h; exact le_lit pe_bl fun _ _ => .bl _
  · obtain rfl := eq_of_beq h; exact le_lit pe_int fun _ _ => .int _
  · obtain rfl := eq_of_beq h; exact le_lit pe_str fun _ _ => .str _
theorem own_map (N : List Str) (vs : List Nat) : (ownOf N vs).map (·.2) = vs := by
  unfold ownOf
  rw [List.map_map]
  exact (List.map_congr_left fun _ _ => rfl).trans (List.map_id vs)
theorem blk_ok {X : Cx} {nm : Nm} {all : Bool} (g : GX G T C n N X nm all) {scope : Scope} {vs : List Nat} (h : blkC N ⟨.function, nm, false, false, []⟩ scope (ownOf N vs) = true) : BlkOk X.N X.env.scope scope (ownOf N vs) := by
  have q := blkOk_by h
  refine ⟨q.kind, q.uniq, fun p hp => ?_, fun y hy e => ?_, fun y hy e => ?_⟩
  · rw [g.eN]; exact q.ix p hp
  · rw [g.enm]; exact q.free y hy e
  · rw [g.eN]; exact q.own y hy e
theorem tgs_ok {X : Cx} {nm : Nm} {all b : Bool} (g : GX G T C n N X nm all) (hb : b = true → all = true) : ∀ (is : List Nat) (es : List Expr), ckTs N b is nm es = true → PGs X es (gOfs T X.K is) ∧ (assignEach es X.env).length = is.length ∧ (assignEach es X.env).findIdx? (·.1) = none
  | [], es, h => by
    simp only [ckTs, List.isEmpty_iff] at h
    subst h
    exact ⟨lgs_nil, rfl, rfl⟩
  | i :: is, es, h => by
    simp only [ckTs] at h
    split at h
    · rename_i x p xs
      simp only [Bool.and_eq_true] at h
      obtain ⟨h1, h2, h3⟩ := tgs_ok g hb is xs h.2
      obtain ⟨l1, l2⟩ := g.loc hb h.1.2
      refine ⟨lgs_cons g.nd (g.N_ h.1.1) l1 l2 h1, ?_, ?_⟩
      · show (assignEach xs X.env).length + 1 = _
        rw [h2]; rfl
      · show List.findIdx? _ ((false, _) :: assignEach xs X.env) = none
        rw [List.findIdx?_cons]
        simp [h3]
    · cases h
theorem tgt_ok {X : Cx} {nm : Nm} {all b : Bool} (g : GX G T C n N X nm all) (hb : b = true → all = true) (t : MT) (e : Expr) (h : ckT N b t nm e = true) : ∃ is, PG X e (gOf T X.K is (tgt t)) ∧ ∀ vs, ckIn t vs = true → ∀ i ∈ is, i ∈ vs := by
  cases t with
  | nm i =>
    simp only [ckT] at h
    split at h
    · simp only [Bool.and_eq_true] at h
      obtain ⟨l1, l2⟩ := g.loc hb h.2
      refine ⟨[i], lg_nm g.nd (g.N_ h.1) l1 l2, fun vs hv j hj => ?_⟩
      simp only [List.mem_singleton] at hj
      subst hj
      simpa [ckIn] using hv
    · cases h
  | tup is =>
    simp only [ckT] at h
    split at h
    · obtain ⟨h1, h2, h3⟩ := tgs_ok g hb is _ h
      refine ⟨is, lg_tup g.calm h1 h2 h3, fun vs hv j hj => ?_⟩
      simp only [ckIn, List.all_eq_true] at hv
      simpa using hv j hj
    · cases h
/-- a target in a block of its own -/
theorem tgt_blk {X : Cx} {nm : Nm} {all : Bool} (g : GX G T C n N X nm all) {scope : Scope} (hk : scope.kind = .function) {t : MT} {tg : Expr} {vs : List Nat} (h4 : ckT N false t (relN scope.names nm) tg = true) (h5 : ckIn t vs = true) :
    ∃ is : List Nat, (∀ s H Ca cl fp, PG (X.blk s H scope (compEnvC scope cl Ca X.env) fp) tg (gOf T X.K is (tgt t))) ∧ ∀ i ∈ is, i ∈ vs := by
  have key : ∀ s H Ca cl fp, GX G T C n N (X.blk s H scope (compEnvC scope cl Ca X.env) fp) (relN scope.names nm) false := fun s H Ca cl fp => g.blk hk s H Ca cl fp
  cases t with
  | nm i =>
    simp only [ckT] at h4
    split at h4
    · simp only [Bool.and_eq_true] at h4
      refine ⟨[i], fun s H Ca cl fp => ?_, fun j hj => ?_⟩
      · obtain ⟨l1, l2⟩ := (key s H Ca cl fp).loc (b := false) (fun q => by cases q) h4.2
        exact lg_nm (key s H Ca cl fp).nd ((key s H Ca cl fp).N_ h4.1) l1 l2
      · simp only [List.mem_singleton] at hj
        subst hj
        simpa [ckIn] using h5
    · cases h4
  | tup is =>
    simp only [ckT] at h4
    split at h4
    · refine ⟨is, fun s H Ca cl fp => ?_, fun j hj => ?_⟩
      · obtain ⟨h1, h2, h3⟩ := tgs_ok (key s H Ca cl fp) (fun q => by cases q) is _ h4
        exact lg_tup g.calm h1 h2 h3
      · simp only [ckIn, List.all_eq_true] at h5
        simpa using h5 j hj
    · cases h4
theorem isN_str {x y : Str} (h : (x == y) = true) : x = y := eq_of_beq h
mutual
theorem ckE_ok : ∀ (m : ME) (nm : Nm) (e : Expr) (X : Cx) (all : Bool), GX G T C n N X nm all → ckE G N m nm e = true → Snd T C X m e
  | .var i, nm, e, X, all, g, h => by
    simp only [ckE] at h
    split at h
    · simp only [Bool.and_eq_true] at h
      obtain ⟨⟨⟨h1, h2⟩, h3⟩, h4⟩ := h
      exact snd_of (le_var (g.N_ h1) (g.vis h2) (bne_not h3) (bne_not h4)) rfl
    · cases h
  | .lit z, nm, e, X, all, g, h => by
    simp only [ckE] at h
    split at h
    · exact snd_of (lit_ok h) rfl
    · cases h
  | .glb x z, nm, e, X, all, g, h => by
    simp only [ckE] at h
    split at h
    · simp only [Bool.and_eq_true] at h
      obtain ⟨⟨⟨h1, h2⟩, h3⟩, h4⟩ := h
      obtain ⟨u, v, e1, e2, e3⟩ := g.fx.con _ _ h3
      exact snd_of (le_lit (pe_glob (g.glo h2) e1 e2 (bne_not h4)) e3) rfl
    · cases h
  | .bin o a b, nm, e, X, all, g, h => by
    simp only [ckE] at h
    split at h
    · simp only [Bool.and_eq_true] at h
      exact snd_of (le_op (bo_ok h.1.1) (ckE_ok a nm _ X all g h.1.2).1 (ckE_ok b nm _ X all g h.2).1) rfl
    · cases h
  | .neg a, nm, e, X, all, g, h => by
    simp only [ckE] at h
    split at h
    · exact snd_of (le_un oz_neg (ckE_ok a nm _ X all g h).1) rfl
    · cases h
  | .cmp o a b, nm, e, X, all, g, h => by
    simp only [ckE] at h
    split at h
    · simp only [Bool.and_eq_true] at h
      have ha := (ckE_ok a nm _ X all g h.1.1.2).1
      have hb := (ckE_ok b nm _ X all g h.1.2).1
      have ho := co_ok (T := T) g h.1.1.1
      exact ⟨le_cmp ho ha hb (in_marks h.2 _), fun _ => lt_cmp ho (zCmp_bl o) ha hb (in_marks h.2 _)⟩
    · cases h
  | .cmp2 o p a b c, nm, e, X, all, g, h => by
    simp only [ckE] at h
    split at h
    · simp only [Bool.and_eq_true] at h
      obtain ⟨⟨⟨⟨⟨h1, h2⟩, h3⟩, h4⟩, h5⟩, h6⟩ := h
      have ha := (ckE_ok a nm _ X all g h3).1
      have hb := (ckE_ok b nm _ X all g h4).1
      have hc := (ckE_ok c nm _ X all g h5).1
      have ho := co_ok (T := T) g h1
      have ho2 := co_ok (T := T) g h2
      exact ⟨le_chain ho ho2 ha hb hc (in_marks h6 _), fun _ => lt_chain ho ho2 (zCmp_bl p) ha hb hc (in_marks h6 _)⟩
    · cases h
  | .and a b, nm, e, X, all, g, h => by
    simp only [ckE] at h
    split at h
    · rw [Bool.and_eq_true] at h
      have ha := (ckE_ok a nm _ X all g h.1).1
      refine snd_of (le_and ha ?_) rfl
      have h2 := h.2
      split at h2
      · exact pe_one (ckE_ok b nm _ X all g h2).1
      · exact (ckE_ok b nm _ X all g h2).1
    · cases h
  | .or a b, nm, e, X, all, g, h => by
    simp only [ckE] at h
    split at h
    · rw [Bool.and_eq_true] at h
      have ha := (ckE_ok a nm _ X all g h.1).1
      refine snd_of (le_or ha ?_) rfl
      have h2 := h.2
      split at h2
      · exact pe_one (ckE_ok b nm _ X all g h2).1
      · exact (ckE_ok b nm _ X all g h2).1
    · cases h
  | .not a, nm, e, X, all, g, h => by
    simp only [ckE] at h
    split at h
    · exact snd_of (le_not (ckE_ok a nm _ X all g h).1) rfl
    · cases h
  | .ite c a b, nm, e, X, all, g, h => by
    simp only [ckE] at h
    split at h
    · simp only [Bool.and_eq_true] at h
      exact snd_of (le_ite (ckX_ok c nm _ X all g h.1.1).1 (ckE_ok a nm _ X all g h.1.2).1 (ckE_ok b nm _ X all g h.2).1) rfl
    · cases h
  | .tup es, nm, e, X, all, g, h => by
    simp only [ckE] at h
    split at h
    · rw [Bool.and_eq_true] at h
      exact snd_of (le_tup (ckEs_ok es nm _ X all g h.1 h.2)) rfl
    · cases h
  | .lst es, nm, e, X, all, g, h => by
    simp only [ckE] at h
    split at h
    · rw [Bool.and_eq_true] at h
      exact snd_of (le_lst (ckEs_ok es nm _ X all g h.1 h.2)) rfl
    · cases h
  | .dct0, nm, e, X, all, g, h => by
    simp only [ckE] at h
    split at h
    · exact snd_of le_dct0 rfl
    · cases h
  | .idx a b, nm, e, X, all, g, h => by
    simp only [ckE] at h
    split at h
    · simp only [Bool.and_eq_true] at h
      exact snd_of (le_idx g.u1 (ckE_ok a nm _ X all g h.1.1).1 (ckE_ok b nm _ X all g h.1.2).1 (ix_plain h.2)) rfl
    · cases h
  | .slc a lo hi, nm, e, X, all, g, h => by
    simp only [ckE] at h
    split at h
    · simp only [Bool.and_eq_true] at h
      exact snd_of (le_slc (ckE_ok a nm _ X all g h.1.1).1 (ckP_ok lo nm _ X all g h.1.2) (ckP_ok hi nm _ X all g h.2)) rfl
    · cases h
  | .fld a f, nm, e, X, all, g, h => by
    simp only [ckE] at h
    split at h
    · simp only [Bool.and_eq_true] at h
      exact snd_of (le_fld (by rw [← g.fx.an]; exact isN_str h.1.2) (ckE_ok a nm _ X all g h.1.1).1 (base_plain h.2 _ _ _)) rfl
    · cases h
  | .call f es, nm, e, X, all, g, h => by
    simp only [ckE] at h
    split at h
    · rename_i x np xs pos
      simp only [Bool.and_eq_true] at h
      obtain ⟨⟨⟨⟨h1, h2⟩, h3⟩, h4⟩, h5⟩ := h
      obtain ⟨a, fd, ps, e1, e2, e3, F⟩ := g.fx.fn _ _ h1
      cases xs with
      | nil =>
        cases es with
        | nil => exact snd_of (le_call0 (CX := CX0) F g.room0 (g.glo h2) e1 e2 e3 (bne_not h3)) rfl
        | cons _ _ => simp [ckEs] at h4
      | cons y ys => exact snd_of (le_call (CX := CX0) F g.room0 (g.glo h2) e1 e2 e3 (ckEs_ok es nm _ X all g h4 h5) (bne_not h3) h5) rfl
    · cases h
  | .mk c f es, nm, e, X, all, g, h => by
    simp only [ckE] at h
    split at h
    · rename_i x np xs pos
      simp only [Bool.and_eq_true] at h
      obtain ⟨⟨⟨⟨h1, h2⟩, h3⟩, h4⟩, h5⟩ := h
      obtain ⟨a, fd, ps, M, cl, e1, e3, F⟩ := g.fx.cl _ _ _ h1
      cases xs with
      | nil =>
        cases es with
        | nil => exact snd_of (le_mk0 M cl F g.room (g.glo h2) e1 e3 (bne_not h3)) rfl
        | cons _ _ => simp [ckEs] at h4
      | cons y ys => exact snd_of (le_mk M cl F g.room (g.glo h2) e1 e3 (ckEs_ok es nm _ X all g h4 h5) (bne_not h3) h5) rfl
    · cases h
  | .mkd c f es ds, nm, e, X, all, g, h => by
    simp only [ckE] at h
    split at h
    · rename_i x np y ys pos
      simp only [Bool.and_eq_true] at h
      obtain ⟨⟨⟨⟨h1, h2⟩, h3⟩, h4⟩, h5⟩ := h
      obtain ⟨a, fd, ps, dvs, dus, M, cl, e1, e3, e4, e5, F⟩ := g.fx.cld _ _ _ _ h1
      exact snd_of (le_mkd M cl F g.room (g.glo h2) e1 e3 e4 e5 (ckEs_ok es nm _ X all g h4 h5) (bne_not h3) h5) rfl
    · cases h
  | .mth c f m o es, nm, e, X, all, g, h => by
    simp only [ckE] at h
    split at h
    · rename_i x n apos ys cpos
      simp only [Bool.and_eq_true] at h
      obtain ⟨⟨⟨⟨⟨⟨⟨h1, h2⟩, h3⟩, h4⟩, h5⟩, h6⟩, h7⟩, h8⟩ := h
      obtain ⟨a, fd, ps, cl, hm, hb, F⟩ := g.fx.meth _ _ _ h1
      have hx : n = T.an m := by rw [← g.fx.an]; exact isN_str h2
      have ho := (ckE_ok o nm _ X all g h5).1
      cases ys with
      | nil =>
        cases es with
        | nil => exact snd_of (le_mth0 hx ho cl (by rw [hx]; exact hm) F g.room0 hb h3 h4) rfl
        | cons _ _ => simp [ckEs] at h6
      | cons y ys => exact snd_of (le_mth hx ho cl (by rw [hx]; exact hm) F g.room0 hb (ckEs_ok es nm _ X all g h6 h7) h7 (of_decide_eq_true h8) h3 h4) rfl
    · cases h
  | .maxd a d, nm, e, X, all, g, h => by
    simp only [ckE] at h
    split at h
    · simp only [Bool.and_eq_true] at h
      obtain ⟨⟨⟨⟨⟨⟨h1, h2⟩, h3⟩, h4⟩, h5⟩, h6⟩, h7⟩ := h
      obtain rfl := isN_str h1
      obtain rfl := isN_str h2
      exact snd_of (le_maxd g.calm g.u64 (ckE_ok a nm _ X all g h5).1 (ckE_ok d nm _ X all g h6).1 (g.glo h3) (g.fx.free _ h4) h7) rfl
    · cases h
  | .dcomp vs t it c k a, nm, e, X, all, g, h => by
    simp only [ckE] at h
    split at h
    · rename_i kx vx tg iter ifs scope pos
      simp only [Bool.and_eq_true] at h
      obtain ⟨⟨⟨⟨⟨⟨⟨⟨h1, h2⟩, h3⟩, h4⟩, h5⟩, h6⟩, h7⟩, h8⟩, h9⟩ := h
      have bo := blk_ok g h2
      have key : ∀ s H Ca cl fp, GX G T C n N (X.blk s H scope (compEnvC scope cl Ca X.env) fp) (relN scope.names nm) false := fun s H Ca cl fp => g.blk bo.kind s H Ca cl fp
      obtain ⟨is, his⟩ := tgt_blk g bo.kind h4 h5
      have q := le_dcomp (T := T) (mi := fun ρ h => dI C it ρ h) (mt := fun ρ h => dC C c ρ h) (mk := fun ρ h => dE C k ρ h) (me := fun ρ h => dE C a ρ h) g.calm g.nd (ckI_ok it nm iter tg X all g h1 h9) bo his.1
        (fun s H Ca cl fp => ckC_ok c _ ifs _ _ (key s H Ca cl fp) h6) (fun s H Ca cl fp => (ckE_ok k _ kx _ _ (key s H Ca cl fp) h7).1) (fun s H Ca cl fp => (ckE_ok a _ vx _ _ (key s H Ca cl fp) h8).1) h3 (by rw [own_map]; exact his.2) (pos := pos)
      rw [own_map] at q
      exact snd_of q rfl
    · cases h
  | .bf p es, nm, e, X, all, g, h => by
    simp only [ckE] at h
    split at h
    · simp only [Bool.and_eq_true] at h
      obtain ⟨⟨⟨⟨h1, h2⟩, h3⟩, h4⟩, h5⟩ := h
      exact snd_of (le_bf g.calm g.u64 (ckEs_ok es nm _ X all g h4 h5) (isN_str h1) (g.glo h2) (g.fx.free _ h3) h5) rfl
    · cases h
  | .bm p o es, nm, e, X, all, g, h => by
    simp only [ckE] at h
    split at h
    · rename_i x name apos ys cpos
      simp only [Bool.and_eq_true] at h
      obtain ⟨⟨⟨⟨⟨⟨h1, h2⟩, h3⟩, h4⟩, h5⟩, h6⟩, h7⟩ := h
      have ho := (ckE_ok o nm _ X all g h5).1
      have ha := ckEs_ok es nm _ X all g h6 h7
      cases ys with
      | nil =>
        cases es with
        | nil =>
          have hp : p = .pop0 ∨ p = .reverse := by
            cases p <;> simp [okBM] at h2 <;> simp
          exact snd_of (le_bm0 ho (isN_str h1) hp h3 h4) rfl
        | cons _ _ => simp [ckEs] at h6
      | cons y ys =>
        have hp : (p ≠ .pop0 ∧ p ≠ .reverse) ∧ (y :: ys).length < 30 := by
          cases p <;> first | (simp [okBM] at h2; done) | exact ⟨⟨(fun q => nomatch q), (fun q => nomatch q)⟩, (of_decide_eq_true h2).2⟩
        exact snd_of (le_bm g.u1 ho ha (isN_str h1) hp.1 h3 h7 hp.2 h4) rfl
    · cases h
  | .isT a, nm, e, X, all, g, h => by
    simp only [ckE] at h
    split at h
    · simp only [Bool.and_eq_true] at h
      obtain ⟨⟨⟨⟨⟨⟨⟨h1, h2⟩, h3⟩, h4⟩, h5⟩, h6⟩, h7⟩, h8⟩ := h
      obtain rfl := isN_str h1
      obtain rfl := isN_str h2
      exact snd_of (le_isT (ckE_ok a nm _ X all g h7).1 (g.glo h3) (g.fx.free _ h5) (g.glo h4) (g.fx.free _ h6) h8) rfl
    · cases h
  | .comp vs t it c a, nm, e, X, all, g, h => by
    simp only [ckE] at h
    split at h
    · rename_i elt tg iter ifs scope pos
      simp only [Bool.and_eq_true] at h
      obtain ⟨⟨⟨⟨⟨⟨⟨h1, h2⟩, h3⟩, h4⟩, h5⟩, h6⟩, h7⟩, h8⟩ := h
      have bo := blk_ok g h2
      have key : ∀ s H Ca cl fp, GX G T C n N (X.blk s H scope (compEnvC scope cl Ca X.env) fp) (relN scope.names nm) false := fun s H Ca cl fp => g.blk bo.kind s H Ca cl fp
      obtain ⟨is, his⟩ := tgt_blk g bo.kind h4 h5
      have q := le_comp (T := T) (mi := fun ρ h => dI C it ρ h) (mt := fun ρ h => dC C c ρ h) (me := fun ρ h => dE C a ρ h) g.calm g.nd (ckI_ok it nm iter tg X all g h1 h8) bo his.1
        (fun s H Ca cl fp => ckC_ok c _ ifs _ _ (key s H Ca cl fp) h6) (fun s H Ca cl fp => (ckE_ok a _ elt _ _ (key s H Ca cl fp) h7).1) h3 (by rw [own_map]; exact his.2) (pos := pos)
      rw [own_map] at q
      exact snd_of q rfl
    · cases h
theorem ckX_ok : ∀ (m : MX) (nm : Nm) (e : Expr) (X : Cx) (all : Bool), GX G T C n N X nm all → ckX G N m nm e = true → PT X e (tOfB T X.K (dX C m)) ∧ ((∃ op es pos, e = .BoolOp op es pos) → PW X e (tOfB T X.K (dX C m)))
  | .tr a, nm, e, X, all, g, h => by
    simp only [ckX, Bool.and_eq_true] at h
    obtain ⟨h1, h2⟩ := h
    have q := ckE_ok a nm e X all g h2
    cases hc : isCmp e with
    | true =>
      refine ⟨q.2 hc, fun ⟨op, es, pos, he⟩ => ?_⟩
      subst he
      cases hc
    | false =>
      rw [hc, Bool.false_or] at h1
      refine ⟨lt_truth q.1 fun w => ?_, fun ⟨op, es, pos, he⟩ => ?_⟩
      · cases e <;> first | rfl | cases h1
      · subst he
        cases h1
  | .and a b, nm, e, X, all, g, h => by
    simp only [ckX] at h
    split at h
    · rename_i x y r pos
      rw [Bool.and_eq_true] at h
      have ha := (ckX_ok a nm _ X all g h.1).1
      have h2 := h.2
      have w : PW X (.BoolOp .And (x :: y :: r) pos) (tOfB T X.K (xAnd (dX C a) (dX C b))) := lw_and ha (by
        cases r with
        | nil => exact pw_and1 (ckX_ok b nm _ X all g h2).1
        | cons r1 r2 => exact (ckX_ok b nm _ X all g h2).2 ⟨_, _, _, rfl⟩)
      exact ⟨w.pt, fun _ => w⟩
    · cases h
  | .or a b, nm, e, X, all, g, h => by
    simp only [ckX] at h
    split at h
    · rename_i x y r pos
      rw [Bool.and_eq_true] at h
      have ha := (ckX_ok a nm _ X all g h.1).1
      have h2 := h.2
      have w : PW X (.BoolOp .Or (x :: y :: r) pos) (tOfB T X.K (xOr (dX C a) (dX C b))) := lw_or ha (by
        cases r with
        | nil => exact pw_or1 (ckX_ok b nm _ X all g h2).1
        | cons r1 r2 => exact (ckX_ok b nm _ X all g h2).2 ⟨_, _, _, rfl⟩)
      exact ⟨w.pt, fun _ => w⟩
    · cases h
  | .not a, nm, e, X, all, g, h => by
    simp only [ckX] at h
    split at h
    · refine ⟨lt_not (ckX_ok a nm _ X all g h).1, fun ⟨op, es, pos, he⟩ => ?_⟩
      cases he
    · cases h
theorem ckEs_ok : ∀ (ms : MEs) (nm : Nm) (es : List Expr) (X : Cx) (all : Bool), GX G T C n N X nm all → ckEs G N ms nm es = true → es.all noStar = true → PA X es (tOfA T X.K (dEs C ms))
  | .nil, nm, es, X, all, g, h, hs => by
    simp only [ckEs, List.isEmpty_iff] at h
    subst h
    exact la_nil
  | .cons a as, nm, es, X, all, g, h, hs => by
    simp only [ckEs] at h
    split at h
    · rw [Bool.and_eq_true] at h
      rw [List.all_cons, Bool.and_eq_true] at hs
      exact la_cons (ckE_ok a nm _ X all g h.1).1 (ckEs_ok as nm _ X all g h.2 hs.2) (star_cons hs.1 _ _)
    · cases h
theorem ckP_ok : ∀ (m : MP) (nm : Nm) (e : Option Expr) (X : Cx) (all : Bool), GX G T C n N X nm all → ckP G N m nm e = true → PO X e (tOfP T X.K (dP C m))
  | .no, nm, e, X, all, g, h => by
    simp only [ckP, Option.isNone_iff_eq_none] at h
    subst h
    exact lp_none
  | .some a, nm, e, X, all, g, h => by
    simp only [ckP] at h
    split at h
    · exact lp_some (ckE_ok a nm _ X all g h).1
    · cases h
theorem ckC_ok : ∀ (m : MC) (nm : Nm) (e : List Expr) (X : Cx) (all : Bool), GX G T C n N X nm all → ckC G N m nm e = true → PTs X e (tOfB T X.K (dC C m))
  | .no, nm, e, X, all, g, h => by
    simp only [ckC, List.isEmpty_iff] at h
    subst h
    exact lts_nil
  | .some a, nm, e, X, all, g, h => by
    simp only [ckC] at h
    split at h
    · exact pts_one (ckX_ok a nm _ X all g h).1
    · cases h
theorem ckI_ok : ∀ (m : MI) (nm : Nm) (e tg : Expr) (X : Cx) (all : Bool), GX G T C n N X nm all → ckI G N m nm e = true → ckIt m tg = true → PI X tg e (iOf T X.K (dI C m))
  | .seq a, nm, e, tg, X, all, g, h, _ => by
    simp only [ckI] at h
    exact li_seq (ckE_ok a nm _ X all g h).1
  | .rng1 a, nm, e, tg, X, all, g, h, _ => by
    simp only [ckI] at h
    split at h
    · simp only [Bool.and_eq_true] at h
      obtain ⟨⟨⟨⟨h1, h2⟩, h3⟩, h4⟩, h5⟩ := h
      obtain rfl := isN_str h1
      exact li_rng1 (g.glo h2) (g.fx.free _ h3) (ckE_ok a nm _ X all g h4).1 h5
    · cases h
  | .rng2 a b, nm, e, tg, X, all, g, h, _ => by
    simp only [ckI] at h
    split at h
    · simp only [Bool.and_eq_true] at h
      obtain ⟨⟨⟨⟨⟨⟨h1, h2⟩, h3⟩, h4⟩, h5⟩, h6⟩, h7⟩ := h
      obtain rfl := isN_str h1
      exact li_rng2 (g.glo h2) (g.fx.free _ h3) (ckE_ok a nm _ X all g h4).1 (ckE_ok b nm _ X all g h6).1 h5 h7
    · cases h
  | .rrng1 a, nm, e, tg, X, all, g, h, _ => by
    simp only [ckI] at h
    split at h
    · simp only [Bool.and_eq_true] at h
      obtain ⟨⟨⟨⟨⟨⟨⟨h1, h2⟩, h3⟩, h4⟩, h5⟩, h6⟩, h7⟩, h8⟩ := h
      obtain rfl := isN_str h1
      obtain rfl := isN_str h4
      exact li_rev1 (g.glo h2) (g.fx.free _ h3) (g.glo h5) (g.fx.free _ h6) (ckE_ok a nm _ X all g h7).1 h8
    · cases h
  | .enum a, nm, e, tg, X, all, g, h, ht => by
    simp only [ckI] at h
    split at h
    · simp only [Bool.and_eq_true] at h
      obtain ⟨⟨⟨⟨h1, h2⟩, h3⟩, h4⟩, h5⟩ := h
      obtain rfl := isN_str h1
      simp only [ckIt] at ht
      split at ht
      · exact li_enum (g.glo h2) (g.fx.free _ h3) (ckE_ok a nm _ X all g h4).1 h5
      · cases ht
    · cases h
end
end Zm
namespace Zm
open PySem PySem.Spec PyProof.Rows L2
variable {G : GT} {T : Tb} {C : Cl} {n : Nat} {N : List Str}

/-- the parts of a comprehension -/
theorem comp_parts {X : Cx} {nm : Nm} {all : Bool} (g : GX G T C n N X nm all) {vs : List Nat} {t : MT} {it : MI} {c : MC} {a : ME} {elt tg iter : Expr} {ifs : List Expr} {scope : Scope} {pos : Pos}
    (h : ckE G N (.comp vs t it c a) nm (.ListComp elt [⟨tg, iter, ifs, 0⟩] scope pos) = true) : PI X tg iter (iOf T X.K (dI C it)) ∧ BlkOk X.N X.env.scope scope (ownOf N vs) ∧ noSet iter = true ∧
      ∃ is : List Nat, (∀ s H Ca cl fp, PG (X.blk s H scope (compEnvC scope cl Ca X.env) fp) tg (gOf T X.K is (tgt t))) ∧ (∀ i ∈ is, i ∈ vs) ∧
      (∀ s H Ca cl fp, PTs (X.blk s H scope (compEnvC scope cl Ca X.env) fp) ifs (tOfB T X.K (dC C c))) ∧ ∀ s H Ca cl fp, PE (X.blk s H scope (compEnvC scope cl Ca X.env) fp) elt (tOf T X.K (dE C a)) := by
  simp only [ckE] at h
  simp only [Bool.and_eq_true] at h
  obtain ⟨⟨⟨⟨⟨⟨⟨h1, h2⟩, h3⟩, h4⟩, h5⟩, h6⟩, h7⟩, h8⟩ := h
  have bo := blk_ok g h2
  have key : ∀ s H Ca cl fp, GX G T C n N (X.blk s H scope (compEnvC scope cl Ca X.env) fp) (relN scope.names nm) false := fun s H Ca cl fp => g.blk bo.kind s H Ca cl fp
  obtain ⟨is, his⟩ := tgt_blk g bo.kind h4 h5
  exact ⟨ckI_ok it nm iter tg X all g h1 h8, bo, h3, is, his.1, his.2, fun s H Ca cl fp => ckC_ok c _ ifs _ _ (key s H Ca cl fp) h6, fun s H Ca cl fp => (ckE_ok a _ elt _ _ (key s H Ca cl fp) h7).1⟩
variable {X : Cx} {nm : Nm}
theorem asg_nm_ok (g : GX G T C n N X nm true) {i : Nat} {m : ME} {x : Str} {px : Pos} {e : Expr} {pos : Pos} (h0 : ckE G N m nm e = true) (h1 : eqN N i x = true) (h2 : locB true nm x = true) (h3 : (noComp e || swB nm x px e) = true) :
    PS X (.Assign [.Name x px] e pos) (sOf T X.K (mAsg (dE C m) (tgt (.nm i)))) := by
  obtain ⟨l1, l2⟩ := g.loc (b := true) (fun _ => rfl) h2
  cases hc : noComp e with
  | true => exact ls_set g.nd (g.N_ h1) l1 l2 (ckE_ok m nm e X true g h0).1 hc
  | false =>
    rw [hc, Bool.false_or] at h3
    cases e <;> try (cases h3; done)
    · rename_i elt gens scope lpos
      simp only [swB, Bool.and_eq_true] at h3
      obtain ⟨⟨s1, s2⟩, s3⟩ := h3
      have sl : X.env.scope.names.lookup x = some .local := by
        rw [g.enm]
        split at s1
        · assumption
        · cases s1
      cases m <;> try (simp [ckE] at h0; done)
      rename_i vs t it c a
      have h00 := h0
      simp only [ckE] at h0
      split at h0
      · rename_i heq
        cases heq
        obtain ⟨p1, p2, p3, is, p4, p5, p6, p7⟩ := comp_parts g h00
        have q := ls_setLc (T := T) (mi := dI C it) (mt := dC C c) (me := dE C a) g.calm g.nd (g.N_ h1) sl (sw_true g.kind sl s2 (by simpa using s3)) p1 p2 p4 p6 p7 p3 (by rw [own_map]; exact p5) (spos := pos)
        rw [own_map] at q
        exact q
      · cases h0
    · rename_i kx vx gens scope lpos
      simp only [swB, Bool.and_eq_true] at h3
      obtain ⟨⟨s1, s2⟩, s3⟩ := h3
      have sl : X.env.scope.names.lookup x = some .local := by
        rw [g.enm]
        split at s1
        · assumption
        · cases s1
      cases m <;> try (simp [ckE] at h0; done)
      rename_i vs t it c k a
      simp only [ckE] at h0
      split at h0
      · rename_i heq
        cases heq
        simp only [Bool.and_eq_true] at h0
        obtain ⟨⟨⟨⟨⟨⟨⟨⟨h1', h2'⟩, h3'⟩, h4'⟩, h5'⟩, h6'⟩, h7'⟩, h8'⟩, h9'⟩ := h0
        have bo := blk_ok g h2'
        have key : ∀ s H Ca cl fp, GX G T C n N (X.blk s H scope (compEnvC scope cl Ca X.env) fp) (relN scope.names nm) false := fun s H Ca cl fp => g.blk bo.kind s H Ca cl fp
        obtain ⟨is, his⟩ := tgt_blk g bo.kind h4' h5'
        have q := ls_setDc (T := T) (mi := dI C it) (mt := dC C c) (mk := dE C k) (me := dE C a) g.calm g.nd (g.N_ h1) sl (sw_dict g.kind sl s2 (by simpa using s3)) (ckI_ok it nm _ _ X true g h1' h9') bo his.1
          (fun s H Ca cl fp => ckC_ok c _ _ _ _ (key s H Ca cl fp) h6') (fun s H Ca cl fp => (ckE_ok k _ _ _ _ (key s H Ca cl fp) h7').1) (fun s H Ca cl fp => (ckE_ok a _ _ _ _ (key s H Ca cl fp) h8').1) h3' (by rw [own_map]; exact his.2) (spos := pos)
        rw [own_map] at q
        exact q
      · cases h0
theorem augR_ok {o : BO} {op : Operator} (h : (match o, op with
      | .addI, .Add => true
      | .sub, .Sub => true
      | _, _ => false) = true) : OpR X (inplaceOp op) (rOp T X.K (zBin o)) := by
  split at h
  · exact oz_iadd
  · exact oz_isub
  · cases h
theorem flds_ok (g : GX G T C n N X nm true) : ∀ (os : List (ME × Nat)) (es : List Expr), ckFlds G N os nm es = true →
    PGs X es (gOfL T X.K (mFlds G.fl (os.map fun q => (dE C q.1, q.2)))) ∧ (assignEach es X.env).length = (os.map fun q : ME × Nat => (dE C q.1, q.2)).length ∧ (assignEach es X.env).findIdx? (·.1) = none
  | [], es, h => by
    simp only [ckFlds, List.isEmpty_iff] at h
    subst h
    exact ⟨lgL_nil, rfl, rfl⟩
  | q :: os, es, h => by
    simp only [ckFlds] at h
    split at h
    · rename_i x nn p2 xs
      simp only [Bool.and_eq_true] at h
      obtain ⟨⟨h1, h2⟩, h3⟩ := h
      obtain ⟨r1, r2, r3⟩ := flds_ok g os xs h3
      refine ⟨lgL_cons g.fx.fl (by rw [← g.fx.an]; exact isN_str h2) (ckE_ok q.1 nm _ X true g h1).1 r1, ?_, ?_⟩
      · show (assignEach xs X.env).length + 1 = _
        rw [r2]; rfl
      · show List.findIdx? _ ((false, _) :: assignEach xs X.env) = none
        rw [List.findIdx?_cons]
        simp [r3]
    · cases h
theorem flds_eq (fl : Nat → Nat → Bool) : ∀ (os : List (ME × Nat)) (zs : List Z) (ρ : Ev) (h : Mh), mFlds fl (os.map fun q => (dE C q.1, q.2)) zs ρ h = dFlds C fl os zs ρ h
  | [], [], ρ, h => rfl
  | [], _ :: _, ρ, h => rfl
  | _ :: _, [], ρ, h => rfl
  | q :: os, z :: zs, ρ, h => by
    show ((dE C q.1 ρ h).bind fun x h => (zSetF fl x q.2 z h).bind fun _ h => mFlds fl _ zs ρ h) = (dE C q.1 ρ h).bind fun x h => (zSetF fl x q.2 z h).bind fun _ h => dFlds C fl os zs ρ h
    congr 1
    funext x h
    congr 1
    funext _ h
    exact flds_eq fl os zs ρ h
theorem lenEs_ok : ∀ (es : MEs) (ρ : Ev) (h : Mh) (zs : List Z) (h' : Mh), dEs C es ρ h = .ok zs h' → zs.length = lenEs es
  | .nil, ρ, h, zs, h', e => by
    simp only [dEs] at e
    cases e
    rfl
  | .cons m ms, ρ, h, zs, h', e => by
    simp only [dEs] at e
    cases q : dE C m ρ h with
    | stuck => rw [q] at e; cases e
    | ok x h1 =>
      rw [q, Res.bind_ok] at e
      cases q2 : dEs C ms ρ h1 with
      | stuck => rw [q2] at e; cases e
      | ok xs h2 =>
        rw [q2, Res.bind_ok] at e
        cases e
        rw [List.length_cons, lenEs_ok ms _ _ _ _ q2]
        rfl
theorem ckY_ok (g : GX G T C n N X nm true) : ∀ (y : MY) (e : Expr), ckY G N y nm e = true → PY T X e (dY C y)
  | .fn f es, e, h => by
    simp only [ckY] at h
    split at h
    · simp only [Bool.and_eq_true] at h
      obtain ⟨⟨⟨⟨h1, h2⟩, h3⟩, h4⟩, h5⟩ := h
      obtain ⟨a, fd, j, hj, e1, e2, F⟩ := g.fx.gfn _ _ _ h1
      exact ly_fn F (g.room.mono (by omega)) (g.glo h2) e1 e2 (ckEs_ok es nm _ X true g h4 h5) (bne_not h3) h5 fun ρ h zs h' q => lenEs_ok es ρ h zs h' q
    · cases h
  | .mth c f m o es, e, h => by
    simp only [ckY] at h
    split at h
    · rename_i x nn apos cpos
      simp only [Bool.and_eq_true] at h
      obtain ⟨⟨⟨⟨⟨h0, h1⟩, h2⟩, h3⟩, h4⟩, h5⟩ := h
      obtain ⟨a, fd, j, hj, cl, hm, F⟩ := g.fx.gmeth _ _ _ _ h1
      have hx : nn = T.an m := by rw [← g.fx.an]; exact isN_str h2
      cases es with
      | nil => exact ly_mth0 hx (ckE_ok o nm _ X true g h5).1 cl (by rw [hx]; exact hm) F (g.room.mono (by omega)) h3 h4
      | cons _ _ => cases h0
    · cases h
mutual
theorem ckS_ok : ∀ (m : MS) (st : Stmt) (X : Cx) (nm : Nm), GX G T C n N X nm true → PassesOwn (model X.prog X.w) X.A X.env X.xe → ckS G N m nm st = true → PS X st (sOf T X.K (dS C G.fl m))
  | .asg t m, st, X, nm, g, hp, h => by
    simp only [ckS] at h
    split at h
    · rename_i tg e pos
      rw [Bool.and_eq_true] at h
      obtain ⟨h0, h⟩ := h
      cases t with
      | nm i =>
        dsimp only at h
        split at h
        · simp only [Bool.and_eq_true] at h
          exact asg_nm_ok g h0 h.1.1 h.1.2 h.2
        · cases h
      | tup is =>
        dsimp only at h
        split at h
        · simp only [Bool.and_eq_true] at h
          obtain ⟨h1, h2, h3⟩ := tgs_ok g (fun _ => rfl) is _ h.1.1
          exact ls_tup (ckE_ok m nm e X true g h0).1 (lg_tup g.calm h1 h2 h3) h.1.2 h.2
        · cases h
      | sub o i =>
        dsimp only at h
        split at h
        · simp only [Bool.and_eq_true] at h
          exact ls_sub g.u1 (ckE_ok o nm _ X true g h.1.1.1).1 (ckE_ok i nm _ X true g h.1.1.2).1 h.1.2 (ckE_ok m nm e X true g h0).1 h.2
        · cases h
      | fld o f =>
        dsimp only at h
        split at h
        · simp only [Bool.and_eq_true] at h
          exact ls_fld g.fx.fl (by rw [← g.fx.an]; exact isN_str h.2) (ckE_ok o nm _ X true g h.1).1 (ckE_ok m nm e X true g h0).1
        · cases h
      | flds os =>
        dsimp only at h
        split at h
        · rename_i xs kk p2
          simp only [Bool.and_eq_true] at h
          obtain ⟨r1, r2, r3⟩ := flds_ok (T := T) (C := C) g os _ h.1.1
          have q := ls_flds (pos := pos) (k := kk) (p2 := p2) g.calm (ckE_ok m nm e X true g h0).1 r1 r2 r3 h.1.2 h.2
          have e1 : (mFldsG G.fl (os.map fun q => (dE C q.1, q.2))) = fun z ρ h => match z with
            | .tup zs => dFlds C G.fl os zs ρ h
            | _ => .stuck := by
            funext z ρ h
            cases z <;> first | rfl | exact flds_eq G.fl os _ ρ h
          rw [e1] at q
          exact q
        · cases h
    · cases h
  | .aug i o m, st, X, nm, g, hp, h => by
    simp only [ckS] at h
    split at h
    · simp only [Bool.and_eq_true] at h
      obtain ⟨l1, l2⟩ := g.loc (b := true) (fun _ => rfl) h.1.2
      exact ls_aug (augR_ok h.1.1.1) g.nd (g.N_ h.1.1.2) l1 l2 (ckE_ok m nm _ X true g h.2).1
    · cases h
  | .expr m, st, X, nm, g, hp, h => by
    simp only [ckS] at h
    split at h
    · rw [Bool.and_eq_true] at h
      exact ls_expr (ckE_ok m nm _ X true g h.1).1 h.2
    · cases h
  | .ret m, st, X, nm, g, hp, h => by
    simp only [ckS] at h
    split at h
    · exact ls_ret (ckE_ok m nm _ X true g h).1
    · cases h
  | .retN, st, X, nm, g, hp, h => by
    simp only [ckS] at h
    split at h
    · exact ls_retN
    · cases h
  | .ite c a b, st, X, nm, g, hp, h => by
    simp only [ckS] at h
    split at h
    · simp only [Bool.and_eq_true] at h
      exact ls_ite (ckX_ok c nm _ X true g h.1.1).1 (ckSs_ok a _ X nm g hp h.1.2) (ckSs_ok b _ X nm g hp h.2)
    · cases h
  | .while c b, st, X, nm, g, hp, h => by
    simp only [ckS] at h
    split at h
    · rw [Bool.and_eq_true] at h
      exact ls_while hp (ckX_ok c nm _ X true g h.1).1 (ckSs_ok b _ X nm g hp h.2)
    · cases h
  | .for t it b, st, X, nm, g, hp, h => by
    simp only [ckS] at h
    split at h
    · simp only [Bool.and_eq_true] at h
      obtain ⟨is, h1, _⟩ := tgt_ok g (fun _ => rfl) t _ h.1.1.2
      exact ls_for hp g.calm (ckI_ok it nm _ _ X true g h.1.1.1.1 h.2) h1 (ckSs_ok b _ X nm g hp h.1.2) h.1.1.1.2
    · cases h
  | .gfor t y b, st, X, nm, g, hp, h => by
    simp only [ckS] at h
    split at h
    · simp only [Bool.and_eq_true] at h
      obtain ⟨is, h1, _⟩ := tgt_ok g (fun _ => rfl) t _ h.1.2
      exact ls_gfor g.noxe g.room.hd g.room.depth (ckY_ok g y _ h.1.1.1) h1 (ckSs_ok b _ X nm g hp h.2) h.1.1.2
    · cases h
  | .try_ b, st, X, nm, g, hp, h => by
    simp only [ckS] at h
    split at h
    · exact ls_try g.noxe (ckSs_ok b _ X nm g hp h)
    · cases h
  | .pass, st, X, nm, g, hp, h => by
    simp only [ckS] at h
    split at h
    · exact ls_pass
    · cases h
  | .brk, st, X, nm, g, hp, h => by
    simp only [ckS] at h
    split at h
    · exact ls_brk
    · cases h
  | .cont, st, X, nm, g, hp, h => by
    simp only [ckS] at h
    split at h
    · exact ls_cont
    · cases h
  | .never, st, X, nm, g, hp, h => ls_never
theorem ckSs_ok : ∀ (m : MSs) (sts : List Stmt) (X : Cx) (nm : Nm), GX G T C n N X nm true → PassesOwn (model X.prog X.w) X.A X.env X.xe → ckSs G N m nm sts = true → PSs X sts (sOf T X.K (dSs C G.fl m))
  | .nil, sts, X, nm, g, hp, h => by
    simp only [ckSs, List.isEmpty_iff] at h
    subst h
    exact lss_nil
  | .cons s ss, sts, X, nm, g, hp, h => by
    simp only [ckSs] at h
    split at h
    · rw [Bool.and_eq_true] at h
      exact lss_cons (ckS_ok s _ X nm g hp h.1) (ckSs_ok ss _ X nm g hp h.2)
    · cases h
end

/-! ### a def -/
/-- a def of the text keeps the promise that its code gives -/
theorem def_ok {P : Program} {w : World} {K : PySem.W.Frag} {mg : Str → Option Value} {base : Heap} {x qual : Str} {params : Arguments} {body : List Stmt} {scope : Scope} {dvs : List V} {kws : List (Str × V)} {f : Addr} {fd : FuncData} {ps : List Str} {d : MD} {g : List Z → Mh → Res Z}
    (F : FunD K x qual params body scope dvs kws f fd) (S : FnScope N ps scope) (fx : Facts G T C n P w K mg base) (hps : ps.length = d.ps) (hn : N.length = d.n) (h : ckSs G N d.body scope.names body = true)
    (hg : ∀ zs h, g zs h = guard (zs.length = d.ps) (runD C G.fl d.n d.body zs h)) : FnOk P w K mg base CX0 (n + 2) f fd ps (spOf T K g) := by
  refine F.ok S (fun vs H Q E ⟨as, h, zs, rh, r, fin⟩ => ?_) (fun cdv A outer s H vs Q E hr ⟨as, h0, zs, rh, r, fin⟩ => ?_)
  · rw [hg] at fin
    rw [hps, ← (Fin.guard fin).1, r.length]
  · rw [hg] at fin
    have fin := (Fin.guard fin).2
    have gx : GX G T C n N (cxOf CX0 P w K mg base N qual scope f cdv A outer s H E).nox scope.names true := ⟨fx, rfl, S.nd, hr, rfl, rfl, S.kind, fun _ _ => rfl, fun _ _ q => q⟩
    refine ⟨_, PSs.nox (ckSs_ok d.body body _ scope.names gx PassesOwn.never h), as, h0, _, rh, RE_start N r, ?_⟩
    unfold runD at fin
    rw [← hn] at fin
    refine Fin.mono (Fin.bind fin) fun fl h1 as1 H1 e1 r1 ⟨_, _, f1⟩ => ?_
    cases fl with
    | nx ρ => exact fun σ' _ => FinV.self f1 r1 .non
    | ret z => exact fun v q => FinV.self f1 r1 q
    | brk ρ => exact f1.elim
    | cont ρ => exact f1.elim

/-! ### a generator's text -/
theorem cx_gx {Gn : Gx} (fx : Facts G T C n Gn.prog Gn.w Gn.K Gn.mg Gn.base) (ok : Gn.Ok) (nd : N.Nodup) (hN : Gn.N = N) (hr : Room (n + 1) Gn.A) (s : Shared) (H : Hp) (P : List (Addr × Obj)) : GX G T C n N (Gn.cx s H P) Gn.env.scope.names true :=
  ⟨fx, rfl, by show Gn.N.Nodup; rw [hN]; exact nd, hr, hN, rfl, ok.kind, fun _ _ => rfl, fun _ _ q => q⟩
section
variable {Gn : Gx} {CI : CIt} {Y : Ev → Z → Mh → Res Ev}
theorem tgts_same {b : Bool} {t : MT} {tg : Expr} (h : ckT N b t nm tg = true) (f : ∀ s H P, GX G T C n N (Gn.cx s H P) nm true) : ∃ is, ∀ s H P, PG (Gn.cx s H P) tg (gOf T Gn.K is (tgt t)) := by
  cases t with
  | nm i =>
    simp only [ckT] at h
    split at h
    · simp only [Bool.and_eq_true] at h
      refine ⟨[i], fun s H P => ?_⟩
      obtain ⟨l1, l2⟩ := (f s H P).loc (b := b) (fun _ => rfl) h.2
      exact lg_nm (f s H P).nd ((f s H P).N_ h.1) l1 l2
    · cases h
  | tup is =>
    simp only [ckT] at h
    split at h
    · refine ⟨is, fun s H P => ?_⟩
      obtain ⟨h1, h2, h3⟩ := tgs_ok (f s H P) (b := b) (fun _ => rfl) is _ h
      exact lg_tup (f s H P).calm h1 h2 h3
    · cases h
mutual
theorem ckGS_ok (ok : Gn.Ok) (car : Carries Gn CI) (hco : Gn.env.scope.isCoroutine = false) (f : ∀ s H P, GX G T C n N (Gn.cx s H P) nm true) : ∀ (m : MGS) (st : Stmt), ckGS G N m nm st = true → GSj Gn T CI Y (exec st Gn.env) (dGS C G.fl Y m)
  | .plain s, st, h => by
    simp only [ckGS] at h
    exact gj_plain (T := T) fun s0 H P => ckS_ok s st _ nm (f s0 H P) PassesOwn.never h
  | .yld m, st, h => by
    simp only [ckGS] at h
    split at h
    · refine gj_yield ok car (fun s H P => (ckE_ok m nm _ _ true (f s H P) h).1) hco ?_
      unfold interactive
      rw [ok.kind]
      rfl
    · cases h
  | .ite c a b, st, h => by
    simp only [ckGS] at h
    split at h
    · simp only [Bool.and_eq_true] at h
      exact gj_if (fun s H P => (ckX_ok c nm _ _ true (f s H P) h.1.1).1) (ckGSs_ok ok car hco f a _ h.1.2) (ckGSs_ok ok car hco f b _ h.2)
    · cases h
  | .for t it b, st, h => by
    simp only [ckGS] at h
    split at h
    · simp only [Bool.and_eq_true] at h
      obtain ⟨is, h1⟩ := tgts_same (T := T) (C := C) (n := n) h.1.1.2 f
      exact gj_for ok (fun s H P => ckI_ok it nm _ _ _ true (f s H P) h.1.1.1.1 h.2) h1 (ckGSs_ok ok car hco f b _ h.1.2) (set_no h.1.1.1.2 _)
    · cases h
theorem ckGSs_ok (ok : Gn.Ok) (car : Carries Gn CI) (hco : Gn.env.scope.isCoroutine = false) (f : ∀ s H P, GX G T C n N (Gn.cx s H P) nm true) : ∀ (m : MGSs) (sts : List Stmt), ckGSs G N m nm sts = true → GSj Gn T CI Y (execs sts Gn.env) (dGSs C G.fl Y m)
  | .nil, sts, h => by
    simp only [ckGSs, List.isEmpty_iff] at h
    subst h
    exact gj_nil
  | .cons s ss, sts, h => by
    simp only [ckGSs] at h
    split at h
    · rw [Bool.and_eq_true] at h
      exact gj_cons (ckGS_ok ok car hco f s _ h.1) (ckGSs_ok ok car hco f ss _ h.2)
    · cases h
end
end
/-- a generator def of the text keeps the promise that its code gives -/
theorem gdef_ok {P : Program} {w : World} {K : PySem.W.Frag} {mg : Str → Option Value} {base : Heap} {f : Addr} {fd : FuncData} {ps : List Str} {body : List Stmt} {scope : Scope} {d : MDG} {gen : List Z → GenZ}
    (D : GDef K N ps f fd body scope) (fx : Facts G T C n P w K mg base) (hb : Binds K fd ps []) (hps : ps.length = d.ps) (hn : N.length = d.n) (h : ckGSs G N d.body scope.names body = true)
    (hg : ∀ zs Y τ h, gen zs Y τ h = guard (zs.length = d.ps) (genOf (fun Y => dGSs C G.fl Y d.body) d.n zs Y τ h)) : GFn T P w K mg base (n + 1) f fd d.ps gen := by
  refine ⟨N, ps, body, scope, fun Y => dGSs C G.fl Y d.body, D, fun Gn CI Y e1 e2 e3 e4 e5 e6 e7 hr ok car => ?_, hb, hps, fun zs hl => ?_⟩
  · subst e1 e2 e3 e4 e5
    refine ckGSs_ok (nm := scope.names) (n := n) (N := N) (T := T) (C := C) ok car (by rw [e7]; exact D.sc.co) (fun s H P => ?_) d.body body h
    have := cx_gx (G := G) (C := C) (n := n) (T := T) (N := N) fx ok D.sc.nd e6 hr s H P
    rw [e7] at this
    exact this
  · funext Y τ h
    rw [hg, guard_pos hl, hn]
end Zm
/-! From the head's facts to what every def promises. -/
namespace Zm
open PySem PySem.Spec PyProof.Rows L2

/-- a def of the program -/
structure DD where
  dd : He.DefD
  N : List Str
  ps : List Str
  md : MD
/-- a generator def of the program -/
structure GD where
  dd : He.DefD
  N : List Str
  ps : List Str
  md : MDG
/-- a program by its tables -/
structure Prg where
  defs : List DD
  nums : List (Str × Int)
  frees : List Str
  classes : List Str
  names : List Str
  fields : List (Nat × Nat)
  gens : List GD
  dfls : List (Nat × List Z)
  txts : List (Str × Str)
def sameZ : Z → Z → Bool
  | .non, .non => true
  | .bl a, .bl b => a == b
  | .int a, .int b => a == b
  | .str a, .str b => a == b
  | _, _ => false
def sameZs : List Z → List Z → Bool
  | [], [] => true
  | a :: as, b :: bs => sameZ a b && sameZs as bs
  | _, _ => false
theorem sameZ_ok {a b : Z} (h : sameZ a b = true) : a = b := by
  cases a <;> cases b <;> simp [sameZ] at h <;> simp [h]
theorem sameZs_ok : ∀ {as bs : List Z}, sameZs as bs = true → as = bs
  | [], [], _ => rfl
  | [], _ :: _, h => by simp [sameZs] at h
  | _ :: _, [], h => by simp [sameZs] at h
  | a :: as, b :: bs, h => by
    simp only [sameZs, Bool.and_eq_true] at h
    rw [sameZ_ok h.1, sameZs_ok h.2]
def Prg.clsN (p : Prg) (c : Nat) : Str := p.classes.getD c ""
/-- attribute names; beyond the table a sign of its own each -/
def anOf (names : List Str) (i : Nat) : Str := match names[i]? with
  | some x => x
  | none => ⟨#[i, i]⟩
def okName (x : Str) : Bool := match x.cps.toList with
  | [a, b] => !(a == b)
  | _ => true
theorem anOf_inj {names : List Str} (h1 : names.Nodup) (h2 : names.all okName = true) : ∀ i j, anOf names i = anOf names j → i = j := by
  have key : ∀ (x : Str) (j : Nat), x ∈ names → x ≠ ⟨#[j, j]⟩ := by
    intro x j hx e
    have := List.all_eq_true.mp h2 x hx
    rw [e] at this
    simp [okName] at this
  intro i j e
  unfold anOf at e
  cases hi : names[i]? with
  | some x =>
    cases hj : names[j]? with
    | some y =>
      rw [hi, hj] at e
      have e : x = y := e
      subst e
      obtain ⟨li, ei⟩ := List.getElem?_eq_some_iff.mp hi
      obtain ⟨lj, ej⟩ := List.getElem?_eq_some_iff.mp hj
      exact (List.getElem_inj h1).mp (ei.trans ej.symm)
    | none =>
      rw [hi, hj] at e
      exact absurd e (key x j (List.mem_of_getElem? hi))
  | none =>
    cases hj : names[j]? with
    | some y =>
      rw [hi, hj] at e
      exact absurd e.symm (key y i (List.mem_of_getElem? hj))
    | none =>
      rw [hi, hj] at e
      have e : (⟨#[i, i]⟩ : Str) = ⟨#[j, j]⟩ := e
      injection e with e
      have e := congrArg Array.toList e
      simpa using e
def atFn (a : Str × Option Str) (x : Str) : Bool := match a.2 with
  | none => a.1 == x
  | some _ => false
def atMt (a : Str × Option Str) (c m : Str) : Bool := match a.2 with
  | none => false
  | some n => a.1 == c && n == m
def Prg.isCls (p : Prg) (c : Nat) (x : Str) : Bool := match p.classes[c]? with
  | some y => y == x
  | none => false
def Prg.gt (p : Prg) : GT where
  con := fun x z => match z with
    | .int i => p.nums.any fun q => q.1 == x && decide (q.2 = i)
    | .str y => p.txts.any fun q => q.1 == x && q.2 == y
    | _ => false
  fn := fun f x => match p.defs[f]? with
    | some d => atFn d.dd.at_ x
    | none => false
  cl := fun c f x => p.isCls c x && (match p.defs[f]? with
    | some d => atMt d.dd.at_ x "__init__"
    | none => false)
  cld := fun c f x ds => p.isCls c x && (match p.defs[f]? with
    | some d => atMt d.dd.at_ x "__init__"
    | none => false) && p.dfls.any fun q => q.1 == f && sameZs q.2 ds
  meth := fun c f m => (match p.defs[f]? with
    | some d => p.isCls c d.dd.at_.1 && atMt d.dd.at_ d.dd.at_.1 (anOf p.names m)
    | none => false)
  gfn := fun f x k => match p.gens[f]? with
    | some d => atFn d.dd.at_ x && d.md.ps == k
    | none => false
  gmeth := fun c f m k => (match p.gens[f]? with
    | some d => p.isCls c d.dd.at_.1 && atMt d.dd.at_ d.dd.at_.1 (anOf p.names m) && d.md.ps == k
    | none => false)
  free := fun x => p.frees.any fun y => y == x
  an := anOf p.names
  fl := fun c f => p.fields.any fun q => q.1 == c && q.2 == f
def Prg.code (p : Prg) : Codes := ⟨fun f => (p.defs[f]?).map (·.md), fun f => (p.gens[f]?).map (·.md)⟩
def Prg.fn (p : Prg) : List He.DefD := p.defs.map (·.dd) ++ p.gens.map (·.dd)
def faOf (a : Str × Option Str) : He.Fa := match a.2 with
  | none => .glo a.1
  | some m => .meth a.1 m
def Prg.fa (p : Prg) : List He.Fa := p.nums.map (fun q => .int q.1 q.2) ++ (p.frees.map .free ++ (p.fn.map (fun d => faOf d.at_) ++ (p.classes.map .glo ++ (p.classes.map .cls ++ (p.classes.map .mkr ++ (p.fields.map (fun q => .noat (p.clsN q.1) (anOf p.names q.2)) ++ p.txts.map fun q => .str q.1 q.2))))))
def DD.scopeB (d : DD) : Bool := (match d.dd.scope.kind with
  | .function => true
  | _ => false) && !d.dd.scope.isCoroutine && !d.dd.scope.isGenerator && decide d.N.Nodup && decide (d.N.take d.ps.length = d.ps) && (d.ps.all fun x => match d.dd.scope.names.lookup x with
    | some .local => true
    | some .cell => true
    | _ => false) && d.dd.scope.names.all fun y => match y.2 with
    | .free => false
    | _ => true
theorem DD.scope_ok {d : DD} (h : d.scopeB = true) : FnScope d.N d.ps d.dd.scope := by
  unfold DD.scopeB at h
  simp only [Bool.and_eq_true, Bool.not_eq_true', decide_eq_true_eq, List.all_eq_true] at h
  obtain ⟨⟨⟨⟨⟨⟨h1, h2⟩, h3⟩, h4⟩, h5⟩, h6⟩, h7⟩ := h
  refine ⟨?_, h2, h3, h4, h5, fun x hx => ?_, fun y hy e => ?_⟩
  · split at h1
    · assumption
    · cases h1
  · have := h6 x hx
    split at this
    · exact .inl (by assumption)
    · exact .inr (by assumption)
    · cases this
  · have := h7 y hy
    rw [e] at this
    cases this
def GD.scopeB (d : GD) : Bool := (match d.dd.scope.kind with
  | .function => true
  | _ => false) && !d.dd.scope.isCoroutine && d.dd.scope.isGenerator && decide d.N.Nodup && decide (d.N.take d.ps.length = d.ps) && (d.ps.all fun x => match d.dd.scope.names.lookup x with
    | some .local => true
    | _ => false) && d.dd.scope.names.all fun y => match y.2 with
    | .free => false
    | .cell => false
    | _ => true
theorem GD.scope_ok {d : GD} (h : d.scopeB = true) : GScope d.N d.ps d.dd.scope ∧ (∀ y ∈ d.dd.scope.names, y.2 ≠ .cell ∧ y.2 ≠ .free) ∧ ∀ x ∈ d.ps, d.dd.scope.names.lookup x = some .local := by
  unfold GD.scopeB at h
  simp only [Bool.and_eq_true, Bool.not_eq_true', decide_eq_true_eq, List.all_eq_true] at h
  obtain ⟨⟨⟨⟨⟨⟨h1, h2⟩, h3⟩, h4⟩, h5⟩, h6⟩, h7⟩ := h
  have pl : ∀ x ∈ d.ps, d.dd.scope.names.lookup x = some .local := fun x hx => by
    have := h6 x hx
    split at this
    · assumption
    · cases this
  have fl : ∀ y ∈ d.dd.scope.names, y.2 ≠ .cell ∧ y.2 ≠ .free := fun y hy => by
    have := h7 y hy
    refine ⟨fun e => ?_, fun e => ?_⟩ <;> (rw [e] at this; cases this)
  refine ⟨⟨?_, h2, h3, h4, h5, fun x hx => .inl (pl x hx), fun y hy => (fl y hy).2⟩, fl, pl⟩
  split at h1
  · assumption
  · cases h1
def GD.ok (G : GT) (d : GD) : Bool := d.scopeB && d.ps.length == d.md.ps && d.N.length == d.md.n && ckGSs G d.N d.md.body d.dd.scope.names d.dd.body
def DD.ok (G : GT) (d : DD) : Bool := d.scopeB && d.ps.length == d.md.ps && d.N.length == d.md.n && ckSs G d.N d.md.body d.dd.scope.names d.dd.body
def BindOk (d : DD) : Prop := ∀ (K : PySem.W.Frag) (f : Addr) (fd : FuncData), FunD K d.dd.name d.dd.qual d.dd.params d.dd.body d.dd.scope (d.dd.dvs K) (d.dd.kws K) f fd → Binds K fd d.ps []
def BindOkG (d : GD) : Prop := ∀ (K : PySem.W.Frag) (f : Addr) (fd : FuncData), FunD K d.dd.name d.dd.qual d.dd.params d.dd.body d.dd.scope (d.dd.dvs K) (d.dd.kws K) f fd → Binds K fd d.ps []
/-- .. and the last values may be left out -/
def BindOkD (d : DD) (ds : List Z) : Prop := ∀ (K : PySem.W.Frag) (f : Addr) (fd : FuncData), FunD K d.dd.name d.dd.qual d.dd.params d.dd.body d.dd.scope (d.dd.dvs K) (d.dd.kws K) f fd → ∃ dvs dus, Vals dvs dus ∧ Binds K fd d.ps dus ∧ ∀ as H, RZs K as H ds dvs
structure Prg.Ok (p : Prg) : Prop where
  defs : p.defs.all (DD.ok p.gt) = true
  names : p.names.Nodup
  namesOk : p.names.all okName = true
  binds : ∀ d ∈ p.defs, BindOk d
  gens : p.gens.all (GD.ok p.gt) = true
  bindsG : ∀ d ∈ p.gens, BindOkG d
  bindsD : ∀ q ∈ p.dfls, ∀ d, p.defs[q.1]? = some d → BindOkD d q.2
section
variable {p : Prg} {P : Program} {w : World} {K : PySem.W.Frag} {mg : Str → Option Value} {base h : Heap}
noncomputable def Prg.tb (p : Prg) (ok : p.Ok) (K : PySem.W.Frag) : Tb := ⟨fun c => He.ga K (p.clsN c), anOf p.names, anOf_inj ok.names ok.namesOk⟩
theorem says_mem {fa : List He.Fa} {fn : List He.DefD} (c : He.SaysD fa fn K) {f : He.Fa} (h : f ∈ fa) : f.ok K = true := by
  obtain ⟨i, hi⟩ := List.getElem?_of_mem h
  exact c.fact i hi
theorem stuck_ok {k : Nat} {a : Addr} {fd : FuncData} {ps : List Str} {T : Tb} : FnOk P w K mg base CX0 k a fd ps (spOf T K fun _ _ => .stuck) :=
  ⟨fun _ _ _ _ ⟨_, _, _, _, _, f⟩ => f.elim, fun _ _ _ _ _ _ _ _ _ _ _ _ _ ⟨_, _, _, _, _, f⟩ => f.elim⟩
theorem gstuck_ok {N ps : List Str} {j : Nat} {f : Addr} {fd : FuncData} {body : List Stmt} {scope : Scope} {T : Tb} {k : Nat} (D : GDef K N ps f fd body scope) (hb : Binds K fd ps []) (hn : ps.length = k) : GFn T P w K mg base j f fd k fun _ _ _ _ => .stuck :=
  ⟨N, ps, body, scope, fun _ _ _ _ _ => .stuck, D, fun _ _ _ _ _ _ _ _ _ _ _ _ _ => (fun _ _ _ _ _ _ _ _ _ _ _ _ _ _ _ _ _ _ _ _ _ _ _ _ hd _ => nomatch hd), hb, hn, fun _ _ => rfl⟩
theorem facts_all (ok : p.Ok) (c : He.SaysD p.fa p.fn K) (KX : K.In h) (Gh : h.Ns mainGlobals mg) : ∀ k : Nat, Facts p.gt (p.tb ok K) (callK p.gt.fl p.code k) (2 * k + 1) P w K mg base := by
  have mInt : ∀ q ∈ p.nums, (He.Fa.int q.1 q.2).ok K = true := fun q hq => says_mem c (List.mem_append_left _ (List.mem_map_of_mem hq))
  have mFree : ∀ q ∈ p.frees, (He.Fa.free q).ok K = true := fun q hq => says_mem c (List.mem_append_right _ (List.mem_append_left _ (List.mem_map_of_mem hq)))
  have mFn : ∀ d ∈ p.fn, (faOf d.at_).ok K = true := fun d hd => says_mem c (List.mem_append_right _ (List.mem_append_right _ (List.mem_append_left _ (List.mem_map.mpr ⟨d, hd, rfl⟩))))
  have mGlo : ∀ x ∈ p.classes, (He.Fa.glo x).ok K = true := fun q hq => says_mem c (List.mem_append_right _ (List.mem_append_right _ (List.mem_append_right _ (List.mem_append_left _ (List.mem_map_of_mem hq)))))
  have mCls : ∀ x ∈ p.classes, (He.Fa.cls x).ok K = true := fun q hq => says_mem c (List.mem_append_right _ (List.mem_append_right _ (List.mem_append_right _ (List.mem_append_right _ (List.mem_append_left _ (List.mem_map_of_mem hq))))))
  have mMk : ∀ x ∈ p.classes, (He.Fa.mkr x).ok K = true := fun q hq => says_mem c (List.mem_append_right _ (List.mem_append_right _ (List.mem_append_right _ (List.mem_append_right _ (List.mem_append_right _ (List.mem_append_left _ (List.mem_map_of_mem hq)))))))
  have mNo : ∀ q ∈ p.fields, (He.Fa.noat (p.clsN q.1) (anOf p.names q.2)).ok K = true := fun q hq => says_mem c (List.mem_append_right _ (List.mem_append_right _ (List.mem_append_right _ (List.mem_append_right _ (List.mem_append_right _ (List.mem_append_right _
    (List.mem_append_left _ (List.mem_map.mpr ⟨q, hq, rfl⟩))))))))
  have mStr : ∀ q ∈ p.txts, (He.Fa.str q.1 q.2).ok K = true := fun q hq => says_mem c (List.mem_append_right _ (List.mem_append_right _ (List.mem_append_right _ (List.mem_append_right _ (List.mem_append_right _ (List.mem_append_right _
    (List.mem_append_right _ (List.mem_map.mpr ⟨q, hq, rfl⟩))))))))
  have inD : ∀ {f : Nat} {d : DD}, p.defs[f]? = some d → d.dd ∈ p.fn := fun {f d} e => List.mem_append_left _ (List.mem_map_of_mem (List.mem_of_getElem? e))
  have inG : ∀ {f : Nat} {d : GD}, p.gens[f]? = some d → d.dd ∈ p.fn := fun {f d} e => List.mem_append_right _ (List.mem_map_of_mem (List.mem_of_getElem? e))
  have fun_ : ∀ d ∈ p.fn, ∃ fd, FunD K d.name d.qual d.params d.body d.scope (d.dvs K) (d.kws K) (He.fAd K d.at_) fd := fun d hd => by
    obtain ⟨i, hi⟩ := List.getElem?_of_mem hd
    exact c.def_ i hi
  have isC : ∀ {cc : Nat} {x : Str}, p.isCls cc x = true → x ∈ p.classes ∧ (p.tb ok K).cls cc = He.ga K x := fun {cc x} e => by
    unfold Prg.isCls at e
    split at e
    · rename_i y hy
      have e := eq_of_beq e
      subst e
      refine ⟨List.mem_of_getElem? hy, ?_⟩
      show He.ga K (p.clsN cc) = _
      unfold Prg.clsN
      rw [List.getD_eq_getElem?_getD, hy]
      rfl
    · cases e
  have aFn : ∀ {d : He.DefD} {x : Str}, d ∈ p.fn → atFn d.at_ x = true → He.fAd K d.at_ = He.ga K x ∧ mg x = some (.ref (He.ga K x)) := fun {d x} hd e => by
    have hm := mFn d hd
    unfold atFn at e
    unfold He.fAd
    unfold faOf at hm
    cases q : d.at_.2 with
    | some m => rw [q] at e; cases e
    | none =>
      rw [q] at e hm
      have e := eq_of_beq e
      rw [← e]
      exact ⟨rfl, He.glo_ok KX Gh hm⟩
  have aMt : ∀ {d : He.DefD} {x m : Str}, d ∈ p.fn → atMt d.at_ x m = true → He.fAd K d.at_ = He.ma K (He.ga K x) m ∧ Meth K (He.ga K x) m (He.ma K (He.ga K x) m) := fun {d x m} hd e => by
    have hm := mFn d hd
    unfold atMt at e
    unfold He.fAd
    unfold faOf at hm
    cases q : d.at_.2 with
    | none => rw [q] at e; cases e
    | some n =>
      rw [q] at e hm
      simp only [Bool.and_eq_true] at e
      have e1 := eq_of_beq e.1
      have e2 := eq_of_beq e.2
      subst e2
      rw [← e1]
      exact ⟨rfl, He.meth_ok hm⟩
  have key : ∀ C n, (∀ (f : Nat) d, p.defs[f]? = some d → ∃ fd, FunD K d.dd.name d.dd.qual d.dd.params d.dd.body d.dd.scope (d.dd.dvs K) (d.dd.kws K) (He.fAd K d.dd.at_) fd ∧ FnOk P w K mg base CX0 n (He.fAd K d.dd.at_) fd d.ps (spOf (p.tb ok K) K (C.fn f))) →
      (∀ (f : Nat) d, p.gens[f]? = some d → ∃ fd j, j + 1 ≤ n ∧ PySem.W.keepIn K (.ref (He.fAd K d.dd.at_)) = true ∧ GFn (p.tb ok K) P w K mg base j (He.fAd K d.dd.at_) fd d.md.ps (C.gen f)) →
      Facts p.gt (p.tb ok K) C n P w K mg base := by
    intro C n hF hG
    refine ⟨fun x z e => ?_, fun f x e => ?_, fun cc f x e => ?_, fun cc f x ds e => ?_, fun cc f m e => ?_, fun f x k e => ?_, fun cc f m k e => ?_, fun x e => ?_, fun cc f e => ?_, rfl⟩
    · simp only [Prg.gt] at e
      split at e
      · rename_i i
        obtain ⟨q, hq, e⟩ := List.any_eq_true.mp e
        simp only [Bool.and_eq_true, decide_eq_true_eq] at e
        obtain ⟨e1, e2⟩ := e
        obtain ⟨t, ht⟩ := He.int_ok KX Gh (mInt q hq)
        refine ⟨.int i t, .int i, ?_, ⟨t, rfl⟩, fun as H => .int i⟩
        rw [← eq_of_beq e1, ht, e2]
      · rename_i y
        obtain ⟨q, hq, e⟩ := List.any_eq_true.mp e
        simp only [Bool.and_eq_true] at e
        obtain ⟨e1, e2⟩ := e
        obtain ⟨t, ht⟩ := He.str_ok KX Gh (mStr q hq)
        refine ⟨.str y t, .str y, ?_, ⟨t, rfl⟩, fun as H => .str y⟩
        rw [← eq_of_beq e1, ht, eq_of_beq e2]
      · cases e
    · simp only [Prg.gt] at e
      split at e
      · rename_i d hd
        obtain ⟨fd, F, ok1⟩ := hF f d hd
        obtain ⟨a1, a2⟩ := aFn (inD hd) e
        rw [a1] at F ok1
        exact ⟨He.ga K x, fd, d.ps, a2, F.kp, ok.binds d (List.mem_of_getElem? hd) _ _ _ F, ok1⟩
      · cases e
    · simp only [Prg.gt, Bool.and_eq_true] at e
      obtain ⟨e1, e2⟩ := e
      obtain ⟨hm1, et⟩ := isC e1
      split at e2
      · rename_i d hd
        obtain ⟨fd, F, ok1⟩ := hF f d hd
        obtain ⟨a1, a2⟩ := aMt (inD hd) e2
        rw [a1] at F ok1
        refine ⟨_, fd, d.ps, ?_, ?_, ?_, ok.binds d (List.mem_of_getElem? hd) _ _ _ F, ok1⟩
        · rw [et]; exact He.mkr_ok (mMk x hm1)
        · rw [et]; exact He.cls_ok (mCls x hm1)
        · rw [et]; exact He.glo_ok KX Gh (mGlo x hm1)
      · cases e2
    · simp only [Prg.gt, Bool.and_eq_true] at e
      obtain ⟨⟨e1, e2⟩, e3⟩ := e
      obtain ⟨hm1, et⟩ := isC e1
      split at e2
      · rename_i d hd
        obtain ⟨fd, F, ok1⟩ := hF f d hd
        obtain ⟨a1, a2⟩ := aMt (inD hd) e2
        rw [a1] at F ok1
        obtain ⟨q, hq, e3⟩ := List.any_eq_true.mp e3
        simp only [Bool.and_eq_true, beq_iff_eq] at e3
        obtain ⟨dvs, dus, g1, g2, g3⟩ := ok.bindsD q hq d (by rw [e3.1]; exact hd) _ _ _ F
        rw [sameZs_ok e3.2] at g3
        refine ⟨_, fd, d.ps, dvs, dus, ?_, ?_, ?_, g2, g1, g3, ok1⟩
        · rw [et]; exact He.mkr_ok (mMk x hm1)
        · rw [et]; exact He.cls_ok (mCls x hm1)
        · rw [et]; exact He.glo_ok KX Gh (mGlo x hm1)
      · cases e2
    · simp only [Prg.gt] at e
      split at e
      · rename_i d hd
        rw [Bool.and_eq_true] at e
        obtain ⟨hm1, et⟩ := isC e.1
        obtain ⟨fd, F, ok1⟩ := hF f d hd
        obtain ⟨a1, a2⟩ := aMt (inD hd) e.2
        rw [a1] at F ok1
        refine ⟨_, fd, d.ps, ?_, ?_, ok.binds d (List.mem_of_getElem? hd) _ _ _ F, ok1⟩
        · rw [et]; exact He.cls_ok (mCls _ hm1)
        · rw [et]; exact a2
      · cases e
    · simp only [Prg.gt] at e
      split at e
      · rename_i d hd
        rw [Bool.and_eq_true, beq_iff_eq] at e
        obtain ⟨fd, j, hj, kp, g⟩ := hG f d hd
        obtain ⟨a1, a2⟩ := aFn (inG hd) e.1
        rw [a1] at kp g
        rw [e.2] at g
        exact ⟨_, fd, j, hj, a2, kp, g⟩
      · cases e
    · simp only [Prg.gt] at e
      split at e
      · rename_i d hd
        simp only [Bool.and_eq_true, beq_iff_eq] at e
        obtain ⟨hm1, et⟩ := isC e.1.1
        obtain ⟨fd, j, hj, kp, g⟩ := hG f d hd
        obtain ⟨a1, a2⟩ := aMt (inG hd) e.1.2
        rw [a1] at kp g
        rw [e.2] at g
        refine ⟨_, fd, j, hj, ?_, ?_, g⟩
        · rw [et]; exact He.cls_ok (mCls _ hm1)
        · rw [et]; exact a2
      · cases e
    · simp only [Prg.gt] at e
      obtain ⟨q, hq, e⟩ := List.any_eq_true.mp e
      rw [← eq_of_beq e]
      exact He.free_ok KX Gh (mFree q hq)
    · simp only [Prg.gt] at e
      obtain ⟨q, hq, e⟩ := List.any_eq_true.mp e
      simp only [Bool.and_eq_true] at e
      have e1 := eq_of_beq e.1
      have e2 := eq_of_beq e.2
      subst e1 e2
      exact He.noat_ok (mNo q hq)
  have gdef : ∀ (f : Nat) d, p.gens[f]? = some d → ∃ fd, GDef K d.N d.ps (He.fAd K d.dd.at_) fd d.dd.body d.dd.scope ∧ Binds K fd d.ps [] ∧ PySem.W.keepIn K (.ref (He.fAd K d.dd.at_)) = true := fun f d hd => by
    have hok := List.all_eq_true.mp ok.gens d (List.mem_of_getElem? hd)
    unfold GD.ok at hok
    simp only [Bool.and_eq_true, beq_iff_eq] at hok
    obtain ⟨s1, s2, s3⟩ := GD.scope_ok hok.1.1.1
    obtain ⟨fd, F⟩ := fun_ d.dd (inG hd)
    obtain ⟨oc, od, dV, kV, doc, pm, an, cdv, ct, osl, e, lk, hcd, _, _⟩ := F.ex
    exact ⟨fd, ⟨⟨_, _, _, oc, od, dV, kV, doc, pm, an, cdv, ct, osl, e, lk, hcd⟩, s1, s2, s3⟩, ok.bindsG d (List.mem_of_getElem? hd) _ _ _ F, F.kp⟩
  intro k
  induction k with
  | zero =>
    refine key _ _ (fun f d hd => ?_) fun f d hd => ?_
    · obtain ⟨fd, F⟩ := fun_ d.dd (inD hd)
      exact ⟨fd, F, stuck_ok⟩
    · obtain ⟨fd, D, hb, kp⟩ := gdef f d hd
      have hok := List.all_eq_true.mp ok.gens d (List.mem_of_getElem? hd)
      unfold GD.ok at hok
      simp only [Bool.and_eq_true, beq_iff_eq] at hok
      exact ⟨fd, 0, by omega, kp, gstuck_ok D hb hok.1.1.2⟩
  | succ k ih =>
    refine key _ _ (fun f d hd => ?_) fun f d hd => ?_
    · obtain ⟨fd, F⟩ := fun_ d.dd (inD hd)
      have hok := List.all_eq_true.mp ok.defs d (List.mem_of_getElem? hd)
      unfold DD.ok at hok
      simp only [Bool.and_eq_true, beq_iff_eq] at hok
      obtain ⟨⟨⟨h1, h2⟩, h3⟩, h4⟩ := hok
      refine ⟨fd, F, def_ok (d := d.md) (C := callK p.gt.fl p.code k) F (DD.scope_ok h1) ih h2 h3 h4 fun zs h => ?_⟩
      have e : p.code.fn f = some d.md := by
        show (p.defs[f]?).map _ = _
        rw [hd]
        rfl
      show (match p.code.fn f with
        | some d => guard (zs.length = d.ps) (runD (callK p.gt.fl p.code k) p.gt.fl d.n d.body zs h)
        | none => .stuck) = _
      rw [e]
    · obtain ⟨fd, D, hb, kp⟩ := gdef f d hd
      have hok := List.all_eq_true.mp ok.gens d (List.mem_of_getElem? hd)
      unfold GD.ok at hok
      simp only [Bool.and_eq_true, beq_iff_eq] at hok
      refine ⟨fd, 2 * k + 1 + 1, by omega, kp, gdef_ok (d := d.md) D ih hb hok.1.1.2 hok.1.2 hok.2 fun zs Y τ h => ?_⟩
      have e : p.code.gen f = some d.md := by
        show (p.gens[f]?).map _ = _
        rw [hd]
        rfl
      show (match p.code.gen f with
        | some d => guard (zs.length = d.ps) (genOf (fun Y => dGSs (callK p.gt.fl p.code k) p.gt.fl Y d.body) d.n zs Y τ h)
        | none => .stuck) = _
      rw [e]
theorem glo_mem {f : Nat} {d : DD} {x : Str} (hd : p.defs[f]? = some d) (ha : d.dd.at_ = (x, none)) : He.Fa.glo x ∈ p.fa :=
  List.mem_append_right _ (List.mem_append_right _ (List.mem_append_left _ (List.mem_map.mpr ⟨d.dd, List.mem_append_left _ (List.mem_map_of_mem (List.mem_of_getElem? hd)), by unfold faOf; rw [ha]⟩)))
theorem all_ok (ok : p.Ok) (c : He.SaysD p.fa p.fn K) (KX : K.In h) (Gh : h.Ns mainGlobals mg) (k f : Nat) {d : DD} {fd : FuncData} (hd : p.defs[f]? = some d) (F : FunD K d.dd.name d.dd.qual d.dd.params d.dd.body d.dd.scope (d.dd.dvs K) (d.dd.kws K) (He.fAd K d.dd.at_) fd) :
    FnOk P w K mg base CX0 (2 * k + 1) (He.fAd K d.dd.at_) fd d.ps (spOf (p.tb ok K) K (callK p.gt.fl p.code k f)) := by
  cases k with
  | zero => exact stuck_ok
  | succ k =>
    have hok := List.all_eq_true.mp ok.defs d (List.mem_of_getElem? hd)
    unfold DD.ok at hok
    simp only [Bool.and_eq_true, beq_iff_eq] at hok
    obtain ⟨⟨⟨h1, h2⟩, h3⟩, h4⟩ := hok
    refine def_ok (d := d.md) (C := callK p.gt.fl p.code k) F (DD.scope_ok h1) (facts_all ok c KX Gh k) h2 h3 h4 fun zs h => ?_
    have e : p.code.fn f = some d.md := by
      show (p.defs[f]?).map _ = _
      rw [hd]
      rfl
    show (match p.code.fn f with
      | some d => guard (zs.length = d.ps) (runD (callK p.gt.fl p.code k) p.gt.fl d.n d.body zs h)
      | none => .stuck) = _
    rw [e]
/-- the law: if its code, called with any script, gives True -/
def LawSays (p : Prg) (fl : Nat) (k n : Nat) : Prop := ∀ ns : List Int, ns.length ≤ n → ∃ h', callK p.gt.fl p.code k fl [.ob 0] [.fro (ns.map Z.int)] = .ok (.bl true) h'
theorem law_sp {ok : p.Ok} {f k n : Nat} (L : LawSays p f k n) (H : Hp) (a : Addr) (ns : List Int) (hl : ns.length ≤ n) (hO : Only H) (hS : SqL K H a (ns.map V.int)) :
    spOf (p.tb ok K) K (callK p.gt.fl p.code k f) [.ref a] H (fun v _ => v = .bl true) fun _ _ _ => False := by
  obtain ⟨h', e⟩ := L ns hl
  refine ⟨[a], [.fro (ns.map Z.int)], [.ob 0], ⟨rfl, fun i j q e1 e2 => ?_, fun i q o e1 e2 => ?_⟩, .cons (.ob rfl) .nil, ?_⟩
  · refine .inl ?_
    have h1 := (List.getElem?_eq_some_iff.mp e1).1
    have h2 := (List.getElem?_eq_some_iff.mp e2).1
    simp at h1 h2
    omega
  · have h1 := (List.getElem?_eq_some_iff.mp e1).1
    simp at h1
    subst h1
    simp at e1 e2
    subst e1 e2
    refine ⟨ns.map V.int, ?_, RZs.ints ns⟩
    rcases hS with (hS | ⟨o, hS⟩) | hS
    · rcases hO a with z | ⟨o, xs, z⟩
      · rw [hS] at z; cases z
      · rw [hS] at z; cases z
    · exact .inl ⟨o, hS⟩
    · exact .inr hS
  · rw [e]
    exact fun as' H' _ _ v q => q.bl_inv
end
end Zm
/-! What is looked at behind the head: all objects by their numbers; the run's equation part by part. -/
namespace Zm
open PySem PySem.Spec PyProof.Rows L2
def obsR (n : Nat) (fa : List He.Fa) (fn : List He.DefD) (g : Addr → Option Obj) : He.AlD := He.obsD fa fn (He.frG g (List.range n))
def hookR (n : Nat) (fa : List He.Fa) (fn : List He.DefD) : PySem.W.Hook where
  α := He.AlD
  obs := fun s => obsR n fa fn s.heap.get?
  val := fun _ => He.valD fn
  says := fun _ h => ∃ K : PySem.W.Frag, K.In h ∧ He.SaysD fa fn K
  of := fun _ _ q => ⟨He.frG _ (List.range n), He.frG_in, q⟩
  keeps := fun _ _ _ ⟨K, i, c⟩ k => ⟨K, PySem.W.Frag.In.keeps i k, c⟩
theorem obsR_eq {n : Nat} {fa : List He.Fa} {fn : List He.DefD} {g : Addr → Option Obj} {s : Shared} (h : ∀ a, g a = s.heap.get? a) : obsR n fa fn g = (hookR n fa fn).obs s := by
  obtain rfl : g = s.heap.get? := funext h
  rfl
theorem map_two {α β γ : Type} {x : Option α} {f : α → β} {g : α → γ} {b : β} {c : γ} (h1 : x.map f = some b) (h2 : x.map g = some c) : x.map (fun s => (f s, g s)) = some (b, c) := by
  cases x with
  | none => cases h1
  | some s =>
    cases h1
    cases h2
    rfl
theorem map_and {α : Type} {x : Option α} {f g : α → Bool} (h1 : x.map f = some true) (h2 : x.map g = some true) : x.map (fun s => f s && g s) = some true := by
  cases x with
  | none => cases h1
  | some s =>
    have h1 := Option.some.inj h1
    have h2 := Option.some.inj h2
    simp [h1, h2]
/-- the state behind the head -/
noncomputable def finR (r : PySem.W.OpenRow) (M : Nat) (w : World) (os : OsState) : Option PySem.W.SharedT := HandSHeadRun.endF (HandSHeadRun.stepQ (HandSHeadRun.denQ HandSHeadRun.tabQ) r.prog w) M r.prog w os
abbrev frgR (n : Nat) (s : PySem.W.SharedT) : PySem.W.Frag := He.frG (HandSHeadRun.getT s) (List.range n)
abbrev obR (n : Nat) (fa : List He.Fa) (fn : List He.DefD) (s : PySem.W.SharedT) : He.AlD := obsR n fa fn (HandSHeadRun.getT s)
section
variable {r : PySem.W.OpenRow} {q : Program} {n M : Nat} {fa : List He.Fa} {fn : List He.DefD} {loose : List PySem.Str} {w : World}
theorem obR_eq (s : PySem.W.SharedT) : obR n fa fn s = (hookR n fa fn).obs s.abs := obsR_eq (HandSHeadRun.getT_eq s)
theorem run_parts (h1 : ∀ os, (finR r M w os).map (fun s => HandSHeadRun.looksF r.prog (PySem.W.boot_heap w.params) s.abs) = some true)
    (h2 : ∀ os, (finR r M w os).map (fun s => HandSHeadRun.seenQ q loose (PySem.importedModules r.prog.main.body) (fun s => PySem.W.xlAt q [] s && PySem.W.recOk r.toRowW.records s) s.abs) = some (PySem.W.openGood q loose))
    (h3 : ∀ os, (finR r M w os).map (fun s => fa.all fun f => f.ok (frgR n s)) = some true) (h4 : ∀ os, (finR r M w os).map (fun s => fn.all fun d => d.ok (frgR n s)) = some true)
    (h5 : ∀ os, (finR r M w os).map (fun s => fn.map fun d => He.fnW (frgR n s) d.at_) = some (fn.map He.DefD.val)) : HandSHeadRun.RunEq r q (hookR n fa fn) (obR n fa fn) M loose w :=
  fun os => map_two (h1 os) (map_two (h2 os) (map_two (map_and (h3 os) (h4 os)) (h5 os)))
end
end Zm
/-! Running the code: a small calculus of ends. -/
namespace Zm
open PySem PySem.Spec PyProof.Rows L2

def Ok {α : Type} (r : Res α) (Q : α → Mh → Prop) : Prop := match r with
  | .ok x h => Q x h
  | .stuck => False
section
variable {α β : Type} {Q Q' : α → Mh → Prop} {r : Res α}
theorem Ok_ok {x : α} {h : Mh} : Ok (.ok x h) Q = Q x h := rfl
theorem Ok_bind {Q : β → Mh → Prop} {f : α → Mh → Res β} : Ok (r.bind f) Q = Ok r (fun x h => Ok (f x h) Q) := by
  cases r <;> rfl
theorem Ok_guard {p : Prop} : Ok (guard p r) Q = (p ∧ Ok r Q) := by
  unfold guard
  split
  · rename_i hp
    exact propext ⟨fun q => ⟨hp, q⟩, fun q => q.2⟩
  · rename_i hp
    exact propext ⟨fun q => q.elim, fun q => absurd q.1 hp⟩
theorem Ok_ite {c : Bool} {a b : Res α} : Ok (if c = true then a else b) Q = if c = true then Ok a Q else Ok b Q := by
  cases c <;> rfl
theorem Ok.mono (h : Ok r Q) (k : ∀ x h, Q x h → Q' x h) : Ok r Q' := by
  cases r with
  | ok x h' => exact k x h' h
  | stuck => exact h
theorem Ok.ex (h : Ok r Q) : ∃ x h', r = .ok x h' ∧ Q x h' := by
  cases r with
  | ok x h' => exact ⟨x, h', rfl, h⟩
  | stuck => exact h.elim
theorem Ok.of_eq {x : α} {h : Mh} (e : r = .ok x h) (q : Q x h) : Ok r Q := by rw [e]; exact q
end


/-! ### what each piece of code does, one row each -/
section
variable {C : Cl} {fl : Nat → Nat → Bool} {ρ : Ev} {h : Mh}
set_option autoImplicit true
theorem r_dE_var : dE C (.var i : ME) ρ h = match ρ[i]? with
    | some (some z) => .ok z h
    | _ => .stuck := by
  first | rfl | rw [dE]
theorem r_dE_lit : dE C (.lit z : ME) ρ h = .ok z h := by
  first | rfl | rw [dE]
theorem r_dE_glb : dE C (.glb _u z : ME) ρ h = .ok z h := by
  first | rfl | rw [dE]
theorem r_dE_bin : dE C (.bin o a b : ME) ρ h = (dE C a ρ h).bind fun x h => (dE C b ρ h).bind fun y h => zBin o x y h := by
  first | rfl | rw [dE]
theorem r_dE_neg : dE C (.neg a : ME) ρ h = (dE C a ρ h).bind fun x h => zNeg x h := by
  first | rfl | rw [dE]
theorem r_dE_cmp : dE C (.cmp o a b : ME) ρ h = (dE C a ρ h).bind fun x h => (dE C b ρ h).bind fun y h => zCmp o x y h := by
  first | rfl | rw [dE]
theorem r_dE_cmp2 : dE C (.cmp2 o p a b c : ME) ρ h = (dE C a ρ h).bind fun x h => (dE C b ρ h).bind fun y h => (zCmp o x y h).bind fun k h => match k with
    | .bl true => (dE C c ρ h).bind fun z h => zCmp p y z h
    | .bl false => .ok (.bl false) h
    | _ => .stuck := by
  first | rfl | rw [dE]
theorem r_dE_and : dE C (.and a b : ME) ρ h = (dE C a ρ h).bind fun x h => (zTru x h).bind fun t h => if t then dE C b ρ h else .ok x h := by
  first | rfl | rw [dE]
theorem r_dE_or : dE C (.or a b : ME) ρ h = (dE C a ρ h).bind fun x h => (zTru x h).bind fun t h => if t then .ok x h else dE C b ρ h := by
  first | rfl | rw [dE]
theorem r_dE_not : dE C (.not a : ME) ρ h = (dE C a ρ h).bind fun x h => (zTru x h).bind fun t h => .ok (.bl (!t)) h := by
  first | rfl | rw [dE]
theorem r_dE_ite : dE C (.ite c a b : ME) ρ h = (dX C c ρ h).bind fun t h => if t then dE C a ρ h else dE C b ρ h := by
  first | rfl | rw [dE]
theorem r_dE_tup : dE C (.tup es : ME) ρ h = (dEs C es ρ h).bind fun xs h => guard (xs.length ≤ sizeLine) (.ok (.tup xs) h) := by
  first | rfl | rw [dE]
theorem r_dE_lst : dE C (.lst es : ME) ρ h = (dEs C es ρ h).bind fun xs h => guard (xs.length ≤ sizeLine) (newL h xs) := by
  first | rfl | rw [dE]
theorem r_dE_dct0 : dE C (.dct0 : ME) ρ h = .ok (.ob h.length) (h ++ [.dct []]) := by
  first | rfl | rw [dE]
theorem r_dE_idx : dE C (.idx a b : ME) ρ h = (dE C a ρ h).bind fun x h => (dE C b ρ h).bind fun y h => zIdx x y h := by
  first | rfl | rw [dE]
theorem r_dE_slc (a : ME) (lo hi : MP) : dE C (.slc a lo hi : ME) ρ h = (dE C a ρ h).bind fun x h => (dP C lo ρ h).bind fun l h => (dP C hi ρ h).bind fun u h => zSlc x l u h := by
  first | rfl | rw [dE]
theorem r_dE_fld : dE C (.fld e f : ME) ρ h = (dE C e ρ h).bind fun x h => zFld x f h := by
  first | rfl | rw [dE]
theorem r_dE_call : dE C (.call f es : ME) ρ h = (dEs C es ρ h).bind fun xs h => C f xs h := by
  first | rfl | rw [dE]
theorem r_dE_mk : dE C (.mk c f es : ME) ρ h = (dEs C es ρ h).bind fun xs h => (C f (.ob h.length :: xs) (h ++ [.ins c []])).bind fun y h' => match y with
    | .non => .ok (.ob h.length) h'
    | _ => .stuck := by
  first | rfl | rw [dE]
theorem r_dE_mkd : dE C (.mkd c f es ds : ME) ρ h = (dEs C es ρ h).bind fun xs h => (C f (.ob h.length :: (xs ++ ds)) (h ++ [.ins c []])).bind fun y h' => match y with
    | .non => .ok (.ob h.length) h'
    | _ => .stuck := by
  first | rfl | rw [dE]
theorem r_dE_dcomp : dE C (.dcomp vs t it c k e : ME) ρ h = (dI C it ρ h).bind fun w h => dcompL h.length w.still (tgt t) (dC C c) (dE C k) (dE C e) (wipeZ ρ vs) w.items (h ++ [.dct []]) := by
  first | rfl | rw [dE]
theorem r_dE_maxd : dE C (.maxd e d : ME) ρ h = (dE C e ρ h).bind fun x h => (dE C d ρ h).bind fun y h => zMaxD x y h := by
  first | rfl | rw [dE]
theorem r_dI_enum : dI C (.enum e : MI) ρ h = (dE C e ρ h).bind fun x h => wkEnum x h := by
  first | rfl | rw [dI]
theorem r_dG_flds : dG C fl (.flds os_ : MG) (.tup zs) ρ h = dFlds C fl os_ zs ρ h := by
  first | rfl | rw [dG]
theorem r_dFlds_nil : dFlds C fl [] [] ρ h = .ok ρ h := by
  first | rfl | rw [dFlds]
theorem r_dFlds_cons : dFlds C fl (q :: os_) (z :: zs) ρ h = (dE C q.1 ρ h).bind fun x h => (zSetF fl x q.2 z h).bind fun _ h => dFlds C fl os_ zs ρ h := by
  first | rfl | rw [dFlds]
theorem r_dS_gfor : dS C fl (.gfor t y b : MS) ρ h = (dY C y ρ h).bind fun g h => (g (turnZ (tgt t) (dSs C fl b)) ρ h).bind fun ρ h => .ok (.nx ρ) h := by
  first | rfl | rw [dS]
theorem r_dS_try : dS C fl (.try_ b : MS) ρ h = dSs C fl b ρ h := by
  first | rfl | rw [dS]
theorem r_dY_fn : dY C (.fn f es) ρ h = (dEs C es ρ h).bind fun xs h => .ok (C.gen f xs) h := by
  first | rfl | rw [dY]
theorem r_dY_mth : dY C (.mth c f m o es) ρ h = (dE C o ρ h).bind fun x h => match x with
    | .ob a => match h[a]? with
      | some (.ins c' fs) => guard (c' = c ∧ lookF fs m = none) ((dEs C es ρ h).bind fun xs h => .ok (C.gen f (.ob a :: xs)) h)
      | _ => .stuck
    | _ => .stuck := by
  first | rfl | rw [dY]
theorem r_dE_mth : dE C (.mth c f m o es : ME) ρ h = (dE C o ρ h).bind fun x h => match x with
    | .ob a => match h[a]? with
      | some (.ins c' fs) => guard (c' = c ∧ lookF fs m = none) ((dEs C es ρ h).bind fun xs h => C f (.ob a :: xs) h)
      | _ => .stuck
    | _ => .stuck := by
  first | rfl | rw [dE]
theorem r_dE_bf : dE C (.bf p es : ME) ρ h = (dEs C es ρ h).bind fun xs h => zBF p xs h := by
  first | rfl | rw [dE]
theorem r_dE_bm : dE C (.bm p o es : ME) ρ h = (dE C o ρ h).bind fun x h => guard (bmOk p x h) ((dEs C es ρ h).bind fun xs h => zBM p x xs h) := by
  first | rfl | rw [dE]
theorem r_dE_isT : dE C (.isT e : ME) ρ h = (dE C e ρ h).bind fun x h => match x with
    | .tup _ => .ok (.bl true) h
    | .non => .ok (.bl false) h
    | _ => .stuck := by
  first | rfl | rw [dE]
theorem r_dE_comp : dE C (.comp vs t it c e : ME) ρ h = (dI C it ρ h).bind fun w h => compL h.length w.still (tgt t) (dC C c) (dE C e) (wipeZ ρ vs) w.items (h ++ [.lst []]) := by
  first | rfl | rw [dE]
theorem r_dX_tr : dX C (.tr e : MX) ρ h = (dE C e ρ h).bind fun x h => zTru x h := by
  first | rfl | rw [dX]
theorem r_dX_and : dX C (.and a b : MX) ρ h = (dX C a ρ h).bind fun t h => if t then dX C b ρ h else .ok false h := by
  first | rfl | rw [dX]
theorem r_dX_or : dX C (.or a b : MX) ρ h = (dX C a ρ h).bind fun t h => if t then .ok true h else dX C b ρ h := by
  first | rfl | rw [dX]
theorem r_dX_not : dX C (.not a : MX) ρ h = (dX C a ρ h).bind fun t h => .ok (!t) h := by
  first | rfl | rw [dX]
theorem r_dEs_nil : dEs C (.nil : MEs) ρ h = .ok [] h := by
  first | rfl | rw [dEs]
theorem r_dEs_cons : dEs C (.cons e es : MEs) ρ h = (dE C e ρ h).bind fun x h => (dEs C es ρ h).bind fun xs h => .ok (x :: xs) h := by
  first | rfl | rw [dEs]
theorem r_dP_no : dP C (.no : MP) ρ h = .ok none h := by
  first | rfl | rw [dP]
theorem r_dP_some : dP C (.some e : MP) ρ h = (dE C e ρ h).bind fun x h => match x with
    | .int i => .ok (some i) h
    | _ => .stuck := by
  first | rfl | rw [dP]
theorem r_dC_no : dC C (.no : MC) ρ h = .ok true h := by
  first | rfl | rw [dC]
theorem r_dC_some : dC C (.some c : MC) ρ h = dX C c ρ h := by
  first | rfl | rw [dC]
theorem r_dI_seq : dI C (.seq e : MI) ρ h = (dE C e ρ h).bind fun x h => wkSeq x h := by
  first | rfl | rw [dI]
theorem r_dI_rng1 : dI C (.rng1 e : MI) ρ h = (dE C e ρ h).bind fun x h => wkRng (.int 0) x h := by
  first | rfl | rw [dI]
theorem r_dI_rng2 : dI C (.rng2 a b : MI) ρ h = (dE C a ρ h).bind fun x h => (dE C b ρ h).bind fun y h => wkRng x y h := by
  first | rfl | rw [dI]
theorem r_dI_rrng1 : dI C (.rrng1 e : MI) ρ h = (dE C e ρ h).bind fun x h => wkRev x h := by
  first | rfl | rw [dI]
theorem r_dG_nm : dG C fl (.nm i : MG) z ρ h = .ok (ρ.set i (some z)) h := by
  first | rfl | rw [dG]
theorem r_dG_tup : dG C fl (.tup is : MG) z ρ h = tgt (.tup is) z ρ h := by
  first | rfl | rw [dG]
theorem r_dG_sub : dG C fl (.sub o i : MG) z ρ h = (dE C o ρ h).bind fun x h => (dE C i ρ h).bind fun y h => (zSet x y z h).bind fun _ h => .ok ρ h := by
  first | rfl | rw [dG]
theorem r_dG_fld : dG C fl (.fld o f : MG) z ρ h = (dE C o ρ h).bind fun x h => (zSetF fl x f z h).bind fun _ h => .ok ρ h := by
  first | rfl | rw [dG]
theorem r_dS_asg : dS C fl (.asg t e : MS) ρ h = (dE C e ρ h).bind fun x h => (dG C fl t x ρ h).bind fun ρ h => .ok (.nx ρ) h := by
  first | rfl | rw [dS]
theorem r_dS_aug : dS C fl (.aug i o e : MS) ρ h = match ρ[i]? with
    | some (some x) => (dE C e ρ h).bind fun y h => (zBin o x y h).bind fun z h => .ok (.nx (ρ.set i (some z))) h
    | _ => .stuck := by
  first | rfl | rw [dS]
theorem r_dS_expr : dS C fl (.expr e : MS) ρ h = (dE C e ρ h).bind fun _ h => .ok (.nx ρ) h := by
  first | rfl | rw [dS]
theorem r_dS_ret : dS C fl (.ret e : MS) ρ h = (dE C e ρ h).bind fun x h => .ok (.ret x) h := by
  first | rfl | rw [dS]
theorem r_dS_retN : dS C fl (.retN : MS) ρ h = .ok (.ret .non) h := by
  first | rfl | rw [dS]
theorem r_dS_ite : dS C fl (.ite c a b : MS) ρ h = (dX C c ρ h).bind fun t h => if t then dSs C fl a ρ h else dSs C fl b ρ h := by
  first | rfl | rw [dS]
theorem r_dS_while : dS C fl (.while c b : MS) ρ h = whileM (dX C c) (dSs C fl b) ρ h := by
  first | rfl | rw [dS]
theorem r_dS_for : dS C fl (.for t it b : MS) ρ h = (dI C it ρ h).bind fun w h => forL w.still (tgt t) (dSs C fl b) w.items ρ h := by
  first | rfl | rw [dS]
theorem r_dS_pass : dS C fl (.pass : MS) ρ h = .ok (.nx ρ) h := by
  first | rfl | rw [dS]
theorem r_dS_brk : dS C fl (.brk : MS) ρ h = .ok (.brk ρ) h := by
  first | rfl | rw [dS]
theorem r_dS_cont : dS C fl (.cont : MS) ρ h = .ok (.cont ρ) h := by
  first | rfl | rw [dS]
theorem r_dS_never : dS C fl (.never : MS) ρ h = .stuck := by
  first | rfl | rw [dS]
theorem r_dSs_nil : dSs C fl (.nil : MSs) ρ h = .ok (.nx ρ) h := by
  first | rfl | rw [dSs]
theorem r_dSs_cons : dSs C fl (.cons s ss : MSs) ρ h = (dS C fl s ρ h).bind fun g h => match g with
    | .nx ρ => dSs C fl ss ρ h
    | .brk ρ => .ok (.brk ρ) h
    | .cont ρ => .ok (.cont ρ) h
    | .ret z => .ok (.ret z) h := by
  first | rfl | rw [dSs]
end

/-! ### the heap -/
theorem get_app {h l : Mh} {a : Nat} {o : Ob} (e : h[a]? = some o) : (h ++ l)[a]? = some o := by
  rw [List.getElem?_append_left (List.getElem?_eq_some_iff.mp e).1]
  exact e
theorem get_new {h : Mh} {o : Ob} : (h ++ [o])[h.length]? = some o := by simp
theorem get_set {h : Mh} {a : Nat} {o u : Ob} (e : h[a]? = some u) : (h.set a o)[a]? = some o := by
  rw [List.getElem?_set_self (List.getElem?_eq_some_iff.mp e).1]
theorem get_set_ne {h : Mh} {a b : Nat} {o : Ob} (n : a ≠ b) : (h.set a o)[b]? = h[b]? := List.getElem?_set_ne n
theorem lt_of_get {h : Mh} {a : Nat} {o : Ob} (e : h[a]? = some o) : a < h.length := (List.getElem?_eq_some_iff.mp e).1
theorem ne_of_get {h : Mh} {a b : Nat} {o u : Ob} (e : h[a]? = some o) (f : h[b]? = some u) (d : o ≠ u) : a ≠ b := by
  rintro rfl
  rw [e] at f
  exact d (Option.some.inj f)
/-- old objects stand as before -/
def Pre (h h' : Mh) : Prop := h <+: h'
theorem Pre.refl {h : Mh} : Pre h h := List.prefix_rfl
theorem Pre.trans {a b c : Mh} (x : Pre a b) (y : Pre b c) : Pre a c := List.IsPrefix.trans x y
theorem Pre.app {h l : Mh} : Pre h (h ++ l) := List.prefix_append _ _
theorem Pre.get {h h' : Mh} (p : Pre h h') {a : Nat} {o : Ob} (e : h[a]? = some o) : h'[a]? = some o := by
  obtain ⟨l, rfl⟩ := p
  exact get_app e
theorem Pre.len {h h' : Mh} (p : Pre h h') : h.length ≤ h'.length := List.IsPrefix.length_le p
/-- a new object is changed -/
theorem Pre.set {h h' : Mh} (p : Pre h h') {a : Nat} {o : Ob} (ha : h.length ≤ a) : Pre h (h'.set a o) := by
  obtain ⟨l, rfl⟩ := p
  rw [List.set_append_right _ _ ha]
  exact List.prefix_append _ _

/-! ### sizes -/
theorem line_eq : sizeLine = 16777216 := sizeLine_eq
theorem le_line {n : Nat} (h : n ≤ 16777216) : n ≤ sizeLine := by rw [line_eq]; exact h
theorem lt_line {n : Nat} (h : n < 16777216) : n < sizeLine := by rw [line_eq]; exact h

/-! ### operators on ints -/
theorem zAdd_int (i j : Int) (h : Mh) : zAdd (.int i) (.int j) h = .ok (.int (i + j)) h := rfl
theorem zSub_int (i j : Int) (h : Mh) : zSub (.int i) (.int j) h = .ok (.int (i - j)) h := rfl
theorem zAddI_int (i j : Int) (h : Mh) : zAddI (.int i) (.int j) h = .ok (.int (i + j)) h := rfl
theorem zMul_int (i j : Int) (h : Mh) : zMul (.int i) (.int j) h = guard (CMul i j) (.ok (.int (i * j)) h) := rfl
theorem zDiv_int (i j : Int) (h : Mh) : zDiv (.int i) (.int j) h = guard (CDivW i j) (.ok (.int (i / j)) h) := rfl
theorem zMod_int (i j : Int) (h : Mh) : zMod (.int i) (.int j) h = guard (0 < j) (.ok (.int (i % j)) h) := rfl
theorem zPow_int (i j : Int) (h : Mh) : zPow (.int i) (.int j) h = guard (CPow i j) (.ok (.int (i ^ j.toNat)) h) := rfl
theorem zNeg_int (i : Int) (h : Mh) : zNeg (.int i) h = .ok (.int (-i)) h := rfl
theorem zLt_int (i j : Int) (h : Mh) : zLt (.int i) (.int j) h = .ok (.bl (decide (i < j))) h := rfl
theorem zLe_int (i j : Int) (h : Mh) : zLe (.int i) (.int j) h = .ok (.bl (decide (i ≤ j))) h := rfl
theorem zGt_int (i j : Int) (h : Mh) : zGt (.int i) (.int j) h = .ok (.bl (decide (j < i))) h := rfl
theorem zGe_int (i j : Int) (h : Mh) : zGe (.int i) (.int j) h = .ok (.bl (decide (j ≤ i))) h := rfl
theorem shaped_int (i : Int) : SeqAt.shaped (.int i) = true := by
  simp [SeqAt.shaped, PyData.canLay0, PyData.depth]
theorem zEqB_int (i j : Int) (h : Mh) : zEqB (.int i) (.int j) h = .ok (i == j) h := by
  unfold zEqB
  simp only [pd, pdZ]
  rw [guard_pos ⟨shaped_int i, shaped_int j⟩]
  simp only [PyData.eqv]
theorem zEq_int (i j : Int) (h : Mh) : zEq (.int i) (.int j) h = .ok (.bl (decide (i = j))) h := by
  unfold zEq
  rw [zEqB_int, Res.bind_ok, Bool.beq_eq_decide_eq]
theorem zNe_int (i j : Int) (h : Mh) : zNe (.int i) (.int j) h = .ok (.bl (!decide (i = j))) h := by
  unfold zNe
  rw [zEqB_int, Res.bind_ok, Bool.beq_eq_decide_eq]
theorem zIs_non (a : Z) (h : Mh) : zIs a .non h = .ok (.bl (zIsN a)) h := rfl
theorem zIsNot_non (a : Z) (h : Mh) : zIsNot a .non h = .ok (.bl (!zIsN a)) h := rfl
theorem zTru_bl (b : Bool) (h : Mh) : zTru (.bl b) h = .ok b h := rfl
theorem zTru_int (i : Int) (h : Mh) : zTru (.int i) h = .ok (i != 0) h := rfl
theorem zTru_non (h : Mh) : zTru .non h = .ok false h := rfl
theorem zTru_tup (zs : List Z) (h : Mh) : zTru (.tup zs) h = .ok (!zs.isEmpty) h := rfl
theorem zTru_lst {a : Nat} {zs : List Z} {h : Mh} (e : h[a]? = some (.lst zs)) : zTru (.ob a) h = .ok (!zs.isEmpty) h := by
  simp only [zTru, e]
theorem zFld_ins {a c : Nat} {fs : List (Nat × Z)} {f : Nat} {h : Mh} (e : h[a]? = some (.ins c fs)) : zFld (.ob a) f h = oRes (lookF fs f) h := by
  simp only [zFld, e]
theorem zIdx_tup (zs : List Z) (j : Int) (h : Mh) : zIdx (.tup zs) (.int j) h = oRes (atI zs j) h := rfl
theorem zIdx_lst {a : Nat} {zs : List Z} {h : Mh} (e : h[a]? = some (.lst zs)) (j : Int) : zIdx (.ob a) (.int j) h = oRes (atI zs j) h := by
  simp only [zIdx, e]
theorem zIdx_fro {a : Nat} {zs : List Z} {h : Mh} (e : h[a]? = some (.fro zs)) (j : Int) : zIdx (.ob a) (.int j) h = oRes (atI zs j) h := by
  simp only [zIdx, e]
theorem zIdx_dct {a : Nat} {kvs : List (Key × Z)} {h : Mh} (e : h[a]? = some (.dct kvs)) (j : Int) : zIdx (.ob a) (.int j) h = oRes (valZ kvs (.inl j)) h := by
  simp only [zIdx, e, keyZ]
theorem CDivW_small {i j : Int} (h0 : 0 < j) (h : j < 4000000) : CDivW i j := by
  refine ⟨h0, ?_⟩
  have h1 : j.natAbs < 2 ^ 22 := by omega
  by_cases hz : j.natAbs = 0
  · omega
  · have := (Nat.log2_lt hz (k := 22)).mpr h1
    omega
theorem CMul_left {i j : Int} (h1 : -(2 ^ 64) < i) (h2 : i < 2 ^ 64) : CMul i j := .inl ⟨h1, h2⟩
theorem CMul_right {i j : Int} (h1 : -(2 ^ 64) < j) (h2 : j < 2 ^ 64) : CMul i j := .inr ⟨h1, h2⟩

/-! ### reading, built-ins -/
theorem atI_0 (x : Z) (xs : List Z) : atI (x :: xs) 0 = some x := by
  have := atI_nat (xs := x :: xs) (j := 0) (v := x) rfl
  exact this
theorem atI_1 (x y : Z) (xs : List Z) : atI (x :: y :: xs) 1 = some y := by
  have := atI_nat (xs := x :: y :: xs) (j := 1) (v := y) rfl
  exact this
theorem atI_2 (x y z : Z) (xs : List Z) : atI (x :: y :: z :: xs) 2 = some z := by
  have := atI_nat (xs := x :: y :: z :: xs) (j := 2) (v := z) rfl
  exact this
theorem atI_3 (x y z u : Z) (xs : List Z) : atI (x :: y :: z :: u :: xs) 3 = some u := by
  have := atI_nat (xs := x :: y :: z :: u :: xs) (j := 3) (v := u) rfl
  exact this
/-- a place by a number that is not negative -/
theorem atI_get {α : Type} {xs : List α} {i : Int} {v : α} (h0 : 0 ≤ i) (h : xs[i.toNat]? = some v) : atI xs i = some v := by
  have := atI_nat (xs := xs) (j := i.toNat) (v := v) h
  rwa [Int.toNat_of_nonneg h0] at this
theorem atI_end {α : Type} {xs : List α} {v : α} (h : xs.getLast? = some v) : atI xs (-1) = some v := by
  obtain ⟨ys, rfl⟩ := List.getLast?_eq_some_iff.mp h
  exact atI_last ys v
theorem ixN_get {n : Nat} {i : Int} (h0 : 0 ≤ i) (h : i < n) : ixN n i = some i.toNat := by
  unfold ixN
  rw [if_pos h0, if_pos h]
theorem oRes_some {α : Type} (x : α) (h : Mh) : oRes (some x) h = .ok x h := rfl
theorem zBF_int (i : Int) (h : Mh) : zBF .int [.int i] h = .ok (.int i) h := rfl
theorem zBF_len_lst {a : Nat} {zs : List Z} {h : Mh} (e : h[a]? = some (.lst zs)) : zBF .len [.ob a] h = .ok (.int zs.length) h := by
  simp only [zBF, e]
theorem zBF_len_fro {a : Nat} {zs : List Z} {h : Mh} (e : h[a]? = some (.fro zs)) : zBF .len [.ob a] h = .ok (.int zs.length) h := by
  simp only [zBF, e]
theorem zBF_len_tup (zs : List Z) (h : Mh) : zBF .len [.tup zs] h = .ok (.int zs.length) h := rfl
theorem zBF_tuple_lst {a : Nat} {zs : List Z} {h : Mh} (e : h[a]? = some (.lst zs)) : zBF .tuple [.ob a] h = .ok (.tup zs) h := by
  simp only [zBF, seqZ, e]
theorem zBF_list_tup (zs : List Z) (h : Mh) : zBF .list [.tup zs] h = newL h zs := rfl
theorem zBF_min (i j : Int) (h : Mh) : zBF .min [.int i, .int j] h = .ok (.int (if j < i then j else i)) h := rfl
theorem zSet_lst {a : Nat} {zs : List Z} {h : Mh} (e : h[a]? = some (.lst zs)) {k : Int} {j : Nat} (hk : ixN zs.length k = some j) (z : Z) : zSet (.ob a) (.int k) z h = .ok () (h.set a (.lst (zs.set j z))) := by
  simp only [zSet, e, hk]
theorem zSet_dct {a : Nat} {kvs : List (Key × Z)} {h : Mh} (e : h[a]? = some (.dct kvs)) (hl : kvs.length < sizeLine) (k : Int) (z : Z) : zSet (.ob a) (.int k) z h = .ok () (h.set a (.dct (putZ kvs (.inl k) z))) := by
  simp only [zSet, e, keyZ]
  exact guard_pos hl
theorem zBM_append {a : Nat} {zs : List Z} {h : Mh} (e : h[a]? = some (.lst zs)) (hl : zs.length < sizeLine) (z : Z) : zBM .append (.ob a) [z] h = .ok .non (h.set a (.lst (zs ++ [z]))) := by
  simp only [zBM, e]
  exact guard_pos hl
theorem bmOk_append {a : Nat} {zs : List Z} {h : Mh} (e : h[a]? = some (.lst zs)) : bmOk .append (.ob a) h := ⟨zs, e⟩
theorem bmOk_pop0 {a : Nat} {zs : List Z} {h : Mh} (e : h[a]? = some (.lst zs)) : bmOk .pop0 (.ob a) h := ⟨zs, e⟩
theorem zBM_pop0 {a : Nat} {zs : List Z} {z : Z} {h : Mh} (e : h[a]? = some (.lst (zs ++ [z]))) : zBM .pop0 (.ob a) [] h = .ok z (h.set a (.lst zs)) := by
  have : (zs ++ [z])[(zs ++ [z]).length - 1]? = some z := by simp
  simp only [zBM, e, this, List.dropLast_concat]
theorem bmOk_dget1 {a : Nat} {kvs : List (Key × Z)} {h : Mh} (e : h[a]? = some (.dct kvs)) : bmOk .dget1 (.ob a) h := ⟨kvs, e⟩
theorem zBM_dget1 {a : Nat} {kvs : List (Key × Z)} {h : Mh} (e : h[a]? = some (.dct kvs)) (k : Int) : zBM .dget1 (.ob a) [.int k] h = .ok ((valZ kvs (.inl k)).getD .non) h := by
  simp only [zBM, e, keyZ]
theorem newL_eq (h : Mh) (zs : List Z) : newL h zs = .ok (.ob h.length) (h ++ [.lst zs]) := rfl

/-- what stood stands, but for some objects -/
def Chg (bs : List Nat) (h h' : Mh) : Prop := h.length ≤ h'.length ∧ ∀ a o, a ∉ bs → h[a]? = some o → h'[a]? = some o
theorem Chg.refl {bs : List Nat} {h : Mh} : Chg bs h h := ⟨Nat.le_refl _, fun _ _ _ e => e⟩
theorem Chg.trans {bs : List Nat} {a b c : Mh} (x : Chg bs a b) (y : Chg bs b c) : Chg bs a c := ⟨Nat.le_trans x.1 y.1, fun p o n e => y.2 p o n (x.2 p o n e)⟩
theorem Chg.mono {bs cs : List Nat} {h h' : Mh} (x : Chg bs h h') (s : ∀ b ∈ bs, b ∈ cs) : Chg cs h h' := ⟨x.1, fun p o n e => x.2 p o (fun q => n (s p q)) e⟩
theorem Chg.app {bs : List Nat} {h l : Mh} : Chg bs h (h ++ l) := ⟨by simp, fun _ _ _ e => get_app e⟩
theorem Chg.set {bs : List Nat} {h : Mh} {a : Nat} {o : Ob} (m : a ∈ bs ∨ h.length ≤ a) : Chg bs h (h.set a o) := ⟨by simp, fun p q n e => by
  rw [get_set_ne]
  · exact e
  · rintro rfl
    rcases m with m | m
    · exact n m
    · exact absurd (lt_of_get e) (by omega)⟩
theorem Chg.of_pre {bs : List Nat} {h h' : Mh} (p : Pre h h') : Chg bs h h' := ⟨p.len, fun _ _ _ e => p.get e⟩
/-- a new object is changed -/
theorem Chg.setN {bs : List Nat} {h0 h : Mh} {a : Nat} {o : Ob} (x : Chg bs h0 h) (m : h0.length ≤ a) : Chg bs h0 (h.set a o) := ⟨by simpa using x.1, fun p q n e => by
  rw [get_set_ne]
  · exact x.2 p q n e
  · rintro rfl
    exact absurd (lt_of_get e) (by omega)⟩
theorem Chg.get {bs : List Nat} {h h' : Mh} (x : Chg bs h h') {a : Nat} {o : Ob} (n : a ∉ bs) (e : h[a]? = some o) : h'[a]? = some o := x.2 a o n e

/-! ### loops -/
theorem forL_nil {st : Mh → Prop} {t : Z → Ev → Mh → Res Ev} {b : Ev → Mh → Res Fl} {ρ : Ev} {h : Mh} (hs : st h) : forL st t b [] ρ h = .ok (.nx ρ) h := by
  rw [forL, guard_pos hs]
/-- a for by an invariant over the items done -/
theorem for_inv {st : Mh → Prop} {t : Z → Ev → Mh → Res Ev} {b : Ev → Mh → Res Fl} {Q : Fl → Mh → Prop} (I : List Z → Ev → Mh → Prop) {zs : List Z} {ρ : Ev} {h : Mh} (h0 : I [] ρ h) (hst : ∀ d ρ h, I d ρ h → st h)
    (step : ∀ d z r ρ h, zs = d ++ z :: r → I d ρ h → Ok (t z ρ h) fun ρ h => Ok (b ρ h) fun fl h => match fl with
      | .nx ρ => I (d ++ [z]) ρ h
      | .cont ρ => I (d ++ [z]) ρ h
      | .brk ρ => Q (.nx ρ) h
      | .ret z => Q (.ret z) h)
    (fin : ∀ ρ h, I zs ρ h → Q (.nx ρ) h) : Ok (forL st t b zs ρ h) Q := by
  have key : ∀ (r d : List Z) (ρ : Ev) (h : Mh), zs = d ++ r → I d ρ h → Ok (forL st t b r ρ h) Q := by
    intro r
    induction r with
    | nil =>
      intro d ρ h e i
      rw [forL_nil (hst d ρ h i), Ok_ok]
      rw [List.append_nil] at e
      rw [e] at fin
      exact fin ρ h i
    | cons z r ih =>
      intro d ρ h e i
      rw [forL, Ok_guard, Ok_bind]
      refine ⟨hst d ρ h i, (step d z r ρ h e i).mono fun ρ1 h1 q1 => ?_⟩
      rw [Ok_bind]
      refine q1.mono fun fl h2 q2 => ?_
      cases fl with
      | nx ρ2 => exact ih (d ++ [z]) ρ2 h2 (by simp [e]) q2
      | cont ρ2 => exact ih (d ++ [z]) ρ2 h2 (by simp [e]) q2
      | brk ρ2 => exact q2
      | ret z => exact q2
  exact key zs [] ρ h rfl h0
/-- enough turns -/
theorem whileM_Ok {c : Ev → Mh → Res Bool} {b : Ev → Mh → Res Fl} {ρ : Ev} {h : Mh} {Q : Fl → Mh → Prop} (n : Nat) (e : Ok (whileL c b n ρ h) Q) : Ok (whileM c b ρ h) Q := by
  obtain ⟨x, h', e1, q⟩ := e.ex
  exact Ok.of_eq (whileM_of e1) q
/-- a while by an invariant and a measure -/
theorem while_inv {c : Ev → Mh → Res Bool} {b : Ev → Mh → Res Fl} {Q : Fl → Mh → Prop} (I : Nat → Ev → Mh → Prop) {n : Nat} {ρ : Ev} {h : Mh} (h0 : I n ρ h)
    (step : ∀ m ρ h, I m ρ h → Ok (c ρ h) fun t h1 => if t then Ok (b ρ h1) fun fl h2 => (match fl with
      | .nx ρ2 => ∃ k, k < m ∧ I k ρ2 h2
      | .cont ρ2 => ∃ k, k < m ∧ I k ρ2 h2
      | .brk ρ2 => Q (.nx ρ2) h2
      | .ret z => Q (.ret z) h2) else Q (.nx ρ) h1) : Ok (whileM c b ρ h) Q := by
  have key : ∀ (n m : Nat) (ρ : Ev) (h : Mh), m < n → I m ρ h → Ok (whileL c b n ρ h) Q := by
    intro n
    induction n with
    | zero => intro m ρ h hn; omega
    | succ n ih =>
      intro m ρ h hn i
      rw [whileL, Ok_bind]
      refine (step m ρ h i).mono fun t h1 q1 => ?_
      cases t with
      | false => exact q1
      | true =>
        simp only [if_true] at q1 ⊢
        rw [Ok_bind]
        refine q1.mono fun fl h2 q2 => ?_
        cases fl with
        | nx ρ2 => obtain ⟨k, hk, q2⟩ := q2; exact ih k ρ2 h2 (by omega) q2
        | cont ρ2 => obtain ⟨k, hk, q2⟩ := q2; exact ih k ρ2 h2 (by omega) q2
        | brk ρ2 => exact q2
        | ret z => exact q2
  exact whileM_Ok (n + 1) (key (n + 1) n ρ h (Nat.lt_succ_self n) h0)
/-- for over a range -/
theorem for_rng {t : Z → Ev → Mh → Res Ev} {b : Ev → Mh → Res Fl} {Q : Fl → Mh → Prop} (I : Nat → Ev → Mh → Prop) {lo hi : Int} {ρ : Ev} {h : Mh} (b1 : -(2 ^ 62) ≤ lo ∧ lo < 2 ^ 62 ∧ -(2 ^ 62) ≤ hi ∧ hi < 2 ^ 62) (h0 : I 0 ρ h)
    (step : ∀ i ρ h, i < (hi - lo).toNat → I i ρ h → Ok (t (.int (lo + (i : Int))) ρ h) fun ρ h => Ok (b ρ h) fun fl h => match fl with
      | .nx ρ => I (i + 1) ρ h
      | .cont ρ => I (i + 1) ρ h
      | .brk ρ => Q (.nx ρ) h
      | .ret z => Q (.ret z) h)
    (fin : ∀ ρ h, I (hi - lo).toNat ρ h → Q (.nx ρ) h) : Ok (wkRng (.int lo) (.int hi) h) fun w h1 => Ok (forL w.still t b w.items ρ h1) Q := by
  show Ok (guard _ (.ok (⟨rngZ lo hi, fun _ => True⟩ : Wk) h)) _
  rw [Ok_guard, Ok_ok]
  refine And.intro b1 (for_inv (fun d ρ h => I d.length ρ h) h0 (fun _ _ _ _ => trivial) (fun d z r ρ h e i => ?_) fun ρ h i => fin ρ h ?_)
  · have hl : d.length < (hi - lo).toNat := by
      have := congrArg List.length e
      simp [rngZ] at this
      omega
    have hz : z = .int (lo + (d.length : Int)) := by
      have := congrArg (fun l => l[d.length]?) e
      simp [rngZ, hl] at this
      exact this.symm
    subst hz
    simpa using step d.length ρ h hl i
  · simpa [rngZ] using i
/-- for over a list, a tuple -/
theorem for_lst {t : Z → Ev → Mh → Res Ev} {b : Ev → Mh → Res Fl} {Q : Fl → Mh → Prop} (I : List Z → Ev → Mh → Prop) {a : Nat} {zs : List Z} {ρ : Ev} {h : Mh} (e : h[a]? = some (.lst zs)) (h0 : I [] ρ h) (hst : ∀ d ρ h, I d ρ h → h[a]? = some (.lst zs))
    (step : ∀ d z r ρ h, zs = d ++ z :: r → I d ρ h → Ok (t z ρ h) fun ρ h => Ok (b ρ h) fun fl h => match fl with
      | .nx ρ => I (d ++ [z]) ρ h
      | .cont ρ => I (d ++ [z]) ρ h
      | .brk ρ => Q (.nx ρ) h
      | .ret z => Q (.ret z) h)
    (fin : ∀ ρ h, I zs ρ h → Q (.nx ρ) h) : Ok (wkSeq (.ob a) h) fun w h1 => Ok (forL w.still t b w.items ρ h1) Q := by
  simp only [wkSeq, e, Ok_ok]
  exact for_inv I h0 hst step fin
/-- a comprehension -/
theorem comp_inv {D : Nat} {st : Mh → Prop} {t : Z → Ev → Mh → Res Ev} {c : Ev → Mh → Res Bool} {e : Ev → Mh → Res Z} {ρ : Ev} {Q : Z → Mh → Prop} (I : List Z → List Z → Mh → Prop) {zs : List Z} {h : Mh} (h0 : I [] [] h) (hst : ∀ d o h, I d o h → st h ∧ h[D]? = some (.lst o) ∧ o.length < sizeLine)
    (step : ∀ d z r o h, zs = d ++ z :: r → I d o h → Ok (t z ρ h) fun ρ1 h1 => Ok (c ρ1 h1) fun b h2 => if b then Ok (e ρ1 h2) fun y h3 => h3[D]? = some (.lst o) ∧ I (d ++ [z]) (o ++ [y]) (h3.set D (.lst (o ++ [y]))) else I (d ++ [z]) o h2)
    (fin : ∀ o h, I zs o h → Q (.ob D) h) : Ok (compL D st t c e ρ zs h) Q := by
  have key : ∀ (r d o : List Z) (h : Mh), zs = d ++ r → I d o h → Ok (compL D st t c e ρ r h) Q := by
    intro r
    induction r with
    | nil =>
      intro d o h e i
      rw [compL, Ok_guard, Ok_ok]
      rw [List.append_nil] at e
      rw [e] at fin
      exact ⟨(hst d o h i).1, fin o h i⟩
    | cons z r ih =>
      intro d o h e i
      rw [compL, Ok_guard, Ok_bind]
      refine ⟨(hst d o h i).1, (step d z r o h e i).mono fun ρ1 h1 q1 => ?_⟩
      rw [Ok_bind]
      refine q1.mono fun b h2 q2 => ?_
      cases b with
      | false => exact ih (d ++ [z]) o h2 (by simp [e]) q2
      | true =>
        simp only [if_true] at q2 ⊢
        rw [Ok_bind]
        refine q2.mono fun y h3 q3 => ?_
        rw [q3.1]
        simp only []
        rw [Ok_guard]
        exact ⟨(hst d o h i).2.2, ih (d ++ [z]) (o ++ [y]) _ (by simp [e]) q3.2⟩
  exact key zs [] [] h rfl h0
/-- comprehension over a range -/
theorem comp_rng {D : Nat} {t : Z → Ev → Mh → Res Ev} {c : Ev → Mh → Res Bool} {e : Ev → Mh → Res Z} {ρ : Ev} {Q : Z → Mh → Prop} (I : Nat → List Z → Mh → Prop) {lo hi : Int} {h : Mh} (b1 : -(2 ^ 62) ≤ lo ∧ lo < 2 ^ 62 ∧ -(2 ^ 62) ≤ hi ∧ hi < 2 ^ 62)
    (h0 : I 0 [] (h ++ [.lst []])) (hst : ∀ i o h1, I i o h1 → h1[h.length]? = some (.lst o) ∧ o.length < sizeLine)
    (step : ∀ i o h1, i < (hi - lo).toNat → I i o h1 → Ok (t (.int (lo + (i : Int))) ρ h1) fun ρ1 h1 => Ok (c ρ1 h1) fun b h2 => if b then Ok (e ρ1 h2) fun y h3 => h3[h.length]? = some (.lst o) ∧ I (i + 1) (o ++ [y]) (h3.set h.length (.lst (o ++ [y]))) else I (i + 1) o h2)
    (fin : ∀ o h1, I (hi - lo).toNat o h1 → Q (.ob h.length) h1) : Ok (wkRng (.int lo) (.int hi) h) fun w h1 => Ok (compL h1.length w.still t c e ρ w.items (h1 ++ [.lst []])) Q := by
  show Ok (guard _ (.ok (⟨rngZ lo hi, fun _ => True⟩ : Wk) h)) _
  rw [Ok_guard, Ok_ok]
  refine And.intro b1 (comp_inv (fun d o h => I d.length o h) h0 (fun d o h i => And.intro trivial (hst _ o h i)) (fun d z r o h1 e i => ?_) fun o h i => fin o h ?_)
  · have hl : d.length < (hi - lo).toNat := by
      have := congrArg List.length e
      simp [rngZ] at this
      omega
    have hz : z = .int (lo + (d.length : Int)) := by
      have := congrArg (fun l => l[d.length]?) e
      simp [rngZ, hl] at this
      exact this.symm
    subst hz
    simpa using step d.length o h1 hl i
  · simpa [rngZ] using i
noncomputable abbrev Prg.C (p : Prg) (k : Nat) : Cl := callK p.gt.fl p.code k
theorem Prg.call {p : Prg} {k f m n : Nat} {b : MSs} {zs : List Z} (e : p.code.fn f = some ⟨m, n, b⟩) (h : Mh) (hl : zs.length = m) : p.C (k + 1) f zs h = runD (p.C k) p.gt.fl n b zs h := by
  show (match p.code.fn f with
      | some d => guard (zs.length = d.ps) (runD (callK p.gt.fl p.code k) p.gt.fl d.n d.body zs h)
      | none => .stuck) = _
  rw [e]
  exact guard_pos hl
theorem runD_Ok {C : Cl} {fl : Nat → Nat → Bool} {n : Nat} {b : MSs} {zs : List Z} {h : Mh} {Q : Z → Mh → Prop} : Ok (runD C fl n b zs h) Q = Ok (dSs C fl b (zs.map some ++ List.replicate (n - zs.length) none) h) fun g h => match g with
  | .nx _ => Q .non h
  | .ret z => Q z h
  | _ => False := by
  unfold runD
  rw [Ok_bind]
  congr 1
  funext g h
  cases g <;> rfl
end Zm
/-! Plain data: comparing it. -/
namespace Zm
open PySem PySem.Spec PyProof.Rows L2
mutual
/-- no objects within, good texts, n deep at most -/
def plainZ : Nat → Z → Bool
  | _, .non => true
  | _, .bl _ => true
  | _, .int _ => true
  | _, .str x => PyData.strOk x
  | 0, .tup _ => false
  | n + 1, .tup zs => plainZs n zs
  | _, .ob _ => false
def plainZs : Nat → List Z → Bool
  | _, [] => true
  | n, z :: zs => plainZ n z && plainZs n zs
end
mutual
theorem plain_pd {f : Nat → Option PyData} : ∀ {n : Nat} {z : Z}, plainZ n z = true → ∃ d, pdZ f z = some d ∧ d.canLay0 = true ∧ d.depth ≤ n
  | _, .non, _ => ⟨_, rfl, by simp [PyData.canLay0], by simp [PyData.depth]⟩
  | _, .bl _, _ => ⟨_, rfl, by simp [PyData.canLay0], by simp [PyData.depth]⟩
  | _, .int _, _ => ⟨_, rfl, by simp [PyData.canLay0], by simp [PyData.depth]⟩
  | _, .str x, h => ⟨_, rfl, by simpa [PyData.canLay0, plainZ] using h, by simp [PyData.depth]⟩
  | 0, .tup zs, h => by simp [plainZ] at h
  | n + 1, .tup zs, h => by
    obtain ⟨ds, e, c, d⟩ := plain_pds (f := f) (n := n) (zs := zs) (by simpa [plainZ] using h)
    exact ⟨.tuple ds, by simp [pdZ, e], by simpa [PyData.canLay0] using c, by simpa [PyData.depth] using d⟩
  | _, .ob _, h => by simp [plainZ] at h
theorem plain_pds {f : Nat → Option PyData} : ∀ {n : Nat} {zs : List Z}, plainZs n zs = true → ∃ ds, pdZs f zs = some ds ∧ PyData.canLayAll0 ds = true ∧ PyData.depthAll ds ≤ n
  | _, [], _ => ⟨[], rfl, by simp [PyData.canLayAll0], by simp [PyData.depthAll]⟩
  | n, z :: zs, h => by
    simp only [plainZs, Bool.and_eq_true] at h
    obtain ⟨d, e1, c1, d1⟩ := plain_pd (f := f) h.1
    obtain ⟨ds, e2, c2, d2⟩ := plain_pds (f := f) h.2
    refine ⟨d :: ds, by simp [pdZs, e1, e2], by simp [PyData.canLayAll0, c1, c2], ?_⟩
    simp only [PyData.depthAll]
    omega
end
theorem zEqB_same {z : Z} {n : Nat} (h : Mh) (p : plainZ n z = true) (hn : n ≤ 60) : zEqB z z h = .ok true h := by
  obtain ⟨d, e, c, l⟩ := plain_pd (f := pdO h 3) p
  simp only [zEqB, pd, e]
  have s : SeqAt.shaped d = true := by
    simp only [SeqAt.shaped, c, Bool.true_and, decide_eq_true_eq]
    omega
  rw [guard_pos ⟨s, s⟩, SeqAt.eqv_refl d c]
theorem zEq_same {z : Z} {n : Nat} (h : Mh) (p : plainZ n z = true) (hn : n ≤ 60) : zEq z z h = .ok (.bl true) h := by
  rw [zEq, zEqB_same h p hn, Res.bind_ok]
theorem zEq_str {x y : Str} (h : Mh) (p : PyData.strOk x = true) (q : PyData.strOk y = true) : zEq (.str x) (.str y) h = .ok (.bl (x == y)) h := by
  simp [zEq, zEqB, pd, pdZ, Res.bind, guard, SeqAt.shaped, PyData.canLay0, PyData.depth, p, q, PyData.eqv]
theorem zNe_str {x y : Str} (h : Mh) (p : PyData.strOk x = true) (q : PyData.strOk y = true) : zNe (.str x) (.str y) h = .ok (.bl (!(x == y))) h := by
  simp [zNe, zEqB, pd, pdZ, Res.bind, guard, SeqAt.shaped, PyData.canLay0, PyData.depth, p, q, PyData.eqv]
theorem pd_lst {a : Nat} {zs : List Z} {ds : List PyData} {h : Mh} (e : h[a]? = some (.lst zs)) (p : pdZs (pdO h 2) zs = some ds) : pd h (.ob a) = some (.list ds) := by
  show pdO h (2 + 1) a = _
  rw [pdO, e]
  simp only [p, Option.map_some]
theorem zNe_lists {a b n : Nat} {zs : List Z} {h : Mh} (e1 : h[a]? = some (.lst zs)) (e2 : h[b]? = some (.lst zs)) (p : plainZs n zs = true) (hn : n ≤ 59) : zNe (.ob a) (.ob b) h = .ok (.bl false) h := by
  obtain ⟨ds, e, c, l⟩ := plain_pds (f := pdO h 2) p
  have s : SeqAt.shaped (.list ds) = true := by
    have e2 : PyData.depth (.list ds) ≤ 64 := by
      simp only [PyData.depth]
      omega
    simp only [SeqAt.shaped, PyData.canLay0, c, Bool.true_and, decide_eq_true_eq]
    exact e2
  have r : PyData.eqv (.list ds) (.list ds) = true := SeqAt.eqv_refl _ (by simpa [PyData.canLay0] using c)
  simp only [zNe, zEqB, pd_lst e1 e, pd_lst e2 e]
  rw [guard_pos ⟨s, s⟩, r]
  rfl
theorem pdZs_ints (f : Nat → Option PyData) : ∀ xs : List Int, pdZs f (xs.map Z.int) = some (xs.map PyData.int)
  | [] => rfl
  | x :: xs => by simp [pdZs, pdZ, pdZs_ints f xs]
theorem lay_ints : ∀ xs : List Int, PyData.canLayAll0 (xs.map PyData.int) = true
  | [] => by simp [PyData.canLayAll0]
  | x :: xs => by simp [PyData.canLayAll0, PyData.canLay0, lay_ints xs]
theorem dep_ints : ∀ xs : List Int, PyData.depthAll (xs.map PyData.int) = 0
  | [] => by simp [PyData.depthAll]
  | x :: xs => by simp [PyData.depthAll, PyData.depth, dep_ints xs]
theorem zIn_lst {a : Nat} {xs : List Int} {h : Mh} (e : h[a]? = some (.lst (xs.map Z.int))) (i : Int) : zIn (.int i) (.ob a) h = .ok (.bl (decide (i ∈ xs))) h := by
  have s : SeqAt.shaped (.list (xs.map PyData.int)) = true := by
    simp [SeqAt.shaped, PyData.canLay0, PyData.depth, lay_ints, dep_ints]
  simp only [zIn, zInB, e, zInL, pd_lst e (pdZs_ints _ _), show pd h (.int i) = some (.int i) from rfl]
  rw [guard_pos ⟨shaped_int i, s⟩, Res.bind_ok]
  congr 2
  clear e s
  induction xs with
  | nil => rfl
  | cons y ys ih =>
    rw [List.map_cons, List.any_cons, ih]
    have : PyData.eqv (.int y) (.int i) = decide (i = y) := by
      simp only [PyData.eqv, Bool.beq_eq_decide_eq]
      by_cases q : y = i
      · simp [q]
      · simp [q, Ne.symm q]
    rw [this]
    simp
theorem zNotIn_lst {a : Nat} {xs : List Int} {h : Mh} (e : h[a]? = some (.lst (xs.map Z.int))) (i : Int) : zNotIn (.int i) (.ob a) h = .ok (.bl (!decide (i ∈ xs))) h := by
  have := zIn_lst e i
  unfold zIn at this
  unfold zNotIn
  cases q : zInB (.int i) (.ob a) h with
  | stuck => rw [q] at this; cases this
  | ok b h' =>
    rw [q] at this
    cases this
    rfl

/-! ### dicts -/
theorem valZ_put (kvs : List (Key × Z)) (k j : Key) (z : Z) : valZ (putZ kvs k z) j = if j = k then some z else valZ kvs j := by
  unfold putZ
  split
  · rename_i hk
    induction kvs with
    | nil => simp at hk
    | cons kv r ih =>
      obtain ⟨g, y⟩ := kv
      by_cases hg : g = k
      · subst hg
        by_cases hj : j = g
        · subst hj
          simp [valZ]
        · have hgj : ¬ g = j := fun e => hj e.symm
          simp only [List.map_cons, if_true, if_neg hj, valZ, List.find?_cons, hgj, decide_false]
          clear ih hk
          induction r with
          | nil => rfl
          | cons kv r ih =>
            obtain ⟨g2, y2⟩ := kv
            by_cases h2 : g2 = g
            · subst h2
              simp only [List.map_cons, if_true, List.find?_cons, hgj, decide_false]
              exact ih
            · simp only [List.map_cons, if_neg h2, List.find?_cons]
              by_cases h3 : g2 = j
              · simp [h3]
              · simp only [h3, decide_false]
                exact ih
      · have hr : r.any (fun kv => decide (kv.1 = k)) = true := by simpa [hg] using hk
        have := ih hr
        simp only [List.map_cons, if_neg hg, valZ, List.find?_cons] at this ⊢
        by_cases h3 : g = j
        · subst h3
          simp [hg]
        · simp only [h3, decide_false]
          exact this
  · rename_i hk
    have hn : ∀ kv ∈ kvs, kv.1 ≠ k := by
      intro kv m e
      exact hk (List.any_eq_true.mpr ⟨kv, m, by simpa using e⟩)
    by_cases hj : j = k
    · subst hj
      rw [if_pos rfl]
      have : kvs.find? (fun kv => decide (kv.1 = j)) = none := by
        rw [List.find?_eq_none]
        intro kv m
        simpa using hn kv m
      simp [valZ, List.find?_append, this]
    · rw [if_neg hj]
      have : ¬ k = j := fun e => hj e.symm
      simp [valZ, List.find?_append, this]
theorem valZ_drop (kvs : List (Key × Z)) (k j : Key) : valZ (dropZ kvs k) j = if j = k then none else valZ kvs j := by
  unfold dropZ valZ
  induction kvs with
  | nil => simp
  | cons kv r ih =>
    obtain ⟨g, y⟩ := kv
    by_cases hg : g = k
    · subst hg
      simp only [List.filter_cons, ne_eq, not_true, decide_false, Bool.false_eq_true, if_false, ih]
      by_cases hj : j = g
      · rw [if_pos hj, if_pos hj]
      · rw [if_neg hj, if_neg hj]
        have : ¬ g = j := fun e => hj e.symm
        simp [List.find?_cons, this]
    · have : decide (g ≠ k) = true := by simpa using hg
      simp only [List.filter_cons, this, if_true, List.find?_cons]
      by_cases hj : g = j
      · subst hj
        simp [hg]
      · simp only [hj, decide_false]
        exact ih
theorem put_len (kvs : List (Key × Z)) (k : Key) (z : Z) : (putZ kvs k z).length ≤ kvs.length + 1 := by
  unfold putZ
  split
  · simp
  · simp
theorem drop_len (kvs : List (Key × Z)) (k : Key) : (dropZ kvs k).length ≤ kvs.length := List.length_filter_le _ _
/-- every key is an int -/
def IntKeys (kvs : List (Key × Z)) : Prop := ∀ kv ∈ kvs, ∃ i : Int, kv.1 = .inl i
theorem IntKeys.put {kvs : List (Key × Z)} (h : IntKeys kvs) (i : Int) (z : Z) : IntKeys (putZ kvs (.inl i) z) := by
  unfold putZ
  split
  · intro kv m
    obtain ⟨y, m2, rfl⟩ := List.mem_map.mp m
    split
    · exact h y m2
    · exact h y m2
  · intro kv m
    rcases List.mem_append.mp m with m | m
    · exact h kv m
    · simp at m
      exact ⟨i, by rw [m]⟩
theorem IntKeys.drop {kvs : List (Key × Z)} (h : IntKeys kvs) (k : Key) : IntKeys (dropZ kvs k) := fun kv m => h kv (List.mem_filter.mp m).1
theorem IntKeys.ints : ∀ {kvs : List (Key × Z)}, IntKeys kvs → ∃ is : List Int, keyInts kvs = some is ∧ kvs.map (·.1) = is.map .inl ∧ is.length = kvs.length
  | [], _ => ⟨[], rfl, rfl, rfl⟩
  | (k, z) :: r, h => by
    obtain ⟨i, e⟩ := h (k, z) (by simp)
    obtain ⟨is, e1, e2, e3⟩ := IntKeys.ints (kvs := r) (fun kv m => h kv (by simp [m]))
    cases e
    exact ⟨i :: is, by simp [keyInts, e1], by simp [e2], by simp [e3]⟩
theorem valZ_mem {kvs : List (Key × Z)} {k : Key} (m : k ∈ kvs.map (·.1)) : ∃ z, valZ kvs k = some z := by
  obtain ⟨kv, m2, rfl⟩ := List.mem_map.mp m
  have : (kvs.find? fun x => decide (x.1 = kv.1)).isSome := by
    rw [List.find?_isSome]
    exact ⟨kv, m2, by simp⟩
  obtain ⟨x, e⟩ := Option.isSome_iff_exists.mp this
  exact ⟨x.2, by simp [valZ, e]⟩
/-! ### loops by steps -/
def WhOk (c : Ev → Mh → Res Bool) (b : Ev → Mh → Res Fl) (ρ : Ev) (h : Mh) (Q : Fl → Mh → Prop) : Prop := Ok (whileM c b ρ h) Q
theorem wh_step {c : Ev → Mh → Res Bool} {b : Ev → Mh → Res Fl} {Q : Fl → Mh → Prop} {ρ : Ev} {h : Mh}
    (s : Ok (c ρ h) fun t h1 => if t then Ok (b ρ h1) fun fl h2 => (match fl with
      | .nx ρ2 => Ok (whileM c b ρ2 h2) Q
      | .cont ρ2 => Ok (whileM c b ρ2 h2) Q
      | .brk ρ2 => Q (.nx ρ2) h2
      | .ret z => Q (.ret z) h2) else Q (.nx ρ) h1) : Ok (whileM c b ρ h) Q := by
  obtain ⟨t, h1, e1, q1⟩ := s.ex
  cases t with
  | false =>
    refine whileM_Ok 1 ?_
    rw [whileL, e1, Res.bind_ok]
    exact q1
  | true =>
    simp only [if_true] at q1
    obtain ⟨fl, h2, e2, q2⟩ := q1.ex
    cases fl with
    | nx ρ2 =>
      obtain ⟨n, en⟩ := whileM_ex c b ρ2 h2
      simp only [] at q2
      rw [en] at q2
      refine whileM_Ok (n + 1) ?_
      rw [whileL, e1, Res.bind_ok]
      simp only [if_true]
      rw [e2, Res.bind_ok]
      exact q2
    | cont ρ2 =>
      obtain ⟨n, en⟩ := whileM_ex c b ρ2 h2
      simp only [] at q2
      rw [en] at q2
      refine whileM_Ok (n + 1) ?_
      rw [whileL, e1, Res.bind_ok]
      simp only [if_true]
      rw [e2, Res.bind_ok]
      exact q2
    | brk ρ2 =>
      refine whileM_Ok 1 ?_
      rw [whileL, e1, Res.bind_ok]
      simp only [if_true]
      rw [e2, Res.bind_ok]
      exact q2
    | ret z =>
      refine whileM_Ok 1 ?_
      rw [whileL, e1, Res.bind_ok]
      simp only [if_true]
      rw [e2, Res.bind_ok]
      exact q2
/-- for over a countdown -/
theorem for_rrng {t : Z → Ev → Mh → Res Ev} {b : Ev → Mh → Res Fl} {Q : Fl → Mh → Prop} (I : Nat → Ev → Mh → Prop) {n : Nat} {ρ : Ev} {h : Mh} (b1 : n < 2 ^ 62) (h0 : I n ρ h)
    (step : ∀ i ρ h, i < n → I (i + 1) ρ h → Ok (t (.int (i : Int)) ρ h) fun ρ h => Ok (b ρ h) fun fl h => match fl with
      | .nx ρ => I i ρ h
      | .cont ρ => I i ρ h
      | .brk ρ => Q (.nx ρ) h
      | .ret z => Q (.ret z) h)
    (fin : ∀ ρ h, I 0 ρ h → Q (.nx ρ) h) : Ok (wkRev (.int (n : Int)) h) fun w h1 => Ok (forL w.still t b w.items ρ h1) Q := by
  show Ok (guard _ (.ok (⟨rrngZ n, fun _ => True⟩ : Wk) h)) _
  rw [Ok_guard, Ok_ok]
  refine And.intro (by omega) (for_inv (fun d ρ h => d.length ≤ n ∧ I (n - d.length) ρ h) ⟨Nat.zero_le _, h0⟩ (fun _ _ _ _ => trivial) (fun d z r ρ h e i => ?_) fun ρ h i => fin ρ h ?_)
  · have hl : d.length < n := by
      have := congrArg List.length e
      simp [rrngZ] at this
      omega
    have hz : z = .int ((n - d.length - 1 : Nat) : Int) := by
      have := congrArg (fun l => l[d.length]?) e
      simp [rrngZ, hl] at this
      rw [← this]
      congr 1
      omega
    subst hz
    refine (step (n - d.length - 1) ρ h (by omega) (by rw [show n - d.length - 1 + 1 = n - d.length by omega]; exact i.2)).mono fun ρ1 h1 q => q.mono fun fl h2 q => ?_
    have e1 : n - (d ++ [Z.int ((n - d.length - 1 : Nat) : Int)]).length = n - d.length - 1 := by simp; omega
    have e2 : (d ++ [Z.int ((n - d.length - 1 : Nat) : Int)]).length ≤ n := by simp; omega
    cases fl with
    | nx ρ => exact ⟨e2, by rw [e1]; exact q⟩
    | cont ρ => exact ⟨e2, by rw [e1]; exact q⟩
    | brk ρ => exact q
    | ret z => exact q
  · have := i.2
    simpa [rrngZ] using this
/-- for over a tuple -/
theorem for_tup {t : Z → Ev → Mh → Res Ev} {b : Ev → Mh → Res Fl} {Q : Fl → Mh → Prop} (I : List Z → Ev → Mh → Prop) {zs : List Z} {ρ : Ev} {h : Mh} (h0 : I [] ρ h)
    (step : ∀ d z r ρ h, zs = d ++ z :: r → I d ρ h → Ok (t z ρ h) fun ρ h => Ok (b ρ h) fun fl h => match fl with
      | .nx ρ => I (d ++ [z]) ρ h
      | .cont ρ => I (d ++ [z]) ρ h
      | .brk ρ => Q (.nx ρ) h
      | .ret z => Q (.ret z) h)
    (fin : ∀ ρ h, I zs ρ h → Q (.nx ρ) h) : Ok (wkSeq (.tup zs) h) fun w h1 => Ok (forL w.still t b w.items ρ h1) Q := by
  simp only [wkSeq, Ok_ok]
  exact for_inv I h0 (fun _ _ _ _ => trivial) step fin
/-- comprehension over a list or tuple -/
theorem comp_lst {t : Z → Ev → Mh → Res Ev} {c : Ev → Mh → Res Bool} {e : Ev → Mh → Res Z} {ρ : Ev} {Q : Z → Mh → Prop} (I : List Z → List Z → Mh → Prop) {a : Nat} {zs : List Z} {h : Mh} (ha : h[a]? = some (.lst zs))
    (h0 : I [] [] (h ++ [.lst []])) (hst : ∀ d o h1, I d o h1 → h1[a]? = some (.lst zs) ∧ h1[h.length]? = some (.lst o) ∧ o.length < sizeLine)
    (step : ∀ d z r o h1, zs = d ++ z :: r → I d o h1 → Ok (t z ρ h1) fun ρ1 h1 => Ok (c ρ1 h1) fun b h2 => if b then Ok (e ρ1 h2) fun y h3 => h3[h.length]? = some (.lst o) ∧ I (d ++ [z]) (o ++ [y]) (h3.set h.length (.lst (o ++ [y]))) else I (d ++ [z]) o h2)
    (fin : ∀ o h1, I zs o h1 → Q (.ob h.length) h1) : Ok (wkSeq (.ob a) h) fun w h1 => Ok (compL h1.length w.still t c e ρ w.items (h1 ++ [.lst []])) Q := by
  simp only [wkSeq, ha, Ok_ok]
  exact comp_inv I h0 hst step fin
/-- a comprehension whose test and value are plain -/
theorem comp_pure {D : Nat} {st : Mh → Prop} {t : Z → Ev → Mh → Res Ev} {c : Ev → Mh → Res Bool} {e : Ev → Mh → Res Z} {ρ : Ev} {Q : Z → Mh → Prop} (p : Z → Bool) (g : Z → Z) {zs : List Z} {h : Mh} (hD : D = h.length) (hl : zs.length < 1000000) (hst : ∀ o, st (h ++ [.lst o]))
    (step : ∀ z, z ∈ zs → ∀ o, Ok (t z ρ (h ++ [.lst o])) fun ρ1 h1 => Ok (c ρ1 h1) fun b h2 => h2 = h ++ [.lst o] ∧ b = p z ∧ (p z = true → Ok (e ρ1 (h ++ [.lst o])) fun y h3 => y = g z ∧ h3 = h ++ [.lst o]))
    (fin : Q (.ob h.length) (h ++ [.lst ((zs.filter p).map g)])) : Ok (compL D st t c e ρ zs (h ++ [.lst []])) Q := by
  subst hD
  refine comp_inv (fun d o h1 => h1 = h ++ [.lst o] ∧ o = (d.filter p).map g ∧ d.length ≤ zs.length) ⟨rfl, rfl, Nat.zero_le _⟩ ?_ ?_ ?_
  · rintro d o h1 ⟨rfl, rfl, hd⟩
    refine ⟨hst _, by simp, ?_⟩
    rw [line_eq, List.length_map]
    have := List.length_filter_le p d
    omega
  · rintro d z r o h1 ez ⟨rfl, rfl, hd⟩
    have hzl := congrArg List.length ez
    simp only [List.length_append, List.length_cons] at hzl
    refine (step z (by rw [ez]; simp) _).mono fun ρ1 h1 q => q.mono fun b h2 q => ?_
    obtain ⟨rfl, rfl, q⟩ := q
    cases hp : p z with
    | false =>
      simp only [Bool.false_eq_true, if_false]
      exact ⟨trivial, by simp [List.filter_append, hp], by simp; omega⟩
    | true =>
      simp only [if_true]
      refine (q hp).mono fun y h3 q => ?_
      obtain ⟨rfl, rfl⟩ := q
      exact ⟨by simp, by simp, by simp [List.filter_append, hp], by simp; omega⟩
  · rintro o h1 ⟨rfl, rfl, _⟩
    exact fin
theorem cutZ_drop (xs : List Z) (n : Nat) : cutZ xs (some (n : Int)) none = xs.drop n := by
  simp only [cutZ, HT.sIx_nat, HT.sIx_none]
  by_cases h : n ≤ xs.length
  · rw [Nat.min_eq_left h, List.take_of_length_le]
    simp
  · rw [Nat.min_eq_right (by omega), List.drop_eq_nil_of_le (by omega), List.drop_eq_nil_of_le (by omega)]
    simp
theorem cutZ_take (xs : List Z) (n : Nat) : cutZ xs none (some (n : Int)) = xs.take n := by
  simp only [cutZ, HT.sIx_nat, HT.sIx_none, List.drop_zero, Nat.sub_zero]
  by_cases h : n ≤ xs.length
  · rw [Nat.min_eq_left h]
  · rw [Nat.min_eq_right (by omega), List.take_length, List.take_of_length_le (by omega)]
theorem line_0 : (0 ≤ sizeLine) = True := eq_true (le_line (by omega))
theorem line_1 : (1 ≤ sizeLine) = True := eq_true (le_line (by omega))
theorem line_2 : (2 ≤ sizeLine) = True := eq_true (le_line (by omega))
theorem line_3 : (3 ≤ sizeLine) = True := eq_true (le_line (by omega))
theorem line_4 : (4 ≤ sizeLine) = True := eq_true (le_line (by omega))
theorem line_5 : (5 ≤ sizeLine) = True := eq_true (le_line (by omega))
theorem line_6 : (6 ≤ sizeLine) = True := eq_true (le_line (by omega))
theorem line_7 : (7 ≤ sizeLine) = True := eq_true (le_line (by omega))
theorem line_8 : (8 ≤ sizeLine) = True := eq_true (le_line (by omega))
theorem line_9 : (9 ≤ sizeLine) = True := eq_true (le_line (by omega))
end Zm
-- def of the law: statement [161] of the top; 47 defs
namespace K88
open PySem PySem.Spec PyProof.Rows L2 Zm
def top (i : Nat) : Stmt := PySem.Challenge.pw_segmentfs_k88_faults_of_needed_blocks.main.body.getD i (.Pass ⟨0, 0, 0, 0⟩)
abbrev s_is_payload : Stmt := top 7
abbrev s_payload_of : Stmt := top 8
abbrev s_Layout_init : Stmt := inClass (top 21) 0
abbrev s_parts_of : Stmt := top 22
abbrev s_address_at : Stmt := top 23
abbrev s_segment_of : Stmt := top 24
abbrev s_place_of : Stmt := top 25
abbrev s_region_start : Stmt := top 26
abbrev s_Counts_init : Stmt := inClass (top 28) 0
abbrev s_empty_table : Stmt := top 30
abbrev s_commit_to_table : Stmt := top 31
abbrev s_slots_after : Stmt := top 32
abbrev s_move_in_table : Stmt := top 33
abbrev s_Log_init : Stmt := inClass (top 35) 0
abbrev s_payload_at : Stmt := top 36
abbrev s_contents_of : Stmt := top 37
abbrev s_live_addresses : Stmt := top 38
abbrev s_enter_segment : Stmt := top 39
abbrev s_take_batch : Stmt := top 40
abbrev s_point_fault : Stmt := top 42
abbrev s_is_misplaced : Stmt := top 43
abbrev s_tables_of : Stmt := top 44
abbrev s_doubled_addresses : Stmt := top 45
abbrev s_free_behind : Stmt := top 46
abbrev s_shared_superblock : Stmt := top 47
abbrev s_table_fault : Stmt := top 48
abbrev s_block_fault : Stmt := top 49
abbrev s_superblock_in : Stmt := top 113
abbrev s_files_fault : Stmt := top 118
abbrev s_read_numbers : Stmt := top 141
abbrev s_checkpoint_in : Stmt := top 143
abbrev s_batch_at : Stmt := top 144
abbrev s_take_next : Stmt := top 145
abbrev s_recover : Stmt := top 146
abbrev s_contents_fault : Stmt := top 149
abbrev s_log_fault : Stmt := top 151
abbrev s_check : Stmt := top 152
abbrev s_Device_init : Stmt := inClass (top 154) 0
abbrev s_Device_read : Stmt := inClass (top 154) 1
abbrev s_Device_write : Stmt := inClass (top 154) 2
abbrev s_Device_count_command : Stmt := inClass (top 154) 11
abbrev s__law_number : Stmt := top 156
abbrev s__law_take : Stmt := top 157
abbrev s__law_device : Stmt := top 158
abbrev s__law_good : Stmt := top 159
abbrev s__law_bad : Stmt := top 160
abbrev s_law : Stmt := top 161
abbrev s_Device_written_blocks : Stmt := inClass (top 154) 9
def m_is_payload : MSs := (.cons (.ret (.and (.cmp .isnot (.var 0) (.lit .non)) (.cmp .in_ (.idx (.var 0) (.lit (.int 0))) (.tup (.cons (.glb "DATA" (.int 3)) (.cons (.glb "NODE" (.int 4)) .nil)))))) .nil)
def m_payload_of_1 : MSs := (.cons (.ret (.lit .non)) .nil)
def m_payload_of : MSs := (.cons (.ite (.tr (.call 0 (.cons (.var 0) .nil))) (.cons (.ret (.tup (.cons (.idx (.var 0) (.lit (.int 0))) (.cons (.idx (.var 0) (.lit (.int 3))) .nil)))) .nil) .nil) m_payload_of_1)
def m_Layout_init_13 : MSs := (.cons (.asg (.fld (.var 0) 1) (.bin .add (.bin .mul (.lit (.int 2)) (.fld (.var 0) 0)) (.bin .mul (.var 1) (.var 2)))) .nil)
def m_Layout_init_12 : MSs := (.cons (.asg (.fld (.var 0) 0) (.call 3 (.cons (.bin .mul (.lit (.int 2)) (.var 4)) (.cons (.var 3) .nil)))) m_Layout_init_13)
def m_Layout_init_11 : MSs := (.cons (.asg (.nm 4) (.bin .add (.bin .add (.bin .add (.bin .mul (.bin .add (.glb "SLOTS" (.int 3)) (.lit (.int 1))) (.fld (.var 0) 2)) (.glb "SLOTS" (.int 3))) (.lit (.int 3))) (.var 1))) m_Layout_init_12)
def m_Layout_init_10 : MSs := (.cons (.ite (.tr (.cmp .gt (.bin .add (.bin .add (.glb "HEAD_OCTETS" (.int 16)) (.bin .mul (.lit (.int 2)) (.fld (.var 0) 3))) (.call 3 (.cons (.fld (.var 0) 2) (.cons (.lit (.int 8)) .nil)))) (.var 3))) (.cons (.never) .nil) .nil) m_Layout_init_11)
def m_Layout_init_9 : MSs := (.cons (.asg (.fld (.var 0) 4) (.bin .div (.var 3) (.lit (.int 2)))) m_Layout_init_10)
def m_Layout_init_8 : MSs := (.cons (.asg (.fld (.var 0) 2) (.bin .add (.fld (.var 0) 5) (.fld (.var 0) 3))) m_Layout_init_9)
def m_Layout_init_7 : MSs := (.cons (.asg (.fld (.var 0) 5) (.bin .mul (.bin .sub (.var 1) (.lit (.int 2))) (.fld (.var 0) 3))) m_Layout_init_8)
def m_Layout_init_6 : MSs := (.cons (.asg (.fld (.var 0) 3) (.bin .sub (.var 2) (.lit (.int 1)))) m_Layout_init_7)
def m_Layout_init_5 : MSs := (.cons (.asg (.fld (.var 0) 6) (.var 3)) m_Layout_init_6)
def m_Layout_init_4 : MSs := (.cons (.asg (.fld (.var 0) 7) (.var 2)) m_Layout_init_5)
def m_Layout_init_3 : MSs := (.cons (.asg (.fld (.var 0) 8) (.var 1)) m_Layout_init_4)
def m_Layout_init_2 : MSs := (.cons (.ite (.tr (.cmp .notin (.var 3) (.tup (.cons (.lit (.int 64)) (.cons (.lit (.int 128)) (.cons (.lit (.int 256)) .nil)))))) (.cons (.never) .nil) .nil) m_Layout_init_3)
def m_Layout_init_1 : MSs := (.cons (.ite (.or (.tr (.cmp .lt (.var 2) (.glb "LEAST_BLOCKS" (.int 16)))) (.tr (.cmp .gt (.var 2) (.glb "MOST_BLOCKS" (.int 32))))) (.cons (.never) .nil) .nil) m_Layout_init_2)
def m_Layout_init : MSs := (.cons (.ite (.or (.tr (.cmp .lt (.var 1) (.glb "LEAST_SEGMENTS" (.int 4)))) (.tr (.cmp .gt (.var 1) (.glb "MOST_SEGMENTS" (.int 16))))) (.cons (.never) .nil) .nil) m_Layout_init_1)
def m_parts_of : MSs := (.cons (.ret (.bin .div (.bin .sub (.bin .add (.var 0) (.var 1)) (.lit (.int 1))) (.var 1))) .nil)
def m_address_at : MSs := (.cons (.ret (.bin .add (.bin .add (.bin .mul (.lit (.int 2)) (.fld (.var 0) 0)) (.bin .mul (.var 1) (.fld (.var 0) 7))) (.var 2))) .nil)
def m_segment_of_2 : MSs := (.cons (.ret (.bin .div (.bin .sub (.var 1) (.var 2)) (.fld (.var 0) 7))) .nil)
def m_segment_of_1 : MSs := (.cons (.ite (.or (.tr (.cmp .lt (.var 1) (.var 2))) (.tr (.cmp .ge (.var 1) (.fld (.var 0) 1)))) (.cons (.ret (.lit .non)) .nil) .nil) m_segment_of_2)
def m_segment_of : MSs := (.cons (.asg (.nm 2) (.bin .mul (.lit (.int 2)) (.fld (.var 0) 0))) m_segment_of_1)
def m_place_of_2 : MSs := (.cons (.ret (.bin .mod (.bin .sub (.var 1) (.var 2)) (.fld (.var 0) 7))) .nil)
def m_place_of_1 : MSs := (.cons (.ite (.or (.tr (.cmp .lt (.var 1) (.var 2))) (.tr (.cmp .ge (.var 1) (.fld (.var 0) 1)))) (.cons (.ret (.lit .non)) .nil) .nil) m_place_of_2)
def m_place_of : MSs := (.cons (.asg (.nm 2) (.bin .mul (.lit (.int 2)) (.fld (.var 0) 0))) m_place_of_1)
def m_region_start : MSs := (.cons (.ret (.bin .mul (.var 1) (.fld (.var 0) 0))) .nil)
def m_Counts_init_6 : MSs := (.cons (.asg (.fld (.var 0) 9) (.lit (.int 0))) .nil)
def m_Counts_init_5 : MSs := (.cons (.asg (.fld (.var 0) 10) (.lit (.int 0))) m_Counts_init_6)
def m_Counts_init_4 : MSs := (.cons (.asg (.fld (.var 0) 11) (.lit (.int 0))) m_Counts_init_5)
def m_Counts_init_3 : MSs := (.cons (.asg (.fld (.var 0) 12) (.lit (.int 0))) m_Counts_init_4)
def m_Counts_init_2 : MSs := (.cons (.asg (.fld (.var 0) 13) (.lit (.int 0))) m_Counts_init_3)
def m_Counts_init_1 : MSs := (.cons (.asg (.fld (.var 0) 14) (.lit (.int 0))) m_Counts_init_2)
def m_Counts_init : MSs := (.cons (.asg (.fld (.var 0) 15) (.lit (.int 0))) m_Counts_init_1)
def m_empty_table : MSs := (.cons (.ret (.bin .mul (.lst (.cons (.lit (.int 0)) .nil)) (.bin .add (.fld (.var 0) 2) (.lit (.int 1))))) .nil)
def m_commit_to_table_4 : MSs := (.cons (.ret (.comp [6, 8] (.tup [6, 8]) (.enum (.var 4)) .no (.ite (.tr (.idx (.var 7) (.var 6))) (.var 8) (.lit (.int 0))))) .nil)
def m_commit_to_table_3b0 : MSs := (.cons (.ite (.tr (.cmp2 .lt .lt (.lit (.int 0)) (.var 6) (.bf .len (.cons (.var 4) .nil)))) (.cons (.asg (.sub (.var 7) (.var 6)) (.lit (.bl true))) .nil) .nil) .nil)
def m_commit_to_table_3 : MSs := (.cons (.for (.nm 6) (.seq (.var 3)) m_commit_to_table_3b0) m_commit_to_table_4)
def m_commit_to_table_2 : MSs := (.cons (.asg (.nm 7) (.bin .mul (.lst (.cons (.lit (.bl false)) .nil)) (.bf .len (.cons (.var 4) .nil)))) m_commit_to_table_3)
def m_commit_to_table_1b0 : MSs := (.cons (.ite (.tr (.cmp2 .lt .lt (.lit (.int 0)) (.var 6) (.bf .len (.cons (.var 4) .nil)))) (.cons (.asg (.sub (.var 4) (.var 6)) (.bin .add (.var 1) (.var 5))) .nil) .nil) .nil)
def m_commit_to_table_1 : MSs := (.cons (.for (.tup [5, 6]) (.enum (.var 2)) m_commit_to_table_1b0) m_commit_to_table_2)
def m_commit_to_table : MSs := (.cons (.asg (.nm 4) (.bf .list (.cons (.var 0) .nil))) m_commit_to_table_1)
def m_slots_after_2 : MSs := (.cons (.ret (.var 3)) .nil)
def m_slots_after_1e0 : MSs := (.cons (.ite (.tr (.cmp2 .lt .le (.glb "SLOTS" (.int 3)) (.var 2) (.bin .mul (.lit (.int 2)) (.glb "SLOTS" (.int 3))))) (.cons (.asg (.sub (.var 3) (.bin .sub (.bin .sub (.var 2) (.glb "SLOTS" (.int 3))) (.lit (.int 1)))) (.lit .non)) .nil) .nil) .nil)
def m_slots_after_1 : MSs := (.cons (.ite (.tr (.cmp2 .le .le (.lit (.int 1)) (.var 2) (.glb "SLOTS" (.int 3)))) (.cons (.asg (.sub (.var 3) (.bin .sub (.var 2) (.lit (.int 1)))) (.bf .list (.cons (.var 1) .nil))) .nil) m_slots_after_1e0) m_slots_after_2)
def m_slots_after : MSs := (.cons (.asg (.nm 3) (.comp [4] (.nm 4) (.seq (.var 0)) .no (.ite (.tr (.cmp .is_ (.var 4) (.lit .non))) (.lit .non) (.bf .list (.cons (.var 4) .nil))))) m_slots_after_1)
def m_move_in_table_2 : MSs := (.cons (.ret (.comp [5] (.nm 5) (.seq (.var 0)) .no (.bm .dget2 (.var 3) (.cons (.var 5) (.cons (.var 5) .nil))))) .nil)
def m_move_in_table_1b0 : MSs := (.cons (.ite (.and (.tr (.cmp .ne (.var 5) (.lit (.int 0)))) (.tr (.cmp .notin (.var 5) (.var 3)))) (.cons (.asg (.sub (.var 3) (.var 5)) (.bin .add (.var 1) (.var 4))) .nil) .nil) .nil)
def m_move_in_table_1 : MSs := (.cons (.for (.tup [4, 5]) (.enum (.var 2)) m_move_in_table_1b0) m_move_in_table_2)
def m_move_in_table : MSs := (.cons (.asg (.nm 3) .dct0) m_move_in_table_1)
def m_Log_init_9 : MSs := (.cons (.asg (.fld (.var 0) 16) (.mk 1 8 .nil)) .nil)
def m_Log_init_8 : MSs := (.cons (.asg (.fld (.var 0) 17) (.lit (.int 1))) m_Log_init_9)
def m_Log_init_7 : MSs := (.cons (.asg (.fld (.var 0) 18) (.lit (.int 0))) m_Log_init_8)
def m_Log_init_6 : MSs := (.cons (.asg (.fld (.var 0) 19) (.lst .nil)) m_Log_init_7)
def m_Log_init_5 : MSs := (.cons (.asg (.fld (.var 0) 20) (.lit (.int 0))) m_Log_init_6)
def m_Log_init_4 : MSs := (.cons (.asg (.fld (.var 0) 21) (.lit (.int 0))) m_Log_init_5)
def m_Log_init_3 : MSs := (.cons (.asg (.fld (.var 0) 22) (.bin .mul (.lst (.cons (.lit .non) .nil)) (.glb "SLOTS" (.int 3)))) m_Log_init_4)
def m_Log_init_2 : MSs := (.cons (.asg (.fld (.var 0) 24) (.call 9 (.cons (.fld (.var 1) 23) .nil))) m_Log_init_3)
def m_Log_init_1 : MSs := (.cons (.asg (.fld (.var 0) 23) (.fld (.var 1) 23)) m_Log_init_2)
def m_Log_init : MSs := (.cons (.asg (.fld (.var 0) 25) (.var 1)) m_Log_init_1)
def m_payload_at : MSs := (.cons (.ret (.call 1 (.cons (.mth 3 38 26 (.fld (.var 0) 25) (.cons (.var 1) .nil)) .nil))) .nil)
def m_contents_of_2 : MSs := (.cons (.ret (.var 2)) .nil)
def m_contents_of_1b0b1 : MSs := (.cons (.ite (.tr (.cmp .isnot (.var 5) (.lit .non))) (.cons (.asg (.sub (.var 2) (.var 3)) (.var 5)) .nil) .nil) .nil)
def m_contents_of_1b0b0 : MSs := (.cons (.asg (.nm 5) (.call 14 (.cons (.var 0) (.cons (.var 4) .nil)))) m_contents_of_1b0b1)
def m_contents_of_1b0 : MSs := (.cons (.ite (.tr (.cmp .ne (.var 4) (.lit (.int 0)))) m_contents_of_1b0b0 .nil) .nil)
def m_contents_of_1 : MSs := (.cons (.for (.tup [3, 4]) (.enum (.var 1)) m_contents_of_1b0) m_contents_of_2)
def m_contents_of : MSs := (.cons (.asg (.nm 2) .dct0) m_contents_of_1)
def m_live_addresses_2 : MSs := (.cons (.ret (.bf .sorted (.cons (.var 1) .nil))) .nil)
def m_live_addresses_1b0b0b0 : MSs := (.cons (.ite (.tr (.cmp .ne (.var 3) (.lit (.int 0)))) (.cons (.asg (.sub (.var 1) (.var 3)) (.lit (.bl true))) .nil) .nil) .nil)
def m_live_addresses_1b0b0 : MSs := (.cons (.for (.nm 3) (.seq (.var 2)) m_live_addresses_1b0b0b0) .nil)
def m_live_addresses_1b0 : MSs := (.cons (.ite (.tr (.cmp .isnot (.var 2) (.lit .non))) m_live_addresses_1b0b0 .nil) .nil)
def m_live_addresses_1 : MSs := (.cons (.for (.nm 2) (.seq (.bin .add (.lst (.cons (.fld (.var 0) 24) .nil)) (.fld (.var 0) 22))) m_live_addresses_1b0) m_live_addresses_2)
def m_live_addresses : MSs := (.cons (.asg (.nm 1) .dct0) m_live_addresses_1)
def m_enter_segment_2 : MSs := (.cons (.asg (.fld (.var 0) 20) (.lit (.int 0))) .nil)
def m_enter_segment_1 : MSs := (.cons (.asg (.fld (.var 0) 19) (.slc (.fld (.var 0) 19) (.some (.lit (.int 1))) .no)) m_enter_segment_2)
def m_enter_segment : MSs := (.cons (.asg (.fld (.var 0) 21) (.idx (.fld (.var 0) 19) (.lit (.int 0)))) m_enter_segment_1)
def m_take_batch_2 : MSs := (.cons (.asg (.fld (.var 0) 20) (.bin .add (.bin .add (.fld (.var 0) 20) (.lit (.int 1))) (.var 7))) .nil)
def m_take_batch_1b3 : MSs := (.cons (.asg (.fld (.var 0) 22) (.call 11 (.cons (.fld (.var 0) 22) (.cons (.fld (.var 0) 24) (.cons (.var 6) .nil))))) .nil)
def m_take_batch_1b2 : MSs := (.cons (.asg (.fld (.var 0) 24) (.call 10 (.cons (.fld (.var 0) 24) (.cons (.var 3) (.cons (.var 4) (.cons (.var 5) .nil)))))) m_take_batch_1b3)
def m_take_batch_1b1 : MSs := (.cons (.asg (.nm 7) (.bf .len (.cons (.var 4) .nil))) m_take_batch_1b2)
def m_take_batch_1b0 : MSs := (.cons (.asg (.tup [4, 5, 6]) (.var 2)) m_take_batch_1b1)
def m_take_batch_1e2 : MSs := (.cons (.asg (.fld (.var 0) 22) (.comp [8] (.nm 8) (.seq (.fld (.var 0) 22)) .no (.ite (.tr (.cmp .is_ (.var 8) (.lit .non))) (.lit .non) (.call 12 (.cons (.var 8) (.cons (.var 3) (.cons (.var 2) .nil))))))) .nil)
def m_take_batch_1e1 : MSs := (.cons (.asg (.fld (.var 0) 24) (.call 12 (.cons (.fld (.var 0) 24) (.cons (.var 3) (.cons (.var 2) .nil))))) m_take_batch_1e2)
def m_take_batch_1e0 : MSs := (.cons (.asg (.nm 7) (.bf .len (.cons (.var 2) .nil))) m_take_batch_1e1)
def m_take_batch_1 : MSs := (.cons (.ite (.tr (.cmp .eq (.var 1) (.glb "COMMIT" (.int 1)))) m_take_batch_1b0 m_take_batch_1e0) m_take_batch_2)
def m_take_batch : MSs := (.cons (.asg (.nm 3) (.bin .add (.call 4 (.cons (.fld (.var 0) 23) (.cons (.fld (.var 0) 21) (.cons (.fld (.var 0) 20) .nil)))) (.lit (.int 1)))) m_take_batch_1)
def m_point_fault_6 : MSs := (.cons (.ret (.lit .non)) .nil)
def m_point_fault_5b0 : MSs := (.cons (.ite (.tr (.cmp .in_ (.idx (.var 3) (.var 4)) (.slc (.var 3) (.some (.bin .add (.var 4) (.lit (.int 1)))) .no))) (.cons (.ret (.tup (.cons (.lit (.str "a segment is free twice")) (.cons (.idx (.var 3) (.var 4)) .nil)))) .nil) .nil) .nil)
def m_point_fault_5 : MSs := (.cons (.for (.nm 4) (.rng1 (.bf .len (.cons (.var 3) .nil))) m_point_fault_5b0) m_point_fault_6)
def m_point_fault_4 : MSs := (.cons (.asg (.nm 3) (.bin .add (.lst (.cons (.fld (.var 0) 21) .nil)) (.fld (.var 0) 19))) m_point_fault_5)
def m_point_fault_3b0 : MSs := (.cons (.ite (.tr (.cmp .ge (.var 2) (.fld (.var 1) 8))) (.cons (.ret (.tup (.cons (.lit (.str "no such segment")) (.cons (.var 2) .nil)))) .nil) .nil) .nil)
def m_point_fault_3 : MSs := (.cons (.for (.nm 2) (.seq (.fld (.var 0) 19)) m_point_fault_3b0) m_point_fault_4)
def m_point_fault_2 : MSs := (.cons (.ite (.tr (.cmp .gt (.fld (.var 0) 20) (.fld (.var 1) 7))) (.cons (.ret (.tup (.cons (.lit (.str "no such place")) (.cons (.fld (.var 0) 20) .nil)))) .nil) .nil) m_point_fault_3)
def m_point_fault_1 : MSs := (.cons (.ite (.tr (.cmp .ge (.fld (.var 0) 21) (.fld (.var 1) 8))) (.cons (.ret (.tup (.cons (.lit (.str "no such head")) (.cons (.fld (.var 0) 21) .nil)))) .nil) .nil) m_point_fault_2)
def m_point_fault : MSs := (.cons (.asg (.nm 1) (.fld (.var 0) 23)) m_point_fault_1)
def m_is_misplaced_3 : MSs := (.cons (.ret (.or (.cmp .eq (.var 3) (.lit (.int 0))) (.and (.cmp .eq (.var 2) (.fld (.var 0) 21)) (.cmp .ge (.var 3) (.fld (.var 0) 20))))) .nil)
def m_is_misplaced_2 : MSs := (.cons (.asg (.nm 3) (.call 6 (.cons (.fld (.var 0) 23) (.cons (.var 1) .nil)))) m_is_misplaced_3)
def m_is_misplaced_1 : MSs := (.cons (.ite (.or (.tr (.cmp .is_ (.var 2) (.lit .non))) (.tr (.cmp .in_ (.var 2) (.fld (.var 0) 19)))) (.cons (.ret (.lit (.bl true))) .nil) .nil) m_is_misplaced_2)
def m_is_misplaced : MSs := (.cons (.asg (.nm 2) (.call 5 (.cons (.fld (.var 0) 23) (.cons (.var 1) .nil)))) m_is_misplaced_1)
def m_tables_of : MSs := (.cons (.ret (.bin .add (.lst (.cons (.fld (.var 0) 24) .nil)) (.comp [1] (.nm 1) (.seq (.fld (.var 0) 22)) (.some (.tr (.cmp .isnot (.var 1) (.lit .non)))) (.var 1)))) .nil)
def m_doubled_addresses_3 : MSs := (.cons (.ret (.var 2)) .nil)
def m_doubled_addresses_2b0b1 : MSs := (.cons (.ite (.and (.tr (.cmp .ne (.var 5) (.lit (.int 0)))) (.tr (.cmp .ne (.bm .dsetd (.var 1) (.cons (.var 5) (.cons (.var 4) .nil))) (.var 4)))) (.cons (.expr (.bm .append (.var 2) (.cons (.var 5) .nil))) .nil) .nil) .nil)
def m_doubled_addresses_2b0b0 : MSs := (.cons (.asg (.nm 5) (.idx (.var 3) (.var 4))) m_doubled_addresses_2b0b1)
def m_doubled_addresses_2b0 : MSs := (.cons (.for (.nm 4) (.rng2 (.lit (.int 1)) (.bf .len (.cons (.var 3) .nil))) m_doubled_addresses_2b0b0) .nil)
def m_doubled_addresses_2 : MSs := (.cons (.for (.nm 3) (.seq (.call 21 (.cons (.var 0) .nil))) m_doubled_addresses_2b0) m_doubled_addresses_3)
def m_doubled_addresses_1 : MSs := (.cons (.asg (.nm 2) (.lst .nil)) m_doubled_addresses_2)
def m_doubled_addresses : MSs := (.cons (.asg (.nm 1) .dct0) m_doubled_addresses_1)
def m_free_behind_3 : MSs := (.cons (.ret (.var 3)) .nil)
def m_free_behind_2b0 : MSs := (.cons (.ite (.and (.tr (.cmp .ne (.var 4) (.fld (.var 0) 21))) (.tr (.cmp .notin (.var 4) (.var 2)))) (.cons (.aug 3 .addI (.lit (.int 1))) .nil) .nil) .nil)
def m_free_behind_2 : MSs := (.cons (.for (.nm 4) (.rng1 (.fld (.fld (.var 0) 23) 8)) m_free_behind_2b0) m_free_behind_3)
def m_free_behind_1 : MSs := (.cons (.asg (.nm 3) (.lit (.int 0))) m_free_behind_2)
def m_free_behind : MSs := (.cons (.asg (.nm 2) (.dcomp [5] (.nm 5) (.seq (.var 1)) .no (.call 5 (.cons (.fld (.var 0) 23) (.cons (.var 5) .nil))) (.lit (.bl true)))) m_free_behind_1)
def m_shared_superblock_2 : MSs := (.cons (.ret (.lit (.int 0))) .nil)
def m_shared_superblock_1b0b1 : MSs := (.cons (.expr (.bm .append (.var 1) (.cons (.idx (.var 2) (.lit (.int 1))) .nil))) .nil)
def m_shared_superblock_1b0b0 : MSs := (.cons (.ite (.and (.tr (.cmp .ne (.idx (.var 2) (.lit (.int 1))) (.lit (.int 0)))) (.tr (.cmp .in_ (.idx (.var 2) (.lit (.int 1))) (.var 1)))) (.cons (.ret (.idx (.var 2) (.lit (.int 1)))) .nil) .nil) m_shared_superblock_1b0b1)
def m_shared_superblock_1b0 : MSs := (.cons (.ite (.tr (.cmp .isnot (.var 2) (.lit .non))) m_shared_superblock_1b0b0 .nil) .nil)
def m_shared_superblock_1 : MSs := (.cons (.for (.nm 2) (.seq (.fld (.var 0) 22)) m_shared_superblock_1b0) m_shared_superblock_2)
def m_shared_superblock : MSs := (.cons (.asg (.nm 1) (.lst .nil)) m_shared_superblock_1)
def m_table_fault_10 : MSs := (.cons (.ret (.lit .non)) .nil)
def m_table_fault_9 : MSs := (.cons (.ite (.tr (.cmp .ne (.var 5) (.lit (.int 0)))) (.cons (.ret (.tup (.cons (.lit (.str "two snapshots share a superblock")) (.cons (.var 5) .nil)))) .nil) .nil) m_table_fault_10)
def m_table_fault_8 : MSs := (.cons (.asg (.nm 5) (.call 24 (.cons (.var 0) .nil))) m_table_fault_9)
def m_table_fault_7 : MSs := (.cons (.ite (.tr (.cmp .eq (.call 23 (.cons (.var 0) (.cons (.var 2) .nil))) (.lit (.int 0)))) (.cons (.ret (.tup (.cons (.lit (.str "no segment can be free")) (.cons (.lit (.int 0)) .nil)))) .nil) .nil) m_table_fault_8)
def m_table_fault_6 : MSs := (.cons (.ite (.tr (.cmp .gt (.bf .len (.cons (.var 2) .nil)) (.fld (.fld (.var 0) 23) 5))) (.cons (.ret (.tup (.cons (.lit (.str "too many blocks")) (.cons (.bf .len (.cons (.var 2) .nil)) .nil)))) .nil) .nil) m_table_fault_7)
def m_table_fault_5 : MSs := (.cons (.ite (.tr (.var 4)) (.cons (.ret (.tup (.cons (.lit (.str "an address is used twice")) (.cons (.bf .min1 (.cons (.var 4) .nil)) .nil)))) .nil) .nil) m_table_fault_6)
def m_table_fault_4 : MSs := (.cons (.asg (.nm 4) (.call 22 (.cons (.var 0) .nil))) m_table_fault_5)
def m_table_fault_3b0 : MSs := (.cons (.ite (.tr (.call 20 (.cons (.var 0) (.cons (.var 3) .nil)))) (.cons (.ret (.tup (.cons (.lit (.str "a live block is misplaced")) (.cons (.var 3) .nil)))) .nil) .nil) .nil)
def m_table_fault_3 : MSs := (.cons (.for (.nm 3) (.seq (.var 2)) m_table_fault_3b0) m_table_fault_4)
def m_table_fault_2 : MSs := (.cons (.asg (.nm 2) (.call 16 (.cons (.var 0) .nil))) m_table_fault_3)
def m_table_fault_1 : MSs := (.cons (.ite (.tr (.cmp .isnot (.var 1) (.lit .non))) (.cons (.ret (.var 1)) .nil) .nil) m_table_fault_2)
def m_table_fault : MSs := (.cons (.asg (.nm 1) (.call 19 (.cons (.var 0) .nil))) m_table_fault_1)
def m_block_fault_1 : MSs := (.cons (.ret (.lit .non)) .nil)
def m_block_fault_0b2 : MSs := (.cons (.ite (.and (.tr (.cmp .eq (.idx (.var 2) (.lit (.int 0))) (.glb "NODE" (.int 4)))) (.tr (.cmp .gt (.bf .max1 (.cons (.idx (.var 2) (.lit (.int 1))) .nil)) (.fld (.fld (.var 0) 23) 2)))) (.cons (.ret (.tup (.cons (.lit (.str "a block does not fit the layout")) (.cons (.var 1) .nil)))) .nil) .nil) .nil)
def m_block_fault_0b1 : MSs := (.cons (.ite (.tr (.cmp .is_ (.var 2) (.lit .non))) (.cons (.ret (.tup (.cons (.lit (.str "a needed block is no payload")) (.cons (.var 1) .nil)))) .nil) .nil) m_block_fault_0b2)
def m_block_fault_0b0 : MSs := (.cons (.asg (.nm 2) (.call 14 (.cons (.var 0) (.cons (.var 1) .nil)))) m_block_fault_0b1)
def m_block_fault : MSs := (.cons (.for (.nm 1) (.seq (.call 16 (.cons (.var 0) .nil))) m_block_fault_0b0) m_block_fault_1)
def m_superblock_in_4 : MSs := (.cons (.ret (.var 2)) .nil)
def m_superblock_in_3 : MSs := (.cons (.ite (.or (.tr (.cmp .is_ (.var 2) (.lit .non))) (.tr (.cmp .gt (.fld (.var 2) 27) (.glb "MOST_OCTETS" (.int 1048576))))) (.cons (.ret (.lit .non)) .nil) .nil) m_superblock_in_4)
def m_superblock_in_2 : MSs := (.cons (.never) m_superblock_in_3)
def m_superblock_in_1 : MSs := (.cons (.ite (.or (.tr (.cmp .is_ (.var 1) (.lit .non))) (.tr (.cmp .ne (.idx (.var 1) (.lit (.int 0))) (.glb "DATA" (.int 3))))) (.cons (.ret (.lit .non)) .nil) .nil) m_superblock_in_2)
def m_superblock_in : MSs := (.cons (.asg (.nm 1) (.bm .dget1 (.var 0) (.cons (.lit (.int 1)) .nil))) m_superblock_in_1)
def m_files_fault_7 : MSs := (.cons (.never) .nil)
def m_files_fault_6 : MSs := (.cons (.never) m_files_fault_7)
def m_files_fault_5 : MSs := (.cons (.never) m_files_fault_6)
def m_files_fault_4 : MSs := (.cons (.ite (.tr (.cmp .isnot (.var 3) (.lit .non))) (.cons (.ret (.var 3)) .nil) .nil) m_files_fault_5)
def m_files_fault_3 : MSs := (.cons (.ite (.tr (.cmp .is_ (.var 3) (.lit .non))) (.cons (.never) .nil) .nil) m_files_fault_4)
def m_files_fault_2 : MSs := (.cons (.never) m_files_fault_3)
def m_files_fault_1 : MSs := (.cons (.ite (.tr (.cmp .is_ (.var 2) (.lit .non))) (.cons (.ret (.tup (.cons (.lit (.str "no superblock")) (.cons (.lit (.int 1)) .nil)))) .nil) .nil) m_files_fault_2)
def m_files_fault : MSs := (.cons (.asg (.nm 2) (.call 27 (.cons (.var 1) .nil))) m_files_fault_1)
def m_read_numbers_8 : MSs := (.cons (.ret (.tup (.cons (.var 3) (.cons (.var 5) (.cons (.var 9) (.cons (.var 10) (.cons (.slc (.var 1) (.some (.bin .add (.var 4) (.lit (.int 3)))) (.some (.var 12))) .nil))))))) .nil)
def m_read_numbers_7 : MSs := (.cons (.ite (.or (.tr (.cmp .gt (.var 11) (.fld (.var 0) 8))) (.tr (.cmp .gt (.maxd (.slc (.var 1) (.some (.var 12)) .no) (.lit (.int 0))) (.lit (.int 0))))) (.cons (.ret (.lit .non)) .nil) .nil) m_read_numbers_8)
def m_read_numbers_6 : MSs := (.cons (.asg (.nm 12) (.bin .add (.bin .add (.var 4) (.lit (.int 3))) (.var 11))) m_read_numbers_7)
def m_read_numbers_5 : MSs := (.cons (.asg (.tup [9, 10, 11]) (.slc (.var 1) (.some (.var 4)) (.some (.bin .add (.var 4) (.lit (.int 3)))))) m_read_numbers_6)
def m_read_numbers_4b4 : MSs := (.cons (.ite (.tr (.cmp .eq (.var 7) (.lit (.int 1)))) (.cons (.expr (.bm .append (.var 5) (.cons (.bin .add (.lst (.cons (.lit (.int 0)) .nil)) (.var 8)) .nil))) .nil) (.cons (.expr (.bm .append (.var 5) (.cons (.lit .non) .nil))) .nil)) .nil)
def m_read_numbers_4b3 : MSs := (.cons (.ite (.or (.tr (.cmp .gt (.var 7) (.lit (.int 1)))) (.and (.tr (.cmp .eq (.var 7) (.lit (.int 0)))) (.tr (.cmp .gt (.bf .max1 (.cons (.var 8) .nil)) (.lit (.int 0)))))) (.cons (.ret (.lit .non)) .nil) .nil) m_read_numbers_4b4)
def m_read_numbers_4b2 : MSs := (.cons (.asg (.nm 4) (.bin .add (.bin .add (.var 4) (.lit (.int 1))) (.var 2))) m_read_numbers_4b3)
def m_read_numbers_4b1 : MSs := (.cons (.asg (.nm 8) (.slc (.var 1) (.some (.bin .add (.var 4) (.lit (.int 1)))) (.some (.bin .add (.bin .add (.var 4) (.lit (.int 1))) (.var 2))))) m_read_numbers_4b2)
def m_read_numbers_4b0 : MSs := (.cons (.asg (.nm 7) (.idx (.var 1) (.var 4))) m_read_numbers_4b1)
def m_read_numbers_4 : MSs := (.cons (.for (.nm 6) (.rng1 (.glb "SLOTS" (.int 3))) m_read_numbers_4b0) m_read_numbers_5)
def m_read_numbers_3 : MSs := (.cons (.asg (.nm 5) (.lst .nil)) m_read_numbers_4)
def m_read_numbers_2 : MSs := (.cons (.asg (.nm 4) (.var 2)) m_read_numbers_3)
def m_read_numbers_1 : MSs := (.cons (.asg (.nm 3) (.bin .add (.lst (.cons (.lit (.int 0)) .nil)) (.slc (.var 1) .no (.some (.var 2))))) m_read_numbers_2)
def m_read_numbers : MSs := (.cons (.asg (.nm 2) (.fld (.var 0) 2)) m_read_numbers_1)
def m_checkpoint_in_6 : MSs := (.cons (.ret (.tup (.cons (.idx (.var 4) (.lit (.int 1))) (.cons (.var 5) .nil)))) .nil)
def m_checkpoint_in_5 : MSs := (.cons (.ite (.tr (.cmp .is_ (.call 29 (.cons (.var 2) (.cons (.var 5) .nil))) (.lit .non))) (.cons (.ret (.lit .non)) .nil) .nil) m_checkpoint_in_6)
def m_checkpoint_in_4b2 : MSs := (.cons (.expr (.bm .extT (.var 5) (.cons (.idx (.var 7) (.lit (.int 3))) .nil))) .nil)
def m_checkpoint_in_4b1 : MSs := (.cons (.ite (.or (.tr (.cmp .is_ (.var 7) (.lit .non))) (.or (.tr (.cmp .ne (.idx (.var 7) (.lit (.int 0))) (.glb "PART" (.int 5)))) (.or (.tr (.cmp .ne (.idx (.var 7) (.lit (.int 1))) (.idx (.var 4) (.lit (.int 1))))) (.tr (.cmp .ne (.idx (.var 7) (.lit (.int 2))) (.var 6)))))) (.cons (.ret (.lit .non)) .nil) .nil) m_checkpoint_in_4b2)
def m_checkpoint_in_4b0 : MSs := (.cons (.asg (.nm 7) (.mth 3 38 26 (.var 0) (.cons (.bin .add (.var 3) (.var 6)) .nil))) m_checkpoint_in_4b1)
def m_checkpoint_in_4 : MSs := (.cons (.for (.nm 6) (.rng1 (.fld (.var 2) 0)) m_checkpoint_in_4b0) m_checkpoint_in_5)
def m_checkpoint_in_3 : MSs := (.cons (.asg (.nm 5) (.lst .nil)) m_checkpoint_in_4)
def m_checkpoint_in_2 : MSs := (.cons (.asg (.nm 4) (.mth 3 38 26 (.var 0) (.cons (.var 3) .nil))) m_checkpoint_in_3)
def m_checkpoint_in_1 : MSs := (.cons (.asg (.nm 3) (.call 7 (.cons (.var 2) (.cons (.var 1) .nil)))) m_checkpoint_in_2)
def m_checkpoint_in : MSs := (.cons (.asg (.nm 2) (.fld (.var 0) 23)) m_checkpoint_in_1)
def m_batch_at_9 : MSs := (.cons (.ret (.var 6)) .nil)
def m_batch_at_8b1 : MSs := (.cons (.ite (.or (.not (.tr (.call 0 (.cons (.var 9) .nil)))) (.or (.tr (.cmp .ne (.idx (.var 9) (.lit (.int 1))) (.var 3))) (.tr (.cmp .ne (.idx (.var 9) (.lit (.int 2))) (.var 8))))) (.cons (.ret (.lit .non)) .nil) .nil) .nil)
def m_batch_at_8b0 : MSs := (.cons (.asg (.nm 9) (.mth 3 38 26 (.var 0) (.cons (.bin .add (.var 5) (.var 8)) .nil))) m_batch_at_8b1)
def m_batch_at_8 : MSs := (.cons (.for (.nm 8) (.rng2 (.lit (.int 1)) (.bin .add (.var 7) (.lit (.int 1)))) m_batch_at_8b0) m_batch_at_9)
def m_batch_at_7 : MSs := (.cons (.ite (.tr (.cmp .ge (.bin .add (.var 2) (.var 7)) (.fld (.var 4) 7))) (.cons (.ret (.lit .non)) .nil) .nil) m_batch_at_8)
def m_batch_at_6 : MSs := (.cons (.ite (.tr (.cmp .eq (.idx (.var 6) (.lit (.int 0))) (.glb "COMMIT" (.int 1)))) (.cons (.asg (.nm 7) (.bf .len (.cons (.idx (.idx (.var 6) (.lit (.int 3))) (.lit (.int 0))) .nil))) .nil) .nil) m_batch_at_7)
def m_batch_at_5 : MSs := (.cons (.asg (.nm 7) (.bf .len (.cons (.idx (.var 6) (.lit (.int 3))) .nil))) m_batch_at_6)
def m_batch_at_4 : MSs := (.cons (.ite (.or (.tr (.cmp .is_ (.var 6) (.lit .non))) (.or (.tr (.cmp .notin (.idx (.var 6) (.lit (.int 0))) (.tup (.cons (.glb "COMMIT" (.int 1)) (.cons (.glb "MOVE" (.int 2)) .nil))))) (.or (.tr (.cmp .ne (.idx (.var 6) (.lit (.int 1))) (.var 3))) (.tr (.cmp .ne (.idx (.var 6) (.lit (.int 2))) (.lit (.int 0))))))) (.cons (.ret (.lit .non)) .nil) .nil) m_batch_at_5)
def m_batch_at_3 : MSs := (.cons (.asg (.nm 6) (.mth 3 38 26 (.var 0) (.cons (.var 5) .nil))) m_batch_at_4)
def m_batch_at_2 : MSs := (.cons (.asg (.nm 5) (.call 4 (.cons (.var 4) (.cons (.var 1) (.cons (.var 2) .nil))))) m_batch_at_3)
def m_batch_at_1 : MSs := (.cons (.ite (.or (.tr (.cmp .ge (.var 1) (.fld (.var 4) 8))) (.tr (.cmp .ge (.var 2) (.fld (.var 4) 7)))) (.cons (.ret (.lit .non)) .nil) .nil) m_batch_at_2)
def m_batch_at : MSs := (.cons (.asg (.nm 4) (.fld (.var 0) 23)) m_batch_at_1)
def m_take_next_3 : MSs := (.cons (.ret (.lit (.bl true))) .nil)
def m_take_next_2 : MSs := (.cons (.expr (.call 18 (.cons (.var 0) (.cons (.idx (.var 2) (.lit (.int 0))) (.cons (.idx (.var 2) (.lit (.int 3))) .nil))))) m_take_next_3)
def m_take_next_1b3 : MSs := (.cons (.expr (.call 17 (.cons (.var 0) .nil))) .nil)
def m_take_next_1b2 : MSs := (.cons (.ite (.tr (.cmp .is_ (.var 2) (.lit .non))) (.cons (.ret (.lit (.bl false))) .nil) .nil) m_take_next_1b3)
def m_take_next_1b1 : MSs := (.cons (.asg (.nm 2) (.call 31 (.cons (.fld (.var 0) 25) (.cons (.idx (.fld (.var 0) 19) (.lit (.int 0))) (.cons (.lit (.int 0)) (.cons (.var 1) .nil)))))) m_take_next_1b2)
def m_take_next_1b0 : MSs := (.cons (.ite (.tr (.cmp .eq (.bf .len (.cons (.fld (.var 0) 19) .nil)) (.lit (.int 0)))) (.cons (.ret (.lit (.bl false))) .nil) .nil) m_take_next_1b1)
def m_take_next_1 : MSs := (.cons (.ite (.or (.tr (.cmp .is_ (.var 2) (.lit .non))) (.tr (.cmp .ne (.idx (.var 2) (.lit (.int 0))) (.glb "COMMIT" (.int 1))))) m_take_next_1b0 .nil) m_take_next_2)
def m_take_next : MSs := (.cons (.asg (.nm 2) (.call 31 (.cons (.fld (.var 0) 25) (.cons (.fld (.var 0) 21) (.cons (.fld (.var 0) 20) (.cons (.var 1) .nil)))))) m_take_next_1)
def m_recover_10 : MSs := (.cons (.ret (.var 5)) .nil)
def m_recover_9 : MSs := (.cons (.gfor (.tup [7, 8]) (.mth 3 0 28 (.var 0) .nil) (.cons (.asg (.fld (.var 5) 18) (.bf .max (.cons (.fld (.var 5) 18) (.cons (.idx (.var 8) (.lit (.int 1))) .nil)))) .nil)) m_recover_10)
def m_recover_8 : MSs := (.cons (.while (.tr (.call 32 (.cons (.var 5) (.cons (.var 6) .nil)))) (.cons (.asg (.nm 6) (.bin .add (.var 6) (.lit (.int 1)))) .nil)) m_recover_9)
def m_recover_7 : MSs := (.cons (.asg (.nm 6) (.bin .add (.idx (.var 1) (.lit (.int 0))) (.lit (.int 1)))) m_recover_8)
def m_recover_6 : MSs := (.cons (.asg (.flds [((.var 5), 24), ((.var 5), 22), ((.var 5), 21), ((.var 5), 20), ((.var 5), 19)]) (.call 29 (.cons (.fld (.var 0) 23) (.cons (.idx (.var 1) (.lit (.int 1))) .nil)))) m_recover_7)
def m_recover_5 : MSs := (.cons (.asg (.fld (.var 5) 17) (.var 2)) m_recover_6)
def m_recover_4 : MSs := (.cons (.asg (.nm 5) (.mk 2 13 (.cons (.var 0) .nil))) m_recover_5)
def m_recover_3 : MSs := (.cons (.ite (.tr (.cmp .is_ (.var 1) (.lit .non))) (.cons (.never) .nil) .nil) m_recover_4)
def m_recover_2b1b1 : MSs := (.cons (.asg (.nm 2) (.var 3)) .nil)
def m_recover_2b1b0 : MSs := (.cons (.asg (.nm 1) (.var 4)) m_recover_2b1b1)
def m_recover_2b1 : MSs := (.cons (.ite (.and (.tr (.cmp .isnot (.var 4) (.lit .non))) (.or (.tr (.cmp .is_ (.var 1) (.lit .non))) (.tr (.cmp .gt (.idx (.var 4) (.lit (.int 0))) (.idx (.var 1) (.lit (.int 0))))))) m_recover_2b1b0 .nil) .nil)
def m_recover_2b0 : MSs := (.cons (.asg (.nm 4) (.call 30 (.cons (.var 0) (.cons (.var 3) .nil)))) m_recover_2b1)
def m_recover_2 : MSs := (.cons (.for (.nm 3) (.rng1 (.lit (.int 2))) m_recover_2b0) m_recover_3)
def m_recover_1 : MSs := (.cons (.asg (.nm 2) (.lit (.int 0))) m_recover_2)
def m_recover : MSs := (.cons (.asg (.nm 1) (.lit .non)) m_recover_1)
def m_contents_fault_2 : MSs := (.cons (.ret (.var 2)) .nil)
def m_contents_fault_1 : MSs := (.cons (.ite (.tr (.cmp .is_ (.var 2) (.lit .non))) (.cons (.never) .nil) .nil) m_contents_fault_2)
def m_contents_fault : MSs := (.cons (.asg (.nm 2) (.call 28 (.cons (.var 0) (.cons (.var 1) .nil)))) m_contents_fault_1)
def m_log_fault_3 : MSs := (.cons (.ret (.var 1)) .nil)
def m_log_fault_2 : MSs := (.cons (.ite (.tr (.cmp .is_ (.var 1) (.lit .non))) (.cons (.asg (.nm 1) (.call 26 (.cons (.var 0) .nil))) .nil) .nil) m_log_fault_3)
def m_log_fault_1 : MSs := (.cons (.asg (.nm 1) (.call 25 (.cons (.var 0) .nil))) m_log_fault_2)
def m_log_fault : MSs := (.cons (.ite (.tr (.cmp .ge (.fld (.var 0) 18) (.glb "USED_UP" (.int 1099511627776)))) (.cons (.ret (.tup (.cons (.lit (.str "sequence numbers are used up")) (.cons (.lit (.int 0)) .nil)))) .nil) .nil) m_log_fault_1)
def m_check_8 : MSs := (.cons (.ret (.lit .non)) .nil)
def m_check_7b0b1 : MSs := (.cons (.ite (.tr (.cmp .isnot (.var 2) (.lit .non))) (.cons (.never) .nil) .nil) .nil)
def m_check_7b0b0 : MSs := (.cons (.asg (.nm 2) (.call 34 (.cons (.fld (.var 1) 23) (.cons (.call 15 (.cons (.var 1) (.cons (.idx (.fld (.var 1) 22) (.var 3)) .nil))) .nil)))) m_check_7b0b1)
def m_check_7b0 : MSs := (.cons (.ite (.tr (.cmp .isnot (.idx (.fld (.var 1) 22) (.var 3)) (.lit .non))) m_check_7b0b0 .nil) .nil)
def m_check_7 : MSs := (.cons (.for (.nm 3) (.rng1 (.glb "SLOTS" (.int 3))) m_check_7b0) m_check_8)
def m_check_6 : MSs := (.cons (.ite (.tr (.cmp .isnot (.var 2) (.lit .non))) (.cons (.ret (.tup (.cons (.lit (.str "snapshots")) (.cons (.idx (.var 2) (.lit (.int 0))) (.cons (.idx (.var 2) (.lit (.int 1))) .nil))))) .nil) .nil) m_check_7)
def m_check_5 : MSs := (.cons (.never) m_check_6)
def m_check_4 : MSs := (.cons (.ite (.tr (.cmp .isnot (.var 2) (.lit .non))) (.cons (.ret (.tup (.cons (.lit (.str "present")) (.cons (.idx (.var 2) (.lit (.int 0))) (.cons (.idx (.var 2) (.lit (.int 1))) .nil))))) .nil) .nil) m_check_5)
def m_check_3 : MSs := (.cons (.asg (.nm 2) (.call 34 (.cons (.fld (.var 1) 23) (.cons (.call 15 (.cons (.var 1) (.cons (.fld (.var 1) 24) .nil))) .nil)))) m_check_4)
def m_check_2 : MSs := (.cons (.ite (.tr (.cmp .isnot (.var 2) (.lit .non))) (.cons (.ret (.tup (.cons (.lit (.str "log")) (.cons (.idx (.var 2) (.lit (.int 0))) (.cons (.idx (.var 2) (.lit (.int 1))) .nil))))) .nil) .nil) m_check_3)
def m_check_1 : MSs := (.cons (.asg (.nm 2) (.call 35 (.cons (.var 1) .nil))) m_check_2)
def m_check : MSs := (.cons (.try_ (.cons (.asg (.nm 1) (.call 33 (.cons (.var 0) .nil))) .nil)) m_check_1)
def m_Device_init_6 : MSs := (.cons (.asg (.fld (.var 0) 29) (.lit (.bl false))) .nil)
def m_Device_init_5 : MSs := (.cons (.asg (.fld (.var 0) 30) (.lit .non)) m_Device_init_6)
def m_Device_init_4 : MSs := (.cons (.asg (.fld (.var 0) 31) (.lst .nil)) m_Device_init_5)
def m_Device_init_3 : MSs := (.cons (.asg (.fld (.var 0) 32) (.bf .list (.cons (.var 2) .nil))) m_Device_init_4)
def m_Device_init_2 : MSs := (.cons (.asg (.fld (.var 0) 33) (.bf .list (.cons (.var 2) .nil))) m_Device_init_3)
def m_Device_init_1 : MSs := (.cons (.asg (.fld (.var 0) 23) (.var 1)) m_Device_init_2)
def m_Device_init : MSs := (.cons (.ite (.tr (.cmp .is_ (.var 2) (.lit .non))) (.cons (.asg (.nm 2) (.bin .mul (.lst (.cons (.lit .non) .nil)) (.fld (.var 1) 1))) .nil) .nil) m_Device_init_1)
def m_Device_read_1 : MSs := (.cons (.ret (.idx (.fld (.var 0) 32) (.var 1))) .nil)
def m_Device_read : MSs := (.cons (.ite (.or (.tr (.cmp .lt (.var 1) (.lit (.int 0)))) (.tr (.cmp .ge (.var 1) (.bf .len (.cons (.fld (.var 0) 32) .nil))))) (.cons (.ret (.lit .non)) .nil) .nil) m_Device_read_1)
def m_Device_write_2 : MSs := (.cons (.ite (.not (.tr (.fld (.var 0) 29))) (.cons (.expr (.bm .append (.fld (.var 0) 31) (.cons (.tup (.cons (.var 1) (.cons (.var 2) .nil))) .nil))) .nil) .nil) .nil)
def m_Device_write_1 : MSs := (.cons (.asg (.sub (.fld (.var 0) 32) (.var 1)) (.var 2)) m_Device_write_2)
def m_Device_write : MSs := (.cons (.expr (.mth 3 40 34 (.var 0) .nil)) m_Device_write_1)
def m_Device_count_command_1 : MSs := (.cons (.ite (.tr (.cmp .eq (.fld (.var 0) 30) (.lit (.int 0)))) (.cons (.asg (.fld (.var 0) 29) (.lit (.bl true))) .nil) (.cons (.asg (.fld (.var 0) 30) (.bin .sub (.fld (.var 0) 30) (.lit (.int 1)))) .nil)) .nil)
def m_Device_count_command : MSs := (.cons (.ite (.or (.tr (.cmp .is_ (.fld (.var 0) 30) (.lit .non))) (.tr (.fld (.var 0) 29))) (.cons (.retN) .nil) .nil) m_Device_count_command_1)
def m__law_number_6 : MSs := (.cons (.ret (.bin .mod (.bf .int (.cons (.bin .add (.bin .add (.bin .mul (.var 3) (.lit (.int 2147483399))) (.bin .mul (.var 4) (.lit (.int 31)))) (.var 2)) .nil)) (.lit (.int 4611686014132420609)))) .nil)
def m__law_number_5 : MSs := (.cons (.asg (.nm 4) (.bin .mod (.bf .int (.cons (.bin .add (.bin .add (.bin .mul (.bin .add (.var 3) (.lit (.int 11))) (.lit (.int 16807))) (.bin .mul (.bin .add (.var 2) (.lit (.int 1))) (.lit (.int 40692)))) (.var 1)) .nil)) (.lit (.int 2147483399)))) m__law_number_6)
def m__law_number_4 : MSs := (.cons (.asg (.nm 3) (.bin .mod (.bf .int (.cons (.bin .add (.bin .mul (.bin .add (.var 2) (.lit (.int 7))) (.lit (.int 48271))) (.bin .mul (.bin .add (.var 1) (.lit (.int 3))) (.lit (.int 69621)))) .nil)) (.lit (.int 2147483647)))) m__law_number_5)
def m__law_number_3 : MSs := (.cons (.ite (.and (.tr (.cmp .ge (.var 2) (.bin .pow (.lit (.int 10)) (.lit (.int 9))))) (.tr (.cmp .lt (.var 1) (.bf .len (.cons (.var 0) .nil))))) (.cons (.ret (.var 2)) .nil) .nil) m__law_number_4)
def m__law_number_2 : MSs := (.cons (.ite (.tr (.cmp .lt (.var 2) (.lit (.int 0)))) (.cons (.asg (.nm 2) (.bin .sub (.lit (.int 1)) (.bin .mul (.lit (.int 2)) (.var 2)))) .nil) .nil) m__law_number_3)
def m__law_number_1 : MSs := (.cons (.ite (.tr (.cmp .gt (.bf .len (.cons (.var 0) .nil)) (.lit (.int 0)))) (.cons (.asg (.nm 2) (.idx (.var 0) (.bin .mod (.bf .int (.cons (.var 1) .nil)) (.bf .len (.cons (.var 0) .nil))))) .nil) .nil) m__law_number_2)
def m__law_number : MSs := (.cons (.asg (.nm 2) (.lit (.int 0))) m__law_number_1)
def m__law_take_2 : MSs := (.cons (.ret (.var 2)) .nil)
def m__law_take_1 : MSs := (.cons (.asg (.sub (.var 0) (.lit (.int 0))) (.bin .div (.idx (.var 0) (.lit (.int 0))) (.var 1))) m__law_take_2)
def m__law_take : MSs := (.cons (.asg (.nm 2) (.bin .mod (.bf .int (.cons (.idx (.var 0) (.lit (.int 0))) .nil)) (.var 1))) m__law_take_1)
def m__law_device_7 : MSs := (.cons (.ret (.var 5)) .nil)
def m__law_device_6 : MSs := (.cons (.for (.nm 6) (.seq (.var 2)) (.cons (.expr (.mth 3 39 35 (.var 5) (.cons (.idx (.var 6) (.lit (.int 0))) (.cons (.idx (.var 6) (.lit (.int 1))) .nil)))) .nil)) m__law_device_7)
def m__law_device_5 : MSs := (.cons (.for (.nm 4) (.rng1 (.fld (.var 0) 0)) (.cons (.expr (.mth 3 39 35 (.var 5) (.cons (.var 4) (.cons (.tup (.cons (.lit (.int 5)) (.cons (.lit (.int 9)) (.cons (.var 4) (.cons (.bf .tuple (.cons (.slc (.var 3) (.some (.bin .mul (.var 4) (.fld (.var 0) 4))) (.some (.bin .mul (.bin .add (.var 4) (.lit (.int 1))) (.fld (.var 0) 4)))) .nil)) .nil))))) .nil)))) .nil)) m__law_device_6)
def m__law_device_4 : MSs := (.cons (.asg (.nm 5) (.mkd 3 37 (.cons (.var 0) .nil) [.non])) m__law_device_5)
def m__law_device_3 : MSs := (.cons (.asg (.nm 3) (.bin .add (.var 3) (.bin .mul (.lst (.cons (.lit (.int 0)) .nil)) (.bin .sub (.bin .mul (.fld (.var 0) 0) (.fld (.var 0) 4)) (.bf .len (.cons (.var 3) .nil)))))) m__law_device_4)
def m__law_device_2 : MSs := (.cons (.asg (.nm 3) (.bin .add (.var 3) (.lst (.cons (.bin .sub (.fld (.var 0) 8) (.lit (.int 2))) (.cons (.fld (.var 0) 7) (.cons (.lit (.int 1)) (.cons (.bin .sub (.fld (.var 0) 8) (.lit (.int 1))) .nil))))))) m__law_device_3)
def m__law_device_1b1 : MSs := (.cons (.ite (.tr (.cmp .is_ (.idx (.var 1) (.var 4)) (.lit .non))) (.cons (.asg (.nm 3) (.bin .add (.var 3) (.bin .mul (.lst (.cons (.lit (.int 0)) .nil)) (.fld (.var 0) 2)))) .nil) (.cons (.asg (.nm 3) (.bin .add (.var 3) (.slc (.idx (.var 1) (.var 4)) (.some (.lit (.int 1))) .no))) .nil)) .nil)
def m__law_device_1b0 : MSs := (.cons (.ite (.tr (.cmp .gt (.var 4) (.lit (.int 0)))) (.cons (.expr (.bm .append (.var 3) (.cons (.bf .int (.cons (.cmp .isnot (.idx (.var 1) (.var 4)) (.lit .non)) .nil)) .nil))) .nil) .nil) m__law_device_1b1)
def m__law_device_1 : MSs := (.cons (.for (.nm 4) (.rng1 (.lit (.int 4))) m__law_device_1b0) m__law_device_2)
def m__law_device : MSs := (.cons (.asg (.nm 3) (.lst .nil)) m__law_device_1)
def m__law_good_3 : MSs := (.cons (.ret (.tup (.cons (.lit (.int 4)) (.cons (.lit (.int 4)) (.cons (.lit (.int 2)) (.cons (.bf .tuple (.cons (.var 2) .nil)) .nil)))))) .nil)
def m__law_good_2 : MSs := (.cons (.asg (.sub (.var 2) (.call 42 (.cons (.var 1) (.cons (.fld (.var 0) 4) .nil)))) (.idx (.lst (.cons (.lit (.int 1)) (.cons (.fld (.var 0) 2) (.cons (.lit (.int 0)) .nil)))) (.call 42 (.cons (.var 1) (.cons (.lit (.int 3)) .nil))))) m__law_good_3)
def m__law_good_1 : MSs := (.cons (.asg (.nm 2) (.bin .mul (.lst (.cons (.lit (.int 0)) .nil)) (.fld (.var 0) 4))) m__law_good_2)
def m__law_good : MSs := (.cons (.ite (.tr (.cmp .eq (.call 42 (.cons (.var 1) (.cons (.lit (.int 2)) .nil))) (.lit (.int 0)))) (.cons (.ret (.tup (.cons (.lit (.int 3)) (.cons (.lit (.int 4)) (.cons (.lit (.int 1)) (.cons (.bf .tuple (.cons (.bin .mul (.lst (.cons (.call 42 (.cons (.var 1) (.cons (.lit (.int 256)) .nil))) .nil)) (.fld (.var 0) 6)) .nil)) .nil)))))) .nil) .nil) m__law_good_1)
def m__law_bad_7 : MSs := (.cons (.ret (.tup (.cons (.tup (.cons (.lit (.int 4)) (.cons (.lit (.int 4)) (.cons (.lit (.int 3)) (.cons (.bf .tuple (.cons (.var 3) .nil)) .nil))))) (.cons (.lit (.str "a block does not fit the layout")) .nil)))) .nil)
def m__law_bad_6 : MSs := (.cons (.asg (.sub (.var 3) (.call 42 (.cons (.var 1) (.cons (.fld (.var 0) 4) .nil)))) (.bin .add (.bin .add (.fld (.var 0) 2) (.lit (.int 1))) (.call 42 (.cons (.var 1) (.cons (.lit (.int 60000)) .nil))))) m__law_bad_7)
def m__law_bad_5 : MSs := (.cons (.asg (.nm 3) (.bin .mul (.lst (.cons (.lit (.int 0)) .nil)) (.fld (.var 0) 4))) m__law_bad_6)
def m__law_bad_4 : MSs := (.cons (.ite (.tr (.cmp .eq (.var 2) (.lit (.int 3)))) (.cons (.ret (.tup (.cons (.tup (.cons (.lit (.int 2)) (.cons (.lit (.int 4)) (.cons (.lit (.int 1)) (.cons (.tup .nil) .nil))))) (.cons (.lit (.str "a needed block is no payload")) .nil)))) .nil) .nil) m__law_bad_5)
def m__law_bad_3 : MSs := (.cons (.ite (.tr (.cmp .eq (.var 2) (.lit (.int 2)))) (.cons (.ret (.tup (.cons (.tup (.cons (.lit (.int 5)) (.cons (.lit (.int 4)) (.cons (.lit (.int 1)) (.cons (.bf .tuple (.cons (.bin .mul (.lst (.cons (.lit (.int 0)) .nil)) (.fld (.var 0) 4)) .nil)) .nil))))) (.cons (.lit (.str "a needed block is no payload")) .nil)))) .nil) .nil) m__law_bad_4)
def m__law_bad_2 : MSs := (.cons (.ite (.tr (.cmp .eq (.var 2) (.lit (.int 1)))) (.cons (.ret (.tup (.cons (.tup (.cons (.lit (.int 1)) (.cons (.lit (.int 4)) (.cons (.lit (.int 1)) (.cons (.tup (.cons (.tup .nil) (.cons (.tup .nil) (.cons (.lit (.int 0)) .nil)))) .nil))))) (.cons (.lit (.str "a needed block is no payload")) .nil)))) .nil) .nil) m__law_bad_3)
def m__law_bad_1 : MSs := (.cons (.ite (.tr (.cmp .eq (.var 2) (.lit (.int 0)))) (.cons (.ret (.tup (.cons (.lit .non) (.cons (.lit (.str "a needed block is no payload")) .nil)))) .nil) .nil) m__law_bad_2)
def m__law_bad : MSs := (.cons (.asg (.nm 2) (.call 42 (.cons (.var 1) (.cons (.lit (.int 6)) .nil)))) m__law_bad_1)
def m_law_16 : MSs := (.cons (.ret (.cmp .eq (.call 36 (.cons (.var 17) .nil)) (.tup (.cons (.lit (.str "log")) (.cons (.idx (.var 11) (.lit (.int 0))) (.cons (.idx (.var 11) (.lit (.int 1))) .nil)))))) .nil)
def m_law_15 : MSs := (.cons (.ite (.or (.not (.tr (.isT (.var 18)))) (.tr (.cmp .ne (.var 18) (.var 11)))) (.cons (.ret (.lit (.bl false))) .nil) .nil) m_law_16)
def m_law_14b1 : MSs := (.cons (.ret (.and (.cmp .is_ (.var 18) (.lit .non)) (.and (.isT (.var 19)) (.cmp .ne (.idx (.var 19) (.lit (.int 0))) (.lit (.str "log")))))) .nil)
def m_law_14b0 : MSs := (.cons (.asg (.nm 19) (.call 36 (.cons (.var 17) .nil))) m_law_14b1)
def m_law_14 : MSs := (.cons (.ite (.tr (.cmp .is_ (.var 11) (.lit .non))) m_law_14b0 .nil) m_law_15)
def m_law_13 : MSs := (.cons (.asg (.nm 18) (.call 26 (.cons (.call 33 (.cons (.var 17) .nil)) .nil))) m_law_14)
def m_law_12 : MSs := (.cons (.asg (.nm 17) (.call 43 (.cons (.var 3) (.cons (.var 4) (.cons (.var 12) .nil))))) m_law_13)
def m_law_11b4 : MSs := (.cons (.expr (.bm .append (.var 12) (.cons (.tup (.cons (.var 8) (.cons (.var 15) .nil))) .nil))) .nil)
def m_law_11b3b2 : MSs := (.cons (.ite (.tr (.cmp .is_ (.var 11) (.lit .non))) (.cons (.asg (.nm 11) (.tup (.cons (.idx (.var 16) (.lit (.int 1))) (.cons (.var 8) .nil)))) .nil) .nil) .nil)
def m_law_11b3b1 : MSs := (.cons (.asg (.nm 15) (.idx (.var 16) (.lit (.int 0)))) m_law_11b3b2)
def m_law_11b3b0 : MSs := (.cons (.asg (.nm 16) (.call 45 (.cons (.var 3) (.cons (.lst (.cons (.var 14) .nil)) .nil)))) m_law_11b3b1)
def m_law_11b3 : MSs := (.cons (.ite (.tr (.cmp .in_ (.var 8) (.var 10))) m_law_11b3b0 .nil) m_law_11b4)
def m_law_11b2 : MSs := (.cons (.asg (.nm 15) (.call 44 (.cons (.var 3) (.cons (.lst (.cons (.var 14) .nil)) .nil)))) m_law_11b3)
def m_law_11b1 : MSs := (.cons (.asg (.nm 14) (.call 41 (.cons (.var 0) (.cons (.bin .add (.lit (.int 1)) (.var 6)) .nil)))) m_law_11b2)
def m_law_11b0 : MSs := (.cons (.asg (.nm 8) (.idx (.var 13) (.var 6))) m_law_11b1)
def m_law_11 : MSs := (.cons (.for (.nm 6) (.rng1 (.bf .len (.cons (.var 13) .nil))) m_law_11b0) m_law_12)
def m_law_10 : MSs := (.cons (.asg (.nm 13) (.bf .sorted (.cons (.var 5) .nil))) m_law_11)
def m_law_9 : MSs := (.cons (.asg (.nm 12) (.lst .nil)) m_law_10)
def m_law_8 : MSs := (.cons (.asg (.nm 11) (.lit .non)) m_law_9)
def m_law_7 : MSs := (.cons (.for (.nm 6) (.rng1 (.call 42 (.cons (.var 1) (.cons (.lit (.int 3)) .nil)))) (.cons (.expr (.bm .append (.var 10) (.cons (.idx (.var 5) (.call 42 (.cons (.var 1) (.cons (.bf .len (.cons (.var 5) .nil)) .nil)))) .nil))) .nil)) m_law_8)
def m_law_6 : MSs := (.cons (.asg (.nm 10) (.lst .nil)) m_law_7)
def m_law_5b2b2 : MSs := (.cons (.asg (.sub (.var 9) (.bin .add (.var 6) (.lit (.int 2)))) (.var 8)) .nil)
def m_law_5b2b1 : MSs := (.cons (.asg (.nm 9) (.idx (.var 4) (.bin .mul (.lit (.int 2)) (.bin .sub (.lit (.int 1)) (.bf .min (.cons (.lit (.int 1)) (.cons (.call 42 (.cons (.var 1) (.cons (.lit (.int 3)) .nil))) .nil))))))) m_law_5b2b2)
def m_law_5b2b0 : MSs := (.cons (.expr (.bm .append (.var 5) (.cons (.var 8) .nil))) m_law_5b2b1)
def m_law_5b2 : MSs := (.cons (.ite (.tr (.cmp .notin (.var 8) (.var 5))) m_law_5b2b0 .nil) .nil)
def m_law_5b1 : MSs := (.cons (.asg (.nm 8) (.bin .add (.bin .add (.bin .add (.bin .mul (.lit (.int 2)) (.fld (.var 3) 0)) (.bin .mul (.var 7) (.fld (.var 3) 7))) (.lit (.int 1))) (.call 42 (.cons (.var 1) (.cons (.fld (.var 3) 3) .nil))))) m_law_5b2)
def m_law_5b0 : MSs := (.cons (.asg (.nm 7) (.call 42 (.cons (.var 1) (.cons (.bin .sub (.fld (.var 3) 8) (.lit (.int 1))) .nil)))) m_law_5b1)
def m_law_5 : MSs := (.cons (.for (.nm 6) (.rng1 (.bin .add (.lit (.int 1)) (.call 42 (.cons (.var 1) (.cons (.lit (.int 12)) .nil))))) m_law_5b0) m_law_6)
def m_law_4 : MSs := (.cons (.asg (.nm 5) (.lst .nil)) m_law_5)
def m_law_3 : MSs := (.cons (.asg (.nm 4) (.lst (.cons (.bin .mul (.lst (.cons (.lit (.int 0)) .nil)) (.bin .add (.fld (.var 3) 2) (.lit (.int 1)))) (.cons (.lit .non) (.cons (.bin .mul (.lst (.cons (.lit (.int 0)) .nil)) (.bin .add (.fld (.var 3) 2) (.lit (.int 1)))) (.cons (.lit .non) .nil)))))) m_law_4)
def m_law_2 : MSs := (.cons (.asg (.nm 3) (.mk 0 2 (.cons (.idx (.var 2) (.lit (.int 0))) (.cons (.idx (.var 2) (.lit (.int 1))) (.cons (.idx (.var 2) (.lit (.int 2))) .nil))))) m_law_3)
def m_law_1 : MSs := (.cons (.asg (.nm 2) (.idx (.lst (.cons (.tup (.cons (.lit (.int 4)) (.cons (.lit (.int 16)) (.cons (.lit (.int 64)) .nil)))) (.cons (.tup (.cons (.lit (.int 5)) (.cons (.lit (.int 16)) (.cons (.lit (.int 64)) .nil)))) (.cons (.tup (.cons (.lit (.int 4)) (.cons (.lit (.int 17)) (.cons (.lit (.int 64)) .nil)))) .nil)))) (.call 42 (.cons (.var 1) (.cons (.lit (.int 3)) .nil))))) m_law_2)
def m_law : MSs := (.cons (.asg (.nm 1) (.lst (.cons (.call 41 (.cons (.var 0) (.cons (.lit (.int 0)) .nil))) .nil))) m_law_1)
def m_Device_written_blocks_0b0b0 : MGSs := (.cons (.yld (.tup (.cons (.var 1) (.cons (.var 2) .nil)))) .nil)
def m_Device_written_blocks_0b0 : MGSs := (.cons (.ite (.tr (.cmp .isnot (.var 2) (.lit .non))) m_Device_written_blocks_0b0b0 .nil) .nil)
def m_Device_written_blocks : MGSs := (.cons (.for (.tup [1, 2]) (.enum (.fld (.var 0) 32)) m_Device_written_blocks_0b0) .nil)
def d_is_payload : DD := ⟨⟨("is_payload", none), "is_payload", "is_payload", defArgs s_is_payload, defBody s_is_payload, defScope s_is_payload, [], []⟩, ["block"], ["block"], ⟨1, 1, m_is_payload⟩⟩
def d_payload_of : DD := ⟨⟨("payload_of", none), "payload_of", "payload_of", defArgs s_payload_of, defBody s_payload_of, defScope s_payload_of, [], []⟩, ["block"], ["block"], ⟨1, 1, m_payload_of⟩⟩
def d_Layout_init : DD := ⟨⟨("Layout", some "__init__"), "__init__", "Layout.__init__", defArgs s_Layout_init, defBody s_Layout_init, defScope s_Layout_init, [], []⟩, ["self", "segments", "segment_blocks", "block_size", "numbers"], ["self", "segments", "segment_blocks", "block_size"], ⟨4, 5, m_Layout_init⟩⟩
def d_parts_of : DD := ⟨⟨("parts_of", none), "parts_of", "parts_of", defArgs s_parts_of, defBody s_parts_of, defScope s_parts_of, [], []⟩, ["number", "size"], ["number", "size"], ⟨2, 2, m_parts_of⟩⟩
def d_address_at : DD := ⟨⟨("address_at", none), "address_at", "address_at", defArgs s_address_at, defBody s_address_at, defScope s_address_at, [], []⟩, ["layout", "segment", "place"], ["layout", "segment", "place"], ⟨3, 3, m_address_at⟩⟩
def d_segment_of : DD := ⟨⟨("segment_of", none), "segment_of", "segment_of", defArgs s_segment_of, defBody s_segment_of, defScope s_segment_of, [], []⟩, ["layout", "address", "first"], ["layout", "address"], ⟨2, 3, m_segment_of⟩⟩
def d_place_of : DD := ⟨⟨("place_of", none), "place_of", "place_of", defArgs s_place_of, defBody s_place_of, defScope s_place_of, [], []⟩, ["layout", "address", "first"], ["layout", "address"], ⟨2, 3, m_place_of⟩⟩
def d_region_start : DD := ⟨⟨("region_start", none), "region_start", "region_start", defArgs s_region_start, defBody s_region_start, defScope s_region_start, [], []⟩, ["layout", "region"], ["layout", "region"], ⟨2, 2, m_region_start⟩⟩
def d_Counts_init : DD := ⟨⟨("Counts", some "__init__"), "__init__", "Counts.__init__", defArgs s_Counts_init, defBody s_Counts_init, defScope s_Counts_init, [], []⟩, ["self"], ["self"], ⟨1, 1, m_Counts_init⟩⟩
def d_empty_table : DD := ⟨⟨("empty_table", none), "empty_table", "empty_table", defArgs s_empty_table, defBody s_empty_table, defScope s_empty_table, [], []⟩, ["layout"], ["layout"], ⟨1, 1, m_empty_table⟩⟩
def d_commit_to_table : DD := ⟨⟨("commit_to_table", none), "commit_to_table", "commit_to_table", defArgs s_commit_to_table, defBody s_commit_to_table, defScope s_commit_to_table, [], []⟩, ["table", "start", "ids", "used", "placed", "number", "key", "in_use", "address"], ["table", "start", "ids", "used"], ⟨4, 9, m_commit_to_table⟩⟩
def d_slots_after : DD := ⟨⟨("slots_after", none), "slots_after", "slots_after", defArgs s_slots_after, defBody s_slots_after, defScope s_slots_after, [], []⟩, ["slots", "table", "action", "result", "slot"], ["slots", "table", "action"], ⟨3, 5, m_slots_after⟩⟩
def d_move_in_table : DD := ⟨⟨("move_in_table", none), "move_in_table", "move_in_table", defArgs s_move_in_table, defBody s_move_in_table, defScope s_move_in_table, [], []⟩, ["table", "start", "addresses", "moved", "number", "address"], ["table", "start", "addresses"], ⟨3, 6, m_move_in_table⟩⟩
def d_Log_init : DD := ⟨⟨("Log", some "__init__"), "__init__", "Log.__init__", defArgs s_Log_init, defBody s_Log_init, defScope s_Log_init, [], []⟩, ["self", "device"], ["self", "device"], ⟨2, 2, m_Log_init⟩⟩
def d_payload_at : DD := ⟨⟨("payload_at", none), "payload_at", "payload_at", defArgs s_payload_at, defBody s_payload_at, defScope s_payload_at, [], []⟩, ["log", "address"], ["log", "address"], ⟨2, 2, m_payload_at⟩⟩
def d_contents_of : DD := ⟨⟨("contents_of", none), "contents_of", "contents_of", defArgs s_contents_of, defBody s_contents_of, defScope s_contents_of, [], []⟩, ["log", "table", "contents", "key", "address", "payload"], ["log", "table"], ⟨2, 6, m_contents_of⟩⟩
def d_live_addresses : DD := ⟨⟨("live_addresses", none), "live_addresses", "live_addresses", defArgs s_live_addresses, defBody s_live_addresses, defScope s_live_addresses, [], []⟩, ["log", "found", "table", "address"], ["log"], ⟨1, 4, m_live_addresses⟩⟩
def d_enter_segment : DD := ⟨⟨("enter_segment", none), "enter_segment", "enter_segment", defArgs s_enter_segment, defBody s_enter_segment, defScope s_enter_segment, [], []⟩, ["log"], ["log"], ⟨1, 1, m_enter_segment⟩⟩
def d_take_batch : DD := ⟨⟨("take_batch", none), "take_batch", "take_batch", defArgs s_take_batch, defBody s_take_batch, defScope s_take_batch, [], []⟩, ["log", "kind", "body", "start", "ids", "used", "action", "count", "slot"], ["log", "kind", "body"], ⟨3, 9, m_take_batch⟩⟩
def d_point_fault : DD := ⟨⟨("point_fault", none), "point_fault", "point_fault", defArgs s_point_fault, defBody s_point_fault, defScope s_point_fault, [], []⟩, ["log", "layout", "segment", "order", "k"], ["log"], ⟨1, 5, m_point_fault⟩⟩
def d_is_misplaced : DD := ⟨⟨("is_misplaced", none), "is_misplaced", "is_misplaced", defArgs s_is_misplaced, defBody s_is_misplaced, defScope s_is_misplaced, [], []⟩, ["log", "address", "segment", "place"], ["log", "address"], ⟨2, 4, m_is_misplaced⟩⟩
def d_tables_of : DD := ⟨⟨("tables_of", none), "tables_of", "tables_of", defArgs s_tables_of, defBody s_tables_of, defScope s_tables_of, [], []⟩, ["log", "table"], ["log"], ⟨1, 2, m_tables_of⟩⟩
def d_doubled_addresses : DD := ⟨⟨("doubled_addresses", none), "doubled_addresses", "doubled_addresses", defArgs s_doubled_addresses, defBody s_doubled_addresses, defScope s_doubled_addresses, [], []⟩, ["log", "owners", "found", "table", "ident", "address"], ["log"], ⟨1, 6, m_doubled_addresses⟩⟩
def d_free_behind : DD := ⟨⟨("free_behind", none), "free_behind", "free_behind", defArgs s_free_behind, defBody s_free_behind, defScope s_free_behind, [], []⟩, ["log", "live", "held", "count", "segment", "address"], ["log", "live"], ⟨2, 6, m_free_behind⟩⟩
def d_shared_superblock : DD := ⟨⟨("shared_superblock", none), "shared_superblock", "shared_superblock", defArgs s_shared_superblock, defBody s_shared_superblock, defScope s_shared_superblock, [], []⟩, ["log", "seen", "table"], ["log"], ⟨1, 3, m_shared_superblock⟩⟩
def d_table_fault : DD := ⟨⟨("table_fault", none), "table_fault", "table_fault", defArgs s_table_fault, defBody s_table_fault, defScope s_table_fault, [], []⟩, ["log", "wrong", "live", "address", "doubled", "shared"], ["log"], ⟨1, 6, m_table_fault⟩⟩
def d_block_fault : DD := ⟨⟨("block_fault", none), "block_fault", "block_fault", defArgs s_block_fault, defBody s_block_fault, defScope s_block_fault, [], []⟩, ["log", "address", "payload"], ["log"], ⟨1, 3, m_block_fault⟩⟩
def d_superblock_in : DD := ⟨⟨("superblock_in", none), "superblock_in", "superblock_in", defArgs s_superblock_in, defBody s_superblock_in, defScope s_superblock_in, [], []⟩, ["blocks", "payload", "superblock"], ["blocks"], ⟨1, 3, m_superblock_in⟩⟩
def d_files_fault : DD := ⟨⟨("files_fault", none), "files_fault", "files_fault", defArgs s_files_fault, defBody s_files_fault, defScope s_files_fault, [], []⟩, ["layout", "blocks", "superblock", "wrong", "nodes", "number"], ["layout", "blocks"], ⟨2, 6, m_files_fault⟩⟩
def d_read_numbers : DD := ⟨⟨("read_numbers", none), "read_numbers", "read_numbers", defArgs s_read_numbers, defBody s_read_numbers, defScope s_read_numbers, [], []⟩, ["layout", "numbers", "width", "present", "at", "slots", "_", "taken", "addresses", "head", "place", "count", "end"], ["layout", "numbers"], ⟨2, 13, m_read_numbers⟩⟩
def d_checkpoint_in : DD := ⟨⟨("checkpoint_in", none), "checkpoint_in", "checkpoint_in", defArgs s_checkpoint_in, defBody s_checkpoint_in, defScope s_checkpoint_in, [], []⟩, ["device", "region", "layout", "start", "first", "numbers", "rank", "block"], ["device", "region"], ⟨2, 8, m_checkpoint_in⟩⟩
def d_batch_at : DD := ⟨⟨("batch_at", none), "batch_at", "batch_at", defArgs s_batch_at, defBody s_batch_at, defScope s_batch_at, [], []⟩, ["device", "segment", "place", "sequence", "layout", "start", "summary", "count", "rank", "block"], ["device", "segment", "place", "sequence"], ⟨4, 10, m_batch_at⟩⟩
def d_take_next : DD := ⟨⟨("take_next", none), "take_next", "take_next", defArgs s_take_next, defBody s_take_next, defScope s_take_next, [], []⟩, ["log", "sequence", "summary"], ["log", "sequence"], ⟨2, 3, m_take_next⟩⟩
def d_recover : DD := ⟨⟨("recover", none), "recover", "recover", defArgs s_recover, defBody s_recover, defScope s_recover, [], []⟩, ["device", "found", "region", "number", "checkpoint", "log", "sequence", "_", "block"], ["device"], ⟨1, 9, m_recover⟩⟩
def d_contents_fault : DD := ⟨⟨("contents_fault", none), "contents_fault", "contents_fault", defArgs s_contents_fault, defBody s_contents_fault, defScope s_contents_fault, [], []⟩, ["layout", "blocks", "wrong"], ["layout", "blocks"], ⟨2, 3, m_contents_fault⟩⟩
def d_log_fault : DD := ⟨⟨("log_fault", none), "log_fault", "log_fault", defArgs s_log_fault, defBody s_log_fault, defScope s_log_fault, [], []⟩, ["log", "wrong"], ["log"], ⟨1, 2, m_log_fault⟩⟩
def d_check : DD := ⟨⟨("check", none), "check", "check", defArgs s_check, defBody s_check, defScope s_check, [], []⟩, ["device", "log", "wrong", "slot"], ["device"], ⟨1, 4, m_check⟩⟩
def d_Device_init : DD := ⟨⟨("Device", some "__init__"), "__init__", "Device.__init__", defArgs s_Device_init, defBody s_Device_init, defScope s_Device_init, [.non], []⟩, ["self", "layout", "blocks"], ["self", "layout", "blocks"], ⟨3, 3, m_Device_init⟩⟩
def d_Device_read : DD := ⟨⟨("Device", some "read"), "read", "Device.read", defArgs s_Device_read, defBody s_Device_read, defScope s_Device_read, [], []⟩, ["self", "address"], ["self", "address"], ⟨2, 2, m_Device_read⟩⟩
def d_Device_write : DD := ⟨⟨("Device", some "write"), "write", "Device.write", defArgs s_Device_write, defBody s_Device_write, defScope s_Device_write, [], []⟩, ["self", "address", "block"], ["self", "address", "block"], ⟨3, 3, m_Device_write⟩⟩
def d_Device_count_command : DD := ⟨⟨("Device", some "_count_command"), "_count_command", "Device._count_command", defArgs s_Device_count_command, defBody s_Device_count_command, defScope s_Device_count_command, [], []⟩, ["self"], ["self"], ⟨1, 1, m_Device_count_command⟩⟩
def d__law_number : DD := ⟨⟨("_law_number", none), "_law_number", "_law_number", defArgs s__law_number, defBody s__law_number, defScope s__law_number, [], []⟩, ["_law_script", "_law_k", "_law_cell", "_law_first", "_law_second"], ["_law_script", "_law_k"], ⟨2, 5, m__law_number⟩⟩
def d__law_take : DD := ⟨⟨("_law_take", none), "_law_take", "_law_take", defArgs s__law_take, defBody s__law_take, defScope s__law_take, [], []⟩, ["_law_box", "_law_size", "_law_digit"], ["_law_box", "_law_size"], ⟨2, 3, m__law_take⟩⟩
def d__law_device : DD := ⟨⟨("_law_device", none), "_law_device", "_law_device", defArgs s__law_device, defBody s__law_device, defScope s__law_device, [], []⟩, ["_law_layout", "_law_tables", "_law_blocks", "_law_row", "_law_k", "_law_device_here", "_law_pair"], ["_law_layout", "_law_tables", "_law_blocks"], ⟨3, 7, m__law_device⟩⟩
def d__law_good : DD := ⟨⟨("_law_good", none), "_law_good", "_law_good", defArgs s__law_good, defBody s__law_good, defScope s__law_good, [], []⟩, ["_law_layout", "_law_box", "_law_ids"], ["_law_layout", "_law_box"], ⟨2, 3, m__law_good⟩⟩
def d__law_bad : DD := ⟨⟨("_law_bad", none), "_law_bad", "_law_bad", defArgs s__law_bad, defBody s__law_bad, defScope s__law_bad, [], []⟩, ["_law_layout", "_law_box", "_law_kind", "_law_ids"], ["_law_layout", "_law_box"], ⟨2, 4, m__law_bad⟩⟩
def d_law : DD := ⟨⟨("law", none), "law", "law", defArgs s_law, defBody s_law, defScope s_law, [], []⟩, ["_law_script", "_law_box", "_law_sizes", "_law_layout", "_law_tables", "_law_addresses", "_law_k", "_law_segment", "_law_address", "_law_table", "_law_wrong", "_law_due", "_law_blocks", "_law_order", "_law_number_here", "_law_block", "_law_pair", "_law_device_here", "_law_actual", "_law_told"], ["_law_script"], ⟨1, 20, m_law⟩⟩
def d_Device_written_blocks : GD := ⟨⟨("Device", some "written_blocks"), "written_blocks", "Device.written_blocks", defArgs s_Device_written_blocks, defBody s_Device_written_blocks, defScope s_Device_written_blocks, [], []⟩, ["self", "address", "block"], ["self"], ⟨1, 3, m_Device_written_blocks⟩⟩
def defs : List DD := [d_is_payload, d_payload_of, d_Layout_init, d_parts_of, d_address_at, d_segment_of, d_place_of, d_region_start, d_Counts_init, d_empty_table, d_commit_to_table, d_slots_after, d_move_in_table, d_Log_init, d_payload_at, d_contents_of, d_live_addresses, d_enter_segment, d_take_batch, d_point_fault, d_is_misplaced, d_tables_of, d_doubled_addresses, d_free_behind, d_shared_superblock, d_table_fault, d_block_fault, d_superblock_in, d_files_fault, d_read_numbers, d_checkpoint_in, d_batch_at, d_take_next, d_recover, d_contents_fault, d_log_fault, d_check, d_Device_init, d_Device_read, d_Device_write, d_Device_count_command, d__law_number, d__law_take, d__law_device, d__law_good, d__law_bad, d_law]
def gens : List GD := [d_Device_written_blocks]
def prg : Prg := ⟨defs, [("COMMIT", 1), ("MOVE", 2), ("DATA", 3), ("NODE", 4), ("PART", 5), ("LEAST_SEGMENTS", 4), ("MOST_SEGMENTS", 16), ("LEAST_BLOCKS", 16), ("MOST_BLOCKS", 32), ("HEAD_OCTETS", 16), ("SLOTS", 3), ("MOST_OCTETS", 1048576), ("USED_UP", 1099511627776)], ["enumerate", "len", "list", "sorted", "range", "min", "max", "int", "tuple", "isinstance"], ["Layout", "Counts", "Log", "Device"], ((["region_blocks", "device_blocks", "last_id", "payload", "fan", "limit", "block_size", "segment_blocks", "segments", "barriers", "checkpoint_blocks", "checkpoints", "move_blocks", "moves", "commit_blocks", "commits", "counts", "region", "last_sequence", "queue"] : List PySem.Str) ++ (["place", "head", "slots", "layout", "present", "device", "read", "size", "written_blocks", "dark", "fuse", "waiting", "seen", "sure", "_count_command", "write"] : List PySem.Str)), [(0, 8), (0, 7), (0, 6), (0, 3), (0, 5), (0, 2), (0, 4), (0, 0), (0, 1), (1, 15), (1, 14), (1, 13), (1, 12), (1, 11), (1, 10), (1, 9), (2, 25), (2, 23), (2, 24), (2, 22), (2, 21), (2, 20), (2, 19), (2, 18), (2, 17), (2, 16), (3, 23), (3, 33), (3, 32), (3, 31), (3, 30), (3, 29)], gens, [(37, [.non])], []⟩
theorem b_is_payload : BindOk d_is_payload := fun _ _ _ F => F.bindsN fun _ _ _ _ _ _ us hl => match us, hl with | [_], _ => rfl
theorem b_payload_of : BindOk d_payload_of := fun _ _ _ F => F.bindsN fun _ _ _ _ _ _ us hl => match us, hl with | [_], _ => rfl
theorem b_Layout_init : BindOk d_Layout_init := fun _ _ _ F => F.bindsN fun _ _ _ _ _ _ us hl => match us, hl with | [_, _, _, _], _ => rfl
theorem b_parts_of : BindOk d_parts_of := fun _ _ _ F => F.bindsN fun _ _ _ _ _ _ us hl => match us, hl with | [_, _], _ => rfl
theorem b_address_at : BindOk d_address_at := fun _ _ _ F => F.bindsN fun _ _ _ _ _ _ us hl => match us, hl with | [_, _, _], _ => rfl
theorem b_segment_of : BindOk d_segment_of := fun _ _ _ F => F.bindsN fun _ _ _ _ _ _ us hl => match us, hl with | [_, _], _ => rfl
theorem b_place_of : BindOk d_place_of := fun _ _ _ F => F.bindsN fun _ _ _ _ _ _ us hl => match us, hl with | [_, _], _ => rfl
theorem b_region_start : BindOk d_region_start := fun _ _ _ F => F.bindsN fun _ _ _ _ _ _ us hl => match us, hl with | [_, _], _ => rfl
theorem b_Counts_init : BindOk d_Counts_init := fun _ _ _ F => F.bindsN fun _ _ _ _ _ _ us hl => match us, hl with | [_], _ => rfl
theorem b_empty_table : BindOk d_empty_table := fun _ _ _ F => F.bindsN fun _ _ _ _ _ _ us hl => match us, hl with | [_], _ => rfl
theorem b_commit_to_table : BindOk d_commit_to_table := fun _ _ _ F => F.bindsN fun _ _ _ _ _ _ us hl => match us, hl with | [_, _, _, _], _ => rfl
theorem b_slots_after : BindOk d_slots_after := fun _ _ _ F => F.bindsN fun _ _ _ _ _ _ us hl => match us, hl with | [_, _, _], _ => rfl
theorem b_move_in_table : BindOk d_move_in_table := fun _ _ _ F => F.bindsN fun _ _ _ _ _ _ us hl => match us, hl with | [_, _, _], _ => rfl
theorem b_Log_init : BindOk d_Log_init := fun _ _ _ F => F.bindsN fun _ _ _ _ _ _ us hl => match us, hl with | [_, _], _ => rfl
theorem b_payload_at : BindOk d_payload_at := fun _ _ _ F => F.bindsN fun _ _ _ _ _ _ us hl => match us, hl with | [_, _], _ => rfl
theorem b_contents_of : BindOk d_contents_of := fun _ _ _ F => F.bindsN fun _ _ _ _ _ _ us hl => match us, hl with | [_, _], _ => rfl
theorem b_live_addresses : BindOk d_live_addresses := fun _ _ _ F => F.bindsN fun _ _ _ _ _ _ us hl => match us, hl with | [_], _ => rfl
theorem b_enter_segment : BindOk d_enter_segment := fun _ _ _ F => F.bindsN fun _ _ _ _ _ _ us hl => match us, hl with | [_], _ => rfl
theorem b_take_batch : BindOk d_take_batch := fun _ _ _ F => F.bindsN fun _ _ _ _ _ _ us hl => match us, hl with | [_, _, _], _ => rfl
theorem b_point_fault : BindOk d_point_fault := fun _ _ _ F => F.bindsN fun _ _ _ _ _ _ us hl => match us, hl with | [_], _ => rfl
theorem b_is_misplaced : BindOk d_is_misplaced := fun _ _ _ F => F.bindsN fun _ _ _ _ _ _ us hl => match us, hl with | [_, _], _ => rfl
theorem b_tables_of : BindOk d_tables_of := fun _ _ _ F => F.bindsN fun _ _ _ _ _ _ us hl => match us, hl with | [_], _ => rfl
theorem b_doubled_addresses : BindOk d_doubled_addresses := fun _ _ _ F => F.bindsN fun _ _ _ _ _ _ us hl => match us, hl with | [_], _ => rfl
theorem b_free_behind : BindOk d_free_behind := fun _ _ _ F => F.bindsN fun _ _ _ _ _ _ us hl => match us, hl with | [_, _], _ => rfl
theorem b_shared_superblock : BindOk d_shared_superblock := fun _ _ _ F => F.bindsN fun _ _ _ _ _ _ us hl => match us, hl with | [_], _ => rfl
theorem b_table_fault : BindOk d_table_fault := fun _ _ _ F => F.bindsN fun _ _ _ _ _ _ us hl => match us, hl with | [_], _ => rfl
theorem b_block_fault : BindOk d_block_fault := fun _ _ _ F => F.bindsN fun _ _ _ _ _ _ us hl => match us, hl with | [_], _ => rfl
theorem b_superblock_in : BindOk d_superblock_in := fun _ _ _ F => F.bindsN fun _ _ _ _ _ _ us hl => match us, hl with | [_], _ => rfl
theorem b_files_fault : BindOk d_files_fault := fun _ _ _ F => F.bindsN fun _ _ _ _ _ _ us hl => match us, hl with | [_, _], _ => rfl
theorem b_read_numbers : BindOk d_read_numbers := fun _ _ _ F => F.bindsN fun _ _ _ _ _ _ us hl => match us, hl with | [_, _], _ => rfl
theorem b_checkpoint_in : BindOk d_checkpoint_in := fun _ _ _ F => F.bindsN fun _ _ _ _ _ _ us hl => match us, hl with | [_, _], _ => rfl
theorem b_batch_at : BindOk d_batch_at := fun _ _ _ F => F.bindsN fun _ _ _ _ _ _ us hl => match us, hl with | [_, _, _, _], _ => rfl
theorem b_take_next : BindOk d_take_next := fun _ _ _ F => F.bindsN fun _ _ _ _ _ _ us hl => match us, hl with | [_, _], _ => rfl
theorem b_recover : BindOk d_recover := fun _ _ _ F => F.bindsN fun _ _ _ _ _ _ us hl => match us, hl with | [_], _ => rfl
theorem b_contents_fault : BindOk d_contents_fault := fun _ _ _ F => F.bindsN fun _ _ _ _ _ _ us hl => match us, hl with | [_, _], _ => rfl
theorem b_log_fault : BindOk d_log_fault := fun _ _ _ F => F.bindsN fun _ _ _ _ _ _ us hl => match us, hl with | [_], _ => rfl
theorem b_check : BindOk d_check := fun _ _ _ F => F.bindsN fun _ _ _ _ _ _ us hl => match us, hl with | [_], _ => rfl
theorem b_Device_init : BindOk d_Device_init := fun K f fd F => by
  obtain ⟨ds, hv, hb⟩ := F.binds1 (ps := d_Device_init.ps) 3 1 (List.cons_ne_nil _ _) rfl fun T kV doc pm an cdv ct us its hl hi => match us, hl, its, hi with | [_, _, _], _, [_], _ => ⟨_, rfl, rfl⟩
  cases hv
  exact hb
theorem b_Device_read : BindOk d_Device_read := fun _ _ _ F => F.bindsN fun _ _ _ _ _ _ us hl => match us, hl with | [_, _], _ => rfl
theorem b_Device_write : BindOk d_Device_write := fun _ _ _ F => F.bindsN fun _ _ _ _ _ _ us hl => match us, hl with | [_, _, _], _ => rfl
theorem b_Device_count_command : BindOk d_Device_count_command := fun _ _ _ F => F.bindsN fun _ _ _ _ _ _ us hl => match us, hl with | [_], _ => rfl
theorem b__law_number : BindOk d__law_number := fun _ _ _ F => F.bindsN fun _ _ _ _ _ _ us hl => match us, hl with | [_, _], _ => rfl
theorem b__law_take : BindOk d__law_take := fun _ _ _ F => F.bindsN fun _ _ _ _ _ _ us hl => match us, hl with | [_, _], _ => rfl
theorem b__law_device : BindOk d__law_device := fun _ _ _ F => F.bindsN fun _ _ _ _ _ _ us hl => match us, hl with | [_, _, _], _ => rfl
theorem b__law_good : BindOk d__law_good := fun _ _ _ F => F.bindsN fun _ _ _ _ _ _ us hl => match us, hl with | [_, _], _ => rfl
theorem b__law_bad : BindOk d__law_bad := fun _ _ _ F => F.bindsN fun _ _ _ _ _ _ us hl => match us, hl with | [_, _], _ => rfl
theorem b_law : BindOk d_law := fun _ _ _ F => F.bindsN fun _ _ _ _ _ _ us hl => match us, hl with | [_], _ => rfl
theorem b_Device_written_blocks : BindOkG d_Device_written_blocks := fun _ _ _ F => F.bindsN fun _ _ _ _ _ _ us hl => match us, hl with | [_], _ => rfl
theorem binds : ∀ d ∈ prg.defs, BindOk d := by
  show ∀ d ∈ defs, BindOk d
  unfold defs
  exact List.forall_mem_cons.mpr ⟨b_is_payload, List.forall_mem_cons.mpr ⟨b_payload_of, List.forall_mem_cons.mpr ⟨b_Layout_init, List.forall_mem_cons.mpr ⟨b_parts_of, List.forall_mem_cons.mpr ⟨b_address_at, List.forall_mem_cons.mpr ⟨b_segment_of, List.forall_mem_cons.mpr ⟨b_place_of, List.forall_mem_cons.mpr ⟨b_region_start, List.forall_mem_cons.mpr ⟨b_Counts_init, List.forall_mem_cons.mpr ⟨b_empty_table, List.forall_mem_cons.mpr ⟨b_commit_to_table, List.forall_mem_cons.mpr ⟨b_slots_after, List.forall_mem_cons.mpr ⟨b_move_in_table, List.forall_mem_cons.mpr ⟨b_Log_init, List.forall_mem_cons.mpr ⟨b_payload_at, List.forall_mem_cons.mpr ⟨b_contents_of, List.forall_mem_cons.mpr ⟨b_live_addresses, List.forall_mem_cons.mpr ⟨b_enter_segment, List.forall_mem_cons.mpr ⟨b_take_batch, List.forall_mem_cons.mpr ⟨b_point_fault, List.forall_mem_cons.mpr ⟨b_is_misplaced, List.forall_mem_cons.mpr ⟨b_tables_of, List.forall_mem_cons.mpr ⟨b_doubled_addresses, List.forall_mem_cons.mpr ⟨b_free_behind, List.forall_mem_cons.mpr ⟨b_shared_superblock, List.forall_mem_cons.mpr ⟨b_table_fault, List.forall_mem_cons.mpr ⟨b_block_fault, List.forall_mem_cons.mpr ⟨b_superblock_in, List.forall_mem_cons.mpr ⟨b_files_fault, List.forall_mem_cons.mpr ⟨b_read_numbers, List.forall_mem_cons.mpr ⟨b_checkpoint_in, List.forall_mem_cons.mpr ⟨b_batch_at, List.forall_mem_cons.mpr ⟨b_take_next, List.forall_mem_cons.mpr ⟨b_recover, List.forall_mem_cons.mpr ⟨b_contents_fault, List.forall_mem_cons.mpr ⟨b_log_fault, List.forall_mem_cons.mpr ⟨b_check, List.forall_mem_cons.mpr ⟨b_Device_init, List.forall_mem_cons.mpr ⟨b_Device_read, List.forall_mem_cons.mpr ⟨b_Device_write, List.forall_mem_cons.mpr ⟨b_Device_count_command, List.forall_mem_cons.mpr ⟨b__law_number, List.forall_mem_cons.mpr ⟨b__law_take, List.forall_mem_cons.mpr ⟨b__law_device, List.forall_mem_cons.mpr ⟨b__law_good, List.forall_mem_cons.mpr ⟨b__law_bad, List.forall_mem_cons.mpr ⟨b_law, List.forall_mem_nil _⟩⟩⟩⟩⟩⟩⟩⟩⟩⟩⟩⟩⟩⟩⟩⟩⟩⟩⟩⟩⟩⟩⟩⟩⟩⟩⟩⟩⟩⟩⟩⟩⟩⟩⟩⟩⟩⟩⟩⟩⟩⟩⟩⟩⟩⟩⟩
theorem bindsG : ∀ d ∈ prg.gens, BindOkG d := by
  show ∀ d ∈ gens, BindOkG d
  unfold gens
  exact List.forall_mem_cons.mpr ⟨b_Device_written_blocks, List.forall_mem_nil _⟩
theorem bd_Device_init_1 : BindOkD d_Device_init [.non] := fun K f fd F => by
  obtain ⟨dus, hv, hb⟩ := F.binds1 (ps := d_Device_init.ps) 2 0 (List.cons_ne_nil _ _) rfl fun T kV doc pm an cdv ct us its hl hi => match us, hl, its, hi with | [_, _], _, [_], _ => ⟨_, rfl, rfl⟩
  exact ⟨_, dus, hv, hb, fun as H => .cons (.non) (.nil)⟩
theorem bindsD : ∀ q ∈ prg.dfls, ∀ d, prg.defs[q.1]? = some d → BindOkD d q.2 := by
  show ∀ q ∈ [((37, [.non]) : Nat × List Z)], ∀ d, prg.defs[q.1]? = some d → BindOkD d q.2
  exact List.forall_mem_cons.mpr ⟨fun d e => (by cases e; exact bd_Device_init_1), List.forall_mem_nil _⟩
theorem k_is_payload : DD.ok prg.gt d_is_payload = true := by decide +kernel
theorem k_payload_of : DD.ok prg.gt d_payload_of = true := by decide +kernel
theorem k_Layout_init : DD.ok prg.gt d_Layout_init = true := by decide +kernel
theorem k_parts_of : DD.ok prg.gt d_parts_of = true := by decide +kernel
theorem k_address_at : DD.ok prg.gt d_address_at = true := by decide +kernel
theorem k_segment_of : DD.ok prg.gt d_segment_of = true := by decide +kernel
theorem k_place_of : DD.ok prg.gt d_place_of = true := by decide +kernel
theorem k_region_start : DD.ok prg.gt d_region_start = true := by decide +kernel
theorem k_Counts_init : DD.ok prg.gt d_Counts_init = true := by decide +kernel
theorem k_empty_table : DD.ok prg.gt d_empty_table = true := by decide +kernel
theorem k_commit_to_table : DD.ok prg.gt d_commit_to_table = true := by decide +kernel
theorem k_slots_after : DD.ok prg.gt d_slots_after = true := by decide +kernel
theorem k_move_in_table : DD.ok prg.gt d_move_in_table = true := by decide +kernel
theorem k_Log_init : DD.ok prg.gt d_Log_init = true := by decide +kernel
theorem k_payload_at : DD.ok prg.gt d_payload_at = true := by decide +kernel
theorem k_contents_of : DD.ok prg.gt d_contents_of = true := by decide +kernel
theorem k_live_addresses : DD.ok prg.gt d_live_addresses = true := by decide +kernel
theorem k_enter_segment : DD.ok prg.gt d_enter_segment = true := by decide +kernel
theorem k_take_batch : DD.ok prg.gt d_take_batch = true := by decide +kernel
theorem k_point_fault : DD.ok prg.gt d_point_fault = true := by decide +kernel
theorem k_is_misplaced : DD.ok prg.gt d_is_misplaced = true := by decide +kernel
theorem k_tables_of : DD.ok prg.gt d_tables_of = true := by decide +kernel
theorem k_doubled_addresses : DD.ok prg.gt d_doubled_addresses = true := by decide +kernel
theorem k_free_behind : DD.ok prg.gt d_free_behind = true := by decide +kernel
theorem k_shared_superblock : DD.ok prg.gt d_shared_superblock = true := by decide +kernel
theorem k_table_fault : DD.ok prg.gt d_table_fault = true := by decide +kernel
theorem k_block_fault : DD.ok prg.gt d_block_fault = true := by decide +kernel
theorem k_superblock_in : DD.ok prg.gt d_superblock_in = true := by decide +kernel
theorem k_files_fault : DD.ok prg.gt d_files_fault = true := by decide +kernel
theorem k_read_numbers : DD.ok prg.gt d_read_numbers = true := by decide +kernel
theorem k_checkpoint_in : DD.ok prg.gt d_checkpoint_in = true := by decide +kernel
theorem k_batch_at : DD.ok prg.gt d_batch_at = true := by decide +kernel
theorem k_take_next : DD.ok prg.gt d_take_next = true := by decide +kernel
theorem k_recover : DD.ok prg.gt d_recover = true := by decide +kernel
theorem k_contents_fault : DD.ok prg.gt d_contents_fault = true := by decide +kernel
theorem k_log_fault : DD.ok prg.gt d_log_fault = true := by decide +kernel
theorem k_check : DD.ok prg.gt d_check = true := by decide +kernel
theorem k_Device_init : DD.ok prg.gt d_Device_init = true := by decide +kernel
theorem k_Device_read : DD.ok prg.gt d_Device_read = true := by decide +kernel
theorem k_Device_write : DD.ok prg.gt d_Device_write = true := by decide +kernel
theorem k_Device_count_command : DD.ok prg.gt d_Device_count_command = true := by decide +kernel
theorem k__law_number : DD.ok prg.gt d__law_number = true := by decide +kernel
theorem k__law_take : DD.ok prg.gt d__law_take = true := by decide +kernel
theorem k__law_device : DD.ok prg.gt d__law_device = true := by decide +kernel
theorem k__law_good : DD.ok prg.gt d__law_good = true := by decide +kernel
theorem k__law_bad : DD.ok prg.gt d__law_bad = true := by decide +kernel
theorem k_law : DD.ok prg.gt d_law = true := by decide +kernel
theorem k_Device_written_blocks : GD.ok prg.gt d_Device_written_blocks = true := by decide +kernel
theorem oksG : prg.gens.all (GD.ok prg.gt) = true := by
  show gens.all _ = true
  unfold gens
  simp only [List.all_cons, List.all_nil, Bool.and_true, k_Device_written_blocks, Bool.and_self]
theorem oks : prg.defs.all (DD.ok prg.gt) = true := by
  show defs.all _ = true
  unfold defs
  simp only [List.all_cons, List.all_nil, Bool.and_true, k_is_payload, k_payload_of, k_Layout_init, k_parts_of, k_address_at, k_segment_of, k_place_of, k_region_start, k_Counts_init, k_empty_table, k_commit_to_table, k_slots_after, k_move_in_table, k_Log_init, k_payload_at, k_contents_of, k_live_addresses, k_enter_segment, k_take_batch, k_point_fault, k_is_misplaced, k_tables_of, k_doubled_addresses, k_free_behind, k_shared_superblock, k_table_fault, k_block_fault, k_superblock_in, k_files_fault, k_read_numbers, k_checkpoint_in, k_batch_at, k_take_next, k_recover, k_contents_fault, k_log_fault, k_check, k_Device_init, k_Device_read, k_Device_write, k_Device_count_command, k__law_number, k__law_take, k__law_device, k__law_good, k__law_bad, k_law, Bool.and_self]
theorem ok : prg.Ok := ⟨oks, by decide +kernel, by decide +kernel, binds, oksG, bindsG, bindsD⟩
abbrev iLaw : Nat := 46
abbrev f_is_payload : Nat := 0
abbrev f_payload_of : Nat := 1
abbrev f_Layout_init : Nat := 2
abbrev f_parts_of : Nat := 3
abbrev f_address_at : Nat := 4
abbrev f_segment_of : Nat := 5
abbrev f_place_of : Nat := 6
abbrev f_region_start : Nat := 7
abbrev f_Counts_init : Nat := 8
abbrev f_empty_table : Nat := 9
abbrev f_commit_to_table : Nat := 10
abbrev f_slots_after : Nat := 11
abbrev f_move_in_table : Nat := 12
abbrev f_Log_init : Nat := 13
abbrev f_payload_at : Nat := 14
abbrev f_contents_of : Nat := 15
abbrev f_live_addresses : Nat := 16
abbrev f_enter_segment : Nat := 17
abbrev f_take_batch : Nat := 18
abbrev f_point_fault : Nat := 19
abbrev f_is_misplaced : Nat := 20
abbrev f_tables_of : Nat := 21
abbrev f_doubled_addresses : Nat := 22
abbrev f_free_behind : Nat := 23
abbrev f_shared_superblock : Nat := 24
abbrev f_table_fault : Nat := 25
abbrev f_block_fault : Nat := 26
abbrev f_superblock_in : Nat := 27
abbrev f_files_fault : Nat := 28
abbrev f_read_numbers : Nat := 29
abbrev f_checkpoint_in : Nat := 30
abbrev f_batch_at : Nat := 31
abbrev f_take_next : Nat := 32
abbrev f_recover : Nat := 33
abbrev f_contents_fault : Nat := 34
abbrev f_log_fault : Nat := 35
abbrev f_check : Nat := 36
abbrev f_Device_init : Nat := 37
abbrev f_Device_read : Nat := 38
abbrev f_Device_write : Nat := 39
abbrev f_Device_count_command : Nat := 40
abbrev f__law_number : Nat := 41
abbrev f__law_take : Nat := 42
abbrev f__law_device : Nat := 43
abbrev f__law_good : Nat := 44
abbrev f__law_bad : Nat := 45
abbrev f_law : Nat := 46
abbrev g_Device_written_blocks : Nat := 0
abbrev a_region_blocks : Nat := 0
abbrev a_device_blocks : Nat := 1
abbrev a_last_id : Nat := 2
abbrev a_payload : Nat := 3
abbrev a_fan : Nat := 4
abbrev a_limit : Nat := 5
abbrev a_block_size : Nat := 6
abbrev a_segment_blocks : Nat := 7
abbrev a_segments : Nat := 8
abbrev a_barriers : Nat := 9
abbrev a_checkpoint_blocks : Nat := 10
abbrev a_checkpoints : Nat := 11
abbrev a_move_blocks : Nat := 12
abbrev a_moves : Nat := 13
abbrev a_commit_blocks : Nat := 14
abbrev a_commits : Nat := 15
abbrev a_counts : Nat := 16
abbrev a_region : Nat := 17
abbrev a_last_sequence : Nat := 18
abbrev a_queue : Nat := 19
abbrev a_place : Nat := 20
abbrev a_head : Nat := 21
abbrev a_slots : Nat := 22
abbrev a_layout : Nat := 23
abbrev a_present : Nat := 24
abbrev a_device : Nat := 25
abbrev a_read : Nat := 26
abbrev a_size : Nat := 27
abbrev a_written_blocks : Nat := 28
abbrev a_dark : Nat := 29
abbrev a_fuse : Nat := 30
abbrev a_waiting : Nat := 31
abbrev a_seen : Nat := 32
abbrev a_sure : Nat := 33
abbrev a__count_command : Nat := 34
abbrev a_write : Nat := 35
abbrev c_Layout : Nat := 0
abbrev c_Counts : Nat := 1
abbrev c_Log : Nat := 2
abbrev c_Device : Nat := 3
end K88
/-! Tables of a log in plain Lean. -/
namespace K88
open PySem PySem.Spec PyProof.Rows L2 Zm
structure Lay where
  S : Int
  B : Int
  pay : Int
  lim : Int
  last : Int
  rb : Int
  dev : Int
def L0 : Lay := ⟨4, 16, 15, 30, 45, 6, 76⟩
def L1 : Lay := ⟨5, 16, 15, 45, 60, 8, 96⟩
def L2 : Lay := ⟨4, 17, 16, 32, 48, 7, 82⟩
def LOk (L : Lay) : Prop := L = L0 ∨ L = L1 ∨ L = L2
def segOf (L : Lay) (a : Int) : Option Int := if a < 2 * L.rb ∨ L.dev ≤ a then none else some ((a - 2 * L.rb) / L.B)
def plcOf (L : Lay) (a : Int) : Int := (a - 2 * L.rb) % L.B
structure LogM where
  pres : List Int
  slots : List (Option (List Int))
  head : Int
  place : Int
  queue : List Int
def tabsOf (m : LogM) : List (List Int) := m.pres :: m.slots.filterMap id
structure LiveOk (m : LogM) (lv : List Int) : Prop where
  sorted : lv.Pairwise (· < ·)
  mem : ∀ x, x ∈ lv ↔ x ≠ 0 ∧ ∃ t ∈ tabsOf m, x ∈ t
/-- the ids from 1 on with their addresses -/
def occT (t : List Int) : List (Int × Int) := (t.zipIdx.drop 1).map fun p => ((p.2 : Int), p.1)
def occs (m : LogM) : List (Int × Int) := (tabsOf m).flatMap occT
def DblOk (m : LogM) (db : List Int) : Prop := ∀ x, x ∈ db ↔ x ≠ 0 ∧ ∃ i j, i ≠ j ∧ (i, x) ∈ occs m ∧ (j, x) ∈ occs m
def dupF : List Int → Option (Str × Int)
  | [] => none
  | x :: xs => if x ∈ xs then some ("a segment is free twice", x) else dupF xs
def pointF (L : Lay) (m : LogM) : Option (Str × Int) :=
  if L.S ≤ m.head then some ("no such head", m.head)
  else if L.B < m.place then some ("no such place", m.place)
  else match m.queue.find? (fun s => decide (L.S ≤ s)) with
    | some s => some ("no such segment", s)
    | none => dupF (m.head :: m.queue)
def misp (L : Lay) (m : LogM) (a : Int) : Bool := match segOf L a with
  | none => true
  | some s => decide (s ∈ m.queue) || (decide (plcOf L a = 0) || (decide (s = m.head) && decide (m.place ≤ plcOf L a)))
def freeC (L : Lay) (m : LogM) (lv : List Int) : Nat := ((List.range L.S.toNat).filter fun s : Nat => decide ((s : Int) ≠ m.head) && !decide (some (s : Int) ∈ lv.map (segOf L))).length
def sharedF : List (Option (List Int)) → List Int → Int
  | [], _ => 0
  | none :: r, seen => sharedF r seen
  | some t :: r, seen => if t.getD 1 0 ≠ 0 ∧ t.getD 1 0 ∈ seen then t.getD 1 0 else sharedF r (seen ++ [t.getD 1 0])
def minL : List Int → Int
  | [] => 0
  | x :: xs => xs.foldl min x
def tf (L : Lay) (m : LogM) (lv db : List Int) : Option (Str × Int) := match pointF L m with
  | some w => some w
  | none => match lv.find? (misp L m) with
    | some a => some ("a live block is misplaced", a)
    | none => if db ≠ [] then some ("an address is used twice", minL db)
      else if L.lim < (lv.length : Int) then some ("too many blocks", (lv.length : Int))
      else if freeC L m lv = 0 then some ("no segment can be free", 0)
      else if sharedF m.slots [] ≠ 0 then some ("two snapshots share a superblock", sharedF m.slots [])
      else none
end K88
namespace K88
open PySem PySem.Spec PyProof.Rows L2 Zm
local macro_rules | `(tactic| walk_at "zs") => `(tactic| try simp only [runD_Ok, r_dE_var, r_dE_lit, r_dE_glb, r_dE_bin, r_dE_neg, r_dE_cmp, r_dE_cmp2, r_dE_and, r_dE_or, r_dE_not, r_dE_ite, r_dE_tup, r_dE_lst, r_dE_dct0, r_dE_idx, r_dE_slc, r_dE_fld, r_dE_call, r_dE_mk, r_dE_mth, r_dE_mkd, r_dE_dcomp, r_dE_maxd, r_dI_enum, r_dG_flds, r_dFlds_nil, r_dFlds_cons, r_dS_gfor, r_dS_try, r_dY_fn, r_dY_mth, r_dE_bf, r_dE_bm, r_dE_isT, r_dE_comp, r_dX_tr, r_dX_and, r_dX_or, r_dX_not, r_dEs_nil, r_dEs_cons, r_dP_no, r_dP_some, r_dC_no, r_dC_some, r_dI_seq, r_dI_rng1, r_dI_rng2, r_dI_rrng1, r_dG_nm, r_dG_tup, r_dG_sub, r_dG_fld, r_dS_asg, r_dS_aug, r_dS_expr, r_dS_ret, r_dS_retN, r_dS_ite, r_dS_while, r_dS_for, r_dS_pass, r_dS_brk, r_dS_cont, r_dS_never, r_dSs_nil, r_dSs_cons, tgt, zBin, zCmp, Res.bind_ok, Ok_ok, Ok_bind, Ok_guard, List.length_cons, List.length_nil, List.map_cons, List.map_nil, List.replicate, List.nil_append, List.cons_append, List.getElem?_cons_zero, List.getElem?_cons_succ, List.set_cons_zero, List.set_cons_succ, Nat.reduceSub, Nat.reduceAdd, zAdd_int, zSub_int, zAddI_int, zMul_int, zDiv_int, zMod_int, zPow_int, zNeg_int, zLt_int, zLe_int, zGt_int, zGe_int, zEq_int, zNe_int, zIs_non, zIsNot_non, zTru_bl, zTru_int, zTru_non, zTru_tup, atI_0, atI_1, atI_2, atI_3, oRes_some, zIdx_tup, zBF_int, zBF_len_tup, zBF_list_tup, zBF_min, newL_eq, if_true, if_false, Bool.false_eq_true, reduceIte, zIsN, Bool.not_true, Bool.not_false, beq_self_eq_true, bne_self_eq_false, Int.reduceBNe, Int.reduceEq, decide_true, decide_false, true_and, and_true, if_true, if_false, List.isEmpty_cons, List.isEmpty_nil, setAll, List.all_cons, List.all_nil, flatZ, wipeZ, line_0, line_1, line_2, line_3, line_4, line_5, line_6, line_7, line_8, line_9])
theorem parts_of (k : Nat) (a b : Int) (h : Mh) (hb : 0 < b) (hb2 : b < 4000000) : Ok (prg.C (k + 1) f_parts_of [.int a, .int b] h) fun z h' => z = .int ((a + b - 1) / b) ∧ h' = h := by
  rw [prg.call (b := m_parts_of) rfl h rfl]
  unfold m_parts_of
  walk_at "zs"
  exact CDivW_small hb hb2
theorem take (k b : Nat) (n s : Int) (h : Mh) (e : h[b]? = some (.lst [.int n])) (hs : 0 < s) (hs2 : s < 4000000) :
    Ok (prg.C (k + 1) f__law_take [.ob b, .int s] h) fun z h' => z = .int (n % s) ∧ h' = h.set b (.lst [.int (n / s)]) := by
  rw [prg.call (b := m__law_take) rfl h rfl]
  unfold m__law_take m__law_take_1 m__law_take_2
  walk_at "zs"
  simp only [zIdx_lst e]
  walk_at "zs"
  refine ⟨hs, ?_⟩
  simp only [zIdx_lst e]
  walk_at "zs"
  refine ⟨CDivW_small hs hs2, ?_⟩
  rw [zSet_lst e (j := 0) rfl]
  walk_at "zs"
theorem cmulR {i : Int} {j : Int} (h1 : -(2 ^ 64) < j := by omega) (h2 : j < 2 ^ 64 := by omega) : CMul i j := .inr ⟨h1, h2⟩
theorem cmulL {i : Int} {j : Int} (h1 : -(2 ^ 64) < i := by omega) (h2 : i < 2 ^ 64 := by omega) : CMul i j := .inl ⟨h1, h2⟩
/-- a layout object -/
def LayAt (h : Mh) (a : Nat) (L : Lay) : Prop := ∃ fs, h[a]? = some (.ins c_Layout fs) ∧ lookF fs a_segments = some (.int L.S) ∧ lookF fs a_segment_blocks = some (.int L.B) ∧ lookF fs a_payload = some (.int L.pay) ∧ lookF fs a_limit = some (.int L.lim) ∧
  lookF fs a_last_id = some (.int L.last) ∧ lookF fs a_fan = some (.int 32) ∧ lookF fs a_region_blocks = some (.int L.rb) ∧ lookF fs a_device_blocks = some (.int L.dev)
theorem LayAt.pre {h h' : Mh} {a : Nat} {L : Lay} (l : LayAt h a L) (p : Pre h h') : LayAt h' a L := by
  obtain ⟨fs, e, r⟩ := l
  exact ⟨fs, p.get e, r⟩
section
variable {h : Mh} {a : Nat} {L : Lay}
theorem LayAt.S (l : LayAt h a L) : zFld (.ob a) a_segments h = .ok (.int L.S) h := by obtain ⟨fs, e, e1, e2, e3, e4, e5, e6, e7, e8⟩ := l; rw [zFld_ins e, e1]; rfl
theorem LayAt.B (l : LayAt h a L) : zFld (.ob a) a_segment_blocks h = .ok (.int L.B) h := by obtain ⟨fs, e, e1, e2, e3, e4, e5, e6, e7, e8⟩ := l; rw [zFld_ins e, e2]; rfl
theorem LayAt.pay (l : LayAt h a L) : zFld (.ob a) a_payload h = .ok (.int L.pay) h := by obtain ⟨fs, e, e1, e2, e3, e4, e5, e6, e7, e8⟩ := l; rw [zFld_ins e, e3]; rfl
theorem LayAt.lim (l : LayAt h a L) : zFld (.ob a) a_limit h = .ok (.int L.lim) h := by obtain ⟨fs, e, e1, e2, e3, e4, e5, e6, e7, e8⟩ := l; rw [zFld_ins e, e4]; rfl
theorem LayAt.last (l : LayAt h a L) : zFld (.ob a) a_last_id h = .ok (.int L.last) h := by obtain ⟨fs, e, e1, e2, e3, e4, e5, e6, e7, e8⟩ := l; rw [zFld_ins e, e5]; rfl
theorem LayAt.fan (l : LayAt h a L) : zFld (.ob a) a_fan h = .ok (.int 32) h := by obtain ⟨fs, e, e1, e2, e3, e4, e5, e6, e7, e8⟩ := l; rw [zFld_ins e, e6]; rfl
theorem LayAt.rb (l : LayAt h a L) : zFld (.ob a) a_region_blocks h = .ok (.int L.rb) h := by obtain ⟨fs, e, e1, e2, e3, e4, e5, e6, e7, e8⟩ := l; rw [zFld_ins e, e7]; rfl
theorem LayAt.dev (l : LayAt h a L) : zFld (.ob a) a_device_blocks h = .ok (.int L.dev) h := by obtain ⟨fs, e, e1, e2, e3, e4, e5, e6, e7, e8⟩ := l; rw [zFld_ins e, e8]; rfl
end
theorem LOk.rng {L : Lay} (o : LOk L) : 4 ≤ L.S ∧ L.S ≤ 5 ∧ 16 ≤ L.B ∧ L.B ≤ 17 ∧ L.pay = L.B - 1 ∧ 30 ≤ L.lim ∧ L.lim ≤ 45 ∧ L.last = L.lim + L.pay ∧ 6 ≤ L.rb ∧ L.rb ≤ 8 ∧ 76 ≤ L.dev ∧ L.dev ≤ 96 := by
  rcases o with rfl | rfl | rfl <;> decide
theorem address_at (k a : Nat) (L : Lay) (s p : Int) (h : Mh) (l : LayAt h a L) (o : LOk L) : Ok (prg.C (k + 1) f_address_at [.ob a, .int s, .int p] h) fun z h' => z = .int (2 * L.rb + s * L.B + p) ∧ h' = h := by
  have r := o.rng
  rw [prg.call (b := m_address_at) rfl h rfl]
  unfold m_address_at
  walk_at "zs"
  simp only [l.rb]
  walk_at "zs"
  refine ⟨cmulL, ?_⟩
  simp only [l.B]
  walk_at "zs"
  exact cmulR
def oi : Option Int → Z
  | none => .non
  | some i => .int i
theorem segment_of (k a : Nat) (L : Lay) (x : Int) (h : Mh) (l : LayAt h a L) (o : LOk L) : Ok (prg.C (k + 1) f_segment_of [.ob a, .int x] h) fun z h' => z = oi (segOf L x) ∧ h' = h := by
  have r := o.rng
  rw [prg.call (b := m_segment_of) rfl h rfl]
  unfold m_segment_of m_segment_of_1 m_segment_of_2
  walk_at "zs"
  simp only [l.rb]
  walk_at "zs"
  refine ⟨cmulL, ?_⟩
  unfold segOf
  by_cases h1 : x < 2 * L.rb
  · simp only [h1]
    walk_at "zs"
    simp [oi]
  · simp only [h1]
    walk_at "zs"
    simp only [l.dev]
    walk_at "zs"
    by_cases h2 : L.dev ≤ x
    · simp only [h2]
      walk_at "zs"
      simp [oi]
    · simp only [h2]
      walk_at "zs"
      simp only [l.B]
      walk_at "zs"
      refine ⟨CDivW_small (by omega) (by omega), ?_⟩
      simp [oi]
theorem place_of (k a : Nat) (L : Lay) (x : Int) (h : Mh) (l : LayAt h a L) (o : LOk L) (hs : (segOf L x).isSome = true) : Ok (prg.C (k + 1) f_place_of [.ob a, .int x] h) fun z h' => z = .int (plcOf L x) ∧ h' = h := by
  have r := o.rng
  rw [prg.call (b := m_place_of) rfl h rfl]
  unfold m_place_of m_place_of_1 m_place_of_2
  unfold segOf at hs
  split at hs
  · cases hs
  rename_i hn
  rw [not_or] at hn
  walk_at "zs"
  simp only [l.rb]
  walk_at "zs"
  refine ⟨cmulL, ?_⟩
  simp only [hn.1]
  walk_at "zs"
  simp only [l.dev]
  walk_at "zs"
  simp only [hn.2]
  walk_at "zs"
  simp only [l.B]
  walk_at "zs"
  exact ⟨by omega, rfl⟩
theorem region_start (k a : Nat) (L : Lay) (x : Int) (h : Mh) (l : LayAt h a L) (o : LOk L) : Ok (prg.C (k + 1) f_region_start [.ob a, .int x] h) fun z h' => z = .int (x * L.rb) ∧ h' = h := by
  have r := o.rng
  rw [prg.call (b := m_region_start) rfl h rfl]
  unfold m_region_start
  walk_at "zs"
  simp only [l.rb]
  walk_at "zs"
  exact cmulR
end K88
namespace K88
open PySem PySem.Spec PyProof.Rows L2 Zm
local macro_rules | `(tactic| walk_at "zs") => `(tactic| try simp only [runD_Ok, r_dE_var, r_dE_lit, r_dE_glb, r_dE_bin, r_dE_neg, r_dE_cmp, r_dE_cmp2, r_dE_and, r_dE_or, r_dE_not, r_dE_ite, r_dE_tup, r_dE_lst, r_dE_dct0, r_dE_idx, r_dE_slc, r_dE_fld, r_dE_call, r_dE_mk, r_dE_mth, r_dE_mkd, r_dE_dcomp, r_dE_maxd, r_dI_enum, r_dG_flds, r_dFlds_nil, r_dFlds_cons, r_dS_gfor, r_dS_try, r_dY_fn, r_dY_mth, r_dE_bf, r_dE_bm, r_dE_isT, r_dE_comp, r_dX_tr, r_dX_and, r_dX_or, r_dX_not, r_dEs_nil, r_dEs_cons, r_dP_no, r_dP_some, r_dC_no, r_dC_some, r_dI_seq, r_dI_rng1, r_dI_rng2, r_dI_rrng1, r_dG_nm, r_dG_tup, r_dG_sub, r_dG_fld, r_dS_asg, r_dS_aug, r_dS_expr, r_dS_ret, r_dS_retN, r_dS_ite, r_dS_while, r_dS_for, r_dS_pass, r_dS_brk, r_dS_cont, r_dS_never, r_dSs_nil, r_dSs_cons, tgt, zBin, zCmp, Res.bind_ok, Ok_ok, Ok_bind, Ok_guard, List.length_cons, List.length_nil, List.map_cons, List.map_nil, List.replicate, List.nil_append, List.cons_append, List.getElem?_cons_zero, List.getElem?_cons_succ, List.set_cons_zero, List.set_cons_succ, Nat.reduceSub, Nat.reduceAdd, zAdd_int, zSub_int, zAddI_int, zMul_int, zDiv_int, zMod_int, zPow_int, zNeg_int, zLt_int, zLe_int, zGt_int, zGe_int, zEq_int, zNe_int, zIs_non, zIsNot_non, zTru_bl, zTru_int, zTru_non, zTru_tup, atI_0, atI_1, atI_2, atI_3, oRes_some, zIdx_tup, zBF_int, zBF_len_tup, zBF_list_tup, zBF_min, newL_eq, if_true, if_false, Bool.false_eq_true, reduceIte, zIsN, Bool.not_true, Bool.not_false, beq_self_eq_true, bne_self_eq_false, Int.reduceBNe, Int.reduceEq, decide_true, decide_false, true_and, and_true, if_true, if_false, List.isEmpty_cons, List.isEmpty_nil, setAll, List.all_cons, List.all_nil, flatZ, wipeZ, line_0, line_1, line_2, line_3, line_4, line_5, line_6, line_7, line_8, line_9])

def SlotAt (h : Mh) (z : Z) : Option (List Int) → Prop
  | none => z = .non
  | some t => ∃ b, z = .ob b ∧ h[b]? = some (.lst (t.map Z.int))
theorem SlotAt.pre {h h' : Mh} {z : Z} : ∀ {s : Option (List Int)}, SlotAt h z s → Pre h h' → SlotAt h' z s
  | none, e, _ => e
  | some _, ⟨b, e, g⟩, p => ⟨b, e, p.get g⟩
inductive SlotsAt (h : Mh) : List Z → List (Option (List Int)) → Prop where
  | nil : SlotsAt h [] []
  | cons {z : Z} {s : Option (List Int)} {zs : List Z} {ss : List (Option (List Int))} (x : SlotAt h z s) (r : SlotsAt h zs ss) : SlotsAt h (z :: zs) (s :: ss)
theorem SlotsAt.pre {h h' : Mh} {zs : List Z} {ss : List (Option (List Int))} (x : SlotsAt h zs ss) (p : Pre h h') : SlotsAt h' zs ss := by
  induction x with
  | nil => exact .nil
  | cons x _ ih => exact .cons (x.pre p) ih
theorem SlotsAt.split {h : Mh} {z : Z} {r : List Z} : ∀ {d : List Z} {ss : List (Option (List Int))}, SlotsAt h (d ++ z :: r) ss → ∃ d' s r', ss = d' ++ s :: r' ∧ SlotsAt h d d' ∧ SlotAt h z s ∧ SlotsAt h r r'
  | [], _, .cons x y => ⟨[], _, _, rfl, .nil, x, y⟩
  | _ :: _, _, .cons x y => by
    obtain ⟨d', s, r', rfl, a, b, c⟩ := y.split
    exact ⟨_ :: d', s, r', rfl, .cons x a, b, c⟩
theorem SlotsAt.len {h : Mh} {zs : List Z} {ss : List (Option (List Int))} (x : SlotsAt h zs ss) : zs.length = ss.length := by
  induction x with
  | nil => rfl
  | cons _ _ ih => simp [ih]
structure LogE (h : Mh) (a : Nat) (fs : List (Nat × Z)) (la pr sl qu : Nat) (zs : List Z) (L : Lay) (m : LogM) : Prop where
  ins : h[a]? = some (.ins c_Log fs)
  lay : LayAt h la L
  pres : h[pr]? = some (.lst (m.pres.map Z.int))
  slots : h[sl]? = some (.lst zs)
  sat : SlotsAt h zs m.slots
  queue : h[qu]? = some (.lst (m.queue.map Z.int))
  f1 : lookF fs a_layout = some (.ob la)
  f2 : lookF fs a_present = some (.ob pr)
  f3 : lookF fs a_slots = some (.ob sl)
  f4 : lookF fs a_queue = some (.ob qu)
  f5 : lookF fs a_head = some (.int m.head)
  f6 : lookF fs a_place = some (.int m.place)
section
variable {h h' : Mh} {a : Nat} {fs : List (Nat × Z)} {la pr sl qu : Nat} {zs : List Z} {L : Lay} {m : LogM}
theorem LogE.pre (g : LogE h a fs la pr sl qu zs L m) (p : Pre h h') : LogE h' a fs la pr sl qu zs L m :=
  ⟨p.get g.ins, g.lay.pre p, p.get g.pres, p.get g.slots, g.sat.pre p, p.get g.queue, g.f1, g.f2, g.f3, g.f4, g.f5, g.f6⟩
theorem LogE.zlay (g : LogE h a fs la pr sl qu zs L m) : zFld (.ob a) a_layout h = .ok (.ob la) h := by rw [zFld_ins g.ins, g.f1]; rfl
theorem LogE.zpres (g : LogE h a fs la pr sl qu zs L m) : zFld (.ob a) a_present h = .ok (.ob pr) h := by rw [zFld_ins g.ins, g.f2]; rfl
theorem LogE.zslots (g : LogE h a fs la pr sl qu zs L m) : zFld (.ob a) a_slots h = .ok (.ob sl) h := by rw [zFld_ins g.ins, g.f3]; rfl
theorem LogE.zqueue (g : LogE h a fs la pr sl qu zs L m) : zFld (.ob a) a_queue h = .ok (.ob qu) h := by rw [zFld_ins g.ins, g.f4]; rfl
theorem LogE.zhead (g : LogE h a fs la pr sl qu zs L m) : zFld (.ob a) a_head h = .ok (.int m.head) h := by rw [zFld_ins g.ins, g.f5]; rfl
theorem LogE.zplace (g : LogE h a fs la pr sl qu zs L m) : zFld (.ob a) a_place h = .ok (.int m.place) h := by rw [zFld_ins g.ins, g.f6]; rfl
end
theorem zIdx_new {h : Mh} {zs : List Z} {i : Nat} {z : Z} (e : zs[i]? = some z) {a : Nat} (ha : h[a]? = some (.lst zs)) : zIdx (.ob a) (.int i) h = .ok z h := by
  rw [zIdx_lst ha, atI_get (by omega) (by simpa using e)]; rfl
def fz : Option (Str × Int) → Z
  | none => .non
  | some w => .tup [.str w.1, .int w.2]
theorem zAdd_lsts {h : Mh} {a b : Nat} {xs ys : List Z} (e : h[a]? = some (.lst xs)) (f : h[b]? = some (.lst ys)) (hl : xs.length + ys.length ≤ 16777216) : zAdd (.ob a) (.ob b) h = .ok (.ob h.length) (h ++ [.lst (xs ++ ys)]) := by
  simp only [zAdd, e, f]
  rw [guard_pos (le_line hl)]
  rfl
theorem zSlc_lst {h : Mh} {a : Nat} {xs : List Z} (e : h[a]? = some (.lst xs)) (lo hi : Option Int) : zSlc (.ob a) lo hi h = .ok (.ob h.length) (h ++ [.lst (cutZ xs lo hi)]) := by
  simp only [zSlc, e]
  rfl
theorem dupF_drop (l : List Int) {i : Nat} (hl : i < l.length) : dupF (l.drop i) = if l[i] ∈ l.drop (i + 1) then some (("a segment is free twice" : Str), l[i]) else dupF (l.drop (i + 1)) := by
  rw [List.drop_eq_getElem_cons hl, dupF]
theorem point_fault (k a : Nat) (fs : List (Nat × Z)) (la pr sl qu : Nat) (zs : List Z) (L : Lay) (m : LogM) (h : Mh) (g : LogE h a fs la pr sl qu zs L m) (o : LOk L) (hq : m.queue.length < 1000) :
    Ok (prg.C (k + 1) f_point_fault [.ob a] h) fun z h' => z = fz (pointF L m) ∧ Pre h h' := by
  rw [prg.call (b := m_point_fault) rfl h rfl]
  unfold m_point_fault m_point_fault_1 m_point_fault_2
  (walk_at "zs"; repeat (simp only [g.zlay, g.zhead, g.lay.S]; walk_at "zs"))
  unfold pointF
  by_cases h1 : L.S ≤ m.head
  · (walk_at "zs"; repeat (simp only [h1, g.zhead, g.lay.S]; walk_at "zs"))
    exact ⟨rfl, .refl⟩
  (walk_at "zs"; repeat (simp only [h1, g.zplace, g.lay.B]; walk_at "zs"))
  by_cases h2 : L.B < m.place
  · (walk_at "zs"; repeat (simp only [h2, g.zplace]; walk_at "zs"))
    exact ⟨rfl, .refl⟩
  (walk_at "zs"; repeat (simp only [h2]; walk_at "zs"))
  unfold m_point_fault_3
  (walk_at "zs"; repeat (simp only [g.zqueue]; walk_at "zs"))
  refine for_lst (fun d ρ h' => h' = h ∧ (∃ x, ρ = [some (.ob a), some (.ob la), x, none, none]) ∧ ∃ r, m.queue.map Z.int = d ++ r.map Z.int ∧ m.queue.find? (fun s => decide (L.S ≤ s)) = r.find? (fun s => decide (L.S ≤ s))) g.queue ⟨rfl, ⟨none, rfl⟩, m.queue, rfl, rfl⟩ (fun d ρ h' i => by obtain ⟨rfl, _⟩ := i; exact g.queue) ?_ ?_
  · rintro d z r ρ h' ez ⟨rfl, ⟨x, rfl⟩, q, eq, ef⟩
    rw [ez] at eq
    have eq := List.append_cancel_left eq
    cases q with
    | nil => cases eq
    | cons s q =>
      simp only [List.map_cons, List.cons.injEq] at eq
      obtain ⟨rfl, rfl⟩ := eq
      unfold m_point_fault_3b0
      (walk_at "zs"; repeat (simp only [g.lay.S]; walk_at "zs"))
      by_cases h3 : L.S ≤ s
      · (walk_at "zs"; repeat (simp only [h3]; walk_at "zs"))
        rw [ef]
        simp [h3, fz, Pre.refl]
      · (walk_at "zs"; repeat (simp only [h3]; walk_at "zs"))
        exact ⟨⟨_, rfl⟩, q, by rw [ez]; simp, by rw [ef]; simp [h3]⟩
  · rintro ρ h' ⟨rfl, ⟨x, rfl⟩, r, er, ef⟩
    have hr : r = [] := by
      have := congrArg List.length er
      simp at this
      exact this
    subst hr
    rw [ef]
    unfold m_point_fault_4
    (walk_at "zs"; repeat (simp only [g.zhead]; walk_at "zs"))
    have p1 : Pre h' (h' ++ [Ob.lst [.int m.head]]) := .app
    (walk_at "zs"; repeat (simp only [(g.pre p1).zqueue]; walk_at "zs"))
    rw [zAdd_lsts get_new (g.pre p1).queue (by simp; omega)]
    walk_at "zs"
    unfold m_point_fault_5
    walk_at "zs"
    have e0 : ((h' ++ [Ob.lst [.int m.head]]) ++ [Ob.lst (Z.int m.head :: m.queue.map Z.int)])[(h' ++ [Ob.lst [.int m.head]]).length]? = some (.lst ((m.head :: m.queue).map Z.int)) := by rw [get_new]; rfl
    rw [zBF_len_lst e0]
    walk_at "zs"
    generalize hB : (h' ++ [Ob.lst [.int m.head]]).length = B at e0
    have p2 : Pre h' ((h' ++ [Ob.lst [.int m.head]]) ++ [Ob.lst (Z.int m.head :: m.queue.map Z.int)]) := .trans p1 .app
    generalize (h' ++ [Ob.lst [.int m.head]]) ++ [Ob.lst (Z.int m.head :: m.queue.map Z.int)] = H at e0 p2
    simp only [List.find?_nil]
    refine for_rng (fun i ρ h2 => Pre H h2 ∧ (∃ x y, ρ = [some (.ob a), some (.ob la), x, some (.ob B), y]) ∧ dupF (m.head :: m.queue) = dupF ((m.head :: m.queue).drop i)) (by simp; omega) ⟨.refl, ⟨_, _, rfl⟩, rfl⟩ ?_ ?_
    · rintro i ρ h2 hi ⟨p3, ⟨x, y, rfl⟩, ed⟩
      have hl : i < (m.head :: m.queue).length := by simpa using hi
      unfold m_point_fault_5b0
      walk_at "zs"
      have e1 := p3.get e0
      rw [Int.zero_add]
      have ei : ((m.head :: m.queue).map Z.int)[i]? = some (.int (m.head :: m.queue)[i]) := by rw [List.getElem?_map, List.getElem?_eq_getElem hl]; rfl
      rw [zIdx_new ei e1]
      walk_at "zs"
      rw [show (i : Int) + 1 = ((i + 1 : Nat) : Int) by omega, zSlc_lst e1, cutZ_drop, ← List.map_drop]
      walk_at "zs"
      rw [zIn_lst get_new]
      walk_at "zs"
      have ed := ed.trans (dupF_drop _ hl)
      by_cases hd : (m.head :: m.queue)[i] ∈ (m.head :: m.queue).drop (i + 1)
      · (walk_at "zs"; repeat (simp only [hd]; walk_at "zs"))
        rw [zIdx_new ei (get_app e1)]
        walk_at "zs"
        refine ⟨?_, p2.trans (p3.trans .app)⟩
        rw [ed, if_pos hd]
        rfl
      · (walk_at "zs"; repeat (simp only [hd]; walk_at "zs"))
        rw [if_neg hd] at ed
        exact ⟨p3.trans .app, ⟨_, _, rfl⟩, ed⟩
    · rintro ρ h2 ⟨p3, ⟨x, y, rfl⟩, ed⟩
      unfold m_point_fault_6
      walk_at "zs"
      refine ⟨?_, p2.trans p3⟩
      rw [ed, List.drop_eq_nil_of_le (by simp)]
      rfl
theorem is_misplaced (k a : Nat) (fs : List (Nat × Z)) (la pr sl qu : Nat) (zs : List Z) (L : Lay) (m : LogM) (x : Int) (h : Mh) (g : LogE h a fs la pr sl qu zs L m) (o : LOk L) :
    Ok (prg.C (k + 2) f_is_misplaced [.ob a, .int x] h) fun z h' => z = .bl (misp L m x) ∧ h' = h := by
  rw [prg.call (b := m_is_misplaced) rfl h rfl]
  unfold m_is_misplaced
  (walk_at "zs"; repeat (simp only [g.zlay]; walk_at "zs"))
  refine (segment_of k la L x h g.lay o).mono ?_
  rintro z h' ⟨rfl, rfl⟩
  walk_at "zs"
  unfold m_is_misplaced_1
  walk_at "zs"
  unfold misp
  cases hs : segOf L x with
  | none =>
    (walk_at "zs"; repeat (simp only [oi]; walk_at "zs"))
    all_goals simp
  | some s =>
    (walk_at "zs"; repeat (simp only [oi, g.zqueue]; walk_at "zs"))
    rw [zIn_lst g.queue]
    walk_at "zs"
    by_cases h1 : s ∈ m.queue
    · (walk_at "zs"; repeat (simp only [h1]; walk_at "zs"))
      simp
    (walk_at "zs"; repeat (simp only [h1]; walk_at "zs"))
    unfold m_is_misplaced_2
    (walk_at "zs"; repeat (simp only [g.zlay]; walk_at "zs"))
    refine (place_of k la L x h' g.lay o (by rw [hs]; rfl)).mono ?_
    rintro z h2 ⟨rfl, rfl⟩
    walk_at "zs"
    unfold m_is_misplaced_3
    walk_at "zs"
    by_cases h2 : plcOf L x = 0
    · (walk_at "zs"; repeat (simp only [h2]; walk_at "zs"))
      simp
    (walk_at "zs"; repeat (simp only [h2, g.zhead]; walk_at "zs"))
    by_cases h3 : s = m.head
    · (walk_at "zs"; repeat (simp only [h3, g.zplace]; walk_at "zs"))
      simp
    · (walk_at "zs"; repeat (simp only [h3]; walk_at "zs"))
      simp
end K88
namespace K88
open PySem PySem.Spec PyProof.Rows L2 Zm
local macro_rules | `(tactic| walk_at "zs") => `(tactic| try simp only [runD_Ok, r_dE_var, r_dE_lit, r_dE_glb, r_dE_bin, r_dE_neg, r_dE_cmp, r_dE_cmp2, r_dE_and, r_dE_or, r_dE_not, r_dE_ite, r_dE_tup, r_dE_lst, r_dE_dct0, r_dE_idx, r_dE_slc, r_dE_fld, r_dE_call, r_dE_mk, r_dE_mth, r_dE_mkd, r_dE_dcomp, r_dE_maxd, r_dI_enum, r_dG_flds, r_dFlds_nil, r_dFlds_cons, r_dS_gfor, r_dS_try, r_dY_fn, r_dY_mth, r_dE_bf, r_dE_bm, r_dE_isT, r_dE_comp, r_dX_tr, r_dX_and, r_dX_or, r_dX_not, r_dEs_nil, r_dEs_cons, r_dP_no, r_dP_some, r_dC_no, r_dC_some, r_dI_seq, r_dI_rng1, r_dI_rng2, r_dI_rrng1, r_dG_nm, r_dG_tup, r_dG_sub, r_dG_fld, r_dS_asg, r_dS_aug, r_dS_expr, r_dS_ret, r_dS_retN, r_dS_ite, r_dS_while, r_dS_for, r_dS_pass, r_dS_brk, r_dS_cont, r_dS_never, r_dSs_nil, r_dSs_cons, tgt, zBin, zCmp, Res.bind_ok, Ok_ok, Ok_bind, Ok_guard, List.length_cons, List.length_nil, List.map_cons, List.map_nil, List.replicate, List.nil_append, List.cons_append, List.getElem?_cons_zero, List.getElem?_cons_succ, List.set_cons_zero, List.set_cons_succ, Nat.reduceSub, Nat.reduceAdd, zAdd_int, zSub_int, zAddI_int, zMul_int, zDiv_int, zMod_int, zPow_int, zNeg_int, zLt_int, zLe_int, zGt_int, zGe_int, zEq_int, zNe_int, zIs_non, zIsNot_non, zTru_bl, zTru_int, zTru_non, zTru_tup, atI_0, atI_1, atI_2, atI_3, oRes_some, zIdx_tup, zBF_int, zBF_len_tup, zBF_list_tup, zBF_min, newL_eq, if_true, if_false, Bool.false_eq_true, reduceIte, zIsN, Bool.not_true, Bool.not_false, beq_self_eq_true, bne_self_eq_false, Int.reduceBNe, Int.reduceEq, decide_true, decide_false, true_and, and_true, if_true, if_false, List.isEmpty_cons, List.isEmpty_nil, setAll, List.all_cons, List.all_nil, flatZ, wipeZ, line_0, line_1, line_2, line_3, line_4, line_5, line_6, line_7, line_8, line_9])

/-! ### dicts as sets of numbers -/
def setK (is : List Int) : List (Key × Z) := is.map fun i => (.inl i, .bl true)
theorem setK_val (is : List Int) (i : Int) : valZ (setK is) (.inl i) = if i ∈ is then some (.bl true) else none := by
  induction is with
  | nil => rfl
  | cons j is ih =>
    by_cases h : j = i
    · subst h
      simp [valZ, setK]
    · have h2 : ¬(i = j) := fun e => h e.symm
      simp only [valZ, setK, List.map_cons, List.find?_cons, List.mem_cons, h2, false_or] at ih ⊢
      rw [show decide ((Sum.inl j : Key) = Sum.inl i) = false by simp [h]]
      exact ih
theorem setK_put (is : List Int) (i : Int) : putZ (setK is) (.inl i) (.bl true) = setK (if i ∈ is then is else is ++ [i]) := by
  unfold putZ
  have e : ((setK is).any fun kv => decide (kv.1 = Sum.inl i)) = decide (i ∈ is) := by
    induction is with
    | nil => rfl
    | cons j is ih =>
      simp only [setK, List.map_cons, List.any_cons, List.mem_cons] at ih ⊢
      rw [ih]
      by_cases h : j = i
      · subst h; simp
      · have h2 : ¬(i = j) := fun e => h e.symm
        simp [h, h2]
  rw [e]
  by_cases h : i ∈ is
  · simp only [h, decide_true, if_true]
    unfold setK
    rw [List.map_map]
    refine List.map_congr_left fun j _ => ?_
    simp only [Function.comp_apply]
    split
    · rfl
    · rfl
  · simp only [h, decide_false, Bool.false_eq_true, if_false]
    simp [setK]
theorem setK_keys : ∀ is : List Int, keyInts (setK is) = some is
  | [] => rfl
  | i :: is => by
    have := setK_keys is
    simp only [setK, List.map_cons, keyInts] at this ⊢
    rw [this]
    rfl
theorem nd_le : ∀ {is U : List Int}, is.Nodup → (∀ x ∈ is, x ∈ U) → is.length ≤ U.length
  | [], _, _, _ => Nat.zero_le _
  | x :: is, U, n, s => by
    have hx : x ∈ U := s x List.mem_cons_self
    rw [List.nodup_cons] at n
    have := nd_le (is := is) (U := U.erase x) n.2 fun y hy => (List.mem_erase_of_ne (fun e : y = x => n.1 (by rw [← e]; exact hy))).mpr (s y (List.mem_cons_of_mem _ hy))
    rw [List.length_erase_of_mem hx] at this
    have h2 := List.length_pos_of_mem hx
    simp only [List.length_cons]
    omega
theorem sortI_ok {is : List Int} (n : is.Nodup) : (sortI is).Pairwise (· < ·) ∧ ∀ x, x ∈ sortI is ↔ x ∈ is := by
  have p := List.mergeSort_perm is (fun a b => decide (a ≤ b))
  have q := List.pairwise_mergeSort (le := fun a b : Int => decide (a ≤ b)) (by intro a b c; simp; omega) (by intro a b; simp; omega) is
  refine ⟨?_, fun x => p.mem_iff⟩
  have nd : (sortI is).Nodup := p.nodup_iff.mpr n
  unfold sortI at nd ⊢
  exact (q.and nd).imp fun {a b} h => by
    have h1 : a ≤ b := by simpa using h.1
    have h2 := h.2
    omega
theorem sortI_len (is : List Int) : (sortI is).length = is.length := List.length_mergeSort ..
def liveIn (ss : List (Option (List Int))) (x : Int) : Prop := x ≠ 0 ∧ ∃ t, some t ∈ ss ∧ x ∈ t
theorem live_addresses (k a : Nat) (fs : List (Nat × Z)) (la pr sl qu : Nat) (zs : List Z) (L : Lay) (m : LogM) (h : Mh) (g : LogE h a fs la pr sl qu zs L m) (U : List Int) (hU : U.length < 64) (hs : m.slots.length < 1000)
    (hin : ∀ t ∈ tabsOf m, ∀ x ∈ t, x ≠ 0 → x ∈ U) :
    Ok (prg.C (k + 1) f_live_addresses [.ob a] h) fun z h' => ∃ b lv, z = .ob b ∧ h'[b]? = some (.lst (lv.map Z.int)) ∧ LiveOk m lv ∧ Pre h h' := by
  have hin : ∀ x, liveIn (some m.pres :: m.slots) x → x ∈ U := by
    rintro x ⟨h0, t, ht, hx⟩
    refine hin t ?_ x hx h0
    rcases List.mem_cons.mp ht with e | e
    · cases e; exact List.mem_cons_self
    · exact List.mem_cons_of_mem _ (List.mem_filterMap.mpr ⟨_, e, rfl⟩)
  rw [prg.call (b := m_live_addresses) rfl h rfl]
  unfold m_live_addresses m_live_addresses_1
  walk_at "zs"
  have p0 : Pre h (h ++ [Ob.dct []]) := .app
  simp only [(g.pre p0).zpres]
  walk_at "zs"
  have p1 : Pre h ((h ++ [Ob.dct []]) ++ [Ob.lst [.ob pr]]) := .trans p0 .app
  simp only [(g.pre p1).zslots]
  walk_at "zs"
  rw [zAdd_lsts get_new (g.pre p1).slots (by simp [g.sat.len]; omega)]
  walk_at "zs"
  have e0 : ((h ++ [Ob.dct []]) ++ [Ob.lst [.ob pr]])[h.length]? = some (.dct (setK [])) := get_app get_new
  generalize (h ++ [Ob.dct []]) ++ [Ob.lst [.ob pr]] = H at p1 e0
  have e1 : (H ++ [Ob.lst (Z.ob pr :: zs)])[H.length]? = some (.lst (Z.ob pr :: zs)) := get_new
  have e2 : (H ++ [Ob.lst (Z.ob pr :: zs)])[h.length]? = some (.dct (setK [])) := get_app e0
  have p2 : Pre h (H ++ [Ob.lst (Z.ob pr :: zs)]) := p1.trans .app
  have sat : SlotsAt h (Z.ob pr :: zs) (some m.pres :: m.slots) := .cons ⟨pr, rfl, g.pres⟩ g.sat
  have hne : H.length ≠ h.length := by
    have := lt_of_get e0
    omega
  have hHl : h.length ≤ H.length := p1.len
  generalize H ++ [Ob.lst (Z.ob pr :: zs)] = H1 at e1 e2 p2
  refine for_lst (fun d ρ h' => (∃ x y, ρ = [some (.ob a), some (.ob h.length), x, y]) ∧ Pre h h' ∧ h'[H.length]? = some (.lst (Z.ob pr :: zs)) ∧ ∃ d' r' is, SlotsAt h d d' ∧ (some m.pres :: m.slots) = d' ++ r' ∧ h'[h.length]? = some (.dct (setK is)) ∧ is.Nodup ∧ ∀ x, x ∈ is ↔ liveIn d' x) e1
    ⟨⟨_, _, rfl⟩, p2, e1, [], _, [], .nil, rfl, e2, List.nodup_nil, fun x => by simp [liveIn]⟩ (fun d ρ h' i => i.2.2.1) ?_ ?_
  · rintro d z r ρ h' ez ⟨⟨x, y, rfl⟩, p3, e3, d', r', is, sd, er, e4, nd, mem⟩
    have hsp := sat
    rw [ez] at hsp
    obtain ⟨d2, s, r2, es, sd2, sz, sr⟩ := hsp.split
    have hd : d2 = d' ∧ s :: r2 = r' := by
      have h1 := sd.len
      have h2 := sd2.len
      exact List.append_inj (es.symm.trans er) (by omega)
    obtain ⟨rfl, rfl⟩ := hd
    unfold m_live_addresses_1b0
    cases s with
    | none =>
      obtain rfl : z = .non := sz
      (walk_at "zs"; repeat (simp only []; walk_at "zs"))
      refine ⟨⟨_, _, rfl⟩, p3, e3, d2 ++ [none], r2, is, ?_, by simp [er], e4, nd, fun x => ?_⟩
      · have q : ∀ {d d2}, SlotsAt h d d2 → SlotsAt h (d ++ [Z.non]) (d2 ++ [none]) := by
          intro d d2 q
          induction q with
          | nil => exact .cons rfl .nil
          | cons x _ ih => exact .cons x ih
        exact q sd
      · rw [mem]
        simp [liveIn]
    | some t =>
      obtain ⟨b, rfl, eb⟩ := sz
      unfold m_live_addresses_1b0b0
      (walk_at "zs"; repeat (simp only []; walk_at "zs"))
      have q : ∀ {d d2}, SlotsAt h d d2 → SlotsAt h (d ++ [Z.ob b]) (d2 ++ [some t]) := by
        intro d d2 q
        induction q with
        | nil => exact .cons ⟨b, rfl, eb⟩ .nil
        | cons x _ ih => exact .cons x ih
      refine for_lst (fun c ρ h' => (∃ y, ρ = [some (.ob a), some (.ob h.length), some (.ob b), y]) ∧ Pre h h' ∧ h'[H.length]? = some (.lst (Z.ob pr :: zs)) ∧ ∃ c' r' is, t = c' ++ r' ∧ c = c'.map Z.int ∧ h'[h.length]? = some (.dct (setK is)) ∧ is.Nodup ∧ ∀ x, x ∈ is ↔ liveIn d2 x ∨ (x ≠ 0 ∧ x ∈ c')) (p3.get eb)
        ⟨⟨_, rfl⟩, p3, e3, [], t, is, rfl, rfl, e4, nd, fun x => by rw [mem]; simp⟩ (fun _ _ _ i => i.2.1.get eb) ?_ ?_
      · rintro c z r3 ρ h4 ez2 ⟨⟨y, rfl⟩, p4, e5, c', r', is, et, rfl, e6, nd, mem⟩
        cases r' with
        | nil =>
          have := congrArg List.length ez2
          simp [et] at this
        | cons v r' =>
          have hz : z = .int v := by
            rw [et, List.map_append] at ez2
            have := List.append_cancel_left ez2
            simp at this
            exact this.1.symm
          subst hz
          unfold m_live_addresses_1b0b0b0
          by_cases hv : v = 0
          · (walk_at "zs"; repeat (simp only [hv]; walk_at "zs"))
            refine ⟨⟨_, rfl⟩, p4, e5, c' ++ [0], r', is, by simp [et, hv], by simp, e6, nd, fun x => ?_⟩
            rw [mem]
            simp
            constructor
            · rintro (h | h)
              · exact .inl h
              · exact .inr ⟨h.1, .inl h.2⟩
            · rintro (h | ⟨h1, h2 | h2⟩)
              · exact .inl h
              · exact .inr ⟨h1, h2⟩
              · exact absurd h2 h1
          · have mem2 : ∀ x, x ∈ (if v ∈ is then is else is ++ [v]) ↔ liveIn d2 x ∨ (x ≠ 0 ∧ x ∈ c' ++ [v]) := by
              intro x
              have : x ∈ (if v ∈ is then is else is ++ [v]) ↔ x ∈ is ∨ x = v := by
                split
                · constructor
                  · exact .inl
                  · rintro (h | rfl)
                    · exact h
                    · assumption
                · simp
              rw [this, mem]
              simp
              constructor
              · rintro ((h | h) | rfl)
                · exact .inl h
                · exact .inr ⟨h.1, .inl h.2⟩
                · exact .inr ⟨hv, .inr rfl⟩
              · rintro (h | ⟨h1, h2 | h2⟩)
                · exact .inl (.inl h)
                · exact .inl (.inr ⟨h1, h2⟩)
                · exact .inr h2
            have nd2 : (if v ∈ is then is else is ++ [v]).Nodup := by
              split
              · exact nd
              · next hn => exact List.nodup_append.mpr ⟨nd, by simp, fun x hx y hy => by simp at hy; subst hy; rintro rfl; exact hn hx⟩
            have hlen : is.length ≤ U.length := nd_le nd fun x hx => hin x (by
              rcases (mem x).mp hx with ⟨h0, t', ht', hx'⟩ | ⟨h0, hx'⟩
              · exact ⟨h0, t', by rw [er]; exact List.mem_append_left _ ht', hx'⟩
              · exact ⟨h0, t, by rw [er]; simp, by rw [et]; exact List.mem_append_left _ hx'⟩)
            (walk_at "zs"; repeat (simp only [hv, zSet_dct e6 (by rw [line_eq]; simp [setK]; omega), setK_put]; walk_at "zs"))
            refine ⟨⟨_, rfl⟩, p4.set (Nat.le_refl _), by rw [get_set_ne (fun e => hne e.symm)]; exact e5, c' ++ [v], r', _, by simp [et], by simp, get_set e6, nd2, mem2⟩
      · rintro ρ h4 ⟨⟨y, rfl⟩, p4, e5, c', r', is, et, ec, e6, nd, mem⟩
        have hr : r' = [] := by
          have h1 := congrArg List.length ec
          have h2 := congrArg List.length et
          simp at h1 h2
          exact List.length_eq_zero_iff.mp (by omega)
        subst hr
        rw [List.append_nil] at et
        subst et
        walk_at "zs"
        refine ⟨⟨_, _, rfl⟩, p4, e5, d2 ++ [some t], r2, is, q sd, by simp [er], e6, nd, fun x => ?_⟩
        rw [mem]
        unfold liveIn
        constructor
        · rintro (⟨h0, t', h1, h2⟩ | ⟨h0, h1⟩)
          · exact ⟨h0, t', List.mem_append_left _ h1, h2⟩
          · exact ⟨h0, t, by simp, h1⟩
        · rintro ⟨h0, t', h1, h2⟩
          rcases List.mem_append.mp h1 with h1 | h1
          · exact .inl ⟨h0, t', h1, h2⟩
          · simp at h1
            subst h1
            exact .inr ⟨h0, h2⟩
  · rintro ρ h' ⟨⟨x, y, rfl⟩, p3, e3, d', r', is, sd, er, e4, nd, mem⟩
    have hr : r' = [] := by
      have h1 := sd.len
      have h2 := sat.len
      have h3 := congrArg List.length er
      rw [List.length_append] at h3
      exact List.length_eq_zero_iff.mp (by omega)
    subst hr
    rw [List.append_nil] at er
    subst er
    unfold m_live_addresses_2
    have hlen : is.length ≤ U.length := nd_le nd fun x hx => hin x ((mem x).mp hx)
    have eS : zBF .sorted [.ob h.length] h' = .ok (.ob h'.length) (h' ++ [.lst ((sortI is).map Z.int)]) := by
      simp only [zBF, e4, setK_keys]
      rw [guard_pos (by omega)]
      rfl
    (walk_at "zs"; repeat (simp only [eS]; walk_at "zs"))
    obtain ⟨so, sm⟩ := sortI_ok nd
    refine ⟨_, sortI is, rfl, get_new, ⟨so, fun x => ?_⟩, p3.trans .app⟩
    rw [sm, mem]
    unfold liveIn tabsOf
    simp
end K88
namespace K88
open PySem PySem.Spec PyProof.Rows L2 Zm
local macro_rules | `(tactic| walk_at "zs") => `(tactic| try simp only [runD_Ok, r_dE_var, r_dE_lit, r_dE_glb, r_dE_bin, r_dE_neg, r_dE_cmp, r_dE_cmp2, r_dE_and, r_dE_or, r_dE_not, r_dE_ite, r_dE_tup, r_dE_lst, r_dE_dct0, r_dE_idx, r_dE_slc, r_dE_fld, r_dE_call, r_dE_mk, r_dE_mth, r_dE_mkd, r_dE_dcomp, r_dE_maxd, r_dI_enum, r_dG_flds, r_dFlds_nil, r_dFlds_cons, r_dS_gfor, r_dS_try, r_dY_fn, r_dY_mth, r_dE_bf, r_dE_bm, r_dE_isT, r_dE_comp, r_dX_tr, r_dX_and, r_dX_or, r_dX_not, r_dEs_nil, r_dEs_cons, r_dP_no, r_dP_some, r_dC_no, r_dC_some, r_dI_seq, r_dI_rng1, r_dI_rng2, r_dI_rrng1, r_dG_nm, r_dG_tup, r_dG_sub, r_dG_fld, r_dS_asg, r_dS_aug, r_dS_expr, r_dS_ret, r_dS_retN, r_dS_ite, r_dS_while, r_dS_for, r_dS_pass, r_dS_brk, r_dS_cont, r_dS_never, r_dSs_nil, r_dSs_cons, tgt, zBin, zCmp, Res.bind_ok, Ok_ok, Ok_bind, Ok_guard, List.length_cons, List.length_nil, List.map_cons, List.map_nil, List.replicate, List.nil_append, List.cons_append, List.getElem?_cons_zero, List.getElem?_cons_succ, List.set_cons_zero, List.set_cons_succ, Nat.reduceSub, Nat.reduceAdd, zAdd_int, zSub_int, zAddI_int, zMul_int, zDiv_int, zMod_int, zPow_int, zNeg_int, zLt_int, zLe_int, zGt_int, zGe_int, zEq_int, zNe_int, zIs_non, zIsNot_non, zTru_bl, zTru_int, zTru_non, zTru_tup, atI_0, atI_1, atI_2, atI_3, oRes_some, zIdx_tup, zBF_int, zBF_len_tup, zBF_list_tup, zBF_min, newL_eq, if_true, if_false, Bool.false_eq_true, reduceIte, zIsN, Bool.not_true, Bool.not_false, beq_self_eq_true, bne_self_eq_false, Int.reduceBNe, Int.reduceEq, decide_true, decide_false, true_and, and_true, if_true, if_false, List.isEmpty_cons, List.isEmpty_nil, setAll, List.all_cons, List.all_nil, flatZ, wipeZ, line_0, line_1, line_2, line_3, line_4, line_5, line_6, line_7, line_8, line_9])

theorem tables_of (k a : Nat) (fs : List (Nat × Z)) (la pr sl qu : Nat) (zs : List Z) (L : Lay) (m : LogM) (h0 h : Mh) (g0 : LogE h0 a fs la pr sl qu zs L m) (pp : Pre h0 h) (hs : m.slots.length < 1000) :
    Ok (prg.C (k + 1) f_tables_of [.ob a] h) fun z h' => ∃ b ts, z = .ob b ∧ h'[b]? = some (.lst ts) ∧ SlotsAt h0 ts ((tabsOf m).map some) ∧ Pre h h' ∧ h.length ≤ b := by
  have g := g0.pre pp
  rw [prg.call (b := m_tables_of) rfl h rfl]
  unfold m_tables_of
  walk_at "zs"
  simp only [g.zpres]
  walk_at "zs"
  have p0 : Pre h (h ++ [Ob.lst [.ob pr]]) := .app
  simp only [(g.pre p0).zslots]
  walk_at "zs"
  have e0 : (h ++ [Ob.lst [.ob pr]])[h.length]? = some (.lst [.ob pr]) := get_new
  have eS := (g.pre p0).slots
  have hl := g.sat.len
  generalize h ++ [Ob.lst [.ob pr]] = H at p0 e0 eS
  simp only [wkSeq, eS, Ok_ok]
  have sat2 : ∀ {zs : List Z} {ss : List (Option (List Int))}, SlotsAt h0 zs ss → SlotsAt h0 (zs.filter fun z => !zIsN z) ((ss.filterMap id).map some) := by
    intro zs ss q
    induction q with
    | nil => exact .nil
    | @cons z s zs ss x r ih =>
      cases s with
      | none =>
        obtain rfl : z = .non := x
        exact ih
      | some t =>
        obtain ⟨b, rfl, eb⟩ := x
        exact .cons ⟨b, rfl, eb⟩ ih
  refine comp_pure (fun z => !zIsN z) id rfl (by rw [hl]; omega) (fun o => get_app eS) ?_ ?_
  · intro z hz o
    walk_at "zs"
    exact fun _ => rfl
  · have e1 : (H ++ [Ob.lst (List.map id (zs.filter fun z => !zIsN z))])[h.length]? = some (.lst [.ob pr]) := get_app e0
    rw [zAdd_lsts e1 get_new (by
      have := List.length_filter_le (fun z => !zIsN z) zs
      simp; omega)]
    walk_at "zs"
    refine ⟨_, _, rfl, get_new, ?_, p0.trans (.trans .app .app), ?_⟩
    · simp only [List.map_id_fun, id, tabsOf, List.map_cons]
      exact .cons ⟨pr, rfl, g0.pres⟩ (sat2 g0.sat)
    · have := p0.len
      simp
      omega
/-- of what has been seen: the owners and what is found -/
structure DblI (P : List (Int × Int)) (kvs : List (Key × Z)) (fd : List Int) : Prop where
  own : ∀ x : Int, x ≠ 0 → valZ kvs (.inl x) = (P.find? fun p => decide (p.2 = x)).map fun p => Z.int p.1
  fnd : ∀ x, x ∈ fd ↔ x ≠ 0 ∧ ∃ i j, i ≠ j ∧ (i, x) ∈ P ∧ (j, x) ∈ P
  lk : kvs.length ≤ P.length
  lf : fd.length ≤ P.length
theorem find_some {P : List (Int × Int)} {x : Int} {p : Int × Int} (e : (P.find? fun p => decide (p.2 = x)) = some p) : (p.1, x) ∈ P := by
  have h1 := List.mem_of_find?_eq_some e
  have h2 := List.find?_some e
  have h3 : p.2 = x := by simpa using h2
  rw [← h3]
  exact h1
theorem find_none {P : List (Int × Int)} {x : Int} (e : (P.find? fun p => decide (p.2 = x)) = none) (j : Int) : (j, x) ∉ P := by
  intro hj
  have := List.find?_eq_none.mp e _ hj
  simp at this
theorem DblI.zero {P : List (Int × Int)} {kvs : List (Key × Z)} {fd : List Int} (d : DblI P kvs fd) (i : Int) : DblI (P ++ [(i, 0)]) kvs fd := by
  refine ⟨fun x hx => ?_, fun x => ?_, by have := d.lk; simp; omega, by have := d.lf; simp; omega⟩
  · rw [d.own x hx, List.find?_append]
    have h0 : ¬((0 : Int) = x) := fun e => hx e.symm
    simp [h0]
  · rw [d.fnd]
    constructor
    · rintro ⟨h0, i, j, h1, h2, h3⟩
      exact ⟨h0, i, j, h1, List.mem_append_left _ h2, List.mem_append_left _ h3⟩
    · rintro ⟨h0, i, j, h1, h2, h3⟩
      simp [h0] at h2 h3
      exact ⟨h0, i, j, h1, h2, h3⟩
theorem DblI.new {P : List (Int × Int)} {kvs : List (Key × Z)} {fd : List Int} (d : DblI P kvs fd) (i x : Int) (hx : x ≠ 0) (e : valZ kvs (.inl x) = none) : DblI (P ++ [(i, x)]) (putZ kvs (.inl x) (.int i)) fd := by
  have e2 : (P.find? fun p => decide (p.2 = x)) = none := by
    have := d.own x hx
    rw [e] at this
    cases q : P.find? fun p => decide (p.2 = x) with
    | none => rfl
    | some p => rw [q] at this; cases this
  refine ⟨fun y hy => ?_, fun y => ?_, by have := d.lk; have := put_len kvs (.inl x) (.int i); simp; omega, by have := d.lf; simp; omega⟩
  · rw [valZ_put, List.find?_append]
    by_cases h : y = x
    · subst h
      simp [e2]
    · have h2 : ¬(x = y) := fun e => h e.symm
      simp only [Sum.inl.injEq, h, if_false]
      rw [d.own y hy]
      simp [h2]
  · rw [d.fnd]
    constructor
    · rintro ⟨h0, i, j, h1, h2, h3⟩
      exact ⟨h0, i, j, h1, List.mem_append_left _ h2, List.mem_append_left _ h3⟩
    · rintro ⟨h0, a, b, h1, h2, h3⟩
      have n := find_none e2
      simp only [List.mem_append, List.mem_singleton, Prod.mk.injEq] at h2 h3
      rcases h2 with h2 | ⟨rfl, rfl⟩
      · rcases h3 with h3 | ⟨rfl, rfl⟩
        · exact ⟨h0, a, b, h1, h2, h3⟩
        · exact absurd h2 (n _)
      · rcases h3 with h3 | ⟨rfl, _⟩
        · exact absurd h3 (n _)
        · exact absurd rfl h1
theorem DblI.old {P : List (Int × Int)} {kvs : List (Key × Z)} {fd : List Int} (d : DblI P kvs fd) (i x : Int) (hx : x ≠ 0) {z : Z} (e : valZ kvs (.inl x) = some z) : ∃ j, z = .int j ∧ (j ≠ i → DblI (P ++ [(i, x)]) kvs (fd ++ [x])) ∧ (j = i → DblI (P ++ [(i, x)]) kvs fd) := by
  have o := d.own x hx
  rw [e] at o
  cases q : P.find? fun p => decide (p.2 = x) with
  | none => rw [q] at o; cases o
  | some p =>
    rw [q] at o
    simp only [Option.map_some, Option.some.injEq] at o
    have hp := find_some q
    have own : ∀ y : Int, y ≠ 0 → valZ kvs (.inl y) = ((P ++ [(i, x)]).find? fun p => decide (p.2 = y)).map fun p => Z.int p.1 := by
      intro y hy
      rw [d.own y hy, List.find?_append]
      by_cases h : y = x
      · subst h
        simp [q]
      · have h2 : ¬(x = y) := fun e => h e.symm
        simp [h2]
    refine ⟨p.1, o, fun hn => ⟨own, fun y => ?_, by have := d.lk; simp; omega, by have := d.lf; simp; omega⟩, fun hn => ⟨own, fun y => ?_, by have := d.lk; simp; omega, by have := d.lf; simp; omega⟩⟩
    · simp only [List.mem_append, List.mem_singleton, Prod.mk.injEq, d.fnd]
      constructor
      · rintro (⟨h0, a, b, h1, h2, h3⟩ | rfl)
        · exact ⟨h0, a, b, h1, .inl h2, .inl h3⟩
        · exact ⟨hx, p.1, i, hn, .inl hp, .inr ⟨rfl, rfl⟩⟩
      · rintro ⟨h0, a, b, h1, h2, h3⟩
        rcases h2 with h2 | ⟨rfl, rfl⟩
        · rcases h3 with h3 | ⟨rfl, rfl⟩
          · exact .inl ⟨h0, a, b, h1, h2, h3⟩
          · exact .inr rfl
        · exact .inr rfl
    · simp only [List.mem_append, List.mem_singleton, Prod.mk.injEq, d.fnd]
      constructor
      · rintro ⟨h0, a, b, h1, h2, h3⟩
        exact ⟨h0, a, b, h1, .inl h2, .inl h3⟩
      · subst hn
        rintro ⟨h0, a, b, h1, h2, h3⟩
        rcases h2 with h2 | ⟨rfl, rfl⟩
        · rcases h3 with h3 | ⟨rfl, rfl⟩
          · exact ⟨h0, a, b, h1, h2, h3⟩
          · exact ⟨h0, a, p.1, h1, h2, hp⟩
        · rcases h3 with h3 | ⟨rfl, _⟩
          · exact ⟨h0, p.1, b, h1, hp, h3⟩
          · exact absurd rfl h1
theorem occT_take (t : List Int) (i : Nat) (h : i + 1 < t.length) : (occT t).take (i + 1) = (occT t).take i ++ [(((i + 1 : Nat) : Int), t[i + 1])] := by
  have hl : (occT t).length = t.length - 1 := by simp [occT]
  have hi : i < (occT t).length := by omega
  have e : (occT t)[i] = (((i + 1 : Nat) : Int), t[i + 1]) := by
    simp only [occT, List.getElem_map, List.getElem_drop, List.getElem_zipIdx, Nat.zero_add]
    simp [Nat.add_comm]
  rw [← e, List.take_succ_eq_append_getElem hi]
theorem doubled_addresses (k a : Nat) (fs : List (Nat × Z)) (la pr sl qu : Nat) (zs : List Z) (L : Lay) (m : LogM) (h : Mh) (g : LogE h a fs la pr sl qu zs L m) (hs : m.slots.length < 1000) (ho : (occs m).length < 1000) (ht : ∀ t ∈ tabsOf m, 0 < t.length ∧ t.length < 1000) :
    Ok (prg.C (k + 2) f_doubled_addresses [.ob a] h) fun z h' => ∃ b db, z = .ob b ∧ h'[b]? = some (.lst (db.map Z.int)) ∧ DblOk m db ∧ Pre h h' := by
  rw [prg.call (b := m_doubled_addresses) rfl h rfl]
  unfold m_doubled_addresses m_doubled_addresses_1
  walk_at "zs"
  unfold m_doubled_addresses_2
  walk_at "zs"
  have p1 : Pre h ((h ++ [Ob.dct []]) ++ [Ob.lst []]) := .trans .app .app
  have e1 : ((h ++ [Ob.dct []]) ++ [Ob.lst []])[h.length]? = some (.dct []) := get_app get_new
  have e2 : ((h ++ [Ob.dct []]) ++ [Ob.lst []])[(h ++ [Ob.dct []]).length]? = some (.lst (([] : List Int).map Z.int)) := get_new
  have hF : h.length < (h ++ [Ob.dct []]).length := by simp
  generalize (h ++ [Ob.dct []]).length = F at e2 hF
  generalize (h ++ [Ob.dct []]) ++ [Ob.lst []] = H at p1 e1 e2
  refine (tables_of k a fs la pr sl qu zs L m h H g p1 hs).mono ?_
  rintro z h1 ⟨b, ts, rfl, eb, sat, p2, hb⟩
  have hb1 : h.length < b := Nat.lt_of_lt_of_le (lt_of_get e1) hb
  have hb2 : F < b := Nat.lt_of_lt_of_le (lt_of_get e2) hb
  have hF2 := lt_of_get e2
  have hl := sat.len
  rw [List.length_map] at hl
  refine for_lst (fun d ρ h' => (∃ x y z, ρ = [some (.ob a), some (.ob h.length), some (.ob F), x, y, z]) ∧ Chg [h.length, F] h1 h' ∧ Pre h h' ∧ ∃ D R kvs fd, tabsOf m = D ++ R ∧ D.length = d.length ∧ h'[h.length]? = some (.dct kvs) ∧ h'[F]? = some (.lst (fd.map Z.int)) ∧ DblI (D.flatMap occT) kvs fd) eb
    ⟨⟨_, _, _, rfl⟩, .refl, p1.trans p2, [], _, [], [], rfl, rfl, p2.get e1, p2.get e2, ⟨fun _ _ => rfl, fun x => by simp, Nat.le_refl _, Nat.le_refl _⟩⟩ (fun d ρ h' i => i.2.1.get (by simp; omega) eb) ?_ ?_
  · rintro d z r ρ h' ez ⟨⟨x, y, w, rfl⟩, ch, p3, D, R, kvs, fd, eT, eD, e3, e4, inv⟩
    have hR : ∃ t R', R = t :: R' ∧ ∃ j, z = .ob j ∧ h[j]? = some (.lst (t.map Z.int)) := by
      have sat2 := sat
      rw [ez] at sat2
      obtain ⟨d', s, r', e5, sd, sz, sr⟩ := sat2.split
      cases R with
      | nil =>
        have h1 := congrArg List.length e5
        have h2 := sd.len
        rw [eT] at h1
        simp at h1
        omega
      | cons t R' =>
        refine ⟨t, R', rfl, ?_⟩
        rw [eT, List.map_append, List.map_cons] at e5
        have := (List.append_inj e5 (by have := sd.len; simp; omega)).2
        rw [List.cons.injEq] at this
        rw [← this.1] at sz
        exact sz
    obtain ⟨t, R', rfl, j, rfl, ej⟩ := hR
    have hjl := lt_of_get ej
    have oldj : ∀ {h' : Mh}, Pre h h' → h'[j]? = some (.lst (t.map Z.int)) := fun p => p.get ej
    have htl := ht t (by rw [eT]; simp)
    have hdl : (D.flatMap occT).length + (occT t).length ≤ (occs m).length := by
      unfold occs
      rw [eT]
      simp
    have hoT : (occT t).length = t.length - 1 := by simp [occT]
    unfold m_doubled_addresses_2b0
    (walk_at "zs"; repeat (simp only [zBF_len_lst (oldj p3), List.length_map]; walk_at "zs"))
    refine for_rng (fun i ρ h' => (∃ y z, ρ = [some (.ob a), some (.ob h.length), some (.ob F), some (.ob j), y, z]) ∧ Chg [h.length, F] h1 h' ∧ Pre h h' ∧ ∃ kvs fd, h'[h.length]? = some (.dct kvs) ∧ h'[F]? = some (.lst (fd.map Z.int)) ∧ DblI (D.flatMap occT ++ (occT t).take i) kvs fd) (by omega)
      ⟨⟨_, _, rfl⟩, ch, p3, kvs, fd, e3, e4, by simpa using inv⟩ ?_ ?_
    · clear e3 e4 inv kvs fd
      rintro i ρ h' hi ⟨⟨y, w, rfl⟩, ch, p3, kvs, fd, e3, e4, inv⟩
      have hi2 : i + 1 < t.length := by omega
      have hk := inv.lk
      have hf := inv.lf
      rw [List.length_append, List.length_take] at hk hf
      unfold m_doubled_addresses_2b0b0
      walk_at "zs"
      rw [show (1 : Int) + (i : Int) = ((i + 1 : Nat) : Int) by omega]
      rw [zIdx_new (z := .int t[i + 1]) (by rw [List.getElem?_map, List.getElem?_eq_getElem hi2]; rfl) (oldj p3)]
      walk_at "zs"
      unfold m_doubled_addresses_2b0b1
      rw [occT_take t i hi2, ← List.append_assoc]
      by_cases hx : t[i + 1] = 0
      · rw [hx]
        (walk_at "zs"; repeat (simp only []; walk_at "zs"))
        exact ⟨⟨_, _, rfl⟩, ch, p3, kvs, fd, e3, e4, inv.zero _⟩
      have bk : bmOk .dsetd (.ob h.length) h' := ⟨kvs, e3⟩
      cases hv : valZ kvs (.inl t[i + 1]) with
      | none =>
        have eB : zBM .dsetd (.ob h.length) [.int t[i + 1], .int ((i + 1 : Nat) : Int)] h' = .ok (.int ((i + 1 : Nat) : Int)) (h'.set h.length (.dct (putZ kvs (.inl t[i + 1]) (.int ((i + 1 : Nat) : Int))))) := by
          simp only [zBM, e3, keyZ]
          rw [guard_pos (lt_line (by omega)), hv]
        (walk_at "zs"; repeat (simp only [hx, bk, eB]; walk_at "zs"))
        exact ⟨⟨_, _, rfl⟩, ch.trans (.set (.inl (by simp))), p3.set (Nat.le_refl _), _, fd, get_set e3, by rw [get_set_ne (by omega)]; exact e4, inv.new _ _ hx hv⟩
      | some z =>
        obtain ⟨j0, rfl, i1, i2⟩ := inv.old ((i + 1 : Nat) : Int) t[i + 1] hx hv
        have eB : zBM .dsetd (.ob h.length) [.int t[i + 1], .int ((i + 1 : Nat) : Int)] h' = .ok (.int j0) h' := by
          simp only [zBM, e3, keyZ]
          rw [guard_pos (lt_line (by omega)), hv]
        by_cases hj : j0 = ((i + 1 : Nat) : Int)
        · (walk_at "zs"; repeat (simp only [hx, bk, eB, hj]; walk_at "zs"))
          exact ⟨⟨_, _, rfl⟩, ch, p3, kvs, fd, e3, e4, i2 hj⟩
        · (walk_at "zs"; repeat (simp only [hx, bk, eB, hj, bmOk_append e4, zBM_append e4 (lt_line (by simp; omega))]; walk_at "zs"))
          exact ⟨⟨_, _, rfl⟩, ch.trans (.set (.inl (by simp))), p3.set (by omega), kvs, _, by rw [get_set_ne (by omega)]; exact e3, by rw [get_set e4]; simp, i1 hj⟩
    · clear e3 e4 inv kvs fd
      rintro ρ h' ⟨⟨y, w, rfl⟩, ch, p3, kvs, fd, e3, e4, inv⟩
      walk_at "zs"
      refine ⟨⟨_, _, _, rfl⟩, ch, p3, D ++ [t], R', kvs, fd, by simp [eT], by simp [eD], e3, e4, ?_⟩
      rw [List.take_of_length_le (by omega)] at inv
      simpa using inv
  · rintro ρ h' ⟨⟨x, y, w, rfl⟩, ch, p3, D, R, kvs, fd, eT, eD, e3, e4, inv⟩
    unfold m_doubled_addresses_3
    walk_at "zs"
    have hR : R = [] := by
      have h3 := congrArg List.length eT
      rw [List.length_append] at h3
      exact List.length_eq_zero_iff.mp (by omega)
    subst hR
    rw [List.append_nil] at eT
    refine ⟨_, _, rfl, e4, ?_, p3⟩
    unfold DblOk occs
    rw [eT]
    exact inv.fnd
end K88
namespace K88
open PySem PySem.Spec PyProof.Rows L2 Zm
local macro_rules | `(tactic| walk_at "zs") => `(tactic| try simp only [runD_Ok, r_dE_var, r_dE_lit, r_dE_glb, r_dE_bin, r_dE_neg, r_dE_cmp, r_dE_cmp2, r_dE_and, r_dE_or, r_dE_not, r_dE_ite, r_dE_tup, r_dE_lst, r_dE_dct0, r_dE_idx, r_dE_slc, r_dE_fld, r_dE_call, r_dE_mk, r_dE_mth, r_dE_mkd, r_dE_dcomp, r_dE_maxd, r_dI_enum, r_dG_flds, r_dFlds_nil, r_dFlds_cons, r_dS_gfor, r_dS_try, r_dY_fn, r_dY_mth, r_dE_bf, r_dE_bm, r_dE_isT, r_dE_comp, r_dX_tr, r_dX_and, r_dX_or, r_dX_not, r_dEs_nil, r_dEs_cons, r_dP_no, r_dP_some, r_dC_no, r_dC_some, r_dI_seq, r_dI_rng1, r_dI_rng2, r_dI_rrng1, r_dG_nm, r_dG_tup, r_dG_sub, r_dG_fld, r_dS_asg, r_dS_aug, r_dS_expr, r_dS_ret, r_dS_retN, r_dS_ite, r_dS_while, r_dS_for, r_dS_pass, r_dS_brk, r_dS_cont, r_dS_never, r_dSs_nil, r_dSs_cons, tgt, zBin, zCmp, Res.bind_ok, Ok_ok, Ok_bind, Ok_guard, List.length_cons, List.length_nil, List.map_cons, List.map_nil, List.replicate, List.nil_append, List.cons_append, List.getElem?_cons_zero, List.getElem?_cons_succ, List.set_cons_zero, List.set_cons_succ, Nat.reduceSub, Nat.reduceAdd, zAdd_int, zSub_int, zAddI_int, zMul_int, zDiv_int, zMod_int, zPow_int, zNeg_int, zLt_int, zLe_int, zGt_int, zGe_int, zEq_int, zNe_int, zIs_non, zIsNot_non, zTru_bl, zTru_int, zTru_non, zTru_tup, atI_0, atI_1, atI_2, atI_3, oRes_some, zIdx_tup, zBF_int, zBF_len_tup, zBF_list_tup, zBF_min, newL_eq, if_true, if_false, Bool.false_eq_true, reduceIte, zIsN, Bool.not_true, Bool.not_false, beq_self_eq_true, bne_self_eq_false, Int.reduceBNe, Int.reduceEq, decide_true, decide_false, true_and, and_true, if_true, if_false, List.isEmpty_cons, List.isEmpty_nil, setAll, List.all_cons, List.all_nil, flatZ, wipeZ, line_0, line_1, line_2, line_3, line_4, line_5, line_6, line_7, line_8, line_9])

/-- a dict comprehension over a list -/
theorem dcomp_lst {t : Z → Ev → Mh → Res Ev} {c : Ev → Mh → Res Bool} {kf ef : Ev → Mh → Res Z} {ρ : Ev} {Q : Z → Mh → Prop} (I : List Z → List (Key × Z) → Mh → Prop) {a : Nat} {zs : List Z} {h : Mh} (ha : h[a]? = some (.lst zs))
    (h0 : I [] [] (h ++ [.dct []])) (hst : ∀ d o h1, I d o h1 → h1[a]? = some (.lst zs) ∧ h1[h.length]? = some (.dct o) ∧ o.length < sizeLine)
    (step : ∀ d z r o h1, zs = d ++ z :: r → I d o h1 → Ok (t z ρ h1) fun ρ1 h1 => Ok (c ρ1 h1) fun b h2 => if b then Ok (kf ρ1 h2) fun x h3 => Ok (ef ρ1 h3) fun y h4 => ∃ q, keyZ x = some q ∧ h4[h.length]? = some (.dct o) ∧ I (d ++ [z]) (putZ o q y) (h4.set h.length (.dct (putZ o q y))) else I (d ++ [z]) o h2)
    (fin : ∀ o h1, I zs o h1 → Q (.ob h.length) h1) : Ok (wkSeq (.ob a) h) fun w h1 => Ok (dcompL h1.length w.still t c kf ef ρ w.items (h1 ++ [.dct []])) Q := by
  simp only [wkSeq, ha, Ok_ok]
  have key : ∀ (r d : List Z) (o : List (Key × Z)) (h1 : Mh), zs = d ++ r → I d o h1 → Ok (dcompL h.length (fun h' => h'[a]? = some (.lst zs)) t c kf ef ρ r h1) Q := by
    intro r
    induction r with
    | nil =>
      intro d o h1 e i
      rw [dcompL, Ok_guard, Ok_ok]
      rw [List.append_nil] at e
      rw [← e] at i
      exact ⟨(hst zs o h1 i).1, fin o h1 i⟩
    | cons z r ih =>
      intro d o h1 e i
      rw [dcompL, Ok_guard, Ok_bind]
      refine ⟨(hst d o h1 i).1, (step d z r o h1 e i).mono fun ρ1 h1 q1 => ?_⟩
      rw [Ok_bind]
      refine q1.mono fun b h2 q2 => ?_
      cases b with
      | false => exact ih (d ++ [z]) o h2 (by simp [e]) q2
      | true =>
        simp only [if_true] at q2 ⊢
        rw [Ok_bind]
        refine q2.mono fun x h3 q3 => ?_
        rw [Ok_bind]
        refine q3.mono fun y h4 q4 => ?_
        obtain ⟨q, eq, e4, i4⟩ := q4
        rw [e4, eq]
        simp only []
        rw [Ok_guard]
        exact ⟨(hst d o _ i).2.2, ih (d ++ [z]) _ _ (by simp [e]) i4⟩
  exact key zs [] [] _ rfl h0
theorem insK (is : List Int) (v : Int) (nd : is.Nodup) : (if v ∈ is then is else is ++ [v]).Nodup ∧ ∀ x, x ∈ (if v ∈ is then is else is ++ [v]) ↔ x ∈ is ∨ x = v := by
  refine ⟨?_, fun x => ?_⟩
  · split
    · exact nd
    · next hn => exact List.nodup_append.mpr ⟨nd, by simp, fun x hx y hy => by simp at hy; subst hy; rintro rfl; exact hn hx⟩
  · split
    · constructor
      · exact .inl
      · rintro (h | rfl)
        · exact h
        · assumption
    · simp
theorem map_int_inj : ∀ {a b : List Int}, a.map Z.int = b.map Z.int → a = b
  | [], [], _ => rfl
  | [], _ :: _, e => by cases e
  | _ :: _, [], e => by cases e
  | x :: a, y :: b, e => by
    simp only [List.map_cons, List.cons.injEq, Z.int.injEq] at e
    rw [e.1, map_int_inj e.2]
theorem free_behind (k a b : Nat) (fs : List (Nat × Z)) (la pr sl qu : Nat) (zs : List Z) (L : Lay) (m : LogM) (lv : List Int) (h : Mh) (g : LogE h a fs la pr sl qu zs L m) (o : LOk L) (e : h[b]? = some (.lst (lv.map Z.int))) (hl : lv.length < 1000) (hm : ∀ x ∈ lv, (segOf L x).isSome = true) :
    Ok (prg.C (k + 2) f_free_behind [.ob a, .ob b] h) fun z h' => z = .int (freeC L m lv) ∧ Pre h h' := by
  have rg := o.rng
  rw [prg.call (b := m_free_behind) rfl h rfl]
  unfold m_free_behind
  walk_at "zs"
  refine dcomp_lst (fun d kvs h' => Pre h h' ∧ ∃ d' is, d = d'.map Z.int ∧ kvs = setK is ∧ h'[h.length]? = some (.dct (setK is)) ∧ is.Nodup ∧ is.length ≤ d.length ∧ d.length ≤ lv.length ∧ ∀ s, s ∈ is ↔ some s ∈ d'.map (segOf L)) e
    ⟨.app, [], [], rfl, rfl, get_new, List.nodup_nil, Nat.le_refl _, Nat.zero_le _, fun s => by simp⟩ (fun d o h1 i => by
      obtain ⟨p, d', is, rfl, rfl, e1, nd, l1, l2, mem⟩ := i
      exact ⟨p.get e, e1, lt_line (by simp [setK] at *; omega)⟩) ?_ ?_
  · rintro d z r kvs h1 ez ⟨p, d', is, rfl, rfl, e1, nd, l1, l2, mem⟩
    have hz : ∃ v ∈ lv, z = .int v := by
      have : z ∈ lv.map Z.int := by rw [ez]; simp
      obtain ⟨v, hv, rfl⟩ := List.mem_map.mp this
      exact ⟨v, hv, rfl⟩
    obtain ⟨v, hv, rfl⟩ := hz
    obtain ⟨s, es⟩ := Option.isSome_iff_exists.mp (hm v hv)
    (walk_at "zs"; repeat (simp only [(g.pre p).zlay]; walk_at "zs"))
    refine (segment_of k la L v h1 (g.pre p).lay o).mono ?_
    rintro z h2 ⟨rfl, rfl⟩
    rw [es]
    have hlen := congrArg List.length ez
    simp at hlen
    refine ⟨.inl s, rfl, e1, p.set (Nat.le_refl _), d' ++ [v], (if s ∈ is then is else is ++ [s]), by simp, setK_put is s, by rw [setK_put]; exact get_set e1, (insK is s nd).1, ?_, by simp; omega, fun x => ?_⟩
    · rw [List.length_map] at l1
      split <;> simp <;> omega
    · rw [(insK is s nd).2, mem]
      simp [es]
  · rintro kvs h1 ⟨p, d', is, ed, rfl, e1, nd, l1, l2, mem⟩
    obtain rfl : lv = d' := map_int_inj ed
    unfold m_free_behind_1 m_free_behind_2
    (walk_at "zs"; repeat (simp only [(g.pre p).zlay, (g.pre p).lay.S]; walk_at "zs"))
    refine for_rng (fun i ρ h' => h' = h1 ∧ ∃ y z, ρ = [some (.ob a), some (.ob b), some (.ob h.length), some (.int (((List.range i).filter fun s : Nat => decide ((s : Int) ≠ m.head) && !decide (some (s : Int) ∈ lv.map (segOf L))).length : Int)), y, z]) (by omega) ⟨rfl, _, _, rfl⟩ ?_ ?_
    · rintro i ρ h' hi ⟨rfl, y, z, rfl⟩
      have cs : ((List.range (i + 1)).filter fun s : Nat => decide ((s : Int) ≠ m.head) && !decide (some (s : Int) ∈ lv.map (segOf L))).length = ((List.range i).filter fun s : Nat => decide ((s : Int) ≠ m.head) && !decide (some (s : Int) ∈ lv.map (segOf L))).length + if decide ((i : Int) ≠ m.head) && !decide (some (i : Int) ∈ lv.map (segOf L)) then 1 else 0 := by
        rw [List.range_succ, List.filter_append, List.length_append, List.filter_cons]
        split <;> simp
      unfold m_free_behind_2b0
      (walk_at "zs"; repeat (simp only [(g.pre p).zhead, Int.zero_add]; walk_at "zs"))
      by_cases h1 : (i : Int) = m.head
      · (walk_at "zs"; repeat (simp only [h1]; walk_at "zs"))
        rw [cs]
        simp [h1]
      · have eN : zNotIn (.int i) (.ob h.length) h' = .ok (.bl (!decide (some (i : Int) ∈ lv.map (segOf L)))) h' := by
          simp only [zNotIn, zInB, e1, keyZ, setK_val, Res.bind_ok]
          congr 2
          by_cases q : (i : Int) ∈ is
          · have q2 := (mem _).mp q
            rw [if_pos q]
            simp only [q2, decide_true]
            rfl
          · have q2 : ¬ some (i : Int) ∈ lv.map (segOf L) := fun x => q ((mem _).mpr x)
            rw [if_neg q]
            simp only [q2, decide_false]
            rfl
        by_cases h2 : some (i : Int) ∈ lv.map (segOf L)
        · (walk_at "zs"; repeat (simp only [h1, eN, h2]; walk_at "zs"))
          rw [cs]
          simp [h1, h2]
        · (walk_at "zs"; repeat (simp only [h1, eN, h2]; walk_at "zs"))
          rw [cs]
          simp [h1, h2]
    · rintro ρ h' ⟨rfl, y, z, rfl⟩
      unfold m_free_behind_3
      walk_at "zs"
      refine ⟨?_, p⟩
      unfold freeC
      rw [show (L.S - 0).toNat = L.S.toNat by simp]
theorem shared_superblock (k a : Nat) (fs : List (Nat × Z)) (la pr sl qu : Nat) (zs : List Z) (L : Lay) (m : LogM) (h : Mh) (g : LogE h a fs la pr sl qu zs L m) (hs : m.slots.length < 1000) (h2 : ∀ t, some t ∈ m.slots → 2 ≤ t.length) :
    Ok (prg.C (k + 1) f_shared_superblock [.ob a] h) fun z h' => z = .int (sharedF m.slots []) ∧ Pre h h' := by
  rw [prg.call (b := m_shared_superblock) rfl h rfl]
  unfold m_shared_superblock m_shared_superblock_1
  walk_at "zs"
  have p0 : Pre h (h ++ [Ob.lst []]) := .app
  (walk_at "zs"; repeat (simp only [(g.pre p0).zslots]; walk_at "zs"))
  refine for_lst (fun d ρ h' => (∃ y, ρ = [some (.ob a), some (.ob h.length), y]) ∧ Pre h h' ∧ ∃ D R sn, m.slots = D ++ R ∧ D.length = d.length ∧ h'[h.length]? = some (.lst (sn.map Z.int)) ∧ sn.length ≤ D.length ∧ sharedF m.slots [] = sharedF R sn) (g.pre p0).slots
    ⟨⟨_, rfl⟩, p0, [], _, [], rfl, rfl, get_new, Nat.le_refl _, rfl⟩ (fun _ _ _ i => (g.pre i.2.1).slots) ?_ ?_
  · rintro d z r ρ h' ez ⟨⟨y, rfl⟩, p, D, R, sn, eS, eD, e1, ln, eF⟩
    have sat2 := g.sat
    rw [ez] at sat2
    obtain ⟨d', s, r', e5, sd, sz, sr⟩ := sat2.split
    have hR : R = s :: r' := by
      rw [eS] at e5
      exact (List.append_inj e5 (by have := sd.len; omega)).2
    subst hR
    have hlen := congrArg List.length eS
    simp at hlen
    unfold m_shared_superblock_1b0
    cases s with
    | none =>
      obtain rfl : z = .non := sz
      (walk_at "zs"; repeat (simp only []; walk_at "zs"))
      exact ⟨⟨_, rfl⟩, p, D ++ [none], r', sn, by simp [eS], by simp [eD], e1, by simp; omega, by rw [eF]; simp only [sharedF]⟩
    | some t =>
      obtain ⟨b, rfl, eb⟩ := sz
      have ht := h2 t (by rw [eS]; simp)
      match t, ht with
      | t0 :: t1 :: tr, _ =>
        have e2 := p.get eb
        have eI : zIdx (.ob b) (.int 1) h' = .ok (.int t1) h' := zIdx_new (i := 1) rfl e2
        have eg : (t0 :: t1 :: tr).getD 1 0 = t1 := rfl
        unfold m_shared_superblock_1b0b0
        simp only [sharedF, eg] at eF
        by_cases hc : t1 ≠ 0 ∧ t1 ∈ sn
        · (walk_at "zs"; repeat (simp only [eI, hc.1, zIn_lst e1, hc.2]; walk_at "zs"))
          refine ⟨?_, p⟩
          rw [eF, if_pos hc]
        · have e3 := zBM_append e1 (lt_line (by simp; omega)) (.int t1)
          rw [if_neg hc] at eF
          have fin : ∀ y, ∃ y', ([some (Z.ob a), some (Z.ob h.length), y] : Ev) = [some (.ob a), some (.ob h.length), y'] := fun y => ⟨y, rfl⟩
          have res : (∃ y, ([some (Z.ob a), some (Z.ob h.length), some (Z.ob b)] : Ev) = [some (.ob a), some (.ob h.length), y]) ∧ Pre h (h'.set h.length (.lst (sn.map Z.int ++ [.int t1]))) ∧ ∃ D' R' sn', m.slots = D' ++ R' ∧ D'.length = (d ++ [Z.ob b]).length ∧ (h'.set h.length (.lst (sn.map Z.int ++ [.int t1])))[h.length]? = some (.lst (sn'.map Z.int)) ∧ sn'.length ≤ D'.length ∧ sharedF m.slots [] = sharedF R' sn' :=
            ⟨⟨_, rfl⟩, p.set (Nat.le_refl _), D ++ [some (t0 :: t1 :: tr)], r', sn ++ [t1], by simp [eS], by simp [eD], by rw [get_set e1]; simp, by simp; omega, eF⟩
          by_cases h0 : t1 = 0
          · subst h0
            unfold m_shared_superblock_1b0b1
            (walk_at "zs"; repeat (simp only [eI, bmOk_append e1, e3]; walk_at "zs"))
            exact res
          · have hn : ¬ t1 ∈ sn := fun q => hc ⟨h0, q⟩
            unfold m_shared_superblock_1b0b1
            (walk_at "zs"; repeat (simp only [eI, h0, zIn_lst e1, hn, bmOk_append e1, e3]; walk_at "zs"))
            exact res
  · rintro ρ h' ⟨⟨y, rfl⟩, p, D, R, sn, eS, eD, e1, ln, eF⟩
    have hR : R = [] := by
      have h3 := congrArg List.length eS
      have := g.sat.len
      rw [List.length_append] at h3
      exact List.length_eq_zero_iff.mp (by omega)
    subst hR
    unfold m_shared_superblock_2
    walk_at "zs"
    exact ⟨by rw [eF]; rfl, p⟩
end K88
namespace K88
open PySem PySem.Spec PyProof.Rows L2 Zm
local macro_rules | `(tactic| walk_at "zs") => `(tactic| try simp only [runD_Ok, r_dE_var, r_dE_lit, r_dE_glb, r_dE_bin, r_dE_neg, r_dE_cmp, r_dE_cmp2, r_dE_and, r_dE_or, r_dE_not, r_dE_ite, r_dE_tup, r_dE_lst, r_dE_dct0, r_dE_idx, r_dE_slc, r_dE_fld, r_dE_call, r_dE_mk, r_dE_mth, r_dE_mkd, r_dE_dcomp, r_dE_maxd, r_dI_enum, r_dG_flds, r_dFlds_nil, r_dFlds_cons, r_dS_gfor, r_dS_try, r_dY_fn, r_dY_mth, r_dE_bf, r_dE_bm, r_dE_isT, r_dE_comp, r_dX_tr, r_dX_and, r_dX_or, r_dX_not, r_dEs_nil, r_dEs_cons, r_dP_no, r_dP_some, r_dC_no, r_dC_some, r_dI_seq, r_dI_rng1, r_dI_rng2, r_dI_rrng1, r_dG_nm, r_dG_tup, r_dG_sub, r_dG_fld, r_dS_asg, r_dS_aug, r_dS_expr, r_dS_ret, r_dS_retN, r_dS_ite, r_dS_while, r_dS_for, r_dS_pass, r_dS_brk, r_dS_cont, r_dS_never, r_dSs_nil, r_dSs_cons, tgt, zBin, zCmp, Res.bind_ok, Ok_ok, Ok_bind, Ok_guard, List.length_cons, List.length_nil, List.map_cons, List.map_nil, List.replicate, List.nil_append, List.cons_append, List.getElem?_cons_zero, List.getElem?_cons_succ, List.set_cons_zero, List.set_cons_succ, Nat.reduceSub, Nat.reduceAdd, zAdd_int, zSub_int, zAddI_int, zMul_int, zDiv_int, zMod_int, zPow_int, zNeg_int, zLt_int, zLe_int, zGt_int, zGe_int, zEq_int, zNe_int, zIs_non, zIsNot_non, zTru_bl, zTru_int, zTru_non, zTru_tup, atI_0, atI_1, atI_2, atI_3, oRes_some, zIdx_tup, zBF_int, zBF_len_tup, zBF_list_tup, zBF_min, newL_eq, if_true, if_false, Bool.false_eq_true, reduceIte, zIsN, Bool.not_true, Bool.not_false, beq_self_eq_true, bne_self_eq_false, Int.reduceBNe, Int.reduceEq, decide_true, decide_false, true_and, and_true, if_true, if_false, List.isEmpty_cons, List.isEmpty_nil, setAll, List.all_cons, List.all_nil, flatZ, wipeZ, line_0, line_1, line_2, line_3, line_4, line_5, line_6, line_7, line_8, line_9])

/-- what a log is to keep for the tables' questions -/
structure LogG (L : Lay) (m : LogM) (U : List Int) : Prop where
  qu : m.queue.length < 1000
  sl : m.slots.length < 1000
  occ : (occs m).length < 1000
  tab : ∀ t ∈ tabsOf m, 2 ≤ t.length ∧ t.length < 1000
  ul : U.length < 64
  uin : ∀ t ∈ tabsOf m, ∀ x ∈ t, x ≠ 0 → x ∈ U
theorem dbl_ex (m : LogM) : ∃ db, DblOk m db := by
  classical
  refine ⟨((occs m).map (·.2)).filter fun x => decide (x ≠ 0 ∧ ∃ i j, i ≠ j ∧ (i, x) ∈ occs m ∧ (j, x) ∈ occs m), fun x => ?_⟩
  rw [List.mem_filter, decide_eq_true_iff]
  constructor
  · exact fun h => h.2
  · rintro ⟨h0, i, j, h1, h2, h3⟩
    exact ⟨List.mem_map.mpr ⟨_, h2, rfl⟩, h0, i, j, h1, h2, h3⟩
theorem uniq_ex : ∀ l : List Int, ∃ is : List Int, is.Nodup ∧ ∀ x, x ∈ is ↔ x ∈ l
  | [] => ⟨[], List.nodup_nil, fun _ => Iff.rfl⟩
  | v :: l => by
    obtain ⟨is, nd, mem⟩ := uniq_ex l
    obtain ⟨n2, m2⟩ := insK is v nd
    refine ⟨_, n2, fun x => ?_⟩
    rw [m2, mem, List.mem_cons]
    exact or_comm
theorem live_ex (m : LogM) : ∃ lv, LiveOk m lv := by
  obtain ⟨is, nd, mem⟩ := uniq_ex ((tabsOf m).flatten.filter fun x => decide (x ≠ 0))
  obtain ⟨so, sm⟩ := sortI_ok nd
  refine ⟨sortI is, so, fun x => ?_⟩
  rw [sm, mem, List.mem_filter, List.mem_flatten, decide_eq_true_iff]
  exact and_comm
theorem zBF_min1 {h : Mh} {b : Nat} {x : Int} {xs : List Int} (e : h[b]? = some (.lst ((x :: xs).map Z.int))) : zBF .min1 [.ob b] h = .ok (.int (xs.foldl min x)) h := by
  have : ∀ l : List Int, intsOf (l.map Z.int) = some l := by
    intro l
    induction l with
    | nil => rfl
    | cons y l ih => simp [intsOf, ih]
  simp only [zBF, seqZ, e, this]
theorem live_len {L : Lay} {m : LogM} {U lv : List Int} (q : LogG L m U) (o : LiveOk m lv) : lv.length < 64 := by
  have nd : lv.Nodup := o.sorted.imp fun {a b} h => by omega
  have := nd_le nd fun x hx => by
    obtain ⟨h0, t, ht, hx⟩ := (o.mem x).mp hx
    exact q.uin t ht x hx h0
  have := q.ul
  omega
theorem table_fault (k a : Nat) (fs : List (Nat × Z)) (la pr sl qu : Nat) (zs : List Z) (L : Lay) (m : LogM) (h : Mh) (g : LogE h a fs la pr sl qu zs L m) (o : LOk L) (U : List Int) (q : LogG L m U) :
    Ok (prg.C (k + 3) f_table_fault [.ob a] h) fun z h' => ∃ lv db, LiveOk m lv ∧ DblOk m db ∧ z = fz (tf L m lv db) ∧ Pre h h' := by
  obtain ⟨db0, od0⟩ := dbl_ex m
  obtain ⟨lv0, ol0⟩ := live_ex m
  rw [prg.call (b := m_table_fault) rfl h rfl]
  unfold m_table_fault
  walk_at "zs"
  refine (point_fault (k + 1) a fs la pr sl qu zs L m h g o q.qu).mono ?_
  rintro z h1 ⟨rfl, p1⟩
  unfold m_table_fault_1
  walk_at "zs"
  cases hp : pointF L m with
  | some w =>
    (walk_at "zs"; repeat (simp only [fz]; walk_at "zs"))
    exact ⟨lv0, db0, ol0, od0, by simp only [tf, hp, fz], p1⟩
  | none =>
    (walk_at "zs"; repeat (simp only [fz]; walk_at "zs"))
    unfold m_table_fault_2
    walk_at "zs"
    refine (live_addresses (k + 1) a fs la pr sl qu zs L m h1 (g.pre p1) U q.ul q.sl q.uin).mono ?_
    rintro z h2 ⟨b, lv, rfl, e2, ol, p2⟩
    have p2 := p1.trans p2
    have ll := live_len q ol
    unfold m_table_fault_3
    walk_at "zs"
    refine for_lst (fun d ρ h' => h' = h2 ∧ (∃ x, ρ = [some (.ob a), some .non, some (.ob b), x, none, none]) ∧ ∃ r, lv.map Z.int = d ++ r.map Z.int ∧ lv.find? (misp L m) = r.find? (misp L m)) e2 ⟨rfl, ⟨none, rfl⟩, lv, rfl, rfl⟩ (fun d ρ h' i => by obtain ⟨rfl, _⟩ := i; exact e2) ?_ ?_
    · rintro d z r ρ h' ez ⟨rfl, ⟨x, rfl⟩, q, eq, ef⟩
      rw [ez] at eq
      have eq := List.append_cancel_left eq
      cases q with
      | nil => cases eq
      | cons s q =>
        simp only [List.map_cons, List.cons.injEq] at eq
        obtain ⟨rfl, rfl⟩ := eq
        unfold m_table_fault_3b0
        walk_at "zs"
        refine (is_misplaced k a fs la pr sl qu zs L m s h' (g.pre p2) o).mono ?_
        rintro z h3 ⟨rfl, rfl⟩
        walk_at "zs"
        cases hm : misp L m s with
        | true =>
          walk_at "zs"
          refine ⟨lv, db0, ol, od0, ?_, p2⟩
          simp only [tf, hp, ef, List.find?_cons, hm, fz]
        | false =>
          walk_at "zs"
          exact ⟨⟨_, rfl⟩, q, by rw [ez]; simp, by rw [ef]; simp [hm]⟩
    · rintro ρ h' ⟨rfl, ⟨x, rfl⟩, r, er, ef⟩
      have hr : r = [] := by
        have := congrArg List.length er
        simp at this
        exact this
      subst hr
      have hall : ∀ x ∈ lv, (segOf L x).isSome = true := by
        intro x hx
        have := List.find?_eq_none.mp ef x hx
        unfold misp at this
        cases hs : segOf L x with
        | none => rw [hs] at this; simp at this
        | some s => rfl
      unfold m_table_fault_4
      walk_at "zs"
      refine (doubled_addresses k a fs la pr sl qu zs L m h' (g.pre p2) q.sl q.occ (fun t ht => by have := q.tab t ht; omega)).mono ?_
      rintro z h3 ⟨c, db, rfl, e3, od, p3⟩
      have e2' := p3.get e2
      have p3 := p2.trans p3
      unfold m_table_fault_5
      walk_at "zs"
      rw [zTru_lst e3]
      cases db with
      | cons y ys =>
        (walk_at "zs"; repeat (simp only [zBF_min1 e3]; walk_at "zs"))
        refine ⟨lv, y :: ys, ol, od, ?_, p3⟩
        simp only [tf, hp, ef, List.find?_nil, fz, minL]
        rw [if_pos (by simp)]
      | nil =>
        unfold m_table_fault_6
        (walk_at "zs"; repeat (simp only [zBF_len_lst e2', (g.pre p3).zlay, (g.pre p3).lay.lim, List.length_map]; walk_at "zs"))
        by_cases hl : L.lim < (lv.length : Int)
        · (walk_at "zs"; repeat (simp only [hl, zBF_len_lst e2', List.length_map]; walk_at "zs"))
          refine ⟨lv, [], ol, od, ?_, p3⟩
          simp only [tf, hp, ef, List.find?_nil, fz]
          rw [if_neg (by simp), if_pos hl]
        · (walk_at "zs"; repeat (simp only [hl]; walk_at "zs"))
          unfold m_table_fault_7
          walk_at "zs"
          refine (free_behind k a b fs la pr sl qu zs L m lv h3 (g.pre p3) o e2' (by omega) hall).mono ?_
          rintro z h4 ⟨rfl, p4⟩
          have p4 := p3.trans p4
          walk_at "zs"
          have hc : ((freeC L m lv : Int) = 0) = (freeC L m lv = 0) := by apply propext; omega
          by_cases h0 : freeC L m lv = 0
          · (walk_at "zs"; repeat (simp only [hc, eq_true h0]; walk_at "zs"))
            refine ⟨lv, [], ol, od, ?_, p4⟩
            simp only [tf, hp, ef, List.find?_nil, fz]
            rw [if_neg (by simp), if_neg hl, if_pos h0]
          · (walk_at "zs"; repeat (simp only [hc, h0]; walk_at "zs"))
            unfold m_table_fault_8
            walk_at "zs"
            refine (shared_superblock (k + 1) a fs la pr sl qu zs L m h4 (g.pre p4) q.sl (fun t ht => (q.tab t (List.mem_cons_of_mem _ (List.mem_filterMap.mpr ⟨_, ht, rfl⟩))).1)).mono ?_
            rintro z h5 ⟨rfl, p5⟩
            have p5 := p4.trans p5
            unfold m_table_fault_9
            by_cases hs : sharedF m.slots [] = 0
            · unfold m_table_fault_10
              (walk_at "zs"; repeat (simp only [hs]; walk_at "zs"))
              refine ⟨lv, [], ol, od, ?_, p5⟩
              simp only [tf, hp, ef, List.find?_nil, fz]
              rw [if_neg (by simp), if_neg hl, if_neg h0, if_neg (by simp [hs])]
            · (walk_at "zs"; repeat (simp only [hs]; walk_at "zs"))
              refine ⟨lv, [], ol, od, ?_, p5⟩
              simp only [tf, hp, ef, List.find?_nil, fz]
              rw [if_neg (by simp), if_neg hl, if_neg h0, if_pos hs]
end K88
namespace K88
open PySem PySem.Spec PyProof.Rows L2 Zm
local macro_rules | `(tactic| walk_at "zs") => `(tactic| try simp only [runD_Ok, r_dE_var, r_dE_lit, r_dE_glb, r_dE_bin, r_dE_neg, r_dE_cmp, r_dE_cmp2, r_dE_and, r_dE_or, r_dE_not, r_dE_ite, r_dE_tup, r_dE_lst, r_dE_dct0, r_dE_idx, r_dE_slc, r_dE_fld, r_dE_call, r_dE_mk, r_dE_mth, r_dE_mkd, r_dE_dcomp, r_dE_maxd, r_dI_enum, r_dG_flds, r_dFlds_nil, r_dFlds_cons, r_dS_gfor, r_dS_try, r_dY_fn, r_dY_mth, r_dE_bf, r_dE_bm, r_dE_isT, r_dE_comp, r_dX_tr, r_dX_and, r_dX_or, r_dX_not, r_dEs_nil, r_dEs_cons, r_dP_no, r_dP_some, r_dC_no, r_dC_some, r_dI_seq, r_dI_rng1, r_dI_rng2, r_dI_rrng1, r_dG_nm, r_dG_tup, r_dG_sub, r_dG_fld, r_dS_asg, r_dS_aug, r_dS_expr, r_dS_ret, r_dS_retN, r_dS_ite, r_dS_while, r_dS_for, r_dS_pass, r_dS_brk, r_dS_cont, r_dS_never, r_dSs_nil, r_dSs_cons, tgt, zBin, zCmp, Res.bind_ok, Ok_ok, Ok_bind, Ok_guard, List.length_cons, List.length_nil, List.map_cons, List.map_nil, List.replicate, List.nil_append, List.cons_append, List.getElem?_cons_zero, List.getElem?_cons_succ, List.set_cons_zero, List.set_cons_succ, Nat.reduceSub, Nat.reduceAdd, zAdd_int, zSub_int, zAddI_int, zMul_int, zDiv_int, zMod_int, zPow_int, zNeg_int, zLt_int, zLe_int, zGt_int, zGe_int, zEq_int, zNe_int, zIs_non, zIsNot_non, zTru_bl, zTru_int, zTru_non, zTru_tup, atI_0, atI_1, atI_2, atI_3, oRes_some, zIdx_tup, zBF_int, zBF_len_tup, zBF_list_tup, zBF_min, newL_eq, if_true, if_false, Bool.false_eq_true, reduceIte, zIsN, Bool.not_true, Bool.not_false, beq_self_eq_true, bne_self_eq_false, Int.reduceBNe, Int.reduceEq, decide_true, decide_false, true_and, and_true, if_true, if_false, List.isEmpty_cons, List.isEmpty_nil, setAll, List.all_cons, List.all_nil, flatZ, wipeZ, line_0, line_1, line_2, line_3, line_4, line_5, line_6, line_7, line_8, line_9])

theorem fl_0_8 : prg.gt.fl 0 8 = true := by decide
theorem fl_0_7 : prg.gt.fl 0 7 = true := by decide
theorem fl_0_6 : prg.gt.fl 0 6 = true := by decide
theorem fl_0_3 : prg.gt.fl 0 3 = true := by decide
theorem fl_0_5 : prg.gt.fl 0 5 = true := by decide
theorem fl_0_2 : prg.gt.fl 0 2 = true := by decide
theorem fl_0_4 : prg.gt.fl 0 4 = true := by decide
theorem fl_0_0 : prg.gt.fl 0 0 = true := by decide
theorem fl_0_1 : prg.gt.fl 0 1 = true := by decide
theorem fl_1_15 : prg.gt.fl 1 15 = true := by decide
theorem fl_1_14 : prg.gt.fl 1 14 = true := by decide
theorem fl_1_13 : prg.gt.fl 1 13 = true := by decide
theorem fl_1_12 : prg.gt.fl 1 12 = true := by decide
theorem fl_1_11 : prg.gt.fl 1 11 = true := by decide
theorem fl_1_10 : prg.gt.fl 1 10 = true := by decide
theorem fl_1_9 : prg.gt.fl 1 9 = true := by decide
theorem fl_2_25 : prg.gt.fl 2 25 = true := by decide
theorem fl_2_23 : prg.gt.fl 2 23 = true := by decide
theorem fl_2_24 : prg.gt.fl 2 24 = true := by decide
theorem fl_2_22 : prg.gt.fl 2 22 = true := by decide
theorem fl_2_21 : prg.gt.fl 2 21 = true := by decide
theorem fl_2_20 : prg.gt.fl 2 20 = true := by decide
theorem fl_2_19 : prg.gt.fl 2 19 = true := by decide
theorem fl_2_18 : prg.gt.fl 2 18 = true := by decide
theorem fl_2_17 : prg.gt.fl 2 17 = true := by decide
theorem fl_2_16 : prg.gt.fl 2 16 = true := by decide
theorem fl_3_23 : prg.gt.fl 3 23 = true := by decide
theorem fl_3_33 : prg.gt.fl 3 33 = true := by decide
theorem fl_3_32 : prg.gt.fl 3 32 = true := by decide
theorem fl_3_31 : prg.gt.fl 3 31 = true := by decide
theorem fl_3_30 : prg.gt.fl 3 30 = true := by decide
theorem fl_3_29 : prg.gt.fl 3 29 = true := by decide
section
variable {h : Mh} {A c f : Nat} {fs : List (Nat × Z)} {z : Z} {u : Ob}
theorem fld_set (e : h[A]? = some u) : zFld (.ob A) f (h.set A (.ins c fs)) = oRes (lookF fs f) (h.set A (.ins c fs)) := zFld_ins (get_set e)
theorem setF_ins {fl : Nat → Nat → Bool} (e : h[A]? = some (.ins c fs)) (hf : fl c f = true) (hl : fs.length < 1000) : zSetF fl (.ob A) f z h = .ok () (h.set A (.ins c (putF' f z fs))) := by
  simp only [zSetF, e]
  exact guard_pos ⟨hl, hf⟩
theorem setF_set {fl : Nat → Nat → Bool} (e : h[A]? = some u) (hf : fl c f = true) (hl : fs.length < 1000) : zSetF fl (.ob A) f z (h.set A (.ins c fs)) = .ok () (h.set A (.ins c (putF' f z fs))) := by
  rw [setF_ins (get_set e) hf hl, List.set_set]
end
def BsAt (h : Mh) (a : Nat) : Prop := ∃ fs, h[a]? = some (.ins c_Layout fs) ∧ lookF fs a_block_size = some (.int 64)
theorem layout_init (k A : Nat) (L : Lay) (o : LOk L) (h : Mh) (e : h[A]? = some (.ins c_Layout [])) : Ok (prg.C (k + 2) f_Layout_init [.ob A, .int L.S, .int L.B, .int 64] h) fun z h' => z = .non ∧ ∃ fs, h' = h.set A (.ins c_Layout fs) ∧ LayAt h' A L ∧ BsAt h' A := by
  have hin : zNotIn (.int 64) (.tup [.int 64, .int 128, .int 256]) h = .ok (.bl false) h := by
    simp only [zNotIn, zInB, flatZ, List.all_cons, List.all_nil, Bool.and_self]
    rw [guard_pos ⟨trivial, trivial⟩]
    rfl
  rw [prg.call (b := m_Layout_init) rfl h rfl]
  rcases o with rfl | rfl | rfl <;> (
    simp only [L0, L1, L2]
    unfold m_Layout_init m_Layout_init_1 m_Layout_init_2 m_Layout_init_3 m_Layout_init_4 m_Layout_init_5
    (walk_at "zs"; repeat (simp only [setF_ins e, setF_set e, fld_set e, hin, putF', lookF, Nat.reduceEqDiff, Nat.reduceLT, List.length_cons, List.length_nil, Nat.reduceAdd, Int.reduceSub, Int.reduceAdd, Int.reduceMul, Int.reduceLT, Int.reduceLE, Int.reduceGT, Int.reduceDiv, fl_0_8, fl_0_7, fl_0_6, fl_0_3, fl_0_5, fl_0_2, fl_0_4, fl_0_0, fl_0_1, fl_1_15, fl_1_14, fl_1_13, fl_1_12, fl_1_11, fl_1_10, fl_1_9, fl_2_25, fl_2_23, fl_2_24, fl_2_22, fl_2_21, fl_2_20, fl_2_19, fl_2_18, fl_2_17, fl_2_16, fl_3_23, fl_3_33, fl_3_32, fl_3_31, fl_3_30, fl_3_29]; walk_at "zs"))
    unfold m_Layout_init_6 m_Layout_init_7
    (walk_at "zs"; repeat (simp only [setF_ins e, setF_set e, fld_set e, hin, putF', lookF, Nat.reduceEqDiff, Nat.reduceLT, List.length_cons, List.length_nil, Nat.reduceAdd, Int.reduceSub, Int.reduceAdd, Int.reduceMul, Int.reduceLT, Int.reduceLE, Int.reduceGT, Int.reduceDiv, fl_0_8, fl_0_7, fl_0_6, fl_0_3, fl_0_5, fl_0_2, fl_0_4, fl_0_0, fl_0_1, fl_1_15, fl_1_14, fl_1_13, fl_1_12, fl_1_11, fl_1_10, fl_1_9, fl_2_25, fl_2_23, fl_2_24, fl_2_22, fl_2_21, fl_2_20, fl_2_19, fl_2_18, fl_2_17, fl_2_16, fl_3_23, fl_3_33, fl_3_32, fl_3_31, fl_3_30, fl_3_29]; walk_at "zs"))
    refine ⟨cmulR, ?_⟩
    unfold m_Layout_init_8 m_Layout_init_9
    (walk_at "zs"; repeat (simp only [setF_ins e, setF_set e, fld_set e, hin, putF', lookF, Nat.reduceEqDiff, Nat.reduceLT, List.length_cons, List.length_nil, Nat.reduceAdd, Int.reduceSub, Int.reduceAdd, Int.reduceMul, Int.reduceLT, Int.reduceLE, Int.reduceGT, Int.reduceDiv, fl_0_8, fl_0_7, fl_0_6, fl_0_3, fl_0_5, fl_0_2, fl_0_4, fl_0_0, fl_0_1, fl_1_15, fl_1_14, fl_1_13, fl_1_12, fl_1_11, fl_1_10, fl_1_9, fl_2_25, fl_2_23, fl_2_24, fl_2_22, fl_2_21, fl_2_20, fl_2_19, fl_2_18, fl_2_17, fl_2_16, fl_3_23, fl_3_33, fl_3_32, fl_3_31, fl_3_30, fl_3_29]; walk_at "zs"))
    refine ⟨CDivW_small (by omega) (by omega), ?_⟩
    unfold m_Layout_init_10
    (walk_at "zs"; repeat (simp only [setF_ins e, setF_set e, fld_set e, hin, putF', lookF, Nat.reduceEqDiff, Nat.reduceLT, List.length_cons, List.length_nil, Nat.reduceAdd, Int.reduceSub, Int.reduceAdd, Int.reduceMul, Int.reduceLT, Int.reduceLE, Int.reduceGT, Int.reduceDiv, fl_0_8, fl_0_7, fl_0_6, fl_0_3, fl_0_5, fl_0_2, fl_0_4, fl_0_0, fl_0_1, fl_1_15, fl_1_14, fl_1_13, fl_1_12, fl_1_11, fl_1_10, fl_1_9, fl_2_25, fl_2_23, fl_2_24, fl_2_22, fl_2_21, fl_2_20, fl_2_19, fl_2_18, fl_2_17, fl_2_16, fl_3_23, fl_3_33, fl_3_32, fl_3_31, fl_3_30, fl_3_29]; walk_at "zs"))
    refine ⟨cmulL, ?_⟩
    (walk_at "zs"; repeat (simp only [setF_ins e, setF_set e, fld_set e, hin, putF', lookF, Nat.reduceEqDiff, Nat.reduceLT, List.length_cons, List.length_nil, Nat.reduceAdd, Int.reduceSub, Int.reduceAdd, Int.reduceMul, Int.reduceLT, Int.reduceLE, Int.reduceGT, Int.reduceDiv, fl_0_8, fl_0_7, fl_0_6, fl_0_3, fl_0_5, fl_0_2, fl_0_4, fl_0_0, fl_0_1, fl_1_15, fl_1_14, fl_1_13, fl_1_12, fl_1_11, fl_1_10, fl_1_9, fl_2_25, fl_2_23, fl_2_24, fl_2_22, fl_2_21, fl_2_20, fl_2_19, fl_2_18, fl_2_17, fl_2_16, fl_3_23, fl_3_33, fl_3_32, fl_3_31, fl_3_30, fl_3_29]; walk_at "zs"))
    refine (parts_of k _ 8 _ (by omega) (by omega)).mono ?_
    rintro z h' ⟨rfl, rfl⟩
    unfold m_Layout_init_11
    (walk_at "zs"; repeat (simp only [setF_ins e, setF_set e, fld_set e, hin, putF', lookF, Nat.reduceEqDiff, Nat.reduceLT, List.length_cons, List.length_nil, Nat.reduceAdd, Int.reduceSub, Int.reduceAdd, Int.reduceMul, Int.reduceLT, Int.reduceLE, Int.reduceGT, Int.reduceDiv, fl_0_8, fl_0_7, fl_0_6, fl_0_3, fl_0_5, fl_0_2, fl_0_4, fl_0_0, fl_0_1, fl_1_15, fl_1_14, fl_1_13, fl_1_12, fl_1_11, fl_1_10, fl_1_9, fl_2_25, fl_2_23, fl_2_24, fl_2_22, fl_2_21, fl_2_20, fl_2_19, fl_2_18, fl_2_17, fl_2_16, fl_3_23, fl_3_33, fl_3_32, fl_3_31, fl_3_30, fl_3_29]; walk_at "zs"))
    refine ⟨cmulR, ?_⟩
    unfold m_Layout_init_12
    (walk_at "zs"; repeat (simp only [setF_ins e, setF_set e, fld_set e, hin, putF', lookF, Nat.reduceEqDiff, Nat.reduceLT, List.length_cons, List.length_nil, Nat.reduceAdd, Int.reduceSub, Int.reduceAdd, Int.reduceMul, Int.reduceLT, Int.reduceLE, Int.reduceGT, Int.reduceDiv, fl_0_8, fl_0_7, fl_0_6, fl_0_3, fl_0_5, fl_0_2, fl_0_4, fl_0_0, fl_0_1, fl_1_15, fl_1_14, fl_1_13, fl_1_12, fl_1_11, fl_1_10, fl_1_9, fl_2_25, fl_2_23, fl_2_24, fl_2_22, fl_2_21, fl_2_20, fl_2_19, fl_2_18, fl_2_17, fl_2_16, fl_3_23, fl_3_33, fl_3_32, fl_3_31, fl_3_30, fl_3_29]; walk_at "zs"))
    refine ⟨cmulL, ?_⟩
    (walk_at "zs"; repeat (simp only [setF_ins e, setF_set e, fld_set e, hin, putF', lookF, Nat.reduceEqDiff, Nat.reduceLT, List.length_cons, List.length_nil, Nat.reduceAdd, Int.reduceSub, Int.reduceAdd, Int.reduceMul, Int.reduceLT, Int.reduceLE, Int.reduceGT, Int.reduceDiv, fl_0_8, fl_0_7, fl_0_6, fl_0_3, fl_0_5, fl_0_2, fl_0_4, fl_0_0, fl_0_1, fl_1_15, fl_1_14, fl_1_13, fl_1_12, fl_1_11, fl_1_10, fl_1_9, fl_2_25, fl_2_23, fl_2_24, fl_2_22, fl_2_21, fl_2_20, fl_2_19, fl_2_18, fl_2_17, fl_2_16, fl_3_23, fl_3_33, fl_3_32, fl_3_31, fl_3_30, fl_3_29]; walk_at "zs"))
    refine (parts_of k _ 64 _ (by omega) (by omega)).mono ?_
    rintro z h' ⟨rfl, rfl⟩
    unfold m_Layout_init_13
    (walk_at "zs"; repeat (simp only [setF_ins e, setF_set e, fld_set e, hin, putF', lookF, Nat.reduceEqDiff, Nat.reduceLT, List.length_cons, List.length_nil, Nat.reduceAdd, Int.reduceSub, Int.reduceAdd, Int.reduceMul, Int.reduceLT, Int.reduceLE, Int.reduceGT, Int.reduceDiv, fl_0_8, fl_0_7, fl_0_6, fl_0_3, fl_0_5, fl_0_2, fl_0_4, fl_0_0, fl_0_1, fl_1_15, fl_1_14, fl_1_13, fl_1_12, fl_1_11, fl_1_10, fl_1_9, fl_2_25, fl_2_23, fl_2_24, fl_2_22, fl_2_21, fl_2_20, fl_2_19, fl_2_18, fl_2_17, fl_2_16, fl_3_23, fl_3_33, fl_3_32, fl_3_31, fl_3_30, fl_3_29]; walk_at "zs"))
    refine ⟨cmulL, ?_⟩
    (walk_at "zs"; repeat (simp only [setF_ins e, setF_set e, fld_set e, hin, putF', lookF, Nat.reduceEqDiff, Nat.reduceLT, List.length_cons, List.length_nil, Nat.reduceAdd, Int.reduceSub, Int.reduceAdd, Int.reduceMul, Int.reduceLT, Int.reduceLE, Int.reduceGT, Int.reduceDiv, fl_0_8, fl_0_7, fl_0_6, fl_0_3, fl_0_5, fl_0_2, fl_0_4, fl_0_0, fl_0_1, fl_1_15, fl_1_14, fl_1_13, fl_1_12, fl_1_11, fl_1_10, fl_1_9, fl_2_25, fl_2_23, fl_2_24, fl_2_22, fl_2_21, fl_2_20, fl_2_19, fl_2_18, fl_2_17, fl_2_16, fl_3_23, fl_3_33, fl_3_32, fl_3_31, fl_3_30, fl_3_29]; walk_at "zs"))
    refine ⟨cmulR, ?_⟩
    (walk_at "zs"; repeat (simp only [setF_ins e, setF_set e, fld_set e, hin, putF', lookF, Nat.reduceEqDiff, Nat.reduceLT, List.length_cons, List.length_nil, Nat.reduceAdd, Int.reduceSub, Int.reduceAdd, Int.reduceMul, Int.reduceLT, Int.reduceLE, Int.reduceGT, Int.reduceDiv, fl_0_8, fl_0_7, fl_0_6, fl_0_3, fl_0_5, fl_0_2, fl_0_4, fl_0_0, fl_0_1, fl_1_15, fl_1_14, fl_1_13, fl_1_12, fl_1_11, fl_1_10, fl_1_9, fl_2_25, fl_2_23, fl_2_24, fl_2_22, fl_2_21, fl_2_20, fl_2_19, fl_2_18, fl_2_17, fl_2_16, fl_3_23, fl_3_33, fl_3_32, fl_3_31, fl_3_30, fl_3_29]; walk_at "zs"))
    exact ⟨_, rfl, ⟨_, get_set e, rfl, rfl, rfl, rfl, rfl, rfl, rfl, rfl⟩, ⟨_, get_set e, rfl⟩⟩)
end K88
namespace K88
open PySem PySem.Spec PyProof.Rows L2 Zm
local macro_rules | `(tactic| walk_at "zs") => `(tactic| try simp only [runD_Ok, r_dE_var, r_dE_lit, r_dE_glb, r_dE_bin, r_dE_neg, r_dE_cmp, r_dE_cmp2, r_dE_and, r_dE_or, r_dE_not, r_dE_ite, r_dE_tup, r_dE_lst, r_dE_dct0, r_dE_idx, r_dE_slc, r_dE_fld, r_dE_call, r_dE_mk, r_dE_mth, r_dE_mkd, r_dE_dcomp, r_dE_maxd, r_dI_enum, r_dG_flds, r_dFlds_nil, r_dFlds_cons, r_dS_gfor, r_dS_try, r_dY_fn, r_dY_mth, r_dE_bf, r_dE_bm, r_dE_isT, r_dE_comp, r_dX_tr, r_dX_and, r_dX_or, r_dX_not, r_dEs_nil, r_dEs_cons, r_dP_no, r_dP_some, r_dC_no, r_dC_some, r_dI_seq, r_dI_rng1, r_dI_rng2, r_dI_rrng1, r_dG_nm, r_dG_tup, r_dG_sub, r_dG_fld, r_dS_asg, r_dS_aug, r_dS_expr, r_dS_ret, r_dS_retN, r_dS_ite, r_dS_while, r_dS_for, r_dS_pass, r_dS_brk, r_dS_cont, r_dS_never, r_dSs_nil, r_dSs_cons, tgt, zBin, zCmp, Res.bind_ok, Ok_ok, Ok_bind, Ok_guard, List.length_cons, List.length_nil, List.map_cons, List.map_nil, List.replicate, List.nil_append, List.cons_append, List.getElem?_cons_zero, List.getElem?_cons_succ, List.set_cons_zero, List.set_cons_succ, Nat.reduceSub, Nat.reduceAdd, zAdd_int, zSub_int, zAddI_int, zMul_int, zDiv_int, zMod_int, zPow_int, zNeg_int, zLt_int, zLe_int, zGt_int, zGe_int, zEq_int, zNe_int, zIs_non, zIsNot_non, zTru_bl, zTru_int, zTru_non, zTru_tup, atI_0, atI_1, atI_2, atI_3, oRes_some, zIdx_tup, zBF_int, zBF_len_tup, zBF_list_tup, zBF_min, newL_eq, if_true, if_false, Bool.false_eq_true, reduceIte, zIsN, Bool.not_true, Bool.not_false, beq_self_eq_true, bne_self_eq_false, Int.reduceBNe, Int.reduceEq, decide_true, decide_false, true_and, and_true, if_true, if_false, List.isEmpty_cons, List.isEmpty_nil, setAll, List.all_cons, List.all_nil, flatZ, wipeZ, line_0, line_1, line_2, line_3, line_4, line_5, line_6, line_7, line_8, line_9])

def flS (W : Nat) : Option (List Int) → List Int
  | none => 0 :: List.replicate W 0
  | some t => 1 :: t
/-- slots with their first number -/
def headS : Option (List Int) → Option (List Int)
  | none => none
  | some t => some (0 :: t)
structure RowOk (L : Lay) (W : Nat) (m : LogM) (p0 : List Int) (s1 s2 s3 : Option (List Int)) (n : Nat) (R : List Int) : Prop where
  hW : L.last = (W : Int)
  pres : m.pres = 0 :: p0
  slots : m.slots = [headS s1, headS s2, headS s3]
  lp : p0.length = W
  l1 : (flS W s1).length = W + 1
  l2 : (flS W s2).length = W + 1
  l3 : (flS W s3).length = W + 1
  row : R = p0 ++ flS W s1 ++ flS W s2 ++ flS W s3 ++ [m.head, m.place, (m.queue.length : Int)] ++ m.queue ++ List.replicate n 0
  qS : (m.queue.length : Int) ≤ L.S
  big : R.length < 1000
theorem cutZ_mid (xs : List Z) (a b : Nat) (h1 : a ≤ b) (h2 : b ≤ xs.length) : cutZ xs (some (a : Int)) (some (b : Int)) = (xs.drop a).take (b - a) := by
  simp only [cutZ, HT.sIx_nat]
  rw [Nat.min_eq_left h2, Nat.min_eq_left (by omega)]
theorem intsOf_map : ∀ xs : List Int, intsOf (xs.map Z.int) = some xs
  | [] => rfl
  | x :: xs => by simp [intsOf, intsOf_map xs]
theorem foldl_zero : ∀ n : Nat, (List.replicate n (0 : Int)).foldl max 0 = 0
  | 0 => rfl
  | n + 1 => by rw [List.replicate_succ, List.foldl_cons]; exact foldl_zero n
theorem set_same {h : Mh} {a : Nat} {o : Ob} (e : h[a]? = some o) : h.set a o = h := by
  apply List.ext_getElem?
  intro i
  by_cases q : a = i
  · subst q
    rw [get_set e, e]
  · rw [get_set_ne q]
theorem set_app {h l : Mh} {a : Nat} {o : Ob} (e : a < h.length) : (h ++ l).set a o = h.set a o ++ l := List.set_append_left _ _ e
theorem SlotsAt.snoc {h : Mh} {zs : List Z} {ss : List (Option (List Int))} {z : Z} {s : Option (List Int)} (q : SlotsAt h zs ss) (x : SlotAt h z s) : SlotsAt h (zs ++ [z]) (ss ++ [s]) := by
  induction q with
  | nil => exact .cons x .nil
  | cons y _ ih => exact .cons y ih
theorem read_slots {L : Lay} {W : Nat} {m : LogM} {p0 : List Int} {s1 s2 s3 : Option (List Int)} {n : Nat} {R : List Int} (r : RowOk L W m p0 s1 s2 s3 n R) (i : Nat) (hi : i < 3) :
    ∃ s pre post, R = pre ++ flS W s ++ post ∧ pre.length = W + i * (W + 1) ∧ (flS W s).length = W + 1 ∧ m.slots.take (i + 1) = m.slots.take i ++ [headS s] := by
  have e := r.row
  match i, hi with
  | 0, _ => exact ⟨s1, p0, flS W s2 ++ flS W s3 ++ [m.head, m.place, (m.queue.length : Int)] ++ m.queue ++ List.replicate n 0, by rw [e]; simp, by rw [r.lp]; simp, r.l1, by rw [r.slots]; rfl⟩
  | 1, _ => exact ⟨s2, p0 ++ flS W s1, flS W s3 ++ [m.head, m.place, (m.queue.length : Int)] ++ m.queue ++ List.replicate n 0, by rw [e]; simp, by rw [List.length_append, r.lp, r.l1]; omega, r.l2, by rw [r.slots]; rfl⟩
  | 2, _ => exact ⟨s3, p0 ++ flS W s1 ++ flS W s2, [m.head, m.place, (m.queue.length : Int)] ++ m.queue ++ List.replicate n 0, by rw [e]; simp, by rw [List.length_append, List.length_append, r.lp, r.l1, r.l2]; omega, r.l3, by rw [r.slots]; rfl⟩
theorem zGt_t (i j : Int) (h : Mh) (b : Bool) (e : decide (j < i) = b) : zGt (.int i) (.int j) h = .ok (.bl b) h := by rw [zGt_int, e]
theorem read_numbers (k a b : Nat) (L : Lay) (W : Nat) (m : LogM) (p0 : List Int) (s1 s2 s3 : Option (List Int)) (n : Nat) (R : List Int) (h : Mh) (l : LayAt h a L) (o : LOk L) (e : h[b]? = some (.lst (R.map Z.int))) (r : RowOk L W m p0 s1 s2 s3 n R) :
    Ok (prg.C (k + 1) f_read_numbers [.ob a, .ob b] h) fun z h' => ∃ pr sl qu zs, z = .tup [.ob pr, .ob sl, .int m.head, .int m.place, .ob qu] ∧ h'[pr]? = some (.lst (m.pres.map Z.int)) ∧ h'[sl]? = some (.lst zs) ∧ SlotsAt h' zs m.slots ∧ h'[qu]? = some (.lst (m.queue.map Z.int)) ∧ Pre h h' := by
  have rg := o.rng
  have hW := r.hW
  have hbig := r.big
  have hRl : R.length = W + 3 * (W + 1) + 3 + m.queue.length + n := by
    rw [r.row]
    simp only [List.length_append, List.length_cons, List.length_nil, List.length_replicate, r.lp, r.l1, r.l2, r.l3]
    omega
  rw [prg.call (b := m_read_numbers) rfl h rfl]
  unfold m_read_numbers m_read_numbers_1
  (walk_at "zs"; repeat (simp only [l.last]; walk_at "zs"))
  have p1 : Pre h (h ++ [Ob.lst [.int 0]]) := .app
  rw [zSlc_lst (p1.get e), r.hW, cutZ_take]
  walk_at "zs"
  have eT : (R.map Z.int).take W = p0.map Z.int := by
    rw [r.row, ← List.map_take]
    congr 1
    have : ∀ q : List Int, (p0 ++ q).take W = p0 := fun q => by rw [← r.lp]; simp
    simp only [List.append_assoc]
    exact this _
  rw [eT]
  have p2 : Pre h ((h ++ [Ob.lst [.int 0]]) ++ [Ob.lst (p0.map Z.int)]) := .trans p1 .app
  rw [zAdd_lsts (get_app get_new) get_new (by simp [r.lp]; omega)]
  walk_at "zs"
  have p3 : Pre h (((h ++ [Ob.lst [.int 0]]) ++ [Ob.lst (p0.map Z.int)]) ++ [Ob.lst (Z.int 0 :: p0.map Z.int)]) := .trans p2 .app
  have eP : (((h ++ [Ob.lst [.int 0]]) ++ [Ob.lst (p0.map Z.int)]) ++ [Ob.lst (Z.int 0 :: p0.map Z.int)])[((h ++ [Ob.lst [.int 0]]) ++ [Ob.lst (p0.map Z.int)]).length]? = some (.lst (m.pres.map Z.int)) := by rw [get_new, r.pres]; rfl
  generalize ((h ++ [Ob.lst [.int 0]]) ++ [Ob.lst (p0.map Z.int)]).length = P at eP
  generalize ((h ++ [Ob.lst [.int 0]]) ++ [Ob.lst (p0.map Z.int)]) ++ [Ob.lst (Z.int 0 :: p0.map Z.int)] = H at p3 eP
  unfold m_read_numbers_2 m_read_numbers_3
  walk_at "zs"
  have eS : (H ++ [Ob.lst []])[H.length]? = some (.lst []) := get_new
  have p4 : Pre h (H ++ [Ob.lst []]) := p3.trans .app
  have eP2 : (H ++ [Ob.lst []])[P]? = some (.lst (m.pres.map Z.int)) := get_app eP
  have hPS : P ≠ H.length := by have := lt_of_get eP; omega
  have hHl := p3.len
  generalize H.length = S at eS hPS hHl
  generalize H ++ [Ob.lst []] = H2 at p4 eP2 eS
  unfold m_read_numbers_4
  walk_at "zs"
  refine for_rng (fun i ρ h' => (∃ x6 x7 x8, ρ = [some (.ob a), some (.ob b), some (.int W), some (.ob P), some (.int ((W + i * (W + 1) : Nat) : Int)), some (.ob S), x6, x7, x8, none, none, none, none]) ∧ Pre h h' ∧ h'[P]? = some (.lst (m.pres.map Z.int)) ∧ ∃ zs, h'[S]? = some (.lst zs) ∧ zs.length = i ∧ ∀ ob, SlotsAt (h'.set S ob) zs (m.slots.take i)) (by decide)
    ⟨⟨_, _, _, by simp; exact ⟨rfl, rfl, rfl⟩⟩, p4, eP2, [], eS, rfl, fun _ => .nil⟩ ?_ ?_
  · rintro i ρ h' hi ⟨⟨x6, x7, x8, rfl⟩, p, eP, zs, eS, lz, sat⟩
    have hi3 : i < 3 := by simpa using hi
    obtain ⟨s, pre, post, eR, lpre, lfl, etk⟩ := read_slots r i hi3
    have hRl2 := congrArg List.length eR
    simp only [List.length_append] at hRl2
    unfold m_read_numbers_4b0
    walk_at "zs"
    have eN : ∃ v rest, flS W s = v :: rest ∧ rest.length = W := by
      cases q : flS W s with
      | nil => rw [q] at lfl; simp at lfl
      | cons v rest => exact ⟨v, rest, rfl, by rw [q] at lfl; simpa using lfl⟩
    obtain ⟨v, rest, efl, lrest⟩ := eN
    rw [zIdx_new (z := .int v) (by rw [eR, efl, ← lpre, List.getElem?_map]; simp) (p.get e)]
    walk_at "zs"
    unfold m_read_numbers_4b1
    walk_at "zs"
    rw [show ((W + i * (W + 1) : Nat) : Int) + 1 = ((W + i * (W + 1) + 1 : Nat) : Int) by omega, show ((W + i * (W + 1) + 1 : Nat) : Int) + (W : Int) = ((W + i * (W + 1) + 1 + W : Nat) : Int) by omega]
    rw [zSlc_lst (p.get e), cutZ_mid _ _ _ (by omega) (by rw [List.length_map]; omega)]
    have eC : ((R.map Z.int).drop (W + i * (W + 1) + 1)).take (W + i * (W + 1) + 1 + W - (W + i * (W + 1) + 1)) = rest.map Z.int := by
      rw [eR, efl, ← lpre, ← List.map_drop, ← List.map_take]
      congr 1
      rw [show pre ++ v :: rest ++ post = (pre ++ [v]) ++ (rest ++ post) by simp, show pre.length + 1 = (pre ++ [v]).length by simp, List.drop_left, show (pre ++ [v]).length + W - (pre ++ [v]).length = rest.length by omega, List.take_left]
    rw [eC]
    walk_at "zs"
    unfold m_read_numbers_4b2
    walk_at "zs"
    rw [show ((W + i * (W + 1) : Nat) : Int) + 1 + (W : Int) = ((W + (i + 1) * (W + 1) : Nat) : Int) by rw [Nat.add_mul]; omega]
    have hS := lt_of_get eS
    have p' : Pre h (h' ++ [Ob.lst (rest.map Z.int)]) := p.trans .app
    have eP' : (h' ++ [Ob.lst (rest.map Z.int)])[P]? = some (.lst (m.pres.map Z.int)) := get_app eP
    have eS' : (h' ++ [Ob.lst (rest.map Z.int)])[S]? = some (.lst zs) := get_app eS
    have eL : (h' ++ [Ob.lst (rest.map Z.int)])[h'.length]? = some (.lst (rest.map Z.int)) := get_new
    have sat' : ∀ ob, SlotsAt ((h' ++ [Ob.lst (rest.map Z.int)]).set S ob) zs (m.slots.take i) := fun ob => by rw [set_app hS]; exact (sat ob).pre .app
    have hlt : S < h'.length := hS
    have hLL : h'.length < (h' ++ [Ob.lst (rest.map Z.int)]).length := by simp
    generalize h' ++ [Ob.lst (rest.map Z.int)] = h2 at p' eP' eS' eL sat' hLL
    unfold m_read_numbers_4b3 m_read_numbers_4b4
    cases s with
    | none =>
      simp only [flS, List.cons.injEq] at efl
      obtain ⟨rfl, rfl⟩ := efl
      have eM : Ok (zBF .max1 [.ob h'.length] h2) fun z h3 => z = .int 0 ∧ h3 = h2 := by
        simp only [zBF, seqZ, eL, intsOf_map]
        have hW0 : 0 < W := by have := r.hW; omega
        cases W with
        | zero => omega
        | succ W =>
          simp only [List.replicate_succ]
          exact ⟨by rw [foldl_zero], rfl⟩
      (walk_at "zs"; repeat (simp only [Int.reduceLT]; walk_at "zs"))
      refine eM.mono ?_
      rintro z h3 ⟨rfl, rfl⟩
      (walk_at "zs"; repeat (simp only [Int.reduceLT, bmOk_append eS', zBM_append eS' (lt_line (by omega))]; walk_at "zs"))
      refine ⟨⟨_, _, _, rfl⟩, p'.set (by omega), by rw [get_set_ne (fun q => hPS q.symm)]; exact eP', zs ++ [.non], get_set eS', by simp [lz], fun ob => ?_⟩
      rw [List.set_set, etk]
      exact (sat' ob).snoc rfl
    | some t =>
      simp only [flS, List.cons.injEq] at efl
      obtain ⟨rfl, rfl⟩ := efl
      (walk_at "zs"; repeat (simp only [Int.reduceLT, bmOk_append eS']; walk_at "zs"))
      have q1 : (h2 ++ [Ob.lst [.int 0]])[h'.length]? = some (.lst (t.map Z.int)) := get_app eL
      rw [zAdd_lsts get_new q1 (by simp [lrest]; omega)]
      walk_at "zs"
      have eS3 : ((h2 ++ [Ob.lst [.int 0]]) ++ [Ob.lst (Z.int 0 :: t.map Z.int)])[S]? = some (.lst zs) := get_app (get_app eS')
      have sat3 : ∀ ob, SlotsAt (((h2 ++ [Ob.lst [.int 0]]) ++ [Ob.lst (Z.int 0 :: t.map Z.int)]).set S ob) (zs ++ [.ob (h2 ++ [Ob.lst [.int 0]]).length]) (m.slots.take (i + 1)) := fun ob => by
        rw [etk]
        rw [set_app (by simp; omega), set_app (by omega)]
        refine (((sat' ob).pre .app).pre .app).snoc ⟨_, rfl, ?_⟩
        rw [show (h2 ++ [Ob.lst [.int 0]]).length = (h2.set S ob ++ [Ob.lst [.int 0]]).length by simp]
        exact get_new
      have p5 : Pre h ((h2 ++ [Ob.lst [.int 0]]) ++ [Ob.lst (Z.int 0 :: t.map Z.int)]) := p'.trans (.trans .app .app)
      have eP5 : ((h2 ++ [Ob.lst [.int 0]]) ++ [Ob.lst (Z.int 0 :: t.map Z.int)])[P]? = some (.lst (m.pres.map Z.int)) := get_app (get_app eP')
      generalize (h2 ++ [Ob.lst [.int 0]]).length = N at sat3
      generalize (h2 ++ [Ob.lst [.int 0]]) ++ [Ob.lst (Z.int 0 :: t.map Z.int)] = h3 at eS3 sat3 p5 eP5
      (walk_at "zs"; repeat (simp only [zBM_append eS3 (lt_line (by omega))]; walk_at "zs"))
      refine ⟨⟨_, _, _, rfl⟩, p5.set (by omega), by rw [get_set_ne (fun q => hPS q.symm)]; exact eP5, _, get_set eS3, by simp [lz], fun ob => ?_⟩
      rw [List.set_set]
      exact sat3 ob
  · rintro ρ h' ⟨⟨x6, x7, x8, rfl⟩, p, eP, zs, eS, lz, sat⟩
    simp only [Int.sub_zero, Int.reduceToNat] at lz sat ⊢
    have hS := lt_of_get eS
    have sat := sat (.lst zs)
    rw [set_same eS, List.take_of_length_le (by rw [r.slots]; simp)] at sat
    unfold m_read_numbers_5
    walk_at "zs"
    rw [show ((W + 3 * (W + 1) : Nat) : Int) + 3 = ((W + 3 * (W + 1) + 3 : Nat) : Int) by omega]
    rw [zSlc_lst (p.get e), cutZ_mid _ _ _ (by omega) (by rw [List.length_map]; omega)]
    have eR : R = (p0 ++ flS W s1 ++ flS W s2 ++ flS W s3) ++ ([m.head, m.place, (m.queue.length : Int)] ++ (m.queue ++ List.replicate n 0)) := by rw [r.row]; simp only [List.append_assoc]
    have lQ : (p0 ++ flS W s1 ++ flS W s2 ++ flS W s3).length = W + 3 * (W + 1) := by
      simp only [List.length_append, r.lp, r.l1, r.l2, r.l3]; omega
    have eC : ((R.map Z.int).drop (W + 3 * (W + 1))).take (W + 3 * (W + 1) + 3 - (W + 3 * (W + 1))) = [.int m.head, .int m.place, .int (m.queue.length : Int)] := by
      rw [eR, ← lQ, ← List.map_drop, ← List.map_take, List.drop_left]
      rw [Nat.add_sub_cancel_left]
      rfl
    rw [eC]
    (walk_at "zs"; repeat (simp only [get_new]; walk_at "zs"))
    have p6 : Pre h (h' ++ [Ob.lst [.int m.head, .int m.place, .int (m.queue.length : Int)]]) := p.trans .app
    have eP6 : (h' ++ [Ob.lst [.int m.head, .int m.place, .int (m.queue.length : Int)]])[P]? = some (.lst (m.pres.map Z.int)) := get_app eP
    have eS6 : (h' ++ [Ob.lst [.int m.head, .int m.place, .int (m.queue.length : Int)]])[S]? = some (.lst zs) := get_app eS
    have sat6 : SlotsAt (h' ++ [Ob.lst [.int m.head, .int m.place, .int (m.queue.length : Int)]]) zs m.slots := sat.pre .app
    generalize h' ++ [Ob.lst [.int m.head, .int m.place, .int (m.queue.length : Int)]] = h2 at p6 eP6 eS6 sat6
    unfold m_read_numbers_6 m_read_numbers_7
    walk_at "zs"
    rw [show ((W + 3 * (W + 1) : Nat) : Int) + 3 + (m.queue.length : Int) = ((W + 3 * (W + 1) + 3 + m.queue.length : Nat) : Int) by omega]
    have hq : decide (L.S < (m.queue.length : Int)) = false := by
      have := r.qS
      simp; omega
    (walk_at "zs"; repeat (simp only [(l.pre p6).S, hq]; walk_at "zs"))
    rw [zSlc_lst (p6.get e), cutZ_drop]
    have lQ2 : (p0 ++ flS W s1 ++ flS W s2 ++ flS W s3 ++ [m.head, m.place, (m.queue.length : Int)]).length = W + 3 * (W + 1) + 3 := by
      rw [List.length_append, lQ]; rfl
    have eD : (R.map Z.int).drop (W + 3 * (W + 1) + 3 + m.queue.length) = (List.replicate n (0 : Int)).map Z.int := by
      rw [← List.map_drop]
      congr 1
      rw [r.row]
      have : W + 3 * (W + 1) + 3 + m.queue.length = (p0 ++ flS W s1 ++ flS W s2 ++ flS W s3 ++ [m.head, m.place, (m.queue.length : Int)] ++ m.queue).length := by rw [List.length_append, lQ2]
      rw [this, List.drop_left]
    rw [eD]
    walk_at "zs"
    have eM : zMaxD (.ob h2.length) (.int 0) (h2 ++ [Ob.lst ((List.replicate n (0 : Int)).map Z.int)]) = .ok (.int 0) (h2 ++ [Ob.lst ((List.replicate n (0 : Int)).map Z.int)]) := by
      simp only [zMaxD, seqZ, get_new, intsOf_map]
      cases n with
      | zero => rfl
      | succ n => simp only [List.replicate_succ, foldl_zero]
    (walk_at "zs"; repeat (simp only [eM, Int.reduceLT]; walk_at "zs"))
    have p7 : Pre h2 (h2 ++ [Ob.lst ((List.replicate n (0 : Int)).map Z.int)]) := .app
    generalize h2 ++ [Ob.lst ((List.replicate n (0 : Int)).map Z.int)] = h3 at p7
    unfold m_read_numbers_8
    walk_at "zs"
    rw [show ((W + 3 * (W + 1) : Nat) : Int) + 3 = ((W + 3 * (W + 1) + 3 : Nat) : Int) by omega]
    rw [zSlc_lst ((p6.trans p7).get e), cutZ_mid _ _ _ (by omega) (by rw [List.length_map]; omega)]
    have eQ : ((R.map Z.int).drop (W + 3 * (W + 1) + 3)).take (W + 3 * (W + 1) + 3 + m.queue.length - (W + 3 * (W + 1) + 3)) = m.queue.map Z.int := by
      rw [← List.map_drop, ← List.map_take]
      congr 1
      rw [r.row, List.append_assoc, ← lQ2, List.drop_left, Nat.add_sub_cancel_left, List.take_left]
    rw [eQ]
    walk_at "zs"
    exact ⟨P, S, _, zs, rfl, (p7.trans .app).get eP6, (p7.trans .app).get eS6, sat6.pre (p7.trans .app), get_new, p6.trans (p7.trans .app)⟩
end K88
namespace K88
open PySem PySem.Spec PyProof.Rows L2 Zm
local macro_rules | `(tactic| walk_at "zs") => `(tactic| try simp only [runD_Ok, r_dE_var, r_dE_lit, r_dE_glb, r_dE_bin, r_dE_neg, r_dE_cmp, r_dE_cmp2, r_dE_and, r_dE_or, r_dE_not, r_dE_ite, r_dE_tup, r_dE_lst, r_dE_dct0, r_dE_idx, r_dE_slc, r_dE_fld, r_dE_call, r_dE_mk, r_dE_mth, r_dE_mkd, r_dE_dcomp, r_dE_maxd, r_dI_enum, r_dG_flds, r_dFlds_nil, r_dFlds_cons, r_dS_gfor, r_dS_try, r_dY_fn, r_dY_mth, r_dE_bf, r_dE_bm, r_dE_isT, r_dE_comp, r_dX_tr, r_dX_and, r_dX_or, r_dX_not, r_dEs_nil, r_dEs_cons, r_dP_no, r_dP_some, r_dC_no, r_dC_some, r_dI_seq, r_dI_rng1, r_dI_rng2, r_dI_rrng1, r_dG_nm, r_dG_tup, r_dG_sub, r_dG_fld, r_dS_asg, r_dS_aug, r_dS_expr, r_dS_ret, r_dS_retN, r_dS_ite, r_dS_while, r_dS_for, r_dS_pass, r_dS_brk, r_dS_cont, r_dS_never, r_dSs_nil, r_dSs_cons, tgt, zBin, zCmp, Res.bind_ok, Ok_ok, Ok_bind, Ok_guard, List.length_cons, List.length_nil, List.map_cons, List.map_nil, List.replicate, List.nil_append, List.cons_append, List.getElem?_cons_zero, List.getElem?_cons_succ, List.set_cons_zero, List.set_cons_succ, Nat.reduceSub, Nat.reduceAdd, zAdd_int, zSub_int, zAddI_int, zMul_int, zDiv_int, zMod_int, zPow_int, zNeg_int, zLt_int, zLe_int, zGt_int, zGe_int, zEq_int, zNe_int, zIs_non, zIsNot_non, zTru_bl, zTru_int, zTru_non, zTru_tup, atI_0, atI_1, atI_2, atI_3, oRes_some, zIdx_tup, zBF_int, zBF_len_tup, zBF_list_tup, zBF_min, newL_eq, if_true, if_false, Bool.false_eq_true, reduceIte, zIsN, Bool.not_true, Bool.not_false, beq_self_eq_true, bne_self_eq_false, Int.reduceBNe, Int.reduceEq, decide_true, decide_false, true_and, and_true, if_true, if_false, List.isEmpty_cons, List.isEmpty_nil, setAll, List.all_cons, List.all_nil, flatZ, wipeZ, line_0, line_1, line_2, line_3, line_4, line_5, line_6, line_7, line_8, line_9])

structure DevE (h : Mh) (d : Nat) (fs : List (Nat × Z)) (la se wa : Nat) (L : Lay) (bs ws : List Z) : Prop where
  ins : h[d]? = some (.ins c_Device fs)
  lay : LayAt h la L
  seen : h[se]? = some (.lst bs)
  wait : h[wa]? = some (.lst ws)
  ne : se ≠ wa
  f1 : lookF fs a_layout = some (.ob la)
  f2 : lookF fs a_seen = some (.ob se)
  f3 : lookF fs a_waiting = some (.ob wa)
  f4 : lookF fs a_fuse = some .non
  f5 : lookF fs a_dark = some (.bl false)
  n1 : lookF fs a_read = none
  n2 : lookF fs a_write = none
  n3 : lookF fs a__count_command = none
  n4 : lookF fs a_written_blocks = none
section
variable {h h' : Mh} {d : Nat} {fs : List (Nat × Z)} {la se wa : Nat} {L : Lay} {bs ws : List Z}
theorem DevE.pre (g : DevE h d fs la se wa L bs ws) (p : Pre h h') : DevE h' d fs la se wa L bs ws :=
  ⟨p.get g.ins, g.lay.pre p, p.get g.seen, p.get g.wait, g.ne, g.f1, g.f2, g.f3, g.f4, g.f5, g.n1, g.n2, g.n3, g.n4⟩
theorem DevE.zlay (g : DevE h d fs la se wa L bs ws) : zFld (.ob d) a_layout h = .ok (.ob la) h := by rw [zFld_ins g.ins, g.f1]; rfl
theorem DevE.zseen (g : DevE h d fs la se wa L bs ws) : zFld (.ob d) a_seen h = .ok (.ob se) h := by rw [zFld_ins g.ins, g.f2]; rfl
theorem DevE.zwait (g : DevE h d fs la se wa L bs ws) : zFld (.ob d) a_waiting h = .ok (.ob wa) h := by rw [zFld_ins g.ins, g.f3]; rfl
theorem DevE.zfuse (g : DevE h d fs la se wa L bs ws) : zFld (.ob d) a_fuse h = .ok .non h := by rw [zFld_ins g.ins, g.f4]; rfl
theorem DevE.zdark (g : DevE h d fs la se wa L bs ws) : zFld (.ob d) a_dark h = .ok (.bl false) h := by rw [zFld_ins g.ins, g.f5]; rfl
end
theorem mul_non {h : Mh} {a : Nat} {z : Z} {n : Nat} (e : h[a]? = some (.lst [z])) (hn : n < 16777216) : zMul (.ob a) (.int (n : Int)) h = .ok (.ob h.length) (h ++ [.lst (List.replicate n z)]) := by
  simp only [zMul, e]
  rw [guard_pos ⟨by omega, by omega, le_line (by simp; omega)⟩]
  have : (List.replicate n [z]).flatten = List.replicate n z := by
    induction n with
    | zero => rfl
    | succ n ih => simp [List.replicate_succ]
  simp only [newL, Int.toNat_natCast, this]
theorem zBF_list_lst {h : Mh} {a : Nat} {zs : List Z} (e : h[a]? = some (.lst zs)) : zBF .list [.ob a] h = .ok (.ob h.length) (h ++ [.lst zs]) := by
  simp only [zBF, seqZ, e]
  rfl
/-- what is left of an object that is being made -/
theorem device_init (k A la : Nat) (L : Lay) (h : Mh) (e : h[A]? = some (.ins c_Device [])) (l : LayAt h la L) (o : LOk L) (hA : h.length = A + 1) :
    Ok (prg.C (k + 1) f_Device_init [.ob A, .ob la, .non] h) fun z h' => z = .non ∧ ∃ fs se wa, DevE h' A fs la se wa L (List.replicate L.dev.toNat .non) [] ∧ (∀ a u, a ≠ A → h[a]? = some u → h'[a]? = some u) ∧ h.length ≤ h'.length ∧ A < se ∧ A < wa := by
  have rg := o.rng
  have hal : A ≠ la := by
    rintro rfl
    obtain ⟨fs, e2, _⟩ := l
    rw [e] at e2
    cases e2
  rw [prg.call (b := m_Device_init) rfl h rfl]
  unfold m_Device_init
  (walk_at "zs"; repeat (simp only [(l.pre (Pre.app (l := [Ob.lst [.non]]))).dev]; walk_at "zs"))
  have hd : L.dev = ((L.dev.toNat : Nat) : Int) := by omega
  rw [hd, mul_non (get_new) (by omega)]
  walk_at "zs"
  have p2 : Pre h ((h ++ [Ob.lst [.non]]) ++ [Ob.lst (List.replicate L.dev.toNat .non)]) := .trans .app .app
  have e2 := p2.get e
  have eb : ((h ++ [Ob.lst [.non]]) ++ [Ob.lst (List.replicate L.dev.toNat .non)])[(h ++ [Ob.lst [.non]]).length]? = some (.lst (List.replicate L.dev.toNat .non)) := get_new
  have hb : A ≠ (h ++ [Ob.lst [.non]]).length := by simp; omega
  have hb2 : (h ++ [Ob.lst [.non]]).length < ((h ++ [Ob.lst [.non]]) ++ [Ob.lst (List.replicate L.dev.toNat .non)]).length := by simp
  generalize (h ++ [Ob.lst [.non]]).length = B at eb hb hb2
  generalize (h ++ [Ob.lst [.non]]) ++ [Ob.lst (List.replicate L.dev.toNat .non)] = H at p2 e2 eb hb2
  have hAH := lt_of_get e2
  unfold m_Device_init_1 m_Device_init_2
  (walk_at "zs"; repeat (simp only [setF_ins e2, setF_set e2, fld_set e2, putF', lookF, Nat.reduceEqDiff, Nat.reduceLT, List.length_cons, List.length_nil, Nat.reduceAdd, Int.reduceSub, Int.reduceAdd, Int.reduceMul, Int.reduceLT, Int.reduceLE, Int.reduceGT, Int.reduceDiv, fl_0_8, fl_0_7, fl_0_6, fl_0_3, fl_0_5, fl_0_2, fl_0_4, fl_0_0, fl_0_1, fl_1_15, fl_1_14, fl_1_13, fl_1_12, fl_1_11, fl_1_10, fl_1_9, fl_2_25, fl_2_23, fl_2_24, fl_2_22, fl_2_21, fl_2_20, fl_2_19, fl_2_18, fl_2_17, fl_2_16, fl_3_23, fl_3_33, fl_3_32, fl_3_31, fl_3_30, fl_3_29]; walk_at "zs"))
  have eb2 : ∀ u, (H.set A u)[B]? = some (.lst (List.replicate L.dev.toNat .non)) := fun u => by rw [get_set_ne hb]; exact eb
  rw [zBF_list_lst (eb2 _)]
  have sa : ∀ (u : Ob) (l : Mh), (H.set A u ++ l).set A = fun v => H.set A v ++ l := fun u l => by funext v; rw [set_app (by simpa using hAH), List.set_set]
  have ge : ∀ (u : Ob) (l : Mh), (H.set A u ++ l)[A]? = some u := fun u l => get_app (get_set e2)
  have sf : ∀ (fs : List (Nat × Z)) (l : Mh) (f : Nat) (z : Z), prg.gt.fl c_Device f = true → fs.length < 1000 → zSetF prg.gt.fl (.ob A) f z (H.set A (.ins c_Device fs) ++ l) = .ok () (H.set A (.ins c_Device (putF' f z fs)) ++ l) := fun fs l f z h1 h2 => by
    rw [setF_ins (ge _ _) h1 h2, sa]
  (walk_at "zs"; repeat (simp only [sf, putF', lookF, Nat.reduceEqDiff, Nat.reduceLT, List.length_cons, List.length_nil, Nat.reduceAdd, Int.reduceSub, Int.reduceAdd, Int.reduceMul, Int.reduceLT, Int.reduceLE, Int.reduceGT, Int.reduceDiv, fl_0_8, fl_0_7, fl_0_6, fl_0_3, fl_0_5, fl_0_2, fl_0_4, fl_0_0, fl_0_1, fl_1_15, fl_1_14, fl_1_13, fl_1_12, fl_1_11, fl_1_10, fl_1_9, fl_2_25, fl_2_23, fl_2_24, fl_2_22, fl_2_21, fl_2_20, fl_2_19, fl_2_18, fl_2_17, fl_2_16, fl_3_23, fl_3_33, fl_3_32, fl_3_31, fl_3_30, fl_3_29]; walk_at "zs"))
  unfold m_Device_init_3
  walk_at "zs"
  rw [zBF_list_lst (get_app (eb2 _))]
  (walk_at "zs"; repeat (simp only [sf, putF', lookF, Nat.reduceEqDiff, Nat.reduceLT, List.length_cons, List.length_nil, Nat.reduceAdd, Int.reduceSub, Int.reduceAdd, Int.reduceMul, Int.reduceLT, Int.reduceLE, Int.reduceGT, Int.reduceDiv, fl_0_8, fl_0_7, fl_0_6, fl_0_3, fl_0_5, fl_0_2, fl_0_4, fl_0_0, fl_0_1, fl_1_15, fl_1_14, fl_1_13, fl_1_12, fl_1_11, fl_1_10, fl_1_9, fl_2_25, fl_2_23, fl_2_24, fl_2_22, fl_2_21, fl_2_20, fl_2_19, fl_2_18, fl_2_17, fl_2_16, fl_3_23, fl_3_33, fl_3_32, fl_3_31, fl_3_30, fl_3_29]; walk_at "zs"))
  rw [List.append_assoc]
  unfold m_Device_init_4
  (walk_at "zs"; repeat (simp only [sf, putF', lookF, Nat.reduceEqDiff, Nat.reduceLT, List.length_cons, List.length_nil, Nat.reduceAdd, Int.reduceSub, Int.reduceAdd, Int.reduceMul, Int.reduceLT, Int.reduceLE, Int.reduceGT, Int.reduceDiv, fl_0_8, fl_0_7, fl_0_6, fl_0_3, fl_0_5, fl_0_2, fl_0_4, fl_0_0, fl_0_1, fl_1_15, fl_1_14, fl_1_13, fl_1_12, fl_1_11, fl_1_10, fl_1_9, fl_2_25, fl_2_23, fl_2_24, fl_2_22, fl_2_21, fl_2_20, fl_2_19, fl_2_18, fl_2_17, fl_2_16, fl_3_23, fl_3_33, fl_3_32, fl_3_31, fl_3_30, fl_3_29]; walk_at "zs"))
  rw [List.append_assoc]
  unfold m_Device_init_5 m_Device_init_6
  (walk_at "zs"; repeat (simp only [sf, putF', lookF, Nat.reduceEqDiff, Nat.reduceLT, List.length_cons, List.length_nil, Nat.reduceAdd, Int.reduceSub, Int.reduceAdd, Int.reduceMul, Int.reduceLT, Int.reduceLE, Int.reduceGT, Int.reduceDiv, fl_0_8, fl_0_7, fl_0_6, fl_0_3, fl_0_5, fl_0_2, fl_0_4, fl_0_0, fl_0_1, fl_1_15, fl_1_14, fl_1_13, fl_1_12, fl_1_11, fl_1_10, fl_1_9, fl_2_25, fl_2_23, fl_2_24, fl_2_22, fl_2_21, fl_2_20, fl_2_19, fl_2_18, fl_2_17, fl_2_16, fl_3_23, fl_3_33, fl_3_32, fl_3_31, fl_3_30, fl_3_29]; walk_at "zs"))
  refine ⟨_, _, _, ⟨ge _ _, ?_, ?_, ?_, ?_, rfl, rfl, rfl, rfl, rfl, rfl, rfl, rfl, rfl⟩, ?_, ?_, ?_, ?_⟩
  · obtain ⟨fs, q, r⟩ := l
    exact ⟨fs, get_app (by rw [get_set_ne hal]; exact p2.get q), r⟩
  · rw [List.length_append, List.length_set, List.getElem?_append_right (by simp)]
    simp <;> omega
  · rw [List.length_append, List.length_set, List.getElem?_append_right (by simp)]
    simp <;> omega
  · simp
  · intro a u ha hu
    exact get_app (by rw [get_set_ne (fun q => ha q.symm)]; exact p2.get hu)
  · have := p2.len
    simp
    omega
  · simp
    omega
  · simp
    omega
def rdZ (bs : List Z) (x : Int) : Z := if x < 0 then .non else (bs[x.toNat]?).getD .non
theorem device_read (k d : Nat) (fs : List (Nat × Z)) (la se wa : Nat) (L : Lay) (bs ws : List Z) (x : Int) (h : Mh) (g : DevE h d fs la se wa L bs ws) :
    Ok (prg.C (k + 1) f_Device_read [.ob d, .int x] h) fun z h' => z = rdZ bs x ∧ h' = h := by
  rw [prg.call (b := m_Device_read) rfl h rfl]
  unfold m_Device_read m_Device_read_1
  walk_at "zs"
  by_cases h1 : x < 0
  · have q : rdZ bs x = .non := by simp [rdZ, h1]
    (walk_at "zs"; repeat (simp only [h1, q]; walk_at "zs"))
    all_goals exact ⟨rfl, rfl⟩
  · (walk_at "zs"; repeat (simp only [h1, g.zseen, zBF_len_lst g.seen]; walk_at "zs"))
    by_cases h2 : (bs.length : Int) ≤ x
    · have q : rdZ bs x = .non := by
        unfold rdZ
        rw [if_neg h1, List.getElem?_eq_none (by omega)]
        rfl
      (walk_at "zs"; repeat (simp only [h2, q]; walk_at "zs"))
      all_goals exact ⟨rfl, rfl⟩
    · (walk_at "zs"; repeat (simp only [h2, g.zseen]; walk_at "zs"))
      have hx : x.toNat < bs.length := by omega
      rw [zIdx_lst g.seen, atI_get (by omega) (List.getElem?_eq_getElem hx)]
      have q : rdZ bs x = bs[x.toNat] := by
        unfold rdZ
        rw [if_neg h1, List.getElem?_eq_getElem hx]
        rfl
      (walk_at "zs"; repeat (simp only [q]; walk_at "zs"))
      all_goals exact ⟨rfl, rfl⟩
theorem device_write (k d : Nat) (fs : List (Nat × Z)) (la se wa : Nat) (L : Lay) (bs ws : List Z) (x : Nat) (z : Z) (h : Mh) (g : DevE h d fs la se wa L bs ws) (hx : x < bs.length) (hw : ws.length < 10000) :
    Ok (prg.C (k + 2) f_Device_write [.ob d, .int x, z] h) fun z1 h' => z1 = .non ∧ ∃ w', DevE h' d fs la se wa L (bs.set x z) (ws ++ [w']) ∧ Chg [se, wa] h h' := by
  rw [prg.call (b := m_Device_write) rfl h rfl]
  unfold m_Device_write
  (walk_at "zs"; repeat (simp only [g.ins, g.n3]; walk_at "zs"))
  have hc : Ok (prg.C (k + 1) f_Device_count_command [.ob d] h) fun z h' => z = .non ∧ h' = h := by
    rw [prg.call (b := m_Device_count_command) rfl h rfl]
    unfold m_Device_count_command
    (walk_at "zs"; repeat (simp only [g.zfuse]; walk_at "zs"))
  refine hc.mono ?_
  rintro z1 h' ⟨rfl, rfl⟩
  unfold m_Device_write_1
  (walk_at "zs"; repeat (simp only [g.zseen]; walk_at "zs"))
  rw [zSet_lst g.seen (j := x) (by rw [ixN_get (by omega) (by omega)]; simp)]
  unfold m_Device_write_2
  walk_at "zs"
  have hde : se ≠ d := by
    rintro rfl
    have := g.ins
    rw [g.seen] at this
    cases this
  have hdw : wa ≠ d := by
    rintro rfl
    have := g.ins
    rw [g.wait] at this
    cases this
  have hl : ∀ {a : Nat} {u : List Z}, h'[a]? = some (.lst u) → a ≠ la := by
    rintro a u q rfl
    obtain ⟨fs, q2, _⟩ := g.lay
    rw [q] at q2
    cases q2
  have g2 : DevE (h'.set se (.lst (bs.set x z))) d fs la se wa L (bs.set x z) ws := by
    refine ⟨by rw [get_set_ne hde]; exact g.ins, ?_, get_set g.seen, by rw [get_set_ne g.ne]; exact g.wait, g.ne, g.f1, g.f2, g.f3, g.f4, g.f5, g.n1, g.n2, g.n3, g.n4⟩
    obtain ⟨fs, q, r⟩ := g.lay
    exact ⟨fs, by rw [get_set_ne (hl g.seen)]; exact q, r⟩
  (walk_at "zs"; repeat (simp only [g2.zdark, g2.zwait]; walk_at "zs"))
  rw [zBM_append g2.wait (lt_line (by omega))]
  have ba := bmOk_append g2.wait
  (walk_at "zs"; repeat (simp only [ba]; walk_at "zs"))
  refine ⟨_, ⟨by rw [get_set_ne hdw]; exact g2.ins, ?_, by rw [get_set_ne (fun q => g.ne q.symm)]; exact g2.seen, get_set g2.wait, g.ne, g.f1, g.f2, g.f3, g.f4, g.f5, g.n1, g.n2, g.n3, g.n4⟩, Chg.trans (.set (.inl (by simp))) (.set (.inl (by simp)))⟩
  obtain ⟨fs, q, r⟩ := g2.lay
  exact ⟨fs, by rw [get_set_ne (hl g.wait)]; exact q, r⟩
end K88
namespace K88
open PySem PySem.Spec PyProof.Rows L2 Zm
local macro_rules | `(tactic| walk_at "zs") => `(tactic| try simp only [runD_Ok, r_dE_var, r_dE_lit, r_dE_glb, r_dE_bin, r_dE_neg, r_dE_cmp, r_dE_cmp2, r_dE_and, r_dE_or, r_dE_not, r_dE_ite, r_dE_tup, r_dE_lst, r_dE_dct0, r_dE_idx, r_dE_slc, r_dE_fld, r_dE_call, r_dE_mk, r_dE_mth, r_dE_mkd, r_dE_dcomp, r_dE_maxd, r_dI_enum, r_dG_flds, r_dFlds_nil, r_dFlds_cons, r_dS_gfor, r_dS_try, r_dY_fn, r_dY_mth, r_dE_bf, r_dE_bm, r_dE_isT, r_dE_comp, r_dX_tr, r_dX_and, r_dX_or, r_dX_not, r_dEs_nil, r_dEs_cons, r_dP_no, r_dP_some, r_dC_no, r_dC_some, r_dI_seq, r_dI_rng1, r_dI_rng2, r_dI_rrng1, r_dG_nm, r_dG_tup, r_dG_sub, r_dG_fld, r_dS_asg, r_dS_aug, r_dS_expr, r_dS_ret, r_dS_retN, r_dS_ite, r_dS_while, r_dS_for, r_dS_pass, r_dS_brk, r_dS_cont, r_dS_never, r_dSs_nil, r_dSs_cons, tgt, zBin, zCmp, Res.bind_ok, Ok_ok, Ok_bind, Ok_guard, List.length_cons, List.length_nil, List.map_cons, List.map_nil, List.replicate, List.nil_append, List.cons_append, List.getElem?_cons_zero, List.getElem?_cons_succ, List.set_cons_zero, List.set_cons_succ, Nat.reduceSub, Nat.reduceAdd, zAdd_int, zSub_int, zAddI_int, zMul_int, zDiv_int, zMod_int, zPow_int, zNeg_int, zLt_int, zLe_int, zGt_int, zGe_int, zEq_int, zNe_int, zIs_non, zIsNot_non, zTru_bl, zTru_int, zTru_non, zTru_tup, atI_0, atI_1, atI_2, atI_3, oRes_some, zIdx_tup, zBF_int, zBF_len_tup, zBF_list_tup, zBF_min, newL_eq, if_true, if_false, Bool.false_eq_true, reduceIte, zIsN, Bool.not_true, Bool.not_false, beq_self_eq_true, bne_self_eq_false, Int.reduceBNe, Int.reduceEq, decide_true, decide_false, true_and, and_true, if_true, if_false, List.isEmpty_cons, List.isEmpty_nil, setAll, List.all_cons, List.all_nil, flatZ, wipeZ, line_0, line_1, line_2, line_3, line_4, line_5, line_6, line_7, line_8, line_9])

/-! ### generators, run -/
theorem gForL_inv {st : Mh → Prop} {t : Z → Ev → Mh → Res Ev} {b : DG} {Q : Ev × Nat × Fl → Mh → Prop} (I : List Z → Ev → Nat → Ev → Mh → Prop) {zs : List Z} {τ : Ev} {m : Nat} {ρ : Ev} {h : Mh} (h0 : I [] τ m ρ h) (hst : ∀ d τ m ρ h, I d τ m ρ h → st h)
    (step : ∀ d z r τ m ρ h, zs = d ++ z :: r → I d τ m ρ h → Ok (t z ρ h) fun ρ h => Ok (b τ m ρ h) fun r h => match r.2.2 with
      | .nx ρ => I (d ++ [z]) r.1 r.2.1 ρ h
      | .cont ρ => I (d ++ [z]) r.1 r.2.1 ρ h
      | .brk ρ => Q (r.1, r.2.1, .nx ρ) h
      | .ret z => Q (r.1, r.2.1, .ret z) h)
    (fin : ∀ τ m ρ h, I zs τ m ρ h → Q (τ, m, .nx ρ) h) : Ok (gForL st t b zs τ m ρ h) Q := by
  have key : ∀ (r d : List Z) (τ : Ev) (m : Nat) (ρ : Ev) (h : Mh), zs = d ++ r → I d τ m ρ h → Ok (gForL st t b r τ m ρ h) Q := by
    intro r
    induction r with
    | nil =>
      intro d τ m ρ h e i
      rw [gForL, Ok_guard, Ok_ok]
      rw [List.append_nil] at e
      rw [← e] at i
      exact ⟨hst _ _ _ _ _ i, fin _ _ _ _ i⟩
    | cons z r ih =>
      intro d τ m ρ h e i
      rw [gForL, Ok_guard, Ok_bind]
      refine ⟨hst _ _ _ _ _ i, (step d z r τ m ρ h e i).mono fun ρ1 h1 q1 => ?_⟩
      rw [Ok_bind]
      refine q1.mono fun x h2 q2 => ?_
      obtain ⟨a, c, fl⟩ := x
      cases fl with
      | nx ρ2 => exact ih (d ++ [z]) _ _ _ _ (by simp [e]) q2
      | cont ρ2 => exact ih (d ++ [z]) _ _ _ _ (by simp [e]) q2
      | brk ρ2 => exact q2
      | ret z => exact q2
  exact key zs [] τ m ρ h rfl h0
theorem Prg.gcall {p : Prg} {k f m n : Nat} {b : MGSs} {zs : List Z} (e : p.code.gen f = some ⟨m, n, b⟩) (h : Mh) (hl : zs.length = m) (Y : Ev → Z → Mh → Res Ev) (τ : Ev) : (p.C (k + 1)).gen f zs Y τ h = genOf (fun Y => dGSs (p.C k) p.gt.fl Y b) n zs Y τ h := by
  show (match p.code.gen f with
      | some d => guard (zs.length = d.ps) (genOf (fun Y => dGSs (callK p.gt.fl p.code k) p.gt.fl Y d.body) d.n zs Y τ h)
      | none => .stuck) = _
  rw [e]
  exact guard_pos hl
/-- the blocks that a device holds, one by one -/
theorem written_blocks (k d : Nat) (fs : List (Nat × Z)) (la se wa : Nat) (L : Lay) (bs ws : List Z) (h : Mh) (g : DevE h d fs la se wa L bs ws) (hb : bs.length < 10000) (Y : Ev → Z → Mh → Res Ev) (τ : Ev) (J : Ev → Mh → Prop) (hJ : J τ h) (hd : ∀ τ h', J τ h' → h'[se]? = some (.lst bs))
    (st : ∀ (i : Nat) blk τ h, bs[i]? = some blk → zIsN blk = false → J τ h → Ok (Y τ (.tup [.int i, blk]) h) J) :
    Ok ((prg.C (k + 1)).gen g_Device_written_blocks [.ob d] Y τ h) J := by
  rw [Prg.gcall (b := m_Device_written_blocks) rfl h rfl]
  unfold genOf m_Device_written_blocks
  simp only [dGSs, dGS, dSeq, dFor]
  rw [Ok_bind, Ok_bind, Ok_bind]
  (walk_at "zs"; repeat (simp only [g.zseen, wkEnum, g.seen]; walk_at "zs"))
  refine gForL_inv (fun d' τ m ρ h' => J τ h' ∧ m ≤ d'.length ∧ d'.length ≤ bs.length ∧ ∃ x y, ρ = [some (.ob d), x, y]) ⟨hJ, Nat.le_refl _, Nat.zero_le _, _, _, rfl⟩ (fun _ _ _ _ _ i => hd _ _ i.1) ?_ ?_
  · rintro d' z r τ m ρ h' ez ⟨j, hm, hl, x, y, rfl⟩
    have hlen := congrArg List.length ez
    simp at hlen
    have hz : ∃ blk, bs[d'.length]? = some blk ∧ z = .tup [.int (d'.length : Nat), blk] := by
      have := congrArg (fun l => l[d'.length]?) ez
      have hlt : d'.length < bs.length := by omega
      simp [hlt] at this
      exact ⟨_, List.getElem?_eq_getElem hlt, this.symm⟩
    obtain ⟨blk, eb, rfl⟩ := hz
    walk_at "zs"
    unfold m_Device_written_blocks_0b0
    simp only [dGSs, dGS, dSeq, dIte]
    rw [Ok_bind, Ok_bind]
    have hnn : zIsN blk = true → blk = .non := by cases blk <;> simp [zIsN]
    cases hn : zIsN blk with
    | true =>
      obtain rfl := hnn hn
      (walk_at "zs"; repeat (simp only [dGSs, dNil]; walk_at "zs"))
      exact ⟨j, by simp; omega, by simp; omega, _, _, rfl⟩
    | false =>
      have S := st _ _ τ h' eb hn j
      unfold m_Device_written_blocks_0b0b0
      cases blk <;> first | (exact absurd hn (by decide)) | (
        (walk_at "zs"; repeat (simp only [dGSs, dGS, dSeq, dYld, dNil]; walk_at "zs"))
        refine ⟨lt_line (by omega), S.mono fun τ2 h2 j2 => ?_⟩
        walk_at "zs"
        exact ⟨j2, by simp; omega, by simp; omega, _, _, rfl⟩)
  · rintro τ m ρ h' ⟨j, _, _, x, y, rfl⟩
    (walk_at "zs"; repeat (simp only [dGSs, dNil, flEnds]; walk_at "zs"))
    exact j
end K88
namespace K88
open PySem PySem.Spec PyProof.Rows L2 Zm
local macro_rules | `(tactic| walk_at "zs") => `(tactic| try simp only [runD_Ok, r_dE_var, r_dE_lit, r_dE_glb, r_dE_bin, r_dE_neg, r_dE_cmp, r_dE_cmp2, r_dE_and, r_dE_or, r_dE_not, r_dE_ite, r_dE_tup, r_dE_lst, r_dE_dct0, r_dE_idx, r_dE_slc, r_dE_fld, r_dE_call, r_dE_mk, r_dE_mth, r_dE_mkd, r_dE_dcomp, r_dE_maxd, r_dI_enum, r_dG_flds, r_dFlds_nil, r_dFlds_cons, r_dS_gfor, r_dS_try, r_dY_fn, r_dY_mth, r_dE_bf, r_dE_bm, r_dE_isT, r_dE_comp, r_dX_tr, r_dX_and, r_dX_or, r_dX_not, r_dEs_nil, r_dEs_cons, r_dP_no, r_dP_some, r_dC_no, r_dC_some, r_dI_seq, r_dI_rng1, r_dI_rng2, r_dI_rrng1, r_dG_nm, r_dG_tup, r_dG_sub, r_dG_fld, r_dS_asg, r_dS_aug, r_dS_expr, r_dS_ret, r_dS_retN, r_dS_ite, r_dS_while, r_dS_for, r_dS_pass, r_dS_brk, r_dS_cont, r_dS_never, r_dSs_nil, r_dSs_cons, tgt, zBin, zCmp, Res.bind_ok, Ok_ok, Ok_bind, Ok_guard, List.length_cons, List.length_nil, List.map_cons, List.map_nil, List.replicate, List.nil_append, List.cons_append, List.getElem?_cons_zero, List.getElem?_cons_succ, List.set_cons_zero, List.set_cons_succ, Nat.reduceSub, Nat.reduceAdd, zAdd_int, zSub_int, zAddI_int, zMul_int, zDiv_int, zMod_int, zPow_int, zNeg_int, zLt_int, zLe_int, zGt_int, zGe_int, zEq_int, zNe_int, zIs_non, zIsNot_non, zTru_bl, zTru_int, zTru_non, zTru_tup, atI_0, atI_1, atI_2, atI_3, oRes_some, zIdx_tup, zBF_int, zBF_len_tup, zBF_list_tup, zBF_min, newL_eq, if_true, if_false, Bool.false_eq_true, reduceIte, zIsN, Bool.not_true, Bool.not_false, beq_self_eq_true, bne_self_eq_false, Int.reduceBNe, Int.reduceEq, decide_true, decide_false, true_and, and_true, if_true, if_false, List.isEmpty_cons, List.isEmpty_nil, setAll, List.all_cons, List.all_nil, flatZ, wipeZ, line_0, line_1, line_2, line_3, line_4, line_5, line_6, line_7, line_8, line_9])

/-- the blocks of a device with a row in its first region, and what lies behind -/
structure RecOk (L : Lay) (bs : List Z) (R : List Int) (rb : Nat) (m : LogM) : Prop where
  hrb : L.rb = (rb : Int)
  part : ∀ i, i < rb → bs[i]? = some (.tup [.int 5, .int 9, .int (i : Nat), .tup (((R.drop (32 * i)).take 32).map Z.int)])
  len : R.length = 32 * rb
  next : rdZ bs L.rb = .non
  shape : ∀ (i : Nat) blk, bs[i]? = some blk → zIsN blk = false → ∃ x v r, blk = .tup (x :: .int v :: r) ∧ v ≤ 9
  small : bs.length < 10000
  head : 0 ≤ m.head ∧ 0 ≤ m.place ∧ (L.S ≤ m.head ∨ L.B ≤ m.place ∨ rdZ bs (2 * L.rb + m.head * L.B + m.place) = .non)
  queue : ∀ s r, m.queue = s :: r → 0 ≤ s ∧ (L.S ≤ s ∨ rdZ bs (2 * L.rb + s * L.B + 0) = .non)
theorem batch_at (k d : Nat) (fs : List (Nat × Z)) (la se wa : Nat) (L : Lay) (bs ws : List Z) (s p q : Int) (h : Mh) (g : DevE h d fs la se wa L bs ws) (o : LOk L) (hb : L.S ≤ s ∨ L.B ≤ p ∨ rdZ bs (2 * L.rb + s * L.B + p) = .non) :
    Ok (prg.C (k + 2) f_batch_at [.ob d, .int s, .int p, .int q] h) fun z h' => z = .non ∧ h' = h := by
  rw [prg.call (b := m_batch_at) rfl h rfl]
  unfold m_batch_at m_batch_at_1
  (walk_at "zs"; repeat (simp only [g.zlay, g.lay.S]; walk_at "zs"))
  by_cases h1 : L.S ≤ s
  · (walk_at "zs"; repeat (simp only [h1]; walk_at "zs"))
  (walk_at "zs"; repeat (simp only [h1, g.lay.B]; walk_at "zs"))
  by_cases h2 : L.B ≤ p
  · (walk_at "zs"; repeat (simp only [h2]; walk_at "zs"))
  (walk_at "zs"; repeat (simp only [h2]; walk_at "zs"))
  have hb : rdZ bs (2 * L.rb + s * L.B + p) = .non := by
    rcases hb with hb | hb | hb
    · exact absurd hb h1
    · exact absurd hb h2
    · exact hb
  unfold m_batch_at_2
  walk_at "zs"
  refine (address_at k la L s p h g.lay o).mono ?_
  rintro z h' ⟨rfl, rfl⟩
  unfold m_batch_at_3
  (walk_at "zs"; repeat (simp only [g.ins, g.n1]; walk_at "zs"))
  refine (device_read k d fs la se wa L bs ws _ h' g).mono ?_
  rintro z h' ⟨rfl, rfl⟩
  rw [hb]
  unfold m_batch_at_4
  walk_at "zs"
  all_goals exact ⟨rfl, rfl⟩
theorem take_next (k a : Nat) (fs : List (Nat × Z)) (la pr sl qu : Nat) (zs : List Z) (d : Nat) (df : List (Nat × Z)) (se wa : Nat) (L : Lay) (bs ws : List Z) (m : LogM) (R : List Int) (rb : Nat) (q : Int) (h : Mh) (gl : LogE h a fs la pr sl qu zs L m) (g : DevE h d df la se wa L bs ws) (o : LOk L) (hd : lookF fs a_device = some (.ob d)) (r : RecOk L bs R rb m) :
    Ok (prg.C (k + 3) f_take_next [.ob a, .int q] h) fun z h' => z = .bl false ∧ h' = h := by
  have zd : zFld (.ob a) a_device h = .ok (.ob d) h := by rw [zFld_ins gl.ins, hd]; rfl
  rw [prg.call (b := m_take_next) rfl h rfl]
  unfold m_take_next
  (walk_at "zs"; repeat (simp only [zd, gl.zhead, gl.zplace]; walk_at "zs"))
  refine (batch_at k d df la se wa L bs ws m.head m.place q h g o r.head.2.2).mono ?_
  rintro z h' ⟨rfl, rfl⟩
  unfold m_take_next_1 m_take_next_1b0
  (walk_at "zs"; repeat (simp only [gl.zqueue, zBF_len_lst gl.queue]; walk_at "zs"))
  cases hq : m.queue with
  | nil =>
    (walk_at "zs"; repeat (simp only [List.length_nil, List.map_nil]; walk_at "zs"))
    all_goals exact ⟨rfl, rfl⟩
  | cons s rest =>
    have eq : h'[qu]? = some (.lst (Z.int s :: rest.map Z.int)) := by rw [gl.queue, hq]; rfl
    have hne : decide (((List.map Z.int (s :: rest)).length : Int) = 0) = false := by simp; omega
    have hne2 : decide (((rest.length + 1 : Nat) : Int) = 0) = false := by simp; omega
    simp only [List.map_cons, List.length_cons, List.length_map, hne2]
    unfold m_take_next_1b1
    (walk_at "zs"; repeat (simp only [zd, gl.zqueue, zIdx_lst eq]; walk_at "zs"))
    refine (batch_at k d df la se wa L bs ws s 0 q h' g o (by
      rcases (r.queue s rest hq).2 with x | x
      · exact .inl x
      · exact .inr (.inr x))).mono ?_
    rintro z h2 ⟨rfl, rfl⟩
    unfold m_take_next_1b2
    walk_at "zs"
    all_goals exact ⟨rfl, rfl⟩
theorem extT_run {h : Mh} {a : Nat} {xs ys : List Z} (e : h[a]? = some (.lst xs)) (hl : xs.length + ys.length ≤ 16777216) : zBM .extT (.ob a) [.tup ys] h = .ok .non (h.set a (.lst (xs ++ ys))) := by
  simp only [zBM, e]
  exact guard_pos (le_line hl)
theorem bmOk_extT {h : Mh} {a : Nat} {xs : List Z} (e : h[a]? = some (.lst xs)) : bmOk .extT (.ob a) h := ⟨xs, e⟩
theorem checkpoint0 (k d : Nat) (df : List (Nat × Z)) (la se wa : Nat) (L : Lay) (bs ws : List Z) (W : Nat) (m : LogM) (p0 : List Int) (s1 s2 s3 : Option (List Int)) (n : Nat) (R : List Int) (rb : Nat) (h : Mh) (g : DevE h d df la se wa L bs ws) (o : LOk L) (r : RowOk L W m p0 s1 s2 s3 n R) (c : RecOk L bs R rb m) :
    Ok (prg.C (k + 2) f_checkpoint_in [.ob d, .int 0] h) fun z h' => ∃ nb, z = .tup [.int 9, .ob nb] ∧ h'[nb]? = some (.lst (R.map Z.int)) ∧ Pre h h' := by
  have rg := o.rng
  have hrb := c.hrb
  rw [prg.call (b := m_checkpoint_in) rfl h rfl]
  unfold m_checkpoint_in m_checkpoint_in_1
  (walk_at "zs"; repeat (simp only [g.zlay]; walk_at "zs"))
  refine (region_start k la L 0 h g.lay o).mono ?_
  rintro z h' ⟨rfl, rfl⟩
  unfold m_checkpoint_in_2
  (walk_at "zs"; repeat (simp only [g.ins, g.n1]; walk_at "zs"))
  have rd : ∀ i : Nat, i < rb → rdZ bs (0 * L.rb + (i : Int)) = .tup [.int 5, .int 9, .int (i : Nat), .tup (((R.drop (32 * i)).take 32).map Z.int)] := by
    intro i hi
    rw [Int.zero_mul, Int.zero_add]
    unfold rdZ
    rw [if_neg (by omega), Int.toNat_natCast, c.part i hi]
    rfl
  refine (device_read k d df la se wa L bs ws _ h' g).mono ?_
  rintro z h2 ⟨rfl, rfl⟩
  have r0 := rd 0 (by omega)
  simp only [Int.ofNat_eq_natCast, Int.natCast_zero, Int.add_zero] at r0
  rw [show rdZ bs (0 * L.rb) = _ from r0]
  unfold m_checkpoint_in_3 m_checkpoint_in_4
  walk_at "zs"
  have eN : (h2 ++ [Ob.lst []])[h2.length]? = some (.lst []) := get_new
  have p1 : Pre h2 (h2 ++ [Ob.lst []]) := .app
  (walk_at "zs"; repeat (simp only [(g.pre p1).lay.rb]; walk_at "zs"))
  generalize h2 ++ [Ob.lst []] = H at eN p1
  refine for_rng (fun i ρ h' => (∃ x y, ρ = [some (.ob d), some (.int 0), some (.ob la), some (.int (0 * L.rb)), some (.tup [.int 5, .int 9, .int (0 : Nat), .tup (((R.drop (32 * 0)).take 32).map Z.int)]), some (.ob h2.length), x, y]) ∧ Pre h2 h' ∧ h'[h2.length]? = some (.lst ((R.take (32 * i)).map Z.int))) (by omega)
    ⟨⟨_, _, rfl⟩, p1, by simpa using eN⟩ ?_ ?_
  · rintro i ρ h' hi ⟨⟨x, y, rfl⟩, p, e⟩
    have hi2 : i < rb := by omega
    unfold m_checkpoint_in_4b0
    (walk_at "zs"; repeat (simp only [(g.pre p).ins, g.n1]; walk_at "zs"))
    rw [Int.zero_add]
    refine (device_read k d df la se wa L bs ws _ h' (g.pre p)).mono ?_
    rintro z h3 ⟨rfl, rfl⟩
    rw [rd i hi2]
    unfold m_checkpoint_in_4b1 m_checkpoint_in_4b2
    (walk_at "zs"; repeat (simp only [bmOk_extT e]; walk_at "zs"))
    rw [extT_run e (by
      have := r.big
      simp
      omega)]
    walk_at "zs"
    refine ⟨⟨_, _, rfl⟩, p.set (Nat.le_refl _), ?_⟩
    rw [get_set e]
    rw [← List.map_append, Nat.mul_add, Nat.mul_one, List.take_add]
  · rintro ρ h' ⟨⟨x, y, rfl⟩, p, e⟩
    rw [List.take_of_length_le (by rw [c.len]; omega)] at e
    unfold m_checkpoint_in_5
    walk_at "zs"
    refine (read_numbers k la h2.length L W m p0 s1 s2 s3 n R h' (g.lay.pre p) o e r).mono ?_
    rintro z h3 ⟨pr, sl, qu, zs, rfl, _, _, _, _, p3⟩
    unfold m_checkpoint_in_6
    walk_at "zs"
    exact ⟨_, rfl, p3.get e, p.trans p3⟩
theorem checkpoint1 (k d : Nat) (df : List (Nat × Z)) (la se wa : Nat) (L : Lay) (bs ws : List Z) (m : LogM) (R : List Int) (rb : Nat) (h : Mh) (g : DevE h d df la se wa L bs ws) (o : LOk L) (c : RecOk L bs R rb m) :
    Ok (prg.C (k + 2) f_checkpoint_in [.ob d, .int 1] h) fun z h' => z = .non ∧ Pre h h' := by
  have rg := o.rng
  have hrb := c.hrb
  rw [prg.call (b := m_checkpoint_in) rfl h rfl]
  unfold m_checkpoint_in m_checkpoint_in_1
  (walk_at "zs"; repeat (simp only [g.zlay]; walk_at "zs"))
  refine (region_start k la L 1 h g.lay o).mono ?_
  rintro z h' ⟨rfl, rfl⟩
  rw [Int.one_mul]
  unfold m_checkpoint_in_2
  (walk_at "zs"; repeat (simp only [g.ins, g.n1]; walk_at "zs"))
  refine (device_read k d df la se wa L bs ws _ h' g).mono ?_
  rintro z h2 ⟨rfl, rfl⟩
  rw [c.next]
  unfold m_checkpoint_in_3 m_checkpoint_in_4
  walk_at "zs"
  have p1 : Pre h2 (h2 ++ [Ob.lst []]) := .app
  (walk_at "zs"; repeat (simp only [(g.pre p1).lay.rb]; walk_at "zs"))
  generalize h2 ++ [Ob.lst []] = H at p1
  refine for_rng (fun i ρ h' => i = 0 ∧ h' = H ∧ ρ = [some (.ob d), some (.int 1), some (.ob la), some (.int L.rb), some .non, some (.ob h2.length), none, none]) (by omega)
    ⟨rfl, rfl, rfl⟩ ?_ ?_
  · rintro i ρ h' hi ⟨rfl, rfl, rfl⟩
    unfold m_checkpoint_in_4b0
    (walk_at "zs"; repeat (simp only [(g.pre p1).ins, g.n1]; walk_at "zs"))
    simp only [Int.ofNat_eq_natCast, Int.natCast_zero, Int.add_zero]
    refine (device_read k d df la se wa L bs ws _ h' (g.pre p1)).mono ?_
    rintro z h3 ⟨rfl, rfl⟩
    rw [c.next]
    unfold m_checkpoint_in_4b1
    walk_at "zs"
    exact p1
  · rintro ρ h' ⟨h0, _, _⟩
    omega
end K88
namespace K88
open PySem PySem.Spec PyProof.Rows L2 Zm
local macro_rules | `(tactic| walk_at "zs") => `(tactic| try simp only [runD_Ok, r_dE_var, r_dE_lit, r_dE_glb, r_dE_bin, r_dE_neg, r_dE_cmp, r_dE_cmp2, r_dE_and, r_dE_or, r_dE_not, r_dE_ite, r_dE_tup, r_dE_lst, r_dE_dct0, r_dE_idx, r_dE_slc, r_dE_fld, r_dE_call, r_dE_mk, r_dE_mth, r_dE_mkd, r_dE_dcomp, r_dE_maxd, r_dI_enum, r_dG_flds, r_dFlds_nil, r_dFlds_cons, r_dS_gfor, r_dS_try, r_dY_fn, r_dY_mth, r_dE_bf, r_dE_bm, r_dE_isT, r_dE_comp, r_dX_tr, r_dX_and, r_dX_or, r_dX_not, r_dEs_nil, r_dEs_cons, r_dP_no, r_dP_some, r_dC_no, r_dC_some, r_dI_seq, r_dI_rng1, r_dI_rng2, r_dI_rrng1, r_dG_nm, r_dG_tup, r_dG_sub, r_dG_fld, r_dS_asg, r_dS_aug, r_dS_expr, r_dS_ret, r_dS_retN, r_dS_ite, r_dS_while, r_dS_for, r_dS_pass, r_dS_brk, r_dS_cont, r_dS_never, r_dSs_nil, r_dSs_cons, tgt, zBin, zCmp, Res.bind_ok, Ok_ok, Ok_bind, Ok_guard, List.length_cons, List.length_nil, List.map_cons, List.map_nil, List.replicate, List.nil_append, List.cons_append, List.getElem?_cons_zero, List.getElem?_cons_succ, List.set_cons_zero, List.set_cons_succ, Nat.reduceSub, Nat.reduceAdd, zAdd_int, zSub_int, zAddI_int, zMul_int, zDiv_int, zMod_int, zPow_int, zNeg_int, zLt_int, zLe_int, zGt_int, zGe_int, zEq_int, zNe_int, zIs_non, zIsNot_non, zTru_bl, zTru_int, zTru_non, zTru_tup, atI_0, atI_1, atI_2, atI_3, oRes_some, zIdx_tup, zBF_int, zBF_len_tup, zBF_list_tup, zBF_min, newL_eq, if_true, if_false, Bool.false_eq_true, reduceIte, zIsN, Bool.not_true, Bool.not_false, beq_self_eq_true, bne_self_eq_false, Int.reduceBNe, Int.reduceEq, decide_true, decide_false, true_and, and_true, if_true, if_false, List.isEmpty_cons, List.isEmpty_nil, setAll, List.all_cons, List.all_nil, flatZ, wipeZ, line_0, line_1, line_2, line_3, line_4, line_5, line_6, line_7, line_8, line_9])

theorem lookF_put (f g : Nat) (z : Z) : ∀ fs : List (Nat × Z), lookF (putF' f z fs) g = if g = f then some z else lookF fs g
  | [] => by simp [putF', lookF]
  | (p, y) :: r => by
    simp only [putF']
    by_cases h : p = f
    · subst h
      simp only [if_true, lookF]
      by_cases q : g = p <;> simp [q]
    · simp only [h, if_false, lookF, lookF_put f g z r]
      by_cases q : g = p
      · subst q
        simp [h]
      · simp [q]
theorem putF_len (f : Nat) (z : Z) : ∀ fs : List (Nat × Z), (putF' f z fs).length ≤ fs.length + 1
  | [] => by simp [putF']
  | (p, y) :: r => by
    simp only [putF']
    split
    · simp
    · have := putF_len f z r
      simp
      omega
theorem setF_step {c A f : Nat} {fs : List (Nat × Z)} {z : Z} {h : Mh} (e : h[A]? = some (.ins c fs)) (hf : prg.gt.fl c f = true) (hl : fs.length < 1000) : ∃ h2, zSetF prg.gt.fl (.ob A) f z h = .ok () h2 ∧ h2[A]? = some (.ins c (putF' f z fs)) ∧ Chg [A] h h2 :=
  ⟨_, setF_ins e hf hl, get_set e, .set (.inl (by simp))⟩
theorem counts_init (k A : Nat) (h : Mh) (e : h[A]? = some (.ins c_Counts [])) : Ok (prg.C (k + 1) f_Counts_init [.ob A] h) fun z h' => z = .non ∧ Chg [A] h h' := by
  rw [prg.call (b := m_Counts_init) rfl h rfl]
  unfold m_Counts_init m_Counts_init_1 m_Counts_init_2 m_Counts_init_3 m_Counts_init_4 m_Counts_init_5 m_Counts_init_6
  (walk_at "zs"; repeat (simp only [setF_ins e, setF_set e, fld_set e, putF', lookF, Nat.reduceEqDiff, Nat.reduceLT, List.length_cons, List.length_nil, Nat.reduceAdd, Int.reduceSub, Int.reduceAdd, Int.reduceMul, Int.reduceLT, Int.reduceLE, Int.reduceGT, Int.reduceDiv, fl_0_8, fl_0_7, fl_0_6, fl_0_3, fl_0_5, fl_0_2, fl_0_4, fl_0_0, fl_0_1, fl_1_15, fl_1_14, fl_1_13, fl_1_12, fl_1_11, fl_1_10, fl_1_9, fl_2_25, fl_2_23, fl_2_24, fl_2_22, fl_2_21, fl_2_20, fl_2_19, fl_2_18, fl_2_17, fl_2_16, fl_3_23, fl_3_33, fl_3_32, fl_3_31, fl_3_30, fl_3_29]; walk_at "zs"))
  exact .set (.inl (by simp))
theorem log_init (k A d : Nat) (df : List (Nat × Z)) (la se wa : Nat) (L : Lay) (bs ws : List Z) (h : Mh) (e : h[A]? = some (.ins c_Log [])) (g : DevE h d df la se wa L bs ws) (o : LOk L) :
    Ok (prg.C (k + 2) f_Log_init [.ob A, .ob d] h) fun z h' => z = .non ∧ Chg [A] h h' ∧ ∃ fs, h'[A]? = some (.ins c_Log fs) ∧ fs.length < 100 ∧ lookF fs a_layout = some (.ob la) ∧ lookF fs a_device = some (.ob d) ∧ lookF fs a_last_sequence = some (.int 0) := by
  have rg := o.rng
  have hdA : d ∉ [A] := by
    simp
    rintro rfl
    rw [g.ins] at e
    cases e
  have hlA : la ∉ [A] := by
    simp
    rintro rfl
    obtain ⟨fs, q, _⟩ := g.lay
    rw [e] at q
    cases q
  have zl : ∀ {h' : Mh}, Chg [A] h h' → zFld (.ob d) a_layout h' = .ok (.ob la) h' := fun c => by rw [zFld_ins (c.get hdA g.ins), g.f1]; rfl
  have ll : ∀ {h' : Mh}, Chg [A] h h' → LayAt h' la L := fun c => by
    obtain ⟨fs, q, r⟩ := g.lay
    exact ⟨fs, c.get hlA q, r⟩
  have hA := lt_of_get e
  rw [prg.call (b := m_Log_init) rfl h rfl]
  unfold m_Log_init
  walk_at "zs"
  obtain ⟨h1, q1, e1, c1⟩ := setF_step (z := .ob d) e fl_2_25 (by decide)
  rw [q1]
  unfold m_Log_init_1
  (walk_at "zs"; repeat (simp only [zl c1]; walk_at "zs"))
  obtain ⟨h2, q2, e2, c2⟩ := setF_step (z := .ob la) e1 fl_2_23 (Nat.le_of_ble_eq_true rfl)
  have c2 := c1.trans c2
  rw [q2]
  unfold m_Log_init_2
  (walk_at "zs"; repeat (simp only [zl c2]; walk_at "zs"))
  have hE : Ok (prg.C (k + 1) f_empty_table [.ob la] h2) fun z h' => (∃ b, z = .ob b) ∧ Pre h2 h' := by
    rw [prg.call (b := m_empty_table) rfl h2 rfl]
    unfold m_empty_table
    (walk_at "zs"; repeat (simp only [((ll c2).pre (Pre.app (l := [Ob.lst [.int 0]]))).last]; walk_at "zs"))
    have hd : L.last + 1 = (((L.last + 1).toNat : Nat) : Int) := by omega
    rw [hd, mul_non get_new (by omega)]
    walk_at "zs"
    exact ⟨⟨_, rfl⟩, .trans .app .app⟩
  refine hE.mono ?_
  rintro z h3 ⟨⟨b, rfl⟩, p3⟩
  have e3 := p3.get e2
  have c3 := c2.trans (.of_pre p3)
  obtain ⟨h4, q4, e4, c4⟩ := setF_step (z := .ob b) e3 fl_2_24 (Nat.le_of_ble_eq_true rfl)
  have c4 := c3.trans c4
  rw [q4]
  unfold m_Log_init_3
  walk_at "zs"
  have p5 : Pre h4 (h4 ++ [Ob.lst [.non]]) := .app
  rw [show (3 : Int) = ((3 : Nat) : Int) by rfl, mul_non get_new (by omega)]
  walk_at "zs"
  have p5 : Pre h4 ((h4 ++ [Ob.lst [.non]]) ++ [Ob.lst (List.replicate 3 .non)]) := p5.trans .app
  have e5 := p5.get e4
  have c5 := c4.trans (.of_pre p5)
  generalize (h4 ++ [Ob.lst [.non]]).length = B5
  simp only [List.replicate] at e5 c5 p5 ⊢
  obtain ⟨h6, q6, e6, c6⟩ := setF_step (z := .ob B5) e5 fl_2_22 (Nat.le_of_ble_eq_true rfl)
  have c6 := c5.trans c6
  rw [q6]
  unfold m_Log_init_4 m_Log_init_5
  walk_at "zs"
  obtain ⟨h7, q7, e7, c7⟩ := setF_step (z := .int 0) e6 fl_2_21 (Nat.le_of_ble_eq_true rfl)
  have c7 := c6.trans c7
  rw [q7]
  walk_at "zs"
  obtain ⟨h8, q8, e8, c8⟩ := setF_step (z := .int 0) e7 fl_2_20 (Nat.le_of_ble_eq_true rfl)
  have c8 := c7.trans c8
  rw [q8]
  unfold m_Log_init_6
  walk_at "zs"
  have p9 : Pre h8 (h8 ++ [Ob.lst []]) := .app
  obtain ⟨h9, q9, e9, c9⟩ := setF_step (z := .ob h8.length) (p9.get e8) fl_2_19 (Nat.le_of_ble_eq_true rfl)
  have c9 := c8.trans (.trans (.of_pre p9) c9)
  rw [q9]
  unfold m_Log_init_7 m_Log_init_8
  walk_at "zs"
  obtain ⟨ha, qa, ea, ca⟩ := setF_step (z := .int 0) e9 fl_2_18 (Nat.le_of_ble_eq_true rfl)
  have ca := c9.trans ca
  rw [qa]
  walk_at "zs"
  obtain ⟨hb, qb, eb, cb⟩ := setF_step (z := .int 1) ea fl_2_17 (Nat.le_of_ble_eq_true rfl)
  have cb := ca.trans cb
  rw [qb]
  unfold m_Log_init_9
  walk_at "zs"
  have pc : Pre hb (hb ++ [Ob.ins 1 []]) := .app
  refine (counts_init k hb.length (hb ++ [Ob.ins 1 []]) get_new).mono ?_
  rintro z hc ⟨rfl, cc⟩
  have hne : A ∉ [hb.length] := by
    have := lt_of_get eb
    simp; omega
  have ec := cc.get hne (pc.get eb)
  walk_at "zs"
  obtain ⟨hd, qd, ed, cd⟩ := setF_step (z := .ob hb.length) ec fl_2_16 (Nat.le_of_ble_eq_true rfl)
  rw [qd]
  walk_at "zs"
  refine ⟨cb.trans (.trans ⟨Nat.le_trans pc.len cc.1, fun a u n q => ?_⟩ cd), _, ed, Nat.le_of_ble_eq_true rfl, rfl, rfl, rfl⟩
  refine cc.get ?_ (pc.get q)
  have := lt_of_get q
  simp; omega
end K88
namespace K88
open PySem PySem.Spec PyProof.Rows L2 Zm
local macro_rules | `(tactic| walk_at "zs") => `(tactic| try simp only [runD_Ok, r_dE_var, r_dE_lit, r_dE_glb, r_dE_bin, r_dE_neg, r_dE_cmp, r_dE_cmp2, r_dE_and, r_dE_or, r_dE_not, r_dE_ite, r_dE_tup, r_dE_lst, r_dE_dct0, r_dE_idx, r_dE_slc, r_dE_fld, r_dE_call, r_dE_mk, r_dE_mth, r_dE_mkd, r_dE_dcomp, r_dE_maxd, r_dI_enum, r_dG_flds, r_dFlds_nil, r_dFlds_cons, r_dS_gfor, r_dS_try, r_dY_fn, r_dY_mth, r_dE_bf, r_dE_bm, r_dE_isT, r_dE_comp, r_dX_tr, r_dX_and, r_dX_or, r_dX_not, r_dEs_nil, r_dEs_cons, r_dP_no, r_dP_some, r_dC_no, r_dC_some, r_dI_seq, r_dI_rng1, r_dI_rng2, r_dI_rrng1, r_dG_nm, r_dG_tup, r_dG_sub, r_dG_fld, r_dS_asg, r_dS_aug, r_dS_expr, r_dS_ret, r_dS_retN, r_dS_ite, r_dS_while, r_dS_for, r_dS_pass, r_dS_brk, r_dS_cont, r_dS_never, r_dSs_nil, r_dSs_cons, tgt, zBin, zCmp, Res.bind_ok, Ok_ok, Ok_bind, Ok_guard, List.length_cons, List.length_nil, List.map_cons, List.map_nil, List.replicate, List.nil_append, List.cons_append, List.getElem?_cons_zero, List.getElem?_cons_succ, List.set_cons_zero, List.set_cons_succ, Nat.reduceSub, Nat.reduceAdd, zAdd_int, zSub_int, zAddI_int, zMul_int, zDiv_int, zMod_int, zPow_int, zNeg_int, zLt_int, zLe_int, zGt_int, zGe_int, zEq_int, zNe_int, zIs_non, zIsNot_non, zTru_bl, zTru_int, zTru_non, zTru_tup, atI_0, atI_1, atI_2, atI_3, oRes_some, zIdx_tup, zBF_int, zBF_len_tup, zBF_list_tup, zBF_min, newL_eq, if_true, if_false, Bool.false_eq_true, reduceIte, zIsN, Bool.not_true, Bool.not_false, beq_self_eq_true, bne_self_eq_false, Int.reduceBNe, Int.reduceEq, decide_true, decide_false, true_and, and_true, if_true, if_false, List.isEmpty_cons, List.isEmpty_nil, setAll, List.all_cons, List.all_nil, flatZ, wipeZ, line_0, line_1, line_2, line_3, line_4, line_5, line_6, line_7, line_8, line_9])

theorem zBF_max (i j : Int) (h : Mh) : zBF .max [.int i, .int j] h = .ok (.int (if j > i then j else i)) h := rfl
theorem putF_same (f : Nat) (z : Z) : ∀ fs : List (Nat × Z), (lookF fs f).isSome = true → (putF' f z fs).length = fs.length
  | [], h => by simp [lookF] at h
  | (p, y) :: r, h => by
    simp only [putF']
    simp only [lookF] at h
    by_cases q : p = f
    · subst q; simp
    · rw [if_neg (fun e => q e.symm)] at h
      simp [q, putF_same f z r h]
theorem SlotsAt.move {h : Mh} {h' : Mh} {zs : List Z} {ss : List (Option (List Int))} (x : SlotsAt h zs ss) (p : ∀ (b : Nat) (u : List Z), h[b]? = some (Ob.lst u) → h'[b]? = some (Ob.lst u)) : SlotsAt h' zs ss := by
  induction x with
  | nil => exact .nil
  | @cons z s zs ss x _ ih =>
    refine .cons ?_ ih
    cases s with
    | none => exact x
    | some t =>
      obtain ⟨b, e, q⟩ := x
      exact ⟨b, e, p b _ q⟩
theorem chg_lst {h h' : Mh} {A : Nat} {c : Nat} {fs : List (Nat × Z)} (e : h[A]? = some (.ins c fs)) (x : Chg [A] h h') (b : Nat) (u : List Z) (q : h[b]? = some (.lst u)) : h'[b]? = some (.lst u) :=
  x.get (by simp; exact ne_of_get q e (by simp)) q
theorem chg_ins {h h' : Mh} {A b : Nat} {c c2 : Nat} {fs f2 : List (Nat × Z)} (e : h[A]? = some (.ins c fs)) (x : Chg [A] h h') (hc : c2 ≠ c) (q : h[b]? = some (.ins c2 f2)) : h'[b]? = some (.ins c2 f2) :=
  x.get (by simp; exact ne_of_get q e (by intro y; cases y; exact hc rfl)) q
theorem DevE.chg {h h' : Mh} {d : Nat} {df : List (Nat × Z)} {la se wa : Nat} {L : Lay} {bs ws : List Z} {A : Nat} {fs : List (Nat × Z)} (g : DevE h d df la se wa L bs ws) (e : h[A]? = some (.ins c_Log fs)) (x : Chg [A] h h') : DevE h' d df la se wa L bs ws := by
  refine ⟨chg_ins e x (by decide) g.ins, ?_, chg_lst e x _ _ g.seen, chg_lst e x _ _ g.wait, g.ne, g.f1, g.f2, g.f3, g.f4, g.f5, g.n1, g.n2, g.n3, g.n4⟩
  obtain ⟨f, q, r⟩ := g.lay
  exact ⟨f, chg_ins e x (by decide) q, r⟩
theorem recover (k d : Nat) (df : List (Nat × Z)) (la se wa : Nat) (L : Lay) (bs ws : List Z) (W : Nat) (m : LogM) (p0 : List Int) (s1 s2 s3 : Option (List Int)) (n : Nat) (R : List Int) (rb : Nat) (h : Mh) (g : DevE h d df la se wa L bs ws) (o : LOk L) (r : RowOk L W m p0 s1 s2 s3 n R) (c : RecOk L bs R rb m) :
    Ok (prg.C (k + 4) f_recover [.ob d] h) fun z h' => ∃ lg fs pr sl qu zs, z = .ob lg ∧ LogE h' lg fs la pr sl qu zs L m ∧ Pre h h' ∧ lookF fs a_device = some (.ob d) ∧ ∃ v : Int, lookF fs a_last_sequence = some (.int v) ∧ v ≤ 9 := by
  rw [prg.call (b := m_recover) rfl h rfl]
  unfold m_recover m_recover_1 m_recover_2
  walk_at "zs"
  refine for_rng (fun i ρ h' => (i = 0 ∧ h' = h ∧ ρ = [some (.ob d), some .non, some (.int 0), none, none, none, none, none, none]) ∨ (0 < i ∧ ∃ nb x y, ρ = [some (.ob d), some (.tup [.int 9, .ob nb]), some (.int 0), x, y, none, none, none, none] ∧ Pre h h' ∧ h'[nb]? = some (.lst (R.map Z.int)))) (by omega)
    (.inl ⟨rfl, rfl, rfl⟩) ?_ ?_
  · rintro i ρ h' hi (⟨rfl, rfl, rfl⟩ | ⟨h0, nb, x, y, rfl, p, e⟩)
    · unfold m_recover_2b0
      walk_at "zs"
      simp only [Int.ofNat_eq_natCast, Int.natCast_zero, Int.add_zero]
      refine (checkpoint0 (k + 1) d df la se wa L bs ws W m p0 s1 s2 s3 n R rb h' g o r c).mono ?_
      rintro z h2 ⟨nb, rfl, e, p⟩
      unfold m_recover_2b1 m_recover_2b1b0 m_recover_2b1b1
      walk_at "zs"
      exact .inr ⟨by omega, nb, _, _, rfl, p, e⟩
    · have hi1 : i = 1 := by
        have : i < 2 := by simpa using hi
        omega
      subst hi1
      unfold m_recover_2b0
      walk_at "zs"
      rw [show (0 : Int) + ((1 : Nat) : Int) = 1 by rfl]
      refine (checkpoint1 (k + 1) d df la se wa L bs ws m R rb h' (g.pre p) o c).mono ?_
      rintro z h2 ⟨rfl, p2⟩
      unfold m_recover_2b1
      walk_at "zs"
      exact .inr ⟨by omega, nb, _, _, rfl, p.trans p2, p2.get e⟩
  · rintro ρ h1 (⟨h0, _⟩ | ⟨_, nb, x, y, rfl, p1, e1⟩)
    · simp at h0
    unfold m_recover_3 m_recover_4
    walk_at "zs"
    have p2 : Pre h1 (h1 ++ [Ob.ins 2 []]) := .app
    refine (log_init (k + 1) h1.length d df la se wa L bs ws _ get_new ((g.pre p1).pre p2) o).mono ?_
    rintro z h2 ⟨rfl, c2, fs, e2, l2, f1, f2, f3⟩
    walk_at "zs"
    have Q : ∀ {h' : Mh}, Chg [h1.length] (h1 ++ [Ob.ins 2 []]) h' → Pre h1 h' := fun cc => by
      have hl := cc.1
      rw [List.length_append] at hl
      simp at hl
      refine List.prefix_iff_eq_take.mpr (List.ext_getElem? fun i => ?_)
      rw [List.getElem?_take]
      by_cases hi : i < h1.length
      · rw [if_pos hi]
        have := cc.2 i h1[i] (by simp; omega) (get_app (List.getElem?_eq_getElem hi))
        rw [this, List.getElem?_eq_getElem hi]
      · rw [if_neg hi, List.getElem?_eq_none (by omega)]
    have hlog : h1.length < (h1 ++ [Ob.ins 2 []]).length := by simp
    unfold m_recover_5
    walk_at "zs"
    obtain ⟨h3, q3, e3, c3⟩ := setF_step (z := .int 0) e2 fl_2_17 (by omega)
    have c3 := c2.trans c3
    have l3 := putF_len 17 (.int 0) fs
    rw [q3]
    unfold m_recover_6
    have p3 := p1.trans (Q c3)
    have g3 := g.pre p3
    (walk_at "zs"; repeat (simp only [g3.zlay]; walk_at "zs"))
    refine (read_numbers (k + 2) la nb L W m p0 s1 s2 s3 n R h3 g3.lay o ((Q c3).get e1) r).mono ?_
    rintro z h4 ⟨pr, sl, qu, zs, rfl, ep, es, sat, eq, p4⟩
    walk_at "zs"
    have g4 := g3.pre p4
    have e4 := p4.get e3
    obtain ⟨h5, q5, e5, c5⟩ := setF_step (z := .ob pr) e4 fl_2_24 (by omega)
    have l5 := putF_len 24 (.ob pr) (putF' 17 (.int 0) fs)
    rw [q5]
    walk_at "zs"
    obtain ⟨h6, q6, e6, c6⟩ := setF_step (z := .ob sl) e5 fl_2_22 (by omega)
    have l6 := putF_len 22 (.ob sl) (putF' 24 (.ob pr) (putF' 17 (.int 0) fs))
    have c6 := c5.trans c6
    rw [q6]
    walk_at "zs"
    obtain ⟨h7, q7, e7, c7⟩ := setF_step (z := .int m.head) e6 fl_2_21 (by omega)
    have l7 := putF_len 21 (.int m.head) (putF' 22 (.ob sl) (putF' 24 (.ob pr) (putF' 17 (.int 0) fs)))
    have c7 := c6.trans c7
    rw [q7]
    walk_at "zs"
    obtain ⟨h8, q8, e8, c8⟩ := setF_step (z := .int m.place) e7 fl_2_20 (by omega)
    have l8 := putF_len 20 (.int m.place) (putF' 21 (.int m.head) (putF' 22 (.ob sl) (putF' 24 (.ob pr) (putF' 17 (.int 0) fs))))
    have c8 := c7.trans c8
    rw [q8]
    walk_at "zs"
    obtain ⟨h9, q9, e9, c9⟩ := setF_step (z := .ob qu) e8 fl_2_19 (by omega)
    have l9 := putF_len 19 (.ob qu) (putF' 20 (.int m.place) (putF' 21 (.int m.head) (putF' 22 (.ob sl) (putF' 24 (.ob pr) (putF' 17 (.int 0) fs)))))
    have c9 := c8.trans c9
    rw [q9]
    have lf : ∀ f, lookF (putF' 19 (.ob qu) (putF' 20 (.int m.place) (putF' 21 (.int m.head) (putF' 22 (.ob sl) (putF' 24 (.ob pr) (putF' 17 (.int 0) fs)))))) f = if f = 19 then some (.ob qu) else if f = 20 then some (.int m.place) else if f = 21 then some (.int m.head) else if f = 22 then some (.ob sl) else if f = 24 then some (.ob pr) else if f = 17 then some (.int 0) else lookF fs f := fun f => by
      simp only [lookF_put]
    generalize hfs : putF' 19 (.ob qu) (putF' 20 (.int m.place) (putF' 21 (.int m.head) (putF' 22 (.ob sl) (putF' 24 (.ob pr) (putF' 17 (.int 0) fs))))) = fs9 at e9 lf l9
    have lg9 : fs9.length < 200 := by omega
    have LG : ∀ {h' : Mh} {fs' : List (Nat × Z)}, Chg [h1.length] h4 h' → h'[h1.length]? = some (.ins c_Log fs') → (∀ f, f ≠ 18 → lookF fs' f = lookF fs9 f) → LogE h' h1.length fs' la pr sl qu zs L m := fun cc ee ff => by
      refine ⟨ee, (g4.chg e4 cc).lay, chg_lst e4 cc _ _ ep, chg_lst e4 cc _ _ es, sat.move (chg_lst e4 cc), chg_lst e4 cc _ _ eq, ?_, ?_, ?_, ?_, ?_, ?_⟩
      · rw [ff _ (by decide), lf, ← f1]; rfl
      · rw [ff _ (by decide), lf]; rfl
      · rw [ff _ (by decide), lf]; rfl
      · rw [ff _ (by decide), lf]; rfl
      · rw [ff _ (by decide), lf]; rfl
      · rw [ff _ (by decide), lf]; rfl
    have hpre : ∀ {h' : Mh}, Chg [h1.length] h4 h' → Pre h1 h' := fun cc => Q (c3.trans ((Chg.of_pre p4).trans cc))
    walk_at "zs"
    unfold m_recover_7 m_recover_8
    walk_at "zs"
    refine wh_step ?_
    walk_at "zs"
    refine (take_next k h1.length fs9 la pr sl qu zs d df se wa L bs ws m R rb _ h9 (LG c9 e9 (fun _ _ => rfl)) (g4.chg e4 c9) o (by rw [lf, ← f2]; rfl) c).mono ?_
    rintro z h10 ⟨rfl, rfl⟩
    unfold m_recover_9
    have g9 := g4.chg e4 c9
    (walk_at "zs"; repeat (simp only [g9.ins, g9.n4]; walk_at "zs"))
    refine (written_blocks (k + 2) d df la se wa L bs ws h10 g9 c.small _ _ (fun τ h' => Chg [h1.length] h4 h' ∧ (∃ x y u v w t, τ = [some (.ob d), u, v, w, t, some (.ob h1.length), some (.int 10), x, y]) ∧ ∃ fs' v, h'[h1.length]? = some (.ins c_Log fs') ∧ fs'.length < 200 ∧ lookF fs' 18 = some (.int v) ∧ v ≤ 9 ∧ ∀ f, f ≠ 18 → lookF fs' f = lookF fs9 f) ⟨c9, ⟨_, _, _, _, _, _, rfl⟩, fs9, 0, e9, lg9, by rw [lf, ← f3]; rfl, by omega, fun _ _ => rfl⟩ (fun τ h' j => (g4.chg e4 j.1).seen) ?_).mono ?_
    · rintro i blk τ h' eb hn ⟨cc, ⟨x', y', u, v, w, t, rfl⟩, fs', lv, ee, ll, e18, l9, ff⟩
      obtain ⟨x0, v0, r0, rfl, v9⟩ := c.shape i blk eb hn
      have z18 : zFld (.ob h1.length) 18 h' = .ok (.int lv) h' := by rw [zFld_ins ee, e18]; rfl
      obtain ⟨h'', q'', e'', c''⟩ := setF_step (z := .int (if v0 > lv then v0 else lv)) ee fl_2_18 (by omega)
      (walk_at "zs"; repeat (simp only [turnZ, z18, zBF_max, q'']; walk_at "zs"))
      exact ⟨cc.trans c'', ⟨_, _, _, _, _, _, rfl⟩, _, _, e'', by rw [putF_same _ _ _ (by rw [e18]; rfl)]; exact ll, by rw [lookF_put, if_pos rfl], by split <;> omega, fun f hf => by rw [lookF_put, if_neg hf]; exact ff f hf⟩
    · rintro τ h' ⟨cc, ⟨x', y', u, v, w, t, rfl⟩, fs', lv, ee, ll, e18, l9, ff⟩
      unfold m_recover_10
      walk_at "zs"
      exact ⟨_, _, _, _, _, _, rfl, LG cc ee ff, p1.trans (hpre cc), by rw [ff _ (by decide), lf, ← f2]; rfl, lv, e18, l9⟩
end K88
namespace K88
open PySem PySem.Spec PyProof.Rows L2 Zm
local macro_rules | `(tactic| walk_at "zs") => `(tactic| try simp only [runD_Ok, r_dE_var, r_dE_lit, r_dE_glb, r_dE_bin, r_dE_neg, r_dE_cmp, r_dE_cmp2, r_dE_and, r_dE_or, r_dE_not, r_dE_ite, r_dE_tup, r_dE_lst, r_dE_dct0, r_dE_idx, r_dE_slc, r_dE_fld, r_dE_call, r_dE_mk, r_dE_mth, r_dE_mkd, r_dE_dcomp, r_dE_maxd, r_dI_enum, r_dG_flds, r_dFlds_nil, r_dFlds_cons, r_dS_gfor, r_dS_try, r_dY_fn, r_dY_mth, r_dE_bf, r_dE_bm, r_dE_isT, r_dE_comp, r_dX_tr, r_dX_and, r_dX_or, r_dX_not, r_dEs_nil, r_dEs_cons, r_dP_no, r_dP_some, r_dC_no, r_dC_some, r_dI_seq, r_dI_rng1, r_dI_rng2, r_dI_rrng1, r_dG_nm, r_dG_tup, r_dG_sub, r_dG_fld, r_dS_asg, r_dS_aug, r_dS_expr, r_dS_ret, r_dS_retN, r_dS_ite, r_dS_while, r_dS_for, r_dS_pass, r_dS_brk, r_dS_cont, r_dS_never, r_dSs_nil, r_dSs_cons, tgt, zBin, zCmp, Res.bind_ok, Ok_ok, Ok_bind, Ok_guard, List.length_cons, List.length_nil, List.map_cons, List.map_nil, List.replicate, List.nil_append, List.cons_append, List.getElem?_cons_zero, List.getElem?_cons_succ, List.set_cons_zero, List.set_cons_succ, Nat.reduceSub, Nat.reduceAdd, zAdd_int, zSub_int, zAddI_int, zMul_int, zDiv_int, zMod_int, zPow_int, zNeg_int, zLt_int, zLe_int, zGt_int, zGe_int, zEq_int, zNe_int, zIs_non, zIsNot_non, zTru_bl, zTru_int, zTru_non, zTru_tup, atI_0, atI_1, atI_2, atI_3, oRes_some, zIdx_tup, zBF_int, zBF_len_tup, zBF_list_tup, zBF_min, newL_eq, if_true, if_false, Bool.false_eq_true, reduceIte, zIsN, Bool.not_true, Bool.not_false, beq_self_eq_true, bne_self_eq_false, Int.reduceBNe, Int.reduceEq, decide_true, decide_false, true_and, and_true, if_true, if_false, List.isEmpty_cons, List.isEmpty_nil, setAll, List.all_cons, List.all_nil, flatZ, wipeZ, line_0, line_1, line_2, line_3, line_4, line_5, line_6, line_7, line_8, line_9])

/-! ### blocks -/
def maxL : List Int → Int
  | [] => 0
  | n :: ns => ns.foldl max n
/-- a block of a device -/
inductive Wf : Z → Prop where
  | non : Wf .non
  | blk (c s k : Int) (y : Z) (hs : s ≤ 9) (h4 : c = 4 → ∃ n ns, y = .tup ((n :: ns : List Int).map Z.int)) : Wf (.tup [.int c, .int s, .int k, y])
def payZ : Z → Z
  | .tup [.int c, _, _, y] => if c = 3 ∨ c = 4 then .tup [.int c, y] else .non
  | _ => .non
def badZ (L : Lay) : Z → Option Str
  | .tup [.int c, _, _, .tup ys] => if c = 3 then none else if c = 4 then (match intsOf ys with
    | some xs => if L.last < maxL xs then some "a block does not fit the layout" else none
    | none => none) else some "a needed block is no payload"
  | .tup [.int c, _, _, _] => if c = 3 then none else some "a needed block is no payload"
  | _ => some "a needed block is no payload"
theorem zIn34 (c : Int) (h : Mh) : zIn (.int c) (.tup [.int 3, .int 4]) h = .ok (.bl (decide (c = 3 ∨ c = 4))) h := by
  simp only [zIn, zInB, flatZ, List.all_cons, List.all_nil, Bool.and_self, eqF, List.any_cons, List.any_nil, Bool.or_false]
  rw [guard_pos ⟨trivial, trivial⟩, Res.bind_ok]
  congr 2
  by_cases h3 : c = 3
  · subst h3; rfl
  · by_cases h4 : c = 4
    · subst h4; rfl
    · simp [h3, h4]
      exact ⟨fun e => h3 e.symm, fun e => h4 e.symm⟩
theorem payload_of (k : Nat) (z : Z) (h : Mh) (w : Wf z) : Ok (prg.C (k + 2) f_payload_of [z] h) fun y h' => y = payZ z ∧ h' = h := by
  have ip : Ok (prg.C (k + 1) f_is_payload [z] h) fun y h' => y = .bl (!zIsN (payZ z)) ∧ h' = h := by
    rw [prg.call (b := m_is_payload) rfl h rfl]
    unfold m_is_payload
    cases w with
    | non =>
      walk_at "zs"
      all_goals first | exact ⟨rfl, rfl⟩ | exact rfl
    | blk c s kk y hs h4 =>
      (walk_at "zs"; repeat (simp only [zIn34]; walk_at "zs"))
      simp only [payZ]
      by_cases hc : c = 3 ∨ c = 4
      · simp only [hc, if_true, decide_true]
        all_goals simp
      · simp only [hc, if_false, decide_false]
        all_goals simp
  rw [prg.call (b := m_payload_of) rfl h rfl]
  unfold m_payload_of m_payload_of_1
  walk_at "zs"
  refine ip.mono ?_
  rintro y h' ⟨rfl, rfl⟩
  cases w with
  | non =>
    simp only [payZ]
    walk_at "zs"
    all_goals exact ⟨rfl, rfl⟩
  | blk c s kk y hs h4 =>
    simp only [payZ]
    by_cases hc : c = 3 ∨ c = 4
    · simp only [hc, if_true]
      walk_at "zs"
      all_goals exact ⟨rfl, rfl⟩
    · simp only [hc, if_false]
      walk_at "zs"
      all_goals exact ⟨rfl, rfl⟩
/-- the log of a device -/
structure LD (h : Mh) (a : Nat) (fs : List (Nat × Z)) (la pr sl qu : Nat) (zs : List Z) (d : Nat) (df : List (Nat × Z)) (se wa : Nat) (L : Lay) (bs ws : List Z) (m : LogM) : Prop where
  g : LogE h a fs la pr sl qu zs L m
  dv : DevE h d df la se wa L bs ws
  fd : lookF fs a_device = some (.ob d)
  fl : ∃ v : Int, lookF fs a_last_sequence = some (.int v) ∧ v ≤ 9
  wf : ∀ x, Wf (rdZ bs x)
section
variable {h h' : Mh} {a : Nat} {fs : List (Nat × Z)} {la pr sl qu : Nat} {zs : List Z} {d : Nat} {df : List (Nat × Z)} {se wa : Nat} {L : Lay} {bs ws : List Z} {m : LogM}
theorem LD.pre (x : LD h a fs la pr sl qu zs d df se wa L bs ws m) (p : Pre h h') : LD h' a fs la pr sl qu zs d df se wa L bs ws m := ⟨x.g.pre p, x.dv.pre p, x.fd, x.fl, x.wf⟩
theorem LD.zdev (x : LD h a fs la pr sl qu zs d df se wa L bs ws m) : zFld (.ob a) a_device h = .ok (.ob d) h := by rw [zFld_ins x.g.ins, x.fd]; rfl
theorem payload_at (k : Nat) (x : LD h a fs la pr sl qu zs d df se wa L bs ws m) (i : Int) : Ok (prg.C (k + 3) f_payload_at [.ob a, .int i] h) fun y h' => y = payZ (rdZ bs i) ∧ h' = h := by
  rw [prg.call (b := m_payload_at) rfl h rfl]
  unfold m_payload_at
  (walk_at "zs"; repeat (simp only [x.zdev, x.dv.ins, x.dv.n1]; walk_at "zs"))
  refine (device_read (k + 1) d df la se wa L bs ws i h x.dv).mono ?_
  rintro z h' ⟨rfl, rfl⟩
  walk_at "zs"
  exact payload_of k _ h' (x.wf i)
/-- the first needed block that is wrong -/
def firstB (L : Lay) (bs : List Z) : List Int → Option (Str × Int)
  | [] => none
  | i :: r => match badZ L (rdZ bs i) with
    | some e => some (e, i)
    | none => firstB L bs r
theorem block_fault (k : Nat) (x : LD h a fs la pr sl qu zs d df se wa L bs ws m) (o : LOk L) (U : List Int) (q : LogG L m U) : Ok (prg.C (k + 4) f_block_fault [.ob a] h) fun z h' => ∃ lv, LiveOk m lv ∧ z = fz (firstB L bs lv) ∧ Pre h h' := by
  rw [prg.call (b := m_block_fault) rfl h rfl]
  unfold m_block_fault
  walk_at "zs"
  refine (live_addresses (k + 2) a fs la pr sl qu zs L m h x.g U q.ul q.sl q.uin).mono ?_
  rintro z h2 ⟨b, lv, rfl, e2, ol, p2⟩
  have x := x.pre p2
  refine for_lst (fun d' ρ h' => h' = h2 ∧ (∃ y z, ρ = [some (.ob a), y, z]) ∧ ∃ r : List Int, lv.map Z.int = d' ++ r.map Z.int ∧ firstB L bs lv = firstB L bs r) e2 ⟨rfl, ⟨_, _, rfl⟩, lv, rfl, rfl⟩ (fun d ρ h' i => by obtain ⟨rfl, _⟩ := i; exact e2) ?_ ?_
  · rintro d' z r ρ h' ez ⟨rfl, ⟨y, w, rfl⟩, q, eq, ef⟩
    rw [ez] at eq
    have eq := List.append_cancel_left eq
    cases q with
    | nil => cases eq
    | cons s q =>
      simp only [List.map_cons, List.cons.injEq] at eq
      obtain ⟨rfl, rfl⟩ := eq
      unfold m_block_fault_0b0
      walk_at "zs"
      refine (payload_at k x s).mono ?_
      rintro z h3 ⟨rfl, rfl⟩
      rw [firstB] at ef
      unfold m_block_fault_0b1 m_block_fault_0b2
      have wf := x.wf s
      generalize rdZ bs s = blk at wf ef
      have go : badZ L blk = none → (∃ y z, [some (Z.ob a), some (Z.int s), some (payZ blk)] = [some (Z.ob a), y, z]) ∧ ∃ r' : List Int, lv.map Z.int = (d' ++ [Z.int s]) ++ r'.map Z.int ∧ firstB L bs lv = firstB L bs r' := fun e => ⟨⟨_, _, rfl⟩, q, by rw [ez]; simp, by rw [ef, e]⟩
      cases wf with
      | non =>
        simp only [payZ]
        walk_at "zs"
        refine ⟨lv, ol, ?_, p2⟩
        rw [ef]
        rfl
      | blk c sq kk y hs h4 =>
        simp only [payZ] at go ⊢
        by_cases hc : c = 3 ∨ c = 4
        · rcases hc with rfl | rfl
          · simp only [true_or, if_true] at go ⊢
            (walk_at "zs"; repeat (simp only [Int.reduceEq]; walk_at "zs"))
            have e : badZ L (.tup [.int 3, .int sq, .int kk, y]) = none := by cases y <;> rfl
            exact go e
          · obtain ⟨n, ns, rfl⟩ := h4 rfl
            have eM : zBF .max1 [.tup ((n :: ns).map Z.int)] h3 = .ok (.int (maxL (n :: ns))) h3 := by
              simp only [zBF, seqZ, intsOf_map]
              rfl
            simp only [or_true, if_true] at go ⊢
            simp only [List.map_cons] at eM go ⊢
            (walk_at "zs"; repeat (simp only [eM, x.g.zlay, x.g.lay.last]; walk_at "zs"))
            have e : badZ L (.tup [.int 4, .int sq, .int kk, .tup ((n :: ns).map Z.int)]) = if L.last < maxL (n :: ns) then some (("a block does not fit the layout" : Str)) else none := by
              simp only [badZ, intsOf_map, Int.reduceEq, if_false, if_true]
            simp only [List.map_cons] at e
            by_cases hm : L.last < maxL (n :: ns)
            · (walk_at "zs"; repeat (simp only [hm]; walk_at "zs"))
              refine ⟨lv, ol, ?_, p2⟩
              rw [ef, List.map_cons, e, if_pos hm]
              rfl
            · (walk_at "zs"; repeat (simp only [hm]; walk_at "zs"))
              exact go (by rw [e, if_neg hm])
        · simp only [hc, if_false] at go ⊢
          walk_at "zs"
          refine ⟨lv, ol, ?_, p2⟩
          have e : badZ L (.tup [.int c, .int sq, .int kk, y]) = some (("a needed block is no payload" : Str)) := by
            cases y <;> simp only [badZ] <;> rw [if_neg (fun q => hc (.inl q))] <;> try rw [if_neg (fun q => hc (.inr q))]
          rw [ef, e]
          rfl
  · rintro ρ h' ⟨rfl, ⟨y, w, rfl⟩, r, er, ef⟩
    have hr : r = [] := by
      have := congrArg List.length er
      simp at this
      exact this
    subst hr
    unfold m_block_fault_1
    walk_at "zs"
    exact ⟨lv, ol, by rw [ef]; rfl, p2⟩
theorem log_fault (k : Nat) (x : LD h a fs la pr sl qu zs d df se wa L bs ws m) (o : LOk L) (U : List Int) (q : LogG L m U) (tn : ∀ lv db, LiveOk m lv → DblOk m db → tf L m lv db = none) : Ok (prg.C (k + 5) f_log_fault [.ob a] h) fun z h' => ∃ lv, LiveOk m lv ∧ z = fz (firstB L bs lv) ∧ Pre h h' := by
  obtain ⟨v, fv, v9⟩ := x.fl
  have zl : zFld (.ob a) a_last_sequence h = .ok (.int v) h := by rw [zFld_ins x.g.ins, fv]; rfl
  rw [prg.call (b := m_log_fault) rfl h rfl]
  unfold m_log_fault
  have hv : decide ((1099511627776 : Int) ≤ v) = false := by simp; omega
  (walk_at "zs"; repeat (simp only [zl, hv]; walk_at "zs"))
  unfold m_log_fault_1
  walk_at "zs"
  refine (table_fault (k + 1) a fs la pr sl qu zs L m h x.g o U q).mono ?_
  rintro z h1 ⟨lv, db, ol, od, rfl, p1⟩
  rw [tn lv db ol od]
  unfold m_log_fault_2
  (walk_at "zs"; repeat (simp only [fz]; walk_at "zs"))
  refine (block_fault k (x.pre p1) o U q).mono ?_
  rintro z h2 ⟨lv, ol, rfl, p2⟩
  unfold m_log_fault_3
  walk_at "zs"
  exact ⟨lv, ol, rfl, p1.trans p2⟩
/-- the present contents have no block 1 -/
theorem contents_of (k : Nat) (x : LD h a fs la pr sl qu zs d df se wa L bs ws m) (hl : m.pres.length < 1000) (h1 : m.pres[1]? = some 0) : Ok (prg.C (k + 4) f_contents_of [.ob a, .ob pr] h) fun z h' => ∃ c kvs, z = .ob c ∧ h'[c]? = some (.dct kvs) ∧ valZ kvs (.inl 1) = none ∧ Pre h h' := by
  rw [prg.call (b := m_contents_of) rfl h rfl]
  unfold m_contents_of m_contents_of_1
  walk_at "zs"
  have p1 : Pre h (h ++ [Ob.dct []]) := .app
  have e1 : (h ++ [Ob.dct []])[h.length]? = some (.dct []) := get_new
  generalize h ++ [Ob.dct []] = H at p1 e1
  simp only [wkEnum, p1.get x.g.pres, Ok_ok]
  refine for_inv (fun d' ρ h' => (∃ y z w, ρ = [some (.ob a), some (.ob pr), some (.ob h.length), y, z, w]) ∧ Pre h h' ∧ d'.length ≤ m.pres.length ∧ ∃ kvs, h'[h.length]? = some (.dct kvs) ∧ valZ kvs (.inl 1) = none ∧ kvs.length ≤ d'.length) ⟨⟨_, _, _, rfl⟩, p1, by simp, [], e1, rfl, Nat.le_refl _⟩ (fun _ _ _ i => i.2.1.get x.g.pres) ?_ ?_
  · rintro d' z r ρ h' ez ⟨⟨y, z', w, rfl⟩, p, hd, kvs, e, e0, lk⟩
    have hlen := congrArg List.length ez
    simp at hlen
    have hz : ∃ i : Int, m.pres[d'.length]? = some i ∧ z = .tup [.int (d'.length : Nat), .int i] := by
      have := congrArg (fun l => l[d'.length]?) ez
      have hlt : d'.length < m.pres.length := by omega
      simp [hlt] at this
      exact ⟨_, List.getElem?_eq_getElem hlt, this.symm⟩
    obtain ⟨i, ei, rfl⟩ := hz
    have x := x.pre p
    unfold m_contents_of_1b0
    by_cases hi : i = 0
    · (walk_at "zs"; repeat (simp only [hi]; walk_at "zs"))
      exact ⟨⟨_, _, _, rfl⟩, p, by simp; omega, kvs, e, e0, by simp; omega⟩
    · unfold m_contents_of_1b0b0
      (walk_at "zs"; repeat (simp only [hi]; walk_at "zs"))
      refine (payload_at k x i).mono ?_
      rintro z h3 ⟨rfl, rfl⟩
      unfold m_contents_of_1b0b1
      walk_at "zs"
      have hk : ¬ ((1 : Int) = ((d'.length : Nat) : Int)) := by
        intro q
        have : d'.length = 1 := by omega
        rw [this, h1] at ei
        cases ei
        exact hi rfl
      have wf := x.wf i
      generalize rdZ bs i = blk at wf
      have st : ∀ y : Z, ((∃ y' z w, [some (Z.ob a), some (Z.ob pr), some (Z.ob h.length), some (Z.int (d'.length : Nat)), some (Z.int i), some y] = [some (Z.ob a), some (Z.ob pr), some (Z.ob h.length), y', z, w]) ∧ Pre h (h3.set h.length (.dct (putZ kvs (.inl ((d'.length : Nat) : Int)) y))) ∧ (d' ++ [Z.tup [.int (d'.length : Nat), .int i]]).length ≤ m.pres.length ∧ ∃ kvs', (h3.set h.length (.dct (putZ kvs (.inl ((d'.length : Nat) : Int)) y)))[h.length]? = some (.dct kvs') ∧ valZ kvs' (.inl 1) = none ∧ kvs'.length ≤ (d' ++ [Z.tup [.int (d'.length : Nat), .int i]]).length) := fun y => by
        refine ⟨⟨_, _, _, rfl⟩, p.set (Nat.le_refl _), by simp; omega, _, get_set e, ?_, ?_⟩
        · rw [valZ_put]
          simp only [Sum.inl.injEq, hk, if_false]
          exact e0
        · have := put_len kvs (.inl ((d'.length : Nat) : Int)) y
          simp
          omega
      cases wf with
      | non =>
        simp only [payZ]
        walk_at "zs"
        exact ⟨⟨_, _, _, rfl⟩, p, by simp; omega, kvs, e, e0, by simp; omega⟩
      | blk c sq kk y hs h4 =>
        simp only [payZ]
        by_cases hc : c = 3 ∨ c = 4
        · simp only [hc, if_true]
          walk_at "zs"
          rw [zSet_dct e (lt_line (by omega))]
          walk_at "zs"
          exact st _
        · simp only [hc, if_false]
          walk_at "zs"
          exact ⟨⟨_, _, _, rfl⟩, p, by simp; omega, kvs, e, e0, by simp; omega⟩
  · rintro ρ h' ⟨⟨y, z', w, rfl⟩, p, hd, kvs, e, e0, lk⟩
    unfold m_contents_of_2
    walk_at "zs"
    exact ⟨_, kvs, rfl, e, e0, p⟩
theorem contents_fault (k c : Nat) (kvs : List (Key × Z)) (z : Z) (h : Mh) (e : h[c]? = some (.dct kvs)) (e0 : valZ kvs (.inl 1) = none) : Ok (prg.C (k + 3) f_contents_fault [z, .ob c] h) fun y h' => y = .tup [.str "no superblock", .int 1] ∧ h' = h := by
  have s : Ok (prg.C (k + 1) f_superblock_in [.ob c] h) fun y h' => y = .non ∧ h' = h := by
    rw [prg.call (b := m_superblock_in) rfl h rfl]
    unfold m_superblock_in m_superblock_in_1
    (walk_at "zs"; repeat (simp only [bmOk_dget1 e, zBM_dget1 e, e0, Option.getD_none]; walk_at "zs"))
    all_goals exact ⟨rfl, rfl⟩
  have f : Ok (prg.C (k + 2) f_files_fault [z, .ob c] h) fun y h' => y = .tup [.str "no superblock", .int 1] ∧ h' = h := by
    rw [prg.call (b := m_files_fault) rfl h rfl]
    unfold m_files_fault
    walk_at "zs"
    refine s.mono ?_
    rintro y h' ⟨rfl, rfl⟩
    unfold m_files_fault_1
    walk_at "zs"
    all_goals exact ⟨rfl, rfl⟩
  rw [prg.call (b := m_contents_fault) rfl h rfl]
  unfold m_contents_fault
  walk_at "zs"
  refine f.mono ?_
  rintro y h' ⟨rfl, rfl⟩
  unfold m_contents_fault_1 m_contents_fault_2
  walk_at "zs"
  all_goals exact ⟨rfl, rfl⟩
end
end K88
namespace K88
open PySem PySem.Spec PyProof.Rows L2 Zm
local macro_rules | `(tactic| walk_at "zs") => `(tactic| try simp only [runD_Ok, r_dE_var, r_dE_lit, r_dE_glb, r_dE_bin, r_dE_neg, r_dE_cmp, r_dE_cmp2, r_dE_and, r_dE_or, r_dE_not, r_dE_ite, r_dE_tup, r_dE_lst, r_dE_dct0, r_dE_idx, r_dE_slc, r_dE_fld, r_dE_call, r_dE_mk, r_dE_mth, r_dE_mkd, r_dE_dcomp, r_dE_maxd, r_dI_enum, r_dG_flds, r_dFlds_nil, r_dFlds_cons, r_dS_gfor, r_dS_try, r_dY_fn, r_dY_mth, r_dE_bf, r_dE_bm, r_dE_isT, r_dE_comp, r_dX_tr, r_dX_and, r_dX_or, r_dX_not, r_dEs_nil, r_dEs_cons, r_dP_no, r_dP_some, r_dC_no, r_dC_some, r_dI_seq, r_dI_rng1, r_dI_rng2, r_dI_rrng1, r_dG_nm, r_dG_tup, r_dG_sub, r_dG_fld, r_dS_asg, r_dS_aug, r_dS_expr, r_dS_ret, r_dS_retN, r_dS_ite, r_dS_while, r_dS_for, r_dS_pass, r_dS_brk, r_dS_cont, r_dS_never, r_dSs_nil, r_dSs_cons, tgt, zBin, zCmp, Res.bind_ok, Ok_ok, Ok_bind, Ok_guard, List.length_cons, List.length_nil, List.map_cons, List.map_nil, List.replicate, List.nil_append, List.cons_append, List.getElem?_cons_zero, List.getElem?_cons_succ, List.set_cons_zero, List.set_cons_succ, Nat.reduceSub, Nat.reduceAdd, zAdd_int, zSub_int, zAddI_int, zMul_int, zDiv_int, zMod_int, zPow_int, zNeg_int, zLt_int, zLe_int, zGt_int, zGe_int, zEq_int, zNe_int, zIs_non, zIsNot_non, zTru_bl, zTru_int, zTru_non, zTru_tup, atI_0, atI_1, atI_2, atI_3, oRes_some, zIdx_tup, zBF_int, zBF_len_tup, zBF_list_tup, zBF_min, newL_eq, if_true, if_false, Bool.false_eq_true, reduceIte, zIsN, Bool.not_true, Bool.not_false, beq_self_eq_true, bne_self_eq_false, Int.reduceBNe, Int.reduceEq, decide_true, decide_false, true_and, and_true, if_true, if_false, List.isEmpty_cons, List.isEmpty_nil, setAll, List.all_cons, List.all_nil, flatZ, wipeZ, line_0, line_1, line_2, line_3, line_4, line_5, line_6, line_7, line_8, line_9])

def mkM (p0 : List Int) (s1 s2 s3 : Option (List Int)) (hd pl : Int) (qu : List Int) : LogM := ⟨0 :: p0, [headS s1, headS s2, headS s3], hd, pl, qu⟩
def slS (W : Nat) : Option (List Int) → Prop
  | none => True
  | some t => t.length = W
theorem flS_len {W : Nat} : ∀ {s : Option (List Int)}, slS W s → (flS W s).length = W + 1
  | none, _ => by simp [flS]
  | some t, h => by simpa [flS, slS] using h
def rowR (W : Nat) (p0 : List Int) (s1 s2 s3 : Option (List Int)) (hd pl : Int) (qu : List Int) (n : Nat) : List Int :=
  p0 ++ flS W s1 ++ flS W s2 ++ flS W s3 ++ [hd, pl, (qu.length : Int)] ++ qu ++ List.replicate n 0
theorem row_ok {L : Lay} {W rb : Nat} {p0 : List Int} {s1 s2 s3 : Option (List Int)} {hd pl : Int} {qu : List Int} (o : LOk L) (hW : L.last = (W : Int)) (hrb : L.rb = (rb : Int)) (lp : p0.length = W) (l1 : slS W s1) (l2 : slS W s2) (l3 : slS W s3) (hq : qu.length ≤ 4) :
    RowOk L W (mkM p0 s1 s2 s3 hd pl qu) p0 s1 s2 s3 (32 * rb - (W + 3 * (W + 1) + 3 + qu.length)) (rowR W p0 s1 s2 s3 hd pl qu (32 * rb - (W + 3 * (W + 1) + 3 + qu.length))) ∧ (rowR W p0 s1 s2 s3 hd pl qu (32 * rb - (W + 3 * (W + 1) + 3 + qu.length))).length = 32 * rb ∧ W + 3 * (W + 1) + 3 + qu.length ≤ 32 * rb := by
  have rg := o.rng
  have b : W + 3 * (W + 1) + 3 + qu.length ≤ 32 * rb := by rcases o with rfl | rfl | rfl <;> simp only [L0, L1, L2] at hW hrb <;> omega
  have ln : (rowR W p0 s1 s2 s3 hd pl qu (32 * rb - (W + 3 * (W + 1) + 3 + qu.length))).length = 32 * rb := by
    unfold rowR
    simp only [List.length_append, List.length_cons, List.length_nil, List.length_replicate, lp, flS_len l1, flS_len l2, flS_len l3]
    omega
  refine ⟨⟨hW, rfl, rfl, lp, flS_len l1, flS_len l2, flS_len l3, rfl, ?_, ?_⟩, ln, b⟩
  · show ((qu.length : Nat) : Int) ≤ L.S
    omega
  · omega
def chk : Option (Str × Int) → Z
  | none => .tup [.str "present", .str "no superblock", .int 1]
  | some w => .tup [.str "log", .str w.1, .int w.2]
theorem check (k d : Nat) (df : List (Nat × Z)) (la se wa : Nat) (L : Lay) (bs ws : List Z) (W : Nat) (m : LogM) (p0 : List Int) (s1 s2 s3 : Option (List Int)) (n : Nat) (R : List Int) (rb : Nat) (h : Mh) (g : DevE h d df la se wa L bs ws) (o : LOk L) (r : RowOk L W m p0 s1 s2 s3 n R) (c : RecOk L bs R rb m) (wf : ∀ x, Wf (rdZ bs x)) (U : List Int) (q : LogG L m U) (tn : ∀ lv db, LiveOk m lv → DblOk m db → tf L m lv db = none) (h1 : m.pres[1]? = some 0) :
    Ok (prg.C (k + 6) f_check [.ob d] h) fun z h' => ∃ lv, LiveOk m lv ∧ z = chk (firstB L bs lv) := by
  rw [prg.call (b := m_check) rfl h rfl]
  unfold m_check
  walk_at "zs"
  refine (recover (k + 1) d df la se wa L bs ws W m p0 s1 s2 s3 n R rb h g o r c).mono ?_
  rintro z h1' ⟨lg, fs, pr, sl, qu, zs, rfl, gl, p1, fd, fl⟩
  have x : LD h1' lg fs la pr sl qu zs d df se wa L bs ws m := ⟨gl, g.pre p1, fd, fl, wf⟩
  unfold m_check_1
  walk_at "zs"
  refine (log_fault k x o U q tn).mono ?_
  rintro z h2 ⟨lv, ol, rfl, p2⟩
  have x := x.pre p2
  unfold m_check_2
  cases hf : firstB L bs lv with
  | some w =>
    (walk_at "zs"; repeat (simp only [fz]; walk_at "zs"))
    exact ⟨lv, ol, by rw [hf]; rfl⟩
  | none =>
    (walk_at "zs"; repeat (simp only [fz]; walk_at "zs"))
    unfold m_check_3
    (walk_at "zs"; repeat (simp only [x.g.zlay, x.g.zpres]; walk_at "zs"))
    refine (contents_of (k + 1) x (by have := (q.tab m.pres (List.mem_cons_self)).2; omega) h1).mono ?_
    rintro z h3 ⟨c', kvs, rfl, e, e0, p3⟩
    walk_at "zs"
    refine (contents_fault (k + 2) c' kvs _ h3 e e0).mono ?_
    rintro z h4 ⟨rfl, rfl⟩
    unfold m_check_4
    walk_at "zs"
    exact ⟨lv, ol, by rw [hf]; rfl⟩
/-- what the law puts onto a device -/
structure BLok (L : Lay) (BL : List (Int × Z)) : Prop where
  rng : ∀ p ∈ BL, 2 * L.rb ≤ p.1 ∧ p.1 < 2 * L.rb + (L.S - 1) * L.B
  wf : ∀ p ∈ BL, Wf p.2
  nd : (BL.map (·.1)).Nodup
  len : BL.length < 1000
theorem LOk.dev {L : Lay} (o : LOk L) : L.dev = 2 * L.rb + L.S * L.B := by rcases o with rfl | rfl | rfl <;> rfl
def pzZ (p : Int × Z) : Z := .tup [.int p.1, p.2]
theorem rd_wf {bs : List Z} (h : ∀ (i : Nat) z, bs[i]? = some z → Wf z) (x : Int) : Wf (rdZ bs x) := by
  unfold rdZ
  split
  · exact .non
  · cases e : bs[x.toNat]? with
    | none => exact .non
    | some z => exact h _ z e
/-- the end of the law's device: the row's parts, then the blocks -/
theorem law_device_end (k la b d blo : Nat) (L : Lay) (W rb : Nat) (m : LogM) (p0 : List Int) (s1 s2 s3 : Option (List Int)) (n : Nat) (R : List Int) (BL : List (Int × Z)) (h : Mh) (o : LOk L) (l : LayAt h la L) (eb : h[b]? = some (.lst (R.map Z.int))) (lR : R.length = 32 * rb) (eB : h[blo]? = some (.lst (BL.map pzZ))) (hrb : L.rb = (rb : Int)) (bl : BLok L BL) (hd : 0 ≤ m.head ∧ L.B ≤ m.place) (hq : m.queue = [L.S - 1]) {o1 o4 o6 : Option Z} (ho6 : o6 = none) :
    Ok (dSs (prg.C (k + 4)) prg.gt.fl m__law_device_4 [some (.ob la), o1, some (.ob blo), some (.ob b), o4, none, o6] h) fun fl h' => match fl with
      | .ret z => ∃ dd df se wa bs ws, z = .ob dd ∧ DevE h' dd df la se wa L bs ws ∧ RecOk L bs R rb m ∧ (∀ x, Wf (rdZ bs x)) ∧ ∀ p ∈ BL, rdZ bs p.1 = p.2
      | _ => False := by
  subst ho6
  have rg := o.rng
  have hdev := o.dev
  have n0 : 0 ≤ (L.S - 1) * L.B := Int.mul_nonneg (by omega) (by omega)
  have n1 : (L.S - 1) * L.B = L.S * L.B - L.B := by rw [Int.sub_mul, Int.one_mul]
  have Rw : 32 * rb < 1000 := by omega
  unfold m__law_device_4
  walk_at "zs"
  have p4 : Pre h (h ++ [Ob.ins 3 []]) := .app
  refine (device_init (k + 3) h.length la L (h ++ [Ob.ins 3 []]) get_new (l.pre p4) o (by simp)).mono ?_
  rintro z h5 ⟨rfl, df, se, wa, g, old, hlen, hse, hwa⟩
  walk_at "zs"
  have hbl := lt_of_get eb
  have hBl := lt_of_get eB
  have eb5 : h5[b]? = some (.lst (R.map Z.int)) := old b _ (by omega) (p4.get eb)
  have eB5 : h5[blo]? = some (.lst (BL.map pzZ)) := old blo _ (by omega) (p4.get eB)
  unfold m__law_device_5
  (walk_at "zs"; repeat (simp only [g.lay.rb]; walk_at "zs"))
  have hdv : (L.dev.toNat : Int) = L.dev := by omega
  refine for_rng (fun i ρ h' => (∃ x, ρ = [some (.ob la), o1, some (.ob blo), some (.ob b), x, some (.ob h.length), none]) ∧ h'[b]? = some (.lst (R.map Z.int)) ∧ h'[blo]? = some (.lst (BL.map pzZ)) ∧ ∃ bs ws, DevE h' h.length df la se wa L bs ws ∧ ws.length = i ∧ bs.length = L.dev.toNat ∧
      (∀ j, j < i → bs[j]? = some (.tup [.int 5, .int 9, .int (j : Nat), .tup (((R.drop (32 * j)).take 32).map Z.int)])) ∧ (∀ j, i ≤ j → j < L.dev.toNat → bs[j]? = some .non)) (by omega)
    ⟨⟨_, rfl⟩, eb5, eB5, _, [], g, rfl, by simp, fun j hj => absurd hj (Nat.not_lt_zero _), fun j _ hj => by rw [List.getElem?_replicate, if_pos hj]⟩ ?_ ?_
  · rintro i ρ h' hi ⟨⟨x, rfl⟩, eb, eB, bs, ws, g, lw, lb, b1, b2⟩
    have hi2 : i < rb := by omega
    walk_at "zs"
    rw [Int.zero_add]
    (walk_at "zs"; repeat (simp only [g.ins, g.n2, g.lay.fan]; walk_at "zs"))
    refine ⟨cmulR, ?_⟩
    (walk_at "zs"; repeat (simp only [g.lay.fan]; walk_at "zs"))
    refine ⟨cmulR, ?_⟩
    rw [show (i : Int) * 32 = ((32 * i : Nat) : Int) by omega, show ((i : Int) + 1) * 32 = ((32 * i + 32 : Nat) : Int) by omega]
    rw [zSlc_lst eb, cutZ_mid _ _ _ (by omega) (by rw [List.length_map]; omega), Nat.add_sub_cancel_left, ← List.map_drop, ← List.map_take]
    walk_at "zs"
    rw [zBF_tuple_lst get_new]
    walk_at "zs"
    have q : Pre h' (h' ++ [Ob.lst (((R.drop (32 * i)).take 32).map Z.int)]) := .app
    refine (device_write (k + 2) h.length df la se wa L bs ws i _ _ (g.pre q) (by omega) (by omega)).mono ?_
    rintro z h6 ⟨rfl, w', g6, c6⟩
    walk_at "zs"
    refine ⟨⟨_, rfl⟩, c6.get (by simp; omega) (q.get eb), c6.get (by simp; omega) (q.get eB), _, _, g6, by simp [lw], by simp [lb], fun j hj => ?_, fun j h1 h2 => ?_⟩
    · by_cases hji : i = j
      · subst hji
        rw [List.getElem?_set_self (by omega)]
      · rw [List.getElem?_set_ne hji]
        exact b1 j (by omega)
    · rw [List.getElem?_set_ne (by omega)]
      exact b2 j (by omega) h2
  · rintro ρ h' ⟨⟨x, rfl⟩, eb, eB, bs0, ws0, g, lw, lb0, b1, b2⟩
    have hn : (L.rb - 0).toNat = rb := by omega
    rw [hn] at b1 b2 lw
    unfold m__law_device_6
    walk_at "zs"
    refine for_lst (fun d' ρ h' => (∃ y, ρ = [some (.ob la), o1, some (.ob blo), some (.ob b), x, some (.ob h.length), y]) ∧ h'[blo]? = some (.lst (BL.map pzZ)) ∧ ∃ D R' bs ws, BL = D ++ R' ∧ D.length = d'.length ∧ DevE h' h.length df la se wa L bs ws ∧ ws.length = rb + d'.length ∧ bs.length = L.dev.toNat ∧ (∀ p ∈ D, bs[p.1.toNat]? = some p.2) ∧ ∀ j : Nat, (∀ p ∈ D, p.1.toNat ≠ j) → bs[j]? = bs0[j]?) eB
      ⟨⟨_, rfl⟩, eB, [], BL, bs0, ws0, rfl, rfl, g, lw, lb0, fun _ q => absurd q List.not_mem_nil, fun _ _ => rfl⟩ (fun _ _ _ i => i.2.1) ?_ ?_
    · clear g eB eb
      rintro d' z r ρ h' ez ⟨⟨y, rfl⟩, eB, D, R', bs, ws, eBL, lD, g, lw, lb, c1, c2⟩
      have hlen := congrArg List.length ez
      simp at hlen
      have blen := bl.len
      cases R' with
      | nil =>
        have := congrArg List.length eBL
        simp at this
        omega
      | cons p R' =>
        have hz : z = pzZ p := by
          rw [eBL, List.map_append] at ez
          have := (List.append_inj ez (by simp [lD])).2
          simp at this
          exact this.1.symm
        subst hz
        have hp := bl.rng p (by rw [eBL]; simp)
        have nd := bl.nd
        rw [eBL, List.map_append, List.map_cons, List.nodup_append] at nd
        have hpn : ∀ p' ∈ D, p'.1.toNat ≠ p.1.toNat := fun p' h1 h2 => by
          have a1 := bl.rng p' (by rw [eBL]; simp [h1])
          refine nd.2.2 p'.1 (List.mem_map.mpr ⟨p', h1, rfl⟩) p.1 List.mem_cons_self ?_
          omega
        unfold pzZ
        (walk_at "zs"; repeat (simp only [g.ins, g.n2]; walk_at "zs"))
        rw [show p.1 = ((p.1.toNat : Nat) : Int) by omega]
        refine (device_write (k + 2) h.length df la se wa L bs ws p.1.toNat p.2 _ g (by omega) (by omega)).mono ?_
        rintro z h6 ⟨rfl, w', g6, c6⟩
        walk_at "zs"
        refine ⟨⟨_, rfl⟩, c6.get (by simp; omega) eB, D ++ [p], R', _, _, by simp [eBL], by simp [lD], g6, by simp [lw]; omega, by simp [lb], fun p' h1 => ?_, fun j hj => ?_⟩
        · rcases List.mem_append.mp h1 with h1 | h1
          · rw [List.getElem?_set_ne (fun q => hpn p' h1 q.symm)]
            exact c1 p' h1
          · simp at h1
            subst h1
            rw [List.getElem?_set_self (by omega)]
        · rw [List.getElem?_set_ne (hj p (by simp))]
          exact c2 j fun p' h1 => hj p' (by simp [h1])
    · clear g eB eb
      rintro ρ h' ⟨⟨y, rfl⟩, eB, D, R', bs, ws, eBL, lD, g, lw, lb, c1, c2⟩
      have hR : R' = [] := by
        have h3 := congrArg List.length eBL
        rw [List.length_append] at h3
        rw [List.length_map] at lD
        exact List.length_eq_zero_iff.mp (by omega)
      subst hR
      rw [List.append_nil] at eBL
      subst eBL
      have val : ∀ (i : Nat) z, bs[i]? = some z → Wf z := by
        intro i z e
        by_cases hi : ∃ p ∈ BL, p.1.toNat = i
        · obtain ⟨p, h1, h2⟩ := hi
          rw [← h2, c1 p h1] at e
          cases e
          exact bl.wf p h1
        · rw [c2 i (fun p h1 h2 => hi ⟨p, h1, h2⟩)] at e
          by_cases hr : i < rb
          · rw [b1 i hr] at e
            cases e
            exact .blk 5 9 _ _ (by omega) (fun q => by omega)
          · have := (List.getElem?_eq_some_iff.mp e).1
            rw [b2 i (by omega) (by omega)] at e
            cases e
            exact .non
      have blank : ∀ x : Int, 0 ≤ x → L.rb ≤ x → (x < 2 * L.rb ∨ 2 * L.rb + (L.S - 1) * L.B ≤ x) → rdZ bs x = .non := by
        intro x h0 h1 h2
        unfold rdZ
        rw [if_neg (by omega), c2 x.toNat (fun p hp q => by have := bl.rng p hp; omega)]
        by_cases h3 : x.toNat < L.dev.toNat
        · rw [b2 _ (by omega) h3]; rfl
        · rw [List.getElem?_eq_none (by omega)]; rfl
      unfold m__law_device_7
      walk_at "zs"
      refine ⟨_, df, se, wa, bs, ws, rfl, g, ⟨hrb, fun i hi => ?_, lR, blank _ (by omega) (by omega) (.inl (by omega)), ?_, by omega, ⟨hd.1, by omega, .inr (.inl hd.2)⟩, ?_⟩, rd_wf val, fun p hp => ?_⟩
      · rw [c2 i (fun p hp q => by have := bl.rng p hp; omega)]
        exact b1 i hi
      · intro i z e hn
        have w := val i z e
        cases w with
        | non => cases hn
        | blk c s kk y hs h4 => exact ⟨_, _, _, rfl, hs⟩
      · intro s r e
        rw [hq] at e
        cases e
        exact ⟨by omega, .inr (blank _ (by omega) (by omega) (.inr (by omega)))⟩
      · unfold rdZ
        have := bl.rng p hp
        rw [if_neg (by omega), c1 p hp]
        rfl
end K88
namespace K88
open PySem PySem.Spec PyProof.Rows L2 Zm
local macro_rules | `(tactic| walk_at "zs") => `(tactic| try simp only [runD_Ok, r_dE_var, r_dE_lit, r_dE_glb, r_dE_bin, r_dE_neg, r_dE_cmp, r_dE_cmp2, r_dE_and, r_dE_or, r_dE_not, r_dE_ite, r_dE_tup, r_dE_lst, r_dE_dct0, r_dE_idx, r_dE_slc, r_dE_fld, r_dE_call, r_dE_mk, r_dE_mth, r_dE_mkd, r_dE_dcomp, r_dE_maxd, r_dI_enum, r_dG_flds, r_dFlds_nil, r_dFlds_cons, r_dS_gfor, r_dS_try, r_dY_fn, r_dY_mth, r_dE_bf, r_dE_bm, r_dE_isT, r_dE_comp, r_dX_tr, r_dX_and, r_dX_or, r_dX_not, r_dEs_nil, r_dEs_cons, r_dP_no, r_dP_some, r_dC_no, r_dC_some, r_dI_seq, r_dI_rng1, r_dI_rng2, r_dI_rrng1, r_dG_nm, r_dG_tup, r_dG_sub, r_dG_fld, r_dS_asg, r_dS_aug, r_dS_expr, r_dS_ret, r_dS_retN, r_dS_ite, r_dS_while, r_dS_for, r_dS_pass, r_dS_brk, r_dS_cont, r_dS_never, r_dSs_nil, r_dSs_cons, tgt, zBin, zCmp, Res.bind_ok, Ok_ok, Ok_bind, Ok_guard, List.length_cons, List.length_nil, List.map_cons, List.map_nil, List.replicate, List.nil_append, List.cons_append, List.getElem?_cons_zero, List.getElem?_cons_succ, List.set_cons_zero, List.set_cons_succ, Nat.reduceSub, Nat.reduceAdd, zAdd_int, zSub_int, zAddI_int, zMul_int, zDiv_int, zMod_int, zPow_int, zNeg_int, zLt_int, zLe_int, zGt_int, zGe_int, zEq_int, zNe_int, zIs_non, zIsNot_non, zTru_bl, zTru_int, zTru_non, zTru_tup, atI_0, atI_1, atI_2, atI_3, oRes_some, zIdx_tup, zBF_int, zBF_len_tup, zBF_list_tup, zBF_min, newL_eq, if_true, if_false, Bool.false_eq_true, reduceIte, zIsN, Bool.not_true, Bool.not_false, beq_self_eq_true, bne_self_eq_false, Int.reduceBNe, Int.reduceEq, decide_true, decide_false, true_and, and_true, if_true, if_false, List.isEmpty_cons, List.isEmpty_nil, setAll, List.all_cons, List.all_nil, flatZ, wipeZ, line_0, line_1, line_2, line_3, line_4, line_5, line_6, line_7, line_8, line_9])

theorem law_device (k a tb blo : Nat) (L : Lay) (W rb : Nat) (tz : List Z) (p0 : List Int) (s1 s2 s3 : Option (List Int)) (BL : List (Int × Z)) (h : Mh) (o : LOk L) (l : LayAt h a L) (et : h[tb]? = some (.lst tz)) (sat : SlotsAt h tz [some (0 :: p0), headS s1, headS s2, headS s3]) (eB : h[blo]? = some (.lst (BL.map pzZ))) (bl : BLok L BL)
    (hW : L.last = (W : Int)) (hrb : L.rb = (rb : Int)) (lp : p0.length = W) (l1 : slS W s1) (l2 : slS W s2) (l3 : slS W s3) :
    Ok (prg.C (k + 5) f__law_device [.ob a, .ob tb, .ob blo] h) fun z h' => ∃ dd df se wa bs ws, z = .ob dd ∧ DevE h' dd df a se wa L bs ws ∧ RecOk L bs (rowR W p0 s1 s2 s3 (L.S - 2) L.B [L.S - 1] (32 * rb - (W + 3 * (W + 1) + 3 + [L.S - 1].length))) rb (mkM p0 s1 s2 s3 (L.S - 2) L.B [L.S - 1]) ∧ (∀ x, Wf (rdZ bs x)) ∧ ∀ p ∈ BL, rdZ bs p.1 = p.2 := by
  have rg := o.rng
  obtain ⟨ro, lR, bR⟩ := row_ok (hd := L.S - 2) (pl := L.B) (qu := [L.S - 1]) o hW hrb lp l1 l2 l3 (by simp)
  have Rw : 32 * rb < 1000 := by omega
  match tz, sat with
  | [z0, z1, z2, z3], .cons t0 (.cons t1 (.cons t2 (.cons t3 .nil))) =>
  obtain ⟨b0, rfl, e0⟩ := t0
  rw [prg.call (b := m__law_device) rfl h rfl]
  unfold m__law_device
  walk_at "zs"
  unfold m__law_device_1
  walk_at "zs"
  have p1 : Pre h (h ++ [Ob.lst []]) := .app
  have e1 : (h ++ [Ob.lst []])[h.length]? = some (.lst (([] : List Int).map Z.int)) := get_new
  generalize h ++ [Ob.lst []] = H at p1 e1
  have tail : ∀ (s : Option (List Int)) (z : Z) (row : List Int) (b : Nat) (h' : Mh) (Q : Nat → Mh → Prop), slS W s → SlotAt h z (headS s) → True := fun _ _ _ _ _ _ _ _ => trivial
  refine for_rng (fun i ρ h' => (∃ b x, ρ = [some (.ob a), some (.ob tb), some (.ob blo), some (.ob b), x, none, none] ∧ h.length ≤ b ∧ h'[b]? = some (.lst (((p0 :: [flS W s1, flS W s2, flS W s3]).take i).flatten.map Z.int))) ∧ Pre h h') (by omega)
    ⟨⟨h.length, _, rfl, Nat.le_refl _, e1⟩, p1⟩ ?_ ?_
  · rintro i ρ h' hi ⟨⟨b, x, rfl, hb, eb⟩, p⟩
    have hi4 : i < 4 := by simpa using hi
    have key : ∀ (s : Option (List Int)) (z : Z) (i : Nat), 0 < i → i < 4 → slS W s → SlotAt h z (headS s) → [Z.ob b0, z1, z2, z3][i]? = some z → ((p0 :: [flS W s1, flS W s2, flS W s3]).take (i + 1)).flatten = ((p0 :: [flS W s1, flS W s2, flS W s3]).take i).flatten ++ flS W s → ((p0 :: [flS W s1, flS W s2, flS W s3]).take i).flatten.length ≤ 600 →
        h'[b]? = some (.lst (((p0 :: [flS W s1, flS W s2, flS W s3]).take i).flatten.map Z.int)) → Ok (dSs (prg.C (k + 4)) prg.gt.fl m__law_device_1b0 [some (.ob a), some (.ob tb), some (.ob blo), some (.ob b), some (.int i), none, none] h') fun fl h' => match fl with
          | .nx ρ => (∃ b x, ρ = [some (.ob a), some (.ob tb), some (.ob blo), some (.ob b), x, none, none] ∧ h.length ≤ b ∧ h'[b]? = some (.lst (((p0 :: [flS W s1, flS W s2, flS W s3]).take (i + 1)).flatten.map Z.int))) ∧ Pre h h'
          | _ => False := by
      intro s z i hi hi4 ls sz ez eF lF eb
      generalize ((p0 :: [flS W s1, flS W s2, flS W s3]).take i).flatten = row at eF lF eb
      rw [eF]
      have hi0 : decide ((0 : Int) < (i : Int)) = true := by simp; omega
      have zi : ∀ {h' : Mh}, Pre h h' → zIdx (.ob tb) (.int (i : Int)) h' = .ok z h' := fun q => zIdx_new ez (q.get et)
      unfold m__law_device_1b0 m__law_device_1b1
      cases s with
      | none =>
        obtain rfl : z = .non := sz
        (walk_at "zs"; repeat (simp only [hi0, bmOk_append eb, zi p, zBF, zBM_append eb (lt_line (by simp; omega))]; walk_at "zs"))
        have p2 : Pre h (h'.set b (.lst (row.map Z.int ++ [.int 0]))) := p.set hb
        have e2 : (h'.set b (.lst (row.map Z.int ++ [.int 0])))[b]? = some (.lst ((row ++ [0]).map Z.int)) := by rw [get_set eb]; simp
        generalize h'.set b (.lst (row.map Z.int ++ [.int 0])) = h2 at p2 e2
        (walk_at "zs"; repeat (simp only [zi p2]; walk_at "zs"))
        have p3 : Pre h2 (h2 ++ [Ob.lst [.int 0]]) := .app
        have l3 := l.pre (p2.trans p3)
        (walk_at "zs"; repeat (simp only [l3.last]; walk_at "zs"))
        rw [hW, mul_non get_new (by omega)]
        walk_at "zs"
        have p4 : Pre h2 ((h2 ++ [Ob.lst [.int 0]]) ++ [Ob.lst (List.replicate W (Z.int 0))]) := p3.trans .app
        rw [zAdd_lsts (p4.get e2) get_new (by simp; omega)]
        walk_at "zs"
        refine ⟨⟨_, _, rfl, ?_, ?_⟩, p2.trans (p4.trans .app)⟩
        · have := p2.len
          simp; omega
        · rw [get_new]; simp [flS]
      | some t =>
        obtain ⟨bt, rfl, ebt⟩ := sz
        have ht : t.length = W := ls
        (walk_at "zs"; repeat (simp only [hi0, bmOk_append eb, zi p, zBF, zBM_append eb (lt_line (by simp; omega))]; walk_at "zs"))
        have p2 : Pre h (h'.set b (.lst (row.map Z.int ++ [.int 1]))) := p.set hb
        have e2 : (h'.set b (.lst (row.map Z.int ++ [.int 1])))[b]? = some (.lst ((row ++ [1]).map Z.int)) := by rw [get_set eb]; simp
        generalize h'.set b (.lst (row.map Z.int ++ [.int 1])) = h2 at p2 e2
        (walk_at "zs"; repeat (simp only [zi p2]; walk_at "zs"))
        rw [zSlc_lst (p2.get ebt), show (1 : Int) = ((1 : Nat) : Int) by rfl, cutZ_drop]
        walk_at "zs"
        rw [zAdd_lsts (get_app e2) get_new (by simp; omega)]
        walk_at "zs"
        refine ⟨⟨_, _, rfl, ?_, ?_⟩, p2.trans (.trans .app .app)⟩
        · have := p2.len
          simp; omega
        · rw [get_new]; simp [flS]
    have f1 := flS_len l1
    have f2 := flS_len l2
    have f3 := flS_len l3
    walk_at "zs"
    rw [Int.zero_add]
    match i, hi4 with
    | 0, _ =>
      unfold m__law_device_1b0 m__law_device_1b1
      have zi : zIdx (.ob tb) (.int ((0 : Nat) : Int)) h' = .ok (.ob b0) h' := zIdx_new rfl (p.get et)
      (walk_at "zs"; repeat (simp only [zi, Int.ofNat_eq_natCast, Int.natCast_zero, Int.lt_irrefl]; walk_at "zs"))
      have zi : zIdx (.ob tb) (.int 0) h' = .ok (.ob b0) h' := zi
      (walk_at "zs"; repeat (simp only [zi]; walk_at "zs"))
      rw [zSlc_lst (p.get e0), show (1 : Int) = ((1 : Nat) : Int) by rfl, cutZ_drop]
      walk_at "zs"
      rw [zAdd_lsts (get_app eb) get_new (by simp [lp]; omega)]
      walk_at "zs"
      refine ⟨⟨_, _, rfl, ?_, ?_⟩, p.trans (.trans .app .app)⟩
      · have := p.len
        simp; omega
      · rw [get_new]; simp
    | 1, _ => exact (key s1 z1 1 (by omega) (by omega) l1 t1 rfl (by simp) (by simp; omega) eb).mono fun fl h' q => by cases fl <;> first | exact q | exact q.elim
    | 2, _ => exact (key s2 z2 2 (by omega) (by omega) l2 t2 rfl (by simp) (by simp; omega) eb).mono fun fl h' q => by cases fl <;> first | exact q | exact q.elim
    | 3, _ => exact (key s3 z3 3 (by omega) (by omega) l3 t3 rfl (by simp) (by simp; omega) eb).mono fun fl h' q => by cases fl <;> first | exact q | exact q.elim
  · rintro ρ h' ⟨⟨b, x, rfl, hb, eb⟩, p⟩
    have eb : h'[b]? = some (.lst ((p0 ++ flS W s1 ++ flS W s2 ++ flS W s3).map Z.int)) := by
      rw [eb]
      simp
    have f1 := flS_len l1
    have f2 := flS_len l2
    have f3 := flS_len l3
    have lF : (p0 ++ flS W s1 ++ flS W s2 ++ flS W s3).length = W + 3 * (W + 1) := by
      simp only [List.length_append, lp, f1, f2, f3]; omega
    have eR : rowR W p0 s1 s2 s3 (L.S - 2) L.B [L.S - 1] (32 * rb - (W + 3 * (W + 1) + 3 + [L.S - 1].length)) = (p0 ++ flS W s1 ++ flS W s2 ++ flS W s3) ++ [L.S - 2, L.B, 1, L.S - 1] ++ List.replicate (32 * rb - (W + 3 * (W + 1) + 3 + [L.S - 1].length)) 0 := by
      unfold rowR
      simp
    simp only [List.length_cons, List.length_nil, Nat.zero_add] at eR ro lR
    rw [eR] at ro lR
    simp only [eR]
    generalize p0 ++ flS W s1 ++ flS W s2 ++ flS W s3 = row at eb lF ro lR ⊢
    have b2 : W + 3 * (W + 1) + 4 ≤ 32 * rb := bR
    unfold m__law_device_2
    have l' := l.pre p
    (walk_at "zs"; repeat (simp only [l'.S, l'.B]; walk_at "zs"))
    have p2 : Pre h' (h' ++ [Ob.lst [.int (L.S - 2), .int L.B, .int 1, .int (L.S - 1)]]) := .app
    rw [zAdd_lsts (p2.get eb) get_new (by simp; omega)]
    walk_at "zs"
    have e3 : ((h' ++ [Ob.lst [.int (L.S - 2), .int L.B, .int 1, .int (L.S - 1)]]) ++ [Ob.lst (row.map Z.int ++ [.int (L.S - 2), .int L.B, .int 1, .int (L.S - 1)])])[(h' ++ [Ob.lst [.int (L.S - 2), .int L.B, .int 1, .int (L.S - 1)]]).length]? = some (.lst ((row ++ [L.S - 2, L.B, 1, L.S - 1]).map Z.int)) := by rw [get_new]; simp
    have p3 : Pre h' ((h' ++ [Ob.lst [.int (L.S - 2), .int L.B, .int 1, .int (L.S - 1)]]) ++ [Ob.lst (row.map Z.int ++ [.int (L.S - 2), .int L.B, .int 1, .int (L.S - 1)])]) := p2.trans .app
    generalize (h' ++ [Ob.lst [.int (L.S - 2), .int L.B, .int 1, .int (L.S - 1)]]).length = B4 at e3
    generalize (h' ++ [Ob.lst [.int (L.S - 2), .int L.B, .int 1, .int (L.S - 1)]]) ++ [Ob.lst (row.map Z.int ++ [.int (L.S - 2), .int L.B, .int 1, .int (L.S - 1)])] = h4 at e3 p3
    have p4 := p.trans p3
    unfold m__law_device_3
    walk_at "zs"
    have p5 : Pre h4 (h4 ++ [Ob.lst [.int 0]]) := .app
    have l5 := l.pre (p4.trans p5)
    (walk_at "zs"; repeat (simp only [l5.rb, l5.fan]; walk_at "zs"))
    refine ⟨cmulR, ?_⟩
    (walk_at "zs"; repeat (simp only [zBF_len_lst (p5.get e3), List.length_map]; walk_at "zs"))
    have eN : L.rb * 32 - ((row ++ [L.S - 2, L.B, 1, L.S - 1]).length : Int) = ((32 * rb - (W + 3 * (W + 1) + 3 + 1) : Nat) : Int) := by
      simp only [List.length_append, List.length_cons, List.length_nil, lF]
      omega
    rw [eN, mul_non get_new (by omega)]
    walk_at "zs"
    have p6 := p5.trans (Pre.app (l := [Ob.lst (List.replicate (32 * rb - (W + 3 * (W + 1) + 3 + 1)) (Z.int 0))]))
    rw [zAdd_lsts (p6.get e3) get_new (by simp; omega)]
    walk_at "zs"
    have p7 := p4.trans (p6.trans (Pre.app (l := [Ob.lst ((row ++ [L.S - 2, L.B, 1, L.S - 1]).map Z.int ++ List.replicate (32 * rb - (W + 3 * (W + 1) + 3 + 1)) (Z.int 0))])))
    refine (law_device_end k a _ tb blo L W rb (mkM p0 s1 s2 s3 (L.S - 2) L.B [L.S - 1]) p0 s1 s2 s3 0 (row ++ [L.S - 2, L.B, 1, L.S - 1] ++ List.replicate (32 * rb - (W + 3 * (W + 1) + 3 + 1)) 0) BL _ o (l.pre p7) (by rw [get_new]; simp) lR (p7.get eB) hrb bl ⟨by show (0 : Int) ≤ L.S - 2; omega, Int.le_refl _⟩ rfl rfl).mono ?_
    intro fl h' q
    cases fl <;> first | exact q | exact q.elim
end K88
namespace K88
open PySem PySem.Spec PyProof.Rows L2 Zm
local macro_rules | `(tactic| walk_at "zs") => `(tactic| try simp only [runD_Ok, r_dE_var, r_dE_lit, r_dE_glb, r_dE_bin, r_dE_neg, r_dE_cmp, r_dE_cmp2, r_dE_and, r_dE_or, r_dE_not, r_dE_ite, r_dE_tup, r_dE_lst, r_dE_dct0, r_dE_idx, r_dE_slc, r_dE_fld, r_dE_call, r_dE_mk, r_dE_mth, r_dE_mkd, r_dE_dcomp, r_dE_maxd, r_dI_enum, r_dG_flds, r_dFlds_nil, r_dFlds_cons, r_dS_gfor, r_dS_try, r_dY_fn, r_dY_mth, r_dE_bf, r_dE_bm, r_dE_isT, r_dE_comp, r_dX_tr, r_dX_and, r_dX_or, r_dX_not, r_dEs_nil, r_dEs_cons, r_dP_no, r_dP_some, r_dC_no, r_dC_some, r_dI_seq, r_dI_rng1, r_dI_rng2, r_dI_rrng1, r_dG_nm, r_dG_tup, r_dG_sub, r_dG_fld, r_dS_asg, r_dS_aug, r_dS_expr, r_dS_ret, r_dS_retN, r_dS_ite, r_dS_while, r_dS_for, r_dS_pass, r_dS_brk, r_dS_cont, r_dS_never, r_dSs_nil, r_dSs_cons, tgt, zBin, zCmp, Res.bind_ok, Ok_ok, Ok_bind, Ok_guard, List.length_cons, List.length_nil, List.map_cons, List.map_nil, List.replicate, List.nil_append, List.cons_append, List.getElem?_cons_zero, List.getElem?_cons_succ, List.set_cons_zero, List.set_cons_succ, Nat.reduceSub, Nat.reduceAdd, zAdd_int, zSub_int, zAddI_int, zMul_int, zDiv_int, zMod_int, zPow_int, zNeg_int, zLt_int, zLe_int, zGt_int, zGe_int, zEq_int, zNe_int, zIs_non, zIsNot_non, zTru_bl, zTru_int, zTru_non, zTru_tup, atI_0, atI_1, atI_2, atI_3, oRes_some, zIdx_tup, zBF_int, zBF_len_tup, zBF_list_tup, zBF_min, newL_eq, if_true, if_false, Bool.false_eq_true, reduceIte, zIsN, Bool.not_true, Bool.not_false, beq_self_eq_true, bne_self_eq_false, Int.reduceBNe, Int.reduceEq, decide_true, decide_false, true_and, and_true, if_true, if_false, List.isEmpty_cons, List.isEmpty_nil, setAll, List.all_cons, List.all_nil, flatZ, wipeZ, line_0, line_1, line_2, line_3, line_4, line_5, line_6, line_7, line_8, line_9])

theorem law_number (k : Nat) (ns : List Int) (i : Int) (h : Mh) (e : h[0]? = some (.fro (ns.map Z.int))) : Ok (prg.C (k + 1) f__law_number [.ob 0, .int i] h) fun z h' => (∃ n, z = .int n) ∧ h' = h := by
  rw [prg.call (b := m__law_number) rfl h rfl]
  unfold m__law_number m__law_number_1
  walk_at "zs"
  simp only [zBF_len_fro e, List.length_map]
  walk_at "zs"
  have key : ∀ c : Int, Ok (dSs (prg.C k) prg.gt.fl m__law_number_2 [some (.ob 0), some (.int i), some (.int c), none, none] h) fun g h' => match g with
      | .nx _ => (∃ n, Z.non = Z.int n) ∧ h' = h
      | .ret z => (∃ n, z = Z.int n) ∧ h' = h
      | _ => False := by
    intro c
    have key2 : ∀ c : Int, Ok (dSs (prg.C k) prg.gt.fl m__law_number_3 [some (.ob 0), some (.int i), some (.int c), none, none] h) fun g h' => match g with
        | .nx _ => (∃ n, Z.non = Z.int n) ∧ h' = h
        | .ret z => (∃ n, z = Z.int n) ∧ h' = h
        | _ => False := by
      intro c
      have key3 : Ok (dSs (prg.C k) prg.gt.fl m__law_number_4 [some (.ob 0), some (.int i), some (.int c), none, none] h) fun g h' => match g with
          | .nx _ => (∃ n, Z.non = Z.int n) ∧ h' = h
          | .ret z => (∃ n, z = Z.int n) ∧ h' = h
          | _ => False := by
        unfold m__law_number_4
        walk_at "zs"
        refine ⟨cmulR, cmulR, by omega, ?_⟩
        unfold m__law_number_5
        walk_at "zs"
        refine ⟨cmulR, cmulR, by omega, ?_⟩
        unfold m__law_number_6
        walk_at "zs"
        exact ⟨cmulR, cmulR, by omega, _, rfl⟩
      unfold m__law_number_3
      walk_at "zs"
      refine ⟨⟨by omega, by omega, by decide⟩, ?_⟩
      by_cases h1 : ((10 : Int) ^ (9 : Int).toNat ≤ c)
      · simp only [h1]
        walk_at "zs"
        simp only [zBF_len_fro e, List.length_map]
        walk_at "zs"
        by_cases h2 : i < (ns.length : Int)
        · simp only [h2]
          walk_at "zs"
          exact ⟨_, rfl⟩
        · simp only [h2]
          walk_at "zs"
          exact key3
      · simp only [h1]
        walk_at "zs"
        exact key3
    unfold m__law_number_2
    walk_at "zs"
    by_cases h1 : c < 0
    · simp only [h1]
      walk_at "zs"
      exact ⟨cmulL, key2 _⟩
    · simp only [h1]
      walk_at "zs"
      exact key2 _
  by_cases h1 : (0 : Int) < (ns.length : Int)
  · simp only [h1]
    walk_at "zs"
    simp only [zBF_len_fro e, List.length_map]
    walk_at "zs"
    refine ⟨h1, ?_⟩
    have b1 := Int.emod_nonneg i (show (ns.length : Int) ≠ 0 by omega)
    have b2 := Int.emod_lt_of_pos i h1
    have : atI (ns.map Z.int) (i % (ns.length : Int)) = some (.int ns[(i % (ns.length : Int)).toNat]) := atI_get b1 (by
      rw [List.getElem?_map, List.getElem?_eq_getElem (by omega)]
      rfl)
    simp only [zIdx_fro e, this]
    walk_at "zs"
    exact key _
  · simp only [h1]
    walk_at "zs"
    exact key _
def BoxB (h : Mh) (b : Nat) : Prop := ∃ n, h[b]? = some (.lst [.int n])
theorem takeB (k b : Nat) (s : Int) (h : Mh) (e : BoxB h b) (hs : 0 < s) (hs2 : s < 4000000) : Ok (prg.C (k + 1) f__law_take [.ob b, .int s] h) fun z h' => ∃ v, z = .int v ∧ 0 ≤ v ∧ v < s ∧ BoxB h' b ∧ Chg [b] h h' := by
  obtain ⟨n, e⟩ := e
  refine (take k b n s h e hs hs2).mono ?_
  rintro z h' ⟨rfl, rfl⟩
  exact ⟨_, rfl, Int.emod_nonneg n (by omega), Int.emod_lt_of_pos n hs, ⟨_, get_set e⟩, .set (.inl (by simp))⟩
theorem LayAt.chg {h h' : Mh} {a b : Nat} {L : Lay} (l : LayAt h a L) (bx : BoxB h b) (c : Chg [b] h h') : LayAt h' a L := by
  obtain ⟨n, e⟩ := bx
  obtain ⟨fs, q, r⟩ := l
  exact ⟨fs, c.get (by simp; exact ne_of_get q e (by simp)) q, r⟩
theorem BsAt.chg {h h' : Mh} {a b : Nat} (l : BsAt h a) (bx : BoxB h b) (c : Chg [b] h h') : BsAt h' a := by
  obtain ⟨n, e⟩ := bx
  obtain ⟨fs, q, r⟩ := l
  exact ⟨fs, c.get (by simp; exact ne_of_get q e (by simp)) q, r⟩
theorem BsAt.pre {h h' : Mh} {a : Nat} (l : BsAt h a) (p : Pre h h') : BsAt h' a := by
  obtain ⟨fs, q, r⟩ := l
  exact ⟨fs, p.get q, r⟩
theorem BsAt.z {h : Mh} {a : Nat} (l : BsAt h a) : zFld (.ob a) a_block_size h = .ok (.int 64) h := by
  obtain ⟨fs, q, r⟩ := l
  rw [zFld_ins q, r]
  rfl
theorem BoxB.pre {h h' : Mh} {b : Nat} (x : BoxB h b) (p : Pre h h') : BoxB h' b := by
  obtain ⟨n, e⟩ := x
  exact ⟨n, p.get e⟩
theorem maxL_set {n : Nat} {x : Int} {i : Nat} (h0 : 0 ≤ x) (hi : i < n) : maxL ((List.replicate n (0 : Int)).set i x) = x := by
  have key : ∀ (l : List Int) (a : Int), (∀ y ∈ l, y ≤ a) → l.foldl max a = a := by
    intro l
    induction l with
    | nil => intro a _; rfl
    | cons y l ih =>
      intro a h
      rw [List.foldl_cons, Int.max_eq_left (h y List.mem_cons_self)]
      exact ih a fun z hz => h z (List.mem_cons_of_mem _ hz)
  have key2 : ∀ (n i : Nat) (a : Int), 0 ≤ a → a ≤ x → i < n → ((List.replicate n (0 : Int)).set i x).foldl max a = x := by
    intro n
    induction n with
    | zero => intro i a _ _ h; omega
    | succ n ih =>
      intro i a ha hax h
      cases i with
      | zero =>
        rw [List.replicate_succ, List.set_cons_zero, List.foldl_cons, Int.max_eq_right hax]
        exact key _ x fun y hy => by rw [List.eq_of_mem_replicate hy]; exact h0
      | succ i =>
        rw [List.replicate_succ, List.set_cons_succ, List.foldl_cons, Int.max_eq_left ha]
        exact ih i a ha hax (by omega)
  cases n with
  | zero => omega
  | succ n =>
    cases i with
    | zero =>
      rw [List.replicate_succ, List.set_cons_zero]
      exact key _ x fun y hy => by rw [List.eq_of_mem_replicate hy]; exact h0
    | succ i =>
      rw [List.replicate_succ, List.set_cons_succ]
      exact key2 n i 0 (Int.le_refl _) h0 (by omega)
theorem node_wf (n i : Nat) (x s k : Int) (hs : s ≤ 9) (hn : 0 < n) : Wf (.tup [.int 4, .int s, .int k, .tup (((List.replicate n (0 : Int)).set i x).map Z.int)]) := by
  refine .blk 4 s k _ hs fun _ => ?_
  cases q : (List.replicate n (0 : Int)).set i x with
  | nil =>
    have := congrArg List.length q
    simp at this
    omega
  | cons y ys => exact ⟨y, ys, rfl⟩
theorem node_bad (L : Lay) (n i : Nat) (x s k : Int) (h0 : 0 ≤ x) (hi : i < n) : badZ L (.tup [.int 4, .int s, .int k, .tup (((List.replicate n (0 : Int)).set i x).map Z.int)]) = if L.last < x then some (("a block does not fit the layout" : Str)) else none := by
  simp only [badZ, intsOf_map, Int.reduceEq, if_false, if_true, maxL_set h0 hi]
theorem law_good (k la b : Nat) (L : Lay) (h : Mh) (o : LOk L) (l : LayAt h la L) (bs : BsAt h la) (bx : BoxB h b) : Ok (prg.C (k + 2) f__law_good [.ob la, .ob b] h) fun z h' => Wf z ∧ badZ L z = none ∧ Chg [b] h h' := by
  have rg := o.rng
  rw [prg.call (b := m__law_good) rfl h rfl]
  unfold m__law_good
  walk_at "zs"
  refine (takeB k b 2 h bx (by omega) (by omega)).mono ?_
  rintro z h1 ⟨v, rfl, v0, v1, bx1, c1⟩
  have l := l.chg bx c1
  have bs := bs.chg bx c1
  have hv : v = 0 ∨ v = 1 := by omega
  rcases hv with rfl | rfl
  · walk_at "zs"
    refine (takeB k b 256 h1 bx1 (by omega) (by omega)).mono ?_
    rintro z h2 ⟨u, rfl, u0, u1, bx2, c2⟩
    have bs := bs.chg bx1 c2
    walk_at "zs"
    have p3 : Pre h2 (h2 ++ [Ob.lst [.int u]]) := .app
    (walk_at "zs"; repeat (simp only [(bs.pre p3).z]; walk_at "zs"))
    rw [show (64 : Int) = ((64 : Nat) : Int) by rfl, mul_non get_new (by omega)]
    walk_at "zs"
    have e4 : ((h2 ++ [Ob.lst [.int u]]) ++ [Ob.lst (List.replicate 64 (Z.int u))])[(h2 ++ [Ob.lst [.int u]]).length]? = some (.lst (List.replicate 64 (Z.int u))) := get_new
    simp only [List.replicate] at e4
    rw [zBF_tuple_lst e4]
    walk_at "zs"
    exact ⟨.blk 3 4 1 _ (by omega) (fun q => by omega), rfl, c1.trans (c2.trans (.of_pre (p3.trans .app)))⟩
  · unfold m__law_good_1
    walk_at "zs"
    have p2 : Pre h1 (h1 ++ [Ob.lst [.int 0]]) := .app
    (walk_at "zs"; repeat (simp only [(l.pre p2).fan]; walk_at "zs"))
    rw [show (32 : Int) = ((32 : Nat) : Int) by rfl, mul_non get_new (by omega)]
    walk_at "zs"
    have p3 : Pre h1 ((h1 ++ [Ob.lst [.int 0]]) ++ [Ob.lst (List.replicate 32 (Z.int 0))]) := p2.trans .app
    have e3 : ((h1 ++ [Ob.lst [.int 0]]) ++ [Ob.lst (List.replicate 32 (Z.int 0))])[(h1 ++ [Ob.lst [.int 0]]).length]? = some (.lst ((List.replicate 32 (0 : Int)).map Z.int)) := get_new
    have hB : h1.length ≤ (h1 ++ [Ob.lst [.int 0]]).length := by simp
    simp only [List.replicate] at p3 e3
    generalize (h1 ++ [Ob.lst [.int 0]]).length = B at e3 hB
    generalize hH : (h1 ++ [Ob.lst [.int 0]]) ++ [Ob.lst _] = h3 at p3 e3
    obtain ⟨ZL, hZL, e3⟩ : ∃ ZL : List Int, ZL = List.replicate 32 0 ∧ h3[B]? = some (.lst (ZL.map Z.int)) := ⟨_, rfl, e3⟩
    have lZ : ZL.length = 32 := by rw [hZL]; simp
    have l := l.pre p3
    have bx3 := bx1.pre p3
    have c3 : Chg [b] h h3 := c1.trans (.of_pre p3)
    unfold m__law_good_2
    (walk_at "zs"; repeat (simp only [l.last]; walk_at "zs"))
    have p4 : Pre h3 (h3 ++ [Ob.lst [.int 1, .int L.last, .int 0]]) := .app
    have e4 : (h3 ++ [Ob.lst [.int 1, .int L.last, .int 0]])[h3.length]? = some (.lst [.int 1, .int L.last, .int 0]) := get_new
    have e3 := p4.get e3
    have l := l.pre p4
    have bx4 := bx3.pre p4
    have c4 := c3.trans (.of_pre p4)
    have hbl : b < h1.length := by
      obtain ⟨n, e⟩ := bx1
      exact lt_of_get e
    have h3l := p3.len
    generalize hN : h3.length = N at e4 h3l
    generalize h3 ++ [Ob.lst [.int 1, .int L.last, .int 0]] = h4 at e3 e4 l bx4 c4
    refine (takeB k b 3 h4 bx4 (by omega) (by omega)).mono ?_
    rintro z h5 ⟨u, rfl, u0, u1, bx5, c5⟩
    have e3 := c5.get (by simp; omega) e3
    have e4 := c5.get (by simp; omega) e4
    have l := l.chg bx4 c5
    have hx : ∃ x : Int, 0 ≤ x ∧ x ≤ L.last ∧ zIdx (.ob N) (.int u) h5 = .ok (.int x) h5 := by
      have : u = 0 ∨ u = 1 ∨ u = 2 := by omega
      rcases this with rfl | rfl | rfl
      · exact ⟨1, by omega, by omega, by rw [zIdx_lst e4, atI_0]; rfl⟩
      · exact ⟨L.last, by omega, by omega, by rw [zIdx_lst e4, atI_1]; rfl⟩
      · exact ⟨0, by omega, by omega, by rw [zIdx_lst e4, atI_2]; rfl⟩
    obtain ⟨x, x0, x1, ex⟩ := hx
    (walk_at "zs"; repeat (simp only [ex, l.fan]; walk_at "zs"))
    refine (takeB k b 32 h5 bx5 (by omega) (by omega)).mono ?_
    rintro z h6 ⟨w, rfl, w0, w1, bx6, c6⟩
    have e3 := c6.get (by simp; omega) e3
    rw [zSet_lst e3 (j := w.toNat) (by rw [ixN_get (by omega) (by simp [lZ]; omega)]), ← List.map_set]
    have e7 := get_set (o := .lst ((ZL.set w.toNat x).map Z.int)) e3
    have c7 : Chg [b] h (h6.set B (.lst ((ZL.set w.toNat x).map Z.int))) := (c4.trans (c5.trans c6)).setN (by have := c1.1; omega)
    generalize h6.set B (.lst ((ZL.set w.toNat x).map Z.int)) = h7 at e7 c7
    unfold m__law_good_3
    walk_at "zs"
    rw [zBF_tuple_lst e7]
    walk_at "zs"
    subst hZL
    exact ⟨node_wf 32 _ x 4 2 (by omega) (by omega), by rw [node_bad L 32 _ x 4 2 x0 (by omega), if_neg (by omega)], c7⟩
theorem law_bad (k la b : Nat) (L : Lay) (h : Mh) (o : LOk L) (l : LayAt h la L) (bx : BoxB h b) : Ok (prg.C (k + 2) f__law_bad [.ob la, .ob b] h) fun z h' => ∃ y e, z = .tup [y, .str e] ∧ Wf y ∧ badZ L y = some e ∧ PyData.strOk e = true ∧ Chg [b] h h' := by
  have rg := o.rng
  have m1 : PyData.strOk ("a needed block is no payload" : Str) = true := by decide +kernel
  have m2 : PyData.strOk ("a block does not fit the layout" : Str) = true := by decide +kernel
  rw [prg.call (b := m__law_bad) rfl h rfl]
  unfold m__law_bad
  walk_at "zs"
  refine (takeB k b 6 h bx (by omega) (by omega)).mono ?_
  rintro z h1 ⟨v, rfl, v0, v1, bx1, c1⟩
  have l := l.chg bx c1
  unfold m__law_bad_1
  have hv : v = 0 ∨ v = 1 ∨ v = 2 ∨ v = 3 ∨ (v ≠ 0 ∧ v ≠ 1 ∧ v ≠ 2 ∧ v ≠ 3) := by omega
  rcases hv with rfl | rfl | rfl | rfl | ⟨n0, n1, n2, n3⟩
  · walk_at "zs"
    exact ⟨_, _, rfl, .non, rfl, m1, c1⟩
  · unfold m__law_bad_2
    walk_at "zs"
    exact ⟨_, _, rfl, .blk 1 4 1 _ (by omega) (fun q => by omega), rfl, m1, c1⟩
  · unfold m__law_bad_2 m__law_bad_3
    walk_at "zs"
    have p2 : Pre h1 (h1 ++ [Ob.lst [.int 0]]) := .app
    (walk_at "zs"; repeat (simp only [(l.pre p2).fan]; walk_at "zs"))
    rw [show (32 : Int) = ((32 : Nat) : Int) by rfl, mul_non get_new (by omega)]
    walk_at "zs"
    have e4 : ((h1 ++ [Ob.lst [.int 0]]) ++ [Ob.lst (List.replicate 32 (Z.int 0))])[(h1 ++ [Ob.lst [.int 0]]).length]? = some (.lst (List.replicate 32 (Z.int 0))) := get_new
    simp only [List.replicate] at e4
    rw [zBF_tuple_lst e4]
    walk_at "zs"
    exact ⟨_, _, rfl, .blk 5 4 1 _ (by omega) (fun q => by omega), rfl, m1, c1.trans (.of_pre (p2.trans .app))⟩
  · unfold m__law_bad_2 m__law_bad_3 m__law_bad_4
    walk_at "zs"
    exact ⟨_, _, rfl, .blk 2 4 1 _ (by omega) (fun q => by omega), rfl, m1, c1⟩
  · unfold m__law_bad_2 m__law_bad_3 m__law_bad_4 m__law_bad_5
    (walk_at "zs"; repeat (simp only [n0, n1, n2, n3]; walk_at "zs"))
    have p2 : Pre h1 (h1 ++ [Ob.lst [.int 0]]) := .app
    (walk_at "zs"; repeat (simp only [(l.pre p2).fan]; walk_at "zs"))
    rw [show (32 : Int) = ((32 : Nat) : Int) by rfl, mul_non get_new (by omega)]
    walk_at "zs"
    have p3 : Pre h1 ((h1 ++ [Ob.lst [.int 0]]) ++ [Ob.lst (List.replicate 32 (Z.int 0))]) := p2.trans .app
    have e3 : ((h1 ++ [Ob.lst [.int 0]]) ++ [Ob.lst (List.replicate 32 (Z.int 0))])[(h1 ++ [Ob.lst [.int 0]]).length]? = some (.lst ((List.replicate 32 (0 : Int)).map Z.int)) := get_new
    have hB : h1.length ≤ (h1 ++ [Ob.lst [.int 0]]).length := by simp
    simp only [List.replicate] at p3 e3
    generalize (h1 ++ [Ob.lst [.int 0]]).length = B at e3 hB
    generalize hH : (h1 ++ [Ob.lst [.int 0]]) ++ [Ob.lst _] = h3 at p3 e3
    obtain ⟨ZL, hZL, e3⟩ : ∃ ZL : List Int, ZL = List.replicate 32 0 ∧ h3[B]? = some (.lst (ZL.map Z.int)) := ⟨_, rfl, e3⟩
    have lZ : ZL.length = 32 := by rw [hZL]; simp
    have l := l.pre p3
    have bx3 := bx1.pre p3
    have c3 : Chg [b] h h3 := c1.trans (.of_pre p3)
    have hbl : b < h1.length := by
      obtain ⟨n, e⟩ := bx1
      exact lt_of_get e
    unfold m__law_bad_6
    (walk_at "zs"; repeat (simp only [l.last]; walk_at "zs"))
    refine (takeB k b 60000 h3 bx3 (by omega) (by omega)).mono ?_
    rintro z h5 ⟨u, rfl, u0, u1, bx5, c5⟩
    have e3 := c5.get (by simp; omega) e3
    have l := l.chg bx3 c5
    (walk_at "zs"; repeat (simp only [l.fan]; walk_at "zs"))
    refine (takeB k b 32 h5 bx5 (by omega) (by omega)).mono ?_
    rintro z h6 ⟨w, rfl, w0, w1, bx6, c6⟩
    have e3 := c6.get (by simp; omega) e3
    rw [zSet_lst e3 (j := w.toNat) (by rw [ixN_get (by omega) (by simp [lZ]; omega)]), ← List.map_set]
    have e7 := get_set (o := .lst ((ZL.set w.toNat (L.last + 1 + u)).map Z.int)) e3
    have c7 : Chg [b] h (h6.set B (.lst ((ZL.set w.toNat (L.last + 1 + u)).map Z.int))) := (c3.trans (c5.trans c6)).setN (by have := c1.1; omega)
    generalize h6.set B (.lst ((ZL.set w.toNat (L.last + 1 + u)).map Z.int)) = h7 at e7 c7
    unfold m__law_bad_7
    walk_at "zs"
    rw [zBF_tuple_lst e7]
    walk_at "zs"
    subst hZL
    exact ⟨_, _, rfl, node_wf 32 _ _ 4 3 (by omega) (by omega), by rw [node_bad L 32 _ _ 4 3 (by omega) (by omega), if_pos (by omega)], m2, c7⟩
end K88
namespace K88
open PySem PySem.Spec PyProof.Rows L2 Zm
local macro_rules | `(tactic| walk_at "zs") => `(tactic| try simp only [runD_Ok, r_dE_var, r_dE_lit, r_dE_glb, r_dE_bin, r_dE_neg, r_dE_cmp, r_dE_cmp2, r_dE_and, r_dE_or, r_dE_not, r_dE_ite, r_dE_tup, r_dE_lst, r_dE_dct0, r_dE_idx, r_dE_slc, r_dE_fld, r_dE_call, r_dE_mk, r_dE_mth, r_dE_mkd, r_dE_dcomp, r_dE_maxd, r_dI_enum, r_dG_flds, r_dFlds_nil, r_dFlds_cons, r_dS_gfor, r_dS_try, r_dY_fn, r_dY_mth, r_dE_bf, r_dE_bm, r_dE_isT, r_dE_comp, r_dX_tr, r_dX_and, r_dX_or, r_dX_not, r_dEs_nil, r_dEs_cons, r_dP_no, r_dP_some, r_dC_no, r_dC_some, r_dI_seq, r_dI_rng1, r_dI_rng2, r_dI_rrng1, r_dG_nm, r_dG_tup, r_dG_sub, r_dG_fld, r_dS_asg, r_dS_aug, r_dS_expr, r_dS_ret, r_dS_retN, r_dS_ite, r_dS_while, r_dS_for, r_dS_pass, r_dS_brk, r_dS_cont, r_dS_never, r_dSs_nil, r_dSs_cons, tgt, zBin, zCmp, Res.bind_ok, Ok_ok, Ok_bind, Ok_guard, List.length_cons, List.length_nil, List.map_cons, List.map_nil, List.replicate, List.nil_append, List.cons_append, List.getElem?_cons_zero, List.getElem?_cons_succ, List.set_cons_zero, List.set_cons_succ, Nat.reduceSub, Nat.reduceAdd, zAdd_int, zSub_int, zAddI_int, zMul_int, zDiv_int, zMod_int, zPow_int, zNeg_int, zLt_int, zLe_int, zGt_int, zGe_int, zEq_int, zNe_int, zIs_non, zIsNot_non, zTru_bl, zTru_int, zTru_non, zTru_tup, atI_0, atI_1, atI_2, atI_3, oRes_some, zIdx_tup, zBF_int, zBF_len_tup, zBF_list_tup, zBF_min, newL_eq, if_true, if_false, Bool.false_eq_true, reduceIte, zIsN, Bool.not_true, Bool.not_false, beq_self_eq_true, bne_self_eq_false, Int.reduceBNe, Int.reduceEq, decide_true, decide_false, true_and, and_true, if_true, if_false, List.isEmpty_cons, List.isEmpty_nil, setAll, List.all_cons, List.all_nil, flatZ, wipeZ, line_0, line_1, line_2, line_3, line_4, line_5, line_6, line_7, line_8, line_9])

/-! ### the plain law -/
def Tin (s1 s2 s3 : Option (List Int)) (t : List Int) : Prop := s1 = some t ∨ s2 = some t ∨ s3 = some t
def En (p0 : List Int) (s1 s2 s3 : Option (List Int)) (n : Nat) (x : Int) : Prop := x ≠ 0 ∧ (p0[n]? = some x ∨ ∃ t, Tin s1 s2 s3 t ∧ t[n]? = some x)
def live (m : LogM) (x : Int) : Prop := x ≠ 0 ∧ ∃ t ∈ tabsOf m, x ∈ t
def dbl (m : LogM) (x : Int) : Prop := x ≠ 0 ∧ ∃ i j, i ≠ j ∧ (i, x) ∈ occs m ∧ (j, x) ∈ occs m
section
variable {p0 : List Int} {s1 s2 s3 : Option (List Int)} {hd pl : Int} {qu : List Int}
theorem tabs_mk (t : List Int) : t ∈ tabsOf (mkM p0 s1 s2 s3 hd pl qu) ↔ ∃ u, t = 0 :: u ∧ (u = p0 ∨ Tin s1 s2 s3 u) := by
  unfold tabsOf mkM Tin
  simp only [List.mem_cons, List.mem_filterMap, id]
  constructor
  · rintro (rfl | ⟨a, ha, rfl⟩)
    · exact ⟨p0, rfl, .inl rfl⟩
    · rcases ha with ha | ha | ha | ha
      · cases s1 with
        | none => cases ha
        | some u => simp only [headS, Option.some.injEq] at ha; exact ⟨u, ha, .inr (.inl rfl)⟩
      · cases s2 with
        | none => cases ha
        | some u => simp only [headS, Option.some.injEq] at ha; exact ⟨u, ha, .inr (.inr (.inl rfl))⟩
      · cases s3 with
        | none => cases ha
        | some u => simp only [headS, Option.some.injEq] at ha; exact ⟨u, ha, .inr (.inr (.inr rfl))⟩
      · cases ha
  · rintro ⟨u, rfl, rfl | rfl | rfl | rfl⟩
    · exact .inl rfl
    · exact .inr ⟨_, .inl rfl, rfl⟩
    · exact .inr ⟨_, .inr (.inl rfl), rfl⟩
    · exact .inr ⟨_, .inr (.inr (.inl rfl)), rfl⟩
theorem live_iff (x : Int) : live (mkM p0 s1 s2 s3 hd pl qu) x ↔ ∃ n, En p0 s1 s2 s3 n x := by
  unfold live En
  constructor
  · rintro ⟨h0, t, ht, hx⟩
    obtain ⟨u, rfl, hu⟩ := (tabs_mk t).mp ht
    rcases List.mem_cons.mp hx with h | h
    · exact absurd h h0
    · obtain ⟨n, hn⟩ := List.mem_iff_getElem?.mp h
      refine ⟨n, h0, ?_⟩
      rcases hu with rfl | hu
      · exact .inl hn
      · exact .inr ⟨u, hu, hn⟩
  · rintro ⟨n, h0, h | ⟨u, hu, h⟩⟩
    · exact ⟨h0, _, (tabs_mk _).mpr ⟨p0, rfl, .inl rfl⟩, List.mem_cons_of_mem _ (List.mem_of_getElem? h)⟩
    · exact ⟨h0, _, (tabs_mk _).mpr ⟨u, rfl, .inr hu⟩, List.mem_cons_of_mem _ (List.mem_of_getElem? h)⟩
theorem occT_mem (u : List Int) (i x : Int) : (i, x) ∈ occT (0 :: u) ↔ ∃ n : Nat, i = (n : Int) + 1 ∧ u[n]? = some x := by
  unfold occT
  rw [List.zipIdx_cons, List.drop_one, List.tail_cons, List.mem_map]
  constructor
  · rintro ⟨⟨y, n⟩, hm, he⟩
    simp only [Prod.mk.injEq] at he
    obtain ⟨rfl, rfl⟩ := he
    rw [List.mem_zipIdx_iff_le_and_getElem?_sub] at hm
    refine ⟨n - 1, ?_, by simpa using hm.2⟩
    have := hm.1
    simp at this
    omega
  · rintro ⟨n, rfl, hn⟩
    refine ⟨(x, n + 1), ?_, by simp⟩
    rw [List.mem_zipIdx_iff_le_and_getElem?_sub]
    simp [hn]
theorem occs_mem (i x : Int) : (i, x) ∈ occs (mkM p0 s1 s2 s3 hd pl qu) ↔ ∃ n : Nat, i = (n : Int) + 1 ∧ (p0[n]? = some x ∨ ∃ t, Tin s1 s2 s3 t ∧ t[n]? = some x) := by
  unfold occs
  rw [List.mem_flatMap]
  constructor
  · rintro ⟨t, ht, hx⟩
    obtain ⟨u, rfl, hu⟩ := (tabs_mk t).mp ht
    obtain ⟨n, hi, hn⟩ := (occT_mem u i x).mp hx
    refine ⟨n, hi, ?_⟩
    rcases hu with rfl | hu
    · exact .inl hn
    · exact .inr ⟨u, hu, hn⟩
  · rintro ⟨n, hi, h | ⟨u, hu, h⟩⟩
    · exact ⟨_, (tabs_mk _).mpr ⟨p0, rfl, .inl rfl⟩, (occT_mem _ _ _).mpr ⟨n, hi, h⟩⟩
    · exact ⟨_, (tabs_mk _).mpr ⟨u, rfl, .inr hu⟩, (occT_mem _ _ _).mpr ⟨n, hi, h⟩⟩
theorem dbl_iff (x : Int) : dbl (mkM p0 s1 s2 s3 hd pl qu) x ↔ ∃ n k, n ≠ k ∧ En p0 s1 s2 s3 n x ∧ En p0 s1 s2 s3 k x := by
  unfold dbl
  constructor
  · rintro ⟨h0, i, j, hij, h1, h2⟩
    obtain ⟨n, rfl, g1⟩ := (occs_mem i x).mp h1
    obtain ⟨k, rfl, g2⟩ := (occs_mem j x).mp h2
    exact ⟨n, k, by omega, ⟨h0, g1⟩, ⟨h0, g2⟩⟩
  · rintro ⟨n, k, hn, ⟨h0, h1⟩, ⟨_, h2⟩⟩
    exact ⟨h0, (n : Int) + 1, (k : Int) + 1, by omega, (occs_mem _ _).mpr ⟨n, rfl, h1⟩, (occs_mem _ _).mpr ⟨k, rfl, h2⟩⟩
end
theorem tf_point {L : Lay} {m : LogM} {w : Str × Int} (h : pointF L m = some w) (lv db : List Int) : tf L m lv db = some w := by simp only [tf, h]
theorem tf_misp {L : Lay} {m : LogM} {a : Int} {lv : List Int} (db : List Int) (hp : pointF L m = none) (o : LiveOk m lv) (ha : live m a) (hm : misp L m a = true) (hu : ∀ x, live m x → x ≠ a → misp L m x = false) : tf L m lv db = some (("a live block is misplaced" : Str), a) := by
  have : lv.find? (misp L m) = some a := by
    cases q : lv.find? (misp L m) with
    | none =>
      have := List.find?_eq_none.mp q a ((o.mem a).mpr ha)
      exact absurd hm this
    | some y =>
      have h1 := List.find?_some q
      have h2 := List.mem_of_find?_eq_some q
      by_cases e : y = a
      · rw [e]
      · have := hu y ((o.mem y).mp h2) e
        rw [h1] at this
        cases this
  simp only [tf, hp, this]
theorem tf_go {L : Lay} {m : LogM} {lv : List Int} (db : List Int) (hp : pointF L m = none) (o : LiveOk m lv) (hu : ∀ x, live m x → misp L m x = false) : tf L m lv db = if db ≠ [] then some (("an address is used twice" : Str), minL db)
      else if L.lim < (lv.length : Int) then some (("too many blocks" : Str), (lv.length : Int))
      else if freeC L m lv = 0 then some (("no segment can be free" : Str), 0)
      else if sharedF m.slots [] ≠ 0 then some (("two snapshots share a superblock" : Str), sharedF m.slots [])
      else none := by
  have : lv.find? (misp L m) = none := List.find?_eq_none.mpr fun x hx => by rw [hu x ((o.mem x).mp hx)]; simp
  simp only [tf, hp, this]
theorem tf_dbl {L : Lay} {m : LogM} {lv db : List Int} {v : Int} (hp : pointF L m = none) (o : LiveOk m lv) (d : DblOk m db) (hu : ∀ x, live m x → misp L m x = false) (hv : dbl m v) (hw : ∀ x, dbl m x → x = v) : tf L m lv db = some (("an address is used twice" : Str), v) := by
  rw [tf_go db hp o hu]
  have h1 : v ∈ db := (d v).mpr hv
  have h2 : ∀ x ∈ db, x = v := fun x hx => hw x ((d x).mp hx)
  rw [if_pos (List.ne_nil_of_mem h1)]
  cases db with
  | nil => cases h1
  | cons y ys =>
    have hy := h2 y List.mem_cons_self
    have : ∀ l : List Int, (∀ x ∈ l, x = v) → l.foldl min v = v := by
      intro l
      induction l with
      | nil => intro _; rfl
      | cons z l ih =>
        intro q
        rw [List.foldl_cons, q z List.mem_cons_self, Int.min_self]
        exact ih fun x hx => q x (List.mem_cons_of_mem _ hx)
    simp only [minL]
    rw [hy, this ys fun x hx => h2 x (List.mem_cons_of_mem _ hx)]
theorem tf_rest {L : Lay} {m : LogM} {lv db : List Int} (hp : pointF L m = none) (o : LiveOk m lv) (d : DblOk m db) (hu : ∀ x, live m x → misp L m x = false) (hd : ∀ x, ¬dbl m x) : tf L m lv db = if L.lim < (lv.length : Int) then some (("too many blocks" : Str), (lv.length : Int))
      else if freeC L m lv = 0 then some (("no segment can be free" : Str), 0)
      else if sharedF m.slots [] ≠ 0 then some (("two snapshots share a superblock" : Str), sharedF m.slots [])
      else none := by
  rw [tf_go db hp o hu]
  have : db = [] := by
    cases db with
    | nil => rfl
    | cons x xs => exact absurd ((d x).mp List.mem_cons_self) (hd x)
  rw [if_neg (by simp [this])]
theorem LiveOk.nodup {m : LogM} {lv : List Int} (o : LiveOk m lv) : lv.Nodup := o.sorted.imp fun {a b} h => by omega
theorem free_pos {L : Lay} {m : LogM} {lv : List Int} (o : LiveOk m lv) (s : Nat) (h1 : (s : Int) < L.S) (h2 : (s : Int) ≠ m.head) (h3 : ∀ x, live m x → segOf L x ≠ some (s : Int)) : freeC L m lv ≠ 0 := by
  unfold freeC
  have : s ∈ (List.range L.S.toNat).filter fun s : Nat => decide ((s : Int) ≠ m.head) && !decide (some (s : Int) ∈ lv.map (segOf L)) := by
    rw [List.mem_filter]
    refine ⟨List.mem_range.mpr (by omega), ?_⟩
    simp only [Bool.and_eq_true, decide_eq_true_eq, Bool.not_eq_true', decide_eq_false_iff_not]
    refine ⟨h2, fun q => ?_⟩
    obtain ⟨x, hx, e⟩ := List.mem_map.mp q
    exact h3 x ((o.mem x).mp hx) e
  have := List.length_pos_of_mem this
  omega
theorem free_zero {L : Lay} {m : LogM} {lv : List Int} (o : LiveOk m lv) (h3 : ∀ s : Nat, (s : Int) < L.S → (s : Int) ≠ m.head → ∃ x, live m x ∧ segOf L x = some (s : Int)) : freeC L m lv = 0 := by
  unfold freeC
  rw [List.length_eq_zero_iff, List.filter_eq_nil_iff]
  intro s hs q
  simp only [Bool.and_eq_true, decide_eq_true_eq, Bool.not_eq_true', decide_eq_false_iff_not] at q
  obtain ⟨x, hx, e⟩ := h3 s (by have := List.mem_range.mp hs; omega) q.1
  exact q.2 (List.mem_map.mpr ⟨x, (o.mem x).mpr hx, e⟩)
theorem seg_at {L : Lay} (o : LOk L) {s p : Int} (h1 : 0 ≤ s) (h2 : s < L.S) (h3 : 0 ≤ p) (h4 : p < L.B) : segOf L (2 * L.rb + s * L.B + p) = some s ∧ plcOf L (2 * L.rb + s * L.B + p) = p := by
  unfold segOf plcOf
  refine ⟨?_, by rcases o with rfl | rfl | rfl <;> simp only [L0, L1, L2] at * <;> omega⟩
  rw [if_neg (by rcases o with rfl | rfl | rfl <;> simp only [L0, L1, L2] at * <;> omega)]
  congr 1
  rcases o with rfl | rfl | rfl <;> simp only [L0, L1, L2] at * <;> omega
theorem logG_mk {L : Lay} {W : Nat} {p0 : List Int} {s1 s2 s3 : Option (List Int)} {hd pl : Int} {qu U : List Int} (hW : 1 ≤ W ∧ W ≤ 60) (lp : p0.length = W) (l1 : slS W s1) (l2 : slS W s2) (l3 : slS W s3) (hq : qu.length ≤ 4) (hU : U.length < 64) (hE : ∀ n x, En p0 s1 s2 s3 n x → x ∈ U) : LogG L (mkM p0 s1 s2 s3 hd pl qu) U := by
  have tl : ∀ u, Tin s1 s2 s3 u → u.length = W := by
    rintro u (rfl | rfl | rfl)
    · exact l1
    · exact l2
    · exact l3
  refine ⟨by show qu.length < 1000; omega, by show 3 < 1000; omega, ?_, ?_, hU, ?_⟩
  · cases s1 <;> cases s2 <;> cases s3 <;> simp only [slS] at l1 l2 l3 <;> simp [occs, tabsOf, mkM, headS, occT, lp, *] <;> omega
  · intro t ht
    obtain ⟨u, rfl, hu⟩ := (tabs_mk t).mp ht
    have : u.length = W := by
      rcases hu with rfl | hu
      · exact lp
      · exact tl u hu
    simp only [List.length_cons]
    omega
  · intro t ht x hx h0
    obtain ⟨n, e⟩ := (live_iff x).mp ⟨h0, t, ht, hx⟩
    exact hE n x e
theorem LOk.W {L : Lay} (o : LOk L) {W : Nat} (hW : L.last = (W : Int)) : 45 ≤ W ∧ W ≤ 60 := by rcases o with rfl | rfl | rfl <;> simp only [L0, L1, L2] at hW <;> omega

theorem slS_none {W : Nat} : slS W none := trivial
def Addr (L : Lay) (x : Int) : Prop := ∃ s u : Int, 0 ≤ s ∧ s ≤ L.S - 2 ∧ 0 ≤ u ∧ u < L.pay ∧ x = 2 * L.rb + s * L.B + (1 + u)
theorem Addr.seg {L : Lay} (o : LOk L) {x : Int} (g : Addr L x) : ∃ s, segOf L x = some s ∧ 0 ≤ s ∧ s ≤ L.S - 2 ∧ 1 ≤ plcOf L x ∧ plcOf L x < L.B ∧ x ≠ 0 ∧ 2 * L.rb ≤ x ∧ x < 2 * L.rb + (L.S - 1) * L.B := by
  have r := o.rng
  obtain ⟨s, u, h1, h2, h3, h4, rfl⟩ := g
  obtain ⟨e1, e2⟩ := seg_at o h1 (by omega) (by omega : 0 ≤ 1 + u) (by omega)
  have n0 := Int.mul_nonneg h1 (show 0 ≤ L.B by omega)
  have n1 : s * L.B ≤ (L.S - 2) * L.B := Int.mul_le_mul_of_nonneg_right h2 (by omega)
  have n2 : (L.S - 1) * L.B = (L.S - 2) * L.B + L.B := by rw [show L.S - 1 = (L.S - 2) + 1 by omega, Int.add_mul, Int.one_mul]
  exact ⟨s, e1, h1, h2, by rw [e2]; omega, by rw [e2]; omega, by omega, by omega, by omega⟩
/-- the tables while the law fills them -/
structure AI (L : Lay) (W : Nat) (i : Nat) (AS p0 p2 : List Int) : Prop where
  nd : AS.Nodup
  addr : ∀ x ∈ AS, Addr L x
  l0 : p0.length = W
  l2 : p2.length = W
  len : AS.length ≤ i
  first : 0 < i → AS ≠ []
  en : ∀ n x, En p0 none (some p2) none n x → x ∈ AS ∧ 1 ≤ n ∧ n ≤ i
  ex : ∀ x ∈ AS, ∃ n, En p0 none (some p2) none n x
  un : ∀ n k x, En p0 none (some p2) none n x → En p0 none (some p2) none k x → n = k
theorem en2 {p0 p2 : List Int} {n : Nat} {x : Int} : En p0 none (some p2) none n x ↔ x ≠ 0 ∧ (p0[n]? = some x ∨ p2[n]? = some x) := by
  unfold En Tin
  constructor
  · rintro ⟨h0, h | ⟨t, ht, h⟩⟩
    · exact ⟨h0, .inl h⟩
    · rcases ht with ht | ht | ht
      · cases ht
      · cases ht; exact ⟨h0, .inr h⟩
      · cases ht
  · rintro ⟨h0, h | h⟩
    · exact ⟨h0, .inl h⟩
    · exact ⟨h0, .inr ⟨_, .inr (.inl rfl), h⟩⟩
theorem AI.init {L : Lay} {W : Nat} : AI L W 0 [] (List.replicate W 0) (List.replicate W 0) := by
  have z : ∀ n x, ¬ En (List.replicate W 0) none (some (List.replicate W 0)) none n x := by
    intro n x h
    obtain ⟨h0, h | h⟩ := en2.mp h <;> exact h0 (List.eq_of_mem_replicate (List.mem_of_getElem? h))
  exact ⟨List.nodup_nil, fun _ h => absurd h List.not_mem_nil, by simp, by simp, Nat.le_refl _, fun h => absurd h (Nat.lt_irrefl _), fun n x h => absurd h (z n x), fun _ h => absurd h List.not_mem_nil, fun n _ x h => absurd h (z n x)⟩
theorem AI.skip {L : Lay} {W i : Nat} {AS p0 p2 : List Int} (a : AI L W i AS p0 p2) (h : AS ≠ []) : AI L W (i + 1) AS p0 p2 :=
  ⟨a.nd, a.addr, a.l0, a.l2, by have := a.len; omega, fun _ => h, fun n x e => by have := a.en n x e; exact ⟨this.1, this.2.1, by omega⟩, a.ex, a.un⟩
theorem AI.put {L : Lay} {W i : Nat} {AS p0 p2 : List Int} (o : LOk L) (a : AI L W i AS p0 p2) {x : Int} (g : Addr L x) (hx : x ∉ AS) (hi : i + 1 < W) {q0 q2 : List Int} (hq : (q0 = p0.set (i + 1) x ∧ q2 = p2) ∨ (q0 = p0 ∧ q2 = p2.set (i + 1) x)) : AI L W (i + 1) (AS ++ [x]) q0 q2 := by
  obtain ⟨_, _, _, _, _, _, x0, _⟩ := g.seg o
  have l0 := a.l0
  have l2 := a.l2
  have key : ∀ n y, En q0 none (some q2) none n y ↔ (n = i + 1 ∧ y = x) ∨ (En p0 none (some p2) none n y) := by
    intro n y
    rw [en2, en2]
    have set_ : ∀ (p : List Int), p.length = W → ((p.set (i + 1) x)[n]? = some y ↔ (n = i + 1 ∧ y = x) ∨ (n ≠ i + 1 ∧ p[n]? = some y)) := by
      intro p lp
      by_cases h : i + 1 = n
      · subst h
        rw [List.getElem?_set_self (by omega)]
        simp [eq_comm]
      · rw [List.getElem?_set_ne h]
        have : ¬ n = i + 1 := fun q => h q.symm
        simp [this]
    have noold : ∀ z, z ≠ 0 → ¬ p0[i + 1]? = some z ∧ ¬ p2[i + 1]? = some z := fun z hz => ⟨fun e => by have := (a.en (i + 1) z (en2.mpr ⟨hz, .inl e⟩)).2.2; omega, fun e => by have := (a.en (i + 1) z (en2.mpr ⟨hz, .inr e⟩)).2.2; omega⟩
    rcases hq with ⟨rfl, rfl⟩ | ⟨rfl, rfl⟩
    · rw [set_ p0 l0]
      constructor
      · rintro ⟨h0, (⟨h1, h2⟩ | ⟨h1, h2⟩) | h1⟩
        · exact .inl ⟨h1, h2⟩
        · exact .inr ⟨h0, .inl h2⟩
        · exact .inr ⟨h0, .inr h1⟩
      · rintro (⟨h1, h2⟩ | ⟨h0, h1 | h1⟩)
        · exact ⟨by rw [h2]; exact x0, .inl (.inl ⟨h1, h2⟩)⟩
        · refine ⟨h0, .inl (.inr ⟨?_, h1⟩)⟩
          rintro rfl
          exact (noold y h0).1 h1
        · exact ⟨h0, .inr h1⟩
    · rw [set_ p2 l2]
      constructor
      · rintro ⟨h0, h1 | (⟨h1, h2⟩ | ⟨h1, h2⟩)⟩
        · exact .inr ⟨h0, .inl h1⟩
        · exact .inl ⟨h1, h2⟩
        · exact .inr ⟨h0, .inr h2⟩
      · rintro (⟨h1, h2⟩ | ⟨h0, h1 | h1⟩)
        · exact ⟨by rw [h2]; exact x0, .inr (.inl ⟨h1, h2⟩)⟩
        · exact ⟨h0, .inl h1⟩
        · refine ⟨h0, .inr (.inr ⟨?_, h1⟩)⟩
          rintro rfl
          exact (noold y h0).2 h1
  refine ⟨?_, fun y hy => ?_, ?_, ?_, by have := a.len; simp; omega, fun _ => by simp, fun n y e => ?_, fun y hy => ?_, fun n k y e1 e2 => ?_⟩
  · exact List.nodup_append.mpr ⟨a.nd, by simp, fun y hy z hz => by simp at hz; subst hz; rintro rfl; exact hx hy⟩
  · rcases List.mem_append.mp hy with h | h
    · exact a.addr y h
    · simp at h; rw [h]; exact g
  · rcases hq with ⟨rfl, rfl⟩ | ⟨rfl, rfl⟩ <;> simp [l0]
  · rcases hq with ⟨rfl, rfl⟩ | ⟨rfl, rfl⟩ <;> simp [l2]
  · rcases (key n y).mp e with ⟨rfl, rfl⟩ | e
    · exact ⟨by simp, by omega, by omega⟩
    · have := a.en n y e
      exact ⟨List.mem_append_left _ this.1, this.2.1, by omega⟩
  · rcases List.mem_append.mp hy with h | h
    · obtain ⟨n, e⟩ := a.ex y h
      exact ⟨n, (key n y).mpr (.inr e)⟩
    · simp at h
      exact ⟨i + 1, (key _ _).mpr (.inl ⟨rfl, h⟩)⟩
  · rcases (key n y).mp e1 with ⟨rfl, rfl⟩ | e1
    · rcases (key k y).mp e2 with ⟨rfl, _⟩ | e2
      · rfl
      · exact absurd (a.en k _ e2).1 hx
    · rcases (key k y).mp e2 with ⟨_, h2⟩ | e2
      · rw [h2] at e1; exact absurd (a.en n _ e1).1 hx
      · exact a.un n k y e1 e2
theorem srt_eq : ∀ {a b : List Int}, a.Pairwise (· < ·) → b.Pairwise (· < ·) → (∀ x, x ∈ a ↔ x ∈ b) → a = b
  | [], [], _, _, _ => rfl
  | [], y :: b, _, _, h => absurd ((h y).mpr List.mem_cons_self) List.not_mem_nil
  | x :: a, [], _, _, h => absurd ((h x).mp List.mem_cons_self) List.not_mem_nil
  | x :: a, y :: b, pa, pb, h => by
    rw [List.pairwise_cons] at pa pb
    have exy : x = y := by
      rcases List.mem_cons.mp ((h x).mp List.mem_cons_self) with e | e
      · exact e
      · rcases List.mem_cons.mp ((h y).mpr List.mem_cons_self) with e2 | e2
        · exact e2.symm
        · have := pb.1 x e
          have := pa.1 y e2
          omega
    subst exy
    rw [srt_eq pa.2 pb.2 fun z => ?_]
    constructor
    · intro hz
      rcases List.mem_cons.mp ((h z).mp (List.mem_cons_of_mem _ hz)) with e | e
      · have := pa.1 z hz
        omega
      · exact e
    · intro hz
      rcases List.mem_cons.mp ((h z).mpr (List.mem_cons_of_mem _ hz)) with e | e
      · have := pb.1 z hz
        omega
      · exact e
theorem k88 {L : Lay} {W i : Nat} {AS p0 p2 : List Int} (o : LOk L) (hW : L.last = (W : Int)) (a : AI L W i AS p0 p2) (hi : i ≤ 12) :
    LogG L (mkM p0 none (some p2) none (L.S - 2) L.B [L.S - 1]) AS ∧ (∀ lv db, LiveOk (mkM p0 none (some p2) none (L.S - 2) L.B [L.S - 1]) lv → DblOk (mkM p0 none (some p2) none (L.S - 2) L.B [L.S - 1]) db → tf L (mkM p0 none (some p2) none (L.S - 2) L.B [L.S - 1]) lv db = none) ∧ (∀ lv, LiveOk (mkM p0 none (some p2) none (L.S - 2) L.B [L.S - 1]) lv → lv = sortI AS) ∧ p0[0]? = some 0 := by
  have rg := o.rng
  have w := o.W hW
  have len := a.len
  have z : ∀ p : List Int, p.length = W → (∀ x : Int, x ≠ 0 → p[0]? = some x → False) → p[0]? = some (0 : Int) := by
    intro p lp h
    cases p with
    | nil => simp at lp; omega
    | cons y r =>
      by_cases hy : y = 0
      · rw [hy]; rfl
      · exact (h y hy rfl).elim
  have z0 := z p0 a.l0 fun x hx e => by have := (a.en 0 x (en2.mpr ⟨hx, .inl e⟩)).2.1; omega
  have z2 := z p2 a.l2 fun x hx e => by have := (a.en 0 x (en2.mpr ⟨hx, .inr e⟩)).2.1; omega
  have lg : ∀ x, live (mkM p0 none (some p2) none (L.S - 2) L.B [L.S - 1]) x → x ∈ AS := fun x hx => by
    obtain ⟨n, e⟩ := (live_iff x).mp hx
    exact (a.en n x e).1
  have hp : pointF L (mkM p0 none (some p2) none (L.S - 2) L.B [L.S - 1]) = none := by
    unfold pointF mkM
    rw [if_neg (by show ¬ L.S ≤ L.S - 2; omega), if_neg (by show ¬ L.B < L.B; omega)]
    have h1 : ¬ L.S ≤ L.S - 1 := by omega
    have h2 : ¬ L.S - 2 = L.S - 1 := by omega
    simp [h1, h2, dupF]
  refine ⟨logG_mk (W := W) (by omega) a.l0 slS_none a.l2 slS_none (by simp) (by omega) fun n x e => (a.en n x e).1, fun lv db ol od => ?_, fun lv ol => ?_, z0⟩
  · rw [tf_rest hp ol od (fun x hx => by
      obtain ⟨s, e, h1, h2, h3, h4, _⟩ := (a.addr x (lg x hx)).seg o
      unfold misp
      rw [e]
      simp only [mkM, List.mem_singleton, Bool.or_eq_false_iff, decide_eq_false_iff_not, Bool.and_eq_false_iff]
      exact ⟨by omega, by omega, .inr (decide_eq_false (show ¬ L.B ≤ plcOf L x by omega))⟩) (fun x hx => by
      obtain ⟨n, k, hn, e1, e2⟩ := (dbl_iff x).mp hx
      exact hn (a.un n k x e1 e2))]
    have ll : lv.length ≤ 12 := by
      have := nd_le ol.nodup fun x hx => lg x ((ol.mem x).mp hx)
      omega
    rw [if_neg (by omega), if_neg (free_pos ol (L.S - 1).toNat (by omega) (by show _ ≠ L.S - 2; omega) fun x hx => by
      obtain ⟨s, e, _, hs, _⟩ := (a.addr x (lg x hx)).seg o
      rw [e]
      intro q
      simp only [Option.some.injEq] at q
      omega)]
    have : sharedF (mkM p0 none (some p2) none (L.S - 2) L.B [L.S - 1]).slots [] = 0 := by
      cases p2 with
      | nil => simp [mkM, headS, sharedF]
      | cons y r =>
        simp at z2
        simp [mkM, headS, sharedF, z2]
    rw [this]
    rfl
  · obtain ⟨so, sm⟩ := sortI_ok a.nd
    refine srt_eq ol.sorted so fun x => ?_
    rw [sm, ol.mem]
    constructor
    · exact lg x
    · intro hx
      exact (live_iff x).mpr (a.ex x hx)
/-- the first of the law's blocks that is wrong -/
def firstP (L : Lay) : List (Int × Z) → Option (Str × Int)
  | [] => none
  | p :: r => match badZ L p.2 with
    | some e => some (e, p.1)
    | none => firstP L r
theorem firstP_eq (L : Lay) (bs : List Z) : ∀ {BL : List (Int × Z)} {os : List Int}, BL.map (·.1) = os → (∀ p ∈ BL, rdZ bs p.1 = p.2) → firstB L bs os = firstP L BL
  | [], _, rfl, _ => rfl
  | p :: r, _, rfl, h => by
    rw [List.map_cons, firstB, firstP, h p List.mem_cons_self, firstP_eq L bs (BL := r) rfl fun q hq => h q (List.mem_cons_of_mem _ hq)]
    all_goals (cases badZ L p.2 <;> rfl)
theorem firstP_snoc (L : Lay) (p : Int × Z) : ∀ (BL : List (Int × Z)), firstP L (BL ++ [p]) = match firstP L BL with
    | some w => some w
    | none => match badZ L p.2 with
      | some e => some (e, p.1)
      | none => none
  | [] => by simp only [List.nil_append, firstP]
  | q :: r => by
    rw [List.cons_append, firstP, firstP, firstP_snoc L p r]
    cases badZ L q.2 <;> rfl
end K88
namespace K88
open PySem PySem.Spec PyProof.Rows L2 Zm
local macro_rules | `(tactic| walk_at "zs") => `(tactic| try simp only [runD_Ok, r_dE_var, r_dE_lit, r_dE_glb, r_dE_bin, r_dE_neg, r_dE_cmp, r_dE_cmp2, r_dE_and, r_dE_or, r_dE_not, r_dE_ite, r_dE_tup, r_dE_lst, r_dE_dct0, r_dE_idx, r_dE_slc, r_dE_fld, r_dE_call, r_dE_mk, r_dE_mth, r_dE_mkd, r_dE_dcomp, r_dE_maxd, r_dI_enum, r_dG_flds, r_dFlds_nil, r_dFlds_cons, r_dS_gfor, r_dS_try, r_dY_fn, r_dY_mth, r_dE_bf, r_dE_bm, r_dE_isT, r_dE_comp, r_dX_tr, r_dX_and, r_dX_or, r_dX_not, r_dEs_nil, r_dEs_cons, r_dP_no, r_dP_some, r_dC_no, r_dC_some, r_dI_seq, r_dI_rng1, r_dI_rng2, r_dI_rrng1, r_dG_nm, r_dG_tup, r_dG_sub, r_dG_fld, r_dS_asg, r_dS_aug, r_dS_expr, r_dS_ret, r_dS_retN, r_dS_ite, r_dS_while, r_dS_for, r_dS_pass, r_dS_brk, r_dS_cont, r_dS_never, r_dSs_nil, r_dSs_cons, tgt, zBin, zCmp, Res.bind_ok, Ok_ok, Ok_bind, Ok_guard, List.length_cons, List.length_nil, List.map_cons, List.map_nil, List.replicate, List.nil_append, List.cons_append, List.getElem?_cons_zero, List.getElem?_cons_succ, List.set_cons_zero, List.set_cons_succ, Nat.reduceSub, Nat.reduceAdd, zAdd_int, zSub_int, zAddI_int, zMul_int, zDiv_int, zMod_int, zPow_int, zNeg_int, zLt_int, zLe_int, zGt_int, zGe_int, zEq_int, zNe_int, zIs_non, zIsNot_non, zTru_bl, zTru_int, zTru_non, zTru_tup, atI_0, atI_1, atI_2, atI_3, oRes_some, zIdx_tup, zBF_int, zBF_len_tup, zBF_list_tup, zBF_min, newL_eq, if_true, if_false, Bool.false_eq_true, reduceIte, zIsN, Bool.not_true, Bool.not_false, beq_self_eq_true, bne_self_eq_false, Int.reduceBNe, Int.reduceEq, decide_true, decide_false, true_and, and_true, if_true, if_false, List.isEmpty_cons, List.isEmpty_nil, setAll, List.all_cons, List.all_nil, flatZ, wipeZ, line_0, line_1, line_2, line_3, line_4, line_5, line_6, line_7, line_8, line_9])

theorem pre_of_chg {h l h' : Mh} (hl : 0 < l.length) (cc : Chg [h.length] (h ++ l) h') : Pre h h' := by
  have hl := cc.1
  rw [List.length_append] at hl
  refine List.prefix_iff_eq_take.mpr (List.ext_getElem? fun i => ?_)
  rw [List.getElem?_take]
  by_cases hi : i < h.length
  · rw [if_pos hi]
    have := cc.2 i h[i] (by simp; omega) (get_app (List.getElem?_eq_getElem hi))
    rw [this, List.getElem?_eq_getElem hi]
  · rw [if_neg hi, List.getElem?_eq_none (by omega)]
def EndL (fl : Fl) (_ : Mh) : Prop := match fl with
  | .ret z => z = .bl true
  | _ => False
theorem fz_plain {o : Option (Str × Int)} (h : ∀ m i, o = some (m, i) → PyData.strOk m = true) : plainZ 2 (fz o) = true := by
  cases o with
  | none => rfl
  | some w => simp [fz, plainZ, plainZs, h w.1 w.2 rfl]
theorem zNe_same {z : Z} {n : Nat} (h : Mh) (p : plainZ n z = true) (hn : n ≤ 60) : zNe z z h = .ok (.bl false) h := by
  unfold zNe
  rw [zEqB_same h p hn]
  rfl
theorem law_end (la tb blo : Nat) (L : Lay) (W i : Nat) (AS p0 p2 : List Int) (b0 b2 : Nat) (BL : List (Int × Z)) (h : Mh) (o : LOk L) (l : LayAt h la L) (hW : L.last = (W : Int)) (a : AI L W i AS p0 p2) (hi : i ≤ 12) (et : h[tb]? = some (.lst [.ob b0, .non, .ob b2, .non])) (e0 : h[b0]? = some (.lst ((0 :: p0).map Z.int))) (e2 : h[b2]? = some (.lst ((0 :: p2).map Z.int))) (eB : h[blo]? = some (.lst (BL.map pzZ))) (hBL : BL.map (·.1) = sortI AS) (wf : ∀ p ∈ BL, Wf p.2) (msg : ∀ s i, firstP L BL = some (s, i) → PyData.strOk s = true)
    {o0 o1 o2 o5 o6 o7 o8 o9 o10 o13 o14 o15 o16 : Option Z} :
    Ok (dSs (prg.C 19) prg.gt.fl m_law_12 [o0, o1, o2, some (.ob la), some (.ob tb), o5, o6, o7, o8, o9, o10, some (fz (firstP L BL)), some (.ob blo), o13, o14, o15, o16, none, none, none] h) EndL := by
  have rg := o.rng
  obtain ⟨g, tn, lvs, z0⟩ := k88 o hW a hi
  have hrb : L.rb = (L.rb.toNat : Int) := by omega
  obtain ⟨so, sm⟩ := sortI_ok a.nd
  have bl : BLok L BL := by
    refine ⟨fun p hp => ?_, wf, ?_, ?_⟩
    · have : p.1 ∈ sortI AS := by rw [← hBL]; exact List.mem_map.mpr ⟨p, hp, rfl⟩
      obtain ⟨_, _, _, _, _, _, _, q1, q2⟩ := (a.addr p.1 ((sm _).mp this)).seg o
      exact ⟨q1, q2⟩
    · rw [hBL]
      exact so.imp fun {a b} h => by omega
    · have := congrArg List.length hBL
      rw [List.length_map, sortI_len] at this
      have := a.len
      omega
  obtain ⟨ro, lR, bR⟩ := row_ok (hd := L.S - 2) (pl := L.B) (qu := [L.S - 1]) (s1 := none) (s2 := some p2) (s3 := none) (W := W) (rb := L.rb.toNat) (p0 := p0) o hW hrb a.l0 trivial a.l2 trivial (by simp)
  unfold m_law_12
  walk_at "zs"
  refine (law_device 14 la tb blo L W L.rb.toNat _ p0 none (some p2) none BL h o l et (.cons ⟨b0, rfl, e0⟩ (.cons rfl (.cons ⟨b2, rfl, e2⟩ (.cons rfl .nil)))) eB bl hW hrb a.l0 trivial a.l2 trivial).mono ?_
  rintro z h1 ⟨dd, df, se, wa, bs, ws, rfl, dv, rc, wfb, rd⟩
  unfold m_law_13
  walk_at "zs"
  refine (recover 15 dd df la se wa L bs ws W _ p0 none (some p2) none _ _ L.rb.toNat h1 dv o ro rc).mono ?_
  rintro z h2 ⟨lg, fs, pr, sl, qu, zs, rfl, gl, p2', fd, fl⟩
  have x : LD h2 lg fs la pr sl qu zs dd df se wa L bs ws (mkM p0 none (some p2) none (L.S - 2) L.B [L.S - 1]) := ⟨gl, dv.pre p2', fd, fl, wfb⟩
  walk_at "zs"
  refine (block_fault 15 x o AS g).mono ?_
  rintro z h3 ⟨lv, ol, rfl, p3⟩
  have elv := lvs lv ol
  have efb : firstB L bs lv = firstP L BL := by rw [elv]; exact firstP_eq L bs hBL rd
  rw [efb]
  have ck : Ok ((prg.C 19).fn f_check [.ob dd] h3) fun z h' => z = chk (firstP L BL) := by
    refine (check 13 dd df la se wa L bs ws W _ p0 none (some p2) none _ _ L.rb.toNat h3 (dv.pre (p2'.trans p3)) o ro rc wfb AS g tn (by
      show (0 :: p0)[1]? = some 0
      rw [List.getElem?_cons_succ]
      exact z0)).mono ?_
    rintro z h4 ⟨lv2, ol2, rfl⟩
    rw [lvs lv2 ol2, ← elv, efb]
  have hp := fz_plain msg
  unfold m_law_14
  cases hf : firstP L BL with
  | none =>
    rw [hf] at ck
    (walk_at "zs"; repeat (simp only [fz]; walk_at "zs"))
    unfold m_law_14b0
    walk_at "zs"
    refine ck.mono ?_
    rintro z h4 rfl
    unfold m_law_14b1
    have m1 : PyData.strOk ("present" : Str) = true := by decide +kernel
    have m2 : PyData.strOk ("log" : Str) = true := by decide +kernel
    have ne : (("present" : Str) == ("log" : Str)) = false := by decide +kernel
    (walk_at "zs"; repeat (simp only [fz, chk, zNe_str h4 m1 m2, ne]; walk_at "zs"))
    exact rfl
  | some w =>
    rw [hf] at ck hp msg
    have e := zNe_same h3 hp (by omega)
    unfold m_law_15
    simp only [fz] at e ⊢
    (walk_at "zs"; repeat (simp only [e]; walk_at "zs"))
    unfold m_law_16
    walk_at "zs"
    refine ck.mono ?_
    rintro z h4 rfl
    have m2 : PyData.strOk ("log" : Str) = true := by decide +kernel
    have pc : plainZ 2 (.tup [.str "log", .str w.1, .int w.2]) = true := by simp [plainZ, plainZs, m2, msg w.1 w.2 rfl]
    have e2 := zEq_same h4 pc (by omega)
    simp only [chk]
    (walk_at "zs"; repeat (simp only [e2]; walk_at "zs"))
    exact rfl
/-- the blocks are drawn -/
theorem law_blocks (la tb blo od : Nat) (ns : List Int) (L : Lay) (W i : Nat) (AS p0 p2 WS : List Int) (b0 b2 wo : Nat) (h : Mh) (o : LOk L) (l : LayAt h la L) (bz : BsAt h la) (hs : h[0]? = some (.fro (ns.map Z.int))) (hW : L.last = (W : Int)) (a : AI L W i AS p0 p2) (hi : i ≤ 12) (et : h[tb]? = some (.lst [.ob b0, .non, .ob b2, .non])) (e0 : h[b0]? = some (.lst ((0 :: p0).map Z.int))) (e2 : h[b2]? = some (.lst ((0 :: p2).map Z.int))) (ew : h[wo]? = some (.lst (WS.map Z.int))) (eB : h[blo]? = some (.lst [])) (eo : h[od]? = some (.lst ((sortI AS).map Z.int)))
    (dis : blo ≠ tb ∧ blo ≠ b0 ∧ blo ≠ b2 ∧ blo ≠ wo ∧ blo ≠ od ∧ blo ≠ 0)
    {o1 o2 o5 o6 o7 o8 o9 o14 o15 o16 : Option Z} :
    Ok (dSs (prg.C 19) prg.gt.fl m_law_11 [some (.ob 0), o1, o2, some (.ob la), some (.ob tb), o5, o6, o7, o8, o9, some (.ob wo), some .non, some (.ob blo), some (.ob od), o14, o15, o16, none, none, none] h) EndL := by
  have rg := o.rng
  have len := a.len
  have hla : la ∉ [blo] := by
    obtain ⟨fs, q, _⟩ := l
    simp
    exact ne_of_get q eB (by simp)
  have oth : ∀ {h2 : Mh} {q : Nat} {u : Ob}, Chg [blo] h h2 → blo ≠ q → h[q]? = some u → h2[q]? = some u := fun c n e => c.get (by simp; exact fun x => n x.symm) e
  unfold m_law_11
  (walk_at "zs"; repeat (simp only [zBF_len_lst eo, List.length_map, sortI_len]; walk_at "zs"))
  refine for_rng (fun i ρ h' => ∃ BL : List (Int × Z), (∃ o6 o8 o14 o15 o16, ρ = [some (.ob 0), o1, o2, some (.ob la), some (.ob tb), o5, o6, o7, o8, o9, some (.ob wo), some (fz (firstP L BL)), some (.ob blo), some (.ob od), o14, o15, o16, none, none, none]) ∧ Chg [blo] h h' ∧ h'[blo]? = some (.lst (BL.map pzZ)) ∧ BL.map (·.1) = (sortI AS).take i ∧ (∀ p ∈ BL, Wf p.2) ∧ ∀ s i, firstP L BL = some (s, i) → PyData.strOk s = true) (by omega)
    ⟨[], ⟨_, _, _, _, _, rfl⟩, .refl, eB, rfl, fun _ h => absurd h List.not_mem_nil, fun _ _ h => by cases h⟩ ?_ ?_
  · rintro j ρ h' hj ⟨BL, ⟨o6, o8, o14, o15, o16, rfl⟩, ch, eB, hBL, wf, msg⟩
    have hj2 : j < (sortI AS).length := by rw [sortI_len]; omega
    have lBL : BL.length ≤ 12 := by
      have := congrArg List.length hBL
      rw [List.length_map, List.length_take, sortI_len] at this
      omega
    have lay : ∀ {h2 : Mh}, Chg [blo] h h2 → LayAt h2 la L := fun c => by
      obtain ⟨fs, q, r⟩ := l
      exact ⟨fs, c.get hla q, r⟩
    have bsz : ∀ {h2 : Mh}, Chg [blo] h h2 → BsAt h2 la := fun c => by
      obtain ⟨fs, q, r⟩ := bz
      exact ⟨fs, c.get hla q, r⟩
    unfold m_law_11b0
    walk_at "zs"
    rw [Int.zero_add, zIdx_new (z := .int (sortI AS)[j]) (by rw [List.getElem?_map, List.getElem?_eq_getElem hj2]; rfl) (oth ch dis.2.2.2.2.1 eo)]
    unfold m_law_11b1
    walk_at "zs"
    refine (law_number 18 ns _ h' (oth ch dis.2.2.2.2.2 hs)).mono ?_
    rintro z h2 ⟨⟨nn, rfl⟩, rfl⟩
    have tk : (sortI AS).take (j + 1) = (sortI AS).take j ++ [(sortI AS)[j]] := by
      rw [List.take_succ_eq_append_getElem hj2]
    generalize hx : (sortI AS)[j] = x at tk
    unfold m_law_11b2
    walk_at "zs"
    have p1 : Pre h2 (h2 ++ [Ob.lst [.int nn]]) := .app
    have c1 := ch.trans (.of_pre p1)
    refine (law_good 17 la h2.length L (h2 ++ [Ob.lst [.int nn]]) o (lay c1) (bsz c1) ⟨nn, get_new⟩).mono ?_
    rintro y h3 ⟨wy, by_, c3⟩
    have p3 : Pre h2 h3 := pre_of_chg (by simp) c3
    have ch3 := ch.trans (.of_pre p3)
    have fin : ∀ (y : Z) (due : Option (Str × Int)) (h4 : Mh) (o16 : Option Z), Wf y → Pre h2 h4 → due = firstP L (BL ++ [(x, y)]) → (∀ s i, due = some (s, i) → PyData.strOk s = true) → Ok (dSs (prg.C 19) prg.gt.fl m_law_11b4 [some (.ob 0), o1, o2, some (.ob la), some (.ob tb), o5, some (.int (j : Nat)), o7, some (.int x), o9, some (.ob wo), some (fz due), some (.ob blo), some (.ob od), some (.int nn), some y, o16, none, none, none] h4) fun fl h' => match fl with
        | .nx ρ => ∃ BL : List (Int × Z), (∃ o6 o8 o14 o15 o16, ρ = [some (.ob 0), o1, o2, some (.ob la), some (.ob tb), o5, o6, o7, o8, o9, some (.ob wo), some (fz (firstP L BL)), some (.ob blo), some (.ob od), o14, o15, o16, none, none, none]) ∧ Chg [blo] h h' ∧ h'[blo]? = some (.lst (BL.map pzZ)) ∧ BL.map (·.1) = (sortI AS).take (j + 1) ∧ (∀ p ∈ BL, Wf p.2) ∧ ∀ s i, firstP L BL = some (s, i) → PyData.strOk s = true
        | _ => False := by
      intro y due h4 o16 wy p4 hdue hmsg
      subst hdue
      have e4 := p4.get eB
      have ba := bmOk_append e4
      unfold m_law_11b4
      (walk_at "zs"; repeat (simp only [ba, zBM_append e4 (lt_line (by rw [List.length_map]; omega))]; walk_at "zs"))
      refine ⟨BL ++ [(x, y)], ⟨_, _, _, _, _, rfl⟩, ch.trans ((Chg.of_pre p4).trans (.set (.inl (by simp)))), ?_, ?_, fun p hp => ?_, hmsg⟩
      · rw [get_set e4]
        simp [pzZ]
      · rw [List.map_append, hBL, tk]
        rfl
      · rcases List.mem_append.mp hp with h | h
        · exact wf p h
        · simp at h
          subst h
          exact wy
    unfold m_law_11b3
    walk_at "zs"
    rw [zIn_lst (oth ch3 dis.2.2.2.1 ew)]
    walk_at "zs"
    by_cases hw : x ∈ WS
    · unfold m_law_11b3b0
      (walk_at "zs"; repeat (simp only [hw]; walk_at "zs"))
      have p5 : Pre h3 (h3 ++ [Ob.lst [.int nn]]) := .app
      have c5 := ch3.trans (.of_pre p5)
      refine (law_bad 17 la h3.length L (h3 ++ [Ob.lst [.int nn]]) o (lay c5) ⟨nn, get_new⟩).mono ?_
      rintro y2 h6 ⟨y', e, rfl, wy', be, me, c6⟩
      have p6 : Pre h2 h6 := p3.trans (pre_of_chg (by simp) c6)
      walk_at "zs"
      unfold m_law_11b3b1
      walk_at "zs"
      have sn := firstP_snoc L (x, y') BL
      simp only [be] at sn
      unfold m_law_11b3b2
      cases hf : firstP L BL with
      | none =>
        rw [hf] at sn
        (walk_at "zs"; repeat (simp only [fz]; walk_at "zs"))
        refine (fin y' (some (e, x)) h6 _ wy' p6 sn.symm (fun s i q => by cases q; exact me)).mono fun fl h' q => by cases fl <;> first | exact q | exact q.elim
      | some w =>
        rw [hf] at sn msg
        (walk_at "zs"; repeat (simp only [fz]; walk_at "zs"))
        refine (fin y' (some w) h6 _ wy' p6 sn.symm msg).mono fun fl h' q => by cases fl <;> first | exact q | exact q.elim
    · (walk_at "zs"; repeat (simp only [hw]; walk_at "zs"))
      have sn := firstP_snoc L (x, y) BL
      simp only [by_] at sn
      refine (fin y (firstP L BL) h3 _ wy p3 ?_ msg).mono fun fl h' q => by cases fl <;> first | exact q | exact q.elim
      rw [sn]
      cases firstP L BL <;> rfl
  · rintro ρ h' ⟨BL, ⟨o6, o8, o14, o15, o16, rfl⟩, ch, eB, hBL, wf, msg⟩
    have hn : ((((sortI AS).length : Int) - 0).toNat) = (sortI AS).length := by omega
    rw [List.take_of_length_le (by rw [sortI_len]; omega)] at hBL
    have lay : LayAt h' la L := by
      obtain ⟨fs, q, r⟩ := l
      exact ⟨fs, ch.get hla q, r⟩
    exact law_end la tb blo L W i AS p0 p2 b0 b2 BL h' o lay hW a hi (oth ch dis.1 et) (oth ch dis.2.1 e0) (oth ch dis.2.2.1 e2) eB hBL wf msg
end K88
namespace K88
open PySem PySem.Spec PyProof.Rows L2 Zm
local macro_rules | `(tactic| walk_at "zs") => `(tactic| try simp only [runD_Ok, r_dE_var, r_dE_lit, r_dE_glb, r_dE_bin, r_dE_neg, r_dE_cmp, r_dE_cmp2, r_dE_and, r_dE_or, r_dE_not, r_dE_ite, r_dE_tup, r_dE_lst, r_dE_dct0, r_dE_idx, r_dE_slc, r_dE_fld, r_dE_call, r_dE_mk, r_dE_mth, r_dE_mkd, r_dE_dcomp, r_dE_maxd, r_dI_enum, r_dG_flds, r_dFlds_nil, r_dFlds_cons, r_dS_gfor, r_dS_try, r_dY_fn, r_dY_mth, r_dE_bf, r_dE_bm, r_dE_isT, r_dE_comp, r_dX_tr, r_dX_and, r_dX_or, r_dX_not, r_dEs_nil, r_dEs_cons, r_dP_no, r_dP_some, r_dC_no, r_dC_some, r_dI_seq, r_dI_rng1, r_dI_rng2, r_dI_rrng1, r_dG_nm, r_dG_tup, r_dG_sub, r_dG_fld, r_dS_asg, r_dS_aug, r_dS_expr, r_dS_ret, r_dS_retN, r_dS_ite, r_dS_while, r_dS_for, r_dS_pass, r_dS_brk, r_dS_cont, r_dS_never, r_dSs_nil, r_dSs_cons, tgt, zBin, zCmp, Res.bind_ok, Ok_ok, Ok_bind, Ok_guard, List.length_cons, List.length_nil, List.map_cons, List.map_nil, List.replicate, List.nil_append, List.cons_append, List.getElem?_cons_zero, List.getElem?_cons_succ, List.set_cons_zero, List.set_cons_succ, Nat.reduceSub, Nat.reduceAdd, zAdd_int, zSub_int, zAddI_int, zMul_int, zDiv_int, zMod_int, zPow_int, zNeg_int, zLt_int, zLe_int, zGt_int, zGe_int, zEq_int, zNe_int, zIs_non, zIsNot_non, zTru_bl, zTru_int, zTru_non, zTru_tup, atI_0, atI_1, atI_2, atI_3, oRes_some, zIdx_tup, zBF_int, zBF_len_tup, zBF_list_tup, zBF_min, newL_eq, if_true, if_false, Bool.false_eq_true, reduceIte, zIsN, Bool.not_true, Bool.not_false, beq_self_eq_true, bne_self_eq_false, Int.reduceBNe, Int.reduceEq, decide_true, decide_false, true_and, and_true, if_true, if_false, List.isEmpty_cons, List.isEmpty_nil, setAll, List.all_cons, List.all_nil, flatZ, wipeZ, line_0, line_1, line_2, line_3, line_4, line_5, line_6, line_7, line_8, line_9])

structure S5 (h : Mh) (ns : List Int) (la tb ad b0 b2 : Nat) (L : Lay) (W i : Nat) (AS p0 p2 : List Int) : Prop where
  lay : LayAt h la L
  bs : BsAt h la
  box : BoxB h 1
  scr : h[0]? = some (.fro (ns.map Z.int))
  tab : h[tb]? = some (.lst [.ob b0, .non, .ob b2, .non])
  t0 : h[b0]? = some (.lst ((0 :: p0).map Z.int))
  t2 : h[b2]? = some (.lst ((0 :: p2).map Z.int))
  adr : h[ad]? = some (.lst (AS.map Z.int))
  ai : AI L W i AS p0 p2
  dis : 1 < b0 ∧ b0 < b2 ∧ b2 < tb ∧ tb < ad
section
variable {h h' : Mh} {ns : List Int} {la tb ad b0 b2 : Nat} {L : Lay} {W i : Nat} {AS p0 p2 : List Int}
theorem S5.chg (s : S5 h ns la tb ad b0 b2 L W i AS p0 p2) (c : Chg [1] h h') (b : BoxB h' 1) : S5 h' ns la tb ad b0 b2 L W i AS p0 p2 := by
  have d := s.dis
  exact ⟨s.lay.chg s.box c, s.bs.chg s.box c, b, c.get (by simp) s.scr, c.get (by simp; omega) s.tab, c.get (by simp; omega) s.t0, c.get (by simp; omega) s.t2, c.get (by simp; omega) s.adr, s.ai, d⟩
theorem S5.pre (s : S5 h ns la tb ad b0 b2 L W i AS p0 p2) (p : Pre h h') : S5 h' ns la tb ad b0 b2 L W i AS p0 p2 := s.chg (.of_pre p) (s.box.pre p)
theorem lay_set {h : Mh} {la a : Nat} {L : Lay} {u v : List Z} (l : LayAt h la L) (e : h[a]? = some (.lst u)) : LayAt (h.set a (.lst v)) la L := by
  obtain ⟨fs, q, r⟩ := l
  exact ⟨fs, by rw [get_set_ne (ne_of_get e q (by simp))]; exact q, r⟩
theorem bs_set {h : Mh} {la a : Nat} {u v : List Z} (l : BsAt h la) (e : h[a]? = some (.lst u)) : BsAt (h.set a (.lst v)) la := by
  obtain ⟨fs, q, r⟩ := l
  exact ⟨fs, by rw [get_set_ne (ne_of_get e q (by simp))]; exact q, r⟩
theorem box_set {h : Mh} {a : Nat} {o : Ob} (l : BoxB h 1) (e : a ≠ 1) : BoxB (h.set a o) 1 := by
  obtain ⟨n, q⟩ := l
  exact ⟨n, by rw [get_set_ne e]; exact q⟩
theorem set_tab (p : List Int) (j : Nat) (x : Int) : (0 :: p).set (j + 1) x = 0 :: p.set j x := by simp
theorem zSet_tab {h : Mh} {b : Nat} {t : List Int} {n : Nat} (e : h[b]? = some (.lst (t.map Z.int))) (hn : n < t.length) (a : Int) : zSet (.ob b) (.int (n : Nat)) (.int a) h = .ok () (h.set b (.lst ((t.set n a).map Z.int))) := by
  rw [zSet_lst e (j := n) (by rw [ixN_get (by omega) (by simp; omega)]; simp), List.map_set]
theorem zBF_sorted_lst {h : Mh} {a : Nat} {xs : List Int} (e : h[a]? = some (.lst (xs.map Z.int))) : zBF .sorted [.ob a] h = .ok (.ob h.length) (h ++ [.lst ((sortI xs).map Z.int)]) := by
  simp only [zBF, e, intsOf_map]
  rfl
/-- from the drawn addresses on -/
theorem law_from6 (s : S5 h ns la tb ad b0 b2 L W i AS p0 p2) (o : LOk L) (hW : L.last = (W : Int)) (hi : i ≤ 12) (h0 : 0 < i) {o2 o6 o7 o8 o9 : Option Z} :
    Ok (dSs (prg.C 19) prg.gt.fl m_law_6 [some (.ob 0), some (.ob 1), o2, some (.ob la), some (.ob tb), some (.ob ad), o6, o7, o8, o9, none, none, none, none, none, none, none, none, none, none] h) EndL := by
  have hne := s.ai.first h0
  have hpos : 0 < AS.length := List.length_pos_iff.mpr hne
  have len := s.ai.len
  unfold m_law_6
  walk_at "zs"
  have p1 : Pre h (h ++ [Ob.lst []]) := .app
  have ew : (h ++ [Ob.lst []])[h.length]? = some (.lst (([] : List Int).map Z.int)) := get_new
  have hwl : ad < h.length := lt_of_get s.adr
  have s := s.pre p1
  generalize h.length = wo at ew hwl
  generalize h ++ [Ob.lst []] = h1 at s ew
  unfold m_law_7
  walk_at "zs"
  refine (takeB 18 1 3 h1 s.box (by omega) (by omega)).mono ?_
  rintro z h2 ⟨v, rfl, v0, v1, bx, c⟩
  have s := s.chg c bx
  have ew := c.get (by simp; have := s.dis; omega) ew
  refine for_rng (fun j ρ h' => ∃ WS : List Int, (∃ o6, ρ = [some (.ob 0), some (.ob 1), o2, some (.ob la), some (.ob tb), some (.ob ad), o6, o7, o8, o9, some (.ob wo), none, none, none, none, none, none, none, none, none]) ∧ S5 h' ns la tb ad b0 b2 L W i AS p0 p2 ∧ h'[wo]? = some (.lst (WS.map Z.int)) ∧ WS.length ≤ j) (by omega)
    ⟨[], ⟨_, rfl⟩, s, ew, Nat.le_refl _⟩ ?_ ?_
  · clear s ew
    rintro j ρ h' hj ⟨WS, ⟨o6, rfl⟩, s, ew, lw⟩
    have d := s.dis
    (walk_at "zs"; repeat (simp only [bmOk_append ew, zBF_len_lst s.adr, List.length_map]; walk_at "zs"))
    refine (takeB 18 1 _ h' s.box (by omega) (by omega)).mono ?_
    rintro z h3 ⟨u, rfl, u0, u1, bx, c⟩
    have s := s.chg c bx
    have ew := c.get (by simp; omega) ew
    have hu : u.toNat < AS.length := by omega
    rw [show u = ((u.toNat : Nat) : Int) by omega]
    walk_at "zs"
    rw [zIdx_new (z := .int AS[u.toNat]) (by rw [List.getElem?_map, List.getElem?_eq_getElem hu]; rfl) s.adr]
    (walk_at "zs"; repeat (simp only [zBM_append ew (lt_line (by simp; omega))]; walk_at "zs"))
    refine ⟨WS ++ [AS[u.toNat]], ⟨_, rfl⟩, ⟨lay_set s.lay ew, bs_set s.bs ew, box_set s.box (by omega), by rw [get_set_ne (by omega)]; exact s.scr, by rw [get_set_ne (by omega)]; exact s.tab, by rw [get_set_ne (by omega)]; exact s.t0, by rw [get_set_ne (by omega)]; exact s.t2, by rw [get_set_ne (by omega)]; exact s.adr, s.ai, d⟩, ?_, by simp; omega⟩
    rw [get_set ew]
    simp
  · clear s ew
    rintro ρ h' ⟨WS, ⟨o6, rfl⟩, s, ew, lw⟩
    have d := s.dis
    unfold m_law_8 m_law_9
    walk_at "zs"
    have p3 : Pre h' (h' ++ [Ob.lst []]) := .app
    have eB : (h' ++ [Ob.lst []])[h'.length]? = some (.lst []) := get_new
    have hwo := lt_of_get ew
    have s := s.pre p3
    have ew := p3.get ew
    generalize hbl : h'.length = blo at eB hwo
    have hbl2 : (h' ++ [Ob.lst []]).length = blo + 1 := by simp [hbl]
    generalize h' ++ [Ob.lst []] = h4 at s ew eB hbl2
    unfold m_law_10
    (walk_at "zs"; repeat (simp only [zBF_sorted_lst s.adr]; walk_at "zs"))
    have p5 : Pre h4 (h4 ++ [Ob.lst ((sortI AS).map Z.int)]) := .app
    have s := s.pre p5
    exact law_blocks la tb blo h4.length ns L W i AS p0 p2 WS b0 b2 wo _ o s.lay s.bs s.scr hW s.ai hi s.tab s.t0 s.t2 (p5.get ew) (p5.get eB) get_new ⟨by omega, by omega, by omega, by omega, by omega, by omega⟩
theorem law_from5 (s : S5 h ns la tb ad b0 b2 L W 0 AS p0 p2) (o : LOk L) (hW : L.last = (W : Int)) {o2 : Option Z} :
    Ok (dSs (prg.C 19) prg.gt.fl m_law_5 [some (.ob 0), some (.ob 1), o2, some (.ob la), some (.ob tb), some (.ob ad), none, none, none, none, none, none, none, none, none, none, none, none, none, none] h) EndL := by
  have rg := o.rng
  have w := o.W hW
  unfold m_law_5
  walk_at "zs"
  refine (takeB 18 1 12 h s.box (by omega) (by omega)).mono ?_
  rintro z h2 ⟨v, rfl, v0, v1, bx, c⟩
  have s := s.chg c bx
  walk_at "zs"
  refine for_rng (fun i ρ h' => ∃ AS p0 p2, (∃ o6 o7 o8 o9, ρ = [some (.ob 0), some (.ob 1), o2, some (.ob la), some (.ob tb), some (.ob ad), o6, o7, o8, o9, none, none, none, none, none, none, none, none, none, none]) ∧ S5 h' ns la tb ad b0 b2 L W i AS p0 p2) (by omega)
    ⟨AS, p0, p2, ⟨_, _, _, _, rfl⟩, s⟩ ?_ ?_
  · clear s
    rintro i ρ h' hi ⟨AS, p0, p2, ⟨o6, o7, o8, o9, rfl⟩, s⟩
    have d := s.dis
    have hi12 : i < 12 := by omega
    unfold m_law_5b0
    (walk_at "zs"; repeat (simp only [s.lay.S]; walk_at "zs"))
    refine (takeB 18 1 _ h' s.box (by omega) (by omega)).mono ?_
    rintro z h3 ⟨sg, rfl, s0, s1, bx, c⟩
    have s := s.chg c bx
    unfold m_law_5b1
    (walk_at "zs"; repeat (simp only [s.lay.rb]; walk_at "zs"))
    refine ⟨cmulL, ?_⟩
    (walk_at "zs"; repeat (simp only [s.lay.B]; walk_at "zs"))
    refine ⟨cmulR, ?_⟩
    (walk_at "zs"; repeat (simp only [s.lay.pay]; walk_at "zs"))
    refine (takeB 18 1 _ h3 s.box (by omega) (by omega)).mono ?_
    rintro z h4 ⟨u, rfl, u0, u1, bx, c⟩
    have s := s.chg c bx
    have g : Addr L (2 * L.rb + sg * L.B + 1 + u) := ⟨sg, u, s0, by omega, u0, u1, by omega⟩
    walk_at "zs"
    generalize 2 * L.rb + sg * L.B + 1 + u = x at g
    unfold m_law_5b2
    (walk_at "zs"; repeat (simp only [zNotIn_lst s.adr]; walk_at "zs"))
    have len := s.ai.len
    by_cases hx : x ∈ AS
    · (walk_at "zs"; repeat (simp only [hx]; walk_at "zs"))
      exact ⟨AS, p0, p2, ⟨_, _, _, _, rfl⟩, { s with ai := s.ai.skip (List.ne_nil_of_mem hx) }⟩
    · unfold m_law_5b2b0
      (walk_at "zs"; repeat (simp only [hx, bmOk_append s.adr, zBM_append s.adr (lt_line (by simp; omega))]; walk_at "zs"))
      have eA : (h4.set ad (.lst (AS.map Z.int ++ [.int x])))[ad]? = some (.lst ((AS ++ [x]).map Z.int)) := by rw [get_set s.adr]; simp
      have ly := lay_set (v := AS.map Z.int ++ [.int x]) s.lay s.adr
      have bz := bs_set (v := AS.map Z.int ++ [.int x]) s.bs s.adr
      have bx := box_set (o := .lst (AS.map Z.int ++ [.int x])) s.box (show ad ≠ 1 by omega)
      have sc : (h4.set ad (.lst (AS.map Z.int ++ [.int x])))[0]? = some (.fro (ns.map Z.int)) := by rw [get_set_ne (by omega)]; exact s.scr
      have tb' : (h4.set ad (.lst (AS.map Z.int ++ [.int x])))[tb]? = some (.lst [.ob b0, .non, .ob b2, .non]) := by rw [get_set_ne (by omega)]; exact s.tab
      have t0 : (h4.set ad (.lst (AS.map Z.int ++ [.int x])))[b0]? = some (.lst ((0 :: p0).map Z.int)) := by rw [get_set_ne (by omega)]; exact s.t0
      have t2 : (h4.set ad (.lst (AS.map Z.int ++ [.int x])))[b2]? = some (.lst ((0 :: p2).map Z.int)) := by rw [get_set_ne (by omega)]; exact s.t2
      generalize h4.set ad (.lst (AS.map Z.int ++ [.int x])) = h5 at eA ly bz bx sc tb' t0 t2
      unfold m_law_5b2b1
      walk_at "zs"
      refine (takeB 18 1 3 h5 bx (by omega) (by omega)).mono ?_
      rintro z h6 ⟨q, rfl, q0, q1, bx6, c⟩
      have ly := ly.chg bx c
      have bz := bz.chg bx c
      have sc := c.get (by simp) sc
      have tb' := c.get (by simp; omega) tb'
      have t0 := c.get (by simp; omega) t0
      have t2 := c.get (by simp; omega) t2
      have eA := c.get (by simp; omega) eA
      have l0 := s.ai.l0
      have l2 := s.ai.l2
      walk_at "zs"
      unfold m_law_5b2b2
      have hq : q = 0 ∨ (1 : Int) ≤ q := by omega
      rcases hq with rfl | hq
      · have : (if (0 : Int) < 1 then (0 : Int) else 1) = 0 := rfl
        rw [this]
        refine ⟨cmulR, ?_⟩
        rw [show (2 : Int) * (1 - 0) = 2 by rfl, zIdx_lst tb', atI_2]
        walk_at "zs"
        rw [show (0 : Int) + (i : Int) + 2 = ((i + 1 + 1 : Nat) : Int) by omega, zSet_tab (t := 0 :: p2) t2 (by simp [l2]; omega), set_tab]
        walk_at "zs"
        refine ⟨AS ++ [x], p0, p2.set (i + 1) x, ⟨_, _, _, _, rfl⟩, ⟨lay_set ly t2, bs_set bz t2, box_set bx6 (by omega), by rw [get_set_ne (by omega)]; exact sc, by rw [get_set_ne (by omega)]; exact tb', by rw [get_set_ne (by omega)]; exact t0, ?_, by rw [get_set_ne (by omega)]; exact eA, s.ai.put o g hx (by omega) (.inr ⟨rfl, rfl⟩), d⟩⟩
        exact get_set t2
      · have : (if q < 1 then q else 1) = 1 := by rw [if_neg (by omega)]
        rw [this]
        refine ⟨cmulR, ?_⟩
        rw [show (2 : Int) * (1 - 1) = 0 by rfl, zIdx_lst tb', atI_0]
        walk_at "zs"
        rw [show (0 : Int) + (i : Int) + 2 = ((i + 1 + 1 : Nat) : Int) by omega, zSet_tab (t := 0 :: p0) t0 (by simp [l0]; omega), set_tab]
        walk_at "zs"
        refine ⟨AS ++ [x], p0.set (i + 1) x, p2, ⟨_, _, _, _, rfl⟩, ⟨lay_set ly t0, bs_set bz t0, box_set bx6 (by omega), by rw [get_set_ne (by omega)]; exact sc, by rw [get_set_ne (by omega)]; exact tb', ?_, by rw [get_set_ne (by omega)]; exact t2, by rw [get_set_ne (by omega)]; exact eA, s.ai.put o g hx (by omega) (.inl ⟨rfl, rfl⟩), d⟩⟩
        exact get_set t0
  · clear s
    rintro ρ h' ⟨AS, p0, p2, ⟨o6, o7, o8, o9, rfl⟩, s⟩
    exact law_from6 s o hW (by omega) (by omega)
end
theorem law_from3 (ns : List Int) (la : Nat) (L : Lay) (h : Mh) (o : LOk L) (l : LayAt h la L) (bs : BsAt h la) (bx : BoxB h 1) (sc : h[0]? = some (.fro (ns.map Z.int))) {o2 : Option Z} :
    Ok (dSs (prg.C 19) prg.gt.fl m_law_3 [some (.ob 0), some (.ob 1), o2, some (.ob la), none, none, none, none, none, none, none, none, none, none, none, none, none, none, none, none] h) EndL := by
  have rg := o.rng
  have hW : L.last = ((L.last.toNat : Nat) : Int) := by omega
  generalize L.last.toNat = W at hW
  have w := o.W hW
  have hb1 : 1 < h.length := by
    obtain ⟨n, e⟩ := bx
    exact lt_of_get e
  unfold m_law_3
  walk_at "zs"
  have p1 : Pre h (h ++ [Ob.lst [.int 0]]) := .app
  (walk_at "zs"; repeat (simp only [(l.pre p1).last]; walk_at "zs"))
  rw [hW, show (W : Int) + 1 = ((W + 1 : Nat) : Int) by omega, mul_non get_new (by omega)]
  walk_at "zs"
  have p2 : Pre h (h ++ [Ob.lst [.int 0]] ++ [Ob.lst (Z.int 0 :: List.replicate W (Z.int 0))]) := p1.trans .app
  have e2 : (h ++ [Ob.lst [.int 0]] ++ [Ob.lst (Z.int 0 :: List.replicate W (Z.int 0))])[(h ++ [Ob.lst [.int 0]]).length]? = some (.lst ((0 :: List.replicate W 0).map Z.int)) := by rw [get_new]; simp
  have hB : h.length ≤ (h ++ [Ob.lst [.int 0]]).length := by simp
  generalize (h ++ [Ob.lst [.int 0]]).length = b0 at e2 hB
  generalize h ++ [Ob.lst [.int 0]] ++ [Ob.lst (Z.int 0 :: List.replicate W (Z.int 0))] = h2 at p2 e2
  have p3 : Pre h2 (h2 ++ [Ob.lst [.int 0]]) := .app
  have hb0 := lt_of_get e2
  (walk_at "zs"; repeat (simp only [(l.pre (p2.trans p3)).last]; walk_at "zs"))
  rw [hW, show (W : Int) + 1 = ((W + 1 : Nat) : Int) by omega, mul_non get_new (by omega)]
  walk_at "zs"
  have p4 : Pre h2 (h2 ++ [Ob.lst [.int 0]] ++ [Ob.lst (Z.int 0 :: List.replicate W (Z.int 0))]) := p3.trans .app
  have e4 : (h2 ++ [Ob.lst [.int 0]] ++ [Ob.lst (Z.int 0 :: List.replicate W (Z.int 0))])[(h2 ++ [Ob.lst [.int 0]]).length]? = some (.lst ((0 :: List.replicate W 0).map Z.int)) := by rw [get_new]; simp
  have hB4 : h2.length ≤ (h2 ++ [Ob.lst [.int 0]]).length := by simp
  generalize (h2 ++ [Ob.lst [.int 0]]).length = b2 at e4 hB4
  generalize h2 ++ [Ob.lst [.int 0]] ++ [Ob.lst (Z.int 0 :: List.replicate W (Z.int 0))] = h4 at p4 e4
  have hb2 := lt_of_get e4
  have e2 := p4.get e2
  have p4 := p2.trans p4
  have p5 : Pre h4 (h4 ++ [Ob.lst [Z.ob b0, .non, .ob b2, .non]]) := .app
  have e5 : (h4 ++ [Ob.lst [Z.ob b0, .non, .ob b2, .non]])[h4.length]? = some (.lst [Z.ob b0, .non, .ob b2, .non]) := get_new
  have e2 := p5.get e2
  have e4 := p5.get e4
  have p5 := p4.trans p5
  generalize h4.length = tb at e5 hb2
  generalize h4 ++ [Ob.lst [Z.ob b0, .non, .ob b2, .non]] = h5 at p5 e5 e2 e4
  have htb := lt_of_get e5
  unfold m_law_4
  walk_at "zs"
  have p6 : Pre h5 (h5 ++ [Ob.lst []]) := .app
  exact law_from5 (AS := []) (p0 := List.replicate W 0) (p2 := List.replicate W 0) ⟨l.pre (p5.trans p6), bs.pre (p5.trans p6), bx.pre (p5.trans p6), (p5.trans p6).get sc, p6.get e5, p6.get e2, p6.get e4, get_new, AI.init, by omega⟩ o hW
theorem law_ok (ns : List Int) : Ok (prg.C 20 f_law [.ob 0] [.fro (ns.map Z.int)]) fun z _ => z = .bl true := by
  rw [prg.call (k := 19) (b := m_law) rfl _ rfl]
  have fin : ∀ {fl : Fl} {h : Mh}, EndL fl h → (match fl with
      | .nx _ => Z.non = .bl true
      | .ret z => z = .bl true
      | _ => False) := by
    intro fl h q
    cases fl <;> first | exact q | exact q.elim
  rw [runD_Ok]
  refine Ok.mono (Q := EndL) ?_ fun fl h q => fin q
  unfold m_law
  walk_at "zs"
  have e0 : ([Ob.fro (ns.map Z.int)] : Mh)[0]? = some (.fro (ns.map Z.int)) := rfl
  refine (law_number 18 ns 0 _ e0).mono ?_
  rintro z h' ⟨⟨n0, rfl⟩, rfl⟩
  walk_at "zs"
  unfold m_law_1
  walk_at "zs"
  have bx1 : BoxB ([Ob.fro (List.map Z.int ns), Ob.lst [Z.int n0], Ob.lst [Z.tup [Z.int 4, Z.int 16, Z.int 64], Z.tup [Z.int 5, Z.int 16, Z.int 64], Z.tup [Z.int 4, Z.int 17, Z.int 64]]]) 1 := ⟨n0, rfl⟩
  refine (takeB 18 1 3 _ bx1 (by omega) (by omega)).mono ?_
  rintro z h1 ⟨v, rfl, v0, v3, bx1, ch⟩
  have sc : h1[0]? = some (.fro (ns.map Z.int)) := ch.get (by simp) rfl
  have e2 : h1[2]? = some (.lst [Z.tup [Z.int 4, Z.int 16, Z.int 64], Z.tup [Z.int 5, Z.int 16, Z.int 64], Z.tup [Z.int 4, Z.int 17, Z.int 64]]) := ch.get (by simp) rfl
  have hz : ∃ L, LOk L ∧ zIdx (.ob 2) (.int v) h1 = .ok (.tup [.int L.S, .int L.B, .int 64]) h1 := by
    have : v = 0 ∨ v = 1 ∨ v = 2 := by omega
    rcases this with rfl | rfl | rfl
    · exact ⟨L0, .inl rfl, by rw [zIdx_lst e2, atI_0]; rfl⟩
    · exact ⟨L1, .inr (.inl rfl), by rw [zIdx_lst e2, atI_1]; rfl⟩
    · exact ⟨L2, .inr (.inr rfl), by rw [zIdx_lst e2, atI_2]; rfl⟩
  obtain ⟨L, o, ez⟩ := hz
  walk_at "zs"
  rw [ez]
  walk_at "zs"
  unfold m_law_2
  walk_at "zs"
  refine (layout_init 17 h1.length L o (h1 ++ [Ob.ins 0 []]) get_new).mono ?_
  rintro z h2 ⟨rfl, fs, rfl, l, bs⟩
  walk_at "zs"
  have hne : ∀ {a : Nat} {u : Ob}, h1[a]? = some u → ((h1 ++ [Ob.ins 0 []]).set h1.length (.ins c_Layout fs))[a]? = some u := fun e => by
    rw [get_set_ne (by have := lt_of_get e; omega)]; exact get_app e
  refine law_from3 ns _ L _ o l bs ?_ (hne sc)
  obtain ⟨n, e⟩ := bx1
  exact ⟨n, hne e⟩
theorem law_says : Zm.LawSays prg iLaw 20 63 := by
  intro ns _
  obtain ⟨z, h', e, rfl⟩ := (law_ok ns).ex
  exact ⟨h', e⟩
end K88
namespace K88
open PySem PySem.Spec PyProof.Rows L2 Zm
abbrev R : PySem.W.OpenRow := PySem.W.OpenLaw.row PySem.Challenge.rw_segmentfs_k88_faults_of_needed_blocks
abbrev hk : PySem.W.Hook := Zm.hookR 1100 prg.fa prg.fn
def loose : List PySem.Str := (["_wall", "COMMIT", "MOVE", "DATA", "NODE", "PART", "is_payload", "payload_of", "SegmentError", "InvalidFormat", "NoCheckpoint", "FileTooLarge", "LEAST_SEGMENTS", "MOST_SEGMENTS", "LEAST_BLOCKS", "MOST_BLOCKS", "HEAD_OCTETS", "SLOTS", "Layout", "parts_of", "address_at", "segment_of", "place_of", "region_start", "Counts", "empty_table", "commit_to_table", "slots_after", "move_in_table", "Log"] : List PySem.Str) ++ (["payload_at", "contents_of", "live_addresses", "enter_segment", "take_batch", "point_fault", "is_misplaced", "tables_of", "doubled_addresses", "free_behind", "shared_superblock", "table_fault", "block_fault", "least_height", "slots_of", "way_to", "block_id", "index_body", "grow", "attach", "set_block", "span_of", "walk_below", "walk_tree", "fan_power", "wrong_block", "look_at", "is_least", "tree_fault", "number_octets"] : List PySem.Str) ++ (["number_of", "FILE", "DIRECTORY", "LINK", "INODE_OCTETS", "Inode", "encode_inode", "decode_inode", "LOW", "HIGH", "PERCENT", "is_code", "is_text", "octets_of", "char_of", "text_of", "NAME_SIGNS", "FIRST_SLOT", "SLOT_OCTETS", "END_OF_SLOTS", "Superblock", "is_snapshot_name", "encode_slot", "encode_superblock", "slot_is_good", "decode_superblock", "MOST_OCTETS", "block_octets", "read_file", "write_file"] : List PySem.Str) ++ (["block_numbers", "file_ids", "Store", "SUPERBLOCK_ID", "Nodes", "node_ids", "superblock_in", "pieces_of", "is_used", "inodes_fault", "uses_fault", "files_fault", "MOST_PATH", "MOST_LINKS", "ENTRY_OCTETS", "MOST_SIGNS", "NAME_START", "is_name", "decode_entry", "places", "ROOT", "has_hole", "octets_at", "directory_fault", "inode_fault", "entry_rows", "leads_to_root", "own_entries_fault", "place_fault", "node_fault"] : List PySem.Str) ++ (["names_fault", "read_numbers", "checkpoint_in", "batch_at", "take_next", "recover", "USED_UP", "contents_fault", "slots_fault", "log_fault", "check", "Device", "_law_number", "_law_take", "_law_device", "_law_good", "_law_bad"] : List PySem.Str)
theorem run1 (w : World) (os : OsState) : (Zm.finR R 8000 w os).map (fun s => HandSHeadRun.looksF R.prog (PySem.W.boot_heap w.params) s.abs) = some true := by kernel_rfl
theorem run2 (w : World) (os : OsState) : (Zm.finR R 8000 w os).map (fun s => HandSHeadRun.seenQ (PySem.W.view R.prog [161]) loose (PySem.importedModules R.prog.main.body) (fun s => PySem.W.xlAt (PySem.W.view R.prog [161]) [] s && PySem.W.recOk R.toRowW.records s) s.abs) = some (PySem.W.openGood (PySem.W.view R.prog [161]) loose) := by kernel_rfl
theorem run3 (w : World) (os : OsState) : (Zm.finR R 8000 w os).map (fun s => prg.fa.all fun f => f.ok (Zm.frgR 1100 s)) = some true := by kernel_rfl
theorem run4 (w : World) (os : OsState) : (Zm.finR R 8000 w os).map (fun s => prg.fn.all fun d => d.ok (Zm.frgR 1100 s)) = some true := by kernel_rfl
theorem run5 (w : World) (os : OsState) : (Zm.finR R 8000 w os).map (fun s => prg.fn.map fun d => He.fnW (Zm.frgR 1100 s) d.at_) = some (prg.fn.map He.DefD.val) := by kernel_rfl
theorem run (w : World) : HandSHeadRun.RunEq R (PySem.W.view R.prog [161]) hk (Zm.obR 1100 prg.fa prg.fn) 8000 loose w := Zm.run_parts (run1 w) (run2 w) (run3 w) (run4 w) (run5 w)
end K88
open PySem PySem.W PySem.Calls PyProof.Rows
theorem PySem.Challenge.cw_segmentfs_k88_faults_of_needed_blocks_holds : PySem.Challenge.rw_segmentfs_k88_faults_of_needed_blocks.Holds := by
  w_on; o_law
  refine HandSHeadRun.head_any (r := OpenLaw.row PySem.Challenge.rw_segmentfs_k88_faults_of_needed_blocks) (q := view (OpenLaw.row PySem.Challenge.rw_segmentfs_k88_faults_of_needed_blocks).prog [161]) (H := K88.hk) (ob := Zm.obR 1100 K88.prg.fa K88.prg.fn) (M := 8000) (loose := K88.loose) (d := HandSHeadRun.topDef (OpenLaw.row PySem.Challenge.rw_segmentfs_k88_faults_of_needed_blocks).prog 161) (kwd := []) Zm.obR_eq
    (by kernel_rfl) (fun s => by kernel_rfl) K88.run (by kernel_rfl) (by kernel_rfl) (by kernel_rfl) (by rfl) (by first | assumption | decide +kernel) (by decide +kernel) ⟨rfl, rfl, rfl, rfl, rfl, by decide +kernel⟩ ?hw ?hc
  case hw => w_witness2
  case hc =>
    refine L2.walk_ofE (l := PySem.Challenge.rw_segmentfs_k88_faults_of_needed_blocks) (n := 63) (k := 2 * 20 + 1) (x := "_law_script") (CX := L2.CX0) rfl (by decide) (by kernel_rfl) ⟨rfl, by decide, by decide⟩ ?F (fun _ _ _ _ z => z)
    intro w mg fa h Y G hmg0
    obtain ⟨K, KX, c⟩ := Y
    have hmg : mg ("law" : PySem.Str) = some (.ref fa) := by
      have e : (HandSHeadRun.topDef (OpenLaw.row PySem.Challenge.rw_segmentfs_k88_faults_of_needed_blocks).prog 161).name = ("law" : PySem.Str) := by kernel_rfl
      rw [← e]
      exact hmg0
    have e := hmg.symm.trans (He.glo_ok KX G (Zm.says_mem c (Zm.glo_mem (f := K88.iLaw) (d := K88.d_law) (x := "law") rfl rfl)))
    cases e
    obtain ⟨fd, F⟩ := c.def_ K88.iLaw (d := K88.d_law.dd) rfl
    refine ⟨K, fd, Zm.spOf (K88.prg.tb K88.ok K) K (Zm.callK K88.prg.gt.fl K88.prg.code 20 K88.iLaw), KX, fun s u => ?_, fun H a ns hl hO hS => Zm.law_sp K88.law_says H a ns hl hO hS, fun base hb hn => ?_⟩
    · exact L2.FunD.bindsA (ps := ["_law_script"]) F (fun _ _ _ _ _ _ us hl => match us, hl with | [_], _ => rfl) s [u] rfl
    · exact Zm.all_ok K88.ok c KX G 20 K88.iLaw (d := K88.d_law) rfl F
