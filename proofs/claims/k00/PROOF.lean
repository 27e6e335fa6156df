import PyProof.Rows.All
import HandS.ForMost
import HandS.ForExc
import HandS.Walk
import HandS.Wide
import HandS.Gcd
import HandS.TryMany
import HandS.CallSlots
import HandS.ExcInit
import HandS.ExcField
import HandS.IsInst
import HandS.Style
import HandS.Small
import HandS.TupAny
import HandS.FStr
import HandS.Zip
import HandS.Rev
import HandS.Flow
import PySem.Challenge.RW_polybench_k00_fractions
import Wide.All
import OpenK.AllK
import Wide.FinOn
set_option Elab.async false
set_option linter.all false
set_option maxRecDepth 100000
set_option maxHeartbeats 4000000
/-! DL1: plain values D (a tuple is its items, a list an address), the plain heap DH, how they stand for the hand layer's. -/
namespace DL
open PySem PySem.Spec PyProof.Rows L2

/-- a plain value; lsv: a list that nobody writes, by its items -/
inductive D where
  | non | bl (b : Bool) | int (i : Int) | str (x : Str) | tup (ds : List D) | ref (a : Addr) | lsv (ds : List D)
/-- what stands at an address: a list of ours, a dict -/
inductive DO where
  | lst (ds : List D) | dct (kvs : List (Key × D))
abbrev DH := Addr → Option DO
abbrev Sg := List (Option D)
abbrev QD := D → DH → Prop
/-- an exception: its class by name, its fields -/
structure XD where
  cls : Str
  fs : List (Str × D)
abbrev WD := XD → Sg → DH → Prop
abbrev ED := XD → DH → Prop
/-- a def's promise over plain values -/
abbrev DSp := List D → DH → QD → ED → Prop

def put (G : DH) (a : Addr) (o : DO) : DH := fun b => if b = a then some o else G b
theorem put_same {G : DH} {a : Addr} {o : DO} : put G a o a = some o := if_pos rfl
theorem put_ne {G : DH} {a b : Addr} {o : DO} (h : b ≠ a) : put G a o b = G b := if_neg h
theorem put_put {G : DH} {a : Addr} {o u : DO} : put (put G a o) a u = put G a u := by
  funext b; unfold put; split <;> rfl

/-- the slot i -/
@[simp] def gt : Sg → Nat → Option D
  | [], _ => none
  | x :: _, 0 => x
  | _ :: l, n + 1 => gt l n
/-- the slot i is set -/
@[simp] def st : Sg → Nat → Option D → Sg
  | [], _, _ => []
  | _ :: l, 0, d => d :: l
  | x :: l, n + 1, d => x :: st l n d
theorem st_eq : ∀ (σ : Sg) (i : Nat) (d : Option D), st σ i d = σ.set i d
  | [], _, _ => rfl
  | _ :: _, 0, _ => rfl
  | x :: l, n + 1, d => by
    show x :: st l n d = x :: l.set n d
    rw [st_eq l n d]
theorem gt_some : ∀ {σ : Sg} {i : Nat} {d : D}, gt σ i = some d ↔ σ[i]? = some (some d)
  | [], _, _ => by simp [gt]
  | x :: l, 0, d => by simp [gt]
  | x :: l, n + 1, d => by
    show gt l n = some d ↔ _
    rw [gt_some]; simp

/-! ### how a plain value stands for one of the layer's -/
/-- a list that is locked, or one of the written part -/
def SqV (K : PySem.W.Frag) (H : Hp) (a : Addr) (xs : List V) : Prop := (∃ o, H a = some (.frz o (.lst xs))) ∨
  ∃ (o : Obj) (its : Array Value) (n : Nat), K.lookup a = some o ∧ o.cls = .type "list" ∧ o.dict = none ∧ o.data = .seq its n ∧ its.size ≤ sizeLine ∧ Vals xs its.toList
theorem SqV.l {K : PySem.W.Frag} {H : Hp} {a : Addr} {xs : List V} (h : SqV K H a xs) : SqL K H a xs := h.elim (fun z => .inl (.inr z)) .inr
theorem SqV.of {K : PySem.W.Frag} {H : Hp} {a : Addr} {xs : List V} (h : SqL K H a xs) (n : ∀ ys, H a ≠ some (.lst ys)) : SqV K H a xs := by
  rcases h with (h | h) | h
  · exact absurd h (n xs)
  · exact .inl h
  · exact .inr h
mutual
def Rp (K : PySem.W.Frag) (H : Hp) : D → V → Prop
  | .non, v => v = .non
  | .bl b, v => v = .bl b
  | .int i, v => v = .int i
  | .str x, v => v = .str x
  | .ref a, v => v = .ref a
  | .tup ds, v => ∃ a vs, v = .ref a ∧ SqT K H a vs ∧ Rps K H ds vs
  | .lsv ds, v => ∃ a vs, v = .ref a ∧ SqV K H a vs ∧ Rps K H ds vs
def Rps (K : PySem.W.Frag) (H : Hp) : List D → List V → Prop
  | [], vs => vs = []
  | d :: ds, vs => ∃ v ws, vs = v :: ws ∧ Rp K H d v ∧ Rps K H ds ws
end
def RKs (K : PySem.W.Frag) (H : Hp) : List (Key × D) → List (Key × V) → Prop
  | [], vs => vs = []
  | (k, d) :: ds, vs => ∃ v ws, vs = (k, v) :: ws ∧ Rp K H d v ∧ RKs K H ds ws
def RO (K : PySem.W.Frag) (H : Hp) (a : Addr) : DO → Prop
  | .lst ds => ∃ vs, H a = some (.lst vs) ∧ Rps K H ds vs
  | .dct kvs => ∃ ws, H a = some (.dK ws) ∧ RKs K H kvs ws

/-- what stays: the tuples, what is locked, what is reserved -/
structure Keep (R : Addr → Prop) (H H' : Hp) : Prop where
  tup : ∀ a xs, H a = some (.tup xs) → H' a = some (.tup xs)
  frz : ∀ a o u, H a = some (.frz o u) → H' a = some (.frz o u)
  res : ∀ a, R a → H' a = H a
section
variable {R : Addr → Prop} {H H1 H2 H' : Hp} {K : PySem.W.Frag}
theorem Keep.refl : Keep R H H := ⟨fun _ _ e => e, fun _ _ _ e => e, fun _ _ => rfl⟩
theorem Keep.trans (a : Keep R H H1) (b : Keep R H1 H2) : Keep R H H2 :=
  ⟨fun x xs e => b.tup x xs (a.tup x xs e), fun x o u e => b.frz x o u (a.frz x o u e), fun x r => (b.res x r).trans (a.res x r)⟩
theorem Keep.sqT (k : Keep R H H') {a : Addr} {xs : List V} (h : SqT K H a xs) : SqT K H' a xs := by
  rcases h with (h | ⟨o, h⟩) | h
  · exact .inl (.inl (k.tup a xs h))
  · exact .inl (.inr ⟨o, k.frz a o _ h⟩)
  · exact .inr h
theorem Keep.sqV (k : Keep R H H') {a : Addr} {xs : List V} (h : SqV K H a xs) : SqV K H' a xs := by
  rcases h with ⟨o, h⟩ | h
  · exact .inl ⟨o, k.frz a o _ h⟩
  · exact .inr h
theorem Keep.new {p : Addr} {o : HO} (hp : H p = none) (hr : ∀ a, R a → H a ≠ none) : Keep R H (upd H p o) :=
  ⟨fun a xs e => by rw [upd_ne (ne_of_none e hp)]; exact e, fun a o' u e => by rw [upd_ne (ne_of_none e hp)]; exact e,
    fun a r => upd_ne fun z => hr a r (by rw [z]; exact hp)⟩
end
mutual
theorem Rp.keep {R : Addr → Prop} {H H' : Hp} {K : PySem.W.Frag} (k : Keep R H H') : ∀ {d : D} {v : V}, Rp K H d v → Rp K H' d v
  | .non, _, h => h
  | .bl _, _, h => h
  | .int _, _, h => h
  | .str _, _, h => h
  | .ref _, _, h => h
  | .tup ds, v, h => by
    obtain ⟨a, vs, e, q, r⟩ := h
    exact ⟨a, vs, e, k.sqT q, Rps.keep k r⟩
  | .lsv ds, v, h => by
    obtain ⟨a, vs, e, q, r⟩ := h
    exact ⟨a, vs, e, k.sqV q, Rps.keep k r⟩
theorem Rps.keep {R : Addr → Prop} {H H' : Hp} {K : PySem.W.Frag} (k : Keep R H H') : ∀ {ds : List D} {vs : List V}, Rps K H ds vs → Rps K H' ds vs
  | [], _, h => h
  | d :: ds, vs, h => by
    obtain ⟨v, ws, e, q, r⟩ := h
    exact ⟨v, ws, e, Rp.keep k q, Rps.keep k r⟩
end
theorem RKs.keep {R : Addr → Prop} {H H' : Hp} {K : PySem.W.Frag} (k : Keep R H H') : ∀ {ds : List (Key × D)} {vs : List (Key × V)}, RKs K H ds vs → RKs K H' ds vs
  | [], _, h => h
  | (x, d) :: ds, vs, h => by
    obtain ⟨v, ws, e, q, r⟩ := h
    exact ⟨v, ws, e, Rp.keep k q, RKs.keep k r⟩
section
variable {K : PySem.W.Frag} {H : Hp}
theorem Rps.length : ∀ {ds : List D} {vs : List V}, Rps K H ds vs → vs.length = ds.length
  | [], _, h => by cases h; rfl
  | d :: ds, vs, h => by
    obtain ⟨v, ws, e, q, r⟩ := h
    subst e
    show ws.length + 1 = ds.length + 1
    rw [Rps.length r]
theorem Rps.get : ∀ {ds : List D} {vs : List V} {i : Nat} {d : D}, Rps K H ds vs → ds[i]? = some d → ∃ v, vs[i]? = some v ∧ Rp K H d v
  | [], _, _, _, _, e => by simp at e
  | x :: ds, vs, 0, d, h, e => by
    obtain ⟨v, ws, e1, q, r⟩ := h
    have e2 : x = d := by simpa using e
    subst e1 e2
    exact ⟨v, rfl, q⟩
  | x :: ds, vs, i + 1, d, h, e => by
    obtain ⟨v, ws, e1, q, r⟩ := h
    subst e1
    exact Rps.get (i := i) r (by simpa using e)
theorem Rps.set {x : D} {u : V} (q : Rp K H x u) : ∀ {ds : List D} {vs : List V} (i : Nat), Rps K H ds vs → Rps K H (ds.set i x) (vs.set i u)
  | [], _, _, h => by cases h; rfl
  | d :: ds, vs, 0, h => by
    obtain ⟨v, ws, e, _, r⟩ := h
    subst e
    exact ⟨u, ws, rfl, q, r⟩
  | d :: ds, vs, i + 1, h => by
    obtain ⟨v, ws, e, p, r⟩ := h
    subst e
    exact ⟨v, _, rfl, p, Rps.set q i r⟩
theorem Rps.append : ∀ {ds es : List D} {vs ws : List V}, Rps K H ds vs → Rps K H es ws → Rps K H (ds ++ es) (vs ++ ws)
  | [], _, _, _, h, h' => by cases h; exact h'
  | d :: ds, es, vs, ws, h, h' => by
    obtain ⟨v, us, e, p, r⟩ := h
    subst e
    exact ⟨v, us ++ ws, rfl, p, Rps.append r h'⟩
theorem Rps.take : ∀ {ds : List D} {vs : List V} (n : Nat), Rps K H ds vs → Rps K H (ds.take n) (vs.take n)
  | _, _, 0, _ => by rw [List.take_zero, List.take_zero]; rfl
  | [], _, n + 1, h => by cases h; rfl
  | d :: ds, vs, n + 1, h => by
    obtain ⟨v, us, e, p, r⟩ := h
    subst e
    exact ⟨v, us.take n, rfl, p, Rps.take n r⟩
theorem Rps.drop : ∀ {ds : List D} {vs : List V} (n : Nat), Rps K H ds vs → Rps K H (ds.drop n) (vs.drop n)
  | _, _, 0, h => h
  | [], _, n + 1, h => by cases h; rfl
  | d :: ds, vs, n + 1, h => by
    obtain ⟨v, us, e, p, r⟩ := h
    subst e
    exact Rps.drop n r
theorem Rps.one {d : D} {v : V} (h : Rp K H d v) : Rps K H [d] [v] := ⟨v, [], rfl, h, rfl⟩
theorem Rps.reverse : ∀ {ds : List D} {vs : List V}, Rps K H ds vs → Rps K H ds.reverse vs.reverse
  | [], _, h => by cases h; rfl
  | d :: ds, vs, h => by
    obtain ⟨v, us, e, p, r⟩ := h
    subst e
    rw [List.reverse_cons, List.reverse_cons]
    exact (Rps.reverse r).append (Rps.one p)
theorem Rps.ints : ∀ {ns : List Int} {vs : List V}, Rps K H (ns.map D.int) vs → vs = ns.map V.int
  | [], _, h => h
  | n :: ns, vs, h => by
    obtain ⟨v, us, e, p, r⟩ := h
    have p' : v = V.int n := p
    rw [e, p', Rps.ints r]; rfl
theorem Rps.bls : ∀ {ns : List Bool} {vs : List V}, Rps K H (ns.map D.bl) vs → vs = ns.map V.bl
  | [], _, h => h
  | n :: ns, vs, h => by
    obtain ⟨v, us, e, p, r⟩ := h
    have p' : v = V.bl n := p
    rw [e, p', Rps.bls r]; rfl
theorem Rps.nil_iff {vs : List V} {ds : List D} (h : Rps K H ds vs) : vs = [] ↔ ds = [] := by
  have := h.length
  constructor <;> intro e <;> subst e
  · cases ds with
    | nil => rfl
    | cons _ _ => simp at this
  · cases vs with
    | nil => rfl
    | cons _ _ => simp at this
end
/-- the plain state stands for the layer's -/
structure SR (K : PySem.W.Frag) (R : Addr → Prop) (H0 : Hp) (σ : Sg) (G : DH) (σv : L2.St) (H : Hp) : Prop where
  len : σ.length = σv.length
  sl : ∀ (i : Nat) (d : D), σ[i]? = some (some d) → ∃ v, σv[i]? = some (some v) ∧ Rp K H d v
  gr : ∀ a o, G a = some o → RO K H a o
  rs : ∀ a, R a → H a ≠ none ∧ G a = none
  kp : Keep R H0 H
section
variable {K : PySem.W.Frag} {R : Addr → Prop} {H0 H H' : Hp} {σ : Sg} {G G' : DH} {σv : L2.St}
theorem RO.some {a : Addr} {o : DO} (h : RO K H a o) : ∃ u, H a = some u := by
  cases o with
  | lst ds => obtain ⟨vs, e, _⟩ := h; exact ⟨_, e⟩
  | dct kvs => obtain ⟨ws, e, _⟩ := h; exact ⟨_, e⟩
theorem SR.free (s : SR K R H0 σ G σv H) {p : Addr} (hp : H p = none) : G p = none := by
  cases e : G p with
  | none => rfl
  | some o =>
    obtain ⟨u, z⟩ := (s.gr p o e).some
    rw [hp] at z; cases z
theorem SR.nres (s : SR K R H0 σ G σv H) : ∀ a, R a → H a ≠ none := fun a r => (s.rs a r).1
/-- a new object that the plain heap does not tell -/
theorem SR.hid (s : SR K R H0 σ G σv H) {p : Addr} {o : HO} (hp : H p = none) : SR K R H0 σ G σv (upd H p o) := by
  have k : Keep R H (upd H p o) := Keep.new hp s.nres
  refine ⟨s.len, fun i d e => ?_, fun a u e => ?_, fun a r => ⟨?_, (s.rs a r).2⟩, s.kp.trans k⟩
  · obtain ⟨v, e1, q⟩ := s.sl i d e
    exact ⟨v, e1, q.keep k⟩
  · have z := s.gr a u e
    obtain ⟨u0, e0⟩ := z.some
    have hne : a ≠ p := ne_of_none e0 hp
    cases u with
    | lst ds => obtain ⟨vs, e1, q⟩ := z; exact ⟨vs, by rw [upd_ne hne]; exact e1, q.keep k⟩
    | dct kvs => obtain ⟨ws, e1, q⟩ := z; exact ⟨ws, by rw [upd_ne hne]; exact e1, q.keep k⟩
  · rw [k.res a r]; exact (s.rs a r).1
/-- a new object that the plain heap tells -/
theorem SR.new (s : SR K R H0 σ G σv H) {p : Addr} {o : HO} {u : DO} (hp : H p = none) (hu : RO K (upd H p o) p u) : SR K R H0 σ (put G p u) σv (upd H p o) := by
  have z := s.hid (o := o) hp
  refine ⟨z.len, z.sl, fun a w e => ?_, fun a r => ⟨(z.rs a r).1, ?_⟩, z.kp⟩
  · by_cases h : a = p
    · subst h
      rw [put_same] at e; cases e
      exact hu
    · rw [put_ne h] at e
      exact z.gr a w e
  · have hne : a ≠ p := fun q => s.nres a r (by rw [q]; exact hp)
    rw [put_ne hne]
    exact (z.rs a r).2
/-- what the writing of a tracked object keeps -/
theorem SR.wkeep (s : SR K R H0 σ G σv H) {p : Addr} {o0 : DO} (hg : G p = some o0) (hm : ∀ xs, H p ≠ some (.tup xs)) (hf : ∀ o u, H p ≠ some (.frz o u)) {o : HO} : Keep R H (upd H p o) :=
  ⟨fun a xs e => by rw [upd_ne fun z => hm xs (by rw [← z]; exact e)]; exact e, fun a o' u e => by rw [upd_ne fun z => hf o' u (by rw [← z]; exact e)]; exact e,
    fun a r => upd_ne fun z => by have := (s.rs a r).2; rw [z, hg] at this; cases this⟩
theorem SR.write (s : SR K R H0 σ G σv H) {p : Addr} {o0 u : DO} {o : HO} (hg : G p = some o0) (hm : ∀ xs, H p ≠ some (.tup xs)) (hf : ∀ o u, H p ≠ some (.frz o u)) (hu : RO K (upd H p o) p u) : SR K R H0 σ (put G p u) σv (upd H p o) := by
  have k : Keep R H (upd H p o) := s.wkeep hg hm hf
  refine ⟨s.len, fun i d e => ?_, fun a w e => ?_, fun a r => ?_, s.kp.trans k⟩
  · obtain ⟨v, e1, q⟩ := s.sl i d e
    exact ⟨v, e1, q.keep k⟩
  · by_cases h : a = p
    · subst h
      rw [put_same] at e; cases e
      exact hu
    · rw [put_ne h] at e
      have z := s.gr a w e
      cases w with
      | lst ds => obtain ⟨vs, e1, q⟩ := z; exact ⟨vs, by rw [upd_ne h]; exact e1, q.keep k⟩
      | dct kvs => obtain ⟨ws, e1, q⟩ := z; exact ⟨ws, by rw [upd_ne h]; exact e1, q.keep k⟩
  · have hne : a ≠ p := fun z => by have := (s.rs a r).2; rw [z, hg] at this; cases this
    rw [k.res a r, put_ne hne]
    exact s.rs a r
/-- less is told of the heap -/
theorem SR.less (s : SR K R H0 σ G σv H) (h : ∀ a o, G' a = some o → G a = some o) : SR K R H0 σ G' σv H :=
  ⟨s.len, s.sl, fun a o e => s.gr a o (h a o e), fun a r => ⟨(s.rs a r).1, by
    cases e : G' a with
    | none => rfl
    | some o => have := (s.rs a r).2; rw [h a o e] at this; cases this⟩, s.kp⟩
/-- a slot is set -/
theorem SR.slot (s : SR K R H0 σ G σv H) (i : Nat) {d : D} {v : V} (q : Rp K H d v) : SR K R H0 (st σ i (some d)) G (σv.set i (some v)) H := by
  refine ⟨by rw [st_eq, List.length_set, List.length_set]; exact s.len, fun j e h => ?_, s.gr, s.rs, s.kp⟩
  rw [st_eq] at h
  by_cases hj : i = j
  · subst hj
    by_cases hl : i < σ.length
    · rw [List.getElem?_set_self hl] at h
      have h' : d = e := by simpa using h
      subst h'
      exact ⟨v, by rw [List.getElem?_set_self (by rw [← s.len]; exact hl)], q⟩
    · rw [List.getElem?_eq_none (by rw [List.length_set]; omega)] at h; cases h
  · rw [List.getElem?_set_ne hj] at h
    obtain ⟨w, e1, q1⟩ := s.sl j e h
    exact ⟨w, by rw [List.getElem?_set_ne hj]; exact e1, q1⟩
theorem SR.unslot (s : SR K R H0 σ G σv H) (i : Nat) (x : Option V) : SR K R H0 (st σ i none) G (σv.set i x) H := by
  refine ⟨by rw [st_eq, List.length_set, List.length_set]; exact s.len, fun j e h => ?_, s.gr, s.rs, s.kp⟩
  rw [st_eq] at h
  by_cases hj : i = j
  · subst hj
    by_cases hl : i < σ.length
    · rw [List.getElem?_set_self hl] at h; cases h
    · rw [List.getElem?_eq_none (by rw [List.length_set]; omega)] at h; cases h
  · rw [List.getElem?_set_ne hj] at h
    obtain ⟨w, e1, q1⟩ := s.sl j e h
    exact ⟨w, by rw [List.getElem?_set_ne hj]; exact e1, q1⟩
end
end DL

set_option Elab.async false
set_option linter.all false
set_option maxRecDepth 100000
set_option maxHeartbeats 4000000
/-! DL2: readings over plain values, lifted to the layer's; operators on plain values with their soundness. -/
namespace DL
open PySem PySem.Spec PyProof.Rows L2
abbrev DE := WD → Sg → DH → QD → Prop
abbrev DT := WD → Sg → DH → (Bool → DH → Prop) → Prop
abbrev DA := WD → Sg → DH → (List D → DH → Prop) → Prop
structure DEnds where
  nx : Sg → DH → Prop
  rt : QD
  bk : Sg → DH → Prop := fun _ _ => False
  ct : Sg → DH → Prop := fun _ _ => False
abbrev DS := WD → DEnds → Sg → DH → Prop

/-- str of an int -/
def intS (i : Int) : Str := Str.ofString (toString i)
/-- what the layer's wish for a value must take -/
def Out (K : PySem.W.Frag) (R : Addr → Prop) (H0 : Hp) (σ : Sg) (σv : L2.St) (H : Hp) (Q : QD) (Qv : VK) : Prop :=
  ∀ d G' v H', Q d G' → Rp K H' d v → SR K R H0 σ G' σv H' → Keep R H H' → Qv v H'
def lE (K : PySem.W.Frag) (R : Addr → Prop) (H0 : Hp) (W : WD) (t : DE) : TE := fun σv H Qv => ∃ σ G Q, SR K R H0 σ G σv H ∧ t W σ G Q ∧ Out K R H0 σ σv H Q Qv
def lT (K : PySem.W.Frag) (R : Addr → Prop) (H0 : Hp) (W : WD) (t : DT) : TT := fun σv H Qv => ∃ σ G Q, SR K R H0 σ G σv H ∧ t W σ G Q ∧ ∀ b G' H', Q b G' → SR K R H0 σ G' σv H' → Keep R H H' → Qv b H'
def lA (K : PySem.W.Frag) (R : Addr → Prop) (H0 : Hp) (W : WD) (t : DA) : TA := fun σv H Qv => ∃ σ G Q, SR K R H0 σ G σv H ∧ t W σ G Q ∧ ∀ ds G' vs H', Q ds G' → Rps K H' ds vs → SR K R H0 σ G' σv H' → Keep R H H' → Qv vs H'
section
variable {K : PySem.W.Frag} {R : Addr → Prop} {H0 H H' : Hp} {σ : Sg} {G G' : DH} {σv : L2.St} {Q Q' : QD} {Qv : VK}
theorem Out.now (o : Out K R H0 σ σv H Q Qv) {d : D} {v : V} (h : Q d G) (r : Rp K H d v) (s : SR K R H0 σ G σv H) : Qv v H := o d G v H h r s .refl
theorem Out.back (o : Out K R H0 σ σv H Q Qv) (k : Keep R H H') : Out K R H0 σ σv H' Q Qv := fun d G' v H2 q r s k2 => o d G' v H2 q r s (k.trans k2)
/-- a new tuple -/
theorem Out.tup (o : Out K R H0 σ σv H Q Qv) {ds : List D} {vs : List V} (h : Q (.tup ds) G) (r : Rps K H ds vs) (s : SR K R H0 σ G σv H) : ∀ p, H p = none → Qv (.ref p) (upd H p (.tup vs)) := fun p hp =>
  have k : Keep R H (upd H p (.tup vs)) := Keep.new hp s.nres
  o _ G _ _ h ⟨p, vs, rfl, SqT.of upd_same, r.keep k⟩ (s.hid hp) k
/-- a new list -/
theorem Out.lst (o : Out K R H0 σ σv H Q Qv) {ds : List D} {vs : List V} (h : ∀ p, G p = none → Q (.ref p) (put G p (.lst ds))) (r : Rps K H ds vs) (s : SR K R H0 σ G σv H) : ∀ p, H p = none → Qv (.ref p) (upd H p (.lst vs)) := fun p hp =>
  have k : Keep R H (upd H p (.lst vs)) := Keep.new hp s.nres
  o _ _ _ _ (h p (s.free hp)) rfl (s.new hp ⟨vs, upd_same, r.keep k⟩) k
end

/-- an operator on two plain values, as the layer has it -/
def RB (K : PySem.W.Frag) (k : D → D → DH → QD → Prop) : R2 := fun v w H Qv => ∃ R H0 σ σv x y G Q, Rp K H x v ∧ Rp K H y w ∧ SR K R H0 σ G σv H ∧ k x y G Q ∧ Out K R H0 σ σv H Q Qv
def RU (K : PySem.W.Frag) (k : D → DH → QD → Prop) : V → Hp → VK → Prop := fun v H Qv => ∃ R H0 σ σv x G Q, Rp K H x v ∧ SR K R H0 σ G σv H ∧ k x G Q ∧ Out K R H0 σ σv H Q Qv
def RC (K : PySem.W.Frag) (k : List D → DH → QD → Prop) : List V → Hp → VK → Prop := fun vs H Qv => ∃ R H0 σ σv xs G Q, Rps K H xs vs ∧ SR K R H0 σ G σv H ∧ k xs G Q ∧ Out K R H0 σ σv H Q Qv
def RM (K : PySem.W.Frag) (k : D → List D → DH → QD → Prop) : V → List V → Hp → VK → Prop := fun v vs H Qv => ∃ R H0 σ σv x xs G Q, Rp K H x v ∧ Rps K H xs vs ∧ SR K R H0 σ G σv H ∧ k x xs G Q ∧ Out K R H0 σ σv H Q Qv

/-- the items of a sequence at an address -/
def sqAt (G : DH) (a : Addr) : Option (List D) := match G a with
  | some (.lst ds) => some ds
  | _ => none
theorem sqAt_lst {G : DH} {a : Addr} {ds : List D} (h : G a = some (.lst ds)) : sqAt G a = some ds := by unfold sqAt; rw [h]
theorem SR.sqL {K : PySem.W.Frag} {R : Addr → Prop} {H0 H : Hp} {σ : Sg} {G : DH} {σv : L2.St} (s : SR K R H0 σ G σv H) {a : Addr} {ds : List D} (h : sqAt G a = some ds) : ∃ vs, SqL K H a vs ∧ Rps K H ds vs := by
  unfold sqAt at h
  cases e : G a with
  | none => rw [e] at h; cases h
  | some o =>
    rw [e] at h
    have z := s.gr a o e
    cases o with
    | lst xs =>
      cases h
      obtain ⟨vs, e1, q⟩ := z
      exact ⟨vs, SqL.of e1, q⟩
    | dct _ => cases h

/-! ### operators -/
def binD : Operator → D → D → DH → QD → Prop
  | .Add, .int i, .int j, G, Q => Q (.int (i + j)) G
  | .Add, .str i, .str j, G, Q => i.length + j.length ≤ sizeLine ∧ Q (.str (i ++ j)) G
  | .Add, .tup xs, .tup ys, G, Q => xs.length + ys.length ≤ sizeLine ∧ Q (.tup (xs ++ ys)) G
  | .Add, .ref a, .ref b, G, Q => ∃ xs ys, G a = some (.lst xs) ∧ G b = some (.lst ys) ∧ xs.length + ys.length ≤ sizeLine ∧ ∀ p, G p = none → Q (.ref p) (put G p (.lst (xs ++ ys)))
  | .Sub, .int i, .int j, G, Q => Q (.int (i - j)) G
  | .Mult, .int i, .int j, G, Q => IntMulOk i j ∧ Q (.int (i * j)) G
  | .Mult, .ref a, .int k, G, Q => ∃ xs, G a = some (.lst xs) ∧ -(2 ^ 63) ≤ k ∧ k < 2 ^ 63 ∧ xs.length * k.toNat ≤ sizeLine ∧ ∀ p, G p = none → Q (.ref p) (put G p (.lst (List.replicate k.toNat xs).flatten))
  | .FloorDiv, .int i, .int j, G, Q => j ≠ 0 ∧ j.natAbs.log2 < 9000 ∧ Q (.int (i.fdiv j)) G
  | .Mod, .int i, .int j, G, Q => j ≠ 0 ∧ Q (.int (i.fmod j)) G
  | .Pow, .int i, .int j, G, Q => 0 ≤ j ∧ (Builtin.Int.intBits i : Int) * j ≤ 2 ^ 27 ∧ Q (.int (i ^ j.toNat)) G
  | .LShift, .int i, .int j, G, Q => CPow i j ∧ Q (.int (i * 2 ^ j.toNat)) G
  | .RShift, .int i, .int j, G, Q => 0 ≤ j ∧ Q (.int (i / 2 ^ j.toNat)) G
  | .BitAnd, .int i, .int j, G, Q => Q (.int (Builtin.bitAnd i j)) G
  | _, _, _, _, _ => False
section
variable {X : Cx}
theorem op_mulG : OpR X (binaryOp .Mult) (rI IntMulOk fun i j => .int (i * j)) := opI fun _ _ _ _ _ _ _ hc q => mul_int q hc
theorem op_fdivG : OpR X (binaryOp .FloorDiv) (rI (fun _ j => j ≠ 0 ∧ j.natAbs.log2 < 9000) fun i j => .int (i.fdiv j)) := opI fun _ _ _ _ _ _ _ hc q => floordiv_int hc.1 q (.inl (PyProof.noPylong_of_log2 hc.2))
theorem op_powG : OpR X (binaryOp .Pow) (rI (fun i j => 0 ≤ j ∧ (Builtin.Int.intBits i : Int) * j ≤ 2 ^ 27) fun i j => .int (i ^ j.toNat)) := opI fun _ _ _ _ _ _ _ hc q => pow_int hc.1 hc.2 q
theorem rps_flat {K : PySem.W.Frag} {H : Hp} {ds : List D} {vs : List V} (r : Rps K H ds vs) : ∀ n, Rps K H (List.replicate n ds).flatten (List.replicate n vs).flatten
  | 0 => rfl
  | n + 1 => by
    rw [List.replicate_succ, List.replicate_succ, List.flatten_cons, List.flatten_cons]
    exact r.append (rps_flat r n)
theorem op_binD (op : Operator) : OpR X (binaryOp op) (RB X.K (binD op)) := by
  intro pins s σl H v w v' w' Qv I rv rw' h
  obtain ⟨R, H0, σ, σv, x, y, G, Q, rx, ry, sr, k, out⟩ := h
  cases x with
  | int i =>
    cases y with
    | int j =>
      have e1 : v = .int i := rx
      have e2 : w = .int j := ry
      have ok : ∀ z, Q (.int z) G → Qv (.int z) H := fun z q => out.now q rfl sr
      cases op with
      | Add => exact op_add pins s σl H v w v' w' Qv I rv rw' ⟨i, j, e1, e2, ok _ k⟩
      | Sub => exact op_sub pins s σl H v w v' w' Qv I rv rw' ⟨i, j, e1, e2, ok _ k⟩
      | Mult => exact op_mulG pins s σl H v w v' w' Qv I rv rw' ⟨i, j, e1, e2, k.1, ok _ k.2⟩
      | FloorDiv => exact op_fdivG pins s σl H v w v' w' Qv I rv rw' ⟨i, j, e1, e2, ⟨k.1, k.2.1⟩, ok _ k.2.2⟩
      | Mod => exact op_modN pins s σl H v w v' w' Qv I rv rw' ⟨i, j, e1, e2, k.1, ok _ k.2⟩
      | Pow => exact op_powG pins s σl H v w v' w' Qv I rv rw' ⟨i, j, e1, e2, ⟨k.1, k.2.1⟩, ok _ k.2.2⟩
      | LShift => exact op_shl pins s σl H v w v' w' Qv I rv rw' ⟨i, j, e1, e2, k.1, ok _ k.2⟩
      | RShift => exact op_shr pins s σl H v w v' w' Qv I rv rw' ⟨i, j, e1, e2, k.1, ok _ k.2⟩
      | BitAnd => exact op_and pins s σl H v w v' w' Qv I rv rw' ⟨i, j, e1, e2, ok _ k⟩
      | _ => exact False.elim k
    | _ => cases op <;> exact False.elim k
  | str i =>
    cases y with
    | str j =>
      have e1 : v = .str i := rx
      have e2 : w = .str j := ry
      cases op with
      | Add => exact op_add_str pins s σl H v w v' w' Qv I rv rw' ⟨i, j, e1, e2, k.1, out.now (G := G) k.2 rfl sr⟩
      | _ => exact False.elim k
    | _ => cases op <;> exact False.elim k
  | tup xs =>
    cases y with
    | tup ys =>
      obtain ⟨a, vs, e1, qa, ra⟩ := rx
      obtain ⟨b, ws, e2, qb, rb⟩ := ry
      cases op with
      | Add =>
        obtain ⟨hl, q⟩ := k
        have l1 := ra.length
        have l2 := rb.length
        refine op_catA pins s σl H v w v' w' Qv I rv rw' ⟨a, b, vs, ws, e1, e2, qa, qb, by omega, fun z => ?_, fun _ z => ?_, fun _ _ => ?_⟩
        · have z' : xs = [] := (ra.nil_iff).mp z
          subst z'
          exact out.now (G := G) q ⟨b, ws, rfl, qb, rb⟩ sr
        · have z' : ys = [] := (rb.nil_iff).mp z
          subst z'
          rw [List.append_nil] at q
          exact out.now (G := G) q ⟨a, vs, rfl, qa, ra⟩ sr
        · exact out.tup q (ra.append rb) sr
      | _ => exact False.elim k
    | _ => cases op <;> exact False.elim k
  | ref a =>
    cases y with
    | ref b =>
      have e1 : v = .ref a := rx
      have e2 : w = .ref b := ry
      cases op with
      | Add =>
        obtain ⟨xs, ys, h1, h2, hl, q⟩ := k
        obtain ⟨vs, e3, r1⟩ := sr.gr a _ h1
        obtain ⟨ws, e4, r2⟩ := sr.gr b _ h2
        have l1 := r1.length
        have l2 := r2.length
        exact op_cat pins s σl H v w v' w' Qv I rv rw' ⟨a, b, vs, ws, e1, e2, e3, e4, by omega, out.lst q (r1.append r2) sr⟩
      | _ => exact False.elim k
    | int n =>
      have e1 : v = .ref a := rx
      have e2 : w = .int n := ry
      cases op with
      | Mult =>
        obtain ⟨xs, h1, k1, k2, hl, q⟩ := k
        obtain ⟨vs, e3, r1⟩ := sr.gr a _ h1
        exact op_rep pins s σl H v w v' w' Qv I rv rw' ⟨a, n, vs, e1, e2, e3, k1, k2, by rw [r1.length]; exact hl, out.lst q (rps_flat r1 _) sr⟩
      | _ => exact False.elim k
    | _ => cases op <;> exact False.elim k
  | _ => cases op <;> exact False.elim k
def negD : D → DH → QD → Prop
  | .int i, G, Q => Q (.int (-i)) G
  | _, _, _ => False
theorem un_negD : UnR X (unaryOp .USub) (RU X.K negD) := by
  intro pins s σl H v v' Qv I rv h
  obtain ⟨R, H0, σ, σv, x, G, Q, rx, sr, k, out⟩ := h
  cases x with
  | int i => exact un_neg pins s σl H v v' Qv I rv ⟨i, rx, out.now (G := G) k rfl sr⟩
  | _ => exact False.elim k
end

/-! ### == and != of data -/
mutual
/-- data over the plain heap -/
inductive Py (G : DH) : D → PyData → Prop
  | non : Py G .non .none
  | bl (b : Bool) : Py G (.bl b) (.bool b)
  | int (i : Int) : Py G (.int i) (.int i)
  | str (x : Str) : Py G (.str x) (.str x)
  | tup {ds : List D} {ps : List PyData} : Pys G ds ps → Py G (.tup ds) (.tuple ps)
  | lst {a : Addr} {ds : List D} {ps : List PyData} : sqAt G a = some ds → Pys G ds ps → Py G (.ref a) (.list ps)
inductive Pys (G : DH) : List D → List PyData → Prop
  | nil : Pys G [] []
  | cons {d : D} {ds : List D} {p : PyData} {ps : List PyData} : Py G d p → Pys G ds ps → Pys G (d :: ds) (p :: ps)
end
section
variable {K : PySem.W.Frag} {R : Addr → Prop} {H0 H : Hp} {σ : Sg} {G : DH} {σv : L2.St}
mutual
theorem Py.dp (s : SR K R H0 σ G σv H) : ∀ (p : PyData) (d : D) (v : V), Py G d p → Rp K H d v → Dp K H v p
  | .none, _, _, h, r => by
    cases h
    rw [show _ = V.non from r]; exact .non
  | .bool b, _, _, h, r => by
    cases h
    rw [show _ = V.bl b from r]; exact .bl b
  | .int i, _, _, h, r => by
    cases h
    rw [show _ = V.int i from r]; exact .int i
  | .str x, _, _, h, r => by
    cases h
    rw [show _ = V.str x from r]; exact .str x
  | .list ps, _, _, h, r => by
    cases h with
    | lst e q =>
      rw [show _ = V.ref _ from r]
      obtain ⟨vs, e1, r1⟩ := s.sqL e
      exact .lst e1 (Pys.dp s ps _ _ q r1)
  | .tuple ps, _, _, h, r => by
    cases h with
    | tup q =>
      obtain ⟨a, vs, e, e1, r1⟩ := r
      rw [e]
      exact .tup e1 (Pys.dp s ps _ _ q r1)
  | .dict _, _, _, h, _ => by cases h
theorem Pys.dp (s : SR K R H0 σ G σv H) : ∀ (ps : List PyData) (ds : List D) (vs : List V), Pys G ds ps → Rps K H ds vs → DpAll K H vs ps
  | [], _, _, h, r => by
    cases h
    rw [show _ = [] from r]; exact .nil
  | p :: ps, _, _, h, r => by
    cases h with
    | cons h1 h2 =>
      obtain ⟨v, ws, e, r1, r2⟩ := r
      rw [e]
      exact .cons (Py.dp s p _ _ h1 r1) (Pys.dp s ps _ _ h2 r2)
end
end
/-- == of scalars -/
def sEq : D → D → Option Bool
  | .non, .non => some true
  | .int i, .int j => some (decide (i = j))
  | .bl a, .bl b => some (decide (a = b))
  | .str x, .str y => some (decide (x = y))
  | .non, .int _ => some false
  | .int _, .non => some false
  | .non, .bl _ => some false
  | .bl _, .non => some false
  | .non, .str _ => some false
  | .str _, .non => some false
  | .int _, .str _ => some false
  | .str _, .int _ => some false
  | .bl _, .str _ => some false
  | .str _, .bl _ => some false
  | _, _ => none
/-- == of two values -/
def eqD (x y : D) (G : DH) (Q : Bool → Prop) : Prop := match sEq x y with
  | some b => Q b
  | none => ∃ p q, Py G x p ∧ Py G y q ∧ SeqAt.shaped p = true ∧ SeqAt.shaped q = true ∧ Q (PyData.eqv p q)
theorem sEq_ok {K : PySem.W.Frag} {H : Hp} {x y : D} {v w : V} {b : Bool} (h : sEq x y = some b) (rx : Rp K H x v) (ry : Rp K H y w) : scal v w = true ∧ decide (v = w) = b := by
  cases x <;> cases y <;> first
    | (simp only [sEq] at h; cases h; rw [show v = _ from rx, show w = _ from ry]; exact ⟨rfl, by simp⟩)
    | (exact absurd (show none = some b from h) (by simp))
/-- membership: flat items, a sign in a text -/
def flD : D → Bool
  | .non => true | .bl _ => true | .int _ => true | .str _ => true | _ => false
def feqD : D → D → Bool
  | .non, .non => true
  | .bl a, .bl b => a == b
  | .bl a, .int b => (if a then 1 else 0) == b
  | .int a, .bl b => a == (if b then 1 else 0)
  | .int a, .int b => a == b
  | .str a, .str b => a == b
  | _, _ => false
theorem fl_ok {K : PySem.W.Frag} {H : Hp} {x : D} {v : V} (h : flD x = true) (rx : Rp K H x v) : flatV v = true := by
  cases x <;> first
    | (rw [show v = _ from rx]; rfl)
    | (exact absurd (show false = true from h) Bool.false_ne_true)
theorem fls_ok {K : PySem.W.Frag} {H : Hp} : ∀ {xs : List D} {vs : List V}, xs.all flD = true → Rps K H xs vs → vs.all flatV = true
  | [], _, _, r => by rw [show _ = [] from r]; rfl
  | x :: xs, _, h, r => by
    obtain ⟨v, ws, e, r1, r2⟩ := r
    rw [List.all_cons, Bool.and_eq_true] at h
    rw [e, List.all_cons, fl_ok h.1 r1, fls_ok h.2 r2]; rfl
theorem feq_ok {K : PySem.W.Frag} {H : Hp} {x y : D} {v w : V} (hx : flD x = true) (hy : flD y = true) (rx : Rp K H x v) (ry : Rp K H y w) : eqV v w = feqD x y := by
  cases x <;> cases y <;> first
    | (rw [show v = _ from rx, show w = _ from ry]; rfl)
    | (exact absurd (show false = true from hx) Bool.false_ne_true)
    | (exact absurd (show false = true from hy) Bool.false_ne_true)
def inD (x : D) (xs : List D) : Bool := xs.any fun y => feqD y x
theorem in_ok {K : PySem.W.Frag} {H : Hp} {x : D} {v : V} (hx : flD x = true) (rx : Rp K H x v) : ∀ {xs : List D} {vs : List V}, xs.all flD = true → Rps K H xs vs → inV v vs = inD x xs
  | [], _, _, r => by rw [show _ = [] from r]; rfl
  | y :: xs, _, h, r => by
    obtain ⟨w, ws, e, r1, r2⟩ := r
    rw [List.all_cons, Bool.and_eq_true] at h
    have ih := in_ok hx rx h.2 r2
    unfold inV inD at ih ⊢
    rw [e, List.any_cons, List.any_cons, feq_ok h.1 hx r1 rx, ih]
def memD (neg : Bool) : D → D → DH → QD → Prop
  | .str c, .str z, G, Q => ∃ n, c = ⟨#[n]⟩ ∧ Q (.bl (if neg then !decide (n ∈ z.cps.toList) else decide (n ∈ z.cps.toList))) G
  | x, .tup xs, G, Q => flD x = true ∧ xs.all flD = true ∧ Q (.bl (if neg then !inD x xs else inD x xs)) G
  | x, .ref a, G, Q => ∃ xs, sqAt G a = some xs ∧ flD x = true ∧ xs.all flD = true ∧ Q (.bl (if neg then !inD x xs else inD x xs)) G
  | _, _, _, _ => False
def isD (neg : Bool) : D → D → DH → QD → Prop
  | .bl a, .bl b, G, Q => Q (.bl (if neg then !decide (a = b) else decide (a = b))) G
  | .non, .non, G, Q => Q (.bl (!neg)) G
  | .bl _, .non, G, Q => Q (.bl neg) G
  | .int _, .non, G, Q => Q (.bl neg) G
  | .str _, .non, G, Q => Q (.bl neg) G
  | .tup _, .non, G, Q => Q (.bl neg) G
  | .ref _, .non, G, Q => Q (.bl neg) G
  | .lsv _, .non, G, Q => Q (.bl neg) G
  | _, _, _, _ => False
def cmpD : CmpOp → D → D → DH → QD → Prop
  | .Eq, x, y, G, Q => eqD x y G fun b => Q (.bl b) G
  | .NotEq, x, y, G, Q => eqD x y G fun b => Q (.bl (!b)) G
  | .Is, x, y, G, Q => isD false x y G Q
  | .IsNot, x, y, G, Q => isD true x y G Q
  | .In, x, y, G, Q => memD false x y G Q
  | .NotIn, x, y, G, Q => memD true x y G Q
  | .Lt, .int i, .int j, G, Q => Q (.bl (decide (i < j))) G
  | .LtE, .int i, .int j, G, Q => Q (.bl (decide (i ≤ j))) G
  | .Gt, .int i, .int j, G, Q => Q (.bl (decide (j < i))) G
  | .GtE, .int i, .int j, G, Q => Q (.bl (decide (j ≤ i))) G
  | _, _, _, _, _ => False
section
variable {X : Cx}
theorem op_cmpD (hu : X.A.units + 64 < cLine) (op : CmpOp) : OpR X (compareOp op) (RB X.K (cmpD op)) := by
  intro pins s σl H v w v' w' Qv I rv rw' h
  obtain ⟨R, H0, σ, σv, x, y, G, Q, rx, ry, sr, k, out⟩ := h
  have nu : ∀ b, Q (.bl b) G → Qv (.bl b) H := fun b q => out.now q rfl sr
  have mem : ∀ neg, memD neg x y G Q → OpR X (compareOp (if neg then .NotIn else .In)) (rIn X.K neg) → OpR X (compareOp (if neg then .NotIn else .In)) (fun x y H Q => ∃ (c : Nat) (z : Str), x = .str ⟨#[c]⟩ ∧ y = .str z ∧ Q (.bl (if neg then !decide (c ∈ z.cps.toList) else decide (c ∈ z.cps.toList))) H) →
      wpAny (model X.prog X.w) X.A (compareOp (if neg then .NotIn else .In) v' w') (EP X pins σl Qv) X.xe s := by
    intro neg k o1 o2
    have main : ∀ xs vs p, w = .ref p → (SqL X.K H p vs ∨ SqT X.K H p vs) → Rps X.K H xs vs → flD x = true → xs.all flD = true → Q (.bl (if neg then !inD x xs else inD x xs)) G →
        wpAny (model X.prog X.w) X.A (compareOp (if neg then .NotIn else .In) v' w') (EP X pins σl Qv) X.xe s := fun xs vs p e q r fx fs qq => by
      refine o1 pins s σl H v w v' w' Qv I rv rw' ⟨p, vs, e, q, fl_ok fx rx, fls_ok fs r, ?_⟩
      rw [in_ok fx rx fs r]
      exact nu _ qq
    cases y with
    | str z =>
      cases x with
      | str c =>
        obtain ⟨n, e, q⟩ := k
        subst e
        exact o2 pins s σl H v w v' w' Qv I rv rw' ⟨n, z, rx, ry, nu _ q⟩
      | _ => exact False.elim k
    | tup xs =>
      have k' : flD x = true ∧ xs.all flD = true ∧ Q (.bl (if neg then !inD x xs else inD x xs)) G := by cases x <;> exact k
      obtain ⟨fx, fs, q⟩ := k'
      obtain ⟨a, vs, e, q1, r1⟩ := ry
      exact main xs vs a e (.inr q1) r1 fx fs q
    | ref a =>
      have k' : ∃ xs, sqAt G a = some xs ∧ flD x = true ∧ xs.all flD = true ∧ Q (.bl (if neg then !inD x xs else inD x xs)) G := by cases x <;> exact k
      obtain ⟨xs, e, fx, fs, q⟩ := k'
      obtain ⟨vs, e1, r1⟩ := sr.sqL e
      exact main xs vs a ry (.inl e1) r1 fx fs q
    | _ => cases x <;> exact False.elim k
  cases op with
  | Eq =>
    have k' : eqD x y G fun b => Q (.bl b) G := k
    unfold eqD at k'
    cases e : sEq x y with
    | some b =>
      rw [e] at k'
      obtain ⟨h1, h2⟩ := sEq_ok e rx ry
      exact op_eq pins s σl H v w v' w' Qv I rv rw' ⟨h1, by rw [h2]; exact nu _ k'⟩
    | none =>
      rw [e] at k'
      obtain ⟨p, q, hp, hq, sp, sq, k'⟩ := k'
      exact op_eqD hu pins s σl H v w v' w' Qv I rv rw' ⟨p, q, Py.dp sr p x v hp rx, Py.dp sr q y w hq ry, sp, sq, nu _ k'⟩
  | NotEq =>
    have k' : eqD x y G fun b => Q (.bl (!b)) G := k
    unfold eqD at k'
    cases e : sEq x y with
    | some b =>
      rw [e] at k'
      obtain ⟨h1, h2⟩ := sEq_ok e rx ry
      exact op_ne pins s σl H v w v' w' Qv I rv rw' ⟨h1, by rw [h2]; exact nu _ k'⟩
    | none =>
      rw [e] at k'
      obtain ⟨p, q, hp, hq, sp, sq, k'⟩ := k'
      exact op_neD hu pins s σl H v w v' w' Qv I rv rw' ⟨p, q, Py.dp sr p x v hp rx, Py.dp sr q y w hq ry, sp, sq, nu _ k'⟩
  | Is =>
    have k' : isD false x y G Q := k
    cases y with
    | non =>
      refine op_isN pins s σl H v w v' w' Qv I rv rw' ⟨ry, ?_⟩
      cases x with
      | non => rw [show v = V.non from rx]; exact nu _ k'
      | bl b => rw [show v = V.bl b from rx]; exact nu _ k'
      | int b => rw [show v = V.int b from rx]; exact nu _ k'
      | str b => rw [show v = V.str b from rx]; exact nu _ k'
      | ref b => rw [show v = V.ref b from rx]; exact nu _ k'
      | tup ds => obtain ⟨a, vs, e, _⟩ := rx; rw [e]; exact nu _ k'
      | lsv ds => obtain ⟨a, vs, e, _⟩ := rx; rw [e]; exact nu _ k'
    | bl b =>
      cases x with
      | bl a => exact op_isBl pins s σl H v w v' w' Qv I rv rw' ⟨a, b, rx, ry, nu _ k'⟩
      | _ => exact False.elim k'
    | _ => cases x <;> exact False.elim k'
  | IsNot =>
    have k' : isD true x y G Q := k
    cases y with
    | non =>
      refine op_notN pins s σl H v w v' w' Qv I rv rw' ⟨ry, ?_⟩
      cases x with
      | non => rw [show v = V.non from rx]; exact nu _ k'
      | bl b => rw [show v = V.bl b from rx]; exact nu _ k'
      | int b => rw [show v = V.int b from rx]; exact nu _ k'
      | str b => rw [show v = V.str b from rx]; exact nu _ k'
      | ref b => rw [show v = V.ref b from rx]; exact nu _ k'
      | tup ds => obtain ⟨a, vs, e, _⟩ := rx; rw [e]; exact nu _ k'
      | lsv ds => obtain ⟨a, vs, e, _⟩ := rx; rw [e]; exact nu _ k'
    | bl b =>
      cases x with
      | bl a => exact op_notBl pins s σl H v w v' w' Qv I rv rw' ⟨a, b, rx, ry, nu _ k'⟩
      | _ => exact False.elim k'
    | _ => cases x <;> exact False.elim k'
  | In => exact mem false k op_in_seq op_in_sign
  | NotIn => exact mem true k op_notIn_seq op_notIn_sign
  | Lt => cases x <;> cases y <;> first | exact op_lt pins s σl H v w v' w' Qv I rv rw' ⟨_, _, rx, ry, nu _ k⟩ | exact False.elim k
  | LtE => cases x <;> cases y <;> first | exact op_le pins s σl H v w v' w' Qv I rv rw' ⟨_, _, rx, ry, nu _ k⟩ | exact False.elim k
  | Gt => cases x <;> cases y <;> first | exact op_gt pins s σl H v w v' w' Qv I rv rw' ⟨_, _, rx, ry, nu _ k⟩ | exact False.elim k
  | GtE => cases x <;> cases y <;> first | exact op_ge pins s σl H v w v' w' Qv I rv rw' ⟨_, _, rx, ry, nu _ k⟩ | exact False.elim k
end

/-! ### subscripts, slices, truth -/
theorem Rps.atI {K : PySem.W.Frag} {H : Hp} {ds : List D} {vs : List V} {i : Int} {d : D} (r : Rps K H ds vs) (h : L2.atI ds i = some d) : ∃ v, L2.atI vs i = some v ∧ Rp K H d v := by
  have hl := r.length
  unfold L2.atI at h ⊢
  rw [hl]
  cases e : ixN ds.length i with
  | none => rw [e] at h; cases h
  | some j =>
    rw [e] at h
    exact r.get h
def ixD : D → D → DH → QD → Prop
  | .tup ds, .int i, G, Q => ∃ d, atI ds i = some d ∧ Q d G
  | .ref a, .int i, G, Q => ∃ ds d, sqAt G a = some ds ∧ atI ds i = some d ∧ Q d G
  | .lsv ds, .int i, G, Q => ∃ d, atI ds i = some d ∧ Q d G
  | .str z, .int i, G, Q => ∃ c, z.length ≤ sizeLine ∧ atI z.cps.toList i = some c ∧ Q (.str ⟨#[c]⟩) G
  | _, _, _, _ => False
def cutL (xs : List D) (lo hi : Option Int) : List D := (xs.drop (HT.sIx xs.length 0 lo)).take (HT.sIx xs.length xs.length hi - HT.sIx xs.length 0 lo)
theorem Rps.cut {K : PySem.W.Frag} {H : Hp} {ds : List D} {vs : List V} (r : Rps K H ds vs) (lo hi : Option Int) : Rps K H (cutL ds lo hi) (cutV vs lo hi) := by
  unfold cutL cutV
  rw [r.length]
  exact (r.drop _).take _
def slD (lo hi : Option Int) : D → DH → QD → Prop
  | .tup ds, G, Q => Q (.tup (cutL ds lo hi)) G
  | .str z, G, Q => z.length ≤ sizeLine ∧ Q (.str (cutS z lo hi)) G
  | .ref a, G, Q => ∃ ds, sqAt G a = some ds ∧ ∀ p, G p = none → Q (.ref p) (put G p (.lst (cutL ds lo hi)))
  | .lsv ds, G, Q => ∀ p, G p = none → Q (.ref p) (put G p (.lst (cutL ds lo hi)))
  | _, _, _ => False
def RSl (K : PySem.W.Frag) : V → Option Int → Option Int → Hp → VK → Prop := fun v lo hi H Qv => ∃ R H0 σ σv x G Q, Rp K H x v ∧ SR K R H0 σ G σv H ∧ slD lo hi x G Q ∧ Out K R H0 σ σv H Q Qv
section
variable {X : Cx}
theorem ix_D : IxR X (RB X.K ixD) := by
  intro va sa pins s σl H v w v' w' Qv I rv rw' h hs
  obtain ⟨R, H0, σ, σv, x, y, G, Q, rx, ry, sr, k, out⟩ := h
  cases y with
  | int i =>
    cases x with
    | tup ds =>
      obtain ⟨d, e, q⟩ := k
      obtain ⟨a, vs, e1, q1, r1⟩ := rx
      obtain ⟨z, e2, r2⟩ := r1.atI e
      exact ix_tup va sa pins s σl H v w v' w' Qv I rv rw' ⟨a, vs, i, z, e1, ry, q1, e2, out.now q r2 sr⟩ hs
    | ref a =>
      obtain ⟨ds, d, e0, e, q⟩ := k
      obtain ⟨vs, q1, r1⟩ := sr.sqL e0
      obtain ⟨z, e2, r2⟩ := r1.atI e
      exact ix_list va sa pins s σl H v w v' w' Qv I rv rw' ⟨a, vs, i, z, rx, ry, q1, e2, out.now q r2 sr⟩ hs
    | lsv ds =>
      obtain ⟨d, e, q⟩ := k
      obtain ⟨a, vs, e1, q1, r1⟩ := rx
      obtain ⟨z, e2, r2⟩ := r1.atI e
      exact ix_list va sa pins s σl H v w v' w' Qv I rv rw' ⟨a, vs, i, z, e1, ry, q1.l, e2, out.now q r2 sr⟩ hs
    | str z =>
      obtain ⟨c, hl, e, q⟩ := k
      exact ix_str va sa pins s σl H v w v' w' Qv I rv rw' ⟨z, i, c, rx, ry, hl, e, out.now (G := G) q rfl sr⟩ hs
    | _ => exact False.elim k
  | _ => cases x <;> exact False.elim k
theorem sl_D : SlR X (RSl X.K) := by
  intro pins s σl H v v' vl vu lo hi sl Qv I rv hs pl pu h
  obtain ⟨R, H0, σ, σv, x, G, Q, rx, sr, k, out⟩ := h
  cases x with
  | tup ds =>
    obtain ⟨a, vs, e1, q1, r1⟩ := rx
    refine sl_tupA pins s σl H v v' vl vu lo hi sl Qv I rv hs pl pu ⟨a, vs, e1, q1, fun hw => ?_, fun _ => out.tup k (r1.cut lo hi) sr⟩
    have e : cutL ds lo hi = ds := by
      unfold cutL
      rw [r1.length] at hw
      rw [hw.1, hw.2, List.drop_zero, Nat.sub_zero, List.take_length]
    have k' : Q (.tup (cutL ds lo hi)) G := k
    rw [e] at k'
    exact out.now k' ⟨a, vs, rfl, q1, r1⟩ sr
  | str z => exact sl_str pins s σl H v v' vl vu lo hi sl Qv I rv hs pl pu ⟨z, rx, k.1, out.now (G := G) k.2 rfl sr⟩
  | ref a =>
    obtain ⟨ds, e, q⟩ := k
    obtain ⟨vs, q1, r1⟩ := sr.sqL e
    exact sl_list pins s σl H v v' vl vu lo hi sl Qv I rv hs pl pu ⟨a, vs, rx, q1, out.lst q (r1.cut lo hi) sr⟩
  | lsv ds =>
    obtain ⟨a, vs, e1, q1, r1⟩ := rx
    exact sl_list pins s σl H v v' vl vu lo hi sl Qv I rv hs pl pu ⟨a, vs, e1, q1.l, out.lst k (r1.cut lo hi) sr⟩
  | _ => exact False.elim k
end
def truD : D → DH → (Bool → DH → Prop) → Prop
  | .non, G, Q => Q false G
  | .bl b, G, Q => Q b G
  | .int i, G, Q => Q (i != 0) G
  | .str z, G, Q => z.length ≤ sizeLine ∧ Q ((z.length : Int) != 0) G
  | .tup ds, G, Q => Q (!ds.isEmpty) G
  | .ref a, G, Q => ∃ ds, sqAt G a = some ds ∧ Q (!ds.isEmpty) G
  | .lsv ds, G, Q => Q (!ds.isEmpty) G
theorem Rps.empty {K : PySem.W.Frag} {H : Hp} {ds : List D} {vs : List V} (r : Rps K H ds vs) : vs.isEmpty = ds.isEmpty := by
  have := r.length
  cases ds <;> cases vs <;> simp_all
theorem tru_D {K : PySem.W.Frag} {R : Addr → Prop} {H0 H : Hp} {σ : Sg} {G : DH} {σv : L2.St} {x : D} {v : V} {Q : Bool → DH → Prop} (sr : SR K R H0 σ G σv H) (rx : Rp K H x v) (k : truD x G Q) : ∃ b, TruV K v H b ∧ Q b G := by
  cases x with
  | non => rw [show v = V.non from rx]; exact ⟨false, rfl, k⟩
  | bl b => rw [show v = V.bl b from rx]; exact ⟨b, rfl, k⟩
  | int i => rw [show v = V.int i from rx]; exact ⟨_, rfl, k⟩
  | str z => rw [show v = V.str z from rx]; exact ⟨_, ⟨k.1, rfl⟩, k.2⟩
  | tup ds =>
    obtain ⟨a, vs, e1, q1, r1⟩ := rx
    rw [e1]
    exact ⟨_, .inr (.inl ⟨vs, q1, by rw [r1.empty]⟩), k⟩
  | ref a =>
    obtain ⟨ds, e, q⟩ := k
    obtain ⟨vs, q1, r1⟩ := sr.sqL e
    rw [show v = V.ref a from rx]
    exact ⟨_, .inl ⟨vs, q1, by rw [r1.empty]⟩, q⟩
  | lsv ds =>
    obtain ⟨a, vs, e1, q1, r1⟩ := rx
    rw [e1]
    exact ⟨_, .inl ⟨vs, q1.l, by rw [r1.empty]⟩, k⟩
end DL

set_option Elab.async false
set_option linter.all false
set_option maxRecDepth 100000
set_option maxHeartbeats 4000000
/-! DL3: built-ins and methods on plain values. -/
namespace DL
open PySem PySem.Spec PyProof.Rows L2
/-- the built-ins that are called by their names -/
inductive BI where
  | len | abs | int | str | sum | max | min | all | any | list | tuple | gcd
  deriving DecidableEq
def BI.name : BI → Str
  | .len => "len" | .abs => "abs" | .int => "int" | .str => "str" | .sum => "sum" | .max => "max" | .min => "min" | .all => "all" | .any => "any"
  | .list => "list" | .tuple => "tuple" | .gcd => "gcd"
def BI.val : BI → Value
  | .len => .builtin "len" | .abs => .builtin "abs" | .int => .type "int" | .str => .type "str" | .sum => .builtin "sum" | .max => .builtin "max" | .min => .builtin "min"
  | .all => .builtin "all" | .any => .builtin "any" | .list => .type "list" | .tuple => .type "tuple" | .gcd => .builtin "math.gcd"
@[simp] def bi1 : BI → D → DH → QD → Prop
  | .len => fun x G Q => match x with
    | .tup ds => Q (.int ds.length) G
    | .ref a => ∃ ds, sqAt G a = some ds ∧ Q (.int ds.length) G
    | .lsv ds => Q (.int ds.length) G
    | .str z => z.length ≤ sizeLine ∧ Q (.int z.length) G
    | _ => False
  | .abs => fun x G Q => match x with
    | .int i => Q (.int (i.natAbs : Nat)) G
    | _ => False
  | .int => fun x G Q => match x with
    | .int i => Q (.int i) G
    | .bl b => Q (.int (if b then 1 else 0)) G
    | .str z => ∃ n, PySem.intText? z = some n ∧ z.length ≤ 640 ∧ Q (.int n) G
    | _ => False
  | .str => fun x G Q => match x with
    | .int i => i.natAbs.log2 < 1920 ∧ Q (.str (intS i)) G
    | _ => False
  | .sum => fun x G Q => match x with
    | .ref a => ∃ ns : List Int, sqAt G a = some (ns.map D.int) ∧ Q (.int ns.sum) G
    | _ => False
  | .all => fun x G Q => match x with
    | .ref a => ∃ bs : List Bool, sqAt G a = some (bs.map D.bl) ∧ Q (.bl (bs.all id)) G
    | _ => False
  | .any => fun x G Q => match x with
    | .ref a => ∃ bs : List Bool, sqAt G a = some (bs.map D.bl) ∧ Q (.bl (bs.any id)) G
    | _ => False
  | .max => fun x G Q => match x with
    | .ref a => ∃ ns : List Int, sqAt G a = some (ns.map D.int) ∧ 0 < ns.length ∧ ∀ m, m ∈ ns → (∀ y, y ∈ ns → y ≤ m) → Q (.int m) G
    | _ => False
  | .min => fun x G Q => match x with
    | .ref a => ∃ ns : List Int, sqAt G a = some (ns.map D.int) ∧ 0 < ns.length ∧ ∀ m, m ∈ ns → (∀ y, y ∈ ns → m ≤ y) → Q (.int m) G
    | _ => False
  | .list => fun x G Q => match x with
    | .tup ds => ∀ p, G p = none → Q (.ref p) (put G p (.lst ds))
    | .ref a => ∃ ds, sqAt G a = some ds ∧ ∀ p, G p = none → Q (.ref p) (put G p (.lst ds))
    | _ => False
  | .tuple => fun x G Q => match x with
    | .tup ds => Q (.tup ds) G
    | .ref a => ∃ ds, sqAt G a = some ds ∧ Q (.tup ds) G
    | _ => False
  | .gcd => fun _ _ _ => False
@[simp] def bi2 : BI → D → D → DH → QD → Prop
  | .max => fun x y G Q => match x, y with
    | .int i, .int j => Q (.int (max i j)) G
    | _, _ => False
  | .min => fun x y G Q => match x, y with
    | .int i, .int j => Q (.int (min i j)) G
    | _, _ => False
  | .gcd => fun x y G Q => match x, y with
    | .int i, .int j => Q (.int ((Nat.gcd i.natAbs j.natAbs : Nat) : Int)) G
    | _, _ => False
  | _ => fun _ _ _ _ => False
@[simp] def biD (b : BI) : List D → DH → QD → Prop
  | [x], G, Q => bi1 b x G Q
  | [x, y], G, Q => bi2 b x y G Q
  | _, _, _ => False
section
variable {X : Cx}
theorem rps1 {K : PySem.W.Frag} {H : Hp} {x : D} {vs : List V} (r : Rps K H [x] vs) : ∃ v, vs = [v] ∧ Rp K H x v := by
  obtain ⟨v, ws, e, q, e2⟩ := r
  rw [show ws = [] from e2] at e
  exact ⟨v, e, q⟩
theorem rps2 {K : PySem.W.Frag} {H : Hp} {x y : D} {vs : List V} (r : Rps K H [x, y] vs) : ∃ v w, vs = [v, w] ∧ Rp K H x v ∧ Rp K H y w := by
  obtain ⟨v, ws, e, q, r2⟩ := r
  obtain ⟨w, e2, q2⟩ := rps1 r2
  exact ⟨v, w, by rw [e, e2], q, q2⟩
theorem bi1_ok (hc : X.calm = true) (b : BI) {pins : List (Addr × Obj)} {s : Shared} {σl : L2.St} {H : Hp} {v : V} {us : List Value} {Qv : VK} (I : Inv X pins σl H s) (rv : Vals [v] us)
    {R : Addr → Prop} {H0 : Hp} {σ : Sg} {σv : L2.St} {x : D} {G : DH} {Q : QD} (rx : Rp X.K H x v) (sr : SR X.K R H0 σ G σv H) (k : bi1 b x G Q) (out : Out X.K R H0 σ σv H Q Qv) :
    wpAny (model X.prog X.w) X.A (call b.val us) (EP X pins σl Qv) X.xe s := by
  have ok : ∀ {d : D} {v : V}, Q d G → Rp X.K H d v → Qv v H := fun q r => out.now q r sr
  cases b with
  | len =>
    cases x with
    | tup ds =>
      obtain ⟨a, ws, e1, q1, r1⟩ := rx
      exact call_len pins s σl H _ us Qv I rv ⟨v, ws.length, rfl, by rw [e1]; exact .inr ⟨ws, q1, rfl⟩, ok k (by rw [r1.length]; rfl)⟩
    | ref a =>
      obtain ⟨ds, e2, q⟩ := k
      obtain ⟨ws, q1, r1⟩ := sr.sqL e2
      exact call_len pins s σl H _ us Qv I rv ⟨v, ws.length, rfl, by rw [show v = V.ref a from rx]; exact .inl ⟨ws, q1, rfl⟩, ok q (by rw [r1.length]; rfl)⟩
    | lsv ds =>
      obtain ⟨a, ws, e1, q1, r1⟩ := rx
      exact call_len pins s σl H _ us Qv I rv ⟨v, ws.length, rfl, by rw [e1]; exact .inl ⟨ws, q1.l, rfl⟩, ok k (by rw [r1.length]; rfl)⟩
    | str z => exact call_len pins s σl H _ us Qv I rv ⟨v, z.length, rfl, by rw [show v = V.str z from rx]; exact ⟨k.1, rfl⟩, ok k.2 rfl⟩
    | _ => exact False.elim k
  | abs =>
    cases x with
    | int i =>
      refine call_abs pins s σl H _ us Qv I rv ⟨i, by rw [show v = V.int i from rx], ok k ?_⟩
      show V.int _ = V.int _
      congr 1
      split <;> omega
    | _ => exact False.elim k
  | int =>
    cases x with
    | int i => exact call_int1 pins s σl H _ us Qv I rv (.inl ⟨i, by rw [show v = V.int i from rx], ok k rfl⟩)
    | bl b => exact call_int1 pins s σl H _ us Qv I rv (.inr ⟨b, by rw [show v = V.bl b from rx], ok k rfl⟩)
    | str z =>
      obtain ⟨n, h1, h2, q⟩ := k
      exact call_int_str pins s σl H _ us Qv I rv ⟨z, n, by rw [show v = V.str z from rx], h1, h2, ok q rfl⟩
    | _ => exact False.elim k
  | str =>
    cases x with
    | int i => exact call_str_int pins s σl H _ us Qv I rv ⟨i, by rw [show v = V.int i from rx], k.1, ok k.2 rfl⟩
    | _ => exact False.elim k
  | sum =>
    cases x with
    | ref a =>
      obtain ⟨ns, e2, q⟩ := k
      obtain ⟨ws, q1, r1⟩ := sr.sqL e2
      rw [r1.ints] at q1
      exact cr_sum hc pins s σl H _ us Qv I rv ⟨a, ns, by rw [show v = V.ref a from rx], q1, ok q rfl⟩
    | _ => exact False.elim k
  | all =>
    cases x with
    | ref a =>
      obtain ⟨ns, e2, q⟩ := k
      obtain ⟨ws, q1, r1⟩ := sr.sqL e2
      rw [r1.bls] at q1
      exact cr_all hc pins s σl H _ us Qv I rv ⟨a, ns, by rw [show v = V.ref a from rx], q1, ok q rfl⟩
    | _ => exact False.elim k
  | any =>
    cases x with
    | ref a =>
      obtain ⟨ns, e2, q⟩ := k
      obtain ⟨ws, q1, r1⟩ := sr.sqL e2
      rw [r1.bls] at q1
      exact cr_any hc pins s σl H _ us Qv I rv ⟨a, ns, by rw [show v = V.ref a from rx], q1, ok q rfl⟩
    | _ => exact False.elim k
  | max =>
    cases x with
    | ref a =>
      obtain ⟨ns, e2, hp, q⟩ := k
      obtain ⟨ws, q1, r1⟩ := sr.sqL e2
      rw [r1.ints] at q1
      exact cr_max hc pins s σl H _ us Qv I rv ⟨a, ns, by rw [show v = V.ref a from rx], q1, hp, fun m h1 h2 => ok (q m h1 h2) rfl⟩
    | _ => exact False.elim k
  | min =>
    cases x with
    | ref a =>
      obtain ⟨ns, e2, hp, q⟩ := k
      obtain ⟨ws, q1, r1⟩ := sr.sqL e2
      rw [r1.ints] at q1
      exact cr_min hc pins s σl H _ us Qv I rv ⟨a, ns, by rw [show v = V.ref a from rx], q1, hp, fun m h1 h2 => ok (q m h1 h2) rfl⟩
    | _ => exact False.elim k
  | list =>
    cases x with
    | tup ds =>
      obtain ⟨a, ws, e1, q1, r1⟩ := rx
      exact call_list_of pins s σl H _ us Qv I rv ⟨a, ws, by rw [e1], .inr q1, out.lst k r1 sr⟩
    | ref a =>
      obtain ⟨ds, e2, q⟩ := k
      obtain ⟨ws, q1, r1⟩ := sr.sqL e2
      exact call_list_of pins s σl H _ us Qv I rv ⟨a, ws, by rw [show v = V.ref a from rx], .inl q1, out.lst q r1 sr⟩
    | _ => exact False.elim k
  | tuple =>
    cases x with
    | tup ds =>
      obtain ⟨a, ws, e1, q1, r1⟩ := rx
      exact call_tuple_of pins s σl H _ us Qv I rv ⟨a, ws, by rw [e1], .inr ⟨q1, ok k ⟨a, ws, rfl, q1, r1⟩⟩⟩
    | ref a =>
      obtain ⟨ds, e2, q⟩ := k
      obtain ⟨ws, q1, r1⟩ := sr.sqL e2
      exact call_tuple_of pins s σl H _ us Qv I rv ⟨a, ws, by rw [show v = V.ref a from rx], .inl ⟨q1, out.tup q r1 sr⟩⟩
    | _ => exact False.elim k
  | gcd => exact False.elim k
theorem bi2_ok (hc : X.calm = true) (b : BI) {pins : List (Addr × Obj)} {s : Shared} {σl : L2.St} {H : Hp} {v w : V} {us : List Value} {Qv : VK} (I : Inv X pins σl H s) (rv : Vals [v, w] us)
    {R : Addr → Prop} {H0 : Hp} {σ : Sg} {σv : L2.St} {x y : D} {G : DH} {Q : QD} (rx : Rp X.K H x v) (ry : Rp X.K H y w) (sr : SR X.K R H0 σ G σv H) (k : bi2 b x y G Q) (out : Out X.K R H0 σ σv H Q Qv) :
    wpAny (model X.prog X.w) X.A (call b.val us) (EP X pins σl Qv) X.xe s := by
  have ok : ∀ {d : D} {v : V}, Q d G → Rp X.K H d v → Qv v H := fun q r => out.now q r sr
  cases b with
  | max =>
    cases x with
    | int i =>
      cases y with
      | int j =>
        refine call_max2 hc pins s σl H _ us Qv I rv ⟨i, j, by rw [show v = V.int i from rx, show w = V.int j from ry], ok k ?_⟩
        show V.int _ = V.int _
        congr 1
        split <;> omega
      | _ => exact False.elim k
    | _ => exact False.elim k
  | min =>
    cases x with
    | int i =>
      cases y with
      | int j =>
        refine call_min2 hc pins s σl H _ us Qv I rv ⟨i, j, by rw [show v = V.int i from rx, show w = V.int j from ry], ok k ?_⟩
        show V.int _ = V.int _
        congr 1
        split <;> omega
      | _ => exact False.elim k
    | _ => exact False.elim k
  | gcd =>
    cases x with
    | int i =>
      cases y with
      | int j => exact cr_gcd pins s σl H _ us Qv I rv ⟨i, j, by rw [show v = V.int i from rx, show w = V.int j from ry], ok k rfl⟩
      | _ => exact False.elim k
    | _ => exact False.elim k
  | _ => exact False.elim k
theorem bi_ok (hc : X.calm = true) (b : BI) : CallR X b.val (RC X.K (biD b)) := by
  intro pins s σl H vs us Qv I rv h
  obtain ⟨R, H0, σ, σv, xs, G, Q, rx, sr, k, out⟩ := h
  cases xs with
  | nil => exact False.elim k
  | cons x xs =>
    cases xs with
    | nil =>
      obtain ⟨v, e, r⟩ := rps1 rx
      subst e
      exact bi1_ok hc b I rv r sr k out
    | cons y xs =>
      cases xs with
      | nil =>
        obtain ⟨v, w, e, r1, r2⟩ := rps2 rx
        subst e
        exact bi2_ok hc b I rv r1 r2 sr k out
      | cons z xs => exact False.elim k
end

/-! ### isinstance -/
inductive Ty where
  | none | bool | int | str | list | tuple | dict
  deriving DecidableEq
def Ty.s : Ty → String
  | .none => "NoneType" | .bool => "bool" | .int => "int" | .str => "str" | .list => "list" | .tuple => "tuple" | .dict => "dict"
def Ty.sub : Ty → Ty → Bool
  | .bool, .int => true
  | a, b => decide (a = b)
theorem ty_kit : ∀ a b : Ty, kitB a.s b.s = some (Ty.sub a b) := by
  intro a b
  cases a <;> cases b <;> decide +kernel
def tyD (G : DH) : D → Option Ty
  | .non => some .none
  | .bl _ => some .bool
  | .int _ => some .int
  | .str _ => some .str
  | .tup _ => some .tuple
  | .lsv _ => some .list
  | .ref a => match G a with
    | some (.lst _) => some .list
    | some (.dct _) => some .dict
    | none => none
theorem tyX_of {K : PySem.W.Frag} {R : Addr → Prop} {H0 H : Hp} {σ : Sg} {G : DH} {σv : L2.St} {x : D} {v : V} {t : Ty} (sr : SR K R H0 σ G σv H) (rx : Rp K H x v) (h : tyD G x = some t) : TyX K H v (.type t.s) := by
  cases x with
  | non => cases h; rw [show v = V.non from rx]; exact .base .non
  | bl b => cases h; rw [show v = V.bl b from rx]; exact .base (.bl b)
  | int b => cases h; rw [show v = V.int b from rx]; exact .base (.int b)
  | str b => cases h; rw [show v = V.str b from rx]; exact .base (.str b)
  | tup ds =>
    cases h
    obtain ⟨a, vs, e1, q1, r1⟩ := rx
    rw [e1]
    rcases q1 with (q1 | ⟨o, q1⟩) | ⟨o, its, n, hk, hc, _⟩
    · exact .base (.tup q1)
    · exact .fTuple q1
    · exact .kTuple hk hc
  | lsv ds =>
    cases h
    obtain ⟨a, vs, e1, q1, r1⟩ := rx
    rw [e1]
    rcases q1 with ⟨o, q1⟩ | ⟨o, its, n, hk, hc, _⟩
    · exact .base (.frz q1)
    · exact .kList hk hc
  | ref a =>
    rw [show v = V.ref a from rx]
    simp only [tyD] at h
    cases e : G a with
    | none => rw [e] at h; cases h
    | some o =>
      rw [e] at h
      have z := sr.gr a o e
      cases o with
      | lst ds => cases h; obtain ⟨vs, e1, _⟩ := z; exact .base (.lst e1)
      | dct kvs => cases h; obtain ⟨ws, e1, _⟩ := z; exact .base (.dK e1)
theorem isi_ok {X : Cx} {R : Addr → Prop} {H0 H : Hp} {σ : Sg} {G : DH} {σv : L2.St} {x : D} {v : V} {t u : Ty} {Q : QD} {Qv : VK} (sr : SR X.K R H0 σ G σv H) (rx : Rp X.K H x v) (h : tyD G x = some t)
    (q : Q (.bl (Ty.sub t u)) G) (out : Out X.K R H0 σ σv H Q Qv) : rIsi X.K [v, .ty u.s] H Qv :=
  ⟨v, .ty u.s, .type t.s, .type u.s, Ty.sub t u, rfl, .ty _, tyX_of sr rx h, kit_ty (ty_kit t u), out.now q rfl sr⟩

/-! ### methods -/
inductive MT where
  | append | extend | pop | popAt | reverse | clear | partition
  deriving DecidableEq
@[simp] def MT.T : MT → String
  | .partition => "str" | _ => "list"
def MT.name : MT → Str
  | .append => "append" | .extend => "extend" | .pop => "pop" | .popAt => "pop" | .reverse => "reverse" | .clear => "clear" | .partition => "partition"
def MT.id : MT → String
  | .append => "list.append" | .extend => "list.extend" | .pop => "list.pop" | .popAt => "list.pop" | .reverse => "list.reverse" | .clear => "list.clear" | .partition => "str.partition"
/-- how many arguments -/
def MT.many : MT → Nat
  | .append => 1 | .extend => 1 | .pop => 0 | .popAt => 1 | .reverse => 0 | .clear => 0 | .partition => 1
theorem MT.pa : ∀ m : MT, PlainAttrs m.T
  | .append => F.plainAttrs_list | .extend => F.plainAttrs_list | .pop => F.plainAttrs_list | .popAt => F.plainAttrs_list | .reverse => F.plainAttrs_list | .clear => F.plainAttrs_list | .partition => F.plainAttrs_str
theorem MT.slot : ∀ m : MT, Slot m.T m.name m.id
  | .append => F.slot_list_append | .extend => F.slot_list_extend | .pop => F.slot_list_pop | .popAt => F.slot_list_pop | .reverse => F.slot_list_reverse | .clear => F.slot_list_clear | .partition => F.slot_str_partition
theorem MT.ty : ∀ m : MT, typeOf (.builtin m.id) = pure (.type "method_descriptor")
  | .append => F.type_list_append | .extend => F.type_list_extend | .pop => F.type_list_pop | .popAt => F.type_list_pop | .reverse => F.type_list_reverse | .clear => F.type_list_clear | .partition => F.type_str_partition
/-- the receiver is of the method's type -/
@[simp] def rcD (m : MT) (G : DH) : D → Prop
  | .str _ => m.T = "str"
  | .ref a => m.T = "list" ∧ ∃ ds, sqAt G a = some ds
  | _ => False
@[simp] def mt0 : MT → Addr → DH → QD → Prop
  | .pop => fun a G Q => ∃ ds d, G a = some (.lst ds) ∧ ds[ds.length - 1]? = some d ∧ Q d (put G a (.lst ds.dropLast))
  | .reverse => fun a G Q => ∃ ds, G a = some (.lst ds) ∧ Q .non (put G a (.lst ds.reverse))
  | .clear => fun a G Q => ∃ ds, G a = some (.lst ds) ∧ Q .non (put G a (.lst []))
  | _ => fun _ _ _ => False
@[simp] def mt1 : MT → Addr → D → DH → QD → Prop
  | .append => fun a d G Q => ∃ ds, G a = some (.lst ds) ∧ ds.length < sizeLine ∧ Q .non (put G a (.lst (ds ++ [d])))
  | .extend => fun a d G Q => match d with
    | .ref b => ∃ ds es, G a = some (.lst ds) ∧ G b = some (.lst es) ∧ ds.length + es.length ≤ sizeLine ∧ Q .non (put G a (.lst (ds ++ es)))
    | _ => False
  | .popAt => fun a d G Q => match d with
    | .int i => ∃ ds k d, G a = some (.lst ds) ∧ -(2 ^ 63) ≤ i ∧ i < 2 ^ 63 ∧ seqIndex? i ds.length = some k ∧ ds[k]? = some d ∧ Q d (put G a (.lst (ds.eraseIdx k)))
    | _ => False
  | _ => fun _ _ _ _ => False
@[simp] def mts1 : MT → Str → D → DH → QD → Prop
  | .partition => fun a d G Q => match d with
    | .str b => (b.length == 0) = false ∧ a.length ≤ sizeLine ∧ Q (.tup [.str (Txt.partition a b).1, .str (Txt.partition a b).2.1, .str (Txt.partition a b).2.2]) G
    | _ => False
  | _ => fun _ _ _ _ => False
@[simp] def mtD (m : MT) (x : D) (xs : List D) (G : DH) (Q : QD) : Prop := match xs with
  | [] => match x with
    | .ref a => mt0 m a G Q
    | _ => False
  | [d] => match x with
    | .ref a => mt1 m a d G Q
    | .str z => mts1 m z d G Q
    | _ => False
  | _ => False
theorem Rps.dropLast {K : PySem.W.Frag} {H : Hp} {ds : List D} {vs : List V} (r : Rps K H ds vs) : Rps K H ds.dropLast vs.dropLast := by
  rw [List.dropLast_eq_take, List.dropLast_eq_take, r.length]
  exact r.take _
theorem Rps.erase {K : PySem.W.Frag} {H : Hp} {ds : List D} {vs : List V} (r : Rps K H ds vs) (k : Nat) : Rps K H (ds.eraseIdx k) (vs.eraseIdx k) := by
  rw [List.eraseIdx_eq_take_drop_succ, List.eraseIdx_eq_take_drop_succ]
  exact (r.take _).append (r.drop _)
section
variable {X : Cx}
/-- a list of ours is written -/
theorem Out.wr {K : PySem.W.Frag} {R : Addr → Prop} {H0 H : Hp} {σ : Sg} {G : DH} {σv : L2.St} {Q : QD} {Qv : VK} (o : Out K R H0 σ σv H Q Qv) {a : Addr} {ds es : List D} {us vs : List V} {d : D} {v : V} (hg : G a = some (.lst ds)) (hh : H a = some (.lst us))
    (q : Q d (put G a (.lst es))) (r : Rps K H es vs) (rd : Rp K H d v) (s : SR K R H0 σ G σv H) : Qv v (upd H a (.lst vs)) := by
  have h1 : ∀ xs, H a ≠ some (.tup xs) := fun xs e => by rw [hh] at e; cases e
  have h2 : ∀ o u, H a ≠ some (.frz o u) := fun o u e => by rw [hh] at e; cases e
  have k : Keep R H (upd H a (.lst vs)) := s.wkeep hg h1 h2
  exact o _ _ _ _ q (rd.keep k) (s.write hg h1 h2 ⟨vs, upd_same, r.keep k⟩) k
theorem mt_ok (m : MT) : MtR X m.id (RM X.K (mtD m)) := by
  intro pins s σl H v vs v' us Qv I rv rvs h
  obtain ⟨R, H0, σ, σv, x, xs, G, Q, rx, rxs, sr, k, out⟩ := h
  cases xs with
  | nil =>
    cases x with
    | ref a =>
      cases m with
      | pop =>
        obtain ⟨ds, d, e, hd, q⟩ := k
        obtain ⟨ws, e1, r2⟩ := sr.gr a _ e
        obtain ⟨w, e2, r3⟩ := r2.get hd
        exact mt_pop pins s σl H v vs v' us Qv I rv rvs ⟨a, ws, w, rx, rxs, e1, by rw [r2.length]; exact e2, out.wr e e1 q r2.dropLast r3 sr⟩
      | reverse =>
        obtain ⟨ds, e, q⟩ := k
        obtain ⟨ws, e1, r2⟩ := sr.gr a _ e
        exact mt_reverse pins s σl H v vs v' us Qv I rv rvs ⟨a, ws, rx, rxs, e1, out.wr e e1 q r2.reverse rfl sr⟩
      | clear =>
        obtain ⟨ds, e, q⟩ := k
        obtain ⟨ws, e1, r2⟩ := sr.gr a _ e
        exact mt_clear pins s σl H v vs v' us Qv I rv rvs ⟨a, ws, rx, rxs, e1, out.wr e e1 (vs := []) q rfl rfl sr⟩
      | _ => exact False.elim k
    | _ => exact False.elim k
  | cons d xs =>
    cases xs with
    | nil =>
      obtain ⟨w, ew, r1⟩ := rps1 rxs
      cases x with
      | ref a =>
        cases m with
        | append =>
          obtain ⟨ds, e, hl, q⟩ := k
          obtain ⟨ws, e1, r2⟩ := sr.gr a _ e
          exact mt_append pins s σl H v vs v' us Qv I rv rvs ⟨a, ws, w, rx, ew, e1, by rw [r2.length]; exact hl, out.wr e e1 q (r2.append (Rps.one r1)) rfl sr⟩
        | extend =>
          cases d with
          | ref b =>
            obtain ⟨ds, es, e, e', hl, q⟩ := k
            obtain ⟨ws, e1, r2⟩ := sr.gr a _ e
            obtain ⟨zs, e3, r3⟩ := sr.gr b _ e'
            exact mt_extend pins s σl H v vs v' us Qv I rv rvs ⟨a, b, ws, zs, rx, by rw [ew, show w = V.ref b from r1], e1, e3, by rw [r2.length, r3.length]; exact hl, out.wr e e1 q (r2.append r3) rfl sr⟩
          | _ => exact False.elim k
        | popAt =>
          cases d with
          | int i =>
            obtain ⟨ds, j, d, e, h1, h2, h3, hd, q⟩ := k
            obtain ⟨ws, e1, r2⟩ := sr.gr a _ e
            obtain ⟨z, e2, r3⟩ := r2.get hd
            exact mt_popAt pins s σl H v vs v' us Qv I rv rvs ⟨a, ws, i, j, z, rx, by rw [ew, show w = V.int i from r1], e1, h1, h2, by rw [r2.length]; exact h3, e2, out.wr e e1 q (r2.erase j) r3 sr⟩
          | _ => exact False.elim k
        | _ => exact False.elim k
      | str a =>
        cases m with
        | partition =>
          cases d with
          | str b =>
            obtain ⟨hb, hl, q⟩ := k
            exact mt_partition pins s σl H v vs v' us Qv I rv rvs ⟨a, b, rx, by rw [ew, show w = V.str b from r1], hb, hl, out.tup q ⟨_, _, rfl, rfl, _, _, rfl, rfl, _, _, rfl, rfl, rfl⟩ sr⟩
          | _ => exact False.elim k
        | _ => exact False.elim k
      | _ => exact False.elim k
    | cons _ _ => exact False.elim k
theorem rc_ty {K : PySem.W.Frag} {R : Addr → Prop} {H0 H : Hp} {σ : Sg} {G : DH} {σv : L2.St} {m : MT} {x : D} {v : V} (sr : SR K R H0 σ G σv H) (rx : Rp K H x v) (h : rcD m G x) : tyV K m.T v H := by
  cases x with
  | str z => rw [show v = V.str z from rx]; exact h
  | ref a =>
    rw [show v = V.ref a from rx]
    obtain ⟨h1, ds, e⟩ := h
    obtain ⟨ws, q1, r1⟩ := sr.sqL e
    exact .inl ⟨h1, ws, q1⟩
  | _ => exact False.elim h
end

/-! ### o[i] = v; o[i] read for o[i] op= v -/
@[simp] def setD : D → D → D → DH → (DH → Prop) → Prop
  | .ref a, .int i, d, G, Q => ∃ ds j, G a = some (.lst ds) ∧ ixN ds.length i = some j ∧ Q (put G a (.lst (ds.set j d)))
  | _, _, _, _, _ => False
def RSet (K : PySem.W.Frag) : V → V → V → Hp → (Hp → Prop) → Prop := fun o i v H Qv => ∃ R H0 σ σv x y d G Q, Rp K H x o ∧ Rp K H y i ∧ Rp K H d v ∧ SR K R H0 σ G σv H ∧ setD x y d G Q ∧
  ∀ G' H', Q G' → SR K R H0 σ G' σv H' → Keep R H H' → Qv H'
section
variable {X : Cx}
theorem set_D : PSet X (RSet X.K) := by
  intro pins s σl H o i v ov iv u Qv I ro ri rv h
  obtain ⟨R, H0, σ, σv, x, y, d, G, Q, rx, ry, rd, sr, k, out⟩ := h
  cases x with
  | ref a =>
   cases y with
   | int n =>
    obtain ⟨ds, j, e, hj, q⟩ := k
    obtain ⟨ws, e1, r1⟩ := sr.gr a _ e
    have h1 : ∀ xs, H a ≠ some (.tup xs) := fun xs e => by rw [e1] at e; cases e
    have h2 : ∀ o u, H a ≠ some (.frz o u) := fun o u e => by rw [e1] at e; cases e
    have kp : Keep R H (upd H a (.lst (ws.set j v))) := sr.wkeep e h1 h2
    exact set_list pins s σl H o i v ov iv u Qv I ro ri rv ⟨a, ws, n, j, rx, ry, e1, by rw [r1.length]; exact hj, out _ _ q (sr.write e h1 h2 ⟨_, upd_same, (r1.set rd j).keep kp⟩) kp⟩
   | _ => exact False.elim k
  | _ => exact False.elim k
theorem get_D : PGet X (fun o i H Q => RB X.K ixD o i H Q ∧ ∃ a, o = .ref a ∧ ∃ xs, SqL X.K H a xs) := by
  intro pins s σl H v w v' w' Qv I rv rw' h
  obtain ⟨⟨R, H0, σ, σv, x, y, G, Q, rx, ry, sr, k, out⟩, a, ea, zs, hz⟩ := h
  cases x with
  | ref a' =>
   cases y with
   | int i =>
    obtain ⟨ds, d, e0, e, q⟩ := k
    obtain ⟨vs, q1, r1⟩ := sr.sqL e0
    obtain ⟨z, e2, r2⟩ := r1.atI e
    have e1 : v = .ref a' := rx
    have e1' : w = .int i := ry
    subst e1 e1'
    cases rv
    obtain ⟨t, rfl⟩ := rw'
    obtain ⟨its, r, pl, hsz⟩ := I.list q1
    obtain ⟨j, h1, h2, h3, h4, h5⟩ := atI_get e2
    obtain ⟨u, eu, ru⟩ := r.get h2
    have hl := r.length
    have hn := line63
    have fin : EP X pins σl Qv u s := ⟨z, H, I, ru, out.now q r2 sr⟩
    by_cases h0 : 0 ≤ i
    · have hj : i.toNat = j := by
        rw [seqIndex_of h0 h5] at h1
        exact Option.some.inj h1
      exact wpAny_getItem_list pl.isList h0 (by omega) (by rw [hj]; simpa using eu) fin
    · have hj : (i + (its.toArray.size : Int)).toNat = j := by
        rw [seqIndex_neg (by omega) h4] at h1
        rw [List.size_toArray, ← hl]
        exact Option.some.inj h1
      exact wpAny_getItem_list_neg pl.isList (by omega) (by rw [List.size_toArray] <;> omega) (by omega) (by rw [hj]; simpa using eu) fin
   | _ => exact False.elim k
  | tup _ =>
    obtain ⟨a2, vs, e1, q1, r1⟩ := rx
    rw [e1] at ea
    cases ea
    obtain ⟨its, r, ⟨o, n, ho, hc, _⟩, _⟩ := I.list hz
    obtain ⟨its2, r2, ⟨o2, ho2, hc2, _⟩, _⟩ := I.tuple q1
    rw [ho] at ho2; cases ho2
    rw [hc] at hc2
    exact absurd hc2 (by decide)
  | str _ => rw [show v = _ from rx] at ea; cases ea
  | lsv ds =>
   cases y with
   | int i =>
    obtain ⟨d, e, q⟩ := k
    obtain ⟨a', vs, e1, q1, r1⟩ := rx
    obtain ⟨z, e2, r2⟩ := r1.atI e
    have e1' : w = .int i := ry
    subst e1 e1'
    cases rv
    obtain ⟨t, rfl⟩ := rw'
    obtain ⟨its, r, pl, hsz⟩ := I.list q1.l
    obtain ⟨j, h1, h2, h3, h4, h5⟩ := atI_get e2
    obtain ⟨u, eu, ru⟩ := r.get h2
    have hl := r.length
    have hn := line63
    have fin : EP X pins σl Qv u s := ⟨z, H, I, ru, out.now q r2 sr⟩
    by_cases h0 : 0 ≤ i
    · have hj : i.toNat = j := by
        rw [seqIndex_of h0 h5] at h1
        exact Option.some.inj h1
      exact wpAny_getItem_list pl.isList h0 (by omega) (by rw [hj]; simpa using eu) fin
    · have hj : (i + (its.toArray.size : Int)).toNat = j := by
        rw [seqIndex_neg (by omega) h4] at h1
        rw [List.size_toArray, ← hl]
        exact Option.some.inj h1
      exact wpAny_getItem_list_neg pl.isList (by omega) (by rw [List.size_toArray] <;> omega) (by omega) (by rw [hj]; simpa using eu) fin
   | _ => exact False.elim k
  | _ => exact False.elim k
/-- a op= b -/
@[simp] def augD : Operator → D → D → DH → QD → Prop
  | .Add, .int i, .int j, G, Q => Q (.int (i + j)) G
  | .Add, .str i, .str j, G, Q => i.length + j.length ≤ sizeLine ∧ Q (.str (i ++ j)) G
  | .Sub, .int i, .int j, G, Q => Q (.int (i - j)) G
  | .Mult, .int i, .int j, G, Q => IntMulOk i j ∧ Q (.int (i * j)) G
  | _, _, _, _, _ => False
theorem aug_D (op : Operator) : PIp X op (RB X.K (augD op)) := by
  intro pins s σl H v w v' w' Qv I rv rw' h
  obtain ⟨R, H0, σ, σv, x, y, G, Q, rx, ry, sr, k, out⟩ := h
  cases op with
  | Add =>
    cases x with
    | int i =>
      cases y with
      | int j => exact iop_add pins s σl H v w v' w' Qv I rv rw' ⟨i, j, rx, ry, out.now (G := G) k rfl sr⟩
      | _ => exact False.elim k
    | str i =>
      cases y with
      | str j => exact iop_add_str pins s σl H v w v' w' Qv I rv rw' ⟨i, j, rx, ry, k.1, out.now (G := G) k.2 rfl sr⟩
      | _ => exact False.elim k
    | _ => exact False.elim k
  | Sub =>
    cases x with
    | int i =>
      cases y with
      | int j => exact iop_sub pins s σl H v w v' w' Qv I rv rw' ⟨i, j, rx, ry, out.now (G := G) k rfl sr⟩
      | _ => exact False.elim k
    | _ => exact False.elim k
  | Mult =>
    cases x with
    | int i =>
      cases y with
      | int j =>
        have o : OpR X (inplaceOp .Mult) (rI IntMulOk fun i j => .int (i * j)) := opI fun _ _ _ _ _ _ _ hc q => imul_int q hc
        exact o pins s σl H v w v' w' Qv I rv rw' ⟨i, j, rx, ry, k.1, out.now (G := G) k.2 rfl sr⟩
      | _ => exact False.elim k
    | _ => exact False.elim k
  | _ => cases x <;> cases y <;> exact False.elim k
end
end DL

set_option Elab.async false
set_option linter.all false
set_option maxRecDepth 100000
set_option maxHeartbeats 4000000
/-! DL4: the small language and its weakest preconditions over plain values. -/
namespace DL
open PySem PySem.Spec PyProof.Rows L2
mutual
inductive ME where
  | var (i : Nat) | non | bl (b : Bool) | int (i : Int) | str (s : Str)
  | bin (op : Operator) (a b : ME) | neg (a : ME)
  | cmp (op : CmpOp) (a b : ME) | chain (op op' : CmpOp) (a b c : ME)
  | and (es : MEs) | or (es : MEs) | not (a : ME) | ifx (c a b : ME)
  | tup (es : MEs) | lst (es : MEs) | dct0
  | ix (a i : ME) | slc (a : ME) (lo hi : MO) | revl (a : ME)
  | call (f : Str) (es : MEs) | callk (f : Str) (es : MEs) (ks : List Str) (kes : MEs)
  | bi (b : BI) (es : MEs) | isi (a : ME) (t : Ty) | meth (m : MT) (o : ME) (es : MEs)
  | lc (own : List (Str × Nat)) (g : MG) (it : MI) (c : MO) (e : ME)
  | glob (x : Str) | fstr (es : MEs) | fmt (a : ME)
  | exf (i : Nat) (f : Str)
inductive MEs where
  | nil | cons (e : ME) (es : MEs)
inductive MO where
  | none | some (e : ME)
inductive MG where
  | name (i : Nat) | tup (gs : MGs) | sub (o i : ME)
inductive MGs where
  | nil | cons (g : MG) (gs : MGs)
inductive MI where
  | seq (e : ME) | range (es : MEs) | enum (e : ME) | zip (a b : ME) | rev (e : ME)
end
/-- how many items a written list has -/
@[simp] def MEs.n : MEs → Nat
  | .nil => 0
  | .cons _ es => es.n + 1
/-- how many targets -/
@[simp] def MGs.n : MGs → Nat
  | .nil => 0
  | .cons _ gs => gs.n + 1
/-- an except clause: its class, the name's slot, what it returns -/
structure MH where
  cls : Str
  as : Option Nat
  ret : ME
mutual
inductive MS where
  | expr (e : ME) | ret (e : ME) | retN | par2 (i j : Nat) (es : MEs) | par3 (i j l : Nat) (es : MEs) | asg (g : MG) (e : ME) | aug (i : Nat) (op : Operator) (e : ME) | augS (o i : ME) (op : Operator) (e : ME)
  | ifs (c : ME) (a b : MSs) | whl (c : ME) (b : MSs) | forr (g : MG) (it : MI) (b : MSs)
  | raise (x : Str) (es : MEs) | tryy (b : MSs) (hs : List MH) | pass | brk | cont
inductive MSs where
  | nil | cons (s : MS) (ss : MSs)
end
/-- a def as the caller sees it: its parameters, its promise, the keyword calls that are bound: positional ones, names, places -/
structure FI where
  ps : List Str
  sp : DSp
  kws : List (Nat × List Str × List Nat) := []
/-- what the module's names stand for -/
structure GE where
  fn : Str → Option FI
  con : Str → Option D
  exc : Str → Option (List Str)
  exb : Str → Bool
  exm : Str → Str → Option Bool
  cur : Option (Addr × XD) := none
def permL {α : Type} (p : List Nat) (l : List α) : List α := p.filterMap fun i => l[i]?
def nowish : WD := fun _ _ _ => False
/-- the numbers of a range -/
def rangeL (lo : Int) (n : Nat) (c : Int) : List D := (List.range n).map fun i => .int (lo + (i : Nat) * c)
def enumL : Nat → List D → List D
  | _, [] => []
  | i, d :: ds => .tup [.int i, d] :: enumL (i + 1) ds
def zipL : List D → List D → List D
  | x :: xs, y :: ys => .tup [x, y] :: zipL xs ys
  | _, _ => []
/-- what is walked stands as it stood -/
def srcOk (src : List (Addr × List D)) (G : DH) : Prop := ∀ p ∈ src, sqAt G p.1 = some p.2
abbrev IK := List D → List (Addr × List D) → DH → Prop
def chars (z : Str) : List D := z.cps.toList.map fun c => .str ⟨#[c]⟩
@[simp] def itSeq (x : D) (G : DH) (Q : IK) : Prop := match x with
  | .str z => Q (chars z) [] G
  | .tup ds => Q ds [] G
  | .lsv ds => Q ds [] G
  | .ref a => ∃ ds, sqAt G a = some ds ∧ Q ds [(a, ds)] G
  | _ => False
@[simp] def itEnum (x : D) (G : DH) (Q : IK) : Prop := match x with
  | .ref a => ∃ ds, sqAt G a = some ds ∧ Q (enumL 0 ds) [(a, ds)] G
  | _ => False
@[simp] def itRev (x : D) (G : DH) (Q : IK) : Prop := match x with
  | .tup ds => Q ds.reverse [] G
  | .lsv ds => Q ds.reverse [] G
  | .ref a => ∃ ds, sqAt G a = some ds ∧ Q ds.reverse [(a, ds)] G
  | _ => False
@[simp] def itZip (x y : D) (G : DH) (Q : IK) : Prop := match x, y with
  | .tup ds, .tup es => Q (zipL ds es) [] G
  | .ref a, .ref b => ∃ ds es, sqAt G a = some ds ∧ sqAt G b = some es ∧ Q (zipL ds es) [(a, ds), (b, es)] G
  | _, _ => False
@[simp] def itRange (ds : List D) (G : DH) (Q : IK) : Prop := match ds with
  | [.int j] => -(2 ^ 62) ≤ j ∧ j < 2 ^ 62 ∧ Q (rangeL 0 j.toNat 1) [] G
  | [.int i, .int j] => (-(2 ^ 62) ≤ i ∧ i < 2 ^ 62 ∧ -(2 ^ 62) ≤ j ∧ j < 2 ^ 62) ∧ Q (rangeL i (j - i).toNat 1) [] G
  | [.int i, .int j, .int c] => ∃ n, RgC i j c n ∧ Q (rangeL i n c) [] G
  | _ => False
/-- a for -/
def loopD (src : List (Addr × List D)) (g : D → Sg → DH → (Sg → DH → Prop) → Prop) (b : DEnds → Sg → DH → Prop) (D : DEnds) : List DL.D → Sg → DH → Prop
  | [], σ, G => srcOk src G ∧ D.nx σ G
  | d :: ds, σ, G => srcOk src G ∧ g d σ G fun σ1 G1 => b { D with nx := loopD src g b D ds, ct := loopD src g b D ds, bk := D.nx } σ1 G1
@[simp] def ofTup (d : D) (k : List D → Prop) : Prop := match d with
  | .tup ds => k ds
  | _ => False
@[simp] def ofCons (ds : List D) (k : D → List D → Prop) : Prop := match ds with
  | d :: r => k d r
  | [] => False
@[simp] def two (ds : List D) (k : D → D → Prop) : Prop := match ds with
  | [x, y] => k x y
  | _ => False
@[simp] def three (ds : List D) (k : D → D → D → Prop) : Prop := match ds with
  | [x, y, z] => k x y z
  | _ => False
/-- a list comprehension -/
def lcD (src : List (Addr × List D)) (g : D → Sg → DH → (Sg → DH → Prop) → Prop) (t : Sg → DH → (Bool → DH → Prop) → Prop) (e : Sg → DH → QD → Prop) (Q : List D → DH → Prop) (σ : Sg) : List D → List D → DH → Prop
  | [], acc, G => srcOk src G ∧ Q acc G
  | d :: ds, acc, G => srcOk src G ∧ g d σ G fun σ1 G1 => t σ1 G1 fun b G2 => if b = true then e σ1 G2 fun y G3 => lcD src g t e Q σ ds (acc ++ [y]) G3 else lcD src g t e Q σ ds acc G2
/-- a while, by so many turns at most -/
def whD (c : Sg → DH → (Bool → DH → Prop) → Prop) (b : DEnds → Sg → DH → Prop) (D : DEnds) : Nat → Sg → DH → Prop
  | 0, _, _ => False
  | n + 1, σ, G => c σ G fun t G1 => if t = true then b { D with nx := whD c b D n, ct := whD c b D n, bk := D.nx } σ G1 else D.nx σ G1
@[simp] def wipeD : Sg → List (Str × Nat) → Sg
  | σ, [] => σ
  | σ, (_, i) :: r => st (wipeD σ r) i none
@[simp] def strD : D → DH → (Str → DH → Prop) → Prop
  | .str z, G, Q => Q z G
  | _, _, _ => False
@[simp] def fmtD : D → DH → QD → Prop
  | .str z, G, Q => z.length ≤ sizeLine ∧ Q (.str z) G
  | .int i, G, Q => i.natAbs.log2 < 1920 ∧ Q (.str (intS i)) G
  | _, _, _ => False
/-- the bounds of a slice -/
@[simp] def partD : D → DH → (Option Int → DH → Prop) → Prop
  | .int i, G, Q => Q (some i) G
  | _, _, _ => False
@[simp] def revD : D → DH → QD → Prop
  | .ref a, G, Q => ∃ ds, sqAt G a = some ds ∧ ∀ p, G p = none → Q (.ref p) (put G p (.lst ds.reverse))
  | _, _, _ => False

mutual
@[simp] def wpE (Γ : GE) : ME → DE
  | .var i => fun _ σ G Q => ∃ d, gt σ i = some d ∧ Q d G
  | .non => fun _ _ G Q => Q .non G
  | .bl b => fun _ _ G Q => Q (.bl b) G
  | .int i => fun _ _ G Q => Q (.int i) G
  | .str s => fun _ _ G Q => Q (.str s) G
  | .bin op a b => fun W σ G Q => wpE Γ a W σ G fun x G1 => wpE Γ b W σ G1 fun y G2 => binD op x y G2 Q
  | .neg a => fun W σ G Q => wpE Γ a W σ G fun x G1 => negD x G1 Q
  | .cmp op a b => fun W σ G Q => wpE Γ a W σ G fun x G1 => wpE Γ b W σ G1 fun y G2 => cmpD op x y G2 Q
  | .chain op op' a b c => fun W σ G Q => wpE Γ a W σ G fun x G1 => wpE Γ b W σ G1 fun y G2 => cmpD op x y G2 fun z G3 => ∃ k, z = .bl k ∧ if k = true then wpE Γ c W σ G3 fun w G4 => cmpD op' y w G4 Q else Q (.bl false) G3
  | .and es => fun W σ G Q => wpAnd Γ es W σ G Q
  | .or es => fun W σ G Q => wpOr Γ es W σ G Q
  | .not a => fun W σ G Q => wpE Γ a W σ G fun x G1 => truD x G1 fun b G2 => Q (.bl (!b)) G2
  | .ifx c a b => fun W σ G Q => wpT Γ c W σ G fun t G1 => if t = true then wpE Γ a W σ G1 Q else wpE Γ b W σ G1 Q
  | .tup es => fun W σ G Q => wpEs Γ es W σ G fun ds G1 => Q (.tup ds) G1
  | .lst es => fun W σ G Q => wpEs Γ es W σ G fun ds G1 => ∀ p, G1 p = none → Q (.ref p) (put G1 p (.lst ds))
  | .dct0 => fun _ _ G Q => ∀ p, G p = none → Q (.ref p) (put G p (.dct []))
  | .ix a i => fun W σ G Q => wpE Γ a W σ G fun x G1 => wpE Γ i W σ G1 fun y G2 => ixD x y G2 Q
  | .slc a lo hi => fun W σ G Q => wpE Γ a W σ G fun x G1 => wpO Γ lo W σ G1 fun l G2 => wpO Γ hi W σ G2 fun h G3 => slD l h x G3 Q
  | .revl a => fun W σ G Q => wpE Γ a W σ G fun x G1 => revD x G1 Q
  | .call f es => fun W σ G Q => ∃ fi, Γ.fn f = some fi ∧ wpEs Γ es W σ G fun ds G1 => ds.length = fi.ps.length ∧ fi.sp ds G1 Q fun xd G2 => W xd σ G2
  | .callk f es ks kes => fun W σ G Q => ∃ fi p n, Γ.fn f = some fi ∧ (n, ks, p) ∈ fi.kws ∧ wpEs Γ es W σ G fun ds G1 => wpEs Γ kes W σ G1 fun zs G2 => ds.length = n ∧ zs.length = ks.length ∧ (permL p (ds ++ zs)).length = fi.ps.length ∧ fi.sp (permL p (ds ++ zs)) G2 Q fun xd G3 => W xd σ G3
  | .bi b es => fun W σ G Q => wpEs Γ es W σ G fun ds G1 => biD b ds G1 Q
  | .isi a t => fun W σ G Q => wpE Γ a W σ G fun x G1 => ∃ u, tyD G1 x = some u ∧ Q (.bl (u.sub t)) G1
  | .meth m o es => fun W σ G Q => wpE Γ o W σ G fun x G1 => rcD m G1 x ∧ wpEs Γ es W σ G1 fun ds G2 => mtD m x ds G2 Q
  | .lc own g it c e => fun W σ G Q => wpI Γ it W σ G fun ds src G1 => ds.length ≤ sizeLine ∧
      lcD src (fun d σ1 G2 K => wpG Γ g d nowish σ1 G2 K) (fun σ1 G2 K => wpC Γ c nowish σ1 G2 K) (fun σ1 G2 K => wpE Γ e nowish σ1 G2 K) (fun acc G2 => ∀ p, G2 p = none → Q (.ref p) (put G2 p (.lst acc))) (wipeD σ own) ds [] G1
  | .glob x => fun _ _ G Q => ∃ d, Γ.con x = some d ∧ Q d G
  | .fstr es => fun W σ G Q => wpJ Γ es W Str.empty σ G fun z G1 => Q (.str z) G1
  | .fmt a => fun W σ G Q => wpE Γ a W σ G fun x G1 => fmtD x G1 Q
  | .exf i f => fun _ σ G Q => ∃ a xd d, gt σ i = some (.ref a) ∧ Γ.cur = some (a, xd) ∧ xd.fs.lookup f = some d ∧ Q d G
@[simp] def wpT (Γ : GE) : ME → DT
  | .cmp op a b => fun W σ G Q => wpE Γ a W σ G fun x G1 => wpE Γ b W σ G1 fun y G2 => cmpD op x y G2 fun z G3 => ∃ k, z = .bl k ∧ Q k G3
  | .chain op op' a b c => fun W σ G Q => wpE Γ a W σ G fun x G1 => wpE Γ b W σ G1 fun y G2 => cmpD op x y G2 fun z G3 => ∃ k, z = .bl k ∧ if k = true then wpE Γ c W σ G3 fun w G4 => cmpD op' y w G4 fun z' G5 => ∃ k', z' = .bl k' ∧ Q k' G5 else Q false G3
  | .and es => fun W σ G Q => wpTAnd Γ es W σ G Q
  | .or es => fun W σ G Q => wpTOr Γ es W σ G Q
  | .not a => fun W σ G Q => wpT Γ a W σ G fun b G1 => Q (!b) G1
  | .ifx c a b => fun W σ G Q => wpT Γ c W σ G fun t G1 => if t = true then wpT Γ a W σ G1 Q else wpT Γ b W σ G1 Q
  | .var i => fun _ σ G Q => ∃ d, gt σ i = some d ∧ truD d G Q
  | .bl b => fun _ _ G Q => Q b G
  | .ix a i => fun W σ G Q => wpE Γ a W σ G fun x G1 => wpE Γ i W σ G1 fun y G2 => ixD x y G2 fun z G3 => truD z G3 Q
  | .call f es => fun W σ G Q => ∃ fi, Γ.fn f = some fi ∧ wpEs Γ es W σ G fun ds G1 => ds.length = fi.ps.length ∧ fi.sp ds G1 (fun z G2 => truD z G2 Q) fun xd G2 => W xd σ G2
  | .bi b es => fun W σ G Q => wpEs Γ es W σ G fun ds G1 => biD b ds G1 fun z G2 => truD z G2 Q
  | .isi a t => fun W σ G Q => wpE Γ a W σ G fun x G1 => ∃ u, tyD G1 x = some u ∧ Q (u.sub t) G1
  | _ => fun _ _ _ _ => False
@[simp] def wpAnd (Γ : GE) : MEs → DE
  | .nil => fun _ _ _ _ => False
  | .cons e .nil => fun W σ G Q => wpE Γ e W σ G Q
  | .cons e es => fun W σ G Q => wpE Γ e W σ G fun x G1 => truD x G1 fun b G2 => G2 = G1 ∧ if b = true then wpAnd Γ es W σ G1 Q else Q x G1
@[simp] def wpOr (Γ : GE) : MEs → DE
  | .nil => fun _ _ _ _ => False
  | .cons e .nil => fun W σ G Q => wpE Γ e W σ G Q
  | .cons e es => fun W σ G Q => wpE Γ e W σ G fun x G1 => truD x G1 fun b G2 => G2 = G1 ∧ if b = true then Q x G1 else wpOr Γ es W σ G1 Q
@[simp] def wpTAnd (Γ : GE) : MEs → DT
  | .nil => fun _ _ _ _ => False
  | .cons e .nil => fun W σ G Q => wpT Γ e W σ G Q
  | .cons e es => fun W σ G Q => wpT Γ e W σ G fun b G1 => if b = true then wpTAnd Γ es W σ G1 Q else Q false G1
@[simp] def wpTOr (Γ : GE) : MEs → DT
  | .nil => fun _ _ _ _ => False
  | .cons e .nil => fun W σ G Q => wpT Γ e W σ G Q
  | .cons e es => fun W σ G Q => wpT Γ e W σ G fun b G1 => if b = true then Q true G1 else wpTOr Γ es W σ G1 Q
@[simp] def wpEs (Γ : GE) : MEs → DA
  | .nil => fun _ _ G Q => Q [] G
  | .cons e es => fun W σ G Q => wpE Γ e W σ G fun x G1 => wpEs Γ es W σ G1 fun ds G2 => Q (x :: ds) G2
@[simp] def wpJ (Γ : GE) : MEs → WD → Str → Sg → DH → (Str → DH → Prop) → Prop
  | .nil => fun _ acc _ G Q => Q acc G
  | .cons e es => fun W acc σ G Q => wpE Γ e W σ G fun x G1 => strD x G1 fun y G2 => (acc ++ y).length ≤ sizeLine ∧ wpJ Γ es W (acc ++ y) σ G2 Q
@[simp] def wpO (Γ : GE) : MO → WD → Sg → DH → (Option Int → DH → Prop) → Prop
  | .none => fun _ _ G Q => Q none G
  | .some e => fun W σ G Q => wpE Γ e W σ G fun x G1 => partD x G1 Q
@[simp] def wpC (Γ : GE) : MO → DT
  | .none => fun _ _ G Q => Q true G
  | .some e => fun W σ G Q => wpT Γ e W σ G Q
@[simp] def wpG (Γ : GE) : MG → D → WD → Sg → DH → (Sg → DH → Prop) → Prop
  | .name i => fun d _ σ G Q => Q (st σ i (some d)) G
  | .tup gs => fun d W σ G Q => ofTup d fun ds => ds.length = gs.n ∧ wpGs Γ gs ds W σ G Q
  | .sub o i => fun d W σ G Q => wpE Γ o W σ G fun x G1 => wpE Γ i W σ G1 fun y G2 => setD x y d G2 fun G3 => Q σ G3
@[simp] def wpGs (Γ : GE) : MGs → List D → WD → Sg → DH → (Sg → DH → Prop) → Prop
  | .nil => fun ds _ σ G Q => ds = [] ∧ Q σ G
  | .cons g gs => fun ds W σ G Q => ofCons ds fun d r => wpG Γ g d W σ G fun σ1 G1 => wpGs Γ gs r W σ1 G1 Q
@[simp] def wpI (Γ : GE) : MI → WD → Sg → DH → IK → Prop
  | .seq e => fun W σ G Q => wpE Γ e W σ G fun x G1 => itSeq x G1 Q
  | .enum e => fun W σ G Q => wpE Γ e W σ G fun x G1 => itEnum x G1 Q
  | .rev e => fun W σ G Q => wpE Γ e W σ G fun x G1 => itRev x G1 Q
  | .zip a b => fun W σ G Q => wpE Γ a W σ G fun x G1 => wpE Γ b W σ G1 fun y G2 => itZip x y G2 Q
  | .range es => fun W σ G Q => wpEs Γ es W σ G fun ds G1 => itRange ds G1 Q
end
/-- the clauses, one behind another -/
@[simp] def wpH (Γ : GE) (W : WD) (D : DEnds) : List MH → WD
  | [] => W
  | h :: hs => fun xd σ G => ∃ m, Γ.exm xd.cls h.cls = some m ∧ (m = true → ∀ a, G a = none → wpE { Γ with cur := some (a, xd) } h.ret nowish (match h.as with | none => σ | some i => st σ i (some (.ref a))) G D.rt) ∧ (m = false → wpH Γ W D hs xd σ G)
mutual
@[simp] def wpS (Γ : GE) : MS → DS
  | .par2 i j es => fun W D σ G => wpEs Γ es W σ G fun ds G1 => two ds fun x y => D.nx (st (st σ i (some x)) j (some y)) G1
  | .par3 i j l es => fun W D σ G => wpEs Γ es W σ G fun ds G1 => three ds fun x y z => D.nx (st (st (st σ i (some x)) j (some y)) l (some z)) G1
  | .expr e => fun W D σ G => wpE Γ e W σ G fun _ G1 => D.nx σ G1
  | .ret e => fun W D σ G => wpE Γ e W σ G D.rt
  | .retN => fun _ D _ G => D.rt .non G
  | .asg g e => fun W D σ G => wpE Γ e W σ G fun x G1 => wpG Γ g x W σ G1 D.nx
  | .aug i op e => fun W D σ G => ∃ x, gt σ i = some x ∧ wpE Γ e W σ G fun y G1 => augD op x y G1 fun z G2 => D.nx (st σ i (some z)) G2
  | .augS o i op e => fun W D σ G => wpE Γ o W σ G fun a G1 => wpE Γ i W σ G1 fun k G2 => ∃ l, a = .ref l ∧ ixD (.ref l) k G2 fun x G3 => wpE Γ e W σ G3 fun y G4 => augD op x y G4 fun z G5 => setD (.ref l) k z G5 fun G6 => D.nx σ G6
  | .ifs c a b => fun W D σ G => wpT Γ c W σ G fun t G1 => if t = true then wpSs Γ a W D σ G1 else wpSs Γ b W D σ G1
  | .whl c b => fun W D σ G => ∃ n, whD (fun σ G Q => wpT Γ c W σ G Q) (fun D σ G => wpSs Γ b W D σ G) D n σ G
  | .forr g it b => fun W D σ G => wpI Γ it W σ G fun ds src G1 => loopD src (fun d σ G Q => wpG Γ g d W σ G Q) (fun D σ G => wpSs Γ b W D σ G) D ds σ G1
  | .raise x es => fun W _ σ G => ∃ fs, Γ.exc x = some fs ∧ fs.length = es.n ∧ wpEs Γ es W σ G fun ds G1 => W ⟨x, fs.zip ds⟩ σ G1
  | .tryy b hs => fun W D σ G => (hs.all fun h => Γ.exb h.cls) = true ∧ wpSs Γ b (wpH Γ W D hs) D σ G
  | .pass => fun _ D σ G => D.nx σ G
  | .brk => fun _ D σ G => D.bk σ G
  | .cont => fun _ D σ G => D.ct σ G
@[simp] def wpSs (Γ : GE) : MSs → DS
  | .nil => fun _ D σ G => D.nx σ G
  | .cons s ss => fun W D σ G => wpS Γ s W { D with nx := fun σ' G' => wpSs Γ ss W D σ' G' } σ G
end
end DL

set_option Elab.async false
set_option linter.all false
set_option maxRecDepth 100000
set_option maxHeartbeats 4000000
/-! DL5: the checker: is a piece of the program's syntax tree the piece of the small language? -/
namespace DL
open PySem PySem.Spec PyProof.Rows L2
def noStar : Expr → Bool
  | .Starred _ _ => false
  | _ => true
def noSet : Expr → Bool
  | .Set _ _ _ => false
  | _ => true
def noSlice : Expr → Bool
  | .Slice _ _ _ _ => false
  | _ => true
def noComp : Expr → Bool
  | .ListComp _ _ _ _ => false
  | .SetComp _ _ _ _ => false
  | .DictComp _ _ _ _ _ => false
  | _ => true
def plainBase : Expr → Bool
  | .Call _ _ _ _ => false
  | _ => true
def plainT : Expr → Bool
  | .Name _ _ => true
  | .Constant _ _ _ => true
  | .Subscript _ _ _ => true
  | .Call _ _ _ _ => true
  | _ => false
section
variable {e : Expr} {es : List Expr} {env : Env}
theorem star1 (h : noStar e = true) : starEach (e :: es) env = (false, eval e env) :: starEach es env := by
  cases e <;> first | rfl | exact absurd (show false = true from h) Bool.false_ne_true
theorem star_any (pos : Pos) : ∀ {es : List Expr}, es.all noStar = true → (backTo pos (starEach es env)).any (·.1) = false
  | [], _ => rfl
  | e :: es, h => by
    rw [List.all_cons, Bool.and_eq_true] at h
    rw [star1 h.1]
    have := star_any pos (es := es) h.2
    show (false || (backTo pos (starEach es env)).any (·.1)) = false
    rw [this]; rfl
theorem star_all (pos : Pos) : ∀ {es : List Expr}, es.all noStar = true → (backTo pos (starEach es env)).all (fun x => !x.1) = true
  | [], _ => rfl
  | e :: es, h => by
    rw [List.all_cons, Bool.and_eq_true] at h
    rw [star1 h.1]
    have := star_all pos (es := es) h.2
    show (true && (backTo pos (starEach es env)).all (fun x => !x.1)) = true
    rw [this]; rfl
theorem true_plain (h : plainT e = true) : ∀ whole, isTrue e env whole = (do let v ← whole; standAt e.pos; holding [v] (truthy v)) := by
  intro w
  cases e <;> first | rfl | exact absurd (show false = true from h) Bool.false_ne_true
theorem ix_plain (h : noSlice e = true) : PlainIx e := by
  intro o i
  cases e <;> first | rfl | exact absurd (show false = true from h) Bool.false_ne_true
theorem base_plain {x : Str} {whole : Sem Value} (h : plainBase e = true) : attributeBase e x env whole = whole := by
  cases e <;> first | rfl | exact absurd (show false = true from h) Bool.false_ne_true
theorem set_plain (h : noSet e = true) : ∀ x, foldedSetIterable e env x = pure x := by
  intro x
  cases e <;> first | rfl | exact absurd (show false = true from h) Bool.false_ne_true
theorem mark_plain {op : CmpOp} (h : noSet e = true) : behindInMarks op e = false := by
  cases e <;> first | rfl | exact absurd (show false = true from h) Bool.false_ne_true
theorem marks_plain {op op' : CmpOp} {b : Expr} (h : noSet e = true) : lastMarks [op, op'] [b, e] = false := mark_plain (op := op') h
theorem sw_plain {t : Option Expr} {l : Nat} (h : noComp e = true) : swapsWith e t l env = pure false := by
  cases e <;> first | rfl | exact absurd (show false = true from h) Bool.false_ne_true
theorem asgE1 (h : noStar e = true) : (assignEach (e :: es) env).map (·.2) = assign e env :: (assignEach es env).map (·.2) := by
  cases e <;> first | rfl | exact absurd (show false = true from h) Bool.false_ne_true
theorem asgE_len : ∀ {es : List Expr}, es.all noStar = true → (assignEach es env).length = es.length ∧ (assignEach es env).findIdx? (·.1) = none
  | [], _ => ⟨rfl, rfl⟩
  | e :: es, h => by
    rw [List.all_cons, Bool.and_eq_true] at h
    have e1 : assignEach (e :: es) env = (false, assign e env) :: assignEach es env := by
      cases e <;> first | rfl | exact absurd (show false = true from h.1) Bool.false_ne_true
    obtain ⟨h1, h2⟩ := asgE_len (es := es) h.2
    rw [e1]
    refine ⟨by rw [List.length_cons, List.length_cons, h1], ?_⟩
    rw [List.findIdx?_cons, h2]
    rfl
theorem asgSub {o i : Expr} {pos : Pos} (h : noSlice i = true) : ∀ v, assign (.Subscript o i pos) env v = (do
      let ov ← holding [v] (eval o env)
      let iv ← holding [v, ov] (eval i env)
      standAt pos
      holding [v, ov, iv] (setItem ov iv v)
      release [v, ov, iv] []) := by
  intro v
  cases i <;> first | rfl | exact absurd (show false = true from h) Bool.false_ne_true
theorem augSub {i : Expr} (h : noSlice i = true) : ∀ ov iv new, augStore i ov iv new = (do holding [new, ov, iv] (setItem ov iv new); release [new, ov, iv] []; pure .next) := by
  intro ov iv new
  cases i <;> first | rfl | exact absurd (show false = true from h) Bool.false_ne_true
end
/-- where a piece of text stands: the names by slot, the scope that runs, the scope as written, within an except suite or not -/
structure CT where
  N : List Str
  sc : Scope
  raw : Scope
  su : Bool
  gcd : Bool
def visB (sc : Scope) (x : Str) : Bool := match sc.names.lookup x with
  | some .local => true | some .cell => true | some .free => true | _ => false
def locB (c : CT) (x : Str) : Bool := match c.sc.names.lookup x, c.raw.names.lookup x with
  | some .local, _ => true
  | some .cell, some .cell => true
  | _, _ => false
def glB (sc : Scope) (x : Str) : Bool := match sc.names.lookup x with
  | some .globalImplicit => true | _ => false
def okName (x : Str) : Bool := !(x == ("__debug__" : Str)) && !(x == ("__classdict__" : Str)) && !(x == ("__name__" : Str))
def atN (c : CT) (i : Nat) (x : Str) : Bool := match c.N[i]? with
  | some y => decide (y = x)
  | none => false
mutual
def chE (c : CT) : ME → Expr → Bool
  | .var i => fun e => match e with | .Name x _ => atN c i x && visB c.sc x && okName x | _ => false
  | .non => fun e => match e with | .Constant .none _ _ => true | _ => false
  | .bl b => fun e => match e with | .Constant (.bool b') _ _ => b == b' | _ => false
  | .int i => fun e => match e with | .Constant (.int i') _ _ => decide (i = i') | _ => false
  | .str s => fun e => match e with | .Constant (.str s') _ _ => decide (s = s') | _ => false
  | .bin op a b => fun e => match e with | .BinOp x op' y _ => decide (op = op') && (chE c a x && chE c b y) | _ => false
  | .neg a => fun e => match e with | .UnaryOp .USub x _ => chE c a x | _ => false
  | .cmp op a b => fun e => match e with | .Compare x [op'] [y] _ => decide (op = op') && noSet y && (chE c a x && chE c b y) | _ => false
  | .chain op op' a b d => fun e => match e with | .Compare x [o1, o2] [y, z] _ => decide (op = o1) && decide (op' = o2) && noSet z && (chE c a x && chE c b y && chE c d z) | _ => false
  | .and es => fun e => match e with | .BoolOp .And vs _ => chEs c es vs | _ => false
  | .or es => fun e => match e with | .BoolOp .Or vs _ => chEs c es vs | _ => false
  | .not a => fun e => match e with | .UnaryOp .Not x _ => chE c a x | _ => false
  | .ifx t a b => fun e => match e with | .IfExp u x y _ => chE c t u && chE c a x && chE c b y | _ => false
  | .tup es => fun e => match e with | .Tuple vs _ _ => decide (vs.length ≤ 1000) && chEs c es vs | _ => false
  | .lst es => fun e => match e with | .List vs _ => decide (vs.length ≤ 1000) && chEs c es vs | _ => false
  | .dct0 => fun e => match e with | .Dict [] [] _ => true | _ => false
  | .ix a i => fun e => match e with | .Subscript x y _ => noSlice y && (chE c a x && chE c i y) | _ => false
  | .slc a lo hi => fun e => match e with | .Subscript x (.Slice l h none _) _ => chE c a x && chO c lo l && chO c hi h | _ => false
  | .revl a => fun e => match e with | .Subscript x (.Slice none none (some (.UnaryOp .USub (.Constant (.int i) _ _) _)) _) _ => decide (i = 1) && chE c a x | _ => false
  | .call f es => fun e => match e with | .Call (.Name x _) args [] _ => decide (x = f) && !c.su && glB c.sc x && okName x && args.all noStar && chEs c es args | _ => false
  | .callk f es ks kes => fun e => match e with | .Call (.Name x _) args kws _ => decide (x = f) && !c.su && glB c.sc x && okName x && args.all noStar && chEs c es args && chK c ks kes kws | _ => false
  | .bi b es => fun e => match e with | .Call (.Name x _) args [] _ => decide (x = b.name) && (decide (b ≠ .gcd) || c.gcd) && !c.su && glB c.sc x && args.all noStar && chEs c es args | _ => false
  | .isi a t => fun e => match e with | .Call (.Name x _) [u, .Name y _] [] _ => decide (x = "isinstance" ∧ t ≠ .none) && decide (y = Str.ofString t.s) && glB c.sc x && glB c.sc y && noStar u && chE c a u | _ => false
  | .meth m o es => fun e => match e with | .Call (.Attribute u x ap) args [] cp => decide (x = m.name) && !c.su && decide (args.length = m.many) && (ap.endLine == cp.line) && plainBase u && args.all noStar && chE c o u && chEs c es args | _ => false
  | .lc own g it t el => fun e => match e with | .ListComp x [⟨tg, iter, ifs, 0⟩] scope _ => !c.su && blkC c.N c.sc scope own && chI c it iter tg && chG ⟨c.N, relS scope c.sc, scope, false, c.gcd⟩ g tg && ownB own g && chC ⟨c.N, relS scope c.sc, scope, false, c.gcd⟩ t ifs && chE ⟨c.N, relS scope c.sc, scope, false, c.gcd⟩ el x | _ => false
  | .glob x => fun e => match e with | .Name y _ => decide (x = y) && glB c.sc x && okName x | _ => false
  | .fstr es => fun e => match e with | .JoinedStr vs _ => decide (2 ≤ vs.length) && chEs c es vs | _ => false
  | .fmt a => fun e => match e with | .FormattedValue x i none _ => decide (i = -1) && chE c a x | _ => false
  | .exf i f => fun e => match e with | .Attribute (.Name x _) f' _ => c.su && decide (f = f') && atN c i x && visB c.sc x && okName x | _ => false
def chEs (c : CT) : MEs → List Expr → Bool
  | .nil => fun es => match es with | [] => true | _ => false
  | .cons m ms => fun es => match es with | e :: es => noStar e && chE c m e && chEs c ms es | [] => false
def chK (c : CT) : List Str → MEs → List Keyword → Bool
  | ks, .nil, kws => match ks, kws with | [], [] => true | _, _ => false
  | ks, .cons m ms, kws => match ks, kws with | k :: ks, ⟨some x, e, _⟩ :: kws => decide (k = x) && chE c m e && chK c ks ms kws | _, _ => false
def chO (c : CT) : MO → Option Expr → Bool
  | .none => fun o => match o with | none => true | _ => false
  | .some m => fun o => match o with | some e => chE c m e | none => false
def chC (c : CT) : MO → List Expr → Bool
  | .none => fun o => match o with | [] => true | _ => false
  | .some m => fun o => match o with | [e] => chE c m e | _ => false
def chG (c : CT) : MG → Expr → Bool
  | .name i => fun e => match e with | .Name x _ => atN c i x && locB c x | _ => false
  | .tup gs => fun e => match e with | .Tuple es _ _ => !c.su && es.all noStar && chGs c gs es | _ => false
  | .sub o i => fun e => match e with | .Subscript x y _ => noSlice y && chE c o x && chE c i y | _ => false
def chGs (c : CT) : MGs → List Expr → Bool
  | .nil => fun es => match es with | [] => true | _ => false
  | .cons g gs => fun es => match es with | e :: es => chG c g e && chGs c gs es | [] => false
/-- what is walked, and the target that takes it -/
def chI (c : CT) : MI → Expr → Expr → Bool
  | .seq m => fun e _ => noSet e && chE c m e
  | .range ms => fun e _ => match e with | .Call (.Name x _) args [] _ => decide (x = "range" ∧ args.length ≤ 3) && !c.su && glB c.sc x && args.all noStar && chEs c ms args | _ => false
  | .enum m => fun e tg => match e with | .Call (.Name x _) [a] [] _ => decide (x = "enumerate") && !c.su && glB c.sc x && noStar a && isTup tg && chE c m a | _ => false
  | .rev m => fun e _ => match e with | .Call (.Name x _) [a] [] _ => decide (x = "reversed") && !c.su && glB c.sc x && noStar a && chE c m a | _ => false
  | .zip m n => fun e tg => match e with | .Call (.Name x _) [a, b] [] _ => decide (x = "zip") && !c.su && glB c.sc x && noStar a && noStar b && isTup tg && chE c m a && chE c n b | _ => false
def isTup : Expr → Bool
  | .Tuple _ _ _ => true
  | _ => false
/-- the target's slots are the block's own -/
def ownB (own : List (Str × Nat)) : MG → Bool
  | .name i => (own.map (·.2)).contains i
  | .tup gs => ownBs own gs
  | .sub _ _ => false
def ownBs (own : List (Str × Nat)) : MGs → Bool
  | .nil => true
  | .cons g gs => ownB own g && ownBs own gs
end
end DL

set_option Elab.async false
set_option linter.all false
set_option maxRecDepth 100000
set_option maxHeartbeats 4000000
/-! DL6: the setting of a piece of text; what the module's names are; promises of defs lifted; what is walked. -/
namespace DL
open PySem PySem.Spec PyProof.Rows L2
def RFs (K : PySem.W.Frag) (H : Hp) : List (Str × D) → List (Str × V) → Prop
  | [], vs => vs = []
  | (f, d) :: r, vs => ∃ v ws, vs = (f, v) :: ws ∧ Rp K H d v ∧ RFs K H r ws
theorem RFs.keep {R : Addr → Prop} {H H' : Hp} {K : PySem.W.Frag} (k : Keep R H H') : ∀ {ds : List (Str × D)} {vs : List (Str × V)}, RFs K H ds vs → RFs K H' ds vs
  | [], _, h => h
  | (x, d) :: ds, vs, h => by
    obtain ⟨v, ws, e, q, r⟩ := h
    exact ⟨v, ws, e, Rp.keep k q, RFs.keep k r⟩
theorem RFs.get {K : PySem.W.Frag} {H : Hp} {f : Str} {d : D} : ∀ {ds : List (Str × D)} {vs : List (Str × V)}, RFs K H ds vs → ds.lookup f = some d → ∃ v, vs.lookup f = some v ∧ Rp K H d v
  | [], _, _, e => by cases e
  | (x, d') :: ds, vs, h, e => by
    obtain ⟨v, ws, e1, q, r⟩ := h
    subst e1
    rw [List.lookup_cons] at e ⊢
    cases hb : f == x with
    | true =>
      rw [hb] at e
      cases e
      exact ⟨v, rfl, q⟩
    | false =>
      rw [hb] at e
      exact RFs.get r e
/-- an exception in the air -/
def RX (K : PySem.W.Frag) (mg : Str → Option Value) (H : Hp) (xd : XD) (cls : Value) (d : Option Addr) : Prop :=
  ∃ C, mg xd.cls = some (.ref C) ∧ cls = .ref C ∧ (xd.fs = [] ∨ (XfC K C ∧ ∀ p ∈ xd.fs, PySem.W.findIn K (.ref C) p.1 = some none) ∧ ∃ dd fvs, d = some dd ∧ H dd = some (.xd fvs) ∧ RFs K H xd.fs fvs)
def GR (K : PySem.W.Frag) (R : Addr → Prop) (G : DH) (H : Hp) : Prop := (∀ a o, G a = some o → RO K H a o) ∧ ∀ a, R a → G a = none
/-- what a callee leaves alone -/
def Rs (H : Hp) (G : DH) : Addr → Prop := fun a => H a ≠ none ∧ G a = none
/-- a promise over plain values, as one of the layer's -/
def toSp (K : PySem.W.Frag) (mg : Str → Option Value) (n : Nat) (S : DSp) : Sp := fun vs H Q E => ∃ ds G Qd Ed, ds.length = n ∧ Rps K H ds vs ∧ (∀ a o, G a = some o → RO K H a o) ∧ S ds G Qd Ed ∧
  (∀ d G' v H', Qd d G' → Rp K H' d v → GR K (Rs H G) G' H' → Keep (Rs H G) H H' → Q v H') ∧
  (∀ xd G' cls dd H', Ed xd G' → RX K mg H' xd cls dd → GR K (Rs H G) G' H' → Keep (Rs H G) H H' → E cls dd H')
/-- how a call with keywords binds -/
def KBd (K : PySem.W.Frag) (fd : FuncData) (ps : List Str) (n : Nat) (ks : List Str) (p : List Nat) : Prop :=
  ∀ (s : Shared) (us ws : List Value), K.In s.heap → us.length = n → ws.length = ks.length → BindsTo s fd ⟨us, ks.zip ws⟩ (ps.zip (permL p (us ++ ws)))
/-- the promise of an own exception's __init__ -/
def spInit (K : PySem.W.Frag) (C : Addr) (f : Str) : Sp := fun vs H Q _ => ∃ a v, vs = [.ref a, v] ∧ OexC K C ∧ PySem.W.findIn K (.ref C) f = some none ∧ H a = some (exo a C none) ∧
  ∀ dx, H dx = none → dx ≠ a → Q .non (upd (upd H dx (exd dx [(f, v)])) a (exo a C (some dx)))
def veB : List Value := [.type "ValueError", .type "Exception", .type "BaseException", .type "object"]
/-- what is known of an own exception class -/
def ExOk (P : Program) (w : World) (K : PySem.W.Frag) (mg : Str → Option Value) (base : Heap) (x : Str) (fs : List Str) : Prop := match fs with
  | [] => ∃ C, mg x = some (.ref C) ∧ PySem.W.excIn K C veB "ValueError.__new__" = true ∧ PySem.W.keepIn K (.ref C) = true ∧ PySem.W.subIn K (.ref C) (.type "BaseException") = some true ∧ PySem.W.typeIn K (.ref C) = some (.type "type")
  | [f] => ∃ C fI fd, mg x = some (.ref C) ∧ OexC K C ∧ PySem.W.findIn K (.ref C) "__init__" = some (some (.ref fI)) ∧ PySem.W.typeIn K (.ref fI) = some (.type "function") ∧
      FnOk P w K mg base (L2.CX P w) 1 fI fd ["self", f] (spInit K C f) ∧ Binds K fd ["self", f] [] ∧ PySem.W.findIn K (.ref C) f = some none ∧ XfC K C
  | _ => False
def bNames : List Str := ["len", "abs", "int", "str", "sum", "max", "min", "all", "any", "list", "tuple", "bool", "dict", "isinstance", "range", "enumerate", "zip", "reversed"]
structure GOk (Γ : GE) (k : Nat) (g : Bool) (P : Program) (w : World) (K : PySem.W.Frag) (mg : Str → Option Value) (base : Heap) : Prop where
  fn : ∀ f fi, Γ.fn f = some fi → ∃ a fd, mg f = some (.ref a) ∧ PySem.W.keepIn K (.ref a) = true ∧ FnOk P w K mg base (L2.CX P w) k a fd fi.ps (toSp K mg fi.ps.length fi.sp) ∧ Binds K fd fi.ps [] ∧ ∀ q ∈ fi.kws, KBd K fd fi.ps q.1 q.2.1 q.2.2
  bt : ∀ x ∈ bNames, mg x = none
  gcd : g = true → mg "gcd" = some (.builtin "math.gcd")
  con : ∀ x d, Γ.con x = some d → ∃ u v, mg x = some u ∧ RelV v u ∧ ∀ H, Rp K H d v
  exc : ∀ x fs, Γ.exc x = some fs → ExOk P w K mg base x fs
  exb : ∀ x, Γ.exb x = true → (x == ("__debug__" : Str)) = false ∧ ∃ C, mg x = some (.ref C)
  exm : ∀ x y m, Γ.exm x y = some m → ∃ Cx Cy, mg x = some (.ref Cx) ∧ mg y = some (.ref Cy) ∧ PySem.W.exmOne K (.ref Cx) (.ref Cy) = some m
/-- the wish for exceptions, lifted -/
def lW (K : PySem.W.Frag) (mg : Str → Option Value) (R : Addr → Prop) (H0 : Hp) (W : WD) : WX := fun cls d σv H => ∃ xd σ G, W xd σ G ∧ RX K mg H xd cls d ∧ SR K R H0 σ G σv H
/-- the exception that an except suite holds -/
def CurOk (R : Addr → Prop) (H0 : Hp) (X : Cx) (a : Addr) (xd : XD) : Prop :=
  ∃ (Y : Cx) (oe : Obj) (pn : List (Addr × Obj)) (cls : Value) (d : Option Addr) (C : Addr), X = Y.suite a ((a, oe) :: pn) ∧ Zc cls d oe ∧ (∃ vs, oe.data = .fields vs) ∧ X.mg xd.cls = some (.ref C) ∧ cls = .ref C ∧
    (∀ f v, xd.fs.lookup f = some v → XfC X.K C ∧ PySem.W.findIn X.K (.ref C) f = some none) ∧ (xd.fs = [] ∨ ∃ dd fvs, d = some dd ∧ R dd ∧ H0 dd = some (.xd fvs) ∧ RFs X.K H0 xd.fs fvs)
structure SX (Γ : GE) (k : Nat) (c : CT) (R : Addr → Prop) (H0 : Hp) (W : WD) (X : Cx) : Prop where
  N : X.N = c.N
  nd : c.N.Nodup
  sc : X.env.scope = c.sc
  fk : c.sc.kind = .function
  fn : ∀ x, c.raw.names.lookup x = some .cell → X.fn x = true
  un : X.A.units + 64 < cLine
  k2 : 2 ≤ k
  rm : c.su = false → Room k X.A
  cm : c.su = false → X.calm = true
  ok : GOk Γ k c.gcd X.prog X.w X.K X.mg X.base
  tk : Takes X (lW X.K X.mg R H0 W)
  cu : c.su = true → ∃ a xd, Γ.cur = some (a, xd) ∧ CurOk R H0 X a xd

/-- which slots a target may touch -/
def Ow (o : Option (List (Str × Nat))) (a b : L2.St) : Prop := match o with
  | none => True
  | some own => wipe b (own.map (·.2)) = wipe a (own.map (·.2))
theorem Ow.refl {o : Option (List (Str × Nat))} {a : L2.St} : Ow o a a := by cases o <;> trivial
theorem Ow.trans {o : Option (List (Str × Nat))} {a b c : L2.St} (h : Ow o a b) (h' : Ow o b c) : Ow o a c := by
  cases o with
  | none => trivial
  | some own => exact Eq.trans (show wipe c _ = wipe b _ from h') h
theorem wipe_set {σ : L2.St} {i : Nat} {x : Option V} : ∀ {vs : List Nat}, i ∈ vs → wipe (σ.set i x) vs = wipe σ vs
  | [], h => by cases h
  | v :: vs, h => by
    unfold wipe
    by_cases hm : i ∈ vs
    · rw [wipe_set hm]
    · have e : i = v := by
        rcases List.mem_cons.mp h with e | e
        · exact e
        · exact absurd e hm
      subst e
      have key : ∀ (ws : List Nat), wipe (σ.set i x) ws = (if i ∈ ws then wipe σ ws else (wipe σ ws).set i x) := by
        intro ws
        induction ws with
        | nil => rw [if_neg (by simp)]; rfl
        | cons w ws ih =>
          unfold wipe
          rw [ih]
          by_cases h1 : i ∈ ws
          · rw [if_pos h1, if_pos (List.mem_cons_of_mem _ h1)]
          · rw [if_neg h1]
            by_cases h2 : i = w
            · subst h2
              rw [if_pos (List.mem_cons_self), List.set_set]
            · rw [if_neg (by simp [h1, h2]), List.set_comm _ _ h2]
      rw [key vs, if_neg hm, List.set_set]
theorem Ow.set {o : Option (List (Str × Nat))} {σ : L2.St} {i : Nat} {x : Option V} (h : ∀ own, o = some own → (own.map (·.2)).contains i = true) : Ow o σ (σ.set i x) := by
  cases o with
  | none => trivial
  | some own => exact wipe_set (by simpa using h own rfl)
def lG (K : PySem.W.Frag) (R : Addr → Prop) (H0 : Hp) (W : WD) (o : Option (List (Str × Nat))) (g : D → WD → Sg → DH → (Sg → DH → Prop) → Prop) : TG := fun v σv H Qv => ∃ d σ G Q, Rp K H d v ∧ SR K R H0 σ G σv H ∧ g d W σ G Q ∧
  ∀ σ' G' σv' H', Q σ' G' → SR K R H0 σ' G' σv' H' → Keep R H H' → Ow o σv σv' → Qv σv' H'
def lGs (K : PySem.W.Frag) (R : Addr → Prop) (H0 : Hp) (W : WD) (o : Option (List (Str × Nat))) (g : List D → WD → Sg → DH → (Sg → DH → Prop) → Prop) : TGs := fun vs σv H Qv => ∃ ds σ G Q, Rps K H ds vs ∧ SR K R H0 σ G σv H ∧ g ds W σ G Q ∧
  ∀ σ' G' σv' H', Q σ' G' → SR K R H0 σ' G' σv' H' → Keep R H H' → Ow o σv σv' → Qv σv' H'
def lO (K : PySem.W.Frag) (R : Addr → Prop) (H0 : Hp) (W : WD) (t : WD → Sg → DH → (Option Int → DH → Prop) → Prop) : TO := fun σv H Qv => ∃ σ G Q, SR K R H0 σ G σv H ∧ t W σ G Q ∧ ∀ o G' H', Q o G' → SR K R H0 σ G' σv H' → Keep R H H' → Qv o H'
/-- what is walked, whatever else is told: only the tuples' and locked things' staying is used -/
def KeepT : Hp → Hp → Prop := Keep fun _ => False
theorem Keep.t {R : Addr → Prop} {H H' : Hp} (k : Keep R H H') : KeepT H H' := ⟨k.tup, k.frz, fun _ z => z.elim⟩
structure WkD (K : PySem.W.Frag) (J : It) (ds : List D) (src : List (Addr × List D)) (Hs : Hp) : Prop where
  go : ∀ (i : Nat) (G : DH) (H : Hp), i < ds.length → (∀ a o, G a = some o → RO K H a o) → srcOk src G → KeepT Hs H → J.go i H
  stop : ∀ (G : DH) (H : Hp), (∀ a o, G a = some o → RO K H a o) → srcOk src G → KeepT Hs H → J.stop ds.length H
  yld : ∀ (i : Nat) (d : D) (G : DH) (H : Hp) (x : V) (H' : Hp), ds[i]? = some d → (∀ a o, G a = some o → RO K H a o) → srcOk src G → KeepT Hs H → J.yld i H x H' →
    (H' = H ∧ Rp K H d x) ∨ ∃ T xs es, H T = none ∧ H' = upd H T (.tup xs) ∧ x = .ref T ∧ d = .tup es ∧ Rps K H es xs
def lI (K : PySem.W.Frag) (R : Addr → Prop) (H0 : Hp) (W : WD) (t : WD → Sg → DH → IK → Prop) : TI := fun σv H Rr => ∃ σ G Q, SR K R H0 σ G σv H ∧ t W σ G Q ∧
  ∀ ds src G' H' J, Q ds src G' → WkD K J ds src H' → SR K R H0 σ G' σv H' → Keep R H H' → Rr J H'
/-- the yield in a state -/
theorem WkD.next {K : PySem.W.Frag} {J : It} {ds : List D} {src : List (Addr × List D)} {Hs : Hp} (w : WkD K J ds src Hs) {R : Addr → Prop} {H0 H H' : Hp} {σ : Sg} {G : DH} {σv : L2.St} {i : Nat} {d : D} {x : V} (hd : ds[i]? = some d)
    (s : SR K R H0 σ G σv H) (hs : srcOk src G) (k : KeepT Hs H) (y : J.yld i H x H') : SR K R H0 σ G σv H' ∧ Rp K H' d x ∧ Keep R H H' := by
  rcases w.yld i d G H x H' hd s.gr hs k y with ⟨e, r⟩ | ⟨T, xs, es, hT, e, ex, ed, r⟩
  · subst e
    exact ⟨s, r, .refl⟩
  · have kp : Keep R H (upd H T (.tup xs)) := Keep.new hT s.nres
    subst e ex ed
    exact ⟨s.hid hT, ⟨T, xs, rfl, SqT.of upd_same, r.keep kp⟩, kp⟩
section
variable {K : PySem.W.Frag} {Hs : Hp}
theorem sqL_of {H : Hp} {G : DH} (gr : ∀ a o, G a = some o → RO K H a o) {a : Addr} {ds : List D} (h : sqAt G a = some ds) : ∃ vs, SqL K H a vs ∧ Rps K H ds vs := by
  unfold sqAt at h
  cases e : G a with
  | none => rw [e] at h; cases h
  | some o =>
    rw [e] at h
    have z := gr a o e
    cases o with
    | lst xs =>
      cases h
      obtain ⟨vs, e1, q⟩ := z
      exact ⟨vs, SqL.of e1, q⟩
    | dct _ => cases h
theorem wk_lst {a : Addr} {ds : List D} : WkD K (Itl K a) ds [(a, ds)] Hs where
  go := fun i G H hi gr hs _ => by
    obtain ⟨vs, q, r⟩ := sqL_of gr (show sqAt G a = some ds from hs (a, ds) (by simp))
    have hl := r.length
    exact ⟨vs, vs[i], q, by simp [show i < vs.length by omega]⟩
  stop := fun G H gr hs _ => by
    obtain ⟨vs, q, r⟩ := sqL_of gr (show sqAt G a = some ds from hs (a, ds) (by simp))
    exact ⟨vs, q, Nat.le_of_eq r.length⟩
  yld := fun i d G H x H' hd gr hs _ y => by
    obtain ⟨vs, q, r⟩ := sqL_of gr (show sqAt G a = some ds from hs (a, ds) (by simp))
    obtain ⟨v, e, rv⟩ := r.get hd
    have e2 := y.2 vs q
    rw [e] at e2; cases e2
    exact .inl ⟨y.1, rv⟩
theorem wk_tup {a : Addr} {ds : List D} {vs : List V} (q : SqT K Hs a vs) (r : Rps K Hs ds vs) : WkD K (Itt K a) ds [] Hs where
  go := fun i G H hi gr hs k => by
    have hl := r.length
    exact ⟨vs, vs[i], k.sqT q, by simp [show i < vs.length by omega]⟩
  stop := fun G H gr hs k => ⟨vs, k.sqT q, Nat.le_of_eq r.length⟩
  yld := fun i d G H x H' hd gr hs k y => by
    obtain ⟨v, e, rv⟩ := r.get hd
    have e2 := y.2 vs (k.sqT q)
    rw [e] at e2; cases e2
    exact .inl ⟨y.1, rv.keep k⟩
theorem wk_lsv {a : Addr} {ds : List D} {vs : List V} (q : SqV K Hs a vs) (r : Rps K Hs ds vs) : WkD K (Itl K a) ds [] Hs where
  go := fun i G H hi gr hs k => by
    have hl := r.length
    exact ⟨vs, vs[i], (k.sqV q).l, by simp [show i < vs.length by omega]⟩
  stop := fun G H gr hs k => ⟨vs, (k.sqV q).l, Nat.le_of_eq r.length⟩
  yld := fun i d G H x H' hd gr hs k y => by
    obtain ⟨v, e, rv⟩ := r.get hd
    have e2 := y.2 vs (k.sqV q).l
    rw [e] at e2; cases e2
    exact .inl ⟨y.1, rv.keep k⟩
theorem rangeL_get {lo c : Int} {n i : Nat} {d : D} (h : (rangeL lo n c)[i]? = some d) : i < n ∧ d = .int (lo + (i : Nat) * c) := by
  unfold rangeL at h
  rw [List.getElem?_map] at h
  by_cases hi : i < n
  · rw [List.getElem?_range hi] at h
    exact ⟨hi, (Option.some.inj h).symm⟩
  · rw [List.getElem?_eq_none (by rw [List.length_range]; omega)] at h; cases h
theorem rangeL_length (lo c : Int) (n : Nat) : (rangeL lo n c).length = n := by unfold rangeL; rw [List.length_map, List.length_range]
theorem wk_range {lo : Int} {n : Nat} : WkD K (Itr lo n) (rangeL lo n 1) [] Hs where
  go := fun i G H hi _ _ _ => by rw [rangeL_length] at hi; exact hi
  stop := fun G H _ _ _ => by rw [rangeL_length]; exact Nat.le_refl _
  yld := fun i d G H x H' hd _ _ _ y => by
    obtain ⟨h1, h2⟩ := rangeL_get hd
    obtain ⟨e1, e2⟩ := y
    subst h2
    exact .inl ⟨e1, by rw [e2]; show V.int _ = V.int _; rw [Int.mul_one]⟩
theorem wk_rangeC {lo c : Int} {n : Nat} : WkD K (Itc lo c n) (rangeL lo n c) [] Hs where
  go := fun i G H hi _ _ _ => by rw [rangeL_length] at hi; exact hi
  stop := fun G H _ _ _ => by rw [rangeL_length]; exact Nat.le_refl _
  yld := fun i d G H x H' hd _ _ _ y => by
    obtain ⟨h1, h2⟩ := rangeL_get hd
    obtain ⟨e1, e2⟩ := y
    subst h2
    exact .inl ⟨e1, e2⟩
theorem enumL_get : ∀ {ds : List D} {j i : Nat} {d : D}, (enumL j ds)[i]? = some d → ∃ e, ds[i]? = some e ∧ d = .tup [.int ((j + i : Nat) : Int), e]
  | [], _, _, _, h => by simp [enumL] at h
  | x :: ds, j, 0, d, h => by
    have h' : D.tup [.int (j : Nat), x] = d := by simpa [enumL] using h
    exact ⟨x, rfl, h'.symm⟩
  | x :: ds, j, i + 1, d, h => by
    have h' : (enumL (j + 1) ds)[i]? = some d := by simpa [enumL] using h
    obtain ⟨e, h1, h2⟩ := enumL_get h'
    exact ⟨e, by simpa using h1, by rw [h2, show j + 1 + i = j + (i + 1) by omega]⟩
theorem enumL_length : ∀ (ds : List D) (j : Nat), (enumL j ds).length = ds.length
  | [], _ => rfl
  | x :: ds, j => by
    show (enumL (j + 1) ds).length + 1 = _
    rw [enumL_length ds]; rfl
theorem wk_enum {a : Addr} {ds : List D} : WkD K (Ite K a) (enumL 0 ds) [(a, ds)] Hs where
  go := fun i G H hi gr hs _ => by
    rw [enumL_length] at hi
    obtain ⟨vs, q, r⟩ := sqL_of gr (show sqAt G a = some ds from hs (a, ds) (by simp))
    have hl := r.length
    exact ⟨vs, vs[i], q, by simp [show i < vs.length by omega]⟩
  stop := fun G H gr hs _ => by
    rw [enumL_length]
    obtain ⟨vs, q, r⟩ := sqL_of gr (show sqAt G a = some ds from hs (a, ds) (by simp))
    exact ⟨vs, q, Nat.le_of_eq r.length⟩
  yld := fun i d G H x H' hd gr hs _ y => by
    obtain ⟨vs, q, r⟩ := sqL_of gr (show sqAt G a = some ds from hs (a, ds) (by simp))
    obtain ⟨e, h1, h2⟩ := enumL_get hd
    obtain ⟨v, e1, rv⟩ := r.get h1
    obtain ⟨T, z, ex, hT, eH, hz⟩ := y
    have e2 := hz vs q
    rw [e1] at e2; cases e2
    refine .inr ⟨T, _, _, hT, eH, ex, h2, .int (i : Nat), [v], rfl, ?_, v, [], rfl, rv, rfl⟩
    show V.int _ = V.int _
    rw [Nat.zero_add]
theorem zipL_get : ∀ {ds es : List D} {i : Nat} {d : D}, (zipL ds es)[i]? = some d → ∃ x y, ds[i]? = some x ∧ es[i]? = some y ∧ d = .tup [x, y]
  | [], _, _, _, h => by simp [zipL] at h
  | _ :: _, [], _, _, h => by simp [zipL] at h
  | x :: ds, y :: es, 0, d, h => by
    have h' : D.tup [x, y] = d := by simpa [zipL] using h
    exact ⟨x, y, rfl, rfl, h'.symm⟩
  | x :: ds, y :: es, i + 1, d, h => by
    have h' : (zipL ds es)[i]? = some d := by simpa [zipL] using h
    obtain ⟨x', y', h1, h2, h3⟩ := zipL_get h'
    exact ⟨x', y', by simpa using h1, by simpa using h2, h3⟩
theorem zipL_length : ∀ (ds es : List D), (zipL ds es).length = min ds.length es.length
  | [], _ => by simp [zipL]
  | _ :: _, [] => by simp [zipL]
  | x :: ds, y :: es => by
    show (zipL ds es).length + 1 = _
    rw [zipL_length ds es, List.length_cons, List.length_cons]; omega
theorem wk_zip {a b : Addr} {ds es : List D} : WkD K (Itz K a b) (zipL ds es) [(a, ds), (b, es)] Hs where
  go := fun i G H hi gr hs _ => by
    rw [zipL_length] at hi
    obtain ⟨vs, q, r⟩ := sqL_of gr (show sqAt G a = some ds from hs (a, ds) (by simp))
    obtain ⟨ws, q2, r2⟩ := sqL_of gr (show sqAt G b = some es from hs (b, es) (by simp))
    have hl := r.length
    have hl2 := r2.length
    exact ⟨vs, ws, vs[i], ws[i], q, q2, by simp [show i < vs.length by omega], by simp [show i < ws.length by omega]⟩
  stop := fun G H gr hs _ => by
    rw [zipL_length]
    obtain ⟨vs, q, r⟩ := sqL_of gr (show sqAt G a = some ds from hs (a, ds) (by simp))
    obtain ⟨ws, q2, r2⟩ := sqL_of gr (show sqAt G b = some es from hs (b, es) (by simp))
    have hl := r.length
    have hl2 := r2.length
    exact ⟨vs, ws, q, q2, by omega⟩
  yld := fun i d G H x H' hd gr hs _ y => by
    obtain ⟨vs, q, r⟩ := sqL_of gr (show sqAt G a = some ds from hs (a, ds) (by simp))
    obtain ⟨ws, q2, r2⟩ := sqL_of gr (show sqAt G b = some es from hs (b, es) (by simp))
    obtain ⟨x1, y1, h1, h2, h3⟩ := zipL_get hd
    obtain ⟨v, e1, rv⟩ := r.get h1
    obtain ⟨u, e2, ru⟩ := r2.get h2
    obtain ⟨T, z, z', ex, hT, eH, hz, hz'⟩ := y
    have e3 := hz vs q
    rw [e1] at e3; cases e3
    have e4 := hz' ws q2
    rw [e2] at e4; cases e4
    exact .inr ⟨T, _, _, hT, eH, ex, h3, v, [u], rfl, rv, u, [], rfl, ru, rfl⟩
theorem wk_zipT {a b : Addr} {ds es : List D} {vs ws : List V} (q : SqT K Hs a vs) (r : Rps K Hs ds vs) (q2 : SqT K Hs b ws) (r2 : Rps K Hs es ws) : WkD K (RZ.ItzT K a b) (zipL ds es) [] Hs where
  go := fun i G H hi gr hs k => by
    rw [zipL_length] at hi
    have hl := r.length
    have hl2 := r2.length
    exact ⟨vs, ws, vs[i], ws[i], k.sqT q, k.sqT q2, by simp [show i < vs.length by omega], by simp [show i < ws.length by omega]⟩
  stop := fun G H gr hs k => by
    rw [zipL_length]
    have hl := r.length
    have hl2 := r2.length
    exact ⟨vs, ws, k.sqT q, k.sqT q2, by omega⟩
  yld := fun i d G H x H' hd gr hs k y => by
    obtain ⟨x1, y1, h1, h2, h3⟩ := zipL_get hd
    obtain ⟨v, e1, rv⟩ := r.get h1
    obtain ⟨u, e2, ru⟩ := r2.get h2
    obtain ⟨T, z, z', ex, hT, eH, hz, hz'⟩ := y
    have e3 := hz vs (k.sqT q)
    rw [e1] at e3; cases e3
    have e4 := hz' ws (k.sqT q2)
    rw [e2] at e4; cases e4
    exact .inr ⟨T, _, _, hT, eH, ex, h3, v, [u], rfl, rv.keep k, u, [], rfl, ru.keep k, rfl⟩
theorem get_rev {α : Type} {xs : List α} {i : Nat} {d : α} (h : xs.reverse[i]? = some d) : i < xs.length ∧ xs[xs.length - 1 - i]? = some d := by
  have hi : i < xs.length := by
    by_cases hi : i < xs.length
    · exact hi
    · rw [List.getElem?_eq_none (by rw [List.length_reverse]; omega)] at h; cases h
  rw [List.getElem?_reverse hi] at h
  exact ⟨hi, h⟩
theorem wk_rev {a : Addr} {ds : List D} {n : Nat} (hn : n = ds.length) : WkD K (Itv K a n) ds.reverse [(a, ds)] Hs where
  go := fun i G H hi gr hs _ => by
    rw [List.length_reverse] at hi
    obtain ⟨vs, q, r⟩ := sqL_of gr (show sqAt G a = some ds from hs (a, ds) (by simp))
    have hl := r.length
    exact ⟨by omega, vs, vs[n - 1 - i], q, by simp [show n - 1 - i < vs.length by omega]⟩
  stop := fun G H gr hs _ => by rw [List.length_reverse, hn]; exact Nat.le_refl _
  yld := fun i d G H x H' hd gr hs _ y => by
    obtain ⟨hi, e⟩ := get_rev hd
    obtain ⟨vs, q, r⟩ := sqL_of gr (show sqAt G a = some ds from hs (a, ds) (by simp))
    obtain ⟨v, e1, rv⟩ := r.get e
    have e2 := y.2 vs q
    rw [hn, e1] at e2; cases e2
    exact .inl ⟨y.1, rv⟩
theorem wk_revT {a : Addr} {ds : List D} {vs : List V} {n : Nat} (q : SqT K Hs a vs) (r : Rps K Hs ds vs) (hn : n = ds.length) : WkD K (RT.ItvT K a n) ds.reverse [] Hs where
  go := fun i G H hi gr hs k => by
    rw [List.length_reverse] at hi
    have hl := r.length
    exact ⟨by omega, vs, vs[n - 1 - i], k.sqT q, by simp [show n - 1 - i < vs.length by omega]⟩
  stop := fun G H gr hs _ => by rw [List.length_reverse, hn]; exact Nat.le_refl _
  yld := fun i d G H x H' hd gr hs k y => by
    obtain ⟨hi, e⟩ := get_rev hd
    obtain ⟨v, e1, rv⟩ := r.get e
    have e2 := y.2 vs (k.sqT q)
    rw [hn, e1] at e2; cases e2
    exact .inl ⟨y.1, rv.keep k⟩
theorem wk_revV {a : Addr} {ds : List D} {vs : List V} {n : Nat} (q : SqV K Hs a vs) (r : Rps K Hs ds vs) (hn : n = ds.length) : WkD K (Itv K a n) ds.reverse [] Hs where
  go := fun i G H hi gr hs k => by
    rw [List.length_reverse] at hi
    have hl := r.length
    exact ⟨by omega, vs, vs[n - 1 - i], (k.sqV q).l, by simp [show n - 1 - i < vs.length by omega]⟩
  stop := fun G H gr hs _ => by rw [List.length_reverse, hn]; exact Nat.le_refl _
  yld := fun i d G H x H' hd gr hs k y => by
    obtain ⟨hi, e⟩ := get_rev hd
    obtain ⟨v, e1, rv⟩ := r.get e
    have e2 := y.2 vs (k.sqV q).l
    rw [hn, e1] at e2; cases e2
    exact .inl ⟨y.1, rv.keep k⟩
theorem wk_str {z : Str} : WkD K (Its z) (chars z) [] Hs where
  go := fun i G H hi _ _ _ => by
    unfold chars at hi
    rw [List.length_map, Array.length_toList] at hi
    exact hi
  stop := fun G H _ _ _ => by
    unfold chars
    rw [List.length_map, Array.length_toList]
    exact Nat.le_refl _
  yld := fun i d G H x H' hd _ _ _ y => by
    obtain ⟨e, c, hc, ex⟩ := y
    unfold chars at hd
    rw [List.getElem?_map, Array.getElem?_toList, hc] at hd
    cases hd
    exact .inl ⟨e, ex⟩
end
end DL

set_option Elab.async false
set_option linter.all false
set_option maxRecDepth 100000
set_option maxHeartbeats 4000000
/-! DL7: what the layer's rules say of the small language's expressions, one lemma for each form. -/
namespace DL
open PySem PySem.Spec PyProof.Rows L2
theorem PEi {X : Cx} {e : Expr} {t t' : TE} (h : PE X e t) (f : ∀ σ H Q, t' σ H Q → t σ H Q) : PE X e t' := ⟨fun pins s σ H Q I k => h.run pins s σ H Q I (f _ _ _ k)⟩
theorem PTi {X : Cx} {e : Expr} {t t' : TT} (h : PT X e t) (f : ∀ σ H Q, t' σ H Q → t σ H Q) : PT X e t' := ⟨fun pins s σ H Q I k => h.run pins s σ H Q I (f _ _ _ k)⟩
theorem PAi {X : Cx} {e : List Expr} {t t' : TA} (h : PA X e t) (f : ∀ σ H Q, t' σ H Q → t σ H Q) : PA X e t' := ⟨fun pos pins s σ H Q I k => h.run pos pins s σ H Q I (f _ _ _ k)⟩
theorem PGi {X : Cx} {e : Expr} {t t' : TG} (h : PG X e t) (f : ∀ v σ H Q, t' v σ H Q → t v σ H Q) : PG X e t' := ⟨fun pins s σ H v u Q I r k => h.run pins s σ H v u Q I r (f _ _ _ _ k)⟩
theorem PII {X : Cx} {g e : Expr} {t t' : TI} (h : PI X g e t) (f : ∀ σ H Q, t' σ H Q → t σ H Q) : PI X g e t' := ⟨fun pins s σ H Q I k => h.run pins s σ H Q I (f _ _ _ k)⟩
/-- by cases of what holds -/
theorem PEc {X : Cx} {e : Expr} {t : TE} {α : Type} {p : α → Prop} {t' : TE} (hx : ∀ σ H Q, t' σ H Q → ∃ a, p a ∧ t σ H Q) (h : ∀ a, p a → PE X e t) : PE X e t' := ⟨fun pins s σ H Q I k => by
  obtain ⟨a, pa, z⟩ := hx _ _ _ k
  exact (h a pa).run pins s σ H Q I z⟩
section
variable {K : PySem.W.Frag} {R R' : Addr → Prop} {H0 H0' H H' H1 H2 : Hp} {σ σ' : Sg} {G G' : DH} {σv σv' : L2.St}
theorem Keep.mono (k : Keep R' H H') (h : ∀ a, R a → R' a) : Keep R H H' := ⟨k.tup, k.frz, fun a r => k.res a (h a r)⟩
/-- behind a piece that has its own slots -/
theorem SR.after (s : SR K R H0 σ G σv H) (g : GR K R' G' H') (k : Keep R' H H') (hR : ∀ a, R a → R' a) : SR K R H0 σ G' σv H' := by
  refine ⟨s.len, fun i d e => ?_, g.1, fun a r => ⟨?_, g.2 a (hR a r)⟩, s.kp.trans (k.mono hR)⟩
  · obtain ⟨v, e1, q⟩ := s.sl i d e
    exact ⟨v, e1, q.keep k⟩
  · rw [k.res a (hR a r)]; exact (s.rs a r).1
theorem SR.gR (s : SR K R H0 σ G σv H) : GR K R G H := ⟨s.gr, fun a r => (s.rs a r).2⟩
/-- more is reserved -/
theorem SR.resv (s : SR K R H0 σ G σv H) (h : ∀ a, R' a → H a ≠ none ∧ G a = none) : SR K R' H σ G σv H := ⟨s.len, s.sl, s.gr, h, .refl⟩
/-- an object that is not told is written -/
theorem SR.hidw (s : SR K R H0 σ G σv H) {p : Addr} {o o' : HO} (hp : H p = some o') (hg : G p = none) (hr : ¬ R p) (hm : ∀ xs, o' ≠ .tup xs) (hf : ∀ b u, o' ≠ .frz b u) : SR K R H0 σ G σv (upd H p o) ∧ Keep R H (upd H p o) := by
  have k : Keep R H (upd H p o) := ⟨fun a xs e => by rw [upd_ne fun z => by rw [z, hp] at e; exact hm xs (Option.some.inj e)]; exact e,
    fun a b u e => by rw [upd_ne fun z => by rw [z, hp] at e; exact hf b u (Option.some.inj e)]; exact e, fun a r => upd_ne fun (z : a = p) => hr (by rw [← z]; exact r)⟩
  refine ⟨⟨s.len, fun i d e => ?_, fun a u e => ?_, fun a r => ⟨?_, (s.rs a r).2⟩, s.kp.trans k⟩, k⟩
  · obtain ⟨v, e1, q⟩ := s.sl i d e
    exact ⟨v, e1, q.keep k⟩
  · have z := s.gr a u e
    have hne : a ≠ p := fun q => by rw [q, hg] at e; cases e
    cases u with
    | lst ds => obtain ⟨vs, e1, q⟩ := z; exact ⟨vs, by rw [upd_ne hne]; exact e1, q.keep k⟩
    | dct kvs => obtain ⟨ws, e1, q⟩ := z; exact ⟨ws, by rw [upd_ne hne]; exact e1, q.keep k⟩
  · rw [k.res a r]; exact (s.rs a r).1
/-- an object that was not told is told -/
theorem SR.shown (s : SR K R H0 σ G σv H) {p : Addr} {u : DO} (hu : RO K H p u) (hr : ¬ R p) : SR K R H0 σ (put G p u) σv H := by
  refine ⟨s.len, s.sl, fun a w e => ?_, fun a r => ⟨(s.rs a r).1, ?_⟩, s.kp⟩
  · by_cases h : a = p
    · subst h
      rw [put_same] at e; cases e
      exact hu
    · rw [put_ne h] at e
      exact s.gr a w e
  · rw [put_ne fun (z : a = p) => hr (by rw [← z]; exact r)]
    exact (s.rs a r).2
theorem SR.wiped (s : SR K R H0 σ G σv H) : ∀ own : List (Str × Nat), SR K R H0 (wipeD σ own) G (wipe σv (own.map (·.2))) H
  | [] => s
  | (_, i) :: r => (SR.wiped s r).unslot i none
/-- the caller's own things behind a call -/
theorem SR.rsOf (s : SR K R H0 σ G σv H) : ∀ a, R a → Rs H G a := fun a r => s.rs a r
end
section
variable {Γ : GE} {k : Nat} {c : CT} {R : Addr → Prop} {H0 : Hp} {W : WD} {X : Cx}
theorem SX.gl (S : SX Γ k c R H0 W X) {x : Str} (h : glB c.sc x = true) : Gl X x := by
  unfold glB at h
  show X.env.scope.names.lookup x = _
  rw [S.sc]
  cases e : c.sc.names.lookup x with
  | none => rw [e] at h; cases h
  | some k =>
    rw [e] at h
    cases k <;> first | rfl | cases h
theorem SX.vis (S : SX Γ k c R H0 W X) {x : Str} (h : visB c.sc x = true) : Vis X.env.scope x := by
  unfold visB at h
  unfold Vis
  rw [S.sc]
  cases e : c.sc.names.lookup x with
  | none => rw [e] at h; cases h
  | some k =>
    rw [e] at h
    cases k <;> first | exact .inl rfl | exact .inr (.inl rfl) | exact .inr (.inr rfl) | cases h
theorem SX.loc (S : SX Γ k c R H0 W X) {x : Str} (h : locB c x = true) : L2.Loc X.env.scope x ∧ (X.fn x = true ∨ X.env.scope.names.lookup x = some .local) := by
  unfold locB at h
  unfold L2.Loc
  rw [S.sc]
  cases e : c.sc.names.lookup x with
  | none => rw [e] at h; cases h
  | some k =>
    rw [e] at h
    cases k with
    | «local» => exact ⟨.inl rfl, .inr rfl⟩
    | cell =>
      refine ⟨.inr rfl, .inl (S.fn x ?_)⟩
      cases e2 : c.raw.names.lookup x with
      | none => rw [e2] at h; cases h
      | some k2 =>
        rw [e2] at h
        cases k2 <;> first | rfl | cases h
    | _ => cases h
theorem SX.at (S : SX Γ k c R H0 W X) {x : Str} {i : Nat} (h : atN c i x = true) : X.N[i]? = some x := by
  unfold atN at h
  rw [S.N]
  cases e : c.N[i]? with
  | none => rw [e] at h; cases h
  | some y => rw [e] at h; rw [of_decide_eq_true h]
theorem ok_d {x : Str} (h : okName x = true) : (x == ("__debug__" : Str)) = false ∧ (x == ("__classdict__" : Str)) = false ∧ x ≠ "__name__" := by
  unfold okName at h
  simp only [Bool.and_eq_true, Bool.not_eq_true'] at h
  exact ⟨h.1.1, h.1.2, fun z => by rw [z] at h; exact absurd h.2 (by decide)⟩
theorem SX.var (S : SX Γ k c R H0 W X) {x : Str} {i : Nat} {pos : Pos} (h1 : atN c i x = true) (h2 : visB c.sc x = true) (h3 : okName x = true) : PE X (.Name x pos) (lE X.K R H0 W fun _ σ G Q => ∃ d, gt σ i = some d ∧ Q d G) :=
  PEi (pe_var (S.at h1) (S.vis h2) (ok_d h3).1 (ok_d h3).2.1) fun σv H Qv ⟨σ, G, Q, sr, ⟨d, e, q⟩, out⟩ => by
    obtain ⟨v, e1, r⟩ := sr.sl i d (gt_some.mp e)
    exact ⟨v, e1, out.now q r sr⟩
theorem SX.suB (S : SX Γ k c R H0 W X) (h : (!c.su) = true) : c.su = false := by simpa using h
end
section
variable {X : Cx} {R : Addr → Prop} {H0 : Hp} {W : WD} {σv : L2.St} {H : Hp} {Qv : VK}
/-- two expressions in a row, then an operation -/
theorem lE2 {ta tb : DE} {k : D → D → DH → QD → Prop} (h : lE X.K R H0 W (fun W σ G Q => ta W σ G fun x G1 => tb W σ G1 fun y G2 => k x y G2 Q) σv H Qv) : tOp (RB X.K k) (lE X.K R H0 W ta) (lE X.K R H0 W tb) σv H Qv := by
  obtain ⟨σ, G, Q, sr, t, out⟩ := h
  exact ⟨σ, G, _, sr, t, fun x G1 v H1 q r s1 k1 => ⟨σ, G1, _, s1, q, fun y G2 w H2 q2 r2 s2 k2 => ⟨R, H0, σ, σv, x, y, G2, Q, r.keep k2, r2, s2, q2, out.back (k1.trans k2)⟩⟩⟩
theorem lE1 {ta : DE} {k : D → DH → QD → Prop} (h : lE X.K R H0 W (fun W σ G Q => ta W σ G fun x G1 => k x G1 Q) σv H Qv) : tUn (RU X.K k) (lE X.K R H0 W ta) σv H Qv := by
  obtain ⟨σ, G, Q, sr, t, out⟩ := h
  exact ⟨σ, G, _, sr, t, fun x G1 v H1 q r s1 k1 => ⟨R, H0, σ, σv, x, G1, Q, r, s1, q, out.back k1⟩⟩
theorem lA1 {ta : DA} {k : List D → DH → QD → Prop} (h : lE X.K R H0 W (fun W σ G Q => ta W σ G fun x G1 => k x G1 Q) σv H Qv) : tCB (RC X.K k) (lA X.K R H0 W ta) σv H Qv := by
  obtain ⟨σ, G, Q, sr, t, out⟩ := h
  exact ⟨σ, G, _, sr, t, fun xs G1 vs H1 q r s1 k1 => ⟨R, H0, σ, σv, xs, G1, Q, r, s1, q, out.back k1⟩⟩
end
/-! ### what is to be shown -/
section
variable (Γ : GE) (k : Nat)
def OkE (m : ME) : Prop := ∀ {c : CT} {R : Addr → Prop} {H0 : Hp} {W : WD} {X : Cx}, SX Γ k c R H0 W X → ∀ {e : Expr}, chE c m e = true → PE X e (lE X.K R H0 W (wpE Γ m))
def OkT (m : ME) : Prop := ∀ {c : CT} {R : Addr → Prop} {H0 : Hp} {W : WD} {X : Cx}, SX Γ k c R H0 W X → ∀ {e : Expr}, chE c m e = true → PT X e (lT X.K R H0 W (wpT Γ m))
def OkA (ms : MEs) : Prop := ∀ {c : CT} {R : Addr → Prop} {H0 : Hp} {W : WD} {X : Cx}, SX Γ k c R H0 W X → ∀ {es : List Expr}, chEs c ms es = true → PA X es (lA X.K R H0 W (wpEs Γ ms))
def OkK (ms : MEs) : Prop := ∀ {c : CT} {R : Addr → Prop} {H0 : Hp} {W : WD} {X : Cx}, SX Γ k c R H0 W X → ∀ {ks : List Str} {kws : List Keyword}, chK c ks ms kws = true → PK X kws (lA X.K R H0 W (wpEs Γ ms))
def OkO (m : MO) : Prop := ∀ {c : CT} {R : Addr → Prop} {H0 : Hp} {W : WD} {X : Cx}, SX Γ k c R H0 W X → ∀ {e : Option Expr}, chO c m e = true → PO X e (lO X.K R H0 W (wpO Γ m))
def OkC (m : MO) : Prop := ∀ {c : CT} {R : Addr → Prop} {H0 : Hp} {W : WD} {X : Cx}, SX Γ k c R H0 W X → ∀ {es : List Expr}, chC c m es = true → PTs X es (lT X.K R H0 W (wpC Γ m))
def OkG (m : MG) : Prop := ∀ {c : CT} {R : Addr → Prop} {H0 : Hp} {W : WD} {X : Cx}, SX Γ k c R H0 W X → ∀ {o : Option (List (Str × Nat))}, (∀ own, o = some own → ownB own m = true) → ∀ {e : Expr}, chG c m e = true → PG X e (lG X.K R H0 W o (wpG Γ m))
def OkGs (m : MGs) : Prop := ∀ {c : CT} {R : Addr → Prop} {H0 : Hp} {W : WD} {X : Cx}, SX Γ k c R H0 W X → ∀ {o : Option (List (Str × Nat))}, (∀ own, o = some own → ownBs own m = true) → ∀ {es : List Expr}, es.all noStar = true → chGs c m es = true → PGs X es (lGs X.K R H0 W o (wpGs Γ m))
def OkI (m : MI) : Prop := ∀ {c : CT} {R : Addr → Prop} {H0 : Hp} {W : WD} {X : Cx}, SX Γ k c R H0 W X → ∀ {tg e : Expr}, chI c m e tg = true → PI X tg e (lI X.K R H0 W (wpI Γ m))
end
end DL

set_option Elab.async false
set_option linter.all false
set_option maxRecDepth 100000
set_option maxHeartbeats 4000000
/-! DL8: the forms of expressions, one by one. -/
namespace DL
open PySem PySem.Spec PyProof.Rows L2
section
variable {Γ : GE} {k : Nat}
theorem and3 {a b : Bool} (h : (a && b) = true) : a = true ∧ b = true := by simpa using h
/-! ### plain -/
theorem e_var (i : Nat) : OkE Γ k (.var i) := by
  intro c R H0 W X S e h
  cases e <;> first | exact absurd h Bool.false_ne_true | skip
  rename_i x pos
  obtain ⟨h, h3⟩ := and3 h
  obtain ⟨h1, h2⟩ := and3 h
  exact S.var h1 h2 h3
theorem e_non : OkE Γ k .non := by
  intro c R H0 W X S e h
  cases e <;> first | exact absurd h Bool.false_ne_true | skip
  rename_i a j pos
  cases a <;> first | exact absurd h Bool.false_ne_true | skip
  exact PEi pe_non fun σv H Qv ⟨σ, G, Q, sr, q, out⟩ => out.now q rfl sr
theorem e_bl (b : Bool) : OkE Γ k (.bl b) := by
  intro c R H0 W X S e h
  cases e <;> first | exact absurd h Bool.false_ne_true | skip
  rename_i a j pos
  cases a <;> first | exact absurd h Bool.false_ne_true | skip
  rename_i b'
  have e1 : b = b' := by simpa [chE] using h
  subst e1
  exact PEi pe_bl fun σv H Qv ⟨σ, G, Q, sr, q, out⟩ => out.now q rfl sr
theorem e_int (b : Int) : OkE Γ k (.int b) := by
  intro c R H0 W X S e h
  cases e <;> first | exact absurd h Bool.false_ne_true | skip
  rename_i a j pos
  cases a <;> first | exact absurd h Bool.false_ne_true | skip
  rename_i b'
  have e1 : b = b' := of_decide_eq_true h
  subst e1
  exact PEi pe_int fun σv H Qv ⟨σ, G, Q, sr, q, out⟩ => out.now q rfl sr
theorem e_str (b : Str) : OkE Γ k (.str b) := by
  intro c R H0 W X S e h
  cases e <;> first | exact absurd h Bool.false_ne_true | skip
  rename_i a j pos
  cases a <;> first | exact absurd h Bool.false_ne_true | skip
  rename_i b'
  have e1 : b = b' := of_decide_eq_true h
  subst e1
  exact PEi pe_str fun σv H Qv ⟨σ, G, Q, sr, q, out⟩ => out.now q rfl sr
theorem e_glob (x : Str) : OkE Γ k (.glob x) := by
  intro c R H0 W X S e h
  cases e <;> first | exact absurd h Bool.false_ne_true | skip
  rename_i y pos
  obtain ⟨h, h3⟩ := and3 h
  obtain ⟨h1, h2⟩ := and3 h
  have e1 := of_decide_eq_true h1
  subst e1
  refine ⟨fun pins s σv H Qv I ⟨σ, G, Q, sr, ⟨d, hd, q⟩, out⟩ => ?_⟩
  obtain ⟨u, v, hm, r, rd⟩ := S.ok.con x d hd
  exact (pe_glob (S.gl h2) hm r (ok_d h3).1).run pins s σv H Qv I (out.now q (rd H) sr)
/-! ### operators -/
theorem e_bin (op : Operator) {a b : ME} (ha : OkE Γ k a) (hb : OkE Γ k b) : OkE Γ k (.bin op a b) := by
  intro c R H0 W X S e h
  cases e <;> first | exact absurd h Bool.false_ne_true | skip
  rename_i x op' y pos
  obtain ⟨h1, h2⟩ := and3 h
  obtain ⟨h2, h3⟩ := and3 h2
  have e1 := of_decide_eq_true h1
  subst e1
  exact PEi (pe_op (op_binD op) (ha S h2) (hb S h3)) fun _ _ _ z => lE2 z
theorem e_neg {a : ME} (ha : OkE Γ k a) : OkE Γ k (.neg a) := by
  intro c R H0 W X S e h
  cases e <;> first | exact absurd h Bool.false_ne_true | skip
  rename_i op x pos
  cases op <;> first | exact absurd h Bool.false_ne_true | skip
  exact PEi (pe_un un_negD (ha S h)) fun _ _ _ z => lE1 z
theorem e_cmp (op : CmpOp) {a b : ME} (ha : OkE Γ k a) (hb : OkE Γ k b) : OkE Γ k (.cmp op a b) ∧ OkT Γ k (.cmp op a b) := by
  have key : ∀ {c : CT} {e : Expr}, chE c (.cmp op a b) e = true → ∃ x y pos, e = .Compare x [op] [y] pos ∧ noSet y = true ∧ chE c a x = true ∧ chE c b y = true := by
    intro c e h
    cases e <;> first | exact absurd h Bool.false_ne_true | skip
    rename_i x ops ys pos
    cases ops with
    | nil => exact absurd h Bool.false_ne_true
    | cons op' ops =>
      cases ops with
      | cons _ _ => exact absurd h Bool.false_ne_true
      | nil =>
        cases ys with
        | nil => exact absurd h Bool.false_ne_true
        | cons y ys =>
          cases ys with
          | cons _ _ => exact absurd h Bool.false_ne_true
          | nil =>
            obtain ⟨hh, h2⟩ := and3 h
            obtain ⟨h0, h1⟩ := and3 hh
            obtain ⟨h2, h3⟩ := and3 h2
            have e1 := of_decide_eq_true h0
            subst e1
            exact ⟨x, y, pos, rfl, h1, h2, h3⟩
  constructor
  · intro c R H0 W X S e h
    obtain ⟨x, y, pos, rfl, h1, h2, h3⟩ := key h
    exact PEi (pe_cmpR (op_cmpD S.un op) (ha S h2) (hb S h3) (mark_plain h1)) fun _ _ _ z => lE2 z
  · intro c R H0 W X S e h
    obtain ⟨x, y, pos, rfl, h1, h2, h3⟩ := key h
    refine PTi (pt_cmpR (op_cmpD S.un op) (ha S h2) (hb S h3) (mark_plain h1)) fun σv H Qv z => ?_
    obtain ⟨σ, G, Q, sr, t, out⟩ := z
    refine ⟨σ, G, _, sr, t, fun x G1 v H1 q r s1 k1 => ⟨σ, G1, _, s1, q, fun y G2 w H2 q2 r2 s2 k2 => ⟨R, H0, σ, σv, x, y, G2, _, r.keep k2, r2, s2, q2, fun d G3 u H3 q3 r3 s3 k3 => ?_⟩⟩⟩
    obtain ⟨b, e1, q3⟩ := q3
    subst e1
    exact ⟨b, r3, out b G3 H3 q3 s3 ((k1.trans k2).trans k3)⟩
theorem e_chain (op op' : CmpOp) {a b d : ME} (ha : OkE Γ k a) (hb : OkE Γ k b) (hd : OkE Γ k d) : OkE Γ k (.chain op op' a b d) ∧ OkT Γ k (.chain op op' a b d) := by
  have key : ∀ {c : CT} {e : Expr}, chE c (.chain op op' a b d) e = true → ∃ x y z pos, e = .Compare x [op, op'] [y, z] pos ∧ noSet z = true ∧ chE c a x = true ∧ chE c b y = true ∧ chE c d z = true := by
    intro c e h
    cases e <;> first | exact absurd h Bool.false_ne_true | skip
    rename_i x ops ys pos
    rcases ops with _ | ⟨o1, _ | ⟨o2, _ | ⟨o3, ops⟩⟩⟩ <;> first | exact absurd h Bool.false_ne_true | skip
    rcases ys with _ | ⟨y, _ | ⟨z, _ | ⟨z3, ys⟩⟩⟩ <;> first | exact absurd h Bool.false_ne_true | skip
    obtain ⟨hh, h2⟩ := and3 h
    obtain ⟨h0, h1⟩ := and3 hh
    obtain ⟨h00, h01⟩ := and3 h0
    obtain ⟨h2, h3⟩ := and3 h2
    obtain ⟨h2, h4⟩ := and3 h2
    have e1 := of_decide_eq_true h00
    have e2 := of_decide_eq_true h01
    subst e1 e2
    exact ⟨x, y, z, pos, rfl, h1, h2, h4, h3⟩
  constructor
  · intro c R H0 W X S e h
    obtain ⟨x, y, z, pos, rfl, h1, h2, h3, h4⟩ := key h
    refine PEi (pe_chain (op_cmpD S.un op) (op_cmpD S.un op') (ha S h2) (hb S h3) (hd S h4) (marks_plain h1)) fun σv H Qv z => ?_
    obtain ⟨σ, G, Q, sr, t, out⟩ := z
    refine ⟨σ, G, _, sr, t, fun x G1 v H1 q r s1 k1 => ⟨σ, G1, _, s1, q, fun y G2 w H2 q2 r2 s2 k2 => ⟨R, H0, σ, σv, x, y, G2, _, r.keep k2, r2, s2, q2, fun d3 G3 u H3 q3 r3 s3 k3 => ?_⟩⟩⟩
    obtain ⟨b, e1, q3⟩ := q3
    subst e1
    refine ⟨b, r3, ?_⟩
    cases b with
    | true => exact ⟨σ, G3, _, s3, q3, fun z G4 w4 H4 q4 r4 s4 k4 => ⟨R, H0, σ, σv, y, z, G4, Q, (r2.keep k3).keep k4, r4, s4, q4, out.back (((k1.trans k2).trans k3).trans k4)⟩⟩
    | false => exact (out.back ((k1.trans k2).trans k3)).now q3 rfl s3
  · intro c R H0 W X S e h
    obtain ⟨x, y, z, pos, rfl, h1, h2, h3, h4⟩ := key h
    refine PTi (pt_chain (op_cmpD S.un op) (op_cmpD S.un op') (ha S h2) (hb S h3) (hd S h4) (marks_plain h1)) fun σv H Qv z => ?_
    obtain ⟨σ, G, Q, sr, t, out⟩ := z
    refine ⟨σ, G, _, sr, t, fun x G1 v H1 q r s1 k1 => ⟨σ, G1, _, s1, q, fun y G2 w H2 q2 r2 s2 k2 => ⟨R, H0, σ, σv, x, y, G2, _, r.keep k2, r2, s2, q2, fun d3 G3 u H3 q3 r3 s3 k3 => ?_⟩⟩⟩
    obtain ⟨b, e1, q3⟩ := q3
    subst e1
    refine ⟨b, r3, ?_⟩
    cases b with
    | true =>
      refine ⟨σ, G3, _, s3, q3, fun z G4 w4 H4 q4 r4 s4 k4 => ⟨R, H0, σ, σv, y, z, G4, _, (r2.keep k3).keep k4, r4, s4, q4, fun d5 G5 u5 H5 q5 r5 s5 k5 => ?_⟩⟩
      obtain ⟨b', e5, q5⟩ := q5
      subst e5
      exact ⟨b', r5, out b' G5 H5 q5 s5 ((((k1.trans k2).trans k3).trans k4).trans k5)⟩
    | false => exact ⟨false, rfl, out false G3 H3 q3 s3 ((k1.trans k2).trans k3)⟩
theorem e_not {a : ME} (ha : OkT Γ k a) : OkT Γ k (.not a) := by
  intro c R H0 W X S e h
  cases e <;> first | exact absurd h Bool.false_ne_true | skip
  rename_i op x pos
  cases op <;> first | exact absurd h Bool.false_ne_true | skip
  exact PTi (pt_not (ha S h)) fun σv H Qv ⟨σ, G, Q, sr, t, out⟩ => ⟨σ, G, _, sr, t, fun b G1 H1 q s1 k1 => out _ G1 H1 q s1 k1⟩
theorem e_ifT {t a b : ME} (ht : OkT Γ k t) (ha : OkT Γ k a) (hb : OkT Γ k b) : OkT Γ k (.ifx t a b) := by
  intro c R H0 W X S e h
  cases e <;> first | exact absurd h Bool.false_ne_true | skip
  rename_i u x y pos
  obtain ⟨h1, h3⟩ := and3 h
  obtain ⟨h1, h2⟩ := and3 h1
  refine ⟨fun pins s σv H Qv I ⟨σ, G, Q, sr, t', out⟩ => isTrue_IfExp (thn ((ht S h1).run pins s σv H _ I ⟨σ, G, _, sr, t', fun b G1 H1 q s1 k1 => (⟨G1, q, s1, k1⟩ : ∃ G1, (if b = true then wpT Γ a W σ G1 Q else wpT Γ _ W σ G1 Q) ∧ SR X.K R H0 σ G1 σv H1 ∧ Keep R H H1)⟩) fun d s1 ⟨H1, I1, G1, q, sr1, k1⟩ => ?_)⟩
  cases d with
  | true => exact (ha S h2).run pins s1 σv H1 Qv I1 ⟨σ, G1, Q, sr1, q, fun b G2 H2 q2 s2 k2 => out b G2 H2 q2 s2 (k1.trans k2)⟩
  | false => exact (hb S h3).run pins s1 σv H1 Qv I1 ⟨σ, G1, Q, sr1, q, fun b G2 H2 q2 s2 k2 => out b G2 H2 q2 s2 (k1.trans k2)⟩
theorem e_ifE {t a b : ME} (ht : OkT Γ k t) (ha : OkE Γ k a) (hb : OkE Γ k b) : OkE Γ k (.ifx t a b) := by
  intro c R H0 W X S e h
  cases e <;> first | exact absurd h Bool.false_ne_true | skip
  rename_i u x y pos
  obtain ⟨h1, h3⟩ := and3 h
  obtain ⟨h1, h2⟩ := and3 h1
  refine PEi (pe_ifExp (ht S h1) (ha S h2) (hb S h3)) fun σv H Qv ⟨σ, G, Q, sr, t', out⟩ => ⟨σ, G, _, sr, t', fun b G1 H1 q s1 k1 => ?_⟩
  cases b with
  | true => exact ⟨σ, G1, Q, s1, q, out.back k1⟩
  | false => exact ⟨σ, G1, Q, s1, q, out.back k1⟩
theorem e_bl_T (b : Bool) : OkT Γ k (.bl b) := by
  intro c R H0 W X S e h
  cases e <;> first | exact absurd h Bool.false_ne_true | skip
  rename_i a j pos
  cases a <;> first | exact absurd h Bool.false_ne_true | skip
  rename_i b'
  have e1 : b = b' := by simpa [chE] using h
  subst e1
  exact PTi (pt_val pe_bl) fun σv H Qv ⟨σ, G, Q, sr, q, out⟩ => ⟨b, rfl, out b G H q sr .refl⟩
/-- a test by the value's truth -/
theorem lTr {X : Cx} {R : Addr → Prop} {H0 : Hp} {W : WD} {e : Expr} {te : DE} {tt : DT} (he : PE X e (lE X.K R H0 W te)) (hp : plainT e = true) (h : ∀ σ G Q, tt W σ G Q → te W σ G fun x G1 => truD x G1 Q) : PT X e (lT X.K R H0 W tt) :=
  PTi (pt_truth he (true_plain hp)) fun σv H Qv ⟨σ, G, Q, sr, t, out⟩ => ⟨σ, G, _, sr, h _ _ _ t, fun d G1 v H1 q r s1 k1 => by
    obtain ⟨b, tv, q1⟩ := tru_D s1 r q
    exact ⟨b, tv, out b G1 H1 q1 s1 k1⟩⟩
theorem t_var (i : Nat) : OkT Γ k (.var i) := by
  intro c R H0 W X S e h
  have := e_var i S h
  cases e <;> first | exact absurd h Bool.false_ne_true | skip
  exact lTr this rfl fun _ _ _ z => z
/-! ### and, or -/
theorem a_nilE : OkA Γ k .nil := by
  intro c R H0 W X S es h
  cases es with
  | cons _ _ => exact absurd h Bool.false_ne_true
  | nil => exact PAi pa_nil fun σv H Qv ⟨σ, G, Q, sr, q, out⟩ => out [] G [] H q rfl sr .refl
theorem ch_cons {c : CT} {m : ME} {ms : MEs} {es : List Expr} (h : chEs c (.cons m ms) es = true) : ∃ e r, es = e :: r ∧ noStar e = true ∧ chE c m e = true ∧ chEs c ms r = true := by
  cases es with
  | nil => exact absurd h Bool.false_ne_true
  | cons e r =>
    obtain ⟨h1, h3⟩ := and3 h
    obtain ⟨h1, h2⟩ := and3 h1
    exact ⟨e, r, rfl, h1, h2, h3⟩
theorem ch_star {c : CT} : ∀ {ms : MEs} {es : List Expr}, chEs c ms es = true → es.all noStar = true
  | .nil, [], _ => rfl
  | .nil, _ :: _, h => absurd h Bool.false_ne_true
  | .cons m ms, es, h => by
    obtain ⟨e, r, rfl, h1, h2, h3⟩ := ch_cons h
    rw [List.all_cons, h1, ch_star h3]; rfl
theorem a_cons {m : ME} {ms : MEs} (hm : OkE Γ k m) (hms : OkA Γ k ms) : OkA Γ k (.cons m ms) := by
  intro c R H0 W X S es h
  obtain ⟨e, r, rfl, h1, h2, h3⟩ := ch_cons h
  refine PAi (pa_cons (hm S h2) (hms S h3) (star1 h1)) fun σv H Qv ⟨σ, G, Q, sr, t, out⟩ => ?_
  exact ⟨σ, G, _, sr, t, fun x G1 v H1 q r s1 k1 => ⟨σ, G1, _, s1, q, fun ds G2 vs H2 q2 r2 s2 k2 => out (x :: ds) G2 (v :: vs) H2 q2 ⟨v, vs, rfl, r.keep k2, r2⟩ s2 (k1.trans k2)⟩⟩
theorem k_nil : OkK Γ k .nil := by
  intro c R H0 W X S ks kws h
  cases ks with
  | cons _ _ => exact absurd h (by simp [chK])
  | nil =>
    cases kws with
    | cons _ _ => exact absurd h (by simp [chK])
    | nil => exact ⟨fun pos pins s σv H Qv I ⟨σ, G, Q, sr, q, out⟩ => pk_nil.run pos pins s σv H Qv I (out [] G [] H q rfl sr .refl)⟩
theorem ck_cons {c : CT} {m : ME} {ms : MEs} {ks : List Str} {kws : List Keyword} (h : chK c ks (.cons m ms) kws = true) : ∃ x e p kr r, ks = x :: kr ∧ kws = ⟨some x, e, p⟩ :: r ∧ chE c m e = true ∧ chK c kr ms r = true := by
  cases ks with
  | nil => exact absurd h (by simp [chK])
  | cons x kr =>
    cases kws with
    | nil => exact absurd h (by simp [chK])
    | cons kw r =>
      obtain ⟨o, e, p⟩ := kw
      cases o with
      | none => exact absurd h (by simp [chK])
      | some y =>
        obtain ⟨h1, h3⟩ := and3 h
        obtain ⟨h1, h2⟩ := and3 h1
        have e1 := of_decide_eq_true h1
        subst e1
        exact ⟨x, e, p, kr, r, rfl, rfl, h2, h3⟩
theorem k_cons {m : ME} {ms : MEs} (hm : OkE Γ k m) (hms : OkK Γ k ms) : OkK Γ k (.cons m ms) := by
  intro c R H0 W X S ks kws h
  obtain ⟨x, e, p, kr, r, rfl, rfl, h2, h3⟩ := ck_cons h
  refine ⟨fun pos pins s σv H Qv I ⟨σ, G, Q, sr, t, out⟩ => (pk_cons (hm S h2) (hms S h3)).run pos pins s σv H Qv I ?_⟩
  exact ⟨σ, G, _, sr, t, fun x G1 v H1 q r s1 k1 => ⟨σ, G1, _, s1, q, fun ds G2 vs H2 q2 r2 s2 k2 => out (x :: ds) G2 (v :: vs) H2 q2 ⟨v, vs, rfl, r.keep k2, r2⟩ s2 (k1.trans k2)⟩⟩
/-- an and, an or, by values: the chain -/
def OkB (op : BoolOp) (wp : MEs → DE) (ms : MEs) : Prop := ∀ {c : CT} {R : Addr → Prop} {H0 : Hp} {W : WD} {X : Cx}, SX Γ k c R H0 W X → ∀ {es : List Expr} {pos : Pos}, chEs c ms es = true → PE X (.BoolOp op es pos) (lE X.K R H0 W (wp ms))
def OkBT (op : BoolOp) (wp : MEs → DT) (ms : MEs) : Prop := ∀ {c : CT} {R : Addr → Prop} {H0 : Hp} {W : WD} {X : Cx}, SX Γ k c R H0 W X → ∀ {es : List Expr} {pos : Pos}, chEs c ms es = true → PW X (.BoolOp op es pos) (lT X.K R H0 W (wp ms))
theorem PE_never {X : Cx} {e : Expr} {t : TE} (h : ∀ σ H Q, ¬ t σ H Q) : PE X e t := ⟨fun _ _ _ _ _ _ z => absurd z (h _ _ _)⟩
theorem PW_never {X : Cx} {e : Expr} {t : TT} (h : ∀ σ H Q, ¬ t σ H Q) : PW X e t := ⟨fun _ _ _ _ _ _ _ z => absurd z (h _ _ _)⟩
theorem PT_never {X : Cx} {e : Expr} {t : TT} (h : ∀ σ H Q, ¬ t σ H Q) : PT X e t := ⟨fun _ _ _ _ _ _ z => absurd z (h _ _ _)⟩
theorem b_and_nil : OkB (Γ := Γ) (k := k) .And (wpAnd Γ) .nil := fun _ _ _ _ => PE_never fun _ _ _ ⟨_, _, _, _, z, _⟩ => z
theorem b_or_nil : OkB (Γ := Γ) (k := k) .Or (wpOr Γ) .nil := fun _ _ _ _ => PE_never fun _ _ _ ⟨_, _, _, _, z, _⟩ => z
theorem t_and_nil : OkBT (Γ := Γ) (k := k) .And (wpTAnd Γ) .nil := fun _ _ _ _ => PW_never fun _ _ _ ⟨_, _, _, _, z, _⟩ => z
theorem t_or_nil : OkBT (Γ := Γ) (k := k) .Or (wpTOr Γ) .nil := fun _ _ _ _ => PW_never fun _ _ _ ⟨_, _, _, _, z, _⟩ => z
theorem b_and_cons {m : ME} {ms : MEs} (hm : OkE Γ k m) (hms : OkB (Γ := Γ) (k := k) .And (wpAnd Γ) ms) : OkB (Γ := Γ) (k := k) .And (wpAnd Γ) (.cons m ms) := by
  intro c R H0 W X S es pos h
  obtain ⟨e, r, rfl, h1, h2, h3⟩ := ch_cons h
  cases ms with
  | nil =>
    cases r with
    | cons _ _ => exact absurd h3 Bool.false_ne_true
    | nil => exact pe_one (hm S h2)
  | cons m' ms' =>
    obtain ⟨e', r', rfl, _⟩ := ch_cons h3
    refine ⟨fun pins s σv H Qv I ⟨σ, G, Q, sr, t, out⟩ => BoolOp_and (thn ((hm S h2).run pins s σv H _ I (⟨σ, G, _, sr, t, fun x G1 v H1 q r s1 k1 => (⟨G1, x, q, r, s1, k1⟩ : ∃ G1 x, (truD x G1 fun b G2 => G2 = G1 ∧ if b = true then wpAnd Γ (.cons m' ms') W σ G1 Q else Q x G1) ∧ Rp X.K H1 x v ∧ SR X.K R H0 σ G1 σv H1 ∧ Keep R H H1)⟩)) fun u s1 ⟨v, H1, I1, r1, G1, x, q, rx, sr1, k1⟩ => ?_)⟩
    obtain ⟨b, tv, q1, q2⟩ := tru_D sr1 rx q
    refine thn (tru_ok pins s1 σv H1 v u (fun b' H' => b' = b ∧ H' = H1) I1 r1 ⟨b, tv, rfl, rfl⟩) fun b' s2 ⟨H2, I2, e1, e2⟩ => ?_
    subst e1 e2
    cases b' with
    | true => exact (hms S h3).run pins s2 σv H2 Qv I2 ⟨σ, G1, Q, sr1, q2, out.back k1⟩
    | false => exact ⟨v, H2, I2, r1, (out.back k1).now q2 rx sr1⟩
theorem b_or_cons {m : ME} {ms : MEs} (hm : OkE Γ k m) (hms : OkB (Γ := Γ) (k := k) .Or (wpOr Γ) ms) : OkB (Γ := Γ) (k := k) .Or (wpOr Γ) (.cons m ms) := by
  intro c R H0 W X S es pos h
  obtain ⟨e, r, rfl, h1, h2, h3⟩ := ch_cons h
  cases ms with
  | nil =>
    cases r with
    | cons _ _ => exact absurd h3 Bool.false_ne_true
    | nil => exact pe_one (hm S h2)
  | cons m' ms' =>
    obtain ⟨e', r', rfl, _⟩ := ch_cons h3
    refine ⟨fun pins s σv H Qv I ⟨σ, G, Q, sr, t, out⟩ => BoolOp_or (thn ((hm S h2).run pins s σv H _ I (⟨σ, G, _, sr, t, fun x G1 v H1 q r s1 k1 => (⟨G1, x, q, r, s1, k1⟩ : ∃ G1 x, (truD x G1 fun b G2 => G2 = G1 ∧ if b = true then Q x G1 else wpOr Γ (.cons m' ms') W σ G1 Q) ∧ Rp X.K H1 x v ∧ SR X.K R H0 σ G1 σv H1 ∧ Keep R H H1)⟩)) fun u s1 ⟨v, H1, I1, r1, G1, x, q, rx, sr1, k1⟩ => ?_)⟩
    obtain ⟨b, tv, q1, q2⟩ := tru_D sr1 rx q
    refine thn (tru_ok pins s1 σv H1 v u (fun b' H' => b' = b ∧ H' = H1) I1 r1 ⟨b, tv, rfl, rfl⟩) fun b' s2 ⟨H2, I2, e1, e2⟩ => ?_
    subst e1 e2
    cases b' with
    | false => exact (hms S h3).run pins s2 σv H2 Qv I2 ⟨σ, G1, Q, sr1, q2, out.back k1⟩
    | true => exact ⟨v, H2, I2, r1, (out.back k1).now q2 rx sr1⟩
theorem PWi {X : Cx} {e : Expr} {t t' : TT} (h : PW X e t) (f : ∀ σ H Q, t' σ H Q → t σ H Q) : PW X e t' := ⟨fun wh pins s σ H Q I k => h.run wh pins s σ H Q I (f _ _ _ k)⟩
theorem t_and_cons {m : ME} {ms : MEs} (hm : OkT Γ k m) (hms : OkBT (Γ := Γ) (k := k) .And (wpTAnd Γ) ms) : OkBT (Γ := Γ) (k := k) .And (wpTAnd Γ) (.cons m ms) := by
  intro c R H0 W X S es pos h
  obtain ⟨e, r, rfl, h1, h2, h3⟩ := ch_cons h
  cases ms with
  | nil =>
    cases r with
    | cons _ _ => exact absurd h3 Bool.false_ne_true
    | nil => exact pw_and1 (hm S h2)
  | cons m' ms' =>
    obtain ⟨e', r', rfl, _⟩ := ch_cons h3
    refine PWi (pw_and (hm S h2) (hms S h3)) fun σv H Qv ⟨σ, G, Q, sr, t, out⟩ => ⟨σ, G, _, sr, t, fun b G1 H1 q s1 k1 => ?_⟩
    cases b with
    | true => exact ⟨σ, G1, Q, s1, q, fun b' G2 H2 q2 s2 k2 => out b' G2 H2 q2 s2 (k1.trans k2)⟩
    | false => exact out false G1 H1 q s1 k1
theorem t_or_cons {m : ME} {ms : MEs} (hm : OkT Γ k m) (hms : OkBT (Γ := Γ) (k := k) .Or (wpTOr Γ) ms) : OkBT (Γ := Γ) (k := k) .Or (wpTOr Γ) (.cons m ms) := by
  intro c R H0 W X S es pos h
  obtain ⟨e, r, rfl, h1, h2, h3⟩ := ch_cons h
  cases ms with
  | nil =>
    cases r with
    | cons _ _ => exact absurd h3 Bool.false_ne_true
    | nil => exact pw_or1 (hm S h2)
  | cons m' ms' =>
    obtain ⟨e', r', rfl, _⟩ := ch_cons h3
    refine PWi (pw_or (hm S h2) (hms S h3)) fun σv H Qv ⟨σ, G, Q, sr, t, out⟩ => ⟨σ, G, _, sr, t, fun b G1 H1 q s1 k1 => ?_⟩
    cases b with
    | true => exact out true G1 H1 q s1 k1
    | false => exact ⟨σ, G1, Q, s1, q, fun b' G2 H2 q2 s2 k2 => out b' G2 H2 q2 s2 (k1.trans k2)⟩
theorem e_and {ms : MEs} (h : OkB (Γ := Γ) (k := k) .And (wpAnd Γ) ms) : OkE Γ k (.and ms) := by
  intro c R H0 W X S e hc
  cases e <;> first | exact absurd hc Bool.false_ne_true | skip
  rename_i op es pos
  cases op <;> first | exact absurd hc Bool.false_ne_true | skip
  exact h S hc
theorem e_or {ms : MEs} (h : OkB (Γ := Γ) (k := k) .Or (wpOr Γ) ms) : OkE Γ k (.or ms) := by
  intro c R H0 W X S e hc
  cases e <;> first | exact absurd hc Bool.false_ne_true | skip
  rename_i op es pos
  cases op <;> first | exact absurd hc Bool.false_ne_true | skip
  exact h S hc
theorem t_and {ms : MEs} (h : OkBT (Γ := Γ) (k := k) .And (wpTAnd Γ) ms) : OkT Γ k (.and ms) := by
  intro c R H0 W X S e hc
  cases e <;> first | exact absurd hc Bool.false_ne_true | skip
  rename_i op es pos
  cases op <;> first | exact absurd hc Bool.false_ne_true | skip
  exact (h S hc).pt
theorem t_or {ms : MEs} (h : OkBT (Γ := Γ) (k := k) .Or (wpTOr Γ) ms) : OkT Γ k (.or ms) := by
  intro c R H0 W X S e hc
  cases e <;> first | exact absurd hc Bool.false_ne_true | skip
  rename_i op es pos
  cases op <;> first | exact absurd hc Bool.false_ne_true | skip
  exact (h S hc).pt
theorem e_notE {a : ME} (ha : OkE Γ k a) : OkE Γ k (.not a) := by
  intro c R H0 W X S e h
  cases e <;> first | exact absurd h Bool.false_ne_true | skip
  rename_i op x pos
  cases op <;> first | exact absurd h Bool.false_ne_true | skip
  refine ⟨fun pins s σv H Qv I ⟨σ, G, Q, sr, t, out⟩ => UnaryOp_ (thn ((ha S h).run pins s σv H _ I (⟨σ, G, _, sr, t, fun x G1 v H1 q r s1 k1 => (⟨G1, x, q, r, s1, k1⟩ : ∃ G1 x, (truD x G1 fun b G2 => Q (.bl (!b)) G2) ∧ Rp X.K H1 x v ∧ SR X.K R H0 σ G1 σv H1 ∧ Keep R H H1)⟩)) fun u s1 ⟨v, H1, I1, r1, G1, x, q, rx, sr1, k1⟩ => ?_)⟩
  obtain ⟨b, tv, q1⟩ := tru_D sr1 rx q
  refine not_of (thn (tru_ok pins s1 σv H1 v u (fun b' H' => b' = b ∧ H' = H1) I1 r1 ⟨b, tv, rfl, rfl⟩) fun b' s2 ⟨H2, I2, e1, e2⟩ => ?_)
  subst e1 e2
  exact ⟨.bl (!b'), H2, I2, rfl, (out.back k1).now q1 rfl sr1⟩
end
end DL

set_option Elab.async false
set_option linter.all false
set_option maxRecDepth 100000
set_option maxHeartbeats 4000000
/-! DL9: displays, subscripts, calls, methods, f-strings, targets, what is walked. -/
namespace DL
open PySem PySem.Spec PyProof.Rows L2
def lAn (K : PySem.W.Frag) (R : Addr → Prop) (H0 : Hp) (W : WD) (t : DA) (n : Nat) : TA := fun σv H Qv => ∃ σ G Q, SR K R H0 σ G σv H ∧ t W σ G Q ∧ ∀ ds G' vs H', Q ds G' → ds.length = n → Rps K H' ds vs → SR K R H0 σ G' σv H' → Keep R H H' → Qv vs H'
section
variable {Γ : GE} {k : Nat}
theorem chEs_n {c : CT} : ∀ {ms : MEs} {es : List Expr}, chEs c ms es = true → es.length = ms.n
  | .nil, [], _ => rfl
  | .nil, _ :: _, h => absurd h Bool.false_ne_true
  | .cons m ms, es, h => by
    obtain ⟨e, r, rfl, h1, h2, h3⟩ := ch_cons h
    show r.length + 1 = ms.n + 1
    rw [chEs_n h3]
/-- the list, its length known -/
def OkAn (Γ : GE) (k : Nat) (ms : MEs) : Prop := ∀ {c : CT} {R : Addr → Prop} {H0 : Hp} {W : WD} {X : Cx}, SX Γ k c R H0 W X → ∀ {es : List Expr}, chEs c ms es = true → PA X es (lAn X.K R H0 W (wpEs Γ ms) ms.n)
theorem an_nil : OkAn Γ k .nil := by
  intro c R H0 W X S es h
  cases es with
  | cons _ _ => exact absurd h Bool.false_ne_true
  | nil => exact PAi pa_nil fun σv H Qv ⟨σ, G, Q, sr, q, out⟩ => out [] G [] H q rfl rfl sr .refl
theorem an_cons {m : ME} {ms : MEs} (hm : OkE Γ k m) (hms : OkAn Γ k ms) : OkAn Γ k (.cons m ms) := by
  intro c R H0 W X S es h
  obtain ⟨e, r, rfl, h1, h2, h3⟩ := ch_cons h
  refine PAi (pa_cons (hm S h2) (hms S h3) (star1 h1)) fun σv H Qv ⟨σ, G, Q, sr, t, out⟩ => ?_
  exact ⟨σ, G, _, sr, t, fun x G1 v H1 q r s1 k1 => ⟨σ, G1, _, s1, q, fun ds G2 vs H2 q2 hl r2 s2 k2 => out (x :: ds) G2 (v :: vs) H2 q2 (by show ds.length + 1 = ms.n + 1; rw [hl]) ⟨v, vs, rfl, r.keep k2, r2⟩ s2 (k1.trans k2)⟩⟩
theorem OkAn.pl {ms : MEs} (h : OkAn Γ k ms) : OkA Γ k ms := by
  intro c R H0 W X S es hc
  exact PAi (h S hc) fun σv H Qv ⟨σ, G, Q, sr, t, out⟩ => ⟨σ, G, Q, sr, t, fun ds G' vs H' q _ => out ds G' vs H' q⟩
theorem e_tup {ms : MEs} (h : OkAn Γ k ms) : OkE Γ k (.tup ms) := by
  intro c R H0 W X S e hc
  cases e <;> first | exact absurd hc Bool.false_ne_true | skip
  rename_i vs kk pos
  obtain ⟨h1, h2⟩ := and3 hc
  have hl : vs.length ≤ 1000 := of_decide_eq_true h1
  have hn := chEs_n h2
  refine PEi (pe_tup (h S h2)) fun σv H Qv ⟨σ, G, Q, sr, t, out⟩ => ⟨σ, G, _, sr, t, fun ds G1 us H1 q l1 r1 s1 k1 => ⟨?_, ?_⟩⟩
  · rw [r1.length, l1, ← hn, sizeLine_eq]; omega
  · exact (out.back k1).tup q r1 s1
theorem e_lst {ms : MEs} (h : OkAn Γ k ms) : OkE Γ k (.lst ms) := by
  intro c R H0 W X S e hc
  cases e <;> first | exact absurd hc Bool.false_ne_true | skip
  rename_i vs pos
  obtain ⟨h1, h2⟩ := and3 hc
  have hl : vs.length ≤ 1000 := of_decide_eq_true h1
  have hn := chEs_n h2
  refine PEi (pe_lst (h S h2)) fun σv H Qv ⟨σ, G, Q, sr, t, out⟩ => ⟨σ, G, _, sr, t, fun ds G1 us H1 q l1 r1 s1 k1 => ⟨?_, ?_⟩⟩
  · rw [r1.length, l1, ← hn, sizeLine_eq]; omega
  · exact (out.back k1).lst q r1 s1
/-! ### subscripts -/
theorem e_ix {a i : ME} (ha : OkE Γ k a) (hi : OkE Γ k i) : OkE Γ k (.ix a i) := by
  intro c R H0 W X S e h
  cases e <;> first | exact absurd h Bool.false_ne_true | skip
  rename_i x y pos
  obtain ⟨h1, h2⟩ := and3 h
  obtain ⟨h2, h3⟩ := and3 h2
  exact PEi (pe_ix ix_D (ha S h2) (hi S h3) (ix_plain h1)) fun _ _ _ z => lE2 z
theorem t_ix {a i : ME} (ha : OkE Γ k a) (hi : OkE Γ k i) : OkT Γ k (.ix a i) := by
  intro c R H0 W X S e h
  have := e_ix ha hi S h
  cases e <;> first | exact absurd h Bool.false_ne_true | skip
  exact lTr this rfl fun _ _ _ z => z
theorem o_none : OkO Γ k .none := by
  intro c R H0 W X S e h
  cases e with
  | some _ => exact absurd h Bool.false_ne_true
  | none => exact ⟨fun pins s σv H Qv I ⟨σ, G, Q, sr, q, out⟩ => po_none.run pins s σv H Qv I (out none G H q sr .refl)⟩
theorem o_some {m : ME} (hm : OkE Γ k m) : OkO Γ k (.some m) := by
  intro c R H0 W X S e h
  cases e with
  | none => exact absurd h Bool.false_ne_true
  | some e =>
    refine ⟨fun pins s σv H Qv I ⟨σ, G, Q, sr, t, out⟩ => (po_some (hm S h)).run pins s σv H Qv I ⟨σ, G, _, sr, t, fun x G1 v H1 q r s1 k1 => ?_⟩⟩
    cases x with
    | int i => exact ⟨i, r, out (some i) G1 H1 q s1 k1⟩
    | _ => exact False.elim q
theorem e_slc {a : ME} {lo hi : MO} (ha : OkE Γ k a) (hl : OkO Γ k lo) (hh : OkO Γ k hi) : OkE Γ k (.slc a lo hi) := by
  intro c R H0 W X S e h
  cases e <;> first | exact absurd h Bool.false_ne_true | skip
  rename_i x y pos
  cases y <;> first | exact absurd h Bool.false_ne_true | skip
  rename_i l hh' st p2
  cases st with
  | some _ => exact absurd h Bool.false_ne_true
  | none =>
    obtain ⟨h1, h3⟩ := and3 h
    obtain ⟨h1, h2⟩ := and3 h1
    refine PEi (pe_slice sl_D (ha S h1) (hl S h2) (hh S h3)) fun σv H Qv ⟨σ, G, Q, sr, t, out⟩ => ?_
    exact ⟨σ, G, _, sr, t, fun x G1 v H1 q r s1 k1 => ⟨σ, G1, _, s1, q, fun o G2 H2 q2 s2 k2 => ⟨σ, G2, _, s2, q2, fun o' G3 H3 q3 s3 k3 => ⟨R, H0, σ, σv, x, G3, Q, (r.keep k2).keep k3, s3, q3, out.back ((k1.trans k2).trans k3)⟩⟩⟩⟩
theorem e_revl {a : ME} (ha : OkE Γ k a) : OkE Γ k (.revl a) := by
  intro c R H0 W X S e h
  have key : ∃ x j p1 p2 p3 pos, e = .Subscript x (.Slice none none (some (.UnaryOp .USub (.Constant (.int 1) j p1) p2)) p3) pos ∧ chE c a x = true := by
    cases e <;> first | exact absurd h Bool.false_ne_true | skip
    rename_i x y pos
    cases y <;> first | exact absurd h Bool.false_ne_true | skip
    rename_i l u st p3
    cases l <;> first | exact absurd h Bool.false_ne_true | skip
    cases u <;> first | exact absurd h Bool.false_ne_true | skip
    cases st <;> first | exact absurd h Bool.false_ne_true | skip
    rename_i st
    cases st <;> first | exact absurd h Bool.false_ne_true | skip
    rename_i op z p2
    cases op <;> first | exact absurd h Bool.false_ne_true | skip
    cases z <;> first | exact absurd h Bool.false_ne_true | skip
    rename_i cst j p1
    cases cst <;> first | exact absurd h Bool.false_ne_true | skip
    rename_i i
    obtain ⟨h1, h2⟩ := and3 h
    have e1 : i = 1 := of_decide_eq_true h1
    subst e1
    exact ⟨x, j, p1, p2, p3, pos, rfl, h2⟩
  obtain ⟨x, j, p1, p2, p3, pos, rfl, h2⟩ := key
  refine PEi (pe_revL (ha S h2)) fun σv H Qv ⟨σ, G, Q, sr, t, out⟩ => ⟨σ, G, _, sr, t, fun x G1 v H1 q r s1 k1 => ?_⟩
  cases x with
  | ref l =>
    obtain ⟨ds, e1, q1⟩ := q
    obtain ⟨vs, e2, rv⟩ := s1.sqL e1
    exact ⟨l, vs, r, e2, (out.back k1).lst q1 rv.reverse s1⟩
  | _ => exact False.elim q
/-! ### calls -/
/-- behind the arguments: the callee's promise, as the layer has it -/
theorem toSp_of {X : Cx} {R : Addr → Prop} {H0 H : Hp} {W : WD} {σ : Sg} {G : DH} {σv : L2.St} {Q : QD} {Qv : VK} {n : Nat} {Sd : DSp} {ds : List D} {vs : List V} (sr : SR X.K R H0 σ G σv H) (r : Rps X.K H ds vs) (hl : ds.length = n)
    (h : Sd ds G Q fun xd G2 => W xd σ G2) (out : Out X.K R H0 σ σv H Q Qv) : toSp X.K X.mg n Sd vs H Qv (WE (lW X.K X.mg R H0 W) σv) := by
  refine ⟨ds, G, Q, _, hl, r, sr.gr, h, fun d G' v H' q rd g kp => ?_, fun xd G' cls dd H' w rx g kp => ?_⟩
  · exact out d G' v H' q rd (sr.after g kp sr.rsOf) (kp.mono sr.rsOf)
  · exact ⟨xd, σ, G', w, rx, sr.after g kp sr.rsOf⟩
theorem star_hd {e : Expr} {es : List Expr} (h : (e :: es).all noStar = true) : noStar e = true ∧ es.all noStar = true := by
  rw [List.all_cons] at h; exact and3 h
theorem e_call {f : Str} {ms : MEs} (hm : OkAn Γ k ms) : OkE Γ k (.call f ms) := by
  intro c R H0 W X S e h
  cases e <;> first | exact absurd h Bool.false_ne_true | skip
  rename_i g args kws pos
  cases g <;> first | exact absurd h Bool.false_ne_true | skip
  rename_i x px
  cases kws with
  | cons _ _ => exact absurd h Bool.false_ne_true
  | nil =>
    obtain ⟨h, h6⟩ := and3 h
    obtain ⟨h, h5⟩ := and3 h
    obtain ⟨h, h4⟩ := and3 h
    obtain ⟨h, h3⟩ := and3 h
    obtain ⟨h1, h2⟩ := and3 h
    have e1 := of_decide_eq_true h1
    subst e1
    refine ⟨fun pins s σv H Qv I ⟨σ, G, Q, sr, ⟨fi, hf, t⟩, out⟩ => ?_⟩
    obtain ⟨a, fd, mg, kp, F, B, _⟩ := S.ok.fn _ fi hf
    refine wpAny_Call_Name_kw (ld_glob I (S.gl h3) mg ?_ (ok_d h4).1)
    have fin : ∀ {us : List Value} {s1 : Shared} {vs : List V} {H1 : Hp} {ds : List D} {G1 : DH}, Inv X pins σv H1 s1 → Vals vs us → (ds.length = fi.ps.length ∧ fi.sp ds G1 Q fun xd G2 => W xd σ G2) → Rps X.K H1 ds vs → SR X.K R H0 σ G1 σv H1 → Keep R H H1 →
        wpAny (model X.prog X.w) X.A (PySem.call (.ref a) us) (EP X pins σv Qv) X.xe s1 := fun I1 rv q rd s1 k1 =>
      run_fnS F (S.rm (S.suB h2)) B (passAt S.tk σv) I1 rv (toSp_of s1 rd q.1 q.2 (out.back k1))
    cases args with
    | nil =>
      cases ms with
      | cons _ _ => exact absurd h6 Bool.false_ne_true
      | nil => exact PySem.W.callWith_K0 I.kIn kp (fin I .nil t rfl sr .refl)
    | cons e es =>
      obtain ⟨n1, n2⟩ := star_hd h5
      refine PySem.W.callWith_K (h₀ := X.base) I.ok.mod.kin kp (thn ((hm S h6).run pos pins s σv H (fun vs H1 => ∃ ds G1, (ds.length = fi.ps.length ∧ fi.sp ds G1 Q fun xd G2 => W xd σ G2) ∧ Rps X.K H1 ds vs ∧ SR X.K R H0 σ G1 σv H1 ∧ Keep R H H1) I ⟨σ, G, _, sr, t, fun ds G1 vs H1 q hl r1 s1 k1 => ⟨ds, G1, q, r1, s1, k1⟩⟩) fun us s1 ⟨vs, H1, I1, rv, ds, G1, q, r1, s1, k1⟩ => ⟨I1.kIn, fin I1 rv q r1 s1 k1⟩) (star1 n1) (star_any pos n2)
theorem t_call {f : Str} {ms : MEs} (hm : OkAn Γ k ms) : OkT Γ k (.call f ms) := by
  intro c R H0 W X S e h
  have := e_call hm S h
  cases e <;> first | exact absurd h Bool.false_ne_true | skip
  exact lTr this rfl fun _ _ _ z => z
theorem permL_vals (p : List Nat) {vs : List V} {us : List Value} (r : Vals vs us) : Vals (permL p vs) (permL p us) := by
  induction p with
  | nil => exact .nil
  | cons i p ih =>
    have hl := r.length
    unfold permL at ih ⊢
    rw [List.filterMap_cons, List.filterMap_cons]
    cases e : vs[i]? with
    | none =>
      rw [r.none_of e]
      exact ih
    | some v =>
      obtain ⟨u, e2, r2⟩ := r.get e
      rw [e2]
      exact .cons r2 ih
theorem permL_rps {K : PySem.W.Frag} {H : Hp} (p : List Nat) {ds : List D} {vs : List V} (r : Rps K H ds vs) : Rps K H (permL p ds) (permL p vs) := by
  induction p with
  | nil => rfl
  | cons i p ih =>
    have hl := r.length
    unfold permL at ih ⊢
    rw [List.filterMap_cons, List.filterMap_cons]
    cases e : ds[i]? with
    | none =>
      have : vs[i]? = none := by
        rw [List.getElem?_eq_none_iff] at e ⊢; omega
      rw [this]
      exact ih
    | some d =>
      obtain ⟨v, e2, r2⟩ := r.get e
      rw [e2]
      exact ⟨v, _, rfl, r2, ih⟩
theorem chK_kw {c : CT} {X : Cx} {pos : Pos} : ∀ {ms : MEs} {ks : List Str} {kws : List Keyword}, chK c ks ms kws = true → (backToKw pos (keywordEach kws X.env)).all (·.1.isSome) = true ∧ (backToKw pos (keywordEach kws X.env)).filterMap (·.1) = ks ∧ (backToKw pos (keywordEach kws X.env)).any (·.1.isNone) = false
  | .nil, ks, kws, h => by
    cases ks with
    | cons _ _ => exact absurd h (by simp [chK])
    | nil =>
      cases kws with
      | cons _ _ => exact absurd h (by simp [chK])
      | nil => exact ⟨rfl, rfl, rfl⟩
  | .cons m ms, ks, kws, h => by
    obtain ⟨x, e, p, kr, r, rfl, rfl, h2, h3⟩ := ck_cons h
    obtain ⟨q1, q2, q3⟩ := chK_kw (X := X) (pos := pos) h3
    have e0 : backToKw pos (keywordEach (⟨some x, e, p⟩ :: r) X.env) = (some x, do let v ← eval e X.env; standAt pos; pure v) :: backToKw pos (keywordEach r X.env) := rfl
    rw [e0]
    refine ⟨?_, ?_, ?_⟩
    · rw [List.all_cons, q1]; rfl
    · rw [List.filterMap_cons, q2]
    · rw [List.any_cons, q3]; rfl
/-- a call with keywords, the positional ones first -/
theorem e_callk {f : Str} {ms ks' : MEs} {ks : List Str} (hm : OkAn Γ k ms) (hk : OkK Γ k ks') : OkE Γ k (.callk f ms ks ks') := by
  intro c R H0 W X S e h
  cases e <;> first | exact absurd h Bool.false_ne_true | skip
  rename_i g args kws pos
  cases g <;> first | exact absurd h Bool.false_ne_true | skip
  rename_i x px
  obtain ⟨h, h7⟩ := and3 h
  obtain ⟨h, h6⟩ := and3 h
  obtain ⟨h, h5⟩ := and3 h
  obtain ⟨h, h4⟩ := and3 h
  obtain ⟨h, h3⟩ := and3 h
  obtain ⟨h1, h2⟩ := and3 h
  have e1 := of_decide_eq_true h1
  subst e1
  refine ⟨fun pins s σv H Qv I ⟨σ, G, Q, sr, ⟨fi, p, n, hf, hin, t⟩, out⟩ => ?_⟩
  obtain ⟨a, fd, mg, kp, F, B, KB⟩ := S.ok.fn _ fi hf
  have kb : KBd X.K fd fi.ps n ks p := KB _ hin
  obtain ⟨kw1, kw2, kw3⟩ := chK_kw (X := X) (pos := pos) h7
  refine wpAny_Call_Name_kw (ld_glob I (S.gl h3) mg ?_ (ok_d h4).1)
  have fin : ∀ {us ws : List Value} {s1 : Shared} {vs zs : List V} {H1 : Hp} {ds es : List D} {G1 : DH}, Inv X pins σv H1 s1 → Vals vs us → Vals zs ws → (ds.length = n ∧ es.length = ks.length ∧ (permL p (ds ++ es)).length = fi.ps.length ∧ fi.sp (permL p (ds ++ es)) G1 Q fun xd G2 => W xd σ G2) →
      Rps X.K H1 ds vs → Rps X.K H1 es zs → SR X.K R H0 σ G1 σv H1 → Keep R H H1 → wpAny (model X.prog X.w) X.A (PySem.call (.ref a) us (ks.zip ws)) (EP X pins σv Qv) X.xe s1 := by
    intro us ws s1 vs zs H1 ds es G1 I1 rv rz q rd rd2 s1' k1
    obtain ⟨q1, q2, q3, q4⟩ := q
    have b := kb s1 us ws I1.kIn (by rw [← rv.length, rd.length, q1]) (by rw [← rz.length, rd2.length, q2])
    have rp := permL_vals p (rv.append rz)
    have hsp : toSp X.K X.mg fi.ps.length fi.sp (permL p (vs ++ zs)) H1 Qv (WE (lW X.K X.mg R H0 W) σv) := toSp_of s1' (permL_rps p (rd.append rd2)) q3 q4 (out.back k1)
    refine wpAny_call (codeAny_mono (F.run X.A X.stack s1 H1 ⟨us, ks.zip ws⟩ (permL p (us ++ ws)) (permL p (vs ++ zs)) Qv _ (S.rm (S.suB h2)) I1.env0 b rp hsp) fun r s' hq => ?_)
    cases r with
    | error e => exact passAt S.tk σv pins H1 s1 e s' I1 hq
    | ok fl =>
      cases fl with
      | ret u => exact I1.after hq
      | next => exact False.elim hq
      | brk => exact False.elim hq
      | cont => exact False.elim hq
  have kwd : ∀ {s1 : Shared} {us : List Value} {vs : List V} {H1 : Hp} {ds : List D} {G1 : DH}, Inv X pins σv H1 s1 → Vals vs us → (wpEs Γ ks' W σ G1 fun zs G2 => ds.length = n ∧ zs.length = ks.length ∧ (permL p (ds ++ zs)).length = fi.ps.length ∧ fi.sp (permL p (ds ++ zs)) G2 Q fun xd G3 => W xd σ G3) →
      Rps X.K H1 ds vs → SR X.K R H0 σ G1 σv H1 → Keep R H H1 →
      wpAny (model X.prog X.w) X.A (evalAll ((backToKw pos (keywordEach kws X.env)).map (·.2))) (fun ws s2 => X.K.In s2.heap ∧ wpAny (model X.prog X.w) X.A (PySem.call (.ref a) us (ks.zip ws)) (EP X pins σv Qv) X.xe s2) X.xe s1 := by
    intro s1 us vs H1 ds G1 I1 rv q rd s1' k1
    refine thn ((hk S h7).run pos pins s1 σv H1 (fun zs H2 => ∃ es G2, (ds.length = n ∧ es.length = ks.length ∧ (permL p (ds ++ es)).length = fi.ps.length ∧ fi.sp (permL p (ds ++ es)) G2 Q fun xd G3 => W xd σ G3) ∧ Rps X.K H2 es zs ∧ SR X.K R H0 σ G2 σv H2 ∧ Keep R H1 H2) I1
      ⟨σ, G1, _, s1', q, fun es G2 zs H2 q2 r2 s2 k2 => ⟨es, G2, q2, r2, s2, k2⟩⟩) fun ws s2 ⟨zs, H2, I2, rz, es, G2, q2, r2, s2', k2⟩ => ⟨I2.kIn, fin I2 rv rz q2 (rd.keep k2) r2 s2' (k1.trans k2)⟩
  cases args with
  | nil =>
    cases ms with
    | cons _ _ => exact absurd h6 Bool.false_ne_true
    | nil =>
      refine PySem.W.callWith_KW0 (h₀ := X.base) I.ok.mod.kin kp kw1 ?_ (by show (false || _) = false; rw [kw3]; rfl)
      rw [kw2]
      exact kwd I .nil t rfl sr .refl
  | cons e es =>
    obtain ⟨n1, n2⟩ := star_hd h5
    refine PySem.W.callWith_KW (h₀ := X.base) I.ok.mod.kin kp kw1 (thn ((hm S h6).run pos pins s σv H (fun vs H1 => ∃ ds G1, (wpEs Γ ks' W σ G1 fun zs G2 => ds.length = n ∧ zs.length = ks.length ∧ (permL p (ds ++ zs)).length = fi.ps.length ∧ fi.sp (permL p (ds ++ zs)) G2 Q fun xd G3 => W xd σ G3) ∧ Rps X.K H1 ds vs ∧ SR X.K R H0 σ G1 σv H1 ∧ Keep R H H1) I
      ⟨σ, G, _, sr, t, fun ds G1 vs H1 q hl r1 s1 k1 => ⟨ds, G1, q, r1, s1, k1⟩⟩) fun us s1 ⟨vs, H1, I1, rv, ds, G1, q, r1, s1', k1⟩ => ?_) ?_ (star1 n1)
    · rw [kw2]
      exact kwd I1 rv q r1 s1' k1
    · rw [star_any pos (es := e :: es) (by rw [List.all_cons, n1, n2]; rfl), kw3]; rfl
end
end DL

set_option Elab.async false
set_option linter.all false
set_option maxRecDepth 100000
set_option maxHeartbeats 4000000
/-! DL10: built-ins, isinstance, methods, f-strings, targets, what is walked, comprehensions. -/
namespace DL
open PySem PySem.Spec PyProof.Rows L2
section
variable {Γ : GE} {k : Nat}
def BI.all' : List BI := [.len, .abs, .int, .str, .sum, .max, .min, .all, .any, .list, .tuple]
theorem BI.isF (b : BI) (h : b ≠ .gcd) : b.name ∈ bNames ∧ bootBuiltins b.name = some b.val ∧ b.name ≠ "__name__" ∧ (b.name == ("__debug__" : Str)) = false ∧ ((∃ id, b.val = .builtin id) ∨ ∃ T, b.val = .type T) := by
  cases b with
  | gcd => exact absurd rfl h
  | len => exact ⟨by decide +kernel, boot_len, by decide, by decide, .inl ⟨_, rfl⟩⟩
  | abs => exact ⟨by decide +kernel, boot_abs, by decide, by decide, .inl ⟨_, rfl⟩⟩
  | int => exact ⟨by decide +kernel, boot_int, by decide, by decide, .inr ⟨_, rfl⟩⟩
  | str => exact ⟨by decide +kernel, boot_str, by decide, by decide, .inr ⟨_, rfl⟩⟩
  | sum => exact ⟨by decide +kernel, boot_sum, by decide, by decide, .inl ⟨_, rfl⟩⟩
  | max => exact ⟨by decide +kernel, boot_max, by decide, by decide, .inl ⟨_, rfl⟩⟩
  | min => exact ⟨by decide +kernel, boot_min, by decide, by decide, .inl ⟨_, rfl⟩⟩
  | all => exact ⟨by decide +kernel, boot_all, by decide, by decide, .inl ⟨_, rfl⟩⟩
  | any => exact ⟨by decide +kernel, boot_any, by decide, by decide, .inl ⟨_, rfl⟩⟩
  | list => exact ⟨by decide +kernel, boot_list, by decide, by decide, .inr ⟨_, rfl⟩⟩
  | tuple => exact ⟨by decide +kernel, boot_tuple, by decide, by decide, .inr ⟨_, rfl⟩⟩
theorem e_bi (b : BI) {ms : MEs} (hm : OkA Γ k ms) : OkE Γ k (.bi b ms) := by
  intro c R H0 W X S e h
  cases e <;> first | exact absurd h Bool.false_ne_true | skip
  rename_i g args kws pos
  cases g <;> first | exact absurd h Bool.false_ne_true | skip
  rename_i x px
  cases kws with
  | cons _ _ => exact absurd h Bool.false_ne_true
  | nil =>
    obtain ⟨h, h6⟩ := and3 h
    obtain ⟨h, h5⟩ := and3 h
    obtain ⟨h, h4⟩ := and3 h
    obtain ⟨h, h3⟩ := and3 h
    obtain ⟨h1, h2⟩ := and3 h
    have e1 := of_decide_eq_true h1
    subst e1
    cases args with
    | nil =>
      cases ms with
      | cons _ _ => exact absurd h6 Bool.false_ne_true
      | nil => exact PE_never fun _ _ _ ⟨_, _, _, _, z, _⟩ => z
    | cons e es =>
      obtain ⟨n1, n2⟩ := star_hd h5
      have cr := bi_ok (S.cm (S.suB h3)) b
      by_cases hb : b = .gcd
      · subst hb
        have hg : c.gcd = true := by simpa using h2
        exact PEi (pe_callBfun cr (S.gl h4) (S.ok.gcd hg) (hm S h6) (by decide) (star1 n1) (star_any pos n2)) fun _ _ _ z => lA1 z
      · obtain ⟨b1, b2, b3, b4, b5⟩ := b.isF hb
        have hN := S.ok.bt _ b1
        generalize hv : b.val = v at *
        rcases b5 with ⟨id, rfl⟩ | ⟨T, rfl⟩
        · exact PEi (pe_callB cr (S.gl h4) hN b2 (hm S h6) b3 b4 (star1 n1) (star_any pos n2)) fun _ _ _ z => lA1 z
        · exact PEi (pe_callTy cr (S.gl h4) hN b2 (hm S h6) b3 b4 (star1 n1) (star_any pos n2)) fun _ _ _ z => lA1 z
theorem t_bi (b : BI) {ms : MEs} (hm : OkA Γ k ms) : OkT Γ k (.bi b ms) := by
  intro c R H0 W X S e h
  have := e_bi b hm S h
  cases e <;> first | exact absurd h Bool.false_ne_true | skip
  exact lTr this rfl fun _ _ _ z => z
theorem Ty.isT (t : Ty) (h : t ≠ .none) : Str.ofString t.s ∈ bNames ∧ bootBuiltins (Str.ofString t.s) = some (.type t.s) ∧ Str.ofString t.s ≠ "__name__" ∧ (Str.ofString t.s == ("__debug__" : Str)) = false := by
  cases t with
  | none => exact absurd rfl h
  | bool => exact ⟨by decide +kernel, boot_bool, by decide, by decide⟩
  | int => exact ⟨by decide +kernel, boot_int, by decide, by decide⟩
  | str => exact ⟨by decide +kernel, boot_str, by decide, by decide⟩
  | list => exact ⟨by decide +kernel, boot_list, by decide, by decide⟩
  | tuple => exact ⟨by decide +kernel, boot_tuple, by decide, by decide⟩
  | dict => exact ⟨by decide +kernel, boot_dict, by decide, by decide⟩
theorem e_isi {a : ME} (t : Ty) (ha : OkE Γ k a) : OkE Γ k (.isi a t) := by
  intro c R H0 W X S e h
  have key : ∃ u px py pos, e = .Call (.Name "isinstance" px) [u, .Name (Str.ofString t.s) py] [] pos ∧ glB c.sc "isinstance" = true ∧ glB c.sc (Str.ofString t.s) = true ∧ noStar u = true ∧ chE c a u = true ∧ t ≠ .none := by
    cases e <;> first | exact absurd h Bool.false_ne_true | skip
    rename_i g args kws pos
    cases g <;> first | exact absurd h Bool.false_ne_true | skip
    rename_i x px
    rcases args with _ | ⟨u, _ | ⟨v, _ | ⟨v3, args⟩⟩⟩ <;> first | exact absurd h Bool.false_ne_true | skip
    · cases v <;> first | exact absurd h Bool.false_ne_true | skip
      rename_i y py
      cases kws with
      | cons _ _ => exact absurd h Bool.false_ne_true
      | nil =>
        obtain ⟨h, h6⟩ := and3 h
        obtain ⟨h, h5⟩ := and3 h
        obtain ⟨h, h4⟩ := and3 h
        obtain ⟨h, h3⟩ := and3 h
        obtain ⟨h1, h2⟩ := and3 h
        obtain ⟨e1, e0⟩ := of_decide_eq_true h1
        have e2 := of_decide_eq_true h2
        subst e1 e2
        exact ⟨u, px, py, pos, rfl, h3, h4, h5, h6, e0⟩
    · cases v <;> exact absurd h Bool.false_ne_true
  obtain ⟨u, px, py, pos, rfl, h1, h2, h3, h4, ht⟩ := key
  obtain ⟨b1, b2, b3, b4⟩ := t.isT ht
  have hty : PE X (.Name (Str.ofString t.s) py) (tC (.ty t.s)) := pe_bltn (S.gl h2) (S.ok.bt _ b1) b2 rfl b3 b4
  refine PEi (pe_callB call_isi (S.gl h1) (S.ok.bt _ (by decide +kernel)) boot_isinstance (pa_cons (ha S h4) (pa_cons hty pa_nil rfl) (star1 h3)) (by decide) (by decide) (star1 h3) rfl) fun σv H Qv ⟨σ, G, Q, sr, t', out⟩ => ?_
  refine ⟨σ, G, _, sr, t', fun x G1 v H1 q r s1 k1 => ?_⟩
  obtain ⟨w, e1, q1⟩ := q
  exact isi_ok s1 r e1 q1 (out.back k1)
theorem t_isi {a : ME} (t : Ty) (ha : OkE Γ k a) : OkT Γ k (.isi a t) := by
  intro c R H0 W X S e h
  have pe := e_isi t ha S h
  have key : ∃ f args kws pos, e = .Call f args kws pos := by
    cases e <;> first | exact absurd h Bool.false_ne_true | exact ⟨_, _, _, _, rfl⟩
  obtain ⟨f, args, kws, pos, rfl⟩ := key
  refine PTi (pt_truth pe (true_plain rfl)) fun σv H Qv ⟨σ, G, Q, sr, t', out⟩ => ?_
  exact ⟨σ, G, fun d G1 => ∃ b, d = .bl b ∧ Q b G1, sr, by
    have z : (fun (x : D) (G1 : DH) => ∃ u, tyD G1 x = some u ∧ ∃ b, D.bl (u.sub t) = .bl b ∧ Q b G1) = fun x G1 => ∃ u, tyD G1 x = some u ∧ Q (u.sub t) G1 := by
      funext x G1
      apply propext
      constructor
      · rintro ⟨u, e, b, e1, q⟩
        cases e1
        exact ⟨u, e, q⟩
      · rintro ⟨u, e, q⟩
        exact ⟨u, e, _, rfl, q⟩
    show wpE Γ a W σ G fun x G1 => ∃ u, tyD G1 x = some u ∧ ∃ b, D.bl (u.sub t) = .bl b ∧ Q b G1
    rw [z]; exact t', fun d G1 v H1 q r s1 k1 => by
      obtain ⟨b, e1, q⟩ := q
      subst e1
      rw [show v = V.bl b from r]
      exact ⟨b, rfl, out b G1 H1 q s1 k1⟩⟩
/-! ### methods -/
theorem e_meth (m : MT) {o : ME} {ms : MEs} (ho : OkE Γ k o) (hm : OkA Γ k ms) : OkE Γ k (.meth m o ms) := by
  intro c R H0 W X S e h
  cases e <;> first | exact absurd h Bool.false_ne_true | skip
  rename_i g args kws cp
  cases g <;> first | exact absurd h Bool.false_ne_true | skip
  rename_i u x ap
  cases kws with
  | cons _ _ => exact absurd h Bool.false_ne_true
  | nil =>
    obtain ⟨h, h8⟩ := and3 h
    obtain ⟨h, h7⟩ := and3 h
    obtain ⟨h, h6⟩ := and3 h
    obtain ⟨h, h5⟩ := and3 h
    obtain ⟨h, h4⟩ := and3 h
    obtain ⟨h, h3⟩ := and3 h
    obtain ⟨h1, h2⟩ := and3 h
    have e1 := of_decide_eq_true h1
    have e3 := of_decide_eq_true h3
    subst e1
    cases args with
    | nil =>
      cases ms with
      | cons _ _ => exact absurd h8 Bool.false_ne_true
      | nil =>
        refine PEi (pe_bm0 m.pa m.slot m.ty (mt_ok m) (ho S h7) (base_plain h5) h4) fun σv H Qv ⟨σ, G, Q, sr, t, out⟩ => ?_
        exact ⟨σ, G, _, sr, t, fun x G1 v H1 q r s1 k1 => ⟨rc_ty s1 r q.1, R, H0, σ, σv, x, [], G1, Q, r, rfl, s1, q.2, out.back k1⟩⟩
    | cons e es =>
      obtain ⟨n1, n2⟩ := star_hd h6
      have hf : ((backTo cp (starEach (e :: es) X.env)).all (fun x => !x.1) && (backToKw cp (keywordEach [] X.env)).all (fun x => x.1.isSome) && decide ((e :: es).length + ([] : List Keyword).length + (if ([] : List Keyword).isEmpty then 0 else 1) < 30)) = true := by
        rw [star_all cp h6]
        have : (e :: es).length < 2 := by
          rw [e3]; cases m <;> decide
        simp only [Bool.true_and, Bool.and_eq_true, decide_eq_true_eq]
        refine ⟨rfl, ?_⟩
        show (e :: es).length + 0 + 0 < 30
        omega
      refine PEi (pe_bm m.pa m.slot m.ty (mt_ok m) (ho S h7) (hm S h8) (base_plain h5) hf h4 (star1 n1) (star_any cp n2)) fun σv H Qv ⟨σ, G, Q, sr, t, out⟩ => ?_
      exact ⟨σ, G, _, sr, t, fun x G1 v H1 q r s1 k1 => ⟨rc_ty s1 r q.1, σ, G1, _, s1, q.2, fun ds G2 vs H2 q2 r2 s2 k2 => ⟨R, H0, σ, σv, x, ds, G2, Q, r.keep k2, r2, s2, q2, out.back (k1.trans k2)⟩⟩⟩
/-! ### texts -/
theorem e_fmt {a : ME} (ha : OkE Γ k a) : OkE Γ k (.fmt a) := by
  intro c R H0 W X S e h
  cases e <;> first | exact absurd h Bool.false_ne_true | skip
  rename_i x i sp pos
  cases sp with
  | some _ => exact absurd h Bool.false_ne_true
  | none =>
    obtain ⟨h1, h2⟩ := and3 h
    have e1 := of_decide_eq_true h1
    subst e1
    refine PEi (pe_fmt (ha S h2)) fun σv H Qv ⟨σ, G, Q, sr, t, out⟩ => ⟨σ, G, _, sr, t, fun x G1 v H1 q r s1 k1 => ?_⟩
    cases x with
    | str z => exact .inl ⟨z, r, q.1, (out.back k1).now q.2 rfl s1⟩
    | int i => exact .inr ⟨i, r, q.1, (out.back k1).now q.2 rfl s1⟩
    | _ => exact False.elim q
/-- the parts of an f-string -/
def OkJ (Γ : GE) (k : Nat) (ms : MEs) : Prop := ∀ {c : CT} {R : Addr → Prop} {H0 : Hp} {W : WD} {X : Cx}, SX Γ k c R H0 W X → ∀ {es : List Expr}, chEs c ms es = true → ∃ ts, PJ X es ts ∧
  ∀ {σ : Sg} {G : DH} {σv : L2.St} {H : Hp} {acc : Str} {Q : Str → DH → Prop} {Qv : Str → Hp → Prop}, SR X.K R H0 σ G σv H → wpJ Γ ms W acc σ G Q → (∀ z G' H', Q z G' → SR X.K R H0 σ G' σv H' → Keep R H H' → Qv z H') → tJs ts acc σv H Qv
theorem j_nil : OkJ Γ k .nil := by
  intro c R H0 W X S es h
  cases es with
  | cons _ _ => exact absurd h Bool.false_ne_true
  | nil => exact ⟨[], .nil, fun sr q out => out _ _ _ q sr .refl⟩
theorem j_cons {m : ME} {ms : MEs} (hm : OkE Γ k m) (hms : OkJ Γ k ms) : OkJ Γ k (.cons m ms) := by
  intro c R H0 W X S es h
  obtain ⟨e, r, rfl, h1, h2, h3⟩ := ch_cons h
  obtain ⟨ts, pj, tl⟩ := hms S h3
  refine ⟨_ :: ts, .cons (hm S h2) pj, fun {σ G σv H acc Q Qv} sr q out => ?_⟩
  refine ⟨σ, G, _, sr, q, fun x G1 v H1 q r s1 k1 => ?_⟩
  cases x with
  | str z => exact ⟨z, r, q.1, tl s1 q.2 fun z' G2 H2 q2 s2 k2 => out z' G2 H2 q2 s2 (k1.trans k2)⟩
  | _ => exact False.elim q
theorem e_fstr {ms : MEs} (hm : OkJ Γ k ms) : OkE Γ k (.fstr ms) := by
  intro c R H0 W X S e h
  cases e <;> first | exact absurd h Bool.false_ne_true | skip
  rename_i vs pos
  obtain ⟨h1, h2⟩ := and3 h
  have hl : 2 ≤ vs.length := of_decide_eq_true h1
  rcases vs with _ | ⟨v1, _ | ⟨v2, vs⟩⟩
  · exact absurd hl (by simp)
  · exact absurd hl (by simp)
  · obtain ⟨ts, pj, tl⟩ := hm S h2
    refine PEi (pe_joined pj) fun σv H Qv ⟨σ, G, Q, sr, t, out⟩ => tl sr t fun z G1 H1 q s1 k1 => (out.back k1).now q rfl s1
/-! ### targets -/
theorem g_name (i : Nat) : OkG Γ k (.name i) := by
  intro c R H0 W X S o ho e h
  cases e <;> first | exact absurd h Bool.false_ne_true | skip
  rename_i x pos
  obtain ⟨h1, h2⟩ := and3 h
  obtain ⟨l1, l2⟩ := S.loc h2
  refine PGi (pg_name (S.N ▸ S.nd) (S.at h1) l1 l2) fun v σv H Qv ⟨d, σ, G, Q, r, sr, q, out⟩ => ?_
  exact out _ G _ H q (sr.slot i r) .refl (Ow.set fun own e => ho own e)
theorem chGs_n {c : CT} : ∀ {gs : MGs} {es : List Expr}, chGs c gs es = true → es.length = gs.n
  | .nil, [], _ => rfl
  | .nil, _ :: _, h => absurd h Bool.false_ne_true
  | .cons _ _, [], h => absurd h Bool.false_ne_true
  | .cons g gs, e :: es, h => by
    show es.length + 1 = gs.n + 1
    rw [chGs_n (and3 h).2]
theorem g_tup {gs : MGs} (hg : OkGs Γ k gs) : OkG Γ k (.tup gs) := by
  intro c R H0 W X S o ho e h
  cases e <;> first | exact absurd h Bool.false_ne_true | skip
  rename_i es kk pos
  obtain ⟨h, h3⟩ := and3 h
  obtain ⟨h1, h2⟩ := and3 h
  obtain ⟨l1, l2⟩ := asgE_len (env := X.env) h2
  refine PGi (pg_tup (S.cm (S.suB h1)) (hg S ho h2 h3) l1 l2) fun v σv H Qv ⟨d, σ, G, Q, r, sr, q, out⟩ => ?_
  cases d with
  | tup ds =>
  obtain ⟨hl, q⟩ := q
  obtain ⟨a, vs, ev, qa, rv⟩ := r
  exact ⟨a, vs, ev, qa, by rw [rv.length, hl, chGs_n h3], ds, σ, G, Q, rv, sr, q, out⟩
  | _ => exact False.elim q
theorem gs_nil : OkGs Γ k .nil := by
  intro c R H0 W X S o ho es hs h
  cases es with
  | cons _ _ => exact absurd h Bool.false_ne_true
  | nil =>
    refine ⟨fun pins s σv H vs us Qv I rv ⟨ds, σ, G, Q, r, sr, q, out⟩ => pgs_nil.run pins s σv H vs us Qv I rv ?_⟩
    obtain ⟨e1, q⟩ := q
    subst e1
    exact ⟨r, out σ G σv H q sr .refl .refl⟩
theorem gs_cons {g : MG} {gs : MGs} (hg : OkG Γ k g) (hgs : OkGs Γ k gs) : OkGs Γ k (.cons g gs) := by
  intro c R H0 W X S o ho es hs h
  cases es with
  | nil => exact absurd h Bool.false_ne_true
  | cons e es =>
    obtain ⟨h1, h2⟩ := and3 h
    obtain ⟨n1, n2⟩ := star_hd hs
    have hp := pgs_cons (hg S (o := o) (fun own e1 => (and3 (ho own e1)).1) h1) (hgs S (o := o) (fun own e1 => (and3 (ho own e1)).2) n2 h2) (asgE1 n1)
    refine ⟨fun pins s σv H vs us Qv I rv ⟨ds, σ, G, Q, r, sr, q, out⟩ => hp.run pins s σv H vs us Qv I rv ?_⟩
    cases ds with
    | nil => exact False.elim q
    | cons d rr =>
    obtain ⟨v, ws, ev, rd, rr'⟩ := r
    exact ⟨v, ws, ev, d, σ, G, _, rd, sr, q, fun σ1 G1 σv1 H1 q1 s1 k1 o1 => ⟨rr, σ1, G1, _, rr'.keep k1, s1, q1, fun σ2 G2 σv2 H2 q2 s2 k2 o2 => out σ2 G2 σv2 H2 q2 s2 (k1.trans k2) (o1.trans o2)⟩⟩
theorem g_sub {o' i : ME} (ho' : OkE Γ k o') (hi : OkE Γ k i) : OkG Γ k (.sub o' i) := by
  intro c R H0 W X S o ho e h
  cases e <;> first | exact absurd h Bool.false_ne_true | skip
  rename_i x y pos
  obtain ⟨h, h3⟩ := and3 h
  obtain ⟨h1, h2⟩ := and3 h
  refine PGi (pg_sub (ho' S h2) (hi S h3) set_D (asgSub h1)) fun v σv H Qv ⟨d, σ, G, Q, r, sr, q, out⟩ => ?_
  refine ⟨σ, G, _, sr, q, fun x G1 v1 H1 q1 r1 s1 k1 => ⟨σ, G1, _, s1, q1, fun y G2 v2 H2 q2 r2 s2 k2 => ⟨R, H0, σ, σv, x, y, d, G2, _, r1.keep k2, r2, (r.keep k1).keep k2, s2, q2, fun G3 H3 q3 s3 k3 => ?_⟩⟩⟩
  exact out σ G3 σv H3 q3 s3 ((k1.trans k2).trans k3) .refl
/-! ### tests of a comprehension -/
theorem c_none : OkC Γ k .none := by
  intro c R H0 W X S es h
  cases es with
  | cons _ _ => exact absurd h Bool.false_ne_true
  | nil => exact ⟨fun pins s σv H Qv I ⟨σ, G, Q, sr, q, out⟩ => pts_nil.run pins s σv H Qv I (out true G H q sr .refl)⟩
theorem c_some {m : ME} (hm : OkT Γ k m) : OkC Γ k (.some m) := by
  intro c R H0 W X S es h
  rcases es with _ | ⟨e, _ | ⟨e2, es⟩⟩ <;> first | exact absurd h Bool.false_ne_true | skip
  exact pts_one (hm S h)
end
end DL

set_option Elab.async false
set_option linter.all false
set_option maxRecDepth 100000
set_option maxHeartbeats 4000000
/-! DL11: the field of a caught exception, what is walked, comprehensions; expressions together. -/
namespace DL
open PySem PySem.Spec PyProof.Rows L2
section
variable {Γ : GE} {k : Nat}
theorem e_exf (i : Nat) (f : Str) : OkE Γ k (.exf i f) := by
  intro c R H0 W X S e h
  cases e <;> first | exact absurd h Bool.false_ne_true | skip
  rename_i b f' pos
  cases b <;> first | exact absurd h Bool.false_ne_true | skip
  rename_i x px
  obtain ⟨h, h5⟩ := and3 h
  obtain ⟨h, h4⟩ := and3 h
  obtain ⟨h, h3⟩ := and3 h
  obtain ⟨h1, h2⟩ := and3 h
  have e2 := of_decide_eq_true h2
  subst e2
  obtain ⟨a, xd, hcur, Y, oe, pn, cls, d, C, hX, hz, hf, hmg, hcls, hfc, hfl⟩ := S.cu h1
  have S' := S
  subst hX
  refine ⟨fun pins s σv H Qv I hw => ?_⟩
  obtain ⟨σ, G, Q, sr, ⟨a', xd', dv, q1, q2, q3, q⟩, out⟩ := hw
  rw [hcur] at q2
  cases q2
  obtain ⟨xc, hno⟩ := hfc f dv q3
  refine (pe_xf (X := Y) xc hno hz hf (S.var h3 h4 h5)).run pins s σv H Qv I ?_
  refine ⟨σ, G, fun x G1 => x = .ref a ∧ Q dv G1, sr, ⟨.ref a, q1, rfl, q⟩, fun x G1 v H1 q r s1 k1 => ?_⟩
  obtain ⟨ex, q⟩ := q
  subst ex
  rcases hfl with z | ⟨dd, fvs, ed, rdd, hdd, rf⟩
  · rw [z] at q3; cases q3
  · obtain ⟨fv, lk, rv⟩ := rf.get q3
    exact ⟨r, hcls, dd, fvs, fv, ed, (s1.kp.res dd rdd).trans hdd, lk, (out.back k1).now q (rv.keep s1.kp) s1⟩
/-- a list, a tuple, a text, by the value that comes -/
def iSeq (K : PySem.W.Frag) (tl : TE) : TI := fun σ H Rr => tl σ H fun x H1 => (∃ a, x = .ref a ∧ (((∃ xs, SqL K H1 a xs) ∧ Rr (Itl K a) H1) ∨ ((∃ xs, SqT K H1 a xs) ∧ Rr (Itt K a) H1))) ∨ ∃ z, x = .str z ∧ Rr (Its z) H1
theorem pi_seq {X : Cx} {tg l : Expr} {tl : TE} (hl : PE X l tl) : PI X tg l (iSeq X.K tl) := by
  refine ⟨fun pins s σ H Rr I h => thn (hl.run pins s σ H _ I h) fun v s1 ⟨x, H1, I1, r1, q1⟩ => ?_⟩
  rcases q1 with ⟨a, ex, q1⟩ | ⟨z, ex, q⟩
  · subst ex
    cases r1
    rcases q1 with ⟨⟨xs, sq⟩, q⟩ | ⟨⟨xs, sq⟩, q⟩
    · obtain ⟨its, _, pl, _⟩ := I1.list sq
      exact wpAny_pyIter_list pl.isList (pi_one (tk := s1.toks) I1 _ (turn_list a _) ⟨_, Heap.get?_push_size _ rfl, rfl, rfl⟩ q)
    · obtain ⟨its, _, pl, _⟩ := I1.tuple sq
      exact wpAny_pyIter_tuple (show s1.heap.IsTuple a its.toArray from pl) (pi_one (tk := s1.toks) I1 _ (turn_tuple a _) ⟨_, Heap.get?_push_size _ rfl, rfl, rfl⟩ q)
  · subst ex
    obtain ⟨t, rfl⟩ := r1
    cases hw : z.cps.all (· < 128) with
    | false => exact wpAny_pyIter_wide hw (pi_one (tk := s1.toks) I1 _ (turn_str _ z t "str_iterator" (.inr rfl)) ⟨_, Heap.get?_push_size _ rfl, rfl, rfl⟩ q)
    | true => exact wpAny_pyIter_ascii hw (pi_one (tk := s1.toks) I1 _ (turn_str _ z t "str_ascii_iterator" (.inl rfl)) ⟨_, Heap.get?_push_size _ rfl, rfl, rfl⟩ q)
theorem i_seq {m : ME} (hm : OkE Γ k m) : OkI Γ k (.seq m) := by
  intro c R H0 W X S tg e h
  obtain ⟨h1, h2⟩ := and3 h
  refine PII (pi_seq (hm S h2)) fun σv H Qv ⟨σ, G, Q, sr, t, out⟩ => ⟨σ, G, _, sr, t, fun x G1 v H1 q r s1 k1 => ?_⟩
  cases x with
  | tup ds =>
    obtain ⟨a, vs, e1, qa, rv⟩ := r
    exact .inl ⟨a, e1, .inr ⟨⟨vs, qa⟩, out _ _ _ _ _ q (wk_tup qa rv) s1 k1⟩⟩
  | lsv ds =>
    obtain ⟨a, vs, e1, qa, rv⟩ := r
    exact .inl ⟨a, e1, .inl ⟨⟨vs, qa.l⟩, out _ _ _ _ _ q (wk_lsv qa rv) s1 k1⟩⟩
  | ref a =>
    obtain ⟨ds, e1, q⟩ := q
    obtain ⟨vs, qa, rv⟩ := s1.sqL e1
    exact .inl ⟨a, r, .inl ⟨⟨vs, qa⟩, out _ _ _ _ _ q wk_lst s1 k1⟩⟩
  | str z => exact .inr ⟨z, r, out _ _ _ _ _ q wk_str s1 k1⟩
  | _ => exact False.elim q
theorem i_rev {m : ME} (hm : OkE Γ k m) : OkI Γ k (.rev m) := by
  intro c R H0 W X S tg e h
  cases e <;> first | exact absurd h Bool.false_ne_true | skip
  rename_i g args kws pos
  cases g <;> first | exact absurd h Bool.false_ne_true | skip
  rename_i x px
  rcases args with _ | ⟨a, _ | ⟨a2, args⟩⟩ <;> first | exact absurd h Bool.false_ne_true | skip
  cases kws with
  | cons _ _ => exact absurd h Bool.false_ne_true
  | nil =>
    obtain ⟨h, h5⟩ := and3 h
    obtain ⟨h, h4⟩ := and3 h
    obtain ⟨h, h3⟩ := and3 h
    obtain ⟨h1, h2⟩ := and3 h
    have e1 := of_decide_eq_true h1
    subst e1
    refine PII (RT.pi_revA (S.gl h3) (S.ok.bt _ (by decide +kernel)) (hm S h5) (star1 h4)) fun σv H Qv ⟨σ, G, Q, sr, t, out⟩ => ⟨σ, G, _, sr, t, fun x G1 v H1 q r s1 k1 => ?_⟩
    cases x with
    | tup ds =>
      obtain ⟨a, vs, e1, qa, rv⟩ := r
      exact ⟨a, vs, e1, .inr ⟨qa, out _ _ _ _ _ q (wk_revT qa rv rv.length) s1 k1⟩⟩
    | lsv ds =>
      obtain ⟨a, vs, e1, qa, rv⟩ := r
      exact ⟨a, vs, e1, .inl ⟨qa.l, out _ _ _ _ _ q (wk_revV qa rv rv.length) s1 k1⟩⟩
    | ref a =>
      obtain ⟨ds, e1, q⟩ := q
      obtain ⟨vs, qa, rv⟩ := s1.sqL e1
      exact ⟨a, vs, r, .inl ⟨qa, out _ _ _ _ _ q (wk_rev rv.length) s1 k1⟩⟩
    | _ => exact False.elim q
theorem isTup_of {tg : Expr} (h : isTup tg = true) : ∃ es j p, tg = .Tuple es j p := by
  cases tg <;> first | exact absurd h Bool.false_ne_true | exact ⟨_, _, _, rfl⟩
theorem i_enum {m : ME} (hm : OkE Γ k m) : OkI Γ k (.enum m) := by
  intro c R H0 W X S tg e h
  cases e <;> first | exact absurd h Bool.false_ne_true | skip
  rename_i g args kws pos
  cases g <;> first | exact absurd h Bool.false_ne_true | skip
  rename_i x px
  rcases args with _ | ⟨a, _ | ⟨a2, args⟩⟩ <;> first | exact absurd h Bool.false_ne_true | skip
  cases kws with
  | cons _ _ => exact absurd h Bool.false_ne_true
  | nil =>
    obtain ⟨h, h6⟩ := and3 h
    obtain ⟨h, h5⟩ := and3 h
    obtain ⟨h, h4⟩ := and3 h
    obtain ⟨h, h3⟩ := and3 h
    obtain ⟨h1, h2⟩ := and3 h
    have e1 := of_decide_eq_true h1
    subst e1
    obtain ⟨es, j, p, rfl⟩ := isTup_of h5
    refine PII (pi_enum (S.gl h3) (S.ok.bt _ (by decide +kernel)) (pa_cons (hm S h6) pa_nil (star1 h4)) (star1 h4)) fun σv H Qv ⟨σ, G, Q, sr, t, out⟩ => ⟨σ, G, _, sr, t, fun x G1 v H1 q r s1 k1 => ?_⟩
    cases x with
    | ref a =>
      obtain ⟨ds, e1, q⟩ := q
      obtain ⟨vs, qa, rv⟩ := s1.sqL e1
      exact ⟨a, vs, by rw [show v = V.ref a from r], qa, out _ _ _ _ _ q wk_enum s1 k1⟩
    | _ => exact False.elim q
theorem i_zip {m n : ME} (hm : OkE Γ k m) (hn : OkE Γ k n) : OkI Γ k (.zip m n) := by
  intro c R H0 W X S tg e h
  cases e <;> first | exact absurd h Bool.false_ne_true | skip
  rename_i g args kws pos
  cases g <;> first | exact absurd h Bool.false_ne_true | skip
  rename_i x px
  rcases args with _ | ⟨a, _ | ⟨a2, _ | ⟨a3, args⟩⟩⟩ <;> first | exact absurd h Bool.false_ne_true | skip
  cases kws with
  | cons _ _ => exact absurd h Bool.false_ne_true
  | nil =>
    obtain ⟨h, h8⟩ := and3 h
    obtain ⟨h, h7⟩ := and3 h
    obtain ⟨h, h6⟩ := and3 h
    obtain ⟨h, h5⟩ := and3 h
    obtain ⟨h, h4⟩ := and3 h
    obtain ⟨h, h3⟩ := and3 h
    obtain ⟨h1, h2⟩ := and3 h
    have e1 := of_decide_eq_true h1
    subst e1
    obtain ⟨es, j, p, rfl⟩ := isTup_of h6
    refine PII (RZ.pi_zipA (S.gl h3) (S.ok.bt _ (by decide +kernel)) (pa_cons (hm S h7) (pa_cons (hn S h8) pa_nil (star1 h5)) (star1 h4)) (star1 h4) (star_any pos (es := [a2]) (by rw [List.all_cons, h5]; rfl))) fun σv H Qv ⟨σ, G, Q, sr, t, out⟩ => ?_
    refine ⟨σ, G, _, sr, t, fun x G1 v H1 q r s1 k1 => ⟨σ, G1, _, s1, q, fun y G2 w H2 q2 r2 s2 k2 => ?_⟩⟩
    have r' := r.keep k2
    cases x with
    | tup ds =>
      cases y with
      | tup es' =>
        obtain ⟨a, vs, e1, qa, rv⟩ := r'
        obtain ⟨b, ws, e2, qb, rw'⟩ := r2
        exact ⟨a, b, vs, ws, by rw [e1, e2], .inr ⟨qa, qb, out _ _ _ _ _ q2 (wk_zipT qa rv qb rw') s2 (k1.trans k2)⟩⟩
      | _ => exact False.elim q2
    | ref a =>
      cases y with
      | ref b =>
        obtain ⟨ds, es', e1, e2, q2⟩ := q2
        obtain ⟨vs, qa, rv⟩ := s2.sqL e1
        obtain ⟨ws, qb, rw'⟩ := s2.sqL e2
        exact ⟨a, b, vs, ws, by rw [show v = V.ref a from r, show w = V.ref b from r2], .inl ⟨qa, qb, out _ _ _ _ _ q2 wk_zip s2 (k1.trans k2)⟩⟩
      | _ => exact False.elim q2
    | _ => exact False.elim q2
theorem i_range {ms : MEs} (hm : OkAn Γ k ms) : OkI Γ k (.range ms) := by
  intro c R H0 W X S tg e h
  cases e <;> first | exact absurd h Bool.false_ne_true | skip
  rename_i g args kws pos
  cases g <;> first | exact absurd h Bool.false_ne_true | skip
  rename_i x px
  cases kws with
  | cons _ _ => exact absurd h Bool.false_ne_true
  | nil =>
    obtain ⟨h, h5⟩ := and3 h
    obtain ⟨h, h4⟩ := and3 h
    obtain ⟨h, h3⟩ := and3 h
    obtain ⟨h1, h2⟩ := and3 h
    obtain ⟨e1, h0⟩ := of_decide_eq_true h1
    subst e1
    have hn := chEs_n h5
    have hmN : X.mg "range" = none := S.ok.bt _ (by decide +kernel)
    rcases args with _ | ⟨a, _ | ⟨b, _ | ⟨d, _ | ⟨d4, args⟩⟩⟩⟩
    · exact ⟨fun pins s σv H Qv I ⟨σ, G, Q, sr, t, out⟩ => by
        cases ms with
        | cons _ _ => exact absurd h5 Bool.false_ne_true
        | nil => exact False.elim t⟩
    · obtain ⟨n1, _⟩ := star_hd h4
      refine PII (pi_range1 (S.gl h3) hmN (hm S h5) (star1 n1)) fun σv H Qv ⟨σ, G, Q, sr, t, out⟩ => ⟨σ, G, _, sr, t, fun ds G1 vs H1 q hl r s1 k1 => ?_⟩
      rcases ds with _ | ⟨x, _ | ⟨y, ds⟩⟩
      · rw [← hn] at hl; exact absurd hl (by simp)
      · obtain ⟨v, e1, r1⟩ := rps1 r
        subst e1
        cases x with
        | int j => exact ⟨j, by rw [show v = V.int j from r1], q.1, q.2.1, out _ _ _ _ _ q.2.2 wk_range s1 k1⟩
        | _ => exact False.elim q
      · rw [← hn] at hl; exact absurd hl (by simp)
    · obtain ⟨n1, n2⟩ := star_hd h4
      obtain ⟨n2, _⟩ := star_hd n2
      refine PII (pi_range2 (S.gl h3) hmN (hm S h5) (by rw [star1 n1, star1 n2]; rfl) (star1 n2)) fun σv H Qv ⟨σ, G, Q, sr, t, out⟩ => ⟨σ, G, _, sr, t, fun ds G1 vs H1 q hl r s1 k1 => ?_⟩
      rw [← hn] at hl
      rcases ds with _ | ⟨x, _ | ⟨y, _ | ⟨z, ds⟩⟩⟩
      · exact absurd hl (by simp)
      · exact absurd hl (by simp)
      · obtain ⟨v, w, e1, r1, r2⟩ := rps2 r
        subst e1
        cases x with
        | int i =>
          cases y with
          | int j => exact ⟨i, j, by rw [show v = V.int i from r1, show w = V.int j from r2], q.1, out _ _ _ _ _ q.2 wk_range s1 k1⟩
          | _ => exact False.elim q
        | _ => cases y <;> exact False.elim q
      · exact absurd hl (by simp)
    · obtain ⟨n1, n2⟩ := star_hd h4
      refine PII (pi_range3 (S.gl h3) hmN (hm S h5) (star1 n1) (star_any pos n2)) fun σv H Qv ⟨σ, G, Q, sr, t, out⟩ => ⟨σ, G, _, sr, t, fun ds G1 vs H1 q hl r s1 k1 => ?_⟩
      rw [← hn] at hl
      rcases ds with _ | ⟨x, _ | ⟨y, _ | ⟨z, _ | ⟨z4, ds⟩⟩⟩⟩
      · exact absurd hl (by simp)
      · exact absurd hl (by simp)
      · exact absurd hl (by simp)
      · obtain ⟨v, ws, e1, r1, rr⟩ := r
        obtain ⟨w, u, e2, r2, r3⟩ := rps2 rr
        subst e2
        cases x with
        | int i =>
          cases y with
          | int j =>
            cases z with
            | int l =>
              obtain ⟨n, hrg, q⟩ := q
              exact ⟨i, j, l, n, by rw [e1, show v = V.int i from r1, show w = V.int j from r2, show u = V.int l from r3], hrg, out _ _ _ _ _ q wk_rangeC s1 k1⟩
            | _ => exact False.elim q
          | _ => cases z <;> exact False.elim q
        | _ => cases y <;> cases z <;> exact False.elim q
      · exact absurd hl (by simp)
    · exact absurd h0 (by simp)
end
end DL

set_option Elab.async false
set_option linter.all false
set_option maxRecDepth 100000
set_option maxHeartbeats 4000000
/-! DL12: comprehensions; expressions together. -/
namespace DL
open PySem PySem.Spec PyProof.Rows L2
theorem wipe_none {σ : L2.St} {i : Nat} : ∀ {vs : List Nat}, i ∈ vs → (wipe σ vs).set i none = wipe σ vs
  | [], h => by cases h
  | v :: vs, h => by
    show ((wipe σ vs).set v none).set i none = (wipe σ vs).set v none
    by_cases e : i = v
    · subst e; rw [List.set_set]
    · rw [List.set_comm _ _ (Ne.symm e), wipe_none (by rcases List.mem_cons.mp h with q | q; exact absurd q e; exact q)]
theorem wipe_idem_aux {σ : L2.St} (vs : List Nat) : ∀ ws : List Nat, (∀ i ∈ ws, i ∈ vs) → wipe (wipe σ vs) ws = wipe σ vs
  | [], _ => rfl
  | w :: ws, h => by
    show (wipe (wipe σ vs) ws).set w none = _
    rw [wipe_idem_aux vs ws fun i hi => h i (List.mem_cons_of_mem _ hi), wipe_none (h w List.mem_cons_self)]
theorem wipe_idem {σ : L2.St} (vs : List Nat) : wipe (wipe σ vs) vs = wipe σ vs := wipe_idem_aux vs vs fun _ h => h
theorem PEx {X : Cx} {e : Expr} {α : Type} {t : α → TE} (h : ∀ a, PE X e (t a)) : PE X e (fun σ H Q => ∃ a, t a σ H Q) := ⟨fun pins s σ H Q I ⟨a, k⟩ => (h a).run pins s σ H Q I k⟩
section
variable {Γ : GE} {k : Nat}
/-- within a comprehension -/
theorem SX.blk {c : CT} {R : Addr → Prop} {H0 : Hp} {W : WD} {X : Cx} (S : SX Γ k c R H0 W X) (hsu : c.su = false) {scope : Scope} (hk : scope.kind = .function) (R' : Addr → Prop) (H0' : Hp) (s : Shared) (H : Hp) (C : Addr) (cl : List (Str × Addr)) (fp : List Addr) :
    SX Γ k ⟨c.N, relS scope c.sc, scope, false, c.gcd⟩ R' H0' nowish (X.blk s H scope (compEnvC scope cl C X.env) fp) where
  N := S.N
  nd := S.nd
  sc := by show relS scope X.env.scope = relS scope c.sc; rw [S.sc]
  fk := hk
  fn := fun x h => by show (scope.names.lookup x == some .cell) = true; rw [show scope.names.lookup x = some .cell from h]; rfl
  un := S.un
  k2 := S.k2
  rm := fun _ => S.rm hsu
  cm := fun _ => S.cm hsu
  ok := S.ok
  tk := takes_none5.imp fun _ _ _ _ ⟨_, _, _, z, _⟩ => z
  cu := fun h => absurd h Bool.false_ne_true
theorem chI_set {c : CT} {it : MI} {e tg : Expr} (h : chI c it e tg = true) : noSet e = true := by
  cases it with
  | seq m => exact (and3 h).1
  | _ => cases e <;> first | rfl | exact absurd h Bool.false_ne_true
/-- what the layer's comprehension rules ask -/
structure LcP (X : Cx) (own : List (Str × Nat)) (tq : TE) (x tg iter : Expr) (ifs : List Expr) (scope : Scope) (wi : TI) (g : TG) (tt : TT) (te : TE) : Prop where
  pi : PI X tg iter wi
  blk : BlkOk X.N X.env.scope scope own
  pg : ∀ (s : Shared) (H : Hp) (C : Addr) (cl : List (Str × Addr)) (fp : List Addr), PG (X.blk s H scope (compEnvC scope cl C X.env) fp) tg g
  pt : ∀ (s : Shared) (H : Hp) (C : Addr) (cl : List (Str × Addr)) (fp : List Addr), PTs (X.blk s H scope (compEnvC scope cl C X.env) fp) ifs tt
  pe : ∀ (s : Shared) (H : Hp) (C : Addr) (cl : List (Str × Addr)) (fp : List Addr), PE (X.blk s H scope (compEnvC scope cl C X.env) fp) x te
  set : ∀ v, foldedSetIterable iter X.env v = pure v
  rd : ∀ σ H Q, tq σ H Q → tLc wi g tt te (own.map (·.2)) σ H Q
theorem lc_parts (own : List (Str × Nat)) {g : MG} {it : MI} {t : MO} {el : ME} (hI : OkI Γ k it) (hG : OkG Γ k g) (hC : OkC Γ k t) (hE : OkE Γ k el) {c : CT} {R : Addr → Prop} {H0 : Hp} {W : WD} {X : Cx} (S : SX Γ k c R H0 W X) {e : Expr} (h : chE c (.lc own g it t el) e = true) :
    ∃ x tg iter ifs scope pos wi g' tt te, e = .ListComp x [⟨tg, iter, ifs, 0⟩] scope pos ∧ c.su = false ∧ LcP X own (lE X.K R H0 W (wpE Γ (.lc own g it t el))) x tg iter ifs scope wi g' tt te := by
  have key : ∃ x tg iter ifs scope pos, e = .ListComp x [⟨tg, iter, ifs, 0⟩] scope pos ∧ c.su = false ∧ blkC c.N c.sc scope own = true ∧ chI c it iter tg = true ∧ chG ⟨c.N, relS scope c.sc, scope, false, c.gcd⟩ g tg = true ∧ ownB own g = true ∧
      chC ⟨c.N, relS scope c.sc, scope, false, c.gcd⟩ t ifs = true ∧ chE ⟨c.N, relS scope c.sc, scope, false, c.gcd⟩ el x = true := by
    cases e <;> first | exact absurd h Bool.false_ne_true | skip
    rename_i x gens scope pos
    rcases gens with _ | ⟨⟨tg, iter, ifs, as⟩, _ | ⟨g2, gens⟩⟩
    · exact absurd h Bool.false_ne_true
    · by_cases ea : as = 0
      · subst ea
        obtain ⟨h, h7⟩ := and3 h
        obtain ⟨h, h6⟩ := and3 h
        obtain ⟨h, h5⟩ := and3 h
        obtain ⟨h, h4⟩ := and3 h
        obtain ⟨h, h3⟩ := and3 h
        obtain ⟨h1, h2⟩ := and3 h
        exact ⟨x, tg, iter, ifs, scope, pos, rfl, S.suB h1, h2, h3, h4, h5, h6, h7⟩
      · exact absurd h (by simp [chE, ea])
    · exact absurd h (by simp [chE])
  obtain ⟨x, tg, iter, ifs, scope, pos, rfl, hsu, h2, h3, h4, h5, h6, h7⟩ := key
  have blk : BlkOk X.N X.env.scope scope own := by rw [S.N, S.sc]; exact blkOk_by h2
  have sx := fun (R' : Addr → Prop) (H0' : Hp) => S.blk hsu blk.kind R' H0'
  refine ⟨x, tg, iter, ifs, scope, pos, _, fun v σ H Q => ∃ p : (Addr → Prop) × Hp, lG X.K p.1 p.2 nowish (some own) (wpG Γ g) v σ H Q, fun σ H Q => ∃ p : (Addr → Prop) × Hp, lT X.K p.1 p.2 nowish (wpC Γ t) σ H Q,
    fun σ H Q => ∃ p : (Addr → Prop) × Hp, lE X.K p.1 p.2 nowish (wpE Γ el) σ H Q, rfl, hsu, hI S h3, blk, fun s H C cl fp => ?_, fun s H C cl fp => ?_, fun s H C cl fp => ?_, set_plain (chI_set h3), ?_⟩
  · exact ⟨fun pins s' σ H' v u Q I r ⟨p, z⟩ => (hG (sx p.1 p.2 s H C cl fp) (o := some own) (fun o e => by cases e; exact h5) h4).run pins s' σ H' v u Q I r z⟩
  · exact ⟨fun pins s' σ H' Q I ⟨p, z⟩ => (hC (sx p.1 p.2 s H C cl fp) h6).run pins s' σ H' Q I z⟩
  · exact PEx fun p => hE (sx p.1 p.2 s H C cl fp) h7
  intro σv H Qv ⟨σ, G, Q, sr, t', out⟩
  refine ⟨σ, G, _, sr, t', fun ds src G1 H1 J ⟨hlen, q⟩ wk s1 k1 Da hD => ?_⟩
  have hRD : ¬ R Da := fun r => s1.nres Da r hD
  have hs := sizeLine_eq
  generalize hgg : (fun (d : D) (σ1 : Sg) (G2 : DH) (K : Sg → DH → Prop) => wpG Γ g d nowish σ1 G2 K) = gg at q
  generalize htt : (fun (σ1 : Sg) (G2 : DH) (K : Bool → DH → Prop) => wpC Γ t nowish σ1 G2 K) = ttt at q
  generalize hee : (fun (σ1 : Sg) (G2 : DH) (K : QD) => wpE Γ el nowish σ1 G2 K) = eee at q
  generalize hQQ : (fun (acc : List D) (G2 : DH) => ∀ p, G2 p = none → Q (.ref p) (put G2 p (.lst acc))) = QQ at q
  refine ⟨fun i m H2 => m + i = ds.length ∧ ∃ G2 acc vacc, SR X.K R H0 σ G2 σv H2 ∧ G2 Da = none ∧ H2 Da = some (.lst vacc) ∧ Rps X.K H2 acc vacc ∧ acc.length ≤ i ∧ Keep R H1 H2 ∧ lcD src gg ttt eee QQ (wipeD σ own) (ds.drop i) acc G2,
    ⟨ds.length, rfl, G1, [], [], s1.hid hD, s1.free hD, upd_same, rfl, Nat.le_refl _, Keep.new hD s1.nres, q⟩, ?_⟩
  rintro i m H2 ⟨hm, G2, acc, vacc, s2, gD, hDa, racc, hal, k2, q2⟩
  by_cases hi : i < ds.length
  · right
    rw [List.drop_eq_getElem_cons hi] at q2
    obtain ⟨so, q2⟩ := q2
    have hd : ds[i]? = some ds[i] := by simp [hi]
    refine ⟨wk.go i G2 H2 hi s2.gr so k2.t, fun H' => ∃ G2 acc vacc, SR X.K R H0 σ G2 σv H' ∧ G2 Da = none ∧ H' Da = some (.lst vacc) ∧ Rps X.K H' acc vacc ∧ acc.length ≤ i + 1 ∧ Keep R H1 H' ∧ lcD src gg ttt eee QQ (wipeD σ own) (ds.drop (i + 1)) acc G2,
      fun H' hN => ⟨m - 1, by omega, by omega, hN⟩, fun x H3 y => ?_⟩
    have hR' : ∀ a, (R a ∨ a = Da) → H2 a ≠ none ∧ G2 a = none := fun a r => by
      rcases r with r | r
      · exact s2.rs a r
      · rw [r, hDa]; exact ⟨fun z => (by cases z), gD⟩
    have si : SR X.K (fun a => R a ∨ a = Da) H2 (wipeD σ own) G2 (wipe σv (own.map (·.2))) H2 := (s2.wiped own).resv hR'
    obtain ⟨s3, r3, k3⟩ := wk.next hd si so k2.t y
    subst hgg htt hee
    refine ⟨⟨_, H2⟩, ds[i], wipeD σ own, G2, _, r3, s3, q2, fun σ4 G4 σv4 H4 q4 s4 k4 o4 => ⟨?_, ⟨_, H2⟩, σ4, G4, _, s4, q4, fun b G5 H5 q5 s5 k5 => ?_⟩⟩
    · have : wipe σv4 (own.map (·.2)) = wipe (wipe σv (own.map (·.2))) (own.map (·.2)) := o4
      rw [this, wipe_idem]
    · have kk5 := (k3.trans k4).trans k5
      cases b with
      | false =>
        exact ⟨G5, acc, vacc, s2.after s5.gR kk5 fun a r => .inl r, s5.gR.2 Da (.inr rfl), (kk5.res Da (.inr rfl)).trans hDa, racc.keep kk5, Nat.le_succ_of_le hal, k2.trans (kk5.mono fun a r => .inl r), q5⟩
      | true =>
        refine ⟨⟨_, H2⟩, σ4, G5, _, s5, q5, fun yd G6 v H6 q6 r6 s6 k6 => ?_⟩
        have kk6 := kk5.trans k6
        have hD6 : H6 Da = some (.lst vacc) := (kk6.res Da (.inr rfl)).trans hDa
        have so6 := s2.after s6.gR kk6 fun a r => .inl r
        obtain ⟨s7, k7⟩ := so6.hidw (o := .lst (vacc ++ [v])) hD6 (s6.gR.2 Da (.inr rfl)) hRD (fun _ z => nomatch z) (fun _ _ z => nomatch z)
        refine ⟨vacc, hD6, by rw [racc.length]; omega, G6, acc ++ [yd], vacc ++ [v], s7, s6.gR.2 Da (.inr rfl), upd_same, ((racc.keep kk6).append (Rps.one r6)).keep k7, by simp; omega, (k2.trans (kk6.mono fun a r => .inl r)).trans k7, q6⟩
  · left
    have e : i = ds.length := by omega
    subst e
    rw [List.drop_length] at q2
    obtain ⟨so, q2⟩ := q2
    refine ⟨wk.stop G2 H2 s2.gr so k2.t, ?_⟩
    subst hQQ
    exact out (.ref Da) (put G2 Da (.lst acc)) (.ref Da) H2 (q2 Da gD) rfl (s2.shown ⟨vacc, hDa, racc⟩ hRD) (k1.trans k2)
theorem e_lc (own : List (Str × Nat)) {g : MG} {it : MI} {t : MO} {el : ME} (hI : OkI Γ k it) (hG : OkG Γ k g) (hC : OkC Γ k t) (hE : OkE Γ k el) : OkE Γ k (.lc own g it t el) := by
  intro c R H0 W X S e h
  obtain ⟨x, tg, iter, ifs, scope, pos, wi, g', tt, te, rfl, hsu, p⟩ := lc_parts own hI hG hC hE S h
  exact PEi (pe_lc (S.cm hsu) (by rw [S.N]; exact S.nd) p.pi p.blk p.pg p.pt p.pe p.set) p.rd
end
end DL

set_option Elab.async false
set_option linter.all false
set_option maxRecDepth 100000
set_option maxHeartbeats 4000000
/-! DL13: the small language's expressions are sound. -/
namespace DL
open PySem PySem.Spec PyProof.Rows L2
section
variable (Γ : GE) (k : Nat)
theorem e_dct0 : OkE Γ k .dct0 := by
  intro c R H0 W X S e h
  cases e <;> first | exact absurd h Bool.false_ne_true | skip
  rename_i ks vs pos
  cases ks <;> cases vs <;> first | exact absurd h Bool.false_ne_true | skip
  exact PEi pe_dnewK fun σv H Qv ⟨σ, G, Q, sr, q, out⟩ p hp => out _ _ _ _ (q p (sr.free hp)) rfl (sr.new hp ⟨[], upd_same, rfl⟩) (Keep.new hp sr.nres)
theorem t_never {m : ME} (h : ∀ W σ G Q, ¬ wpT Γ m W σ G Q) : OkT Γ k m := fun _ _ _ => PT_never fun _ _ _ ⟨_, _, _, _, z, _⟩ => h _ _ _ _ z
mutual
theorem okE : (m : ME) → OkE Γ k m
  | .var i => e_var i
  | .non => e_non
  | .bl b => e_bl b
  | .int i => e_int i
  | .str s => e_str s
  | .bin op a b => e_bin op (okE a) (okE b)
  | .neg a => e_neg (okE a)
  | .cmp op a b => (e_cmp op (okE a) (okE b)).1
  | .chain op op' a b d => (e_chain op op' (okE a) (okE b) (okE d)).1
  | .and es => e_and (okAnd es)
  | .or es => e_or (okOr es)
  | .not a => e_notE (okE a)
  | .ifx t a b => e_ifE (okT t) (okE a) (okE b)
  | .tup es => e_tup (okAs es)
  | .lst es => e_lst (okAs es)
  | .dct0 => e_dct0 Γ k
  | .ix a i => e_ix (okE a) (okE i)
  | .slc a lo hi => e_slc (okE a) (okO lo) (okO hi)
  | .revl a => e_revl (okE a)
  | .call f es => e_call (okAs es)
  | .callk f es ks kes => e_callk (okAs es) (okKs kes)
  | .bi b es => e_bi b (OkAn.pl (okAs es))
  | .isi a t => e_isi t (okE a)
  | .meth m o es => e_meth m (okE o) (OkAn.pl (okAs es))
  | .lc own g it t e => e_lc own (okI it) (okG g) (okC t) (okE e)
  | .glob x => e_glob x
  | .fstr es => e_fstr (okJ es)
  | .fmt a => e_fmt (okE a)
  | .exf i f => e_exf i f
theorem okT : (m : ME) → OkT Γ k m
  | .var i => t_var i
  | .non => t_never Γ k (m := .non) fun _ _ _ _ z => z
  | .bl b => e_bl_T b
  | .int i => t_never Γ k (m := .int i) fun _ _ _ _ z => z
  | .str s => t_never Γ k (m := .str s) fun _ _ _ _ z => z
  | .bin op a b => t_never Γ k (m := .bin op a b) fun _ _ _ _ z => z
  | .neg a => t_never Γ k (m := .neg a) fun _ _ _ _ z => z
  | .cmp op a b => (e_cmp op (okE a) (okE b)).2
  | .chain op op' a b d => (e_chain op op' (okE a) (okE b) (okE d)).2
  | .and es => t_and (okTAnd es)
  | .or es => t_or (okTOr es)
  | .not a => e_not (okT a)
  | .ifx t a b => e_ifT (okT t) (okT a) (okT b)
  | .tup es => t_never Γ k (m := .tup es) fun _ _ _ _ z => z
  | .lst es => t_never Γ k (m := .lst es) fun _ _ _ _ z => z
  | .dct0 => t_never Γ k (m := .dct0) fun _ _ _ _ z => z
  | .ix a i => t_ix (okE a) (okE i)
  | .slc a lo hi => t_never Γ k (m := .slc a lo hi) fun _ _ _ _ z => z
  | .revl a => t_never Γ k (m := .revl a) fun _ _ _ _ z => z
  | .call f es => t_call (okAs es)
  | .callk f es ks kes => t_never Γ k (m := .callk f es ks kes) fun _ _ _ _ z => z
  | .bi b es => t_bi b (OkAn.pl (okAs es))
  | .isi a t => t_isi t (okE a)
  | .meth m o es => t_never Γ k (m := .meth m o es) fun _ _ _ _ z => z
  | .lc own g it t e => t_never Γ k (m := .lc own g it t e) fun _ _ _ _ z => z
  | .glob x => t_never Γ k (m := .glob x) fun _ _ _ _ z => z
  | .fstr es => t_never Γ k (m := .fstr es) fun _ _ _ _ z => z
  | .fmt a => t_never Γ k (m := .fmt a) fun _ _ _ _ z => z
  | .exf i f => t_never Γ k (m := .exf i f) fun _ _ _ _ z => z
theorem okAs : (ms : MEs) → OkAn Γ k ms
  | .nil => an_nil
  | .cons m ms => an_cons (okE m) (okAs ms)
theorem okKs : (ms : MEs) → OkK Γ k ms
  | .nil => k_nil
  | .cons m ms => k_cons (okE m) (okKs ms)
theorem okAnd : (ms : MEs) → OkB (Γ := Γ) (k := k) .And (wpAnd Γ) ms
  | .nil => b_and_nil
  | .cons m ms => b_and_cons (okE m) (okAnd ms)
theorem okOr : (ms : MEs) → OkB (Γ := Γ) (k := k) .Or (wpOr Γ) ms
  | .nil => b_or_nil
  | .cons m ms => b_or_cons (okE m) (okOr ms)
theorem okTAnd : (ms : MEs) → OkBT (Γ := Γ) (k := k) .And (wpTAnd Γ) ms
  | .nil => t_and_nil
  | .cons m ms => t_and_cons (okT m) (okTAnd ms)
theorem okTOr : (ms : MEs) → OkBT (Γ := Γ) (k := k) .Or (wpTOr Γ) ms
  | .nil => t_or_nil
  | .cons m ms => t_or_cons (okT m) (okTOr ms)
theorem okJ : (ms : MEs) → OkJ Γ k ms
  | .nil => j_nil
  | .cons m ms => j_cons (okE m) (okJ ms)
theorem okO : (m : MO) → OkO Γ k m
  | .none => o_none
  | .some m => o_some (okE m)
theorem okC : (m : MO) → OkC Γ k m
  | .none => c_none
  | .some m => c_some (okT m)
theorem okG : (m : MG) → OkG Γ k m
  | .name i => g_name i
  | .tup gs => g_tup (okGs gs)
  | .sub o i => g_sub (okE o) (okE i)
theorem okGs : (ms : MGs) → OkGs Γ k ms
  | .nil => gs_nil
  | .cons g gs => gs_cons (okG g) (okGs gs)
theorem okI : (m : MI) → OkI Γ k m
  | .seq m => i_seq (okE m)
  | .range ms => i_range (okAs ms)
  | .enum m => i_enum (okE m)
  | .zip a b => i_zip (okE a) (okE b)
  | .rev m => i_rev (okE m)
end
end
end DL

set_option Elab.async false
set_option linter.all false
set_option maxRecDepth 100000
set_option maxHeartbeats 4000000
/-! DL14: a try with several clauses, each with a name or without, whose suites return. -/
namespace DL
open PySem PySem.Spec PyProof.Rows L2
/-- a clause: its class, its name's slot, the suite's reading -/
abbrev Cl := Value × Option Nat × (Addr → Value → Option Addr → TS)
def slotAs (i : Option Nat) (a : Addr) (σ : L2.St) : L2.St := match i with
  | none => σ
  | some i => σ.set i (some (.ref a))
/-- only a return ends the suite -/
def retOnly (D : Ends) : Ends := { nx := fun _ _ => False, rt := D.rt, bk := fun _ _ => False, ct := fun _ _ => False }
def wMix (K : PySem.W.Frag) (Wo : WX) (D : Ends) : List Cl → WX
  | [] => Wo
  | (c, i, ts) :: rest => fun cls d σ H => ∃ b, PySem.W.exmOne K cls c = some b ∧ (b = true → ∀ a, H a = none → ts a cls d (retOnly D) (slotAs i a σ) H) ∧ (b = false → wMix K Wo D rest cls d σ H)
/-- the name of a clause -/
def AsOk (X : Cx) (nm : Option Str) (i : Option Nat) : Prop := match nm, i with
  | none, none => True
  | some n, some i => X.N[i]? = some n ∧ X.env.scope.names.lookup n = some .local
  | _, _ => False
inductive MixOk (X : Cx) : List ExceptHandler → List Cl → Prop
  | nil : MixOk X [] []
  | cons {x : Str} {c : Value} {i : Option Nat} {nm : Option Str} {ts : Addr → Value → Option Addr → TS} {b₀ : Stmt} {np hp : Pos} {hds : List ExceptHandler} {cl : List Cl} (hc : Names X x c) (hn : AsOk X nm i)
      (su : ∀ (a : Addr) (oe : Obj) (cls : Value) (d : Option Addr) (pn : List (Addr × Obj)), Zc cls d oe → (∃ vs, oe.data = .fields vs) → PSs (X.suite a ((a, oe) :: pn)) [b₀] (ts a cls d)) (rest : MixOk X hds cl) :
      MixOk X (.ExceptHandler (some (.Name x np)) nm [b₀] hp :: hds) ((c, i, ts) :: cl)
section
variable {X : Cx}
/-- the clauses, looked at one after another; the exception has come down into this frame -/
theorem mix_go {pins : List (Addr × Obj)} {σ1 : L2.St} {H1 : Hp} {sI s1 : Shared} {B h3 : Heap} {a : Addr} {cls : Value} {d : Option Addr} {Wo : WX} {D : Ends} (ok : X.Ok) (hNd : X.N.Nodup) (stk : X.stack = X.env :: X.outer) (frm : X.env.frame = some X.env.locals) (tk : Takes X Wo)
    (J : Inv X pins σ1 H1 sI) (nb : ∀ b o, sI.heap.get? b = some o → b ∉ frs X.stack → B.get? b = some o) (up : sI.heap.UpToSlots h3) (fl : HandSPX.FlyingZ B (X.env :: X.outer) a (Zc cls d) h3) (na : H1 a = none) (os : s1.os = sI.os) (ag : AllBare s1.gens) :
    ∀ {hds : List ExceptHandler} {cl : List Cl}, MixOk X hds cl → wMix X.K Wo D cl cls d σ1 H1 → wpAny (model X.prog X.w) X.A (handleBy (.ref a) X.env hds) (SP X pins D) X.xe { s1 with heap := h3 } := by
  have J3 : Inv X pins σ1 H1 { s1 with heap := h3 } := J.landed nb fl.1 up os ag
  obtain ⟨oe, vs, he, hz, hd⟩ := fl.there
  have out : a ∉ frs (X.env :: X.outer) := fun hm => by
    obtain ⟨_, o', e', hnf⟩ := fl.2.2.1.mem hm
    rw [he] at e'; cases e'
    exact hnf _ hd
  have nL : a ≠ X.env.locals := fun z => out (List.mem_filterMap.mpr ⟨X.env, List.mem_cons_self, by rw [frm, z]⟩)
  have nF : a ∉ X.fs := fun hm => by
    obtain ⟨e, h1, h2⟩ := List.mem_filterMap.mp hm
    exact out (List.mem_filterMap.mpr ⟨e, List.mem_cons_of_mem _ h1, h2⟩)
  have S3 := J3.suite he hd na nL nF
  intro hds cl hk
  induction hk with
  | nil =>
    intro w
    refine wpAny_handleBy_nil ?_
    obtain ⟨_, _, _, o5, v5, T5, _, _, e5, _, d5, f5, _⟩ := id fl
    unfold PySem.passOn
    refine wpAny_bind (wpAny_field e5 d5 f5 ?_)
    rw [if_neg (show ¬ ((Value.ref T5 == Value.none) = true) from by simp)]
    have fin : wpAny (model X.prog X.w) X.A (setFlight (.ref a) X.env.frame) (fun _ s4 => wpAny (model X.prog X.w) X.A (throw (.ref a) : Sem Flow) (SP X pins D) X.xe s4) X.xe { s1 with heap := h3 } := by
      rw [frm]
      exact HandSPX.setFlight_upZ fl fun h4 held up4 => wpAny_throw (tk _ _ ⟨a, B, sI, pins, σ1, H1, cls, d, rfl, J, nb, up.trans up4, .inr (.inr (by rw [stk]; exact held)), na, os, ag, w⟩)
    first
      | exact wpAny_bind (wpAny_pure (wpAny_bind fin))
      | exact wpAny_bind fin
  | @cons x c i nm ts b₀ np hp hds' cl' hc hn su rest ih =>
    intro w
    obtain ⟨b, eb, yes, no⟩ := w
    refine wpAny_handleBy_cons (codeAny_handlers_test ?_) (by intro q; cases q)
    have LT : PySem.W.Looks (model X.prog X.w) h3 (typeOf (.ref a)) cls := fun A Q E s k q => wpAny_typeOf_ref (k _ _ he) (by rw [hz.1]; exact q)
    have LM := PySem.W.exm_one (M := model X.prog X.w) J3.kIn LT eb
    have name : ∀ {Q : Value → Shared → Prop} {E : Value → Shared → Prop}, Q c { s1 with heap := h3 } → wpAny (model X.prog X.w) (X.A.mark (some (.ref a))) (eval (.Name x np) X.env) Q E { s1 with heap := h3 } := fun {Q E} q => by
      obtain ⟨hg, hdb, hm | ⟨hm, hv, hnn⟩⟩ := hc
      · exact ld_glob (X := X.suite a ((a, oe) :: (X.pn ++ pins))) S3 hg hm q hdb
      · exact ld_blt (X := X.suite a ((a, oe) :: (X.pn ++ pins))) S3 hg hm hv q hnn hdb
    refine name (LM.here ?_)
    cases b with
    | false => exact ih (no rfl)
    | true =>
      have run := yes rfl a na
      cases nm with
      | none =>
        cases i with
        | some _ => exact False.elim hn
        | none =>
          refine codeAny_handlers_suite (HandSPX.lands_againZ fl fun h4 fl4 up4 => ?_)
          obtain ⟨o4, v4, he4, hz4, hd4⟩ := fl4.there
          have J4 : Inv X pins σ1 H1 { s1 with heap := h4 } := J.landed nb fl4.1 (up.trans up4) os ag
          have S4 := J4.suite he4 hd4 na nL nF
          refine wpAny_mono ((su a o4 cls d (X.pn ++ pins) hz4 ⟨_, hd4⟩).run [] _ _ H1 _ S4 run) (fun f s6 end6 => ?_) (fun _ _ z => z.elim)
          cases f with
          | ret u =>
            obtain ⟨v, σ6, H6, S6, r6, q6⟩ := end6
            exact ⟨v, σ6, H6, S6.unsuite ok, r6, q6⟩
          | next => obtain ⟨_, _, _, z⟩ := end6; exact False.elim z
          | brk => obtain ⟨_, _, _, z⟩ := end6; exact False.elim z
          | cont => obtain ⟨_, _, _, z⟩ := end6; exact False.elim z
      | some n =>
        cases i with
        | none => exact False.elim hn
        | some i =>
          obtain ⟨hi, hl⟩ := hn
          refine codeAny_handlers_suite_as (HandSPX.lands_againZ fl fun h4 fl4 up4 => ?_)
          obtain ⟨o4, v4, he4, hz4, hd4⟩ := fl4.there
          have J4 : Inv X pins σ1 H1 { s1 with heap := h4 } := J.landed nb fl4.1 (up.trans up4) os ag
          have S4 := J4.suite he4 hd4 na nL nF
          refine store_ok (X := X.suite a ((a, o4) :: (X.pn ++ pins))) (v := .ref a) S4 hNd hi (.inl hl) rfl (fun s5 S5 => ?_) (.inr hl)
          refine wpAny_mono ((su a o4 cls d (X.pn ++ pins) hz4 ⟨_, hd4⟩).run [] s5 _ H1 _ S5 run) (fun f s6 end6 => ?_) (fun _ _ z => z.elim)
          cases f with
          | ret u =>
            obtain ⟨v, σ6, H6, S6, r6, q6⟩ := end6
            exact gone_ok (S6.unsuite ok) hNd hi hl fun s7 J7 => ⟨v, _, H6, J7, r6, q6⟩
          | next => obtain ⟨_, _, _, z⟩ := end6; exact False.elim z
          | brk => obtain ⟨_, _, _, z⟩ := end6; exact False.elim z
          | cont => obtain ⟨_, _, _, z⟩ := end6; exact False.elim z
theorem ps_try_mix {body : List Stmt} {hd : ExceptHandler} {hds : List ExceptHandler} {cl : List Cl} {pos : Pos} {tb : WX → TS} {Wo : WX} (stk : X.stack = X.env :: X.outer) (frm : X.env.frame = some X.env.locals) (hNd : X.N.Nodup) (tk : Takes X Wo)
    (hb : ∀ (W : WX) (pn : List (Addr × Obj)) (xe : Value → Shared → Prop), Takes (X.tr pn xe) W → PassesOwn (model X.prog X.w) X.A X.env xe → PSs (X.tr pn xe) body (tb W))
    (hh : MixOk X (hd :: hds) cl) : PS X (.Try body (hd :: hds) [] [] pos) (fun D σ H => tb (wMix X.K Wo D cl) D σ H) := by
  refine ⟨fun pins s σ H D I h => wpAny_Try_except ?_⟩
  have ok := I.ok
  have frames : X.A.frames = some (X.env :: X.outer) := by rw [ok.frames, stk]
  have it := hb (wMix X.K Wo D cl) (X.pn ++ pins) (fun e s₁ => wpAny (model X.prog X.w) X.A (noteFrame e X.env) (fun _ s₂ => wpAny (model X.prog X.w) X.A (setFlight e none) (fun _ s₃ =>
    wpAny (model X.prog X.w) X.A (handleBy e X.env (hd :: hds)) (SP X pins D) X.xe s₃) X.xe s₂) X.xe s₁)
    (fun u s' air => by
      obtain ⟨a, B, sI, pins', σ1, H1, cls, d, rfl, J', nb, up, sky, na, os, ag, w⟩ := air
      have J : Inv X pins σ1 H1 sI := J'.ofTry ok
      have sky' : Sky B (X.env :: X.outer) a (Zc cls d) X.env.locals s'.heap := by rw [← stk]; exact sky
      exact Sky.land Zc.steady frames frm sky' fun h3 fl up3 => mix_go ok hNd stk frm tk J nb (up.trans up3) fl na os ag hh w)
    PassesOwn.looking
  refine wpAny_mono (it.run [] s σ H D (I.toTry _) h) (fun f s1 end1 => ?_) (fun e s1 he => he)
  cases f with
  | next =>
    obtain ⟨σ2, H2, J2, q⟩ := end1
    exact wpAny_execs_nil ⟨σ2, H2, J2.ofTry ok, q⟩
  | brk => obtain ⟨σ2, H2, J2, q⟩ := end1; exact ⟨σ2, H2, J2.ofTry ok, q⟩
  | cont => obtain ⟨σ2, H2, J2, q⟩ := end1; exact ⟨σ2, H2, J2.ofTry ok, q⟩
  | ret u => obtain ⟨v, σ2, H2, J2, r, q⟩ := end1; exact ⟨v, σ2, H2, J2.ofTry ok, r, q⟩
end
end DL

set_option Elab.async false
set_option linter.all false
set_option maxRecDepth 100000
set_option maxHeartbeats 4000000
/-! DL15: the checker of statements. -/
namespace DL
open PySem PySem.Spec PyProof.Rows L2
def isName : Expr → Bool
  | .Name _ _ => true
  | _ => false
/-- a store of several targets is from the left -/
def leftS (tg e : Expr) : Bool := match tg with
  | .Tuple ts _ _ => (match e with
    | .Tuple vs _ _ => decide (3 < ts.length) || decide (vs.length ≠ ts.length) || ts.any fun t => !isName t
    | _ => true)
  | .List _ _ => false
  | _ => true
def notSD : Expr → Bool
  | .SetComp _ _ _ _ => false
  | .DictComp _ _ _ _ _ => false
  | _ => true
def swOk (vs : List Expr) : Bool := !vs.all (foldedForSure 8) && !vs.all (constantsAlone 8)
def locP (c : CT) (x : Str) : Bool := match c.sc.names.lookup x with
  | some .local => true
  | _ => false
/-- an except clause -/
def chH (c : CT) (h : MH) : ExceptHandler → Bool
  | .ExceptHandler (some (.Name x _)) nm [.Return (some e) _] _ => decide (x = h.cls) && glB c.sc x && (match nm, h.as with
      | none, none => true
      | some n, some i => atN c i n && locP c n
      | _, _ => false) && chE { c with su := true } h.ret e
  | _ => false
def chHs (c : CT) : List MH → List ExceptHandler → Bool
  | [], [] => true
  | h :: hs, e :: es => chH c h e && chHs c hs es
  | _, _ => false
mutual
def chS (c : CT) : MS → Stmt → Bool
  | .expr m => fun s => match s with | .Expr e _ => noComp e && chE c m e | _ => false
  | .ret m => fun s => match s with | .Return (some e) _ => chE c m e | _ => false
  | .retN => fun s => match s with | .Return none _ => true | _ => false
  | .par2 i j ms => fun s => match s with
    | .Assign [.Tuple [.Name x p, .Name y q] _ _] (.Tuple vs _ _) _ => atN c i x && atN c j y && locP c x && locP c y && decide (i ≠ j ∧ x ≠ y ∧ p.line = q.line ∧ vs.length = 2) && swOk vs && vs.all noStar && chEs c ms vs
    | _ => false
  | .par3 i j l ms => fun s => match s with
    | .Assign [.Tuple [.Name x p, .Name y q, .Name z r] _ _] (.Tuple vs _ _) _ => atN c i x && atN c j y && atN c l z && locP c x && locP c y && locP c z && decide (i ≠ j ∧ i ≠ l ∧ j ≠ l ∧ x ≠ y ∧ x ≠ z ∧ y ≠ z ∧ p.line = q.line ∧ p.line = r.line ∧ vs.length = 3) && swOk vs && vs.all noStar && chEs c ms vs
    | _ => false
  | .asg g m => fun s => match s with | .Assign [tg] e _ => noStar tg && notSD e && leftS tg e && chG c g tg && chE c m e | _ => false
  | .aug i op m => fun s => match s with | .AugAssign (.Name x _) op' e _ => decide (op = op') && atN c i x && locB c x && chE c m e | _ => false
  | .augS o i op m => fun s => match s with | .AugAssign (.Subscript a b _) op' e _ => decide (op = op') && noSlice b && chE c o a && chE c i b && chE c m e | _ => false
  | .ifs t a b => fun s => match s with | .If u x y _ => chE c t u && chSs c a x && chSs c b y | _ => false
  | .whl t b => fun s => match s with | .While u x [] _ => chE c t u && chSs c b x | _ => false
  | .forr g it b => fun s => match s with | .For tg iter x [] _ => chI c it iter tg && chG c g tg && chSs c b x | _ => false
  | .raise x ms => fun s => match s with | .Raise (some (.Call (.Name y _) args [] _)) none _ => decide (y = x) && glB c.sc y && okName y && args.all noStar && chEs c ms args | _ => false
  | .tryy b hs => fun s => match s with | .Try x (h :: hds) [] [] _ => chSs c b x && chHs c hs (h :: hds) | _ => false
  | .pass => fun s => match s with | .Pass _ => true | _ => false
  | .brk => fun s => match s with | .Break _ => true | _ => false
  | .cont => fun s => match s with | .Continue _ => true | _ => false
def chSs (c : CT) : MSs → List Stmt → Bool
  | .nil => fun ss => match ss with | [] => true | _ => false
  | .cons m ms => fun ss => match ss with | s :: ss => chS c m s && chSs c ms ss | [] => false
end
section
variable {X : Cx}
theorem fun_block (h : X.env.scope.kind = .function) : X.env.blockKind = .function := by
  unfold Env.blockKind
  rw [h]
  rfl
theorem fm_len {α β : Type} (f : α → Option β) : ∀ {l : List α} {t : α}, t ∈ l → f t = none → (l.filterMap f).length < l.length
  | [], _, h, _ => by cases h
  | x :: l, t, h, e => by
    rw [List.filterMap_cons]
    have hle : (l.filterMap f).length ≤ l.length := List.length_filterMap_le f l
    rcases List.mem_cons.mp h with q | q
    · rw [← q, e]
      exact Nat.lt_succ_of_le hle
    · have := fm_len f q e
      cases f x with
      | none => exact Nat.lt_succ_of_lt this
      | some y => exact Nat.succ_lt_succ this
theorem left_ok {tg e : Expr} (h : leftS tg e = true) : swappedStores [tg] e X.env = pure none := by
  cases tg <;> first | exact absurd h Bool.false_ne_true | rfl | skip
  rename_i ts k p
  cases e <;> first | rfl | skip
  rename_i vs k2 p2
  have h' : (decide (3 < ts.length) || decide (vs.length ≠ ts.length) || ts.any fun t => !isName t) = true := h
  unfold swappedStores
  simp only [Bool.or_eq_true, decide_eq_true_eq] at h'
  rcases h' with (h' | h') | h'
  · have : (!(ts.length == 2 || ts.length == 3)) = true := by simp; omega
    simp only [this, Bool.true_or, if_true]
  · have : (vs.length != ts.length) = true := by simp [h']
    simp only [this, Bool.or_true, Bool.true_or, if_true]
  · obtain ⟨t, ht, hn⟩ := List.any_eq_true.mp h'
    dsimp only
    split
    · rfl
    · split
      · rfl
      · split
        · rfl
        · rename_i n1 n2 n3
          refine absurd ?_ n3
          rw [Bool.or_eq_true]
          refine .inl ?_
          rw [bne_iff_ne]
          refine Nat.ne_of_lt (fm_len _ ht ?_)
          cases t <;> first | rfl | exact absurd (show (!true) = true from hn) (by decide)
theorem swOk_of {vs : List Expr} (h : swOk vs = true) : vs.all (foldedForSure 8) = false ∧ vs.all (constantsAlone 8) = false := by
  unfold swOk at h
  simp only [Bool.and_eq_true, Bool.not_eq_true'] at h
  exact h
theorem sw2 {x y : Str} {p q pt pt2 : Pos} {kt k2 : Nat} {a b : Expr} (hk : X.env.scope.kind = .function) (hx : X.env.kindOf x = some .local) (hy : X.env.kindOf y = some .local) (hxy : x ≠ y) (hl : p.line = q.line) (hs : [a, b].all noStar = true) (ho : swOk [a, b] = true) :
    swappedStores [.Tuple [.Name x p, .Name y q] kt pt] (.Tuple [a, b] k2 pt2) X.env = pure (some [x, y]) := by
  obtain ⟨o1, o2⟩ := swOk_of ho
  have hd : ([x, y] : List Str).eraseDups = [x, y] := by
    simp [List.eraseDups_cons, Ne.symm hxy]
  unfold swappedStores
  dsimp only
  rw [if_neg (by simp [fun_block hk])]
  rw [if_neg (by
    intro z
    obtain ⟨t, ht, e⟩ := List.any_eq_true.mp z
    have := List.all_eq_true.mp hs t ht
    cases t <;> first | exact absurd e Bool.false_ne_true | exact absurd this Bool.false_ne_true)]
  rw [if_neg (by simp [Expr.pos, hx, hy, hl, hd])]
  rw [if_neg (by rw [o1]; exact Bool.false_ne_true), if_neg (by rw [o2]; exact Bool.false_ne_true)]
  simp [Expr.pos, hx, hy, hl]
theorem sw3 {x y z : Str} {p q r pt pt2 : Pos} {kt k2 : Nat} {a b d : Expr} (hk : X.env.scope.kind = .function) (hx : X.env.kindOf x = some .local) (hy : X.env.kindOf y = some .local) (hz : X.env.kindOf z = some .local) (hxy : x ≠ y) (hxz : x ≠ z) (hyz : y ≠ z) (hl : p.line = q.line) (hl2 : p.line = r.line) (hs : [a, b, d].all noStar = true) (ho : swOk [a, b, d] = true) :
    swappedStores [.Tuple [.Name x p, .Name y q, .Name z r] kt pt] (.Tuple [a, b, d] k2 pt2) X.env = pure (some [x, y, z]) := by
  obtain ⟨o1, o2⟩ := swOk_of ho
  have hd : ([x, y, z] : List Str).eraseDups = [x, y, z] := by
    simp [List.eraseDups_cons, Ne.symm hxy, Ne.symm hxz, Ne.symm hyz]
  have e1 : q.line = p.line := hl.symm
  have e2 : r.line = p.line := hl2.symm
  unfold swappedStores
  dsimp only
  rw [if_neg (by simp [fun_block hk])]
  rw [if_neg (by
    intro z
    obtain ⟨t, ht, e⟩ := List.any_eq_true.mp z
    have := List.all_eq_true.mp hs t ht
    cases t <;> first | exact absurd e Bool.false_ne_true | exact absurd this Bool.false_ne_true)]
  rw [if_neg (by simp [Expr.pos, hx, hy, hz, e1, e2, hd])]
  rw [if_neg (by rw [o1]; exact Bool.false_ne_true), if_neg (by rw [o2]; exact Bool.false_ne_true)]
  simp [Expr.pos, hx, hy, hz, e1, e2]
end
end DL

set_option Elab.async false
set_option linter.all false
set_option maxRecDepth 100000
set_option maxHeartbeats 4000000
/-! DL16: the small language's statements are sound. -/
namespace DL
open PySem PySem.Spec PyProof.Rows L2
structure LE (K : PySem.W.Frag) (R : Addr → Prop) (H0 : Hp) (D : Ends) (DD : DEnds) (H : Hp) : Prop where
  nx : ∀ σ G σv H', DD.nx σ G → SR K R H0 σ G σv H' → Keep R H H' → D.nx σv H'
  rt : ∀ d G v H', DD.rt d G → Rp K H' d v → GR K R G H' → Keep R H H' → D.rt v H'
  bk : ∀ σ G σv H', DD.bk σ G → SR K R H0 σ G σv H' → Keep R H H' → D.bk σv H'
  ct : ∀ σ G σv H', DD.ct σ G → SR K R H0 σ G σv H' → Keep R H H' → D.ct σv H'
theorem LE.back {K : PySem.W.Frag} {R : Addr → Prop} {H0 H H1 : Hp} {D : Ends} {DD : DEnds} (l : LE K R H0 D DD H) (k : Keep R H H1) : LE K R H0 D DD H1 :=
  ⟨fun σ G σv H' q s k' => l.nx σ G σv H' q s (k.trans k'), fun d G v H' q r g k' => l.rt d G v H' q r g (k.trans k'), fun σ G σv H' q s k' => l.bk σ G σv H' q s (k.trans k'), fun σ G σv H' q s k' => l.ct σ G σv H' q s (k.trans k')⟩
def lS (K : PySem.W.Frag) (R : Addr → Prop) (H0 : Hp) (W : WD) (t : DS) : TS := fun D σv H => ∃ σ G DD, SR K R H0 σ G σv H ∧ t W DD σ G ∧ LE K R H0 D DD H
structure SY (X : Cx) : Prop where
  stk : X.stack = X.env :: X.outer
  frm : X.env.frame = some X.env.locals
  po : PassesOwn (model X.prog X.w) X.A X.env X.xe
theorem PSi {X : Cx} {s : Stmt} {t t' : TS} (h : PS X s t) (f : ∀ D σ H, t' D σ H → t D σ H) : PS X s t' := ⟨fun pins s' σ H D I k => h.run pins s' σ H D I (f _ _ _ k)⟩
theorem PSsi {X : Cx} {s : List Stmt} {t t' : TS} (h : PSs X s t) (f : ∀ D σ H, t' D σ H → t D σ H) : PSs X s t' := ⟨fun pins s' σ H D I k => h.run pins s' σ H D I (f _ _ _ k)⟩
section
variable (Γ : GE) (k : Nat)
def OkS (m : MS) : Prop := ∀ {c : CT} {R : Addr → Prop} {H0 : Hp} {W : WD} {X : Cx}, SX Γ k c R H0 W X → SY X → c.su = false → ∀ {s : Stmt}, chS c m s = true → PS X s (lS X.K R H0 W (wpS Γ m))
def OkSs (m : MSs) : Prop := ∀ {c : CT} {R : Addr → Prop} {H0 : Hp} {W : WD} {X : Cx}, SX Γ k c R H0 W X → SY X → c.su = false → ∀ {s : List Stmt}, chSs c m s = true → PSs X s (lS X.K R H0 W (wpSs Γ m))
end
section
variable {Γ : GE} {k : Nat}
theorem s_expr (m : ME) : OkS Γ k (.expr m) := by
  intro c R H0 W X S Y su s h
  cases s <;> first | exact absurd h Bool.false_ne_true | skip
  obtain ⟨h1, h2⟩ := and3 h
  exact PSi (ps_expr (okE Γ k m S h2) (sw_plain h1)) fun D σv H ⟨σ, G, DD, sr, t, le⟩ => ⟨σ, G, _, sr, t, fun d G1 v H1 q r s1 k1 => le.nx _ _ _ _ q s1 k1⟩
theorem s_ret (m : ME) : OkS Γ k (.ret m) := by
  intro c R H0 W X S Y su s h
  cases s <;> first | exact absurd h Bool.false_ne_true | skip
  rename_i o p
  cases o with
  | none => exact absurd h Bool.false_ne_true
  | some e => exact PSi (ps_ret (okE Γ k m S h)) fun D σv H ⟨σ, G, DD, sr, t, le⟩ => ⟨σ, G, _, sr, t, fun d G1 v H1 q r s1 k1 => le.rt _ _ _ _ q r s1.gR k1⟩
theorem s_retN : OkS Γ k .retN := by
  intro c R H0 W X S Y su s h
  cases s <;> first | exact absurd h Bool.false_ne_true | skip
  rename_i o p
  cases o with
  | some _ => exact absurd h Bool.false_ne_true
  | none => exact PSi ps_retN fun D σv H ⟨σ, G, DD, sr, t, le⟩ => le.rt _ _ _ _ t rfl sr.gR .refl
theorem s_pass : OkS Γ k .pass := by
  intro c R H0 W X S Y su s h
  cases s <;> first | exact absurd h Bool.false_ne_true | skip
  exact PSi ps_pass fun D σv H ⟨σ, G, DD, sr, t, le⟩ => le.nx _ _ _ _ t sr .refl
theorem s_brk : OkS Γ k .brk := by
  intro c R H0 W X S Y su s h
  cases s <;> first | exact absurd h Bool.false_ne_true | skip
  exact PSi ps_break fun D σv H ⟨σ, G, DD, sr, t, le⟩ => le.bk _ _ _ _ t sr .refl
theorem s_cont : OkS Γ k .cont := by
  intro c R H0 W X S Y su s h
  cases s <;> first | exact absurd h Bool.false_ne_true | skip
  exact PSi ps_continue fun D σv H ⟨σ, G, DD, sr, t, le⟩ => le.ct _ _ _ _ t sr .refl
theorem locP_of {c : CT} {R : Addr → Prop} {H0 : Hp} {W : WD} {X : Cx} (S : SX Γ k c R H0 W X) {x : Str} (h : locP c x = true) : X.env.scope.names.lookup x = some .local := by
  unfold locP at h
  rw [S.sc]
  cases e : c.sc.names.lookup x with
  | none => rw [e] at h; cases h
  | some q => rw [e] at h; cases q <;> first | rfl | cases h
theorem SX.kind {c : CT} {R : Addr → Prop} {H0 : Hp} {W : WD} {X : Cx} (S : SX Γ k c R H0 W X) : X.env.scope.kind = .function := by rw [S.sc]; exact S.fk
theorem SX.ndX {c : CT} {R : Addr → Prop} {H0 : Hp} {W : WD} {X : Cx} (S : SX Γ k c R H0 W X) : X.N.Nodup := by rw [S.N]; exact S.nd
theorem s_par2 (i j : Nat) (ms : MEs) : OkS Γ k (.par2 i j ms) := by
  intro c R H0 W X S Y su s h
  have key : ∃ x y p q kt pt a b k2 pt2 pos, s = .Assign [.Tuple [.Name x p, .Name y q] kt pt] (.Tuple [a, b] k2 pt2) pos ∧ atN c i x = true ∧ atN c j y = true ∧ locP c x = true ∧ locP c y = true ∧ (i ≠ j ∧ x ≠ y ∧ p.line = q.line) ∧ swOk [a, b] = true ∧ [a, b].all noStar = true ∧ chEs c ms [a, b] = true := by
    simp only [chS] at h
    split at h
    case h_2 => exact absurd h Bool.false_ne_true
    rename_i x p y q kt pt vs k2 pt2 pos
    obtain ⟨h, h8⟩ := and3 h
    obtain ⟨h, h7⟩ := and3 h
    obtain ⟨h, h6⟩ := and3 h
    obtain ⟨h, h5⟩ := and3 h
    obtain ⟨h, h4⟩ := and3 h
    obtain ⟨h, h3⟩ := and3 h
    obtain ⟨h1, h2⟩ := and3 h
    obtain ⟨c1, c2, c3, c4⟩ := of_decide_eq_true h5
    rcases vs with _ | ⟨a, _ | ⟨b, _ | ⟨d, vs⟩⟩⟩ <;> first | (exfalso; simp at c4; done) | skip
    exact ⟨x, y, p, q, kt, pt, a, b, k2, pt2, pos, rfl, h1, h2, h3, h4, ⟨c1, c2, c3⟩, h6, h7, h8⟩
  obtain ⟨x, y, p, q, kt, pt, a, b, k2, pt2, pos, rfl, h1, h2, h3, h4, ⟨c1, c2, c3⟩, h6, h7, h8⟩ := key
  have lx := locP_of S h3
  have ly := locP_of S h4
  refine PSi (ps_par (S.cm su) S.ndX (S.at h1) (S.at h2) c1 lx ly (OkAn.pl (okAs Γ k ms) S h8) (sw2 S.kind lx ly c2 c3 h7 h6)) fun D σv H ⟨σ, G, DD, sr, t, le⟩ => ⟨σ, G, _, sr, t, fun ds G1 vs H1 q r s1 k1 => ?_⟩
  rcases ds with _ | ⟨x1, _ | ⟨y1, _ | ⟨z1, ds⟩⟩⟩ <;> first | exact False.elim q | skip
  obtain ⟨v, w, e2, r1, r2⟩ := rps2 r
  exact ⟨v, w, e2, le.nx _ _ _ _ q ((s1.slot i r1).slot j r2) k1⟩
theorem s_par3 (i j l : Nat) (ms : MEs) : OkS Γ k (.par3 i j l ms) := by
  intro c R H0 W X S Y su s h
  have key : ∃ x y z p q r kt pt a b d k2 pt2 pos, s = .Assign [.Tuple [.Name x p, .Name y q, .Name z r] kt pt] (.Tuple [a, b, d] k2 pt2) pos ∧ (atN c i x = true ∧ atN c j y = true ∧ atN c l z = true) ∧ (locP c x = true ∧ locP c y = true ∧ locP c z = true) ∧
      (i ≠ j ∧ i ≠ l ∧ j ≠ l ∧ x ≠ y ∧ x ≠ z ∧ y ≠ z ∧ p.line = q.line ∧ p.line = r.line) ∧ swOk [a, b, d] = true ∧ [a, b, d].all noStar = true ∧ chEs c ms [a, b, d] = true := by
    simp only [chS] at h
    split at h
    case h_2 => exact absurd h Bool.false_ne_true
    rename_i x p y q z r kt pt vs k2 pt2 pos
    obtain ⟨h, h10⟩ := and3 h
    obtain ⟨h, h9⟩ := and3 h
    obtain ⟨h, h8⟩ := and3 h
    obtain ⟨h, h7⟩ := and3 h
    obtain ⟨h, h6⟩ := and3 h
    obtain ⟨h, h5⟩ := and3 h
    obtain ⟨h, h4⟩ := and3 h
    obtain ⟨h, h3⟩ := and3 h
    obtain ⟨h1, h2⟩ := and3 h
    obtain ⟨c1, c2, c3, c4, c5, c6, c7, c8, c9⟩ := of_decide_eq_true h7
    rcases vs with _ | ⟨a, _ | ⟨b, _ | ⟨d, _ | ⟨d4, vs⟩⟩⟩⟩ <;> first | (exfalso; simp at c9; done) | skip
    exact ⟨x, y, z, p, q, r, kt, pt, a, b, d, k2, pt2, pos, rfl, ⟨h1, h2, h3⟩, ⟨h4, h5, h6⟩, ⟨c1, c2, c3, c4, c5, c6, c7, c8⟩, h8, h9, h10⟩
  obtain ⟨x, y, z, p, q, r, kt, pt, a, b, d, k2, pt2, pos, rfl, ⟨h1, h2, h3⟩, ⟨h4, h5, h6⟩, ⟨c1, c2, c3, c4, c5, c6, c7, c8⟩, h8, h9, h10⟩ := key
  have lx := locP_of S h4
  have ly := locP_of S h5
  have lz := locP_of S h6
  refine PSi (ps_par3 (S.cm su) S.ndX (S.at h1) (S.at h2) (S.at h3) c1 c2 c3 lx ly lz (OkAn.pl (okAs Γ k ms) S h10) (sw3 S.kind lx ly lz c4 c5 c6 c7 c8 h9 h8)) fun D σv H ⟨σ, G, DD, sr, t, le⟩ => ⟨σ, G, _, sr, t, fun ds G1 vs H1 q r s1 k1 => ?_⟩
  rcases ds with _ | ⟨x1, _ | ⟨y1, _ | ⟨z1, _ | ⟨z4, ds⟩⟩⟩⟩ <;> first | exact False.elim q | skip
  obtain ⟨u, vs', e2, r1, rr⟩ := r
  obtain ⟨v, w, e3, r2, r3⟩ := rps2 rr
  subst e3
  exact ⟨u, v, w, e2, le.nx _ _ _ _ q (((s1.slot i r1).slot j r2).slot l r3) k1⟩
/-- a store -/
theorem asg_rd {X : Cx} {R : Addr → Prop} {H0 : Hp} {W : WD} {te : DE} {g : MG} {D : Ends} {σv : L2.St} {H : Hp} (h : lS X.K R H0 W (fun W D σ G => te W σ G fun x G1 => wpG Γ g x W σ G1 D.nx) D σv H) :
    tAsg (lE X.K R H0 W te) (lG X.K R H0 W none (wpG Γ g)) D σv H := by
  obtain ⟨σ, G, DD, sr, t, le⟩ := h
  exact ⟨σ, G, _, sr, t, fun x G1 v H1 q r s1 k1 => ⟨x, σ, G1, DD.nx, r, s1, q, fun σ2 G2 σv2 H2 q2 s2 k2 _ => le.nx _ _ _ _ q2 s2 (k1.trans k2)⟩⟩
theorem s_asg (g : MG) (m : ME) : OkS Γ k (.asg g m) := by
  intro c R H0 W X S Y su s h
  cases s <;> first | exact absurd h Bool.false_ne_true | skip
  rename_i ts e pos
  rcases ts with _ | ⟨tg, _ | ⟨t2, ts⟩⟩ <;> first | exact absurd h Bool.false_ne_true | skip
  obtain ⟨h, h5⟩ := and3 h
  obtain ⟨h, h4⟩ := and3 h
  obtain ⟨h, h3⟩ := and3 h
  obtain ⟨h1, h2⟩ := and3 h
  have pe := okE Γ k m S h5
  have pg := okG Γ k g S (o := none) (fun _ z => nomatch z) h4
  have h6 : (assignEach [tg] X.env).map (·.2) = [assign tg X.env] := by rw [asgE1 h1]; rfl
  by_cases hw : swapsWith e (some tg) pos.line X.env = pure false
  · exact PSi (ps_asg pe pg hw (left_ok h3) h6) fun D σv H z => asg_rd z
  · -- a comprehension that is stored at once
    cases e with
    | ListComp x gens scope p =>
      cases m with
      | lc own g' it t el =>
        cases tg with
        | Name y py =>
          have hb : swapsWith (.ListComp x gens scope p) (some (.Name y py)) pos.line X.env = pure (X.env.blockKind == .function && X.env.kindOf y == some .local && py.line == (Expr.ListComp x gens scope p).pos.line && !(scope.names.any fun (n, k) => n == y && (k == .local || k == .cell))) := rfl
          rw [hb] at hw
          cases hc : (X.env.blockKind == .function && X.env.kindOf y == some .local && py.line == (Expr.ListComp x gens scope p).pos.line && !(scope.names.any fun (n, k) => n == y && (k == .local || k == .cell))) with
          | false => rw [hc] at hw; exact absurd rfl hw
          | true =>
            rw [hc] at hb
            have hl : X.env.scope.names.lookup y = some .local := by
              have := (and3 (and3 (and3 hc).1).1).2
              exact eq_of_beq this
            cases g with
            | name i =>
              obtain ⟨a1, a2⟩ := and3 h4
              obtain ⟨x', tg', iter, ifs, scope', pos', wi, gg, tt, te, e1, hsu, p'⟩ := lc_parts own (okI Γ k it) (okG Γ k g') (okC Γ k t) (okE Γ k el) S h5
              cases e1
              refine PSi (ps_setLc (S.cm su) S.ndX (S.at a1) hl hb p'.pi p'.blk p'.pg p'.pt p'.pe p'.set) fun D σv H z => ?_
              have z' := asg_rd (te := wpE Γ (.lc own g' it t el)) (g := .name i) z
              exact p'.rd _ _ _ (by
                obtain ⟨σ, G, Q, sr, t', out⟩ := z'
                exact ⟨σ, G, Q, sr, t', fun d G' v H' q r s1 k1 => by
                  obtain ⟨d0, σ1, G1, Q1, r1, s1', q1, out1⟩ := out d G' v H' q r s1 k1
                  exact out1 _ _ _ _ q1 (s1'.slot i r1) .refl trivial⟩)
            | _ => exact absurd h4 Bool.false_ne_true
        | _ => exact absurd (show (pure false : Sem Bool) = pure false from rfl) hw
      | _ => exact absurd h5 Bool.false_ne_true
    | SetComp _ _ _ _ => exact absurd h2 Bool.false_ne_true
    | DictComp _ _ _ _ _ => exact absurd h2 Bool.false_ne_true
    | _ => exact absurd (show (pure false : Sem Bool) = pure false from rfl) hw
end
end DL

set_option Elab.async false
set_option linter.all false
set_option maxRecDepth 100000
set_option maxHeartbeats 4000000
/-! DL17: the rest of the statements; all together. -/
namespace DL
open PySem PySem.Spec PyProof.Rows L2
section
variable {Γ : GE} {k : Nat}
theorem s_aug (i : Nat) (op : Operator) (m : ME) : OkS Γ k (.aug i op m) := by
  intro c R H0 W X S Y su s h
  simp only [chS] at h
  split at h
  case h_2 => exact absurd h Bool.false_ne_true
  rename_i x p op' e pos
  obtain ⟨h, h4⟩ := and3 h
  obtain ⟨h, h3⟩ := and3 h
  obtain ⟨h1, h2⟩ := and3 h
  have e1 := of_decide_eq_true h1
  subst e1
  obtain ⟨l1, l2⟩ := S.loc h3
  refine PSi (ps_aug S.ndX (S.at h2) l1 (okE Γ k m S h4) (aug_D op) l2) fun D σv H ⟨σ, G, DD, sr, ⟨x0, ex, t⟩, le⟩ => ?_
  obtain ⟨v, ev, rv⟩ := sr.sl i x0 (gt_some.mp ex)
  exact ⟨v, ev, σ, G, _, sr, t, fun y G1 w H1 q r s1 k1 => ⟨R, H0, σ, σv, x0, y, G1, _, rv.keep k1, r, s1, q, fun z G2 u H2 q2 r2 s2 k2 => le.nx _ _ _ _ q2 (s2.slot i r2) (k1.trans k2)⟩⟩
theorem s_augS (o i : ME) (op : Operator) (m : ME) : OkS Γ k (.augS o i op m) := by
  intro c R H0 W X S Y su s h
  simp only [chS] at h
  split at h
  case h_2 => exact absurd h Bool.false_ne_true
  rename_i a b p op' e pos
  obtain ⟨h, h5⟩ := and3 h
  obtain ⟨h, h4⟩ := and3 h
  obtain ⟨h, h3⟩ := and3 h
  obtain ⟨h1, h2⟩ := and3 h
  have e1 := of_decide_eq_true h1
  subst e1
  refine PSi (ps_augS (okE Γ k o S h3) (okE Γ k i S h4) get_D (okE Γ k m S h5) (aug_D op) set_D (augSub h2)) fun D σv H ⟨σ, G, DD, sr, t, le⟩ => ?_
  refine ⟨σ, G, _, sr, t, fun x G1 v H1 q r s1 k1 => ⟨σ, G1, _, s1, q, fun y G2 w H2 q2 r2 s2 k2 => ?_⟩⟩
  obtain ⟨l, ex, q2⟩ := q2
  subst ex
  have hq : ∃ xs, SqL X.K H2 l xs := by
    cases y with
    | int j =>
      obtain ⟨ds, d, e1, _⟩ := q2
      obtain ⟨vs, z, _⟩ := s2.sqL e1
      exact ⟨vs, z⟩
    | _ => exact False.elim q2
  refine ⟨⟨R, H0, σ, σv, .ref l, y, G2, _, r.keep k2, r2, s2, q2, fun x3 G3 v3 H3 q3 r3 s3 k3 => ⟨σ, G3, _, s3, q3, fun y4 G4 v4 H4 q4 r4 s4 k4 => ⟨R, H0, σ, σv, x3, y4, G4, _, r3.keep k4, r4, s4, q4, fun z G5 u H5 q5 r5 s5 k5 =>
    ⟨R, H0, σ, σv, .ref l, y, z, G5, _, (((r.keep k2).keep k3).keep k4).keep k5, ((r2.keep k3).keep k4).keep k5, r5, s5, q5, fun G6 H6 q6 s6 k6 => le.nx _ _ _ _ q6 s6 (((((k1.trans k2).trans k3).trans k4).trans k5).trans k6)⟩⟩⟩⟩, l, r, hq⟩
theorem s_ifs (t : ME) {a b : MSs} (ha : OkSs Γ k a) (hb : OkSs Γ k b) : OkS Γ k (.ifs t a b) := by
  intro c R H0 W X S Y su s h
  cases s <;> first | exact absurd h Bool.false_ne_true | skip
  obtain ⟨h, h3⟩ := and3 h
  obtain ⟨h1, h2⟩ := and3 h
  refine PSi (ps_if (okT Γ k t S h1) (ha S Y su h2) (hb S Y su h3)) fun D σv H ⟨σ, G, DD, sr, t', le⟩ => ⟨σ, G, _, sr, t', fun b G1 H1 q s1 k1 => ?_⟩
  cases b with
  | true => exact ⟨σ, G1, DD, s1, q, le.back k1⟩
  | false => exact ⟨σ, G1, DD, s1, q, le.back k1⟩
theorem s_whl (t : ME) {b : MSs} (hb : OkSs Γ k b) : OkS Γ k (.whl t b) := by
  intro c R H0 W X S Y su s h
  cases s <;> first | exact absurd h Bool.false_ne_true | skip
  rename_i u x orelse pos
  cases orelse with
  | cons _ _ => exact absurd h Bool.false_ne_true
  | nil =>
    obtain ⟨h1, h2⟩ := and3 h
    refine PSi (ps_while Y.po (okT Γ k t S h1) (hb S Y su h2)) fun D σv H ⟨σ, G, DD, sr, ⟨n, t'⟩, le⟩ => ?_
    refine ⟨fun m σv1 H1 => ∃ σ1 G1, SR X.K R H0 σ1 G1 σv1 H1 ∧ whD (fun σ G Q => wpT Γ t W σ G Q) (fun D σ G => wpSs Γ b W D σ G) DD m σ1 G1 ∧ Keep R H H1, ⟨n, σ, G, sr, t', .refl⟩, ?_⟩
    rintro m σv1 H1 ⟨σ1, G1, s1, w1, k1⟩
    cases m with
    | zero => exact False.elim w1
    | succ m =>
      refine ⟨σ1, G1, _, s1, w1, fun b' G2 H2 q s2 k2 => ?_⟩
      cases b' with
      | false => exact le.nx _ _ _ _ q s2 (k1.trans k2)
      | true =>
        refine ⟨fun σv3 H3 => ∃ σ3 G3, SR X.K R H0 σ3 G3 σv3 H3 ∧ whD (fun σ G Q => wpT Γ t W σ G Q) (fun D σ G => wpSs Γ b W D σ G) DD m σ3 G3 ∧ Keep R H H3, fun σ' H' z => ⟨m, Nat.lt_succ_self m, z⟩, σ1, G2, _, s2, q, ?_⟩
        exact ⟨fun σ3 G3 σv3 H3 q3 s3 k3 => ⟨σ3, G3, s3, q3, (k1.trans k2).trans k3⟩, fun d G3 v H3 q3 r3 g3 k3 => le.rt _ _ _ _ q3 r3 g3 ((k1.trans k2).trans k3),
          fun σ3 G3 σv3 H3 q3 s3 k3 => le.nx _ _ _ _ q3 s3 ((k1.trans k2).trans k3), fun σ3 G3 σv3 H3 q3 s3 k3 => ⟨σ3, G3, s3, q3, (k1.trans k2).trans k3⟩⟩
theorem s_for (g : MG) (it : MI) {b : MSs} (hb : OkSs Γ k b) : OkS Γ k (.forr g it b) := by
  intro c R H0 W X S Y su s h
  cases s <;> first | exact absurd h Bool.false_ne_true | skip
  rename_i tg iter x orelse pos
  cases orelse with
  | cons _ _ => exact absurd h Bool.false_ne_true
  | nil =>
    obtain ⟨h, h3⟩ := and3 h
    obtain ⟨h1, h2⟩ := and3 h
    refine PSi (ps_for Y.po (S.cm su) (okI Γ k it S h1) (okG Γ k g S (o := none) (fun _ z => nomatch z) h2) (hb S Y su h3) (set_plain (chI_set h1))) fun D σv H ⟨σ, G, DD, sr, t', le⟩ => ?_
    refine ⟨σ, G, _, sr, t', fun ds src G1 H1 J q wk s1 k1 => ?_⟩
    generalize hgg : (fun (d : DL.D) (σ : Sg) (G : DH) (Q : Sg → DH → Prop) => wpG Γ g d W σ G Q) = gg at q
    generalize hbb : (fun (D : DEnds) (σ : Sg) (G : DH) => wpSs Γ b W D σ G) = bb at q
    refine ⟨fun i m σv2 H2 => m + i = ds.length ∧ ∃ σ2 G2, SR X.K R H0 σ2 G2 σv2 H2 ∧ Keep R H1 H2 ∧ loopD src gg bb DD (ds.drop i) σ2 G2, ⟨ds.length, rfl, σ, G1, s1, .refl, q⟩, ?_⟩
    rintro i m σv2 H2 ⟨hm, σ2, G2, s2, k2, q2⟩
    by_cases hi : i < ds.length
    · right
      rw [List.drop_eq_getElem_cons hi] at q2
      obtain ⟨so, q2⟩ := q2
      have hd : ds[i]? = some ds[i] := by simp [hi]
      refine ⟨wk.go i G2 H2 hi s2.gr so k2.t, fun σv3 H3 => ∃ σ3 G3, SR X.K R H0 σ3 G3 σv3 H3 ∧ Keep R H1 H3 ∧ loopD src gg bb DD (ds.drop (i + 1)) σ3 G3, fun σ' H' hN => ⟨m - 1, by omega, by omega, hN⟩, fun x H3 y => ?_⟩
      obtain ⟨s3, r3, k3⟩ := wk.next hd s2 so k2.t y
      subst hgg hbb
      refine ⟨ds[i], σ2, G2, _, r3, s3, q2, fun σ4 G4 σv4 H4 q4 s4 k4 _ => ⟨σ4, G4, _, s4, q4, ?_⟩⟩
      have kk := (k2.trans k3).trans k4
      exact ⟨fun σ5 G5 σv5 H5 q5 s5 k5 => ⟨σ5, G5, s5, kk.trans k5, q5⟩, fun d G5 v H5 q5 r5 g5 k5 => le.rt _ _ _ _ q5 r5 g5 (k1.trans (kk.trans k5)),
        fun σ5 G5 σv5 H5 q5 s5 k5 => le.nx _ _ _ _ q5 s5 (k1.trans (kk.trans k5)), fun σ5 G5 σv5 H5 q5 s5 k5 => ⟨σ5, G5, s5, kk.trans k5, q5⟩⟩
    · left
      have e : i = ds.length := by omega
      subst e
      rw [List.drop_length] at q2
      obtain ⟨so, q2⟩ := q2
      exact ⟨wk.stop G2 H2 s2.gr so k2.t, le.nx _ _ _ _ q2 s2 (k1.trans k2)⟩
/-! ### sequences -/
theorem ss_nil : OkSs Γ k .nil := by
  intro c R H0 W X S Y su s h
  cases s with
  | cons _ _ => exact absurd h Bool.false_ne_true
  | nil => exact PSsi pss_nil fun D σv H ⟨σ, G, DD, sr, t, le⟩ => le.nx _ _ _ _ t sr .refl
theorem ss_cons {m : MS} {ms : MSs} (hm : OkS Γ k m) (hms : OkSs Γ k ms) : OkSs Γ k (.cons m ms) := by
  intro c R H0 W X S Y su s h
  cases s with
  | nil => exact absurd h Bool.false_ne_true
  | cons s ss =>
    obtain ⟨h1, h2⟩ := and3 h
    refine PSsi (pss_cons (hm S Y su h1) (hms S Y su h2)) fun D σv H ⟨σ, G, DD, sr, t, le⟩ => ⟨σ, G, _, sr, t, ?_⟩
    exact ⟨fun σ1 G1 σv1 H1 q s1 k1 => ⟨σ1, G1, DD, s1, q, le.back k1⟩, le.rt, le.bk, le.ct⟩
end
end DL

set_option Elab.async false
set_option linter.all false
set_option maxRecDepth 100000
set_option maxHeartbeats 4000000
/-! DL18: raise, try; all statements together. -/
namespace DL
open PySem PySem.Spec PyProof.Rows L2
section
variable {Γ : GE} {k : Nat}
/-- X(), X an own exception class without an own __init__ -/
theorem pmk_zero {X : Cx} {C : Addr} {x : Str} {p pos : Pos} (q : PySem.W.excIn X.K C veB "ValueError.__new__" = true) (gC : X.mg x = some (.ref C)) (kC : PySem.W.keepIn X.K (.ref C) = true) (r : Raises X (.ref C)) (hg : Gl X x) (hdb : (x == ("__debug__" : Str)) = false) :
    PMk X (.Call (.Name x p) [] [] pos) (fun _ H Q => Q (.ref C) none H) := by
  intro pins s σ H Q I h
  refine wpAny_Call_Name_kw (ld_glob I hg gC ?_ hdb)
  refine PySem.W.callWith_K0 I.kIn kC ?_
  obtain ⟨bm, N, nm, qn, bs, hdct, sn, sub, ab, col, dd, k0, k1, k2, k3, k5, mN, hC, hN, hni, T⟩ := exc_obj I.kIn q
  exact wpAny_call_exc_subT F.excBase_ValueError T hC hN hni (fun h' e hm => mk_of I hm r h (I.hok.gone hm.new)) (Nat.zero_le _)
theorem s_raise (x : Str) (ms : MEs) : OkS Γ k (.raise x ms) := by
  intro c R H0 W X S Y su s h
  simp only [chS] at h
  split at h
  case h_2 => exact absurd h Bool.false_ne_true
  rename_i y p args p2 pos
  obtain ⟨h, h5⟩ := and3 h
  obtain ⟨h, h4⟩ := and3 h
  obtain ⟨h, h3⟩ := and3 h
  obtain ⟨h1, h2⟩ := and3 h
  have e1 := of_decide_eq_true h1
  subst e1
  refine ⟨fun pins s' σv H D I ⟨σ, G, DD, sr, ⟨fs, hf, hn, t⟩, le⟩ => ?_⟩
  have ex := S.ok.exc _ fs hf
  have hn2 := chEs_n h5
  rcases fs with _ | ⟨f, _ | ⟨f2, fs⟩⟩
  · obtain ⟨C, mC, eC, kC, bC, tC'⟩ := ex
    cases args with
    | cons _ _ => rw [← hn] at hn2; exact absurd hn2 (by simp)
    | nil =>
      cases ms with
      | cons _ _ => exact absurd h5 Bool.false_ne_true
      | nil =>
        refine (ps_raise (S.cm su) S.tk (pmk_zero eC mC kC (raises_own bC tC') (S.gl h2) (ok_d h3).1)).run pins s' σv H D I ?_
        exact ⟨⟨y, []⟩, σ, G, t, ⟨C, mC, rfl, .inl rfl⟩, sr⟩
  · obtain ⟨C, fI, fd, mC, oC, iC, tI, F1, B, no, xf⟩ := ex
    rcases args with _ | ⟨e, _ | ⟨e2, es⟩⟩
    · rw [← hn] at hn2; exact absurd hn2 (by simp)
    · obtain ⟨n1, _⟩ := star_hd h4
      have rm : Room (1 + 1) X.A := (S.rm su).mono S.k2
      refine (ps_raise (S.cm su) S.tk (pmk_oex oC iC tI F1 rm B .nil (passes_call S.tk fun _ _ _ _ z => z.elim) (S.gl h2) mC (okAs Γ k ms S h5) (ok_d h3).1 (star1 n1) rfl)).run pins s' σv H D I ?_
      refine ⟨σ, G, _, sr, t, fun ds G1 vs H1 q hl r s1 k1 => ?_⟩
      rw [← hn2] at hl
      rcases ds with _ | ⟨d, _ | ⟨d2, ds⟩⟩
      · exact absurd hl (by simp)
      · obtain ⟨v, ev, rv⟩ := rps1 r
        subst ev
        refine ⟨by simp, fun a ha => ⟨a, v, rfl, oC, no, upd_same, fun dx hdx hne => ⟨rfl, dx, [(f, v)], upd_same, by rw [upd_ne hne, upd_same], ?_, ?_⟩⟩⟩
        · rw [upd_ne hne] at hdx; exact hdx
        · have hdx1 : H1 dx = none := by rw [upd_ne hne] at hdx; exact hdx
          have eH : upd (del (upd (upd (upd H1 a (exo a C none)) dx (exd dx [(f, v)])) a (exo a C (some dx))) a) dx (.xd [(f, v)]) = upd H1 dx (.xd [(f, v)]) := by
            funext b
            by_cases hb : b = dx
            · subst hb; rw [upd_same, upd_same]
            · rw [upd_ne hb, upd_ne hb]
              by_cases hba : b = a
              · subst hba; rw [del_same, ha]
              · rw [del_ne hba, upd_ne hba, upd_ne hb, upd_ne hba]
          rw [eH]
          have kk : Keep R H1 (upd H1 dx (.xd [(f, v)])) := Keep.new hdx1 s1.nres
          exact ⟨⟨y, [(f, d)]⟩, σ, G1, q, ⟨C, mC, rfl, .inr ⟨⟨xf, fun p hp => by rw [List.mem_singleton.mp hp]; exact no⟩, dx, [(f, v)], rfl, upd_same, v, [], rfl, rv.keep kk, rfl⟩⟩, s1.hid hdx1⟩
      · exact absurd hl (by simp)
    · rw [← hn] at hn2; exact absurd hn2 (by simp)
  · exact False.elim ex
/-! ### try -/
theorem SR.anchor {K : PySem.W.Frag} {R : Addr → Prop} {H0 H1 H : Hp} {σ : Sg} {G : DH} {σv : L2.St} (s : SR K R H1 σ G σv H) (k : Keep R H0 H1) : SR K R H0 σ G σv H := ⟨s.len, s.sl, s.gr, s.rs, k.trans s.kp⟩
/-- what a suite knows of the exception it holds -/
def CurP (X : Cx) (R : Addr → Prop) (H0 : Hp) (xd : XD) (cls : Value) (d : Option Addr) : Prop := ∃ C, X.mg xd.cls = some (.ref C) ∧ cls = .ref C ∧ (∀ f v, xd.fs.lookup f = some v → XfC X.K C ∧ PySem.W.findIn X.K (.ref C) f = some none) ∧
  (xd.fs = [] ∨ ∃ dd fvs, d = some dd ∧ R dd ∧ H0 dd = some (.xd fvs) ∧ RFs X.K H0 xd.fs fvs)
theorem SX.suite {c : CT} {R : Addr → Prop} {H0 : Hp} {W : WD} {X : Cx} (S : SX Γ k c R H0 W X) {R' : Addr → Prop} {H0' : Hp} {xd : XD} {cls : Value} {d : Option Addr} {a : Addr} {oe : Obj} {pn : List (Addr × Obj)} (p : CurP X R' H0' xd cls d) (hz : Zc cls d oe) (hf : ∃ vs, oe.data = .fields vs) :
    SX { Γ with cur := some (a, xd) } k { c with su := true } R' H0' nowish (X.suite a ((a, oe) :: pn)) where
  N := S.N
  nd := S.nd
  sc := S.sc
  fk := S.fk
  fn := S.fn
  un := S.un
  k2 := S.k2
  rm := fun h => absurd (show true = false from h) (by decide)
  cm := fun h => absurd (show true = false from h) (by decide)
  ok := ⟨S.ok.fn, S.ok.bt, S.ok.gcd, S.ok.con, S.ok.exc, S.ok.exb, S.ok.exm⟩
  tk := takes_none5.imp fun _ _ _ _ ⟨_, _, _, z, _⟩ => z
  cu := fun _ => by
    obtain ⟨C, p1, p2, p3, p4⟩ := p
    exact ⟨a, xd, rfl, X, oe, pn, cls, d, C, rfl, hz, hf, p1, p2, p3, p4⟩
theorem lookup_mem {f : Str} {v : D} : ∀ {l : List (Str × D)}, l.lookup f = some v → (f, v) ∈ l
  | [], h => by cases h
  | (x, d) :: l, h => by
    rw [List.lookup_cons] at h
    cases e : f == x with
    | true =>
      rw [e] at h
      cases h
      rw [eq_of_beq e]
      exact List.mem_cons_self
    | false =>
      rw [e] at h
      exact List.mem_cons_of_mem _ (lookup_mem h)
theorem mix_of {c : CT} {R : Addr → Prop} {H0 : Hp} {W : WD} {X : Cx} (S : SX Γ k c R H0 W X) : ∀ {hs : List MH} {hds : List ExceptHandler}, chHs c hs hds = true → (hs.all fun h => Γ.exb h.cls) = true → ∃ cl, MixOk X hds cl ∧
    ∀ {H1 : Hp} {D : Ends} {DD : DEnds} {xd : XD} {cls : Value} {d : Option Addr} {σ : Sg} {G : DH} {σv : L2.St} {H : Hp}, Keep R H0 H1 → LE X.K R H0 D DD H1 → RX X.K X.mg H xd cls d → SR X.K R H1 σ G σv H → wpH Γ W DD hs xd σ G → wMix X.K (lW X.K X.mg R H0 W) D cl cls d σv H
  | [], [], _, _ => ⟨[], .nil, fun k0 _ rx sr w => ⟨_, _, _, w, rx, sr.anchor k0⟩⟩
  | [], _ :: _, h, _ => absurd h Bool.false_ne_true
  | _ :: _, [], h, _ => absurd h Bool.false_ne_true
  | h :: hs, hd :: hds, hc, he => by
    obtain ⟨hc1, hc2⟩ := and3 hc
    rw [List.all_cons] at he
    obtain ⟨he1, he2⟩ := and3 he
    obtain ⟨cl, mx, rd⟩ := mix_of S hc2 he2
    have key : ∃ np nm e rp hp, hd = .ExceptHandler (some (.Name h.cls np)) nm [.Return (some e) rp] hp ∧ glB c.sc h.cls = true ∧ (match nm, h.as with
        | none, none => true
        | some n, some i => atN c i n && locP c n
        | _, _ => false) = true ∧ chE { c with su := true } h.ret e = true := by
      unfold chH at hc1
      split at hc1
      case h_2 => exact absurd hc1 Bool.false_ne_true
      rename_i x np nm e rp hp
      obtain ⟨q, q4⟩ := and3 hc1
      obtain ⟨q, q3⟩ := and3 q
      obtain ⟨q1, q2⟩ := and3 q
      have e1 := of_decide_eq_true q1
      subst e1
      exact ⟨np, nm, e, rp, hp, rfl, q2, q3, q4⟩
    obtain ⟨np, nm, e, rp, hp, rfl, g1, g2, g3⟩ := key
    obtain ⟨db, Cy, mCy⟩ := S.ok.exb _ he1
    have asok : AsOk X nm h.as := by
      cases nm with
      | none =>
        cases e1 : h.as with
        | none => trivial
        | some i => rw [e1] at g2; exact absurd g2 Bool.false_ne_true
      | some n =>
        cases e1 : h.as with
        | none => rw [e1] at g2; exact absurd g2 Bool.false_ne_true
        | some i =>
          rw [e1] at g2
          obtain ⟨a1, a2⟩ := and3 g2
          exact ⟨S.at a1, locP_of S a2⟩
    refine ⟨(.ref Cy, h.as, fun a cls d D σ H => ∃ xd R' H0', CurP X R' H0' xd cls d ∧ lE X.K R' H0' nowish (wpE { Γ with cur := some (a, xd) } h.ret) σ H D.rt) :: cl, .cons ⟨S.gl g1, db, .inl mCy⟩ asok (fun a oe cls d pn hz hf => ?_) mx, ?_⟩
    · have pe : PE (X.suite a ((a, oe) :: pn)) e (fun σ H Q => ∃ xd R' H0', CurP X R' H0' xd cls d ∧ lE X.K R' H0' nowish (wpE { Γ with cur := some (a, xd) } h.ret) σ H Q) :=
        ⟨fun pins s σ H Q I ⟨xd, R', H0', p, z⟩ => (okE { Γ with cur := some (a, xd) } k h.ret (S.suite p hz hf) g3).run pins s σ H Q I z⟩
      exact pss_one (ps_ret pe)
    · intro H1 D DD xd cls d σ G σv H k0 le rx sr w
      obtain ⟨m, em, wy, wn⟩ := w
      obtain ⟨C, mC, eC, rf⟩ := id rx
      obtain ⟨Cx, Cy', m1, m2, m3⟩ := S.ok.exm _ _ _ em
      rw [mC] at m1; cases m1
      rw [mCy] at m2; cases m2
      subst eC
      refine ⟨m, m3, fun hm a ha => ?_, fun hm => rd k0 le rx sr (wn hm)⟩
      have w1 := wy hm a (sr.free ha)
      have hR' : ∀ b, (R b ∨ (d = some b ∧ xd.fs ≠ [])) → H b ≠ none ∧ G b = none := by
        rintro b (r | ⟨r1, r2⟩)
        · exact sr.rs b r
        · rcases rf with z | ⟨_, dd, fvs, ed, hdd, _⟩
          · exact absurd z r2
          · rw [ed] at r1; cases r1
            refine ⟨by rw [hdd]; exact fun z => (by cases z), ?_⟩
            cases eg : G b with
            | none => rfl
            | some o =>
              have z := sr.gr b o eg
              cases o with
              | lst _ => obtain ⟨_, z, _⟩ := z; rw [hdd] at z; cases z
              | dct _ => obtain ⟨_, z, _⟩ := z; rw [hdd] at z; cases z
      refine ⟨xd, fun b => R b ∨ (d = some b ∧ xd.fs ≠ []), H, ⟨C, mC, rfl, fun f v lk => ?_, ?_⟩, ?_⟩
      · rcases rf with z | ⟨⟨xf, no⟩, _⟩
        · rw [z] at lk; cases lk
        · exact ⟨xf, no (f, v) (lookup_mem lk)⟩
      · rcases rf with z | ⟨_, dd, fvs, ed, hdd, rr⟩
        · exact .inl z
        · by_cases z : xd.fs = []
          · exact .inl z
          · exact .inr ⟨dd, fvs, ed, .inr ⟨ed, z⟩, hdd, rr⟩
      · have s0 : SR X.K (fun b => R b ∨ (d = some b ∧ xd.fs ≠ [])) H σ G σv H := sr.resv hR'
        have s1 : SR X.K (fun b => R b ∨ (d = some b ∧ xd.fs ≠ [])) H (match h.as with | none => σ | some i => st σ i (some (.ref a))) G (slotAs h.as a σv) H := by
          cases h.as with
          | none => exact s0
          | some i => exact s0.slot i (d := .ref a) rfl
        exact ⟨_, G, DD.rt, s1, w1, fun d' G' v' H' q r s' k' => le.rt d' G' v' H' q r ⟨s'.gr, fun b rb => (s'.rs b (.inl rb)).2⟩ (sr.kp.trans (k'.mono fun b rb => .inl rb))⟩
theorem s_try {b : MSs} (hs : List MH) (hb : OkSs Γ k b) : OkS Γ k (.tryy b hs) := by
  intro c R H0 W X S Y su s h
  simp only [chS] at h
  split at h
  case h_2 => exact absurd h Bool.false_ne_true
  rename_i x hd hds pos
  obtain ⟨h1, h2⟩ := and3 h
  refine ⟨fun pins s' σv H D I ⟨σ, G, DD, sr, ⟨hx, t⟩, le⟩ => ?_⟩
  obtain ⟨cl, mx, rd⟩ := mix_of S h2 hx
  refine (ps_try_mix (tb := fun Wv D σv H => ∃ (W' : WD) (H1 : Hp), (∀ cls d σ H, lW X.K X.mg R H1 W' cls d σ H → Wv cls d σ H) ∧ lS X.K R H1 W' (wpSs Γ b) D σv H) Y.stk Y.frm S.ndX S.tk (fun Wv pn xe tk po => ?_) mx).run pins s' σv H D I ?_
  · refine ⟨fun pins s σ H D I ⟨W', H1, hw, z⟩ => (hb (c := c) (R := R) (H0 := H1) (W := W') (X := X.tr pn xe) ⟨S.N, S.nd, S.sc, S.fk, S.fn, S.un, S.k2, S.rm, S.cm, S.ok, tk.imp hw, fun h => absurd h (by rw [su]; decide)⟩ ⟨Y.stk, Y.frm, po⟩ su h1).run pins s σ H D I z⟩
  · refine ⟨wpH Γ W DD hs, H, fun cls d σ1 H1 ⟨xd, σ2, G2, w, rx, s2⟩ => rd sr.kp ⟨le.nx, le.rt, le.bk, le.ct⟩ rx s2 w, σ, G, DD, sr.resv sr.rs, t, ?_⟩
    exact ⟨fun σ1 G1 σv1 H1 q s1 k1 => le.nx _ _ _ _ q (s1.anchor sr.kp) k1, le.rt, fun σ1 G1 σv1 H1 q s1 k1 => le.bk _ _ _ _ q (s1.anchor sr.kp) k1, fun σ1 G1 σv1 H1 q s1 k1 => le.ct _ _ _ _ q (s1.anchor sr.kp) k1⟩
end
section
variable (Γ : GE) (k : Nat)
mutual
theorem okS : (m : MS) → OkS Γ k m
  | .expr m => s_expr m
  | .ret m => s_ret m
  | .retN => s_retN
  | .par2 i j ms => s_par2 i j ms
  | .par3 i j l ms => s_par3 i j l ms
  | .asg g m => s_asg g m
  | .aug i op m => s_aug i op m
  | .augS o i op m => s_augS o i op m
  | .ifs t a b => s_ifs t (okSs a) (okSs b)
  | .whl t b => s_whl t (okSs b)
  | .forr g it b => s_for g it (okSs b)
  | .raise x ms => s_raise x ms
  | .tryy b hs => s_try hs (okSs b)
  | .pass => s_pass
  | .brk => s_brk
  | .cont => s_cont
theorem okSs : (ms : MSs) → OkSs Γ k ms
  | .nil => ss_nil
  | .cons m ms => ss_cons (okS m) (okSs ms)
end
end
end DL

set_option Elab.async false
set_option linter.all false
set_option maxRecDepth 100000
set_option maxHeartbeats 4000000
/-! DL19: a def of the text keeps its plain promise; the module's names, one after another; the end. -/
namespace DL
open PySem PySem.Spec PyProof.Rows L2
/-- less of the heap is told -/
def Sub (G' G : DH) : Prop := ∀ a o, G' a = some o → G a = some o
theorem Sub.refl {G : DH} : Sub G G := fun _ _ h => h
theorem Sub.trans {G1 G2 G3 : DH} (a : Sub G1 G2) (b : Sub G2 G3) : Sub G1 G3 := fun x o h => b x o (a x o h)
theorem Sub.put {G : DH} {p : Addr} {o : DO} (h : G p = none) : Sub G (put G p o) := fun a u e => by
  rw [put_ne fun z => by rw [z, h] at e; cases e]; exact e
def startD (n : Nat) (ds : List D) : Sg := ds.map some ++ List.replicate (n - ds.length) none
def dEnds (Q : QD) : DEnds := { nx := fun _ G => Q .non G, rt := Q }
/-- the body runs: what is to be shown of it -/
def Runs (Γ : GE) (ms : MSs) (n : Nat) (ds : List D) (G : DH) (Q : QD) (E : ED) : Prop :=
  wpSs Γ ms (fun xd _ G1 => ∃ G2, Sub G2 G1 ∧ E xd G2) (dEnds fun d G1 => ∃ G2, Sub G2 G1 ∧ Q d G2) (startD n ds) G
theorem start_sl {K : PySem.W.Frag} {H : Hp} {N : List Str} : ∀ {ds : List D} {vs : List V}, Rps K H ds vs → (startD N.length ds).length = (L2.start N vs).length ∧ ∀ (i : Nat) (d : D), (startD N.length ds)[i]? = some (some d) → ∃ v, (L2.start N vs)[i]? = some (some v) ∧ Rp K H d v := by
  intro ds vs r
  have hl := r.length
  unfold startD L2.start
  refine ⟨by simp [hl], fun i d h => ?_⟩
  by_cases hi : i < ds.length
  · rw [List.getElem?_append_left (by simpa using hi), List.getElem?_map] at h
    cases e : ds[i]? with
    | none => rw [e] at h; cases h
    | some d' =>
      rw [e] at h
      cases h
      obtain ⟨v, e2, r2⟩ := r.get e
      exact ⟨v, by rw [List.getElem?_append_left (by rw [List.length_map]; omega), List.getElem?_map, e2]; rfl, r2⟩
  · rw [List.getElem?_append_right (by simpa using hi), List.getElem?_replicate] at h
    split at h <;> cases h
section
variable {Γ : GE} {k : Nat} {g : Bool} {P : Program} {w : World} {K : PySem.W.Frag} {mg : Str → Option Value} {base : Heap}
/-- THE RULE: a def of the text -/
theorem def_ok {x qual : Str} {st : Stmt} {f : Addr} {fd : FuncData} {N ps : List Str} {ms : MSs} {S : DSp} (ok : GOk Γ k g P w K mg base) (k2 : 2 ≤ k) (F : Fun K x qual st f fd) (sc : FnScope N ps (defScope st))
    (ck : chSs ⟨N, defScope st, defScope st, false, g⟩ ms (defBody st) = true) (run : ∀ ds G Q E, ds.length = ps.length → S ds G Q E → Runs Γ ms N.length ds G Q E) : FnOk P w K mg base (L2.CX P w) (k + 1) f fd ps (toSp K mg ps.length S) := by
  obtain ⟨oc, od, kV, doc, pm, an, cdv, ct, osl, rfl, lk, hcd⟩ := F.ex
  refine fn_of lk hcd sc (fun vs H Q E ⟨ds, _, _, _, hl, r, _⟩ => by rw [r.length, hl]) fun A outer s H vs Q E hr hsp => ?_
  obtain ⟨ds, G, Qd, Ed, hl, r, gr, hS, hQ, hE⟩ := hsp
  have sx : SX Γ k ⟨N, defScope st, defScope st, false, g⟩ (Rs H G) H (fun xd _ G1 => ∃ G2, Sub G2 G1 ∧ Ed xd G2) (cxOf (L2.CX P w) P w K mg base N qual (defScope st) f cdv A outer s H E) := {
    N := rfl, nd := sc.nd, sc := rfl, fk := sc.kind, fn := fun _ _ => rfl
    un := hr.units
    k2 := k2, rm := fun _ => hr, cm := fun _ => rfl, ok := ok
    tk := (takes_of (X := cxOf (L2.CX P w) P w K mg base N qual (defScope st) f cdv A outer s H E) rfl rfl rfl rfl).imp fun cls d σ H' ⟨xd, σ1, G1, ⟨G2, sb, q⟩, rx, sr⟩ =>
      hE xd G2 cls d H' q rx ⟨fun a o e => sr.gr a o (sb a o e), fun a ra => by
        cases e : G2 a with
        | none => rfl
        | some o => have := (sr.rs a ra).2; rw [sb a o e] at this; cases this⟩ sr.kp
    cu := fun h => absurd h Bool.false_ne_true }
  have sy : SY (cxOf (L2.CX P w) P w K mg base N qual (defScope st) f cdv A outer s H E) := ⟨rfl, rfl, passes_of (X := cxOf (L2.CX P w) P w K mg base N qual (defScope st) f cdv A outer s H E) rfl⟩
  refine ⟨_, okSs Γ k ms sx sy rfl ck, startD N.length ds, G, _, ?_, run ds G Qd Ed hl hS, ?_⟩
  · obtain ⟨h1, h2⟩ := start_sl (N := N) r
    exact ⟨h1, h2, gr, fun a ra => ra, .refl⟩
  · have key : ∀ d G1 v H', (∃ G2, Sub G2 G1 ∧ Qd d G2) → Rp K H' d v → GR K (Rs H G) G1 H' → Keep (Rs H G) H H' → Q v H' := fun d G1 v H' ⟨G2, sb, q⟩ rd g1 kp =>
      hQ d G2 v H' q rd ⟨fun a o e => g1.1 a o (sb a o e), fun a ra => by
        cases e : G2 a with
        | none => rfl
        | some o => have := g1.2 a ra; rw [sb a o e] at this; cases this⟩ kp
    exact ⟨fun σ G1 σv H' q s1 k1 => key .non G1 .non H' q rfl s1.gR k1, fun d G1 v H' q rd g1 k1 => key d G1 v H' q rd g1 k1, fun _ _ _ _ z => z.elim, fun _ _ _ _ z => z.elim⟩
/-! ### the names of the module, one after another -/
def GE.add (Γ : GE) (f : Str) (fi : FI) : GE := { Γ with fn := fun x => if x = f then some fi else Γ.fn x }
theorem GOk.mono {j : Nat} (ok : GOk Γ j g P w K mg base) (h : j ≤ k) : GOk Γ k g P w K mg base :=
  ⟨fun f fi e => by
    obtain ⟨a, fd, h1, h2, h3, h4, h5⟩ := ok.fn f fi e
    exact ⟨a, fd, h1, h2, h3.mono h, h4, h5⟩, ok.bt, ok.gcd, ok.con, ok.exc, ok.exb, ok.exm⟩
theorem GOk.add (ok : GOk Γ k g P w K mg base) {f : Str} {fi : FI} {a : Addr} {fd : FuncData} {x qual : Str} {st : Stmt} (hm : mg f = some (.ref a)) (hF : Fun K x qual st a fd) (F : FnOk P w K mg base (L2.CX P w) k a fd fi.ps (toSp K mg fi.ps.length fi.sp)) (B : Binds K fd fi.ps [])
    (KB : ∀ q ∈ fi.kws, KBd K fd fi.ps q.1 q.2.1 q.2.2) : GOk (Γ.add f fi) k g P w K mg base :=
  ⟨fun f' fi' e => by
    by_cases hf : f' = f
    · subst hf
      have e' : fi = fi' := by simpa [GE.add] using e
      subst e'
      exact ⟨a, fd, hm, hF.kp, F, B, KB⟩
    · exact ok.fn f' fi' (by simpa [GE.add, hf] using e), ok.bt, ok.gcd, ok.con, ok.exc, ok.exb, ok.exm⟩
/-- how a call with keywords binds, of a def of the text -/
theorem kbd_mk {x qual : Str} {st : Stmt} {f : Addr} {fd : FuncData} {ps ks : List Str} {n : Nat} {p : List Nat} (F : Fun K x qual st f fd)
    (h : ∀ (kV doc pm : Value) (an : Option Addr) (cdv ct : Value) (us ws : List Value), us.length = n → ws.length = ks.length → bindArgs (PySem.W.fnOf x qual (defArgs st) (defBody st) (defScope st) .none kV doc pm an cdv ct) ⟨us, ks.zip ws⟩ = pure (ps.zip (permL p (us ++ ws)))) : KBd K fd ps n ks p := by
  obtain ⟨oc, od, kV, doc, pm, an, cdv, ct, osl, rfl, lk, hcd⟩ := F.ex
  exact fun s us ws _ h1 h2 => .of_eq (h kV doc pm an cdv ct us ws h1 h2)
/-- the __init__ of an own exception: self.f = f -/
theorem init_ok {qual : Str} {st : Stmt} {C fI : Addr} {fd : FuncData} {f : Str} {p1 p2 p3 p4 pos : Pos} (F : Fun K "__init__" qual st fI fd) (sc : FnScope ["self", f] ["self", f] (defScope st)) (hb : defBody st = [.Assign [.Attribute (.Name "self" p1) f p2] (.Name f p3) pos])
    (h1 : (defScope st).names.lookup ("self" : Str) = some NameKind.local) (h2 : (defScope st).names.lookup f = some NameKind.local) (hf : okName f = true) : FnOk P w K mg base (L2.CX P w) 1 fI fd ["self", f] (spInit K C f) := by
  obtain ⟨oc, od, kV, doc, pm, an, cdv, ct, osl, rfl, lk, hcd⟩ := F.ex
  refine fn_of (k := 0) lk hcd sc (fun vs H Q E ⟨a, v, e, _⟩ => by rw [e]; rfl) fun A outer s H vs Q E hr hsp => ?_
  obtain ⟨a, v, e, oC, no, ha, q⟩ := hsp
  subst e
  rw [hb]
  refine ⟨_, pss_one (ps_ost (pe_var (i := 0) rfl (.inl h1)) (pe_var (i := 1) rfl (.inl h2) (ok_d hf).1 (ok_d hf).2.1) rfl), ?_⟩
  exact ⟨v, rfl, .ref a, rfl, a, C, rfl, oC, no, .inl ⟨ha, fun dx h1 h2 => q dx h1 h2⟩⟩
end
end DL

set_option Elab.async false
set_option linter.all false
set_option maxRecDepth 100000
set_option maxHeartbeats 4000000
/-! DL20: rules for loops and comprehensions in plain terms; the end of a law; what the module has at the start. -/
namespace DL
open PySem PySem.Spec PyProof.Rows L2
/-- a for: I i holds ahead of the turn i -/
theorem for_rule {src : List (Addr × List D)} {g : D → Sg → DH → (Sg → DH → Prop) → Prop} {b : DEnds → Sg → DH → Prop} {De : DEnds} {ds : List D} {σ : Sg} {G : DH} (I : Nat → Sg → DH → Prop) (h0 : I 0 σ G) (hs : ∀ i σ G, i ≤ ds.length → I i σ G → srcOk src G)
    (step : ∀ i d σ G (Kn : Sg → DH → Prop), ds[i]? = some d → I i σ G → (∀ σ' G', I (i + 1) σ' G' → Kn σ' G') → g d σ G fun σ1 G1 => b { De with nx := Kn, ct := Kn, bk := De.nx } σ1 G1)
    (fin : ∀ σ G, I ds.length σ G → De.nx σ G) : loopD src g b De ds σ G := by
  have key : ∀ (m i : Nat) (σ : Sg) (G : DH), m + i = ds.length → I i σ G → loopD src g b De (ds.drop i) σ G := by
    intro m
    induction m with
    | zero =>
      intro i σ G hm hI
      have e : i = ds.length := by omega
      subst e
      rw [List.drop_length]
      exact ⟨hs _ _ _ (Nat.le_refl _) hI, fin σ G hI⟩
    | succ m ih =>
      intro i σ G hm hI
      have hi : i < ds.length := by omega
      rw [List.drop_eq_getElem_cons hi]
      exact ⟨hs i σ G (Nat.le_of_lt hi) hI, step i ds[i] σ G _ (by simp [hi]) hI fun σ' G' z => ih (i + 1) σ' G' (by omega) z⟩
  have := key ds.length 0 σ G (by omega) h0
  rwa [List.drop_zero] at this
/-- a while: I n holds ahead of a turn, n falls -/
theorem while_rule {c : Sg → DH → (Bool → DH → Prop) → Prop} {b : DEnds → Sg → DH → Prop} {De : DEnds} {σ : Sg} {G : DH} (I : Nat → Sg → DH → Prop) (n : Nat) (h0 : I n σ G)
    (step : ∀ n σ G (Kn : Sg → DH → Prop), I n σ G → (∀ m σ' G', m < n → I m σ' G' → Kn σ' G') → c σ G fun t G1 => if t = true then b { De with nx := Kn, ct := Kn, bk := De.nx } σ G1 else De.nx σ G1) : ∃ N, whD c b De N σ G := by
  have key : ∀ (N n : Nat) (σ : Sg) (G : DH), n < N → I n σ G → whD c b De N σ G := by
    intro N
    induction N with
    | zero => intro n σ G h; exact absurd h (Nat.not_lt_zero _)
    | succ N ih => exact fun n σ G h hI => step n σ G _ hI fun m σ' G' hm z => ih m σ' G' (by omega) z
  exact ⟨n + 1, key (n + 1) n σ G (Nat.lt_succ_self n) h0⟩
/-- a comprehension that leaves the heap as it is -/
theorem lc_rule {src : List (Addr × List D)} {g : D → Sg → DH → (Sg → DH → Prop) → Prop} {t : Sg → DH → (Bool → DH → Prop) → Prop} {e : Sg → DH → QD → Prop} {Q : List D → DH → Prop} {σ : Sg} {G : DH} (p : D → Bool) (f : D → D) (hs : srcOk src G) :
    ∀ {ds acc : List D}, (∀ d ∈ ds, ∀ (K1 : QD) (K0 : DH → Prop), (if p d = true then K1 (f d) G else K0 G) → g d σ G fun σ1 G1 => t σ1 G1 fun b G2 => if b = true then e σ1 G2 K1 else K0 G2) → Q (acc ++ (ds.filter p).map f) G → lcD src g t e Q σ ds acc G
  | [], acc, _, q => ⟨hs, by simpa using q⟩
  | d :: ds, acc, h, q => by
    refine ⟨hs, h d List.mem_cons_self _ _ ?_⟩
    have ih : ∀ acc', Q (acc' ++ (ds.filter p).map f) G → lcD src g t e Q σ ds acc' G := fun acc' q' => lc_rule p f hs (fun d' hd => h d' (List.mem_cons_of_mem _ hd)) q'
    cases hp : p d with
    | true =>
      rw [if_pos rfl]
      exact ih _ (by rw [List.filter_cons_of_pos hp] at q; simpa using q)
    | false =>
      rw [if_neg Bool.false_ne_true]
      exact ih _ (by rw [List.filter_cons_of_neg (by rw [hp]; exact Bool.false_ne_true)] at q; exact q)
/-- .. without a condition -/
theorem lc_all {src : List (Addr × List D)} {g : D → Sg → DH → (Sg → DH → Prop) → Prop} {t : Sg → DH → (Bool → DH → Prop) → Prop} {e : Sg → DH → QD → Prop} {Q : List D → DH → Prop} {σ : Sg} {G : DH} (f : D → D) (hs : srcOk src G) {ds : List D}
    (h : ∀ d ∈ ds, ∀ (K1 : QD) (K0 : DH → Prop), K1 (f d) G → g d σ G fun σ1 G1 => t σ1 G1 fun b G2 => if b = true then e σ1 G2 K1 else K0 G2) (q : Q (ds.map f) G) : lcD src g t e Q σ ds [] G :=
  lc_rule (fun _ => true) f hs (fun d hd K1 K0 z => h d hd K1 K0 (by simpa using z)) (by rw [show ds.filter (fun _ => true) = ds from List.filter_eq_self.mpr fun _ _ => rfl, List.nil_append]; exact q)
/-- .. whose items are all left out -/
theorem lc_drop {src : List (Addr × List D)} {g : D → Sg → DH → (Sg → DH → Prop) → Prop} {t : Sg → DH → (Bool → DH → Prop) → Prop} {e : Sg → DH → QD → Prop} {Q : List D → DH → Prop} {σ : Sg} {G : DH} (hs : srcOk src G) {ds : List D}
    (h : ∀ d ∈ ds, ∀ (K1 : QD) (K0 : DH → Prop), K0 G → g d σ G fun σ1 G1 => t σ1 G1 fun b G2 => if b = true then e σ1 G2 K1 else K0 G2) (q : Q [] G) : lcD src g t e Q σ ds [] G :=
  lc_rule (fun _ => false) id hs (fun d hd K1 K0 z => h d hd K1 K0 (by simpa using z)) (by rw [show ds.filter (fun _ => false) = [] from List.filter_eq_nil_iff.mpr fun _ _ => Bool.false_ne_true]; exact q)
theorem srcOk_nil {G : DH} : srcOk [] G := fun _ h => by cases h
theorem srcOk_one {G : DH} {a : Addr} {ds : List D} (h : sqAt G a = some ds) : srcOk [(a, ds)] G := fun p hp => by
  rw [List.mem_singleton.mp hp]; exact h
@[simp] theorem sqAt_put {G : DH} {a : Addr} {ds : List D} : sqAt (put G a (.lst ds)) a = some ds := by unfold sqAt; rw [put_same]
@[simp] theorem put_at {G : DH} {a : Addr} {o : DO} : put G a o a = some o := put_same
@[simp] theorem put2 {G : DH} {a : Addr} {o u : DO} : put (put G a o) a u = put G a u := put_put
theorem ne_free {G : DH} {a b : Addr} {o : DO} (h : G a = some o) (h' : G b = none) : a ≠ b := fun z => by rw [z, h'] at h; cases h
theorem sqAt_some {G : DH} {a : Addr} {ds : List D} : sqAt G a = some ds ↔ G a = some (.lst ds) := by
  unfold sqAt
  cases e : G a with
  | none => simp
  | some o => cases o <;> simp
/-- an equality of two empty lists -/
theorem eq_nil {G : DH} {a b : Addr} {Q : Bool → Prop} (h1 : G a = some (.lst [])) (h2 : G b = some (.lst [])) (q : Q true) : eqD (.ref a) (.ref b) G Q := ⟨.list [], .list [], .lst (sqAt_some.mpr h1) .nil, .lst (sqAt_some.mpr h2) .nil, by decide, by decide, q⟩
theorem eq_nil2 {G : DH} {p p1 : Addr} {Q : Bool → Prop} (h : put G p (.lst []) p1 = none) (q : Q true) : eqD (.ref p) (.ref p1) (put (put G p (.lst [])) p1 (.lst [])) Q := by
  have hne : p ≠ p1 := fun z => by rw [← z, put_same] at h; cases h
  exact eq_nil (by rw [put_ne hne, put_same]) put_same q
theorem sub_put2 {G : DH} {p p1 : Addr} {o u : DO} (h : G p = none) (h1 : put G p o p1 = none) : Sub G (put (put G p o) p1 u) := (Sub.put h).trans (Sub.put h1)
theorem range_mem {n : Nat} {d : D} (h : d ∈ rangeL 0 n 1) : ∃ i : Nat, i < n ∧ d = .int i := by
  unfold rangeL at h
  obtain ⟨i, hi, e⟩ := List.mem_map.mp h
  refine ⟨i, List.mem_range.mp hi, ?_⟩
  rw [← e]
  show D.int _ = D.int _
  rw [Int.mul_one, Int.zero_add]
theorem cut_one {z : Str} {i : Nat} (h : i < (TL.tl z).length) : cutS z (some (i : Int)) (some ((i : Int) + 1)) = ⟨#[(TL.tl z)[i]]⟩ := by
  apply TL.ext_tl
  have e1 : ((i : Int) + 1) = ((i + 1 : Nat) : Int) := by omega
  show (List.take (HT.sIx z.length z.length (some ((i : Int) + 1)) - HT.sIx z.length 0 (some (i : Int))) (List.drop (HT.sIx z.length 0 (some (i : Int))) (TL.tl z))) = [(TL.tl z)[i]]
  rw [e1, HT.sIx_nat, HT.sIx_nat, TL.len_tl, Nat.min_eq_left (by omega), Nat.min_eq_left (by omega), Nat.add_sub_cancel_left, List.drop_eq_getElem_cons h]
  rfl
section
variable {G : DH} {Q : Bool → Prop} {i j : Int} {s t : Str} {a b : Bool}
@[simp] theorem eqD_ii : eqD (.int i) (.int j) G Q = Q (decide (i = j)) := rfl
@[simp] theorem eqD_ss : eqD (.str s) (.str t) G Q = Q (decide (s = t)) := rfl
@[simp] theorem eqD_bb : eqD (.bl a) (.bl b) G Q = Q (decide (a = b)) := rfl
@[simp] theorem eqD_nn : eqD .non .non G Q = Q true := rfl
@[simp] theorem eqD_ni : eqD .non (.int i) G Q = Q false := rfl
@[simp] theorem eqD_in : eqD (.int i) .non G Q = Q false := rfl
@[simp] theorem eqD_is : eqD (.int i) (.str s) G Q = Q false := rfl
@[simp] theorem eqD_si : eqD (.str s) (.int i) G Q = Q false := rfl
end
@[simp] theorem sub_ty (u t : Ty) : Ty.sub u t = decide (u = t ∨ (u = .bool ∧ t = .int)) := by cases u <;> cases t <;> rfl
section
variable {G : DH}
@[simp] theorem ty_non : tyD G .non = some .none := rfl
@[simp] theorem ty_bl (b : Bool) : tyD G (.bl b) = some .bool := rfl
@[simp] theorem ty_int (i : Int) : tyD G (.int i) = some .int := rfl
@[simp] theorem ty_str (i : Str) : tyD G (.str i) = some .str := rfl
@[simp] theorem ty_tup (i : List D) : tyD G (.tup i) = some .tuple := rfl
@[simp] theorem ty_lsv (i : List D) : tyD G (.lsv i) = some .list := rfl
theorem ty_lst {a : Addr} {ds : List D} (h : G a = some (.lst ds)) : tyD G (.ref a) = some .list := by simp only [tyD, h]
theorem ty_dct {a : Addr} {kvs : List (Key × D)} (h : G a = some (.dct kvs)) : tyD G (.ref a) = some .dict := by simp only [tyD, h]
/-- the type of a value -/
def tyOf : D → Ty
  | .non => .none | .bl _ => .bool | .int _ => .int | .str _ => .str | .tup _ => .tuple | _ => .list
end
section
variable {G : DH} {Q : QD} {T : Bool → DH → Prop} {i j : Int} {s t : Str} {a b : Bool} {xs ys : List D} {l m : Addr} {x y : D}
@[simp] theorem bin_add : binD .Add (.int i) (.int j) G Q = Q (.int (i + j)) G := rfl
@[simp] theorem bin_sub : binD .Sub (.int i) (.int j) G Q = Q (.int (i - j)) G := rfl
@[simp] theorem bin_mul : binD .Mult (.int i) (.int j) G Q = (IntMulOk i j ∧ Q (.int (i * j)) G) := rfl
@[simp] theorem bin_div : binD .FloorDiv (.int i) (.int j) G Q = (j ≠ 0 ∧ j.natAbs.log2 < 9000 ∧ Q (.int (i.fdiv j)) G) := rfl
@[simp] theorem bin_mod : binD .Mod (.int i) (.int j) G Q = (j ≠ 0 ∧ Q (.int (i.fmod j)) G) := rfl
@[simp] theorem bin_pow : binD .Pow (.int i) (.int j) G Q = (0 ≤ j ∧ (Builtin.Int.intBits i : Int) * j ≤ 2 ^ 27 ∧ Q (.int (i ^ j.toNat)) G) := rfl
@[simp] theorem bin_cat : binD .Add (.str s) (.str t) G Q = (s.length + t.length ≤ sizeLine ∧ Q (.str (s ++ t)) G) := rfl
@[simp] theorem bin_tup : binD .Add (.tup xs) (.tup ys) G Q = (xs.length + ys.length ≤ sizeLine ∧ Q (.tup (xs ++ ys)) G) := rfl
@[simp] theorem bin_lst : binD .Add (.ref l) (.ref m) G Q = (∃ xs ys, G l = some (.lst xs) ∧ G m = some (.lst ys) ∧ xs.length + ys.length ≤ sizeLine ∧ ∀ p, G p = none → Q (.ref p) (put G p (.lst (xs ++ ys)))) := rfl
@[simp] theorem bin_rep : binD .Mult (.ref l) (.int j) G Q = (∃ xs, G l = some (.lst xs) ∧ -(2 ^ 63) ≤ j ∧ j < 2 ^ 63 ∧ xs.length * j.toNat ≤ sizeLine ∧ ∀ p, G p = none → Q (.ref p) (put G p (.lst (List.replicate j.toNat xs).flatten))) := rfl
@[simp] theorem neg_int : negD (.int i) G Q = Q (.int (-i)) G := rfl
@[simp] theorem cmp_eq : cmpD .Eq x y G Q = eqD x y G fun b => Q (.bl b) G := by cases x <;> cases y <;> rfl
@[simp] theorem cmp_ne : cmpD .NotEq x y G Q = eqD x y G fun b => Q (.bl (!b)) G := by cases x <;> cases y <;> rfl
@[simp] theorem cmp_lt : cmpD .Lt (.int i) (.int j) G Q = Q (.bl (decide (i < j))) G := rfl
@[simp] theorem cmp_le : cmpD .LtE (.int i) (.int j) G Q = Q (.bl (decide (i ≤ j))) G := rfl
@[simp] theorem cmp_gt : cmpD .Gt (.int i) (.int j) G Q = Q (.bl (decide (j < i))) G := rfl
@[simp] theorem cmp_ge : cmpD .GtE (.int i) (.int j) G Q = Q (.bl (decide (j ≤ i))) G := rfl
@[simp] theorem cmp_is : cmpD .Is x y G Q = isD false x y G Q := by cases x <;> cases y <;> rfl
@[simp] theorem cmp_isnot : cmpD .IsNot x y G Q = isD true x y G Q := by cases x <;> cases y <;> rfl
@[simp] theorem cmp_in : cmpD .In x y G Q = memD false x y G Q := by cases x <;> cases y <;> rfl
@[simp] theorem cmp_notin : cmpD .NotIn x y G Q = memD true x y G Q := by cases x <;> cases y <;> rfl
def isNon : D → Bool
  | .non => true
  | _ => false
@[simp] theorem is_bb {n : Bool} : isD n (.bl a) (.bl b) G Q = Q (.bl (if n then !decide (a = b) else decide (a = b))) G := rfl
@[simp] theorem is_non {n : Bool} : isD n x .non G Q = Q (.bl (if n then !isNon x else isNon x)) G := by cases x <;> cases n <;> rfl
@[simp] theorem isNon_non : isNon .non = true := rfl
@[simp] theorem isNon_tup : isNon (.tup xs) = false := rfl
@[simp] theorem isNon_int : isNon (.int i) = false := rfl
@[simp] theorem isNon_str : isNon (.str s) = false := rfl
@[simp] theorem isNon_bl : isNon (.bl a) = false := rfl
@[simp] theorem isNon_ref : isNon (.ref l) = false := rfl
@[simp] theorem ix_tup : ixD (.tup xs) (.int i) G Q = ∃ d, atI xs i = some d ∧ Q d G := rfl
@[simp] theorem ix_ref : ixD (.ref l) (.int i) G Q = ∃ ds d, sqAt G l = some ds ∧ atI ds i = some d ∧ Q d G := rfl
@[simp] theorem ix_lsv : ixD (.lsv xs) (.int i) G Q = ∃ d, atI xs i = some d ∧ Q d G := rfl
@[simp] theorem ix_str : ixD (.str s) (.int i) G Q = ∃ c, s.length ≤ sizeLine ∧ atI s.cps.toList i = some c ∧ Q (.str ⟨#[c]⟩) G := rfl
variable {lo hi : Option Int}
@[simp] theorem sl_tup : slD lo hi (.tup xs) G Q = Q (.tup (cutL xs lo hi)) G := rfl
@[simp] theorem sl_str : slD lo hi (.str s) G Q = (s.length ≤ sizeLine ∧ Q (.str (cutS s lo hi)) G) := rfl
@[simp] theorem sl_ref : slD lo hi (.ref l) G Q = ∃ ds, sqAt G l = some ds ∧ ∀ p, G p = none → Q (.ref p) (put G p (.lst (cutL ds lo hi))) := rfl
@[simp] theorem sl_lsv : slD lo hi (.lsv xs) G Q = ∀ p, G p = none → Q (.ref p) (put G p (.lst (cutL xs lo hi))) := rfl
@[simp] theorem mem_str {n : Bool} : memD n (.str s) (.str t) G Q = ∃ c, s = ⟨#[c]⟩ ∧ Q (.bl (if n then !decide (c ∈ t.cps.toList) else decide (c ∈ t.cps.toList))) G := rfl
@[simp] theorem mem_tup {n : Bool} : memD n x (.tup xs) G Q = (flD x = true ∧ xs.all flD = true ∧ Q (.bl (if n then !inD x xs else inD x xs)) G) := by cases x <;> rfl
@[simp] theorem mem_ref {n : Bool} : memD n x (.ref l) G Q = ∃ xs, sqAt G l = some xs ∧ flD x = true ∧ xs.all flD = true ∧ Q (.bl (if n then !inD x xs else inD x xs)) G := by cases x <;> rfl
@[simp] theorem tru_non : truD .non G T = T false G := rfl
@[simp] theorem tru_bl : truD (.bl a) G T = T a G := rfl
@[simp] theorem tru_int : truD (.int i) G T = T (i != 0) G := rfl
@[simp] theorem tru_tup : truD (.tup xs) G T = T (!xs.isEmpty) G := rfl
@[simp] theorem tru_lsv : truD (.lsv xs) G T = T (!xs.isEmpty) G := rfl
@[simp] theorem tru_ref : truD (.ref l) G T = ∃ ds, sqAt G l = some ds ∧ T (!ds.isEmpty) G := rfl
@[simp] theorem tru_str : truD (.str s) G T = (s.length ≤ sizeLine ∧ T ((s.length : Int) != 0) G) := rfl
@[simp] theorem atI_nat {α : Type} {l : List α} {n : Nat} : atI l (n : Int) = l[n]? := by
  unfold atI ixN
  rw [if_pos (Int.natCast_nonneg n)]
  by_cases h : n < l.length
  · rw [if_pos (by omega)]; simp
  · rw [if_neg (by omega), List.getElem?_eq_none (by omega)]; rfl
@[simp] theorem atI_0 {α : Type} {l : List α} : atI l 0 = l[0]? := atI_nat (n := 0)
@[simp] theorem atI_1 {α : Type} {l : List α} : atI l 1 = l[1]? := atI_nat (n := 1)
@[simp] theorem atI_2 {α : Type} {l : List α} : atI l 2 = l[2]? := atI_nat (n := 2)
@[simp] theorem atI_3 {α : Type} {l : List α} : atI l 3 = l[3]? := atI_nat (n := 3)
end
/-! ### heaps of which one list changes -/
/-- the list at a is l, what stood elsewhere stands -/
def Ext (a : Addr) (l : List D) (G G' : DH) : Prop := G' a = some (.lst l) ∧ ∀ b o, b ≠ a → G b = some o → G' b = some o
section
variable {a p : Addr} {l l' : List D} {G G1 G2 : DH} {o : DO}
theorem Ext.same (h : G a = some (.lst l)) : Ext a l G G := ⟨h, fun _ _ _ e => e⟩
theorem Ext.put : Ext a l G (put G a (.lst l)) := ⟨put_same, fun b o h e => by rw [put_ne h]; exact e⟩
theorem Ext.trans (e : Ext a l G G1) (f : Ext a l' G1 G2) : Ext a l' G G2 := ⟨f.1, fun b o h q => f.2 b o h (e.2 b o h q)⟩
theorem Ext.new (e : Ext a l G G1) (hp : G1 p = none) : Ext a l G (DL.put G1 p o) := by
  refine ⟨?_, fun b u h q => ?_⟩
  · rw [put_ne (ne_free e.1 hp)]; exact e.1
  · have := e.2 b u h q
    rw [put_ne (ne_free this hp)]; exact this
theorem Ext.sub (e : Ext a l G G1) (s : Sub G1 G2) : Ext a l G G2 := ⟨s a _ e.1, fun b o h q => s b o (e.2 b o h q)⟩
end
/-! ### sizes of ints -/
def Sz (n : Nat) (x : Int) : Prop := x.natAbs < 2 ^ n
section
variable {m n : Nat} {x y : Int}
theorem Sz.mono (h : Sz m x) (hm : m ≤ n) : Sz n x := Nat.lt_of_lt_of_le h (Nat.pow_le_pow_right (by decide) hm)
theorem Sz.mul (h : Sz m x) (h' : Sz n y) : Sz (m + n) (x * y) := by
  unfold Sz at *
  rw [Int.natAbs_mul, Nat.pow_add]
  exact Nat.mul_lt_mul'' h h'
theorem Sz.add (h : Sz m x) (h' : Sz m y) : Sz (m + 1) (x + y) := by
  unfold Sz at *
  have := Int.natAbs_add_le x y
  rw [Nat.pow_succ]; omega
theorem Sz.neg (h : Sz m x) : Sz m (-x) := by unfold Sz at *; rwa [Int.natAbs_neg]
theorem Sz.sub (h : Sz m x) (h' : Sz m y) : Sz (m + 1) (x - y) := by rw [Int.sub_eq_add_neg]; exact h.add h'.neg
theorem Sz.log (h : Sz n x) (hn : 0 < n) : x.natAbs.log2 < n := by
  by_cases h0 : x.natAbs = 0
  · rw [h0]; exact hn
  · exact (Nat.log2_lt h0).mpr h
theorem Sz.bits (h : Sz n x) : Builtin.Int.intBits x ≤ n := by
  unfold Builtin.Int.intBits
  split
  · exact Nat.zero_le _
  · rename_i hx
    have h0 : x.natAbs ≠ 0 := by simpa using hx
    have := (Nat.log2_lt h0).mpr h
    omega
theorem mul_ok (h : Sz m x) (h' : Sz n y) (hs : m + n ≤ 100000000) : IntMulOk x y := by
  have h1 := h.bits
  have h2 := h'.bits
  unfold IntMulOk Builtin.Int.intTooBig
  have : ¬ (((Builtin.Int.intBits x : Nat) : Int) + ((Builtin.Int.intBits y : Nat) : Int) > ((PySem.bitsLine : Nat) : Int)) := by
    have e : PySem.bitsLine = 134217728 := rfl
    rw [e]
    omega
  rw [decide_eq_false this]
  simp
end
theorem nat_inj {s t : List Char} (h : s.map Char.toNat = t.map Char.toNat) : s = t := by
  induction s generalizing t with
  | nil => cases t with
    | nil => rfl
    | cons _ _ => cases h
  | cons c s ih => cases t with
    | nil => cases h
    | cons d t =>
      rw [List.map_cons, List.map_cons] at h
      injection h with h1 h2
      have : c = d := Char.ext (UInt32.toNat_inj.mp h1)
      rw [this, ih h2]
@[simp] theorem ofString_inj {s t : String} : (Str.ofString s = Str.ofString t) ↔ s = t := by
  constructor
  · intro h
    have e := congrArg TL.tl h
    rw [TL.tl_ofString, TL.tl_ofString] at e
    exact String.toList_inj.mp (nat_inj e)
  · exact fun h => by rw [h]
theorem Ext.ty {a : Addr} {l l0 : List D} {G G1 : DH} {x : D} {t : Ty} (e : Ext a l G G1) (h0 : G a = some (.lst l0)) (h : tyD G x = some t) : tyD G1 x = some t := by
  cases x with
  | ref b =>
    simp only [tyD] at h ⊢
    by_cases hb : b = a
    · subst hb
      rw [h0] at h
      rw [e.1]
      exact h
    · cases q : G b with
      | none => rw [q] at h; cases h
      | some o =>
        rw [q] at h
        rw [e.2 b o hb q]
        exact h
  | _ => exact h
/-! ### the end -/
def spLaw (K : PySem.W.Frag) : Sp := fun vs H Q _ => ∃ (a : Addr) (ns : List Int), vs = [.ref a] ∧ SqV K H a (ns.map V.int) ∧ ns.length ≤ 63 ∧ ∀ H', Q (.bl true) H'
def SLaw : DSp := fun ds _ Q _ => ∃ ns : List Int, ds = [.lsv (ns.map D.int)] ∧ ns.length ≤ 63 ∧ ∀ G', Q (.bl true) G'
theorem sqv_only {K : PySem.W.Frag} {H : Hp} {a : Addr} {xs : List V} (o : Only H) (h : SqL K H a xs) : SqV K H a xs := .of h fun ys z => by
  rcases o a with e | ⟨_, _, e⟩
  · rw [e] at z; cases z
  · rw [e] at z; cases z
theorem rps_ints {K : PySem.W.Frag} {H : Hp} : ∀ ns : List Int, Rps K H (ns.map D.int) (ns.map V.int)
  | [] => rfl
  | n :: ns => ⟨_, _, rfl, rfl, rps_ints ns⟩
theorem law_imp {K : PySem.W.Frag} {mg : Str → Option Value} {vs : List V} {H : Hp} {Q : VK} {E : XK} (h : spLaw K vs H Q E) : toSp K mg 1 SLaw vs H Q E := by
  obtain ⟨a, ns, e, q, hl, hQ⟩ := h
  subst e
  refine ⟨[.lsv (ns.map D.int)], fun _ => none, fun d _ => d = .bl true, fun _ _ => False, rfl, ⟨_, _, rfl, ⟨a, _, rfl, q, rps_ints ns⟩, rfl⟩, fun _ _ z => (by cases z), ⟨ns, rfl, hl, fun _ => rfl⟩, fun d G' v H' ed rd _ _ => ?_, fun _ _ _ _ _ z => False.elim z⟩
  subst ed
  rw [show v = V.bl true from rd]
  exact hQ H'
end DL

set_option Elab.async false
set_option linter.all false
set_option maxRecDepth 100000
set_option maxHeartbeats 4000000
namespace DL.K00
open PySem PySem.Spec PyProof.Rows L2 DL
def topS (i : Nat) : Stmt := PySem.Challenge.pw_polybench_k00_fractions.main.body.getD i (.Pass ⟨0, 0, 0, 0⟩)
/-- is_integer: value; calls  -/
def m_is_integer : MSs := (.cons (.ret (.and (.cons (.isi (.var 0) .int) (.cons (.not (.isi (.var 0) .bool)) .nil)))) .nil)
theorem sc_is_integer : FnScope ["value"] ["value"] (defScope (topS 8)) := ⟨rfl, rfl, rfl, by decide +kernel, rfl, by decide +kernel, by decide +kernel⟩
theorem ck_is_integer : chSs ⟨["value"], defScope (topS 8), defScope (topS 8), false, true⟩ m_is_integer (defBody (topS 8)) = true := by decide +kernel
/-- is_tuple_of: value many; calls  -/
def m_is_tuple_of : MSs := (.cons (.ret (.and (.cons (.isi (.var 0) .tuple) (.cons (.cmp .Eq (.bi .len (.cons (.var 0) .nil)) (.var 1)) .nil)))) .nil)
theorem sc_is_tuple_of : FnScope ["value", "many"] ["value", "many"] (defScope (topS 9)) := ⟨rfl, rfl, rfl, by decide +kernel, rfl, by decide +kernel, by decide +kernel⟩
theorem ck_is_tuple_of : chSs ⟨["value", "many"], defScope (topS 9), defScope (topS 9), false, true⟩ m_is_tuple_of (defBody (topS 9)) = true := by decide +kernel
/-- is_decimal: word most digits sign; calls  -/
def m_is_decimal : MSs := (.cons (.asg (.name 2) (.ifx (.cmp .Eq (.slc (.var 0) .none (.some (.int 1))) (.str "-")) (.slc (.var 0) (.some (.int 1)) .none) (.var 0))) (.cons (.ifs (.or (.cons (.not (.chain .LtE .LtE (.int 1) (.bi .len (.cons (.var 2) .nil)) (.var 1))) (.cons (.not (.bi .all (.cons (.lc [("sign", 3)] (.name 3) (.seq (.var 2)) .none (.cmp .In (.var 3) (.glob "DIGITS"))) .nil))) .nil))) (.cons (.ret (.bl false)) .nil) .nil) (.cons (.ret (.or (.cons (.cmp .NotEq (.ix (.var 2) (.int 0)) (.str "0")) (.cons (.cmp .Eq (.var 0) (.str "0")) .nil)))) .nil)))
theorem sc_is_decimal : FnScope ["word", "most", "digits", "sign"] ["word", "most"] (defScope (topS 10)) := ⟨rfl, rfl, rfl, by decide +kernel, rfl, by decide +kernel, by decide +kernel⟩
theorem ck_is_decimal : chSs ⟨["word", "most", "digits", "sign"], defScope (topS 10), defScope (topS 10), false, true⟩ m_is_decimal (defBody (topS 10)) = true := by decide +kernel
/-- is_fraction: value item; calls is_tuple_of is_integer -/
def m_is_fraction : MSs := (.cons (.ifs (.or (.cons (.not (.call "is_tuple_of" (.cons (.var 0) (.cons (.int 2) .nil)))) (.cons (.not (.bi .all (.cons (.lc [("item", 1)] (.name 1) (.seq (.var 0)) .none (.call "is_integer" (.cons (.var 1) .nil))) .nil))) .nil))) (.cons (.ret (.bl false)) .nil) .nil) (.cons (.ret (.and (.cons (.cmp .Gt (.ix (.var 0) (.int 1)) (.int 0)) (.cons (.cmp .Eq (.bi .gcd (.cons (.ix (.var 0) (.int 0)) (.cons (.ix (.var 0) (.int 1)) .nil))) (.int 1)) .nil)))) .nil))
theorem sc_is_fraction : FnScope ["value", "item"] ["value"] (defScope (topS 13)) := ⟨rfl, rfl, rfl, by decide +kernel, rfl, by decide +kernel, by decide +kernel⟩
theorem ck_is_fraction : chSs ⟨["value", "item"], defScope (topS 13), defScope (topS 13), false, true⟩ m_is_fraction (defBody (topS 13)) = true := by decide +kernel
/-- lowest: numerator denominator common; calls  -/
def m_lowest : MSs := (.cons (.asg (.name 2) (.bi .gcd (.cons (.var 0) (.cons (.var 1) .nil)))) (.cons (.ifs (.cmp .Lt (.var 1) (.int 0)) (.cons (.asg (.name 2) (.neg (.var 2))) .nil) .nil) (.cons (.ret (.tup (.cons (.bin .FloorDiv (.var 0) (.var 2)) (.cons (.bin .FloorDiv (.var 1) (.var 2)) .nil)))) .nil)))
theorem sc_lowest : FnScope ["numerator", "denominator", "common"] ["numerator", "denominator"] (defScope (topS 14)) := ⟨rfl, rfl, rfl, by decide +kernel, rfl, by decide +kernel, by decide +kernel⟩
theorem ck_lowest : chSs ⟨["numerator", "denominator", "common"], defScope (topS 14), defScope (topS 14), false, true⟩ m_lowest (defBody (topS 14)) = true := by decide +kernel
/-- fraction: numerator denominator; calls is_integer lowest -/
def m_fraction : MSs := (.cons (.ifs (.not (.call "is_integer" (.cons (.var 0) .nil))) (.cons (.raise "InvalidNumber" (.cons (.var 0) .nil)) .nil) .nil) (.cons (.ifs (.or (.cons (.not (.call "is_integer" (.cons (.var 1) .nil))) (.cons (.cmp .Eq (.var 1) (.int 0)) .nil))) (.cons (.raise "InvalidNumber" (.cons (.var 1) .nil)) .nil) .nil) (.cons (.ret (.call "lowest" (.cons (.var 0) (.cons (.var 1) .nil)))) .nil)))
theorem sc_fraction : FnScope ["numerator", "denominator"] ["numerator", "denominator"] (defScope (topS 15)) := ⟨rfl, rfl, rfl, by decide +kernel, rfl, by decide +kernel, by decide +kernel⟩
theorem ck_fraction : chSs ⟨["numerator", "denominator"], defScope (topS 15), defScope (topS 15), false, true⟩ m_fraction (defBody (topS 15)) = true := by decide +kernel
/-- whole: number; calls  -/
def m_whole : MSs := (.cons (.ret (.tup (.cons (.var 0) (.cons (.int 1) .nil)))) .nil)
theorem sc_whole : FnScope ["number"] ["number"] (defScope (topS 16)) := ⟨rfl, rfl, rfl, by decide +kernel, rfl, by decide +kernel, by decide +kernel⟩
theorem ck_whole : chSs ⟨["number"], defScope (topS 16), defScope (topS 16), false, true⟩ m_whole (defBody (topS 16)) = true := by decide +kernel
/-- add: one other; calls lowest -/
def m_add : MSs := (.cons (.ret (.call "lowest" (.cons (.bin .Add (.bin .Mult (.ix (.var 0) (.int 0)) (.ix (.var 1) (.int 1))) (.bin .Mult (.ix (.var 1) (.int 0)) (.ix (.var 0) (.int 1)))) (.cons (.bin .Mult (.ix (.var 0) (.int 1)) (.ix (.var 1) (.int 1))) .nil)))) .nil)
theorem sc_add : FnScope ["one", "other"] ["one", "other"] (defScope (topS 17)) := ⟨rfl, rfl, rfl, by decide +kernel, rfl, by decide +kernel, by decide +kernel⟩
theorem ck_add : chSs ⟨["one", "other"], defScope (topS 17), defScope (topS 17), false, true⟩ m_add (defBody (topS 17)) = true := by decide +kernel
/-- subtract: one other; calls lowest -/
def m_subtract : MSs := (.cons (.ret (.call "lowest" (.cons (.bin .Sub (.bin .Mult (.ix (.var 0) (.int 0)) (.ix (.var 1) (.int 1))) (.bin .Mult (.ix (.var 1) (.int 0)) (.ix (.var 0) (.int 1)))) (.cons (.bin .Mult (.ix (.var 0) (.int 1)) (.ix (.var 1) (.int 1))) .nil)))) .nil)
theorem sc_subtract : FnScope ["one", "other"] ["one", "other"] (defScope (topS 18)) := ⟨rfl, rfl, rfl, by decide +kernel, rfl, by decide +kernel, by decide +kernel⟩
theorem ck_subtract : chSs ⟨["one", "other"], defScope (topS 18), defScope (topS 18), false, true⟩ m_subtract (defBody (topS 18)) = true := by decide +kernel
/-- multiply: one other; calls lowest -/
def m_multiply : MSs := (.cons (.ret (.call "lowest" (.cons (.bin .Mult (.ix (.var 0) (.int 0)) (.ix (.var 1) (.int 0))) (.cons (.bin .Mult (.ix (.var 0) (.int 1)) (.ix (.var 1) (.int 1))) .nil)))) .nil)
theorem sc_multiply : FnScope ["one", "other"] ["one", "other"] (defScope (topS 19)) := ⟨rfl, rfl, rfl, by decide +kernel, rfl, by decide +kernel, by decide +kernel⟩
theorem ck_multiply : chSs ⟨["one", "other"], defScope (topS 19), defScope (topS 19), false, true⟩ m_multiply (defBody (topS 19)) = true := by decide +kernel
/-- divide: one other; calls lowest -/
def m_divide : MSs := (.cons (.ifs (.cmp .Eq (.ix (.var 1) (.int 0)) (.int 0)) (.cons (.raise "DividedByZero" .nil) .nil) .nil) (.cons (.ret (.call "lowest" (.cons (.bin .Mult (.ix (.var 0) (.int 0)) (.ix (.var 1) (.int 1))) (.cons (.bin .Mult (.ix (.var 0) (.int 1)) (.ix (.var 1) (.int 0))) .nil)))) .nil))
theorem sc_divide : FnScope ["one", "other"] ["one", "other"] (defScope (topS 20)) := ⟨rfl, rfl, rfl, by decide +kernel, rfl, by decide +kernel, by decide +kernel⟩
theorem ck_divide : chSs ⟨["one", "other"], defScope (topS 20), defScope (topS 20), false, true⟩ m_divide (defBody (topS 20)) = true := by decide +kernel
/-- compare: one other left right; calls  -/
def m_compare : MSs := (.cons (.par2 2 3 (.cons (.bin .Mult (.ix (.var 0) (.int 0)) (.ix (.var 1) (.int 1))) (.cons (.bin .Mult (.ix (.var 1) (.int 0)) (.ix (.var 0) (.int 1))) .nil))) (.cons (.ret (.bin .Sub (.bi .int (.cons (.cmp .Gt (.var 2) (.var 3)) .nil)) (.bi .int (.cons (.cmp .Lt (.var 2) (.var 3)) .nil)))) .nil))
theorem sc_compare : FnScope ["one", "other", "left", "right"] ["one", "other"] (defScope (topS 21)) := ⟨rfl, rfl, rfl, by decide +kernel, rfl, by decide +kernel, by decide +kernel⟩
theorem ck_compare : chSs ⟨["one", "other", "left", "right"], defScope (topS 21), defScope (topS 21), false, true⟩ m_compare (defBody (topS 21)) = true := by decide +kernel
/-- text_of_fraction: one; calls  -/
def m_text_of_fraction : MSs := (.cons (.ret (.ifx (.cmp .Eq (.ix (.var 0) (.int 1)) (.int 1)) (.bi .str (.cons (.ix (.var 0) (.int 0)) .nil)) (.fstr (.cons (.fmt (.ix (.var 0) (.int 0))) (.cons (.str "/") (.cons (.fmt (.ix (.var 0) (.int 1))) .nil)))))) .nil)
theorem sc_text_of_fraction : FnScope ["one"] ["one"] (defScope (topS 22)) := ⟨rfl, rfl, rfl, by decide +kernel, rfl, by decide +kernel, by decide +kernel⟩
theorem ck_text_of_fraction : chSs ⟨["one"], defScope (topS 22), defScope (topS 22), false, true⟩ m_text_of_fraction (defBody (topS 22)) = true := by decide +kernel
/-- fraction_in: text found above sign below; calls is_decimal whole is_fraction -/
def m_fraction_in : MSs := (.cons (.asg (.tup (.cons (.name 2) (.cons (.name 3) (.cons (.name 4) .nil)))) (.meth .partition (.var 0) (.cons (.str "/") .nil))) (.cons (.ifs (.not (.call "is_decimal" (.cons (.var 2) (.cons (.glob "MOST_DIGITS") .nil)))) (.cons (.ret .non) .nil) .nil) (.cons (.ifs (.cmp .Eq (.var 3) (.str "")) (.cons (.ret (.call "whole" (.cons (.bi .int (.cons (.var 2) .nil)) .nil))) .nil) .nil) (.cons (.ifs (.or (.cons (.not (.call "is_decimal" (.cons (.var 4) (.cons (.glob "MOST_DIGITS") .nil)))) (.cons (.cmp .Eq (.ix (.var 4) (.int 0)) (.str "-")) .nil))) (.cons (.ret .non) .nil) .nil) (.cons (.asg (.name 1) (.tup (.cons (.bi .int (.cons (.var 2) .nil)) (.cons (.bi .int (.cons (.var 4) .nil)) .nil)))) (.cons (.ret (.ifx (.and (.cons (.cmp .Gt (.ix (.var 1) (.int 1)) (.int 1)) (.cons (.call "is_fraction" (.cons (.var 1) .nil)) .nil))) (.var 1) .non)) .nil))))))
theorem sc_fraction_in : FnScope ["text", "found", "above", "sign", "below"] ["text"] (defScope (topS 23)) := ⟨rfl, rfl, rfl, by decide +kernel, rfl, by decide +kernel, by decide +kernel⟩
theorem ck_fraction_in : chSs ⟨["text", "found", "above", "sign", "below"], defScope (topS 23), defScope (topS 23), false, true⟩ m_fraction_in (defBody (topS 23)) = true := by decide +kernel
/-- read_fraction: text found; calls fraction_in -/
def m_read_fraction : MSs := (.cons (.asg (.name 1) (.ifx (.isi (.var 0) .str) (.call "fraction_in" (.cons (.var 0) .nil)) .non)) (.cons (.ifs (.cmp .Is (.var 1) .non) (.cons (.raise "InvalidText" (.cons (.var 0) .nil)) .nil) .nil) (.cons (.ret (.var 1)) .nil)))
theorem sc_read_fraction : FnScope ["text", "found"] ["text"] (defScope (topS 24)) := ⟨rfl, rfl, rfl, by decide +kernel, rfl, by decide +kernel, by decide +kernel⟩
theorem ck_read_fraction : chSs ⟨["text", "found"], defScope (topS 24), defScope (topS 24), false, true⟩ m_read_fraction (defBody (topS 24)) = true := by decide +kernel
/-- _law_cell: script k; calls  -/
def m_f_law_cell : MSs := (.cons (.ret (.ifx (.cmp .Lt (.var 1) (.bi .len (.cons (.var 0) .nil))) (.ix (.var 0) (.var 1)) (.bin .Add (.bin .Mult (.int 6007) (.var 1)) (.bin .Mod (.bi .int (.cons (.bi .sum (.cons (.slc (.var 0) .none (.some (.int 1))) .nil)) .nil)) (.int 1000033))))) .nil)
theorem sc_f_law_cell : FnScope ["script", "k"] ["script", "k"] (defScope (topS 26)) := ⟨rfl, rfl, rfl, by decide +kernel, rfl, by decide +kernel, by decide +kernel⟩
theorem ck_f_law_cell : chSs ⟨["script", "k"], defScope (topS 26), defScope (topS 26), false, true⟩ m_f_law_cell (defBody (topS 26)) = true := by decide +kernel
/-- _law_box: great; calls  -/
def m_f_law_box : MSs := (.cons (.ret (.lst (.cons (.bi .abs (.cons (.var 0) .nil)) (.cons (.cmp .GtE (.bi .abs (.cons (.var 0) .nil)) (.bin .Pow (.int 10) (.int 18))) (.cons (.bin .Mod (.bi .int (.cons (.bi .abs (.cons (.var 0) .nil)) .nil)) (.int 2147483629)) (.cons (.int 0) .nil)))))) .nil)
theorem sc_f_law_box : FnScope ["great"] ["great"] (defScope (topS 27)) := ⟨rfl, rfl, rfl, by decide +kernel, rfl, by decide +kernel, by decide +kernel⟩
theorem ck_f_law_box : chSs ⟨["great"], defScope (topS 27), defScope (topS 27), false, true⟩ m_f_law_box (defBody (topS 27)) = true := by decide +kernel
/-- _law_take: box many mixed digit; calls  -/
def m_f_law_take : MSs := (.cons (.ifs (.and (.cons (.ix (.var 0) (.int 1)) (.cons (.cmp .Gt (.ix (.var 0) (.int 0)) (.int 0)) .nil))) (.cons (.asg (.name 3) (.bin .Mod (.bi .int (.cons (.ix (.var 0) (.int 0)) .nil)) (.var 1))) (.cons (.asg (.sub (.var 0) (.int 0)) (.bin .FloorDiv (.ix (.var 0) (.int 0)) (.var 1))) (.cons (.ret (.var 3)) .nil))) .nil) (.cons (.asg (.sub (.var 0) (.int 3)) (.bin .Add (.ix (.var 0) (.int 3)) (.int 1))) (.cons (.asg (.name 2) (.bin .Mod (.bi .int (.cons (.bin .Pow (.bin .Add (.bin .Add (.ix (.var 0) (.int 2)) (.bin .Mult (.int 15485863) (.ix (.var 0) (.int 3)))) (.int 179424673)) (.int 5)) .nil)) (.int 2147483647))) (.cons (.ret (.bin .Mod (.bi .int (.cons (.bin .FloorDiv (.bin .Mod (.bi .int (.cons (.bin .Pow (.bin .Add (.bin .Mult (.var 2) (.int 48271)) (.bin .Mult (.int 104729) (.ix (.var 0) (.int 3)))) (.int 3)) .nil)) (.int 2147483587)) (.int 64)) .nil)) (.var 1))) .nil))))
theorem sc_f_law_take : FnScope ["box", "many", "mixed", "digit"] ["box", "many"] (defScope (topS 28)) := ⟨rfl, rfl, rfl, by decide +kernel, rfl, by decide +kernel, by decide +kernel⟩
theorem ck_f_law_take : chSs ⟨["box", "many", "mixed", "digit"], defScope (topS 28), defScope (topS 28), false, true⟩ m_f_law_take (defBody (topS 28)) = true := by decide +kernel
/-- _law_same: told due k; calls _law_same -/
def m_f_law_same : MSs := (.cons (.ifs (.or (.cons (.cmp .Is (.var 1) .non) (.cons (.isi (.var 1) .bool) .nil))) (.cons (.ret (.ifx (.cmp .Is (.var 1) .non) (.cmp .Is (.var 0) .non) (.and (.cons (.isi (.var 0) .bool) (.cons (.cmp .Eq (.cmp .Is (.var 0) (.bl true)) (.cmp .Is (.var 1) (.bl true))) .nil))))) .nil) .nil) (.cons (.ifs (.isi (.var 1) .int) (.cons (.ret (.and (.cons (.isi (.var 0) .int) (.cons (.not (.isi (.var 0) .bool)) (.cons (.cmp .Eq (.bin .Sub (.bi .int (.cons (.var 0) .nil)) (.var 1)) (.int 0)) .nil))))) .nil) .nil) (.cons (.ifs (.isi (.var 1) .str) (.cons (.ret (.and (.cons (.isi (.var 0) .str) (.cons (.cmp .Eq (.bi .len (.cons (.var 0) .nil)) (.bi .len (.cons (.var 1) .nil))) (.cons (.cmp .Eq (.lc [("k", 2)] (.name 2) (.range (.cons (.bi .len (.cons (.var 1) .nil)) .nil)) (.some (.cmp .NotEq (.slc (.var 0) (.some (.var 2)) (.some (.bin .Add (.var 2) (.int 1)))) (.ix (.var 1) (.var 2)))) (.var 2)) (.lst .nil)) .nil))))) .nil) .nil) (.cons (.ifs (.or (.cons (.cmp .NotEq (.isi (.var 0) .list) (.isi (.var 1) .list)) (.cons (.cmp .NotEq (.isi (.var 0) .tuple) (.isi (.var 1) .tuple)) .nil))) (.cons (.ret (.bl false)) .nil) .nil) (.cons (.ret (.and (.cons (.cmp .Eq (.bi .len (.cons (.var 0) .nil)) (.bi .len (.cons (.var 1) .nil))) (.cons (.cmp .Eq (.lc [("k", 2)] (.name 2) (.range (.cons (.bi .len (.cons (.var 1) .nil)) .nil)) (.some (.not (.call "_law_same" (.cons (.ix (.var 0) (.var 2)) (.cons (.ix (.var 1) (.var 2)) .nil))))) (.var 2)) (.lst .nil)) .nil)))) .nil)))))
theorem sc_f_law_same : FnScope ["told", "due", "k"] ["told", "due"] (defScope (topS 29)) := ⟨rfl, rfl, rfl, by decide +kernel, rfl, by decide +kernel, by decide +kernel⟩
theorem ck_f_law_same : chSs ⟨["told", "due", "k"], defScope (topS 29), defScope (topS 29), false, true⟩ m_f_law_same (defBody (topS 29)) = true := by decide +kernel
/-- _law_gcd: a b; calls  -/
def m_f_law_gcd : MSs := (.cons (.par2 0 1 (.cons (.bi .abs (.cons (.var 0) .nil)) (.cons (.bi .abs (.cons (.var 1) .nil)) .nil))) (.cons (.whl (.cmp .NotEq (.var 1) (.int 0)) (.cons (.par2 0 1 (.cons (.var 1) (.cons (.bin .Mod (.var 0) (.var 1)) .nil))) .nil)) (.cons (.ret (.var 0)) .nil)))
theorem sc_f_law_gcd : FnScope ["a", "b"] ["a", "b"] (defScope (topS 30)) := ⟨rfl, rfl, rfl, by decide +kernel, rfl, by decide +kernel, by decide +kernel⟩
theorem ck_f_law_gcd : chSs ⟨["a", "b"], defScope (topS 30), defScope (topS 30), false, true⟩ m_f_law_gcd (defBody (topS 30)) = true := by decide +kernel
/-- _law_low: top bottom by; calls _law_gcd -/
def m_f_law_low : MSs := (.cons (.ifs (.cmp .Lt (.var 1) (.int 0)) (.cons (.par2 0 1 (.cons (.neg (.var 0)) (.cons (.neg (.var 1)) .nil))) .nil) .nil) (.cons (.asg (.name 2) (.call "_law_gcd" (.cons (.var 0) (.cons (.var 1) .nil)))) (.cons (.ret (.tup (.cons (.bin .FloorDiv (.var 0) (.var 2)) (.cons (.bin .FloorDiv (.var 1) (.var 2)) .nil)))) .nil)))
theorem sc_f_law_low : FnScope ["top", "bottom", "by"] ["top", "bottom"] (defScope (topS 31)) := ⟨rfl, rfl, rfl, by decide +kernel, rfl, by decide +kernel, by decide +kernel⟩
theorem ck_f_law_low : chSs ⟨["top", "bottom", "by"], defScope (topS 31), defScope (topS 31), false, true⟩ m_f_law_low (defBody (topS 31)) = true := by decide +kernel
/-- _law_add: one other; calls _law_low -/
def m_f_law_add : MSs := (.cons (.ret (.call "_law_low" (.cons (.bin .Add (.bin .Mult (.ix (.var 0) (.int 0)) (.ix (.var 1) (.int 1))) (.bin .Mult (.ix (.var 1) (.int 0)) (.ix (.var 0) (.int 1)))) (.cons (.bin .Mult (.ix (.var 0) (.int 1)) (.ix (.var 1) (.int 1))) .nil)))) .nil)
theorem sc_f_law_add : FnScope ["one", "other"] ["one", "other"] (defScope (topS 32)) := ⟨rfl, rfl, rfl, by decide +kernel, rfl, by decide +kernel, by decide +kernel⟩
theorem ck_f_law_add : chSs ⟨["one", "other"], defScope (topS 32), defScope (topS 32), false, true⟩ m_f_law_add (defBody (topS 32)) = true := by decide +kernel
/-- _law_less: one other; calls _law_low -/
def m_f_law_less : MSs := (.cons (.ret (.call "_law_low" (.cons (.bin .Sub (.bin .Mult (.ix (.var 0) (.int 0)) (.ix (.var 1) (.int 1))) (.bin .Mult (.ix (.var 1) (.int 0)) (.ix (.var 0) (.int 1)))) (.cons (.bin .Mult (.ix (.var 0) (.int 1)) (.ix (.var 1) (.int 1))) .nil)))) .nil)
theorem sc_f_law_less : FnScope ["one", "other"] ["one", "other"] (defScope (topS 33)) := ⟨rfl, rfl, rfl, by decide +kernel, rfl, by decide +kernel, by decide +kernel⟩
theorem ck_f_law_less : chSs ⟨["one", "other"], defScope (topS 33), defScope (topS 33), false, true⟩ m_f_law_less (defBody (topS 33)) = true := by decide +kernel
/-- _law_mul: one other; calls _law_low -/
def m_f_law_mul : MSs := (.cons (.ret (.call "_law_low" (.cons (.bin .Mult (.ix (.var 0) (.int 0)) (.ix (.var 1) (.int 0))) (.cons (.bin .Mult (.ix (.var 0) (.int 1)) (.ix (.var 1) (.int 1))) .nil)))) .nil)
theorem sc_f_law_mul : FnScope ["one", "other"] ["one", "other"] (defScope (topS 34)) := ⟨rfl, rfl, rfl, by decide +kernel, rfl, by decide +kernel, by decide +kernel⟩
theorem ck_f_law_mul : chSs ⟨["one", "other"], defScope (topS 34), defScope (topS 34), false, true⟩ m_f_law_mul (defBody (topS 34)) = true := by decide +kernel
/-- _law_div: one other; calls _law_low -/
def m_f_law_div : MSs := (.cons (.ret (.call "_law_low" (.cons (.bin .Mult (.ix (.var 0) (.int 0)) (.ix (.var 1) (.int 1))) (.cons (.bin .Mult (.ix (.var 0) (.int 1)) (.ix (.var 1) (.int 0))) .nil)))) .nil)
theorem sc_f_law_div : FnScope ["one", "other"] ["one", "other"] (defScope (topS 35)) := ⟨rfl, rfl, rfl, by decide +kernel, rfl, by decide +kernel, by decide +kernel⟩
theorem ck_f_law_div : chSs ⟨["one", "other"], defScope (topS 35), defScope (topS 35), false, true⟩ m_f_law_div (defBody (topS 35)) = true := by decide +kernel
/-- _law_very: told word value; calls _law_same -/
def m_f_law_very : MSs := (.cons (.ret (.and (.cons (.cmp .Eq (.ix (.var 0) (.int 0)) (.var 1)) (.cons (.ifx (.isi (.var 2) .dict) (.isi (.ix (.var 0) (.int 1)) .dict) (.call "_law_same" (.cons (.ix (.var 0) (.int 1)) (.cons (.var 2) .nil)))) .nil)))) .nil)
theorem sc_f_law_very : FnScope ["told", "word", "value"] ["told", "word", "value"] (defScope (topS 36)) := ⟨rfl, rfl, rfl, by decide +kernel, rfl, by decide +kernel, by decide +kernel⟩
theorem ck_f_law_very : chSs ⟨["told", "word", "value"], defScope (topS 36), defScope (topS 36), false, true⟩ m_f_law_very (defBody (topS 36)) = true := by decide +kernel
/-- _law_caught: box word one other by_name e; calls _law_take fraction add subtract multiply divide compare text_of_fraction read_fraction is_fraction -/
def m_f_law_caught : MSs := (.cons (.asg (.name 4) (.cmp .Eq (.call "_law_take" (.cons (.var 0) (.cons (.int 2) .nil))) (.int 1))) (.cons (.tryy (.cons (.ifs (.cmp .Eq (.var 1) (.str "make")) (.cons (.ret (.tup (.cons (.str "told") (.cons (.ifx (.var 4) (.callk "fraction" .nil ["denominator", "numerator"] (.cons (.var 3) (.cons (.var 2) .nil))) (.call "fraction" (.cons (.var 2) (.cons (.var 3) .nil)))) .nil)))) .nil) .nil) (.cons (.ifs (.cmp .Eq (.var 1) (.str "add")) (.cons (.ret (.tup (.cons (.str "told") (.cons (.ifx (.var 4) (.callk "add" .nil ["other", "one"] (.cons (.var 3) (.cons (.var 2) .nil))) (.call "add" (.cons (.var 2) (.cons (.var 3) .nil)))) .nil)))) .nil) .nil) (.cons (.ifs (.cmp .Eq (.var 1) (.str "subtract")) (.cons (.ret (.tup (.cons (.str "told") (.cons (.ifx (.var 4) (.callk "subtract" .nil ["other", "one"] (.cons (.var 3) (.cons (.var 2) .nil))) (.call "subtract" (.cons (.var 2) (.cons (.var 3) .nil)))) .nil)))) .nil) .nil) (.cons (.ifs (.cmp .Eq (.var 1) (.str "multiply")) (.cons (.ret (.tup (.cons (.str "told") (.cons (.ifx (.var 4) (.callk "multiply" .nil ["other", "one"] (.cons (.var 3) (.cons (.var 2) .nil))) (.call "multiply" (.cons (.var 2) (.cons (.var 3) .nil)))) .nil)))) .nil) .nil) (.cons (.ifs (.cmp .Eq (.var 1) (.str "divide")) (.cons (.ret (.tup (.cons (.str "told") (.cons (.ifx (.var 4) (.callk "divide" .nil ["other", "one"] (.cons (.var 3) (.cons (.var 2) .nil))) (.call "divide" (.cons (.var 2) (.cons (.var 3) .nil)))) .nil)))) .nil) .nil) (.cons (.ifs (.cmp .Eq (.var 1) (.str "compare")) (.cons (.ret (.tup (.cons (.str "told") (.cons (.ifx (.var 4) (.callk "compare" .nil ["other", "one"] (.cons (.var 3) (.cons (.var 2) .nil))) (.call "compare" (.cons (.var 2) (.cons (.var 3) .nil)))) .nil)))) .nil) .nil) (.cons (.ifs (.cmp .Eq (.var 1) (.str "text")) (.cons (.ret (.tup (.cons (.str "told") (.cons (.ifx (.var 4) (.callk "text_of_fraction" .nil ["one"] (.cons (.var 2) .nil)) (.call "text_of_fraction" (.cons (.var 2) .nil))) .nil)))) .nil) .nil) (.cons (.ifs (.cmp .Eq (.var 1) (.str "read")) (.cons (.ret (.tup (.cons (.str "told") (.cons (.ifx (.var 4) (.callk "read_fraction" .nil ["text"] (.cons (.var 2) .nil)) (.call "read_fraction" (.cons (.var 2) .nil))) .nil)))) .nil) .nil) (.cons (.ret (.tup (.cons (.str "told") (.cons (.ifx (.var 4) (.callk "is_fraction" .nil ["value"] (.cons (.var 2) .nil)) (.call "is_fraction" (.cons (.var 2) .nil))) .nil)))) .nil))))))))) [⟨"InvalidNumber", some 5, (.tup (.cons (.str "number") (.cons (.exf 5 "given") .nil)))⟩, ⟨"InvalidText", some 5, (.tup (.cons (.str "text") (.cons (.exf 5 "given") .nil)))⟩, ⟨"DividedByZero", none, (.tup (.cons (.str "zero") (.cons .non .nil)))⟩]) .nil))
theorem sc_f_law_caught : FnScope ["box", "word", "one", "other", "by_name", "e"] ["box", "word", "one", "other"] (defScope (topS 37)) := ⟨rfl, rfl, rfl, by decide +kernel, rfl, by decide +kernel, by decide +kernel⟩
theorem ck_f_law_caught : chSs ⟨["box", "word", "one", "other", "by_name", "e"], defScope (topS 37), defScope (topS 37), false, true⟩ m_f_law_caught (defBody (topS 37)) = true := by decide +kernel
/-- _law_pair: box wide top; calls _law_take _law_low -/
def m_f_law_pair : MSs := (.cons (.asg (.name 1) (.ix (.lst (.cons (.int 4) (.cons (.int 10) (.cons (.int 100) (.cons (.bin .Pow (.int 10) (.int 6)) (.cons (.bin .Pow (.int 10) (.int 25)) .nil)))))) (.call "_law_take" (.cons (.var 0) (.cons (.int 5) .nil))))) (.cons (.asg (.name 2) (.bin .Mult (.bin .Mult (.call "_law_take" (.cons (.var 0) (.cons (.var 1) .nil))) (.bin .Sub (.int 1) (.bin .Mult (.int 2) (.call "_law_take" (.cons (.var 0) (.cons (.int 2) .nil)))))) (.bi .int (.cons (.cmp .NotEq (.call "_law_take" (.cons (.var 0) (.cons (.int 8) .nil))) (.int 0)) .nil)))) (.cons (.ret (.call "_law_low" (.cons (.var 2) (.cons (.bin .Add (.int 1) (.call "_law_take" (.cons (.var 0) (.cons (.ix (.lst (.cons (.int 1) (.cons (.var 1) .nil))) (.bi .int (.cons (.cmp .Gt (.call "_law_take" (.cons (.var 0) (.cons (.int 4) .nil))) (.int 0)) .nil))) .nil)))) .nil)))) .nil)))
theorem sc_f_law_pair : FnScope ["box", "wide", "top"] ["box"] (defScope (topS 38)) := ⟨rfl, rfl, rfl, by decide +kernel, rfl, by decide +kernel, by decide +kernel⟩
theorem ck_f_law_pair : chSs ⟨["box", "wide", "top"], defScope (topS 38), defScope (topS 38), false, true⟩ m_f_law_pair (defBody (topS 38)) = true := by decide +kernel
/-- _law_digits: number left found; calls  -/
def m_f_law_digits : MSs := (.cons (.par2 1 2 (.cons (.bi .abs (.cons (.var 0) .nil)) (.cons (.str "") .nil))) (.cons (.whl (.cmp .Gt (.var 1) (.int 0)) (.cons (.par2 2 1 (.cons (.bin .Add (.ix (.str "0123456789") (.bin .Mod (.var 1) (.int 10))) (.var 2)) (.cons (.bin .FloorDiv (.var 1) (.int 10)) .nil))) .nil)) (.cons (.ret (.bin .Add (.ifx (.cmp .Lt (.var 0) (.int 0)) (.str "-") (.str "")) (.ifx (.cmp .NotEq (.var 2) (.str "")) (.var 2) (.str "0")))) .nil)))
theorem sc_f_law_digits : FnScope ["number", "left", "found"] ["number"] (defScope (topS 39)) := ⟨rfl, rfl, rfl, by decide +kernel, rfl, by decide +kernel, by decide +kernel⟩
theorem ck_f_law_digits : chSs ⟨["number", "left", "found"], defScope (topS 39), defScope (topS 39), false, true⟩ m_f_law_digits (defBody (topS 39)) = true := by decide +kernel
/-- _law_text: one; calls _law_digits -/
def m_f_law_text : MSs := (.cons (.ret (.bin .Add (.call "_law_digits" (.cons (.ix (.var 0) (.int 0)) .nil)) (.ifx (.cmp .Eq (.ix (.var 0) (.int 1)) (.int 1)) (.str "") (.bin .Add (.str "/") (.call "_law_digits" (.cons (.ix (.var 0) (.int 1)) .nil)))))) .nil)
theorem sc_f_law_text : FnScope ["one"] ["one"] (defScope (topS 40)) := ⟨rfl, rfl, rfl, by decide +kernel, rfl, by decide +kernel, by decide +kernel⟩
theorem ck_f_law_text : chSs ⟨["one"], defScope (topS 40), defScope (topS 40), false, true⟩ m_f_law_text (defBody (topS 40)) = true := by decide +kernel
/-- _law_pairs_right: box one other cross dues due word; calls _law_add _law_less _law_mul _law_same _law_caught _law_div -/
def m_f_law_pairs_right : MSs := (.cons (.asg (.name 3) (.lst (.cons (.bin .Mult (.ix (.var 1) (.int 0)) (.ix (.var 2) (.int 1))) (.cons (.bin .Mult (.ix (.var 2) (.int 0)) (.ix (.var 1) (.int 1))) .nil)))) (.cons (.asg (.name 4) (.lst (.cons (.tup (.cons (.str "add") (.cons (.call "_law_add" (.cons (.var 1) (.cons (.var 2) .nil))) .nil))) (.cons (.tup (.cons (.str "subtract") (.cons (.call "_law_less" (.cons (.var 1) (.cons (.var 2) .nil))) .nil))) (.cons (.tup (.cons (.str "multiply") (.cons (.call "_law_mul" (.cons (.var 1) (.cons (.var 2) .nil))) .nil))) .nil))))) (.cons (.expr (.meth .append (.var 4) (.cons (.tup (.cons (.str "compare") (.cons (.bin .Sub (.bi .int (.cons (.cmp .Gt (.ix (.var 3) (.int 0)) (.ix (.var 3) (.int 1))) .nil)) (.bi .int (.cons (.cmp .Lt (.ix (.var 3) (.int 0)) (.ix (.var 3) (.int 1))) .nil))) .nil))) .nil))) (.cons (.forr (.tup (.cons (.name 6) (.cons (.name 5) .nil))) (.seq (.var 4)) (.cons (.ifs (.not (.call "_law_same" (.cons (.call "_law_caught" (.cons (.var 0) (.cons (.var 6) (.cons (.var 1) (.cons (.var 2) .nil))))) (.cons (.tup (.cons (.str "told") (.cons (.var 5) .nil))) .nil)))) (.cons (.ret (.bl false)) .nil) .nil) .nil)) (.cons (.asg (.name 5) (.ifx (.cmp .Eq (.ix (.var 2) (.int 0)) (.int 0)) (.tup (.cons (.str "zero") (.cons .non .nil))) (.tup (.cons (.str "told") (.cons (.call "_law_div" (.cons (.var 1) (.cons (.var 2) .nil))) .nil))))) (.cons (.ret (.call "_law_same" (.cons (.call "_law_caught" (.cons (.var 0) (.cons (.str "divide") (.cons (.var 1) (.cons (.var 2) .nil))))) (.cons (.var 5) .nil)))) .nil))))))
theorem sc_f_law_pairs_right : FnScope ["box", "one", "other", "cross", "dues", "due", "word"] ["box", "one", "other"] (defScope (topS 41)) := ⟨rfl, rfl, rfl, by decide +kernel, rfl, by decide +kernel, by decide +kernel⟩
theorem ck_f_law_pairs_right : chSs ⟨["box", "one", "other", "cross", "dues", "due", "word"], defScope (topS 41), defScope (topS 41), false, true⟩ m_f_law_pairs_right (defBody (topS 41)) = true := by decide +kernel
/-- _law_texts_right: box one text double bad value handed item; calls _law_text _law_same _law_caught _law_digits _law_very -/
def m_f_law_texts_right : MSs := (.cons (.asg (.name 2) (.call "_law_text" (.cons (.var 1) .nil))) (.cons (.ifs (.or (.cons (.not (.call "_law_same" (.cons (.call "_law_caught" (.cons (.var 0) (.cons (.str "text") (.cons (.var 1) (.cons .non .nil))))) (.cons (.tup (.cons (.str "told") (.cons (.var 2) .nil))) .nil)))) (.cons (.not (.call "_law_same" (.cons (.call "_law_caught" (.cons (.var 0) (.cons (.str "read") (.cons (.var 2) (.cons .non .nil))))) (.cons (.tup (.cons (.str "told") (.cons (.var 1) .nil))) .nil)))) .nil))) (.cons (.ret (.bl false)) .nil) .nil) (.cons (.asg (.name 3) (.bin .Add (.bin .Add (.call "_law_digits" (.cons (.bin .Mult (.int 2) (.ix (.var 1) (.int 0))) .nil)) (.str "/")) (.call "_law_digits" (.cons (.bin .Mult (.int 2) (.ix (.var 1) (.int 1))) .nil)))) (.cons (.asg (.name 4) (.lst (.cons (.str "") (.cons (.bin .Add (.str " ") (.var 2)) (.cons (.bin .Add (.var 2) (.str " ")) (.cons (.bin .Add (.str "+") (.var 2)) (.cons (.bin .Add (.str "0") (.var 2)) (.cons (.bin .Add (.var 2) (.str "/1")) (.cons (.bin .Add (.var 2) (.str "/")) (.cons (.bin .Add (.str "/") (.var 2)) (.cons (.var 3) (.cons (.bin .Add (.var 2) (.str "/0")) (.cons (.bin .Add (.str "--") (.var 2)) (.cons (.str "-0") (.cons (.str "1/-2") (.cons (.str "00") .nil)))))))))))))))) (.cons (.asg (.name 4) (.bin .Add (.var 4) (.lst (.cons (.str "1.5") (.cons (.str "1/02") (.cons (.str "x") (.cons (.str "3//4") (.cons (.str "-") (.cons (.str "1 /2") (.cons (.str "2/4") (.cons (.str "0/3") (.cons (.str "1/2/3") (.cons .non (.cons (.int 0) (.cons (.int 1) (.cons (.tup (.cons (.str "1") .nil)) (.cons (.lst (.cons (.var 2) .nil)) (.cons .dct0 (.cons (.bl true) .nil))))))))))))))))))) (.cons (.forr (.name 5) (.seq (.var 4)) (.cons (.asg (.name 6) (.ifx (.isi (.var 5) .list) (.lc [("item", 7)] (.name 7) (.seq (.var 5)) .none (.var 7)) (.var 5))) (.cons (.ifs (.not (.call "_law_very" (.cons (.call "_law_caught" (.cons (.var 0) (.cons (.str "read") (.cons (.var 6) (.cons .non .nil))))) (.cons (.str "text") (.cons (.var 5) .nil))))) (.cons (.ret (.bl false)) .nil) .nil) .nil))) (.cons (.ret (.bl true)) .nil)))))))
theorem sc_f_law_texts_right : FnScope ["box", "one", "text", "double", "bad", "value", "handed", "item"] ["box", "one"] (defScope (topS 42)) := ⟨rfl, rfl, rfl, by decide +kernel, rfl, by decide +kernel, by decide +kernel⟩
theorem ck_f_law_texts_right : chSs ⟨["box", "one", "text", "double", "bad", "value", "handed", "item"], defScope (topS 42), defScope (topS 42), false, true⟩ m_f_law_texts_right (defBody (topS 42)) = true := by decide +kernel
/-- _law_values_right: box one bad top bottom value; calls _law_same _law_caught -/
def m_f_law_values_right : MSs := (.cons (.ifs (.not (.call "_law_same" (.cons (.call "_law_caught" (.cons (.var 0) (.cons (.str "is") (.cons (.var 1) (.cons .non .nil))))) (.cons (.tup (.cons (.str "told") (.cons (.bl true) .nil))) .nil)))) (.cons (.ret (.bl false)) .nil) .nil) (.cons (.asg (.tup (.cons (.name 3) (.cons (.name 4) .nil))) (.var 1)) (.cons (.asg (.name 2) (.lst (.cons .non (.cons (.var 3) (.cons (.str "1") (.cons (.tup .nil) (.cons (.tup (.cons (.var 3) .nil)) (.cons (.lst (.cons (.var 3) (.cons (.var 4) .nil))) (.cons (.tup (.cons (.bin .Mult (.int 2) (.var 3)) (.cons (.bin .Mult (.int 2) (.var 4)) .nil))) (.cons (.tup (.cons (.var 3) (.cons (.neg (.var 4)) .nil))) (.cons (.tup (.cons (.var 3) (.cons (.int 0) .nil))) (.cons (.tup (.cons (.bl true) (.cons (.int 1) .nil))) (.cons (.tup (.cons (.int 1) (.cons (.bl true) .nil))) (.cons (.tup (.cons (.var 3) (.cons (.var 4) (.cons (.int 1) .nil)))) (.cons (.tup (.cons (.str "1") (.cons (.int 2) .nil))) .nil))))))))))))))) (.cons (.asg (.name 2) (.bin .Add (.var 2) (.lst (.cons (.tup (.cons (.int 1) (.cons .non .nil))) (.cons (.tup (.cons (.int 0) (.cons (.int 2) .nil))) (.cons (.tup (.cons (.int 2) (.cons (.int 4) .nil))) (.cons .dct0 (.cons (.tup (.cons (.tup (.cons (.int 1) (.cons (.int 1) .nil))) (.cons (.int 1) .nil))) (.cons (.tup (.cons (.neg (.int 3)) (.cons (.neg (.int 1)) .nil))) .nil))))))))) (.cons (.ret (.cmp .Eq (.lc [("value", 5)] (.name 5) (.seq (.var 2)) (.some (.not (.call "_law_same" (.cons (.call "_law_caught" (.cons (.var 0) (.cons (.str "is") (.cons (.var 5) (.cons .non .nil))))) (.cons (.tup (.cons (.str "told") (.cons (.bl false) .nil))) .nil))))) (.var 5)) (.lst .nil))) .nil)))))
theorem sc_f_law_values_right : FnScope ["box", "one", "bad", "top", "bottom", "value"] ["box", "one"] (defScope (topS 43)) := ⟨rfl, rfl, rfl, by decide +kernel, rfl, by decide +kernel, by decide +kernel⟩
theorem ck_f_law_values_right : chSs ⟨["box", "one", "bad", "top", "bottom", "value"], defScope (topS 43), defScope (topS 43), false, true⟩ m_f_law_values_right (defBody (topS 43)) = true := by decide +kernel
/-- _law_made_right: box turn bad wide a b by one other; calls _law_take _law_same _law_caught _law_low _law_very -/
def m_f_law_made_right : MSs := (.cons (.forr (.name 1) (.range (.cons (.int 4) .nil)) (.cons (.asg (.name 3) (.ix (.lst (.cons (.int 5) (.cons (.int 13) (.cons (.int 1000) (.cons (.bin .Pow (.int 10) (.int 20)) .nil))))) (.call "_law_take" (.cons (.var 0) (.cons (.int 4) .nil))))) (.cons (.par3 4 5 6 (.cons (.bin .Sub (.call "_law_take" (.cons (.var 0) (.cons (.bin .Add (.bin .Mult (.int 2) (.var 3)) (.int 1)) .nil))) (.var 3)) (.cons (.bin .Sub (.call "_law_take" (.cons (.var 0) (.cons (.bin .Add (.bin .Mult (.int 2) (.var 3)) (.int 1)) .nil))) (.var 3)) (.cons (.bin .Add (.int 1) (.call "_law_take" (.cons (.var 0) (.cons (.int 6) .nil)))) .nil)))) (.cons (.ifs (.and (.cons (.cmp .NotEq (.var 5) (.int 0)) (.cons (.not (.call "_law_same" (.cons (.call "_law_caught" (.cons (.var 0) (.cons (.str "make") (.cons (.bin .Mult (.var 4) (.var 6)) (.cons (.bin .Mult (.var 5) (.var 6)) .nil))))) (.cons (.tup (.cons (.str "told") (.cons (.call "_law_low" (.cons (.var 4) (.cons (.var 5) .nil))) .nil))) .nil)))) .nil))) (.cons (.ret (.bl false)) .nil) .nil) (.cons (.ifs (.not (.call "_law_very" (.cons (.call "_law_caught" (.cons (.var 0) (.cons (.str "make") (.cons (.var 4) (.cons (.int 0) .nil))))) (.cons (.str "number") (.cons (.int 0) .nil))))) (.cons (.ret (.bl false)) .nil) .nil) .nil))))) (.cons (.forr (.name 2) (.seq (.lst (.cons .non (.cons (.bl true) (.cons (.bl false) (.cons (.str "1") (.cons (.tup (.cons (.int 1) (.cons (.int 1) .nil))) (.cons (.lst (.cons (.int 1) .nil)) (.cons .dct0 (.cons (.tup (.cons (.int 1) .nil)) .nil)))))))))) (.cons (.forr (.tup (.cons (.name 7) (.cons (.name 8) .nil))) (.seq (.lst (.cons (.tup (.cons (.var 2) (.cons .non .nil))) (.cons (.tup (.cons (.var 2) (.cons (.int 1) .nil))) (.cons (.tup (.cons (.var 2) (.cons (.int 0) .nil))) (.cons (.tup (.cons (.int 3) (.cons (.var 2) .nil))) .nil)))))) (.cons (.ifs (.not (.call "_law_very" (.cons (.call "_law_caught" (.cons (.var 0) (.cons (.str "make") (.cons (.var 7) (.cons (.var 8) .nil))))) (.cons (.str "number") (.cons (.var 2) .nil))))) (.cons (.ret (.bl false)) .nil) .nil) .nil)) .nil)) (.cons (.ret (.bl true)) .nil)))
theorem sc_f_law_made_right : FnScope ["box", "turn", "bad", "wide", "a", "b", "by", "one", "other"] ["box"] (defScope (topS 44)) := ⟨rfl, rfl, rfl, by decide +kernel, rfl, by decide +kernel, by decide +kernel⟩
theorem ck_f_law_made_right : chSs ⟨["box", "turn", "bad", "wide", "a", "b", "by", "one", "other"], defScope (topS 44), defScope (topS 44), false, true⟩ m_f_law_made_right (defBody (topS 44)) = true := by decide +kernel
/-- law: script k box one other first second; calls _law_box _law_cell _law_pair _law_pairs_right _law_texts_right _law_values_right _law_made_right -/
def m_law : MSs := (.cons (.forr (.name 1) (.range (.cons (.bi .max (.cons (.int 3) (.cons (.bi .min (.cons (.int 6) (.cons (.bi .len (.cons (.var 0) .nil)) .nil))) .nil))) .nil)) (.cons (.asg (.name 2) (.call "_law_box" (.cons (.call "_law_cell" (.cons (.var 0) (.cons (.var 1) .nil))) .nil))) (.cons (.par2 3 4 (.cons (.call "_law_pair" (.cons (.var 2) .nil)) (.cons (.call "_law_pair" (.cons (.var 2) .nil)) .nil))) (.cons (.forr (.tup (.cons (.name 5) (.cons (.name 6) .nil))) (.seq (.lst (.cons (.tup (.cons (.var 3) (.cons (.var 4) .nil))) (.cons (.tup (.cons (.var 4) (.cons (.var 3) .nil))) (.cons (.tup (.cons (.var 3) (.cons (.var 3) .nil))) (.cons (.tup (.cons (.var 3) (.cons (.tup (.cons (.int 0) (.cons (.int 1) .nil))) .nil))) (.cons (.tup (.cons (.tup (.cons (.int 0) (.cons (.int 1) .nil))) (.cons (.var 4) .nil))) .nil))))))) (.cons (.ifs (.not (.call "_law_pairs_right" (.cons (.var 2) (.cons (.var 5) (.cons (.var 6) .nil))))) (.cons (.ret (.bl false)) .nil) .nil) .nil)) (.cons (.ifs (.or (.cons (.not (.call "_law_texts_right" (.cons (.var 2) (.cons (.var 3) .nil)))) (.cons (.not (.call "_law_values_right" (.cons (.var 2) (.cons (.var 3) .nil)))) (.cons (.not (.call "_law_values_right" (.cons (.var 2) (.cons (.var 4) .nil)))) (.cons (.not (.call "_law_made_right" (.cons (.var 2) .nil))) .nil))))) (.cons (.ret (.bl false)) .nil) .nil) .nil))))) (.cons (.ret (.bl true)) .nil))
theorem sc_law : FnScope ["script", "k", "box", "one", "other", "first", "second"] ["script"] (defScope (topS 45)) := ⟨rfl, rfl, rfl, by decide +kernel, rfl, by decide +kernel, by decide +kernel⟩
theorem ck_law : chSs ⟨["script", "k", "box", "one", "other", "first", "second"], defScope (topS 45), defScope (topS 45), false, true⟩ m_law (defBody (topS 45)) = true := by decide +kernel
end DL.K00

set_option Elab.async false
set_option linter.all false
set_option maxRecDepth 100000
set_option maxHeartbeats 4000000
namespace DL.K00
open PySem PySem.Spec PyProof.Rows L2 DL TL
/-! ### the program's functions -/
def S_is_integer : DSp := fun ds G Q _ => ∃ x t, ds = [x] ∧ tyD G x = some t ∧ Q (.bl (decide (t = .int))) G
@[simp] theorem is_integer_at {x : D} {G : DH} {Q : QD} {E : ED} : S_is_integer [x] G Q E ↔ ∃ t, tyD G x = some t ∧ Q (.bl (decide (t = .int))) G := by simp [S_is_integer]
theorem run_is_integer {Γ : GE} {ds : List D} {G : DH} {Q : QD} {E : ED} (hl : ds.length = 1) (h : S_is_integer ds G Q E) : Runs Γ m_is_integer 1 ds G Q E := by
  obtain ⟨x, t, rfl, ht, q⟩ := h
  unfold Runs m_is_integer
  simp [startD, dEnds, ht]
  cases t <;> simp <;> exact ⟨G, .refl, by simpa using q⟩
def isTupN (m : Int) : D → Bool
  | .tup ds => decide ((ds.length : Int) = m)
  | _ => false
def S_is_tuple_of : DSp := fun ds G Q _ => ∃ x m t, ds = [x, .int m] ∧ tyD G x = some t ∧ Q (.bl (isTupN m x)) G
@[simp] theorem is_tuple_of_at {x : D} {m : Int} {G : DH} {Q : QD} {E : ED} : S_is_tuple_of [x, .int m] G Q E ↔ (∃ t, tyD G x = some t) ∧ Q (.bl (isTupN m x)) G := by
  constructor
  · rintro ⟨x', m', t, e, ht, q⟩
    cases e
    exact ⟨⟨t, ht⟩, q⟩
  · rintro ⟨⟨t, ht⟩, q⟩
    exact ⟨x, m, t, rfl, ht, q⟩
theorem run_is_tuple_of {Γ : GE} {ds : List D} {G : DH} {Q : QD} {E : ED} (hl : ds.length = 2) (h : S_is_tuple_of ds G Q E) : Runs Γ m_is_tuple_of 2 ds G Q E := by
  obtain ⟨x, m, t, rfl, ht, q⟩ := h
  unfold Runs m_is_tuple_of
  simp [startD, dEnds, ht]
  cases x with
  | ref a =>
    have h1 : t ≠ .tuple := by
      simp only [tyD] at ht
      split at ht <;> cases ht <;> (intro z; cases z)
    simp [h1]
    exact ⟨G, .refl, q⟩
  | _ => cases ht; simp; exact ⟨G, .refl, by simpa [isTupN] using q⟩
/-- the fraction of two integers -/
def lowI (a b : Int) : Int × Int := if b < 0 then (a.fdiv (-(Int.gcd a b : Int)), b.fdiv (-(Int.gcd a b : Int))) else (a.fdiv (Int.gcd a b : Int), b.fdiv (Int.gcd a b : Int))
def frD (p : Int × Int) : D := .tup [.int p.1, .int p.2]
/-- small enough to be divided by -/
def Sm (b : Int) : Prop := b.natAbs.log2 < 9000
def S_lowest : DSp := fun ds G Q _ => ∃ a b : Int, ds = [.int a, .int b] ∧ b ≠ 0 ∧ Sm b ∧ Q (frD (lowI a b)) G
@[simp] theorem lowest_at {a b : Int} {G : DH} {Q : QD} {E : ED} : S_lowest [.int a, .int b] G Q E ↔ b ≠ 0 ∧ Sm b ∧ Q (frD (lowI a b)) G := by
  constructor
  · rintro ⟨a', b', e, h⟩
    cases e
    exact h
  · exact fun h => ⟨a, b, rfl, h⟩
theorem log_mono {m n : Nat} (h : m ≤ n) : m.log2 ≤ n.log2 := by
  by_cases hm : m = 0
  · rw [hm]; exact Nat.zero_le _
  · rw [Nat.le_log2 (by omega)]
    exact Nat.le_trans (Nat.log2_self_le hm) h
theorem log_gcd {a b : Int} (hb : b ≠ 0) (hs : Sm b) : (a.natAbs.gcd b.natAbs).log2 < 9000 :=
  Nat.lt_of_le_of_lt (log_mono (Nat.gcd_le_right _ (by omega))) hs
theorem run_lowest {Γ : GE} {ds : List D} {G : DH} {Q : QD} {E : ED} (hl : ds.length = 2) (h : S_lowest ds G Q E) : Runs Γ m_lowest 3 ds G Q E := by
  obtain ⟨a, b, rfl, hb, hs, q⟩ := h
  have hg := log_gcd (a := a) hb hs
  unfold Runs m_lowest
  simp [startD, dEnds, List.replicate, hg, hb]
  unfold frD lowI at q
  by_cases h : b < 0
  · right
    rw [if_pos h] at q
    exact ⟨h, G, .refl, q⟩
  · left
    rw [if_neg h] at q
    exact ⟨by omega, G, .refl, q⟩
/-- a value whose kind is known, and its items' -/
def Typed (G : DH) (x : D) : Prop := (∃ t, tyD G x = some t) ∧ ∀ ds, x = .tup ds → ∀ d ∈ ds, ∃ t, tyD G d = some t
def isFr : D → Bool
  | .tup [.int a, .int b] => decide (0 < b) && decide (((a.natAbs.gcd b.natAbs : Nat) : Int) = 1)
  | _ => false
def isI : D → Bool
  | .int _ => true
  | _ => false
def FIs (ps : List Str) (sp : DSp) : FI := ⟨ps, sp, []⟩
theorem is_int_ty {G : DH} {d : D} {t : Ty} (h : tyD G d = some t) : decide (t = .int) = isI d := by
  cases d with
  | ref a => simp only [tyD] at h; split at h <;> cases h <;> rfl
  | _ => cases h; rfl
theorem is_int_iff {G : DH} {d : D} {t : Ty} (h : tyD G d = some t) : t = .int ↔ isI d = true := by rw [← is_int_ty h]; simp
def S_is_fraction : DSp := fun ds G Q _ => ∃ x, ds = [x] ∧ Typed G x ∧ Q (.bl (isFr x)) G
@[simp] theorem is_fraction_at {x : D} {G : DH} {Q : QD} {E : ED} : S_is_fraction [x] G Q E ↔ Typed G x ∧ Q (.bl (isFr x)) G := by simp [S_is_fraction]
theorem run_is_fraction {Γ : GE} (h1 : Γ.fn "is_tuple_of" = some ⟨["value", "many"], S_is_tuple_of, []⟩) (h2 : Γ.fn "is_integer" = some ⟨["value"], S_is_integer, []⟩) {ds : List D} {G : DH} {Q : QD} {E : ED} (hl : ds.length = 1) (h : S_is_fraction ds G Q E) :
    Runs Γ m_is_fraction 2 ds G Q E := by
  obtain ⟨x, rfl, ⟨⟨t, ht⟩, hi⟩, q⟩ := h
  unfold Runs m_is_fraction
  simp [startD, dEnds, h1, ht, -wpI, List.replicate]
  cases hx : isTupN 2 x with
  | false =>
    have e : isFr x = false := by
      cases x with
      | tup ds => rcases ds with _ | ⟨a, _ | ⟨b, _ | ⟨c, ds⟩⟩⟩ <;> first | rfl | (cases a <;> rfl) | (cases a <;> cases b <;> rfl) | (exfalso; simp [isTupN] at hx)
      | _ => rfl
    simp
    rw [e] at q
    exact ⟨G, .refl, q⟩
  | true =>
    cases x with
    | tup ds =>
      rcases ds with _ | ⟨a, _ | ⟨b, _ | ⟨c, ds⟩⟩⟩
      · simp [isTupN] at hx
      · simp [isTupN] at hx
      · obtain ⟨ta, ha⟩ := hi _ rfl a (by simp)
        obtain ⟨tb, hb⟩ := hi _ rfl b (by simp)
        have ea := is_int_ty ha
        have eb := is_int_ty hb
        simp [lcD, srcOk_nil, h2, ha, hb, ea, eb]
        refine ⟨by rw [sizeLine_eq]; decide, fun p hp => ⟨[isI a, isI b], rfl, ?_⟩⟩
        cases a <;> cases b <;> simp [isI] <;> first | exact ⟨G, .put hp, by simpa [isFr] using q⟩ | skip
        rename_i a b
        have e : isFr (.tup [.int a, .int b]) = (decide (0 < b) && decide (((a.natAbs.gcd b.natAbs : Nat) : Int) = 1)) := rfl
        by_cases h : 0 < b
        · simp [e, h] at q ⊢
          exact ⟨G, .put hp, q⟩
        · simp [e, h] at q ⊢
          exact ⟨G, .put hp, q⟩
      · simp [isTupN] at hx; omega
    | _ => simp [isTupN] at hx
/-! facts about the others, as the text's names have them -/
@[simp] def I_is_integer : FI := ⟨["value"], S_is_integer, []⟩
@[simp] def I_is_tuple_of : FI := ⟨["value", "many"], S_is_tuple_of, []⟩
@[simp] def I_lowest : FI := ⟨["numerator", "denominator"], S_lowest, []⟩
def raisedBy (c : Str) (f : Str) (x : D) : XD := ⟨c, [(f, x)]⟩
def S_fraction : DSp := fun ds G Q E => ∃ x y, ds = [x, y] ∧ (∃ t, tyD G x = some t) ∧ (∃ t, tyD G y = some t) ∧
  (isI x = false → E (raisedBy "InvalidNumber" "given" x) G) ∧ (isI x = true → isI y = false → E (raisedBy "InvalidNumber" "given" y) G) ∧
  (∀ a b, x = .int a → y = .int b → (b = 0 → E (raisedBy "InvalidNumber" "given" y) G) ∧ (b ≠ 0 → Sm b ∧ Q (frD (lowI a b)) G))
theorem run_fraction {Γ : GE} (h1 : Γ.fn "is_integer" = some I_is_integer) (h2 : Γ.fn "lowest" = some I_lowest) (h3 : Γ.exc "InvalidNumber" = some [Str.ofString "given"]) {ds : List D} {G : DH} {Q : QD} {E : ED} (hl : ds.length = 2) (h : S_fraction ds G Q E) :
    Runs Γ m_fraction 2 ds G Q E := by
  obtain ⟨x, y, rfl, ⟨tx, hx⟩, ⟨ty, hy⟩, q1, q2, q3⟩ := h
  have ex := is_int_iff hx
  have ey := is_int_iff hy
  unfold Runs m_fraction
  simp [startD, dEnds, h1, h2, h3, hx, hy, ex, ey]
  cases hix : isI x with
  | false =>
    simp
    exact ⟨G, .refl, q1 hix⟩
  | true =>
    cases hiy : isI y with
    | false =>
      simp
      exact ⟨G, .refl, q2 hix hiy⟩
    | true =>
      cases x <;> cases y <;> simp [isI] at hix hiy
      rename_i a b
      obtain ⟨z1, z2⟩ := q3 a b rfl rfl
      by_cases hb : b = 0
      · simp [hb]
        subst hb
        exact ⟨G, .refl, z1 rfl⟩
      · simp [hb]
        exact ⟨(z2 hb).1, G, .refl, (z2 hb).2⟩
def S_whole : DSp := fun ds G Q _ => ∃ x, ds = [x] ∧ Q (.tup [x, .int 1]) G
@[simp] theorem whole_at {x : D} {G : DH} {Q : QD} {E : ED} : S_whole [x] G Q E ↔ Q (.tup [x, .int 1]) G := by simp [S_whole]
theorem run_whole {Γ : GE} {ds : List D} {G : DH} {Q : QD} {E : ED} (hl : ds.length = 1) (h : S_whole ds G Q E) : Runs Γ m_whole 1 ds G Q E := by
  obtain ⟨x, rfl, q⟩ := h
  unfold Runs m_whole
  simp [startD, dEnds]
  exact ⟨G, .refl, q⟩
/-- an operation of two fractions: c what must hold, o the numerator and the denominator -/
def S_op (c : Int → Int → Int → Int → Prop) (o : Int → Int → Int → Int → Int × Int) : DSp := fun ds G Q _ => ∃ a b x y : Int, ds = [frD (a, b), frD (x, y)] ∧ c a b x y ∧ Q (frD (o a b x y)) G
def cAdd (a b x y : Int) : Prop := (IntMulOk a y ∧ IntMulOk x b ∧ IntMulOk b y) ∧ b * y ≠ 0 ∧ Sm (b * y)
def oAdd (a b x y : Int) : Int × Int := lowI (a * y + x * b) (b * y)
theorem run_add {Γ : GE} (h2 : Γ.fn "lowest" = some I_lowest) {ds : List D} {G : DH} {Q : QD} {E : ED} (hl : ds.length = 2) (h : S_op cAdd oAdd ds G Q E) : Runs Γ m_add 2 ds G Q E := by
  obtain ⟨a, b, x, y, rfl, ⟨⟨c1, c2, c3⟩, c4, c5⟩, q⟩ := h
  unfold Runs m_add
  simp [startD, dEnds, h2, frD, c1, c2, c3, c5]
  exact ⟨by simpa using c4, G, .refl, q⟩
def oSub (a b x y : Int) : Int × Int := lowI (a * y - x * b) (b * y)
theorem run_subtract {Γ : GE} (h2 : Γ.fn "lowest" = some I_lowest) {ds : List D} {G : DH} {Q : QD} {E : ED} (hl : ds.length = 2) (h : S_op cAdd oSub ds G Q E) : Runs Γ m_subtract 2 ds G Q E := by
  obtain ⟨a, b, x, y, rfl, ⟨⟨c1, c2, c3⟩, c4, c5⟩, q⟩ := h
  unfold Runs m_subtract
  simp [startD, dEnds, h2, frD, c1, c2, c3, c5]
  exact ⟨by simpa using c4, G, .refl, q⟩
def cMul (a b x y : Int) : Prop := (IntMulOk a x ∧ IntMulOk b y) ∧ b * y ≠ 0 ∧ Sm (b * y)
def oMul (a b x y : Int) : Int × Int := lowI (a * x) (b * y)
theorem run_multiply {Γ : GE} (h2 : Γ.fn "lowest" = some I_lowest) {ds : List D} {G : DH} {Q : QD} {E : ED} (hl : ds.length = 2) (h : S_op cMul oMul ds G Q E) : Runs Γ m_multiply 2 ds G Q E := by
  obtain ⟨a, b, x, y, rfl, ⟨⟨c1, c2⟩, c4, c5⟩, q⟩ := h
  unfold Runs m_multiply
  simp [startD, dEnds, h2, frD, c1, c2, c5]
  exact ⟨by simpa using c4, G, .refl, q⟩
def oDiv (a b x y : Int) : Int × Int := lowI (a * y) (b * x)
def S_divide : DSp := fun ds G Q E => ∃ a b x y : Int, ds = [frD (a, b), frD (x, y)] ∧ (x = 0 → E ⟨"DividedByZero", []⟩ G) ∧ (x ≠ 0 → (IntMulOk a y ∧ IntMulOk b x) ∧ b * x ≠ 0 ∧ Sm (b * x) ∧ Q (frD (oDiv a b x y)) G)
theorem run_divide {Γ : GE} (h2 : Γ.fn "lowest" = some I_lowest) (h3 : Γ.exc "DividedByZero" = some []) {ds : List D} {G : DH} {Q : QD} {E : ED} (hl : ds.length = 2) (h : S_divide ds G Q E) : Runs Γ m_divide 2 ds G Q E := by
  obtain ⟨a, b, x, y, rfl, q1, q2⟩ := h
  unfold Runs m_divide
  by_cases hx : x = 0
  · simp [startD, dEnds, h3, frD, hx]
    exact ⟨G, .refl, q1 hx⟩
  · obtain ⟨⟨c1, c2⟩, c4, c5, q⟩ := q2 hx
    simp [startD, dEnds, h2, frD, hx, c1, c2, c5]
    exact ⟨by simpa [hx] using c4, G, .refl, q⟩
def cmpI (a b x y : Int) : Int := (if x * b < a * y then 1 else 0) - (if a * y < x * b then 1 else 0)
def S_compare : DSp := fun ds G Q _ => ∃ a b x y : Int, ds = [frD (a, b), frD (x, y)] ∧ IntMulOk a y ∧ IntMulOk x b ∧ Q (.int (cmpI a b x y)) G
theorem run_compare {Γ : GE} {ds : List D} {G : DH} {Q : QD} {E : ED} (hl : ds.length = 2) (h : S_compare ds G Q E) : Runs Γ m_compare 4 ds G Q E := by
  obtain ⟨a, b, x, y, rfl, c1, c2, q⟩ := h
  unfold Runs m_compare
  simp [startD, dEnds, frD, c1, c2, List.replicate]
  exact ⟨G, .refl, by simpa [cmpI] using q⟩
/-! ### texts -/
/-- the signs of an int -/
def numZ (i : Int) : List Nat := if i < 0 then 45 :: numL i.natAbs else numL i.natAbs
theorem tl_intS (i : Int) : tl (intS i) = numZ i := by
  unfold numZ intS
  by_cases h : i < 0
  · rw [if_pos h]
    obtain ⟨n, rfl⟩ : ∃ n : Nat, i = Int.negSucc n := by
      cases i with
      | ofNat n => exact absurd h (by show ¬ (n : Int) < 0; omega)
      | negSucc n => exact ⟨n, rfl⟩
    have e : toString (Int.negSucc n) = "-" ++ toString (((n + 1 : Nat)) : Int) := rfl
    rw [e, tl_ofString, String.toList_append, List.map_append, ← tl_ofString, ← tl_ofString, tl_num]
    rfl
  · rw [if_neg h]
    obtain ⟨n, rfl⟩ : ∃ n : Nat, i = (n : Int) := ⟨i.natAbs, by omega⟩
    rw [tl_num]
    rfl
def frL (p : Int × Int) : List Nat := if p.2 = 1 then numZ p.1 else numZ p.1 ++ 47 :: numZ p.2
def frText (p : Int × Int) : Str := ⟨(frL p).toArray⟩
theorem tl_frText (p : Int × Int) : tl (frText p) = frL p := rfl
theorem numL_len300 {n : Nat} (h : n.log2 < 900) : (numL n).length ≤ 300 := by
  refine numL_len (by decide) ?_
  have h1 : n < 2 ^ 900 := by
    by_cases h0 : n = 0
    · rw [h0]; exact Nat.pow_pos (by decide)
    · exact (Nat.log2_lt h0).mp h
  have h2 : 2 ^ 900 ≤ 10 ^ 300 := by
    rw [show 900 = 3 * 300 from rfl, Nat.pow_mul]
    exact Nat.pow_le_pow_left (by decide) 300
  omega
theorem numZ_len {i : Int} (h : i.natAbs.log2 < 900) : (numZ i).length ≤ 301 := by
  unfold numZ
  have := numL_len300 h
  split
  · rw [List.length_cons]; omega
  · omega
def S_text : DSp := fun ds G Q _ => ∃ a b : Int, ds = [frD (a, b)] ∧ a.natAbs.log2 < 900 ∧ b.natAbs.log2 < 900 ∧ Q (.str (frText (a, b))) G
theorem run_text_of_fraction {Γ : GE} {ds : List D} {G : DH} {Q : QD} {E : ED} (hl : ds.length = 1) (h : S_text ds G Q E) : Runs Γ m_text_of_fraction 1 ds G Q E := by
  obtain ⟨a, b, rfl, c1, c2, q⟩ := h
  have l1 := numZ_len c1
  have l2 := numZ_len c2
  have hs := sizeLine_eq
  unfold Runs m_text_of_fraction
  simp [startD, dEnds, frD]
  by_cases hb : b = 1
  · right
    have e : intS a = frText (a, b) := ext_tl (by rw [tl_intS, tl_frText]; simp [frL, hb])
    rw [e]
    exact ⟨hb, by omega, G, .refl, q⟩
  · left
    have e : Str.empty ++ intS a ++ Str.ofString "/" ++ intS b = frText (a, b) := ext_tl (by
      rw [tl_append, tl_append, tl_append, tl_intS, tl_intS, tl_frText]
      simp [frL, hb]
      rfl)
    rw [e]
    have z1 : (Str.empty ++ intS a).length ≤ 1000 := by
      rw [len_tl, tl_append, tl_intS]
      simp [show tl Str.empty = [] from rfl]; omega
    have z2 : (Str.empty ++ intS a ++ Str.ofString "/").length ≤ 1000 := by
      rw [len_tl, tl_append, tl_append, tl_intS]
      simp [show tl Str.empty = [] from rfl, show tl (Str.ofString "/") = [47] from rfl]; omega
    have z3 : (frText (a, b)).length ≤ 1000 := by
      rw [len_tl, tl_frText]
      simp [frL, hb]; omega
    exact ⟨hb, by omega, by omega, by omega, by omega, by omega, G, .refl, q⟩
/-! is a text a decimal -/
def dig (c : Nat) : Bool := decide (48 ≤ c) && decide (c ≤ 57)
def decL (cs : List Nat) (m : Int) : Bool :=
  let ds := if cs.take 1 = [45] then cs.drop 1 else cs
  decide (1 ≤ (ds.length : Int)) && decide ((ds.length : Int) ≤ m) && ds.all dig && (decide (ds[0]? ≠ some 48) || decide (cs = [48]))
theorem tl_cut_lo (z : Str) (k : Nat) : tl (cutS z none (some (k : Int))) = (tl z).take k := by
  show (List.take (HT.sIx z.length z.length (some (k : Int)) - HT.sIx z.length 0 none) (List.drop (HT.sIx z.length 0 none) (tl z))) = _
  rw [HT.sIx_nat, HT.sIx_none, List.drop_zero, Nat.sub_zero, len_tl, ← List.take_take, List.take_length]
theorem tl_cut_hi (z : Str) (k : Nat) : tl (cutS z (some (k : Int)) none) = (tl z).drop k := by
  show (List.take (HT.sIx z.length z.length none - HT.sIx z.length 0 (some (k : Int))) (List.drop (HT.sIx z.length 0 (some (k : Int))) (tl z))) = _
  rw [HT.sIx_nat, HT.sIx_none, len_tl]
  by_cases h : k ≤ (tl z).length
  · rw [Nat.min_eq_left h]
    exact List.take_of_length_le (by rw [List.length_drop]; omega)
  · rw [Nat.min_eq_right (by omega), List.drop_length, List.drop_eq_nil_of_le (by omega)]
    simp
def decB (ds : List Nat) (last : Bool) (m : Int) : Bool := decide (1 ≤ (ds.length : Int)) && decide ((ds.length : Int) ≤ m) && ds.all dig && (decide (ds[0]? ≠ some 48) || last)
theorem decL_eq (cs : List Nat) (m : Int) : decL cs m = decB (if cs.take 1 = [45] then cs.drop 1 else cs) (decide (cs = [48])) m := rfl
theorem digits_tl : (Str.ofString "0123456789").cps.toList = [48, 49, 50, 51, 52, 53, 54, 55, 56, 57] := by decide +kernel
theorem dig_mem (c : Nat) : decide (c ∈ (Str.ofString "0123456789").cps.toList) = dig c := by
  rw [digits_tl]
  unfold dig
  by_cases h : 48 ≤ c ∧ c ≤ 57
  · rw [decide_eq_true h.1, decide_eq_true h.2]
    have : c = 48 ∨ c = 49 ∨ c = 50 ∨ c = 51 ∨ c = 52 ∨ c = 53 ∨ c = 54 ∨ c = 55 ∨ c = 56 ∨ c = 57 := by omega
    simpa using this
  · have h1 : (decide (48 ≤ c) && decide (c ≤ 57)) = false := by
      simp only [Bool.and_eq_false_iff, decide_eq_false_iff_not]
      omega
    rw [h1, decide_eq_false_iff_not]
    simp
    omega
def digD : D → D
  | .str s => .bl (s.cps.toList.all dig)
  | d => d
theorem chars_len (z : Str) : (chars z).length = z.length := by unfold chars; rw [List.length_map, Array.length_toList]; rfl
theorem dec_core {w z : Str} {m : Int} {G : DH} {Q : QD} {s0 s1 s2 s3 : Option D} (lw : w.length ≤ sizeLine) (q : Q (.bl (decB (tl w) (decide (z = Str.ofString "0")) m)) G) :
    ((w.length : Int) < 1 ∧ ∃ G2, Sub G2 G ∧ Q (D.bl false) G2) ∨ 1 ≤ (w.length : Int) ∧ ((m < (w.length : Int) ∧ ∃ G2, Sub G2 G ∧ Q (D.bl false) G2) ∨ (w.length : Int) ≤ m ∧ (chars w).length ≤ sizeLine ∧
      lcD [] (fun d σ1 G2 K => K (st σ1 3 (some d)) G2) (fun σ1 G2 K => K true G2) (fun σ1 G2 K => ∃ d, gt σ1 3 = some d ∧ memD false d (D.str (Str.ofString "0123456789")) G2 K)
        (fun acc G2 => ∀ (p : Addr), G2 p = none → ∃ bs, acc = List.map D.bl bs ∧ if false ∈ bs then ∃ G2_1, Sub G2_1 (put G2 p (DO.lst acc)) ∧ Q (D.bl false) G2_1 else ∃ c, w.cps[0]? = some c ∧
          if { cps := #[c] } = Str.ofString "0" then ∃ G2_1, Sub G2_1 (put G2 p (DO.lst acc)) ∧ Q (D.bl (decide (z = Str.ofString "0"))) G2_1
          else ∃ G2_1, Sub G2_1 (put G2 p (DO.lst acc)) ∧ Q (D.bl !decide ({ cps := #[c] } = Str.ofString "0")) G2_1) [s0, s1, s2, s3] (chars w) [] G) := by
  have hw : (tl w).length = w.length := (len_tl w).symm
  by_cases h1 : (w.length : Int) < 1
  · have e : decB (tl w) (decide (z = Str.ofString "0")) m = false := by simp [decB, hw]; omega
    rw [e] at q
    exact .inl ⟨h1, G, .refl, q⟩
  · refine .inr ⟨by omega, ?_⟩
    by_cases h2 : m < (w.length : Int)
    · have e : decB (tl w) (decide (z = Str.ofString "0")) m = false := by simp [decB, hw]; omega
      rw [e] at q
      exact .inl ⟨h2, G, .refl, q⟩
    · refine .inr ⟨by omega, by rw [chars_len]; exact lw, ?_⟩
      refine lc_all digD srcOk_nil (fun d hd K1 K0 z' => ?_) fun p hp => ⟨(tl w).map dig, ?_, ?_⟩
      · obtain ⟨c, hc, rfl⟩ := List.mem_map.mp hd
        simp [st, gt, -Array.mem_toList_iff]
        rw [dig_mem]
        simpa [digD] using z'
      · unfold chars
        rw [List.map_map, List.map_map]
        refine List.map_congr_left fun c _ => ?_
        simp [digD]
      · have hd : Str.ofString "0" = ⟨#[48]⟩ := by decide +kernel
        have hput : ∀ acc : List D, Sub G (put G p (.lst acc)) := fun acc => .put hp
        cases hall : (tl w).all dig with
        | false =>
          have e : decB (tl w) (decide (z = Str.ofString "0")) m = false := by simp only [decB, hall, Bool.and_false, Bool.false_and]
          rw [e] at q
          rw [if_pos (by
            obtain ⟨c, hc, hf⟩ := List.all_eq_false.mp hall
            exact List.mem_map.mpr ⟨c, hc, by simpa using hf⟩)]
          exact ⟨G, hput _, q⟩
        | true =>
          rw [if_neg (by
            intro hm
            obtain ⟨c, hc, hf⟩ := List.mem_map.mp hm
            rw [List.all_eq_true.mp hall c hc] at hf; cases hf)]
          obtain ⟨c, cs, ec⟩ : ∃ c cs, tl w = c :: cs := by
            cases e : tl w with
            | nil => rw [e] at hw; simp at hw; omega
            | cons c cs => exact ⟨c, cs, rfl⟩
          have e : decB (tl w) (decide (z = Str.ofString "0")) m = (decide (c ≠ 48) || decide (z = Str.ofString "0")) := by
            unfold decB
            rw [hall, decide_eq_true (show (1 : Int) ≤ ((tl w).length : Int) by omega), decide_eq_true (show ((tl w).length : Int) ≤ m by omega), ec]
            simp
          rw [e] at q
          refine ⟨c, by rw [← Array.getElem?_toList]; show (tl w)[0]? = _; rw [ec]; rfl, ?_⟩
          rw [hd] at q ⊢
          by_cases h48 : c = 48
          · rw [if_pos (by rw [h48])]
            exact ⟨G, hput _, by simpa [h48] using q⟩
          · rw [if_neg (by intro e2; apply h48; simpa using e2)]
            refine ⟨G, hput _, ?_⟩
            simpa [h48] using q
def S_dec : DSp := fun ds G Q _ => ∃ z m, ds = [.str z, .int m] ∧ z.length ≤ sizeLine ∧ Q (.bl (decL (tl z) m)) G
theorem run_is_decimal {Γ : GE} (h1 : Γ.con "DIGITS" = some (.str "0123456789")) {ds : List D} {G : DH} {Q : QD} {E : ED} (hl : ds.length = 2) (h : S_dec ds G Q E) : Runs Γ m_is_decimal 4 ds G Q E := by
  obtain ⟨z, m, rfl, hz, q⟩ := h
  have hc := cutS_length z (some 1) none
  have hz1 : (cutS z (some 1) none).length ≤ sizeLine := by omega
  unfold Runs m_is_decimal
  simp [startD, dEnds, h1, hz, hz1, List.replicate, -mem_str]
  rw [decL_eq] at q
  have hm : Str.ofString "-" = ⟨#[45]⟩ := by decide +kernel
  have h0 : Str.ofString "0" = ⟨#[48]⟩ := by decide +kernel
  have c1 : tl (cutS z none (some 1)) = (tl z).take 1 := tl_cut_lo z 1
  have c2 : tl (cutS z (some 1) none) = (tl z).drop 1 := tl_cut_hi z 1
  have ez : decide (tl z = [48]) = decide (z = Str.ofString "0") := by
    rw [h0]
    by_cases e : z = ⟨#[48]⟩
    · rw [decide_eq_true e, e]; rfl
    · rw [decide_eq_false e, decide_eq_false]
      intro e2
      exact e (ext_tl (by rw [e2]))
  rw [ez] at q
  by_cases hcm : cutS z none (some 1) = Str.ofString "-"
  · have e1 : (tl z).take 1 = [45] := by rw [← c1, hcm, hm]
    rw [if_pos e1, ← c2] at q
    exact .inr ⟨hcm, dec_core hz1 q⟩
  · have e1 : ¬ (tl z).take 1 = [45] := by
      intro e
      apply hcm
      rw [hm]
      exact ext_tl (by rw [c1, e])
    rw [if_neg e1] at q
    exact .inl ⟨hcm, dec_core hz q⟩
@[simp] theorem dec_at {z : Str} {m : Int} {G : DH} {Q : QD} {E : ED} : S_dec [.str z, .int m] G Q E ↔ z.length ≤ sizeLine ∧ Q (.bl (decL (tl z) m)) G := by
  constructor
  · rintro ⟨z', m', e, h⟩
    cases e
    exact h
  · exact fun h => ⟨z, m, rfl, h⟩
def valZ (cs : List Nat) : Int := if cs.take 1 = [45] then -((NumText.digitsVal (cs.drop 1) : Nat) : Int) else ((NumText.digitsVal cs : Nat) : Int)
theorem dig_iff {c : Nat} : dig c = true ↔ 48 ≤ c ∧ c ≤ 57 := by simp [dig]
theorem int_dec {z : Str} {m : Int} (h : decL (tl z) m = true) (hl : z.length ≤ 4300) : intText? z = some (valZ (tl z)) := by
  unfold decL at h
  simp only [Bool.and_eq_true, decide_eq_true_eq] at h
  obtain ⟨⟨⟨h1, h2⟩, h3⟩, _⟩ := h
  unfold valZ
  by_cases e : (tl z).take 1 = [45]
  · rw [if_pos e] at h1 h3 ⊢
    obtain ⟨cs, ec⟩ : ∃ cs, tl z = 45 :: cs := by
      cases e2 : tl z with
      | nil => rw [e2] at e; cases e
      | cons c cs => rw [e2] at e; simp at e; exact ⟨cs, by rw [e]⟩
    rw [ec] at h1 h3 ⊢
    exact PySem.intText_neg ec (fun c hc => dig_iff.mp (List.all_eq_true.mp h3 c hc)) (by rintro rfl; simp at h1) hl
  · rw [if_neg e] at h1 h3 ⊢
    exact PySem.intText_digits (fun c hc => dig_iff.mp (List.all_eq_true.mp h3 c hc)) (by intro e2; rw [show tl z = [] from e2] at h1; simp at h1) hl
/-- what a text tells -/
def parse2 (a b : List Nat) : D := if decL a 1000 = true ∧ decL b 1000 = true ∧ b[0]? ≠ some 45 ∧ 1 < valZ b ∧ isFr (frD (valZ a, valZ b)) = true then frD (valZ a, valZ b) else .non
def parse1 (a : List Nat) : D := if decL a 1000 = true then frD (valZ a, 1) else .non
/-- up to the first stroke, behind it -/
def cut47 : List Nat → Option (List Nat × List Nat)
  | [] => none
  | c :: cs => if c = 47 then some ([], cs) else (cut47 cs).map fun p => (c :: p.1, p.2)
def parseD (cs : List Nat) : D := match cut47 cs with
  | none => parse1 cs
  | some p => parse2 p.1 p.2
theorem cut_none : ∀ {a : List Nat}, 47 ∉ a → cut47 a = none
  | [], _ => rfl
  | c :: cs, h => by
    unfold cut47
    rw [if_neg (fun e => h (by rw [e]; exact List.mem_cons_self)), cut_none fun e => h (List.mem_cons_of_mem _ e)]
    rfl
theorem cut_app {b : List Nat} : ∀ {a : List Nat}, 47 ∉ a → cut47 (a ++ 47 :: b) = some (a, b)
  | [], _ => by unfold cut47; rw [List.nil_append]; simp
  | c :: cs, h => by
    rw [List.cons_append]
    unfold cut47
    rw [if_neg (fun e => h (by rw [e]; exact List.mem_cons_self)), cut_app fun e => h (List.mem_cons_of_mem _ e)]
    rfl
theorem cut_split : ∀ {a : List Nat}, 47 ∈ a → ∃ b c, a = b ++ 47 :: c ∧ 47 ∉ b
  | [], h => by cases h
  | x :: a, h => by
    by_cases e : x = 47
    · exact ⟨[], a, by rw [e]; rfl, by simp⟩
    · obtain ⟨b, c, e1, e2⟩ := cut_split (a := a) (by rcases List.mem_cons.mp h with q | q; exact absurd q.symm e; exact q)
      exact ⟨x :: b, c, by rw [e1]; rfl, fun hm => by rcases List.mem_cons.mp hm with q | q; exact e q.symm; exact e2 q⟩
theorem parse_one {a : List Nat} (h : 47 ∉ a) : parseD a = parse1 a := by unfold parseD; rw [cut_none h]
theorem parse_two {a b : List Nat} (h : 47 ∉ a) : parseD (a ++ 47 :: b) = parse2 a b := by unfold parseD; rw [cut_app h]
theorem tl_slash : tl (Str.ofString "/") = [47] := by decide +kernel
theorem cut_cases (z : Str) : 47 ∉ tl z ∨ ∃ A B : Str, z = A ++ Str.ofString "/" ++ B ∧ 47 ∉ tl A := by
  by_cases h : 47 ∈ tl z
  · obtain ⟨a, b, e, ha⟩ := cut_split h
    refine .inr ⟨⟨a.toArray⟩, ⟨b.toArray⟩, ext_tl ?_, ha⟩
    rw [e, tl_append, tl_append, tl_slash, tl_mk, tl_mk]
    simp
  · exact .inl h
@[simp] def I_is_decimal : FI := ⟨["word", "most"], S_dec, []⟩
@[simp] def I_whole : FI := ⟨["number"], S_whole, []⟩
@[simp] def I_is_fraction : FI := ⟨["value"], S_is_fraction, [(0, ["value"], [0])]⟩
def S_fraction_in : DSp := fun ds G Q _ => ∃ z, ds = [.str z] ∧ z.length ≤ 600 ∧ Q (parseD (tl z)) G
theorem run_fraction_in {Γ : GE} (h1 : Γ.fn "is_decimal" = some I_is_decimal) (h2 : Γ.fn "whole" = some I_whole) (h3 : Γ.fn "is_fraction" = some I_is_fraction) (h4 : Γ.con "MOST_DIGITS" = some (.int 1000)) {ds : List D} {G : DH} {Q : QD} {E : ED} (hl : ds.length = 1) (h : S_fraction_in ds G Q E) :
    Runs Γ m_fraction_in 5 ds G Q E := by
  obtain ⟨z, rfl, hz, q⟩ := h
  have hs := sizeLine_eq
  have hz' : z.length ≤ sizeLine := by omega
  have hy : ∀ a : Nat, ((Str.ofString "/").length == 0) = false := fun _ => by decide +kernel
  have e47 : tl (Str.ofString "/") = 47 :: [] := tl_slash
  have he : Str.ofString "" = Str.empty := by decide +kernel
  unfold Runs m_fraction_in
  rcases cut_cases z with hn | ⟨A, B, rfl, hA⟩
  · rw [parse_one hn] at q
    simp [startD, dEnds, h1, h2, h3, h4, hz', List.replicate, partition_none e47 hn, hy 0, he]
    unfold parse1 at q
    by_cases hd : decL (tl z) 1000 = true
    · rw [if_pos hd] at q ⊢
      exact ⟨valZ (tl z), int_dec hd (by omega), by omega, G, .refl, q⟩
    · rw [if_neg hd] at q ⊢
      exact ⟨G, .refl, q⟩
  · rw [tl_append, tl_append, tl_slash] at q
    simp only [List.append_assoc, List.cons_append, List.nil_append] at q
    rw [parse_two hA] at q
    simp [startD, dEnds, h1, h2, h3, h4, hz', List.replicate, partition_app e47 hA, hy 0]
    have hlen : A.length + 1 + B.length ≤ 600 := by
      rw [len_tl, tl_append, tl_append, tl_slash, List.length_append, List.length_append, ← len_tl, ← len_tl] at hz
      simpa using hz
    have hm : Str.ofString "-" = ⟨#[45]⟩ := by decide +kernel
    refine ⟨by omega, ?_⟩
    unfold parse2 at q
    by_cases hA1 : decL (tl A) 1000 = true
    · rw [if_pos hA1]
      refine ⟨by omega, ?_⟩
      by_cases hB1 : decL (tl B) 1000 = true
      · rw [if_pos hB1]
        refine ⟨by omega, ?_⟩
        obtain ⟨c, cs, ec⟩ : ∃ c cs, tl B = c :: cs := by
          cases e : tl B with
          | nil => rw [e] at hB1; exact absurd hB1 (by decide +kernel)
          | cons c cs => exact ⟨c, cs, rfl⟩
        refine ⟨c, by rw [← Array.getElem?_toList]; show (tl B)[0]? = _; rw [ec]; rfl, ?_⟩
        by_cases h45 : c = 45
        · refine .inr ⟨by rw [hm, h45], G, .refl, ?_⟩
          rw [if_neg (by rintro ⟨_, _, z, _⟩; rw [ec] at z; exact z (by rw [h45]; rfl))] at q
          exact q
        · refine .inl ⟨fun e => h45 (by rw [hm] at e; simpa using e), valZ (tl A), int_dec hA1 (by omega), by omega, valZ (tl B), int_dec hB1 (by omega), by omega, ?_⟩
          have hne : (tl B)[0]? ≠ some 45 := by rw [ec]; intro e; exact h45 (by simpa using e)
          by_cases h1 : valZ (tl B) ≤ 1
          · rw [if_neg (by rintro ⟨_, _, _, z, _⟩; omega)] at q
            exact .inl ⟨h1, G, .refl, q⟩
          · refine .inr ⟨by omega, ⟨⟨.tuple, rfl⟩, fun ds e d hd => by
              cases e
              simp at hd
              rcases hd with rfl | rfl <;> exact ⟨.int, rfl⟩⟩, ?_⟩
            by_cases hf : isFr (.tup [.int (valZ (tl A)), .int (valZ (tl B))]) = true
            · rw [if_pos hf]
              rw [if_pos ⟨hA1, hB1, hne, by omega, hf⟩] at q
              exact ⟨G, .refl, q⟩
            · rw [if_neg hf]
              rw [if_neg (by rintro ⟨_, _, _, _, z⟩; exact hf z)] at q
              exact ⟨G, .refl, q⟩
      · rw [if_neg hB1]
        rw [if_neg (by rintro ⟨_, z, _⟩; exact hB1 z)] at q
        exact ⟨G, .refl, q⟩
    · rw [if_neg hA1]
      rw [if_neg (by rintro ⟨z, _⟩; exact hA1 z)] at q
      exact ⟨G, .refl, q⟩
@[simp] theorem fraction_in_at {z : Str} {G : DH} {Q : QD} {E : ED} : S_fraction_in [.str z] G Q E ↔ z.length ≤ 600 ∧ Q (parseD (tl z)) G := by
  constructor
  · rintro ⟨z', e, h⟩
    cases e
    exact h
  · exact fun h => ⟨z, rfl, h⟩
@[simp] def I_fraction_in : FI := ⟨["text"], S_fraction_in, []⟩
theorem parse_cases (cs : List Nat) : parseD cs = .non ∨ ∃ p, parseD cs = frD p := by
  unfold parseD
  cases cut47 cs with
  | none =>
    show parse1 cs = .non ∨ ∃ p, parse1 cs = frD p
    unfold parse1
    split
    · exact .inr ⟨_, rfl⟩
    · exact .inl rfl
  | some p =>
    show parse2 p.1 p.2 = .non ∨ ∃ q, parse2 p.1 p.2 = frD q
    unfold parse2
    split
    · exact .inr ⟨_, rfl⟩
    · exact .inl rfl
/-- what is read of a value -/
def readD : D → D
  | .str z => parseD (tl z)
  | _ => .non
def S_read : DSp := fun ds G Q E => ∃ x t, ds = [x] ∧ tyD G x = some t ∧ (∀ z, x = .str z → z.length ≤ 600) ∧ (readD x = .non → E (raisedBy "InvalidText" "given" x) G) ∧ (∀ p, readD x = frD p → Q (frD p) G)
theorem run_read_fraction {Γ : GE} (h1 : Γ.fn "fraction_in" = some I_fraction_in) (h2 : Γ.exc "InvalidText" = some [Str.ofString "given"]) {ds : List D} {G : DH} {Q : QD} {E : ED} (hl : ds.length = 1) (h : S_read ds G Q E) : Runs Γ m_read_fraction 2 ds G Q E := by
  obtain ⟨x, t, rfl, ht, hz, q1, q2⟩ := h
  unfold Runs m_read_fraction
  cases x with
  | str z =>
    have hz1 := hz z rfl
    simp [startD, dEnds, h1, h2, List.replicate, hz1]
    rcases parse_cases (tl z) with e | ⟨p, e⟩
    · simp [e]
      exact ⟨G, .refl, q1 e⟩
    · simp [e, frD]
      exact ⟨G, .refl, q2 p e⟩
  | ref a =>
    have h3 : t ≠ .str := by
      simp only [tyD] at ht
      split at ht <;> cases ht <;> (intro z; cases z)
    simp [startD, dEnds, h1, h2, ht, h3, List.replicate]
    exact ⟨G, .refl, q1 rfl⟩
  | _ =>
    cases ht
    simp [startD, dEnds, h1, h2, List.replicate]
    exact ⟨G, .refl, q1 rfl⟩
end DL.K00

set_option Elab.async false
set_option linter.all false
set_option maxRecDepth 100000
set_option maxHeartbeats 4000000
namespace DL.K00
open PySem PySem.Spec PyProof.Rows L2 DL TL
/-! ### the law's own: cells, boxes, draws -/
def BoxOk (B : Int) (l : List D) : Prop := ∃ (n : Int) (b : Bool) (r c : Int), l = [.int n, .bl b, .int r, .int c] ∧ 0 ≤ n ∧ 0 ≤ r ∧ r < 2147483629 ∧ 0 ≤ c ∧ c ≤ B
theorem BoxOk.mono {B B' : Int} {l : List D} (h : BoxOk B l) (hb : B ≤ B') : BoxOk B' l := by
  obtain ⟨n, b, r, c, e, h1, h2, h3, h4, h5⟩ := h
  exact ⟨n, b, r, c, e, h1, h2, h3, h4, by omega⟩
def cutL' (ns : List Int) : List Int := (ns.drop (HT.sIx ns.length 0 none)).take (HT.sIx ns.length ns.length (some 1) - HT.sIx ns.length 0 none)
def S_cell : DSp := fun ds G Q _ => ∃ (ns : List Int) (k : Nat), ds = [.lsv (ns.map .int), .int k] ∧ ∀ c : Int, Q (.int c) G
theorem run_cell {Γ : GE} {ds : List D} {G : DH} {Q : QD} {E : ED} (hl : ds.length = 2) (h : S_cell ds G Q E) : Runs Γ m_f_law_cell 2 ds G Q E := by
  obtain ⟨ns, k, rfl, q⟩ := h
  unfold Runs m_f_law_cell
  simp [startD, dEnds]
  by_cases hk : k < ns.length
  · exact .inr ⟨hk, .int ns[k], ⟨ns[k], by simp [hk], rfl⟩, G, .refl, q _⟩
  · refine .inl ⟨by omega, .of_left (intBits_le_64 (by decide) (by decide)), fun p hp => ⟨cutL' ns, by unfold cutL cutL'; simp, G, .put hp, q _⟩⟩
def S_box : DSp := fun ds G Q _ => ∃ c : Int, ds = [.int c] ∧ ∀ p l, G p = none → BoxOk 0 l → Q (.ref p) (put G p (.lst l))
theorem run_box {Γ : GE} {ds : List D} {G : DH} {Q : QD} {E : ED} (hl : ds.length = 1) (h : S_box ds G Q E) : Runs Γ m_f_law_box 1 ds G Q E := by
  obtain ⟨c, rfl, q⟩ := h
  unfold Runs m_f_law_box
  simp [startD, dEnds]
  refine ⟨by decide +kernel, fun p hp => ⟨_, .refl, q p _ hp ⟨_, _, _, _, rfl, by omega, Int.fmod_nonneg_of_pos _ (by decide), Int.fmod_lt_of_pos _ (by decide), by omega, by omega⟩⟩⟩
def S_take : DSp := fun ds G Q _ => ∃ (a : Addr) (m : Int) (l : List D) (B : Int), ds = [.ref a, .int m] ∧ G a = some (.lst l) ∧ BoxOk B l ∧ B < 1000000000 ∧ 0 < m ∧ Sm m ∧
  ∀ (d : Int) (l' : List D) (G' : DH), 0 ≤ d → d < m → BoxOk (B + 1) l' → Ext a l' G G' → Q (.int d) G'
@[simp] def I_take : FI := ⟨["box", "many"], S_take, []⟩
theorem take_at {a : Addr} {m : Int} {l : List D} {B : Int} {G : DH} {Q : QD} {E : ED} (ha : G a = some (.lst l)) (hb : BoxOk B l) (hB : B < 1000000000) (hm : 0 < m) (hs : Sm m)
    (k : ∀ (d : Int) (l' : List D) (G' : DH), 0 ≤ d → d < m → BoxOk (B + 1) l' → Ext a l' G G' → Q (.int d) G') : S_take [.ref a, .int m] G Q E := ⟨a, m, l, B, rfl, ha, hb, hB, hm, hs, k⟩
theorem run_take {Γ : GE} {ds : List D} {G : DH} {Q : QD} {E : ED} (hl : ds.length = 2) (h : S_take ds G Q E) : Runs Γ m_f_law_take 4 ds G Q E := by
  obtain ⟨a, m, l, B, rfl, ha, ⟨n, b, r, c, rfl, h1, h2, h3, h4, h5⟩, hB, hm, hs, q⟩ := h
  have hs1 := sqAt_some.mpr ha
  unfold Runs m_f_law_take
  simp [startD, dEnds, List.replicate, ha, hs1, show ixN 4 3 = some 3 from rfl, show ixN 4 0 = some 0 from rfl]
  have rest : ∀ {P : Prop}, (IntMulOk 15485863 (c + 1) ∧ (Builtin.Int.intBits (r + 15485863 * (c + 1) + 179424673) : Int) * 5 ≤ 134217728 ∧ IntMulOk (((r + 15485863 * (c + 1) + 179424673) ^ 5).fmod 2147483647) 48271 ∧ IntMulOk 104729 (c + 1) ∧
      (Builtin.Int.intBits (((r + 15485863 * (c + 1) + 179424673) ^ 5).fmod 2147483647 * 48271 + 104729 * (c + 1)) : Int) * 3 ≤ 134217728 ∧ Nat.log2 64 < 9000 ∧ ¬m = 0 ∧ P) ↔ P := by
    intro P
    generalize hX : ((r + 15485863 * (c + 1) + 179424673) ^ 5).fmod 2147483647 = X
    have x1 : 0 ≤ X := by rw [← hX]; exact Int.fmod_nonneg_of_pos _ (by decide)
    have x2 : X < 2147483647 := by rw [← hX]; exact Int.fmod_lt_of_pos _ (by decide)
    have b1 : Builtin.Int.intBits (r + 15485863 * (c + 1) + 179424673) ≤ 64 := intBits_le_64 (by omega) (by omega)
    have b2 : Builtin.Int.intBits (X * 48271 + 104729 * (c + 1)) ≤ 64 := intBits_le_64 (by omega) (by omega)
    constructor
    · exact fun h => h.2.2.2.2.2.2.2
    · exact fun h => ⟨.of_left (intBits_le_64 (by decide) (by decide)), by omega, .of_right (intBits_le_64 (by decide) (by decide)), .of_left (intBits_le_64 (by decide) (by decide)), by omega, by decide +kernel, by omega, h⟩
  rw [rest]
  have box : BoxOk (B + 1) [.int n, .bl b, .int r, .int (c + 1)] := ⟨n, b, r, c + 1, rfl, h1, h2, h3, by omega, by omega⟩
  cases b with
  | false =>
    rw [if_neg Bool.false_ne_true]
    exact ⟨_, .refl, q _ _ _ (Int.fmod_nonneg_of_pos _ hm) (Int.fmod_lt_of_pos _ hm) box .put⟩
  | true =>
    rw [if_pos rfl]
    by_cases hn : n ≤ 0
    · exact .inl ⟨hn, _, .refl, q _ _ _ (Int.fmod_nonneg_of_pos _ hm) (Int.fmod_lt_of_pos _ hm) box .put⟩
    · refine .inr ⟨by omega, by omega, hs, _, .refl, q _ _ _ (Int.fmod_nonneg_of_pos _ hm) (Int.fmod_lt_of_pos _ hm) ⟨_, _, _, _, rfl, ?_, h2, h3, h4, by omega⟩ .put⟩
      exact Int.fdiv_nonneg h1 (by omega)
/-! ### the same? -/
/-- two values that _law_same finds the same, to a depth -/
def same : Nat → DH → D → D → Prop
  | 0, _, _, _ => False
  | n + 1, G, x, y => match x with
    | .non => y = .non
    | .bl b => y = .bl b
    | .int i => y = .int i
    | .str s => y = .str s ∧ s.length ≤ 600
    | .tup xs => ∃ ys : List D, y = .tup ys ∧ xs.length = ys.length ∧ ys.length ≤ 1000 ∧ ∀ (i : Nat) x y, xs[i]? = some x → ys[i]? = some y → same n G x y
    | .ref a => ∃ (b : Addr) (xs ys : List D), y = .ref b ∧ G a = some (.lst xs) ∧ G b = some (.lst ys) ∧ xs.length = ys.length ∧ ys.length ≤ 1000 ∧ ∀ (i : Nat) x y, xs[i]? = some x → ys[i]? = some y → same n G x y
    | _ => False
def S_same (n : Nat) : DSp := fun ds G Q _ => ∃ x y, ds = [x, y] ∧ same n G x y ∧ Q (.bl true) G
@[simp] def I_same (n : Nat) : FI := ⟨["told", "due"], S_same n, []⟩
theorem run_same {Γ : GE} {n : Nat} (h1 : Γ.fn "_law_same" = some (I_same n)) {ds : List D} {G : DH} {Q : QD} {E : ED} (hl : ds.length = 2) (h : S_same (n + 1) ds G Q E) : Runs Γ m_f_law_same 3 ds G Q E := by
  obtain ⟨x, y, rfl, hs, q⟩ := h
  unfold Runs m_f_law_same
  cases x with
  | non =>
    obtain rfl : y = .non := hs
    simp [startD, dEnds, List.replicate]
    exact ⟨G, .refl, q⟩
  | bl b =>
    obtain rfl : y = .bl b := hs
    simp [startD, dEnds, List.replicate]
    exact ⟨G, .refl, by simpa using q⟩
  | int b =>
    obtain rfl : y = .int b := hs
    simp [startD, dEnds, List.replicate]
    exact ⟨G, .refl, by simpa using q⟩
  | str b =>
    obtain ⟨rfl, hl⟩ : y = .str b ∧ b.length ≤ 600 := hs
    simp [startD, dEnds, List.replicate]
    have hs := sizeLine_eq
    refine ⟨by omega, by omega, by rw [rangeL_length]; omega, lc_drop srcOk_nil (fun d hd K1 K0 z' => ?_) ?_⟩
    rotate_left
    · exact fun p hp p1 hp1 => eq_nil2 hp1 ⟨G, sub_put2 hp hp1, q⟩
    obtain ⟨i, hi, rfl⟩ := range_mem hd
    have hi' : i < (tl b).length := by rw [← len_tl]; exact hi
    simp [st, gt]
    exact ⟨by omega, (tl b)[i], by rw [← Array.getElem?_toList]; show (tl b)[i]? = _; simp [hi'], .inl ⟨cut_one hi', z'⟩⟩
  | tup xs =>
    obtain ⟨ys, rfl, hl, hl2, hs⟩ : ∃ ys : List D, y = .tup ys ∧ xs.length = ys.length ∧ ys.length ≤ 1000 ∧ ∀ (i : Nat) x y, xs[i]? = some x → ys[i]? = some y → same n G x y := hs
    simp [startD, dEnds, List.replicate, h1]
    have hsz := sizeLine_eq
    rw [if_pos (by omega)]
    refine ⟨by omega, by rw [rangeL_length]; omega, lc_drop srcOk_nil (fun d hd K1 K0 z' => ?_) ?_⟩
    rotate_left
    · exact fun p hp p1 hp1 => eq_nil2 hp1 ⟨G, sub_put2 hp hp1, q⟩
    obtain ⟨i, hi, rfl⟩ := range_mem hd
    simp [st, gt]
    exact ⟨xs[i], by simp [hl, hi], ys[i], by simp [hi], _, _, rfl, hs i _ _ (by simp [hl, hi]) (by simp [hi]), by simpa using z'⟩
  | ref a =>
    obtain ⟨b, xs, ys, rfl, ha, hb, hl, hl2, hs⟩ : ∃ (b : Addr) (xs ys : List D), y = .ref b ∧ G a = some (.lst xs) ∧ G b = some (.lst ys) ∧ xs.length = ys.length ∧ ys.length ≤ 1000 ∧ ∀ (i : Nat) x y, xs[i]? = some x → ys[i]? = some y → same n G x y := hs
    have hsz := sizeLine_eq
    have ha1 := sqAt_some.mpr ha
    have hb1 := sqAt_some.mpr hb
    simp [startD, dEnds, List.replicate, h1, ty_lst ha, ty_lst hb, ha1, hb1]
    rw [if_pos (by omega)]
    refine ⟨by omega, by rw [rangeL_length]; omega, lc_drop srcOk_nil (fun d hd K1 K0 z' => ?_) ?_⟩
    rotate_left
    · exact fun p hp p1 hp1 => eq_nil2 hp1 ⟨G, sub_put2 hp hp1, q⟩
    obtain ⟨i, hi, rfl⟩ := range_mem hd
    simp [st, gt, ha1, hb1]
    exact ⟨xs[i], by simp [hl, hi], ys[i], by simp [hi], _, _, rfl, hs i _ _ (by simp [hl, hi]) (by simp [hi]), by simpa using z'⟩
  | _ => exact False.elim hs
end DL.K00

set_option Elab.async false
set_option linter.all false
set_option maxRecDepth 100000
set_option maxHeartbeats 4000000
namespace DL.K00
open PySem PySem.Spec PyProof.Rows L2 DL TL
/-! ### the law's own fractions -/
def S_gcd : DSp := fun ds G Q _ => ∃ a b : Int, ds = [.int a, .int b] ∧ Q (.int (Int.gcd a b : Nat)) G
@[simp] theorem gcd_at {a b : Int} {G : DH} {Q : QD} {E : ED} : S_gcd [.int a, .int b] G Q E ↔ Q (.int (Int.gcd a b : Nat)) G := by
  constructor
  · rintro ⟨a', b', e, h⟩
    cases e
    exact h
  · exact fun h => ⟨a, b, rfl, h⟩
@[simp] def I_gcd : FI := ⟨["a", "b"], S_gcd, []⟩
theorem run_gcd {Γ : GE} {ds : List D} {G : DH} {Q : QD} {E : ED} (hl : ds.length = 2) (h : S_gcd ds G Q E) : Runs Γ m_f_law_gcd 2 ds G Q E := by
  obtain ⟨a, b, rfl, q⟩ := h
  unfold Runs m_f_law_gcd
  simp [startD, dEnds]
  refine while_rule (fun n σ G' => ∃ x y : Nat, σ = [some (.int x), some (.int y)] ∧ Nat.gcd x y = Int.gcd a b ∧ n = y ∧ G' = G) b.natAbs ⟨a.natAbs, b.natAbs, rfl, rfl, rfl, rfl⟩ ?_
  rintro n σ G' Kn ⟨x, y, rfl, hg, rfl, rfl⟩ hK
  simp
  by_cases hy : n = 0
  · left
    subst hy
    refine ⟨rfl, G', .refl, ?_⟩
    rw [Nat.gcd_zero_right] at hg
    rw [hg]
    exact q
  · right
    refine ⟨hy, hK (x % n) _ G' (Nat.mod_lt _ (by omega)) ⟨n, x % n, ?_, ?_, rfl, rfl⟩⟩
    · rw [Int.fmod_eq_emod_of_nonneg _ (by omega : (0 : Int) ≤ (n : Int))]; rfl
    · rw [Nat.gcd_comm, ← Nat.gcd_rec, Nat.gcd_comm]; exact hg
theorem lowI_neg {a b : Int} (h : b < 0) : lowI a b = ((-a).fdiv (Int.gcd a b : Nat), (-b).fdiv (Int.gcd a b : Nat)) := by
  unfold lowI
  rw [if_pos h]
  congr 1 <;> rw [← Int.neg_fdiv_neg, Int.neg_neg]
def S_low : DSp := fun ds G Q _ => ∃ a b : Int, ds = [.int a, .int b] ∧ b ≠ 0 ∧ Sm b ∧ Q (frD (lowI a b)) G
@[simp] theorem low_at {a b : Int} {G : DH} {Q : QD} {E : ED} : S_low [.int a, .int b] G Q E ↔ b ≠ 0 ∧ Sm b ∧ Q (frD (lowI a b)) G := by
  constructor
  · rintro ⟨a', b', e, h⟩
    cases e
    exact h
  · exact fun h => ⟨a, b, rfl, h⟩
@[simp] def I_low : FI := ⟨["top", "bottom"], S_low, []⟩
theorem run_low {Γ : GE} (h1 : Γ.fn "_law_gcd" = some I_gcd) {ds : List D} {G : DH} {Q : QD} {E : ED} (hl : ds.length = 2) (h : S_low ds G Q E) : Runs Γ m_f_law_low 3 ds G Q E := by
  obtain ⟨a, b, rfl, hb, hs, q⟩ := h
  have hg : (Int.gcd a b).log2 < 9000 := log_gcd hb hs
  unfold Runs m_f_law_low
  by_cases h : b < 0
  · rw [lowI_neg h] at q
    simp [startD, dEnds, List.replicate, h1, h, hg, hb]
    exact ⟨G, .refl, q⟩
  · unfold lowI at q
    rw [if_neg h] at q
    simp [startD, dEnds, List.replicate, h1, h, hg, hb]
    exact ⟨G, .refl, q⟩
@[simp] theorem frD_def (p : Int × Int) : frD p = .tup [.int p.1, .int p.2] := rfl
theorem run_ladd {Γ : GE} (h2 : Γ.fn "_law_low" = some I_low) {ds : List D} {G : DH} {Q : QD} {E : ED} (hl : ds.length = 2) (h : S_op cAdd oAdd ds G Q E) : Runs Γ m_f_law_add 2 ds G Q E := by
  obtain ⟨a, b, x, y, rfl, ⟨⟨c1, c2, c3⟩, c4, c5⟩, q⟩ := h
  unfold Runs m_f_law_add
  simp [startD, dEnds, h2, c1, c2, c3, c5]
  exact ⟨by simpa using c4, G, .refl, q⟩
theorem run_lless {Γ : GE} (h2 : Γ.fn "_law_low" = some I_low) {ds : List D} {G : DH} {Q : QD} {E : ED} (hl : ds.length = 2) (h : S_op cAdd oSub ds G Q E) : Runs Γ m_f_law_less 2 ds G Q E := by
  obtain ⟨a, b, x, y, rfl, ⟨⟨c1, c2, c3⟩, c4, c5⟩, q⟩ := h
  unfold Runs m_f_law_less
  simp [startD, dEnds, h2, c1, c2, c3, c5]
  exact ⟨by simpa using c4, G, .refl, q⟩
theorem run_lmul {Γ : GE} (h2 : Γ.fn "_law_low" = some I_low) {ds : List D} {G : DH} {Q : QD} {E : ED} (hl : ds.length = 2) (h : S_op cMul oMul ds G Q E) : Runs Γ m_f_law_mul 2 ds G Q E := by
  obtain ⟨a, b, x, y, rfl, ⟨⟨c1, c2⟩, c4, c5⟩, q⟩ := h
  unfold Runs m_f_law_mul
  simp [startD, dEnds, h2, c1, c2, c5]
  exact ⟨by simpa using c4, G, .refl, q⟩
def cDiv (a b x y : Int) : Prop := (IntMulOk a y ∧ IntMulOk b x) ∧ b * x ≠ 0 ∧ Sm (b * x)
theorem run_ldiv {Γ : GE} (h2 : Γ.fn "_law_low" = some I_low) {ds : List D} {G : DH} {Q : QD} {E : ED} (hl : ds.length = 2) (h : S_op cDiv oDiv ds G Q E) : Runs Γ m_f_law_div 2 ds G Q E := by
  obtain ⟨a, b, x, y, rfl, ⟨⟨c1, c2⟩, c4, c5⟩, q⟩ := h
  unfold Runs m_f_law_div
  simp [startD, dEnds, h2, c1, c2, c5]
  exact ⟨by simpa using c4, G, .refl, q⟩
def S_very : DSp := fun ds G Q _ => ∃ (w v : Str) (x y : D) (t : Ty), ds = [.tup [.str w, x], .str v, y] ∧ w = v ∧ tyD G y = some t ∧ (t = .dict → tyD G x = some .dict) ∧ (t ≠ .dict → same 4 G x y) ∧ Q (.bl true) G
theorem run_very {Γ : GE} (h1 : Γ.fn "_law_same" = some (I_same 4)) {ds : List D} {G : DH} {Q : QD} {E : ED} (hl : ds.length = 3) (h : S_very ds G Q E) : Runs Γ m_f_law_very 3 ds G Q E := by
  obtain ⟨w, v, x, y, t, rfl, rfl, ht, q1, q2, q⟩ := h
  unfold Runs m_f_law_very
  simp [startD, dEnds, h1, ht]
  by_cases hd : t = .dict
  · rw [if_pos hd]
    exact ⟨.dict, q1 hd, G, .refl, q⟩
  · rw [if_neg hd]
    exact ⟨x, y, rfl, q2 hd, G, .refl, q⟩
/-- one of some ints -/
theorem pick {ns : List Int} {d : Int} (h0 : 0 ≤ d) (h : d < (ns.length : Int)) : ∃ w ∈ ns, atI (ns.map D.int) d = some (.int w) := by
  obtain ⟨n, rfl⟩ : ∃ n : Nat, d = n := ⟨d.toNat, by omega⟩
  have hn : n < ns.length := by omega
  exact ⟨ns[n], List.getElem_mem hn, by rw [atI_nat, List.getElem?_map, List.getElem?_eq_getElem hn]; rfl⟩
theorem sm26 {m : Int} (h : 0 < m) (h2 : m < 100000000000000000000000000) : Sm m := by
  have : Sz 90 m := by unfold Sz; omega
  exact Nat.lt_trans (this.log (by decide)) (by decide)
/-- what lowest terms are -/
theorem low_pos {a b : Int} (hb : 0 < b) : ∃ x y : Int, lowI a b = (x, y) ∧ 0 < y ∧ Int.gcd x y = 1 ∧ x.natAbs ≤ a.natAbs ∧ y.natAbs ≤ b.natAbs ∧ a = (Int.gcd a b : Int) * x ∧ b = (Int.gcd a b : Int) * y := by
  have hg : 0 < Int.gcd a b := Int.gcd_pos_of_ne_zero_right _ (by omega)
  obtain ⟨x, hx⟩ := Int.gcd_dvd_left a b
  obtain ⟨y, hy⟩ := Int.gcd_dvd_right a b
  generalize hgg : Int.gcd a b = g at *
  have hgi : (g : Int) ≠ 0 := by omega
  subst hx hy
  have e1 : ((g : Int) * x).fdiv g = x := Int.mul_fdiv_cancel_left _ hgi
  have e2 : ((g : Int) * y).fdiv g = y := Int.mul_fdiv_cancel_left _ hgi
  have hy0 : 0 < y := by
    by_cases h : 0 < y
    · exact h
    · have : (g : Int) * y ≤ 0 := Int.mul_nonpos_of_nonneg_of_nonpos (by omega) (by omega)
      omega
  have hc : Int.gcd x y = 1 := by
    rw [Int.gcd_mul_left] at hgg
    have h1 : g * Int.gcd x y = g * 1 := by simpa using hgg
    exact Nat.eq_of_mul_eq_mul_left hg h1
  refine ⟨x, y, ?_, hy0, hc, ?_, ?_, rfl, rfl⟩
  · unfold lowI
    rw [hgg, if_neg (by omega), e1, e2]
  · rw [Int.natAbs_mul]; exact Nat.le_mul_of_pos_left _ (by omega)
  · rw [Int.natAbs_mul]; exact Nat.le_mul_of_pos_left _ (by omega)
def S_pair : DSp := fun ds G Q _ => ∃ (a : Addr) (l : List D) (B : Int), ds = [.ref a] ∧ G a = some (.lst l) ∧ BoxOk B l ∧ B < 900000000 ∧
  ∀ (x y : Int) (l' : List D) (G' : DH), BoxOk (B + 6) l' → Sz 90 x → 0 < y → Sz 90 y → Int.gcd x y = 1 → Ext a l' G G' → Q (frD (x, y)) G'
theorem run_pair {Γ : GE} (h1 : Γ.fn "_law_take" = some I_take) (h2 : Γ.fn "_law_low" = some I_low) {ds : List D} {G : DH} {Q : QD} {E : ED} (hl : ds.length = 1) (h : S_pair ds G Q E) : Runs Γ m_f_law_pair 3 ds G Q E := by
  obtain ⟨a, l, B, rfl, ha, hb, hB, q⟩ := h
  unfold Runs m_f_law_pair
  simp [startD, dEnds, List.replicate, h1, h2, -frD_def]
  refine ⟨by decide +kernel, by decide +kernel, fun p hp => ?_⟩
  have hpa : p ≠ a := Ne.symm (ne_free ha hp)
  have e0 := (Ext.same ha).new (o := .lst [.int 4, .int 10, .int 100, .int 1000000, .int 10000000000000000000000000]) hp
  refine take_at e0.1 hb (by omega) (by decide) (sm26 (by decide) (by decide)) fun d1 l1 G1 d1a d1b b1 e1 => ?_
  have hp1 := sqAt_some.mpr (e1.2 p _ hpa put_same)
  obtain ⟨w, hw, pw⟩ := pick (ns := [4, 10, 100, 1000000, 10000000000000000000000000]) d1a d1b
  have pw' : atI [D.int 4, D.int 10, D.int 100, D.int 1000000, D.int 10000000000000000000000000] d1 = some (D.int w) := pw
  have w0 : 4 ≤ w ∧ w ≤ 10000000000000000000000000 := by
    simp at hw
    omega
  simp [hp1, pw', -frD_def]
  refine take_at e1.1 b1 (by omega) (by omega) (sm26 (by omega) (by omega)) fun d2 l2 G2 d2a d2b b2 e2 => ?_
  refine take_at e2.1 b2 (by omega) (by decide) (sm26 (by decide) (by decide)) fun d3 l3 G3 d3a d3b b3 e3 => ?_
  have hsg : IntMulOk 2 d3 ∧ IntMulOk d2 (1 - 2 * d3) := ⟨.of_left (intBits_le_64 (by decide) (by decide)), .of_right (intBits_le_64 (by omega) (by omega))⟩
  simp [hsg.1, hsg.2, -frD_def]
  refine take_at e3.1 b3 (by omega) (by decide) (sm26 (by decide) (by decide)) fun d4 l4 G4 d4a d4b b4 e4 => ?_
  obtain ⟨s, hs, hs2⟩ : ∃ s : Int, (if decide (d4 = 0) = false then (1 : Int) else 0) = s ∧ (s = 0 ∨ s = 1) := by
    refine ⟨_, rfl, ?_⟩
    split <;> simp
  simp only [eqD_ii, hs]
  refine ⟨.of_right (intBits_le_64 (by omega) (by omega)), fun p2 hp2 => ?_⟩
  have hp2a : p2 ≠ a := Ne.symm (ne_free e4.1 hp2)
  have e5 := e4.new (o := .lst [.int 1, .int w]) hp2
  refine take_at e5.1 b4 (by omega) (by decide) (sm26 (by decide) (by decide)) fun d5 l5 G5 d5a d5b b5 e6 => ?_
  have hp5 := sqAt_some.mpr (e6.2 p2 _ hp2a put_same)
  obtain ⟨v, hv, pv⟩ : ∃ v : Int, (1 ≤ v ∧ v ≤ w) ∧ atI [D.int 1, D.int w] (if 0 < d5 then 1 else 0) = some (D.int v) := by
    by_cases hd : 0 < d5
    · exact ⟨w, by omega, by rw [if_pos hd]; rfl⟩
    · exact ⟨1, by omega, by rw [if_neg hd]; rfl⟩
  simp [hp5, pv, -frD_def]
  refine take_at e6.1 b5 (by omega) (by omega) (sm26 (by omega) (by omega)) fun d6 l6 G6 d6a d6b b6 e7 => ?_
  obtain ⟨x, y, hxy, y0, g1, n1, n2, _, _⟩ := low_pos (a := d2 * (1 - 2 * d3) * s) (b := 1 + d6) (by omega)
  simp [hxy, -frD_def]
  have z1 : (d2 * (1 - 2 * d3) * s).natAbs ≤ d2.natAbs := by
    have h3 : d3 = 0 ∨ d3 = 1 := by omega
    rcases h3 with rfl | rfl <;> rcases hs2 with rfl | rfl <;> simp
  refine ⟨by omega, sm26 (by omega) (by omega), G6, .refl, q x y l6 G6 (b6.mono (by omega)) (by unfold Sz; omega) y0 (by unfold Sz; omega) g1 ?_⟩
  exact (((((e0.trans e1).trans e2).trans e3).trans (e4.new hp2)).trans e6).trans e7
end DL.K00

set_option Elab.async false
set_option linter.all false
set_option maxRecDepth 100000
set_option maxHeartbeats 4000000
namespace DL.K00
open PySem PySem.Spec PyProof.Rows L2 DL TL
/-! ### the law's own texts -/
def S_digits : DSp := fun ds G Q _ => ∃ i : Int, ds = [.int i] ∧ i.natAbs.log2 < 900 ∧ Q (.str (intS i)) G
@[simp] def I_digits : FI := ⟨["number"], S_digits, []⟩
theorem digits_get {n : Nat} (h : n < 10) : (Str.ofString "0123456789").cps.toList[n]? = some (48 + n) := by
  rw [digits_tl]
  have : n = 0 ∨ n = 1 ∨ n = 2 ∨ n = 3 ∨ n = 4 ∨ n = 5 ∨ n = 6 ∨ n = 7 ∨ n = 8 ∨ n = 9 := by omega
  rcases this with rfl | rfl | rfl | rfl | rfl | rfl | rfl | rfl | rfl | rfl <;> rfl
def cnt (m : Nat) : Nat := if m = 0 then 0 else (numL m).length
theorem tl_empty : tl (Str.ofString "") = [] := by decide +kernel
theorem tl_zero : tl (Str.ofString "0") = [48] := by decide +kernel
theorem tl_minus : tl (Str.ofString "-") = [45] := by decide +kernel
theorem run_digits {Γ : GE} {ds : List D} {G : DH} {Q : QD} {E : ED} (hl : ds.length = 1) (h : S_digits ds G Q E) : Runs Γ m_f_law_digits 3 ds G Q E := by
  obtain ⟨i, rfl, hz, q⟩ := h
  have h300 := numL_len300 hz
  have hsz := sizeLine_eq
  have he : Str.ofString "" = Str.empty := by decide +kernel
  have l0 : (Str.ofString "").length = 0 := by decide +kernel
  have l1 : (Str.ofString "0").length = 1 := by decide +kernel
  have l2 : (Str.ofString "-").length = 1 := by decide +kernel
  have l3 : (Str.ofString "0123456789").length = 10 := by decide +kernel
  unfold Runs m_f_law_digits
  simp [startD, dEnds, List.replicate]
  refine while_rule (fun n σ G' => ∃ (m : Nat) (f : Str), σ = [some (.int i), some (.int m), some (.str f)] ∧ G' = G ∧ n = m ∧ cnt m + f.length ≤ 300 ∧ (0 < m → numL i.natAbs = numL m ++ tl f) ∧ (m = 0 → (i.natAbs = 0 ∧ tl f = []) ∨ (0 < i.natAbs ∧ tl f = numL i.natAbs)))
    i.natAbs ⟨i.natAbs, Str.ofString "", rfl, rfl, rfl, by rw [l0]; unfold cnt; split <;> omega, fun _ => by rw [tl_empty, List.append_nil], fun h0 => .inl ⟨h0, tl_empty⟩⟩ ?_
  rintro n σ G' Kn ⟨m, f, rfl, rfl, rfl, hlen, c1, c2⟩ hK
  simp
  by_cases hm : n = 0
  · refine .inl ⟨hm, ?_⟩
    have c2 := c2 hm
    have hfl : f.length ≤ 300 := by omega
    by_cases hi : 0 ≤ i
    · refine .inl ⟨hi, ?_⟩
      rcases c2 with ⟨h0, hf⟩ | ⟨h0, hf⟩
      · refine .inl ⟨ext_tl (by rw [hf, tl_empty]), by omega, G', .refl, ?_⟩
        have : Str.ofString "" ++ Str.ofString "0" = intS i := ext_tl (by
          rw [tl_append, tl_empty, tl_zero, tl_intS]
          unfold numZ
          rw [if_neg (by omega), h0]
          rfl)
        rw [this]; exact q
      · refine .inr ⟨fun z => by rw [z, tl_empty] at hf; exact numL_ne _ hf.symm, by omega, G', .refl, ?_⟩
        have : Str.ofString "" ++ f = intS i := ext_tl (by
          rw [tl_append, tl_empty, hf, tl_intS]
          unfold numZ
          rw [if_neg (by omega)]
          rfl)
        rw [this]; exact q
    · refine .inr ⟨by omega, .inr ?_⟩
      rcases c2 with ⟨h0, hf⟩ | ⟨h0, hf⟩
      · omega
      · refine ⟨fun z => by rw [z, tl_empty] at hf; exact numL_ne _ hf.symm, by omega, G', .refl, ?_⟩
        have : Str.ofString "-" ++ f = intS i := ext_tl (by
          rw [tl_append, tl_minus, hf, tl_intS]
          unfold numZ
          rw [if_pos (by omega)]
          rfl)
        rw [this]; exact q
  · have hn0 : 0 < n := by omega
    have hmod : (n : Int).fmod 10 = ((n % 10 : Nat) : Int) := by rw [Int.fmod_eq_emod_of_nonneg _ (by decide)]; rfl
    have hdiv : (n : Int).fdiv 10 = ((n / 10 : Nat) : Int) := by rw [Int.fdiv_eq_ediv_of_nonneg _ (by decide)]; rfl
    have hc : (if n = 0 then 0 else (numL n).length) + f.length ≤ 300 := hlen
    rw [if_neg hm] at hc
    have lc : ∀ c, (⟨#[c]⟩ : Str).length = 1 := fun _ => rfl
    have tc : ∀ c, tl (⟨#[c]⟩ : Str) = [c] := fun _ => rfl
    refine .inr ⟨hn0, by omega, 48 + n % 10, by rw [hmod, atI_nat]; exact digits_get (Nat.mod_lt _ (by decide)), by rw [lc]; omega, by decide +kernel, ?_⟩
    rw [hdiv]
    refine hK (n / 10) _ G' (Nat.div_lt_self hn0 (by decide)) ⟨n / 10, _, rfl, rfl, rfl, ?_, fun h10 => ?_, fun h10 => ?_⟩
    · rw [len_tl, tl_append, tc, List.length_append, ← len_tl]
      unfold cnt
      by_cases h10 : n / 10 = 0
      · rw [if_pos h10]
        have := List.length_pos_iff.mpr (numL_ne n)
        simp; omega
      · rw [if_neg h10]
        rw [numL_step (by omega), List.length_append] at hc
        simp at hc ⊢; omega
    · rw [c1 hn0, numL_step (n := n) (by omega), tl_append, tc, List.append_assoc]
    · refine .inr ⟨?_, ?_⟩
      · by_cases h0 : i.natAbs = 0
        · have := c1 hn0
          rw [h0] at this
          have h2 : numL 0 = [48] := rfl
          rw [h2, numL_lt (by omega)] at this
          simp at this
          omega
        · omega
      · rw [c1 hn0, tl_append, tc, numL_lt (n := n) (by omega), Nat.mod_eq_of_lt (by omega)]
def S_ltext : DSp := fun ds G Q _ => ∃ a b : Int, ds = [frD (a, b)] ∧ a.natAbs.log2 < 900 ∧ b.natAbs.log2 < 900 ∧ Q (.str (frText (a, b))) G
@[simp] theorem digits_at {i : Int} {G : DH} {Q : QD} {E : ED} : S_digits [.int i] G Q E ↔ i.natAbs.log2 < 900 ∧ Q (.str (intS i)) G := by
  constructor
  · rintro ⟨i', e, h⟩
    cases e
    exact h
  · exact fun h => ⟨i, rfl, h⟩
theorem run_ltext {Γ : GE} (h1 : Γ.fn "_law_digits" = some I_digits) {ds : List D} {G : DH} {Q : QD} {E : ED} (hl : ds.length = 1) (h : S_ltext ds G Q E) : Runs Γ m_f_law_text 1 ds G Q E := by
  obtain ⟨a, b, rfl, c1, c2, q⟩ := h
  have l1 := numZ_len c1
  have l2 := numZ_len c2
  have hs := sizeLine_eq
  unfold Runs m_f_law_text
  simp [startD, dEnds, h1, c1, c2]
  by_cases hb : b = 1
  · have e : intS a ++ Str.ofString "" = frText (a, b) := ext_tl (by rw [tl_append, tl_intS, tl_empty, tl_frText]; simp [frL, hb])
    rw [e]
    refine .inr ⟨hb, ?_, G, .refl, q⟩
    rw [len_tl, len_tl, tl_intS, tl_empty]; simp; omega
  · have e : intS a ++ (Str.ofString "/" ++ intS b) = frText (a, b) := ext_tl (by
      rw [tl_append, tl_append, tl_intS, tl_intS, tl_slash, tl_frText]
      simp [frL, hb])
    rw [e]
    refine .inl ⟨hb, ?_, ?_, G, .refl, q⟩
    · rw [len_tl, len_tl, tl_intS, tl_slash]; simp; omega
    · rw [len_tl, len_tl, tl_append, tl_intS, tl_intS, tl_slash]; simp; omega
/-! ### what a call tells, or raises -/
def I_fraction : FI := ⟨["numerator", "denominator"], S_fraction, [(0, ["denominator", "numerator"], [1, 0])]⟩
def I_add : FI := ⟨["one", "other"], S_op cAdd oAdd, [(0, ["other", "one"], [1, 0])]⟩
def I_subtract : FI := ⟨["one", "other"], S_op cAdd oSub, [(0, ["other", "one"], [1, 0])]⟩
def I_multiply : FI := ⟨["one", "other"], S_op cMul oMul, [(0, ["other", "one"], [1, 0])]⟩
def I_divide : FI := ⟨["one", "other"], S_divide, [(0, ["other", "one"], [1, 0])]⟩
def I_compare : FI := ⟨["one", "other"], S_compare, [(0, ["other", "one"], [1, 0])]⟩
def I_text : FI := ⟨["one"], S_text, [(0, ["one"], [0])]⟩
def I_read : FI := ⟨["text"], S_read, [(0, ["text"], [0])]⟩
def pairD (w : String) (x : D) : D := .tup [.str (Str.ofString w), x]
/-- what _law_caught gives back -/
inductive Caught (G : DH) : String → D → D → D → Prop
  | number1 {x y : D} {t u : Ty} : tyD G x = some t → tyD G y = some u → isI x = false → Caught G "make" x y (pairD "number" x)
  | number2 {x y : D} {t u : Ty} : tyD G x = some t → tyD G y = some u → isI x = true → isI y = false → Caught G "make" x y (pairD "number" y)
  | number3 {a : Int} : Caught G "make" (.int a) (.int 0) (pairD "number" (.int 0))
  | make {a b : Int} : b ≠ 0 → Sm b → Caught G "make" (.int a) (.int b) (pairD "told" (frD (lowI a b)))
  | add {a b x y : Int} : cAdd a b x y → Caught G "add" (frD (a, b)) (frD (x, y)) (pairD "told" (frD (oAdd a b x y)))
  | subtract {a b x y : Int} : cAdd a b x y → Caught G "subtract" (frD (a, b)) (frD (x, y)) (pairD "told" (frD (oSub a b x y)))
  | multiply {a b x y : Int} : cMul a b x y → Caught G "multiply" (frD (a, b)) (frD (x, y)) (pairD "told" (frD (oMul a b x y)))
  | divide {a b x y : Int} : x ≠ 0 → cDiv a b x y → Caught G "divide" (frD (a, b)) (frD (x, y)) (pairD "told" (frD (oDiv a b x y)))
  | zero {a b y : Int} : Caught G "divide" (frD (a, b)) (frD (0, y)) (pairD "zero" .non)
  | compare {a b x y : Int} : IntMulOk a y → IntMulOk x b → Caught G "compare" (frD (a, b)) (frD (x, y)) (pairD "told" (.int (cmpI a b x y)))
  | text {a b : Int} {z : D} : a.natAbs.log2 < 900 → b.natAbs.log2 < 900 → Caught G "text" (frD (a, b)) z (pairD "told" (.str (frText (a, b))))
  | bad {x z : D} {t : Ty} : tyD G x = some t → (∀ z, x = .str z → z.length ≤ 600) → readD x = .non → Caught G "read" x z (pairD "text" x)
  | read {x z : D} {t : Ty} {p : Int × Int} : tyD G x = some t → (∀ z, x = .str z → z.length ≤ 600) → readD x = frD p → Caught G "read" x z (pairD "told" (frD p))
  | isf {x z : D} : Typed G x → Caught G "is" x z (pairD "told" (.bl (isFr x)))
def S_caught : DSp := fun ds G Q _ => ∃ (a : Addr) (l : List D) (B : Int) (w : String) (x y r : D), ds = [.ref a, .str (Str.ofString w), x, y] ∧ G a = some (.lst l) ∧ BoxOk B l ∧ B < 900000000 ∧ Caught G w x y r ∧ ∀ l' G', BoxOk (B + 1) l' → Ext a l' G G' → Q r G'
theorem frac1 {x y : D} {t u : Ty} {G : DH} {Q : QD} {E : ED} (hx : tyD G x = some t) (hy : tyD G y = some u) (h : isI x = false) (hw : E (raisedBy "InvalidNumber" "given" x) G) : S_fraction [x, y] G Q E :=
  ⟨x, y, rfl, ⟨t, hx⟩, ⟨u, hy⟩, fun _ => hw, fun h' => absurd (h.symm.trans h') Bool.false_ne_true, fun a b ea => by rw [ea] at h; cases h⟩
theorem frac2 {x y : D} {t u : Ty} {G : DH} {Q : QD} {E : ED} (hx : tyD G x = some t) (hy : tyD G y = some u) (h : isI x = true) (h2 : isI y = false) (hw : E (raisedBy "InvalidNumber" "given" y) G) : S_fraction [x, y] G Q E :=
  ⟨x, y, rfl, ⟨t, hx⟩, ⟨u, hy⟩, fun h' => absurd (h'.symm.trans h) Bool.false_ne_true, fun _ _ => hw, fun a b _ eb => by rw [eb] at h2; cases h2⟩
theorem frac3 {a : Int} {G : DH} {Q : QD} {E : ED} (hw : E (raisedBy "InvalidNumber" "given" (.int 0)) G) : S_fraction [.int a, .int 0] G Q E :=
  ⟨_, _, rfl, ⟨_, rfl⟩, ⟨_, rfl⟩, fun h' => absurd h' (by simp [isI]), fun _ h' => absurd h' (by simp [isI]), fun a b _ eb => by cases eb; exact ⟨fun _ => hw, fun h => absurd rfl h⟩⟩
theorem frac4 {a b : Int} {G : DH} {Q : QD} {E : ED} (hb : b ≠ 0) (hs : Sm b) (hq : Q (frD (lowI a b)) G) : S_fraction [.int a, .int b] G Q E :=
  ⟨_, _, rfl, ⟨_, rfl⟩, ⟨_, rfl⟩, fun h' => absurd h' (by simp [isI]), fun _ h' => absurd h' (by simp [isI]), fun a b ea eb => by cases ea; cases eb; exact ⟨fun h => absurd h hb, fun _ => ⟨hs, hq⟩⟩⟩
theorem op_mk {cc : Int → Int → Int → Int → Prop} {o : Int → Int → Int → Int → Int × Int} {a b x y : Int} {G : DH} {Q : QD} {E : ED} (c : cc a b x y) (q : Q (frD (o a b x y)) G) : S_op cc o [frD (a, b), frD (x, y)] G Q E := ⟨a, b, x, y, rfl, c, q⟩
theorem div_mk {a b x y : Int} {G : DH} {Q : QD} {E : ED} (hx : x ≠ 0) (c : cDiv a b x y) (q : Q (frD (oDiv a b x y)) G) : S_divide [frD (a, b), frD (x, y)] G Q E :=
  ⟨a, b, x, y, rfl, fun h => absurd h hx, fun _ => ⟨c.1, c.2.1, c.2.2, q⟩⟩
theorem div_zero {a b y : Int} {G : DH} {Q : QD} {E : ED} (q : E ⟨"DividedByZero", []⟩ G) : S_divide [frD (a, b), frD (0, y)] G Q E := ⟨a, b, 0, y, rfl, fun _ => q, fun h => absurd rfl h⟩
theorem cmp_mk {a b x y : Int} {G : DH} {Q : QD} {E : ED} (c1 : IntMulOk a y) (c2 : IntMulOk x b) (q : Q (.int (cmpI a b x y)) G) : S_compare [frD (a, b), frD (x, y)] G Q E := ⟨a, b, x, y, rfl, c1, c2, q⟩
theorem text_mk {a b : Int} {G : DH} {Q : QD} {E : ED} (c1 : a.natAbs.log2 < 900) (c2 : b.natAbs.log2 < 900) (q : Q (.str (frText (a, b))) G) : S_text [frD (a, b)] G Q E := ⟨a, b, rfl, c1, c2, q⟩
theorem read_bad {x : D} {t : Ty} {G : DH} {Q : QD} {E : ED} (hx : tyD G x = some t) (hz : ∀ z, x = .str z → z.length ≤ 600) (h : readD x = .non) (q : E (raisedBy "InvalidText" "given" x) G) : S_read [x] G Q E := ⟨x, t, rfl, hx, hz, fun _ => q, fun p e => by rw [h] at e; cases e⟩
theorem frD_inj {p q : Int × Int} (h : frD p = frD q) : p = q := by
  unfold frD at h
  injection h with h
  injection h with h1 h2
  injection h1 with h1
  injection h2 with h2 _
  injection h2 with h2
  exact Prod.ext h1 h2
theorem read_mk {x : D} {t : Ty} {p : Int × Int} {G : DH} {Q : QD} {E : ED} (hx : tyD G x = some t) (hz : ∀ z, x = .str z → z.length ≤ 600) (h : readD x = frD p) (q : Q (frD p) G) : S_read [x] G Q E :=
  ⟨x, t, rfl, hx, hz, fun e => (by have := h.symm.trans e; cases this), fun p' e => (by rw [← frD_inj (h.symm.trans e)]; exact q)⟩
theorem ext_typed {a : Addr} {l l0 : List D} {G G1 : DH} {x : D} (e : Ext a l G G1) (h0 : G a = some (.lst l0)) (h : Typed G x) : Typed G1 x :=
  ⟨⟨_, e.ty h0 h.1.choose_spec⟩, fun ds ed d hd => ⟨_, e.ty h0 (h.2 ds ed d hd).choose_spec⟩⟩
structure Lib (Γ : GE) : Prop where
  take : Γ.fn "_law_take" = some I_take
  fraction : Γ.fn "fraction" = some I_fraction
  add : Γ.fn "add" = some I_add
  subtract : Γ.fn "subtract" = some I_subtract
  multiply : Γ.fn "multiply" = some I_multiply
  divide : Γ.fn "divide" = some I_divide
  compare : Γ.fn "compare" = some I_compare
  text : Γ.fn "text_of_fraction" = some I_text
  read : Γ.fn "read_fraction" = some I_read
  isf : Γ.fn "is_fraction" = some I_is_fraction
  nn : Γ.exm "InvalidNumber" "InvalidNumber" = some true
  tn : Γ.exm "InvalidText" "InvalidNumber" = some false
  tt : Γ.exm "InvalidText" "InvalidText" = some true
  zn : Γ.exm "DividedByZero" "InvalidNumber" = some false
  zt : Γ.exm "DividedByZero" "InvalidText" = some false
  zz : Γ.exm "DividedByZero" "DividedByZero" = some true
  bn : Γ.exb "InvalidNumber" = true
  bt : Γ.exb "InvalidText" = true
  bz : Γ.exb "DividedByZero" = true
theorem run_caught {Γ : GE} (L : Lib Γ) {ds : List D} {G : DH} {Q : QD} {E : ED} (hl : ds.length = 4) (h : S_caught ds G Q E) : Runs Γ m_f_law_caught 6 ds G Q E := by
  obtain ⟨a, l, B, w, x, y, r, rfl, ha, hb, hB, hc, q⟩ := h
  unfold Runs m_f_law_caught
  simp [startD, dEnds, List.replicate, L.take, L.bn, L.bt, L.bz, -frD_def]
  refine take_at ha hb (by omega) (by decide) (sm26 (by decide) (by decide)) fun d l1 G1 d0 d1 b1 e1 => ?_
  have fin : ∃ G2, Sub G2 G1 ∧ Q r G2 := ⟨G1, .refl, q _ _ b1 e1⟩
  clear q
  simp [-frD_def]
  cases hc with
  | @number1 x y t u hx hy h =>
    simp [L.fraction, I_fraction, -frD_def, permL]
    by_cases hd : d = 1
    · rw [if_pos hd]
      refine ⟨_, _, ⟨rfl, rfl⟩, rfl, rfl, frac1 (e1.ty ha hx) (e1.ty ha hy) h ?_⟩
      (simp [raisedBy, L.nn]; exact fun _ _ => fin)
    · rw [if_neg hd]
      refine frac1 (e1.ty ha hx) (e1.ty ha hy) h ?_
      (simp [raisedBy, L.nn]; exact fun _ _ => fin)
  | @number2 x y t u hx hy h h2 =>
    simp [L.fraction, I_fraction, -frD_def, permL]
    by_cases hd : d = 1
    · rw [if_pos hd]
      refine ⟨_, _, ⟨rfl, rfl⟩, rfl, rfl, frac2 (e1.ty ha hx) (e1.ty ha hy) h h2 ?_⟩
      (simp [raisedBy, L.nn]; exact fun _ _ => fin)
    · rw [if_neg hd]
      refine frac2 (e1.ty ha hx) (e1.ty ha hy) h h2 ?_
      (simp [raisedBy, L.nn]; exact fun _ _ => fin)
  | number3 =>
    simp [L.fraction, I_fraction, -frD_def, permL]
    by_cases hd : d = 1
    · rw [if_pos hd]
      refine ⟨_, _, ⟨rfl, rfl⟩, rfl, rfl, frac3 ?_⟩
      (simp [raisedBy, L.nn]; exact fun _ _ => fin)
    · rw [if_neg hd]
      refine frac3 ?_
      (simp [raisedBy, L.nn]; exact fun _ _ => fin)
  | make h1 h2 =>
    simp [L.fraction, I_fraction, -frD_def, permL]
    by_cases hd : d = 1
    · rw [if_pos hd]
      refine ⟨_, _, ⟨rfl, rfl⟩, rfl, rfl, frac4 h1 h2 ?_⟩
      exact fin
    · rw [if_neg hd]
      refine frac4 h1 h2 ?_
      exact fin
  | add c =>
    simp [L.add, I_add, -frD_def, permL]
    by_cases hd : d = 1
    · rw [if_pos hd]
      refine ⟨_, _, ⟨rfl, rfl⟩, rfl, rfl, op_mk c ?_⟩
      exact fin
    · rw [if_neg hd]
      refine op_mk c ?_
      exact fin
  | subtract c =>
    simp [L.subtract, I_subtract, -frD_def, permL]
    by_cases hd : d = 1
    · rw [if_pos hd]
      refine ⟨_, _, ⟨rfl, rfl⟩, rfl, rfl, op_mk c ?_⟩
      exact fin
    · rw [if_neg hd]
      refine op_mk c ?_
      exact fin
  | multiply c =>
    simp [L.multiply, I_multiply, -frD_def, permL]
    by_cases hd : d = 1
    · rw [if_pos hd]
      refine ⟨_, _, ⟨rfl, rfl⟩, rfl, rfl, op_mk c ?_⟩
      exact fin
    · rw [if_neg hd]
      refine op_mk c ?_
      exact fin
  | divide hx c =>
    simp [L.divide, I_divide, -frD_def, permL]
    by_cases hd : d = 1
    · rw [if_pos hd]
      refine ⟨_, _, ⟨rfl, rfl⟩, rfl, rfl, div_mk hx c ?_⟩
      exact fin
    · rw [if_neg hd]
      refine div_mk hx c ?_
      exact fin
  | zero =>
    simp [L.divide, I_divide, -frD_def, permL]
    by_cases hd : d = 1
    · rw [if_pos hd]
      refine ⟨_, _, ⟨rfl, rfl⟩, rfl, rfl, div_zero ?_⟩
      (simp [L.zn, L.zt, L.zz]; exact fun _ _ => fin)
    · rw [if_neg hd]
      refine div_zero ?_
      (simp [L.zn, L.zt, L.zz]; exact fun _ _ => fin)
  | compare c1 c2 =>
    simp [L.compare, I_compare, -frD_def, permL]
    by_cases hd : d = 1
    · rw [if_pos hd]
      refine ⟨_, _, ⟨rfl, rfl⟩, rfl, rfl, cmp_mk c1 c2 ?_⟩
      exact fin
    · rw [if_neg hd]
      refine cmp_mk c1 c2 ?_
      exact fin
  | text c1 c2 =>
    simp [L.text, I_text, -frD_def, permL]
    by_cases hd : d = 1
    · rw [if_pos hd]
      refine ⟨_, _, ⟨rfl, rfl⟩, rfl, rfl, text_mk c1 c2 ?_⟩
      exact fin
    · rw [if_neg hd]
      refine text_mk c1 c2 ?_
      exact fin
  | bad hx hz h =>
    simp [L.read, I_read, -frD_def, permL]
    by_cases hd : d = 1
    · rw [if_pos hd]
      refine ⟨_, _, ⟨rfl, rfl⟩, rfl, rfl, read_bad (e1.ty ha hx) hz h ?_⟩
      (simp [raisedBy, L.tn, L.tt]; exact fun _ _ => fin)
    · rw [if_neg hd]
      refine read_bad (e1.ty ha hx) hz h ?_
      (simp [raisedBy, L.tn, L.tt]; exact fun _ _ => fin)
  | read hx hz h =>
    simp [L.read, I_read, -frD_def, permL]
    by_cases hd : d = 1
    · rw [if_pos hd]
      refine ⟨_, _, ⟨rfl, rfl⟩, rfl, rfl, read_mk (e1.ty ha hx) hz h ?_⟩
      exact fin
    · rw [if_neg hd]
      refine read_mk (e1.ty ha hx) hz h ?_
      exact fin
  | isf hx =>
    simp [L.isf, -frD_def, permL]
    by_cases hd : d = 1
    · rw [if_pos hd]
      exact ⟨_, _, ⟨rfl, rfl⟩, rfl, rfl, _, rfl, ext_typed e1 ha hx, fin⟩
    · rw [if_neg hd]
      exact ⟨ext_typed e1 ha hx, fin⟩
end DL.K00

set_option Elab.async false
set_option linter.all false
set_option maxRecDepth 100000
set_option maxHeartbeats 4000000
namespace DL.K00
open PySem PySem.Spec PyProof.Rows L2 DL TL
/-! ### which texts are fractions -/
theorem numL_head : ∀ {n : Nat}, 0 < n → (numL n)[0]? ≠ some 48 := by
  intro n
  induction n using Nat.strongRecOn with
  | _ n ih =>
    intro hn
    by_cases h : n < 10
    · rw [numL_lt h]; simp; omega
    · rw [numL_step (by omega), List.getElem?_append_left (List.length_pos_iff.mpr (numL_ne _))]
      exact ih (n / 10) (by omega) (by omega)
theorem numL_dig (n : Nat) : (numL n).all dig = true := List.all_eq_true.mpr fun c hc => dig_iff.mpr (numL_digits n c hc)
theorem numL_45 (n : Nat) : ¬ (numL n).take 1 = [45] := fun h => by
  have hm : 45 ∈ (numL n).take 1 := by rw [h]; simp
  have := numL_digits n 45 (List.mem_of_mem_take hm)
  omega
theorem dec_numL {n : Nat} (h : n.log2 < 900) : decL (numL n) 1000 = true := by
  have h1 := numL_len300 h
  have h2 := List.length_pos_iff.mpr (numL_ne n)
  rw [decL_eq, if_neg (numL_45 n)]
  unfold decB
  rw [numL_dig]
  simp only [Bool.and_eq_true, Bool.or_eq_true, decide_eq_true_eq]
  refine ⟨⟨⟨by omega, by omega⟩, trivial⟩, ?_⟩
  by_cases h0 : n = 0
  · right; rw [h0]; rfl
  · left; exact numL_head (by omega)
theorem dec_numZ {i : Int} (h : i.natAbs.log2 < 900) : decL (numZ i) 1000 = true := by
  unfold numZ
  by_cases hi : i < 0
  · rw [if_pos hi]
    have h1 := numL_len300 h
    have h2 := List.length_pos_iff.mpr (numL_ne i.natAbs)
    rw [decL_eq, if_pos (by simp)]
    unfold decB
    simp only [List.drop_succ_cons, List.drop_zero, numL_dig, Bool.and_eq_true, Bool.or_eq_true, decide_eq_true_eq]
    exact ⟨⟨⟨by omega, by omega⟩, trivial⟩, .inl (numL_head (by omega))⟩
  · rw [if_neg hi]; exact dec_numL h
theorem val_numZ (i : Int) : valZ (numZ i) = i := by
  unfold valZ numZ
  by_cases hi : i < 0
  · rw [if_pos hi, if_pos (by simp)]
    simp only [List.drop_succ_cons, List.drop_zero, numL_val]
    omega
  · rw [if_neg hi, if_neg (numL_45 _), numL_val]
    omega
theorem numZ_47 (i : Int) : 47 ∉ numZ i := by
  unfold numZ
  split
  · intro h
    rcases List.mem_cons.mp h with h | h
    · cases h
    · exact numL_free (by omega) h
  · exact numL_free (by omega)
theorem numZ_pos {y : Int} (h : 0 < y) : numZ y = numL y.natAbs := by unfold numZ; rw [if_neg (by omega)]
theorem parse_frL {x y : Int} (hx : x.natAbs.log2 < 900) (hy : y.natAbs.log2 < 900) (h0 : 0 < y) (hg : Int.gcd x y = 1) : parseD (frL (x, y)) = frD (x, y) := by
  unfold frL
  by_cases h1 : y = 1
  · rw [if_pos h1, parse_one (numZ_47 x)]
    unfold parse1
    rw [if_pos (dec_numZ hx), val_numZ, h1]
  · rw [if_neg h1, parse_two (numZ_47 x)]
    unfold parse2
    have hf : isFr (frD (valZ (numZ x), valZ (numZ y))) = true := by
      rw [val_numZ, val_numZ]
      show (decide (0 < y) && decide (((x.natAbs.gcd y.natAbs : Nat) : Int) = 1)) = true
      have : x.natAbs.gcd y.natAbs = 1 := hg
      simp [h0, this]
    rw [if_pos ⟨dec_numZ hx, dec_numZ hy, by rw [numZ_pos h0]; intro e; exact numL_45 _ (by
      cases hl : numL y.natAbs with
      | nil => rw [hl] at e; cases e
      | cons c cs => rw [hl] at e; simp at e; rw [e]; rfl), by rw [val_numZ]; omega, hf⟩, val_numZ, val_numZ]
/-- what stands ahead of the first stroke -/
def above (cs : List Nat) : List Nat := match cut47 cs with
  | none => cs
  | some p => p.1
theorem parse_above {cs : List Nat} (h : decL (above cs) 1000 = false) : parseD cs = .non := by
  unfold parseD above at *
  cases e : cut47 cs with
  | none =>
    rw [e] at h
    show parse1 cs = .non
    unfold parse1
    rw [if_neg (by rw [show decL cs 1000 = false from h]; exact Bool.false_ne_true)]
  | some p =>
    rw [e] at h
    show parse2 p.1 p.2 = .non
    unfold parse2
    rw [if_neg (by rintro ⟨z, _⟩; rw [show decL p.1 1000 = false from h] at z; cases z)]
theorem parse_below {a b : List Nat} (ha : 47 ∉ a) (h : decL b 1000 = false) : parseD (a ++ 47 :: b) = .non := by
  rw [parse_two ha]
  unfold parse2
  rw [if_neg (by rintro ⟨_, z, _⟩; rw [h] at z; cases z)]
theorem above_cons {c : Nat} {cs : List Nat} (h : c ≠ 47) : above (c :: cs) = c :: above cs := by
  unfold above
  have e : cut47 (c :: cs) = (cut47 cs).map fun p => (c :: p.1, p.2) := by
    conv => lhs; unfold cut47
    rw [if_neg h]
  rw [e]
  cases cut47 cs <;> rfl
/-- a sign that no decimal has, behind the first place -/
theorem dec_bad {cs : List Nat} {c : Nat} (hc : c ∈ cs.drop 1) (hd : dig c = false) : decL cs 1000 = false := by
  unfold decL
  have h1 : (if cs.take 1 = [45] then cs.drop 1 else cs).all dig = false := by
    rw [List.all_eq_false]
    refine ⟨c, ?_, by rw [hd]; exact Bool.false_ne_true⟩
    split
    · exact hc
    · exact List.mem_of_mem_drop hc
  simp only [h1, Bool.and_false, Bool.false_and]
theorem dec_bad0 {cs : List Nat} {c : Nat} (h45 : c ≠ 45) (hd : dig c = false) : decL (c :: cs) 1000 = false := by
  rw [decL_eq, if_neg (by simp [h45])]
  unfold decB
  simp [hd]
theorem numZ_ne (i : Int) : numZ i ≠ [] := by
  unfold numZ
  split
  · exact fun h => by cases h
  · exact numL_ne _
theorem above_frL (x y : Int) : above (frL (x, y)) = numZ x := by
  unfold above frL
  by_cases h : y = 1
  · rw [if_pos h, cut_none (numZ_47 x)]
  · rw [if_neg h, cut_app (numZ_47 x)]
theorem bad_head {c : Nat} {x y : Int} (h45 : c ≠ 45) (h47 : c ≠ 47) (hd : dig c = false) : parseD (c :: frL (x, y)) = .non := parse_above (by rw [above_cons h47, above_frL]; exact dec_bad0 h45 hd)
theorem bad_zero {x y : Int} : parseD (48 :: frL (x, y)) = .non := parse_above (by
  rw [above_cons (by decide), above_frL, decL_eq, if_neg (by simp)]
  unfold decB
  have := numZ_ne x
  simp [this])
theorem bad_minus {x y : Int} : parseD (45 :: 45 :: frL (x, y)) = .non := parse_above (by
  rw [above_cons (by decide), above_cons (by decide), above_frL]
  exact dec_bad (c := 45) (by simp) rfl)
theorem bad_stroke {cs : List Nat} : parseD (47 :: cs) = .non := parse_above (by
  have : above (47 :: cs) = [] := by unfold above cut47; simp
  rw [this]; rfl)
theorem bad_tail {x y : Int} {s : List Nat} {c : Nat} (hc : c ∈ s) (hd : dig c = false) (h : parseD (numZ x ++ s) = .non) : parseD (frL (x, y) ++ s) = .non := by
  unfold frL
  by_cases h1 : y = 1
  · rw [if_pos h1]; exact h
  · rw [if_neg h1, List.append_assoc, List.cons_append]
    refine parse_below (numZ_47 x) (dec_bad (c := c) ?_ hd)
    cases e : numZ y with
    | nil => exact absurd e (numZ_ne y)
    | cons d ds => simp [hc]
theorem bad_space {x y : Int} : parseD (frL (x, y) ++ [32]) = .non := bad_tail (c := 32) (by simp) rfl (by
  rw [parse_one (by simp [numZ_47])]
  unfold parse1
  rw [if_neg]
  rw [dec_bad (c := 32) ?_ rfl]
  · exact Bool.false_ne_true
  · cases e : numZ x with
    | nil => exact absurd e (numZ_ne x)
    | cons d ds => simp)
theorem bad_below {x y : Int} {b : List Nat} (h : ¬ (1 < valZ b)) : parseD (frL (x, y) ++ 47 :: b) = .non := bad_tail (c := 47) (by simp) rfl (by
  rw [parse_two (numZ_47 x)]
  unfold parse2
  rw [if_neg (by rintro ⟨_, _, _, z, _⟩; exact h z)])
theorem bad_double {x y : Int} (h0 : 0 < y) (hg : Int.gcd x y = 1) : parseD (numZ (2 * x) ++ 47 :: numZ (2 * y)) = .non := by
  rw [parse_two (numZ_47 _)]
  unfold parse2
  rw [if_neg]
  rintro ⟨_, _, _, _, hf⟩
  rw [val_numZ, val_numZ] at hf
  have hf' : (decide (0 < 2 * y) && decide ((((2 * x).natAbs.gcd (2 * y).natAbs : Nat) : Int) = 1)) = true := hf
  have e : (2 * x).natAbs.gcd (2 * y).natAbs = 2 * (x.natAbs.gcd y.natAbs) := by
    rw [Int.natAbs_mul, Int.natAbs_mul]
    exact Nat.gcd_mul_left 2 _ _
  have h1 : x.natAbs.gcd y.natAbs = 1 := hg
  rw [e, h1] at hf'
  simp at hf'
theorem bad_lits : ∀ s ∈ ["", "-0", "1/-2", "00", "1.5", "1/02", "x", "3//4", "-", "1 /2", "2/4", "0/3", "1/2/3"], parseD (tl (Str.ofString s)) = .non ∧ (Str.ofString s).length ≤ 600 := by
  intro s hs
  simp only [List.mem_cons, List.not_mem_nil, or_false] at hs
  rcases hs with rfl | rfl | rfl | rfl | rfl | rfl | rfl | rfl | rfl | rfl | rfl | rfl | rfl <;> exact ⟨by rfl, by decide +kernel⟩
end DL.K00

set_option Elab.async false
set_option linter.all false
set_option maxRecDepth 100000
set_option maxHeartbeats 4000000
namespace DL.K00
open PySem PySem.Spec PyProof.Rows L2 DL TL
/-! ### the law's checks -/
theorem caught_at {a : Addr} {l : List D} {B : Int} {w : String} {x y r : D} {G : DH} {Q : QD} {E : ED} (ha : G a = some (.lst l)) (hb : BoxOk B l) (hB : B < 900000000) (hc : Caught G w x y r) (k : ∀ l' G', BoxOk (B + 1) l' → Ext a l' G G' → Q r G') :
    S_caught [.ref a, .str (Str.ofString w), x, y] G Q E := ⟨a, l, B, w, x, y, r, rfl, ha, hb, hB, hc, k⟩
theorem same_at {n : Nat} {x y : D} {G : DH} {Q : QD} {E : ED} (h : same n G x y) (q : Q (.bl true) G) : S_same n [x, y] G Q E := ⟨x, y, rfl, h, q⟩
@[simp] def I_caught : FI := ⟨["box", "word", "one", "other"], S_caught, []⟩
@[simp] def I_ladd : FI := ⟨["one", "other"], S_op cAdd oAdd, []⟩
@[simp] def I_lless : FI := ⟨["one", "other"], S_op cAdd oSub, []⟩
@[simp] def I_lmul : FI := ⟨["one", "other"], S_op cMul oMul, []⟩
@[simp] def I_ldiv : FI := ⟨["one", "other"], S_op cDiv oDiv, []⟩
/-- plain data, no lists of ours -/
inductive Pl : Nat → D → Prop
  | non {n : Nat} : Pl (n + 1) .non
  | bl {n : Nat} {b : Bool} : Pl (n + 1) (.bl b)
  | int {n : Nat} {i : Int} : Pl (n + 1) (.int i)
  | str {n : Nat} {s : Str} : s.length ≤ 600 → Pl (n + 1) (.str s)
  | tup {n : Nat} {ds : List D} : ds.length ≤ 1000 → (∀ d ∈ ds, Pl n d) → Pl (n + 1) (.tup ds)
theorem Pl.same {G : DH} : ∀ {n : Nat} {x : D}, Pl n x → K00.same n G x x
  | _, _, .non => rfl
  | _, _, .bl => rfl
  | _, _, .int => rfl
  | _, _, .str h => ⟨rfl, h⟩
  | _, _, .tup h k => ⟨_, rfl, rfl, h, fun i x y hx hy => by
      rw [hx] at hy; cases hy
      exact Pl.same (k _ (List.mem_of_getElem? hx))⟩
theorem Pl.two {n : Nat} {x y : D} (h : Pl n x) (h' : Pl n y) : Pl (n + 1) (.tup [x, y]) := .tup (by simp) fun d hd => by
  simp at hd
  rcases hd with rfl | rfl
  · exact h
  · exact h'
theorem pl_pair {w : String} {x : D} (hw : (Str.ofString w).length ≤ 600) (h : Pl 3 x) : Pl 4 (pairD w x) := Pl.two (.str hw) h
theorem pl_fr {p : Int × Int} : Pl 3 (frD p) := Pl.two .int .int
theorem ix_fr0 {p : Int × Int} {G : DH} {Q : QD} : ixD (frD p) (.int 0) G Q = Q (.int p.1) G := by simp [frD]
theorem ix_fr1 {p : Int × Int} {G : DH} {Q : QD} : ixD (frD p) (.int 1) G Q = Q (.int p.2) G := by simp [frD]
theorem op_at {c : Int → Int → Int → Int → Prop} {o : Int → Int → Int → Int → Int × Int} {p q : Int × Int} {G : DH} {Q : QD} {E : ED} : S_op c o [frD p, frD q] G Q E ↔ c p.1 p.2 q.1 q.2 ∧ Q (frD (o p.1 p.2 q.1 q.2)) G := by
  constructor
  · rintro ⟨a, b, x, y, e, h⟩
    injection e with e1 e2
    injection e2 with e2 _
    have h1 := frD_inj e1
    have h2 := frD_inj e2
    rw [h1, h2]
    exact h
  · exact fun h => ⟨p.1, p.2, q.1, q.2, rfl, h⟩
structure Lib2 (Γ : GE) : Prop where
  take : Γ.fn "_law_take" = some I_take
  caught : Γ.fn "_law_caught" = some I_caught
  same : Γ.fn "_law_same" = some (I_same 4)
  ladd : Γ.fn "_law_add" = some I_ladd
  lless : Γ.fn "_law_less" = some I_lless
  lmul : Γ.fn "_law_mul" = some I_lmul
  ldiv : Γ.fn "_law_div" = some I_ldiv
/-- two fractions of a size -/
def Fr (p : Int × Int) : Prop := Sz 90 p.1 ∧ 0 < p.2 ∧ Sz 90 p.2 ∧ Int.gcd p.1 p.2 = 1
def S_pairs : DSp := fun ds G Q _ => ∃ (a : Addr) (l : List D) (B : Int) (p q : Int × Int), ds = [.ref a, frD p, frD q] ∧ G a = some (.lst l) ∧ BoxOk B l ∧ B < 800000000 ∧ Fr p ∧ Fr q ∧ ∀ l' G', BoxOk (B + 5) l' → Ext a l' G G' → Q (.bl true) G'
theorem run_pairs {Γ : GE} (L : Lib2 Γ) {ds : List D} {G : DH} {Q : QD} {E : ED} (hl : ds.length = 3) (h : S_pairs ds G Q E) : Runs Γ m_f_law_pairs_right 7 ds G Q E := by
  obtain ⟨a, l, B, ⟨x, y⟩, ⟨z, w⟩, rfl, ha, hb, hB, ⟨f1, f2, f3, f4⟩, ⟨g1, g2, g3, g4⟩, q⟩ := h
  simp only at f1 f2 f3 f4 g1 g2 g3 g4
  have m1 : IntMulOk x w := mul_ok f1 g3 (by decide)
  have m2 : IntMulOk z y := mul_ok g1 f3 (by decide)
  have m3 : IntMulOk y w := mul_ok f3 g3 (by decide)
  have m4 : IntMulOk x z := mul_ok f1 g1 (by decide)
  have m5 : IntMulOk y z := mul_ok f3 g1 (by decide)
  have n1 : y * w ≠ 0 := Int.mul_ne_zero (by omega) (by omega)
  have s1 : Sm (y * w) := Nat.lt_trans ((f3.mul g3).log (by decide)) (by decide)
  have cA : cAdd x y z w := ⟨⟨m1, m2, m3⟩, n1, s1⟩
  have cM : cMul x y z w := ⟨⟨m4, m3⟩, n1, s1⟩
  unfold Runs m_f_law_pairs_right
  simp [startD, dEnds, List.replicate, L.caught, L.same, L.ladd, L.lless, L.lmul, L.ldiv, m1, m2, -frD_def, ix_fr0, ix_fr1, op_at, cA, cM]
  intro p hp p1 hp1
  have hpp : p ≠ p1 := fun e => by rw [← e, put_same] at hp1; cases hp1
  have hpa : p ≠ a := Ne.symm (ne_free ha hp)
  have hs : sqAt (put (put G p (.lst [.int (x * w), .int (z * y)])) p1 (.lst [.tup [.str (Str.ofString "add"), frD (oAdd x y z w)], .tup [.str (Str.ofString "subtract"), frD (oSub x y z w)], .tup [.str (Str.ofString "multiply"), frD (oMul x y z w)]])) p = some [.int (x * w), .int (z * y)] :=
    sqAt_some.mpr (by rw [put_ne hpp, put_same])
  simp [hs, -frD_def]
  refine ⟨by rw [sizeLine_eq]; decide, ?_⟩
  generalize hdues : [DL.D.tup [DL.D.str (Str.ofString "add"), frD (oAdd x y z w)], DL.D.tup [DL.D.str (Str.ofString "subtract"), frD (oSub x y z w)], DL.D.tup [DL.D.str (Str.ofString "multiply"), frD (oMul x y z w)],
    DL.D.tup [DL.D.str (Str.ofString "compare"), DL.D.int ((if z * y < x * w then 1 else 0) - if x * w < z * y then 1 else 0)]] = dues
  have hP : ∀ d ∈ dues, ∃ wd due, d = .tup [.str (Str.ofString wd), due] ∧ Pl 3 due ∧ ∀ G', Caught G' wd (frD (x, y)) (frD (z, w)) (pairD "told" due) := by
    intro d hd
    rw [← hdues] at hd
    simp only [List.mem_cons, List.not_mem_nil, or_false] at hd
    rcases hd with rfl | rfl | rfl | rfl
    · exact ⟨"add", _, rfl, pl_fr, fun G' => .add cA⟩
    · exact ⟨"subtract", _, rfl, pl_fr, fun G' => .subtract cA⟩
    · exact ⟨"multiply", _, rfl, pl_fr, fun G' => .multiply cM⟩
    · exact ⟨"compare", _, rfl, .int, fun G' => .compare m1 m2⟩
  have hlen : dues.length = 4 := by rw [← hdues]; rfl
  have hp1a : p1 ≠ a := fun e => by
    have h2 : put G p (.lst [.int (x * w), .int (z * y)]) a = some (.lst l) := by rw [put_ne (Ne.symm hpa)]; exact ha
    rw [e, h2] at hp1; cases hp1
  have e0 : Ext a l G (put (put G p (.lst [.int (x * w), .int (z * y)])) p1 (.lst dues)) := ((Ext.same ha).new hp).new hp1
  generalize hG0 : put (put G p (.lst [.int (x * w), .int (z * y)])) p1 (.lst dues) = G0 at *
  have hd0 : G0 p1 = some (.lst dues) := by rw [← hG0, put_same]
  refine for_rule (fun i σ G' => ∃ l' s5 s6, BoxOk (B + i) l' ∧ Ext a l' G0 G' ∧ σ = [some (.ref a), some (frD (x, y)), some (frD (z, w)), some (.ref p), some (.ref p1), s5, s6]) ⟨l, none, none, by simpa using hb, ⟨e0.1, fun _ _ _ e => e⟩, rfl⟩
    (fun i σ G' hi ⟨l', s5, s6, b, e, _⟩ => srcOk_one (sqAt_some.mpr (e.2 p1 _ hp1a hd0))) ?_ ?_
  · rintro i d σ G' Kn hi ⟨l', s5, s6, b, e, rfl⟩ hK
    obtain ⟨wd, due, rfl, hpl, hc⟩ := hP d (List.mem_of_getElem? hi)
    have hi4 : i < 4 := by
      have := (List.getElem?_eq_some_iff.mp hi).1
      omega
    simp [st, gt, -frD_def]
    refine caught_at e.1 b (by omega) (hc G') fun l2 G2 b2 e2 => ?_
    exact same_at (pl_pair (by decide +kernel) hpl).same (by simpa using hK _ G2 ⟨l2, some due, some (.str (Str.ofString wd)), by rw [Int.natCast_add]; exact (by simpa [Int.add_assoc] using b2), e.trans e2, rfl⟩)
  · rintro σ G' ⟨l', s5, s6, b, e, rfl⟩
    rw [hlen] at b
    by_cases hz : z = 0
    · subst hz
      simp [st, gt, -frD_def, ix_fr0]
      refine caught_at e.1 b (by omega) .zero fun l2 G2 b2 e2 => ?_
      exact same_at (pl_pair (by decide +kernel) .non).same ⟨G2, .refl, q l2 G2 (by simpa [Int.add_assoc] using b2) ((e0.trans e).trans e2)⟩
    · have cD : cDiv x y z w := ⟨⟨m1, m5⟩, Int.mul_ne_zero (by omega) hz, Nat.lt_trans ((f3.mul g1).log (by decide)) (by decide)⟩
      simp [st, gt, -frD_def, ix_fr0, hz, L.ldiv, op_at, cD]
      refine caught_at e.1 b (by omega) (.divide hz cD) fun l2 G2 b2 e2 => ?_
      exact same_at (pl_pair (by decide +kernel) pl_fr).same ⟨G2, .refl, q l2 G2 (by simpa [Int.add_assoc] using b2) ((e0.trans e).trans e2)⟩
/-! ### texts -/
@[simp] def I_ltext : FI := ⟨["one"], S_ltext, []⟩
@[simp] def I_very : FI := ⟨["told", "word", "value"], S_very, []⟩
theorem ltext_at {p : Int × Int} {G : DH} {Q : QD} {E : ED} : S_ltext [frD p] G Q E ↔ p.1.natAbs.log2 < 900 ∧ p.2.natAbs.log2 < 900 ∧ Q (.str (frText p)) G := by
  constructor
  · rintro ⟨a, b, e, h⟩
    injection e with e1 _
    have h1 := frD_inj e1
    rw [h1]
    exact h
  · exact fun h => ⟨p.1, p.2, rfl, h⟩
structure Lib3 (Γ : GE) : Prop extends Lib2 Γ where
  ltext : Γ.fn "_law_text" = some I_ltext
  ldig : Γ.fn "_law_digits" = some I_digits
  very : Γ.fn "_law_very" = some I_very
def S_texts : DSp := fun ds G Q _ => ∃ (a : Addr) (l : List D) (B : Int) (p : Int × Int), ds = [.ref a, frD p] ∧ G a = some (.lst l) ∧ BoxOk B l ∧ B < 800000000 ∧ Fr p ∧ ∀ l' G', BoxOk (B + 40) l' → Ext a l' G G' → Q (.bl true) G'
end DL.K00

set_option Elab.async false
set_option linter.all false
set_option maxRecDepth 100000
set_option maxHeartbeats 4000000
namespace DL.K00
open PySem PySem.Spec PyProof.Rows L2 DL TL
theorem numZ_len40 {i : Int} (h : i.natAbs.log2 < 100) : (numZ i).length ≤ 41 := by
  have h1 : (numL i.natAbs).length ≤ 40 := numL_len (by decide) (by
    have h1 : i.natAbs < 2 ^ 100 := by
      by_cases h0 : i.natAbs = 0
      · rw [h0]; decide
      · exact (Nat.log2_lt h0).mp h
    exact Nat.lt_trans h1 (by decide))
  unfold numZ
  split
  · rw [List.length_cons]; omega
  · omega
theorem frText_len {x y : Int} (hx : x.natAbs.log2 < 100) (hy : y.natAbs.log2 < 100) : (frText (x, y)).length ≤ 590 := by
  have h1 := numZ_len40 hx
  have h2 := numZ_len40 hy
  rw [len_tl, tl_frText]
  unfold frL
  split
  · simp only; omega
  · simp only [List.length_append, List.length_cons]; omega
theorem very_at {w : Str} {x y : D} {t : Ty} {G : DH} {Q : QD} {E : ED} (ht : tyD G y = some t) (h1 : t = .dict → tyD G x = some .dict) (h2 : t ≠ .dict → same 4 G x y) (q : Q (.bl true) G) : S_very [.tup [.str w, x], .str w, y] G Q E := ⟨w, w, x, y, t, rfl, rfl, ht, h1, h2, q⟩
/-- a value that is no text of a fraction -/
inductive BadV (G : DH) (a : Addr) : D → Prop
  | str {z : Str} : z.length ≤ 600 → parseD (tl z) = .non → BadV G a (.str z)
  | pl {v : D} {t : Ty} : Pl 4 v → tyD G v = some t → t ≠ .list → t ≠ .dict → readD v = .non → (∀ z, v ≠ .str z) → BadV G a v
  | lst {b : Addr} {xs : List D} : b ≠ a → G b = some (.lst xs) → xs.length ≤ 1000 → (∀ d ∈ xs, Pl 3 d) → BadV G a (.ref b)
  | dct {b : Addr} {kvs : List (Key × D)} : b ≠ a → G b = some (.dct kvs) → BadV G a (.ref b)
theorem run_texts {Γ : GE} (L : Lib3 Γ) {ds : List D} {G : DH} {Q : QD} {E : ED} (hl : ds.length = 2) (h : S_texts ds G Q E) : Runs Γ m_f_law_texts_right 8 ds G Q E := by
  obtain ⟨a, l, B, ⟨x, y⟩, rfl, ha, hb, hB, ⟨f1, f2, f3, f4⟩, q⟩ := h
  simp only at f1 f2 f3 f4
  have x9 : x.natAbs.log2 < 900 := Nat.lt_trans (f1.log (by decide)) (by decide)
  have y9 : y.natAbs.log2 < 900 := Nat.lt_trans (f3.log (by decide)) (by decide)
  have x2 : (2 * x).natAbs.log2 < 900 := Nat.lt_trans ((Sz.mul (m := 2) (x := 2) (by unfold Sz; decide) f1).log (by decide)) (by decide)
  have y2 : (2 * y).natAbs.log2 < 900 := Nat.lt_trans ((Sz.mul (m := 2) (x := 2) (by unfold Sz; decide) f3).log (by decide)) (by decide)
  have tl0 : (frText (x, y)).length ≤ 590 := frText_len (Nat.lt_trans (f1.log (by decide)) (by decide)) (Nat.lt_trans (f3.log (by decide)) (by decide))
  have k1 : IntMulOk 2 x := .of_left (intBits_le_64 (by decide) (by decide))
  have k2 : IntMulOk 2 y := .of_left (intBits_le_64 (by decide) (by decide))
  have d1 : (intS (2 * x)).length ≤ 41 := by rw [len_tl, tl_intS]; exact numZ_len40 (Nat.lt_trans ((Sz.mul (m := 2) (x := 2) (by unfold Sz; decide) f1).log (by decide)) (by decide))
  have d2 : (intS (2 * y)).length ≤ 41 := by rw [len_tl, tl_intS]; exact numZ_len40 (Nat.lt_trans ((Sz.mul (m := 2) (x := 2) (by unfold Sz; decide) f3).log (by decide)) (by decide))
  have hsz := sizeLine_eq
  have c0 : (Str.ofString " ").length = 1 := by decide +kernel
  have c1 : (Str.ofString "+").length = 1 := by decide +kernel
  have c2 : (Str.ofString "0").length = 1 := by decide +kernel
  have c3 : (Str.ofString "/1").length = 2 := by decide +kernel
  have c4 : (Str.ofString "/").length = 1 := by decide +kernel
  have c5 : (Str.ofString "/0").length = 2 := by decide +kernel
  have c6 : (Str.ofString "--").length = 2 := by decide +kernel
  have dd : (intS (2 * x) ++ Str.ofString "/").length ≤ 302 := by rw [len_tl, tl_append, List.length_append, ← len_tl, ← len_tl, c4]; omega
  unfold Runs m_f_law_texts_right
  simp [startD, dEnds, List.replicate, L.caught, L.same, L.ltext, L.ldig, L.very, -frD_def, ltext_at, x9, y9]
  refine caught_at ha hb (by omega) (.text x9 y9) fun l1 G1 b1 e1 => ?_
  refine same_at (pl_pair (by decide +kernel) (.str (by omega))).same ?_
  simp [-frD_def]
  refine caught_at e1.1 b1 (by omega) (.read (t := .str) rfl (fun z e => by cases e; omega) (show parseD (frL (x, y)) = frD (x, y) from parse_frL x9 y9 f2 f4)) fun l2 G2 b2 e2 => ?_
  refine same_at (pl_pair (by decide +kernel) pl_fr).same ?_
  simp [-frD_def, ix_fr0, ix_fr1, k1, k2, x2, y2, c0, c1, c2, c3, c4, c5, c6]
  generalize hbad1 : [D.str (Str.ofString ""), D.str (Str.ofString " " ++ frText (x, y)), D.str (frText (x, y) ++ Str.ofString " "), D.str (Str.ofString "+" ++ frText (x, y)), D.str (Str.ofString "0" ++ frText (x, y)),
    D.str (frText (x, y) ++ Str.ofString "/1"), D.str (frText (x, y) ++ Str.ofString "/"), D.str (Str.ofString "/" ++ frText (x, y)), D.str (intS (2 * x) ++ Str.ofString "/" ++ intS (2 * y)), D.str (frText (x, y) ++ Str.ofString "/0"),
    D.str (Str.ofString "--" ++ frText (x, y)), D.str (Str.ofString "-0"), D.str (Str.ofString "1/-2"), D.str (Str.ofString "00")] = bad1
  refine ⟨by omega, by omega, by omega, by omega, by omega, by omega, by omega, by omega, by omega, by omega, fun p hp p1 hp1 p2 hp2 p3 hp3 => ?_⟩
  generalize hbad2 : [D.str (Str.ofString "1.5"), D.str (Str.ofString "1/02"), D.str (Str.ofString "x"), D.str (Str.ofString "3//4"), D.str (Str.ofString "-"), D.str (Str.ofString "1 /2"), D.str (Str.ofString "2/4"), D.str (Str.ofString "0/3"),
    D.str (Str.ofString "1/2/3"), D.non, D.int 0, D.int 1, D.tup [D.str (Str.ofString "1")], D.ref p1, D.ref p2, D.bl true] = bad2
  have u1 : Sub (put G2 p (.lst bad1)) (put (put G2 p (.lst bad1)) p1 (.lst [.str (frText (x, y))])) := .put hp1
  have u2 : Sub (put (put G2 p (.lst bad1)) p1 (.lst [.str (frText (x, y))])) (put (put (put G2 p (.lst bad1)) p1 (.lst [.str (frText (x, y))])) p2 (.dct [])) := .put hp2
  have u3 : Sub (put (put (put G2 p (.lst bad1)) p1 (.lst [.str (frText (x, y))])) p2 (.dct [])) (put (put (put (put G2 p (.lst bad1)) p1 (.lst [.str (frText (x, y))])) p2 (.dct [])) p3 (.lst bad2)) := .put hp3
  have v0 := u3 _ _ (u2 _ _ (u1 p _ put_same))
  have v1 := u3 _ _ (u2 p1 _ put_same)
  have v2 := u3 p2 _ put_same
  have v3 : put (put (put (put G2 p (.lst bad1)) p1 (.lst [.str (frText (x, y))])) p2 (.dct [])) p3 (.lst bad2) p3 = some (.lst bad2) := put_same
  have ex : Ext a l2 G (put (put (put (put G2 p (.lst bad1)) p1 (.lst [.str (frText (x, y))])) p2 (.dct [])) p3 (.lst bad2)) := ((((e1.trans e2).new hp).new hp1).new hp2).new hp3
  have n1 : p1 ≠ a := Ne.symm (ne_free (((e1.trans e2).new hp).1) hp1)
  generalize put (put (put (put G2 p (.lst bad1)) p1 (.lst [.str (frText (x, y))])) p2 (.dct [])) p3 (.lst bad2) = G3 at v0 v1 v2 v3 ex ⊢
  clear u1 u2 u3 hp hp1 hp2 hp3
  have len1 : bad1.length = 14 := by rw [← hbad1]; rfl
  have len2 : bad2.length = 16 := by rw [← hbad2]; rfl
  refine ⟨bad1, v0, by omega, fun p4 hp4 => ?_⟩
  have w1 := (Sub.put (o := .lst (bad1 ++ bad2)) hp4) p1 _ v1
  have w2 := (Sub.put (o := .lst (bad1 ++ bad2)) hp4) p2 _ v2
  have w4 : put G3 p4 (.lst (bad1 ++ bad2)) p4 = some (.lst (bad1 ++ bad2)) := put_same
  have ex4 : Ext a l2 G (put G3 p4 (.lst (bad1 ++ bad2))) := ex.new hp4
  have n2 : p2 ≠ a := fun e => by rw [e, ex.1] at v2; cases v2
  have n4 : p4 ≠ a := fun e => by rw [e, ex.1] at hp4; cases hp4
  generalize put G3 p4 (.lst (bad1 ++ bad2)) = G4 at w1 w2 w4 ex4 ⊢
  have hP : ∀ d ∈ bad1 ++ bad2, BadV G4 a d := by
    have lit := fun s hs => BadV.str (G := G4) (a := a) (bad_lits s hs).2 (bad_lits s hs).1
    have tt : ∀ (A B : Str), tl (A ++ B) = tl A ++ tl B := tl_append
    have t0 : tl (Str.ofString " ") = [32] := by decide +kernel
    have t1 : tl (Str.ofString "+") = [43] := by decide +kernel
    have t3 : tl (Str.ofString "/1") = [47, 49] := by decide +kernel
    have t5 : tl (Str.ofString "/0") = [47, 48] := by decide +kernel
    have t6 : tl (Str.ofString "--") = [45, 45] := by decide +kernel
    have ll : ∀ (A B : Str), (A ++ B).length = A.length + B.length := fun A B => by rw [len_tl, len_tl, len_tl, tt, List.length_append]
    intro d hd
    rcases List.mem_append.mp hd with hd | hd
    · rw [← hbad1] at hd
      simp only [List.mem_cons, List.not_mem_nil, or_false] at hd
      rcases hd with rfl | rfl | rfl | rfl | rfl | rfl | rfl | rfl | rfl | rfl | rfl | rfl | rfl | rfl
      · exact lit "" (by simp)
      · exact .str (by rw [ll]; omega) (by rw [tt, t0, tl_frText]; exact bad_head (by decide) (by decide) rfl)
      · exact .str (by rw [ll]; omega) (by rw [tt, t0, tl_frText]; exact bad_space)
      · exact .str (by rw [ll]; omega) (by rw [tt, t1, tl_frText]; exact bad_head (by decide) (by decide) rfl)
      · exact .str (by rw [ll]; omega) (by rw [tt, tl_zero, tl_frText]; exact bad_zero)
      · exact .str (by rw [ll]; omega) (by rw [tt, t3, tl_frText]; exact bad_below (by decide))
      · exact .str (by rw [ll]; omega) (by rw [tt, tl_slash, tl_frText]; exact bad_below (by decide))
      · exact .str (by rw [ll]; omega) (by rw [tt, tl_slash, tl_frText]; exact bad_stroke)
      · exact .str (by rw [ll]; omega) (by rw [tt, tt, tl_slash, tl_intS, tl_intS, List.append_assoc]; exact bad_double f2 f4)
      · exact .str (by rw [ll]; omega) (by rw [tt, t5, tl_frText]; exact bad_below (by decide))
      · exact .str (by rw [ll]; omega) (by rw [tt, t6, tl_frText]; exact bad_minus)
      · exact lit "-0" (by simp)
      · exact lit "1/-2" (by simp)
      · exact lit "00" (by simp)
    · rw [← hbad2] at hd
      simp only [List.mem_cons, List.not_mem_nil, or_false] at hd
      rcases hd with rfl | rfl | rfl | rfl | rfl | rfl | rfl | rfl | rfl | rfl | rfl | rfl | rfl | rfl | rfl | rfl
      · exact lit "1.5" (by simp)
      · exact lit "1/02" (by simp)
      · exact lit "x" (by simp)
      · exact lit "3//4" (by simp)
      · exact lit "-" (by simp)
      · exact lit "1 /2" (by simp)
      · exact lit "2/4" (by simp)
      · exact lit "0/3" (by simp)
      · exact lit "1/2/3" (by simp)
      · exact .pl (t := .none) .non rfl (by decide) (by decide) rfl (fun z h => by cases h)
      · exact .pl (t := .int) .int rfl (by decide) (by decide) rfl (fun z h => by cases h)
      · exact .pl (t := .int) .int rfl (by decide) (by decide) rfl (fun z h => by cases h)
      · exact .pl (t := .tuple) (.tup (by simp) fun d hd => by rw [List.mem_singleton.mp hd]; exact .str (by decide +kernel)) rfl (by decide) (by decide) rfl (fun z h => by cases h)
      · exact .lst n1 w1 (by simp) fun d hd => by rw [List.mem_singleton.mp hd]; exact .str (by omega)
      · exact .dct n2 w2
      · exact .pl (t := .bool) .bl rfl (by decide) (by decide) rfl (fun z h => by cases h)
  refine for_rule (fun i σ G' => ∃ l' s6 s5 s7, BoxOk (B + 2 + i) l' ∧ Ext a l' G4 G' ∧ σ = [some (.ref a), some (frD (x, y)), some (.str (frText (x, y))), some (.str (intS (2 * x) ++ Str.ofString "/" ++ intS (2 * y))), some (.ref p4), s5, s6, s7]) ⟨l2, none, none, none, by simpa [Int.add_assoc] using b2, ⟨ex4.1, fun _ _ _ e => e⟩, rfl⟩
    (fun i σ G' hi ⟨l', s6, s5, s7, b, e, _⟩ => srcOk_one (sqAt_some.mpr (e.2 p4 _ n4 w4))) ?_ ?_
  · rintro i d σ G' Kn hi ⟨l', s6, s5, s7, b, e, rfl⟩ hK
    have hbad := hP d (List.mem_of_getElem? hi)
    have hi4 : i < 30 := by
      have := (List.getElem?_eq_some_iff.mp hi).1
      rw [List.length_append, len1, len2] at this
      exact this
    have next : ∀ l3 G5 s6', BoxOk (B + 2 + i + 1) l3 → Ext a l3 G' G5 → Kn [some (.ref a), some (frD (x, y)), some (.str (frText (x, y))), some (.str (intS (2 * x) ++ Str.ofString "/" ++ intS (2 * y))), some (.ref p4), some d, s6', s7] G5 :=
      fun l3 G5 s6' b3 e3 => hK _ _ ⟨l3, s6', some d, s7, by rw [Int.natCast_add]; simpa [Int.add_assoc] using b3, e.trans e3, rfl⟩
    cases hbad with
    | @str z hz hn =>
      simp [st, gt, -frD_def]
      refine caught_at e.1 b (by omega) (.bad (t := .str) rfl (fun z' e' => by cases e'; exact hz) hn) fun l3 G5 b3 e3 => ?_
      exact very_at (t := .str) rfl (fun h => by cases h) (fun _ => (Pl.str (n := 3) hz).same) (by simpa using next l3 G5 _ b3 e3)
    | @pl v t hv ht h1 h2 hr hs =>
      have ht' := e.ty ex4.1 ht
      simp [st, gt, -frD_def, ht', h1]
      refine caught_at e.1 b (by omega) (.bad ht' (fun z' e' => absurd e' (hs z')) hr) fun l3 G5 b3 e3 => ?_
      exact very_at (e3.ty e.1 ht') (fun h => absurd h h2) (fun _ => hv.same) (by simpa using next l3 G5 _ b3 e3)
    | @dct b0 kvs hb0 hk =>
      have hk' := e.2 b0 _ hb0 hk
      simp [st, gt, -frD_def, ty_dct hk']
      refine caught_at e.1 b (by omega) (.bad (ty_dct hk') (fun z' e' => by cases e') rfl) fun l3 G5 b3 e3 => ?_
      have hk5 := e3.2 b0 _ hb0 hk'
      exact very_at (ty_dct hk5) (fun _ => ty_dct hk5) (fun h => absurd rfl h) (by simpa using next l3 G5 _ b3 e3)
    | @lst b0 xs hb0 hk hlen hpl =>
      have hk' := e.2 b0 _ hb0 hk
      simp [st, gt, -frD_def, ty_lst hk', sqAt_some.mpr hk']
      refine ⟨by omega, lc_all id (srcOk_one (sqAt_some.mpr hk')) (fun d hd K1 K0 z => by simpa [st, gt] using z) fun p5 hp5 => ?_⟩
      rw [List.map_id]
      have e5 := e.new (o := .lst xs) hp5
      have n5 : p5 ≠ a := fun z => by rw [z, e.1] at hp5; cases hp5
      have k0 : put G' p5 (.lst xs) p5 = some (.lst xs) := put_same
      refine caught_at e5.1 b (by omega) (.bad (ty_lst k0) (fun z' e' => by cases e') rfl) fun l3 G5 b3 e3 => ?_
      have k5 := e3.2 p5 _ n5 k0
      have k6 := e3.2 b0 _ hb0 (e5.2 b0 _ hb0 hk)
      exact very_at (ty_lst k6) (fun h => by cases h) (fun _ => ⟨b0, xs, xs, rfl, k5, k6, rfl, hlen, fun i x y hx hy => by
        rw [hx] at hy; cases hy
        exact (hpl _ (List.mem_of_getElem? hx)).same⟩) (by
          have e7 : Ext a l' G' G' := Ext.same e.1
          have e6 : Ext a l3 G' G5 := (e7.new hp5).trans e3
          simpa using next l3 G5 _ b3 e6)
  · rintro σ G' ⟨l', s6, s5, s7, b, e, rfl⟩
    rw [List.length_append, len1, len2] at b
    exact ⟨G', .refl, q l' G' (b.mono (by omega)) (ex4.trans e)⟩
end DL.K00

set_option Elab.async false
set_option linter.all false
set_option maxRecDepth 100000
set_option maxHeartbeats 4000000
namespace DL.K00
open PySem PySem.Spec PyProof.Rows L2 DL TL
/-- a comprehension whose items are all left out, the heap changes -/
theorem lc_dropI {src : List (Addr × List D)} {g : D → Sg → DH → (Sg → DH → Prop) → Prop} {t : Sg → DH → (Bool → DH → Prop) → Prop} {e : Sg → DH → QD → Prop} {Q : List D → DH → Prop} {σ : Sg} {G : DH} {ds : List D} (I : Nat → DH → Prop) (h0 : I 0 G) (hs : ∀ i G', I i G' → srcOk src G')
    (step : ∀ i d G' (K1 : QD) (K0 : DH → Prop), ds[i]? = some d → I i G' → (∀ G'', I (i + 1) G'' → K0 G'') → g d σ G' fun σ1 G1 => t σ1 G1 fun b G2 => if b = true then e σ1 G2 K1 else K0 G2) (fin : ∀ G', I ds.length G' → Q [] G') : lcD src g t e Q σ ds [] G := by
  have key : ∀ (m i : Nat) (G : DH), m + i = ds.length → I i G → lcD src g t e Q σ (ds.drop i) [] G := by
    intro m
    induction m with
    | zero =>
      intro i G hm hI
      have ei : i = ds.length := by omega
      subst ei
      rw [List.drop_length]
      exact ⟨hs _ _ hI, fin G hI⟩
    | succ m ih =>
      intro i G hm hI
      have hi : i < ds.length := by omega
      rw [List.drop_eq_getElem_cons hi]
      exact ⟨hs i G hI, step i ds[i] G _ _ (by simp [hi]) hI fun G'' z => ih (i + 1) G'' (by omega) z⟩
  have := key ds.length 0 G (by omega) h0
  rwa [List.drop_zero] at this
def S_values : DSp := fun ds G Q _ => ∃ (a : Addr) (l : List D) (B : Int) (p : Int × Int), ds = [.ref a, frD p] ∧ G a = some (.lst l) ∧ BoxOk B l ∧ B < 800000000 ∧ Fr p ∧ ∀ l' G', BoxOk (B + 20) l' → Ext a l' G G' → Q (.bl true) G'
theorem run_values {Γ : GE} (L : Lib3 Γ) {ds : List D} {G : DH} {Q : QD} {E : ED} (hl : ds.length = 2) (h : S_values ds G Q E) : Runs Γ m_f_law_values_right 6 ds G Q E := by
  obtain ⟨a, l, B, ⟨x, y⟩, rfl, ha, hb, hB, ⟨f1, f2, f3, f4⟩, q⟩ := h
  simp only at f1 f2 f3 f4
  have k1 : IntMulOk 2 x := .of_left (intBits_le_64 (by decide) (by decide))
  have k2 : IntMulOk 2 y := .of_left (intBits_le_64 (by decide) (by decide))
  have hsz := sizeLine_eq
  unfold Runs m_f_law_values_right
  simp [startD, dEnds, List.replicate, L.caught, L.same, -frD_def]
  have hty : ∀ G : DH, Typed G (frD (x, y)) := fun G => ⟨⟨_, rfl⟩, fun ds e d hd => by
    cases e
    simp at hd
    rcases hd with rfl | rfl <;> exact ⟨_, rfl⟩⟩
  have hisf : isFr (frD (x, y)) = true := by
    show (decide (0 < y) && decide (((x.natAbs.gcd y.natAbs : Nat) : Int) = 1)) = true
    have : x.natAbs.gcd y.natAbs = 1 := f4
    simp [f2, this]
  refine caught_at ha hb (by omega) (.isf (hty G)) fun l1 G1 b1 e1 => ?_
  rw [hisf]
  refine same_at (pl_pair (by decide +kernel) .bl).same ?_
  simp [frD, k1, k2]
  intro p hp p1 hp1 p2 hp2 p3 hp3
  generalize hbad1 : [D.non, D.int x, D.str (Str.ofString "1"), D.tup [], D.tup [D.int x], D.ref p, D.tup [D.int (2 * x), D.int (2 * y)], D.tup [D.int x, D.int (-y)], D.tup [D.int x, D.int 0],
    D.tup [D.bl true, D.int 1], D.tup [D.int 1, D.bl true], D.tup [D.int x, D.int y, D.int 1], D.tup [D.str (Str.ofString "1"), D.int 2]] = bad1 at *
  generalize hbad2 : [D.tup [D.int 1, D.non], D.tup [D.int 0, D.int 2], D.tup [D.int 2, D.int 4], D.ref p2, D.tup [D.tup [D.int 1, D.int 1], D.int 1], D.tup [D.int (-3), D.int (-1)]] = bad2 at *
  have u1 : Sub (put G1 p (.lst [.int x, .int y])) (put (put G1 p (.lst [.int x, .int y])) p1 (.lst bad1)) := .put hp1
  have u2 : Sub (put (put G1 p (.lst [.int x, .int y])) p1 (.lst bad1)) (put (put (put G1 p (.lst [.int x, .int y])) p1 (.lst bad1)) p2 (.dct [])) := .put hp2
  have u3 : Sub (put (put (put G1 p (.lst [.int x, .int y])) p1 (.lst bad1)) p2 (.dct [])) (put (put (put (put G1 p (.lst [.int x, .int y])) p1 (.lst bad1)) p2 (.dct [])) p3 (.lst bad2)) := .put hp3
  have v0 := u3 _ _ (u2 _ _ (u1 p _ put_same))
  have v1 := u3 _ _ (u2 p1 _ put_same)
  have v2 := u3 p2 _ put_same
  have ex : Ext a l1 G (put (put (put (put G1 p (.lst [.int x, .int y])) p1 (.lst bad1)) p2 (.dct [])) p3 (.lst bad2)) := ((((e1.new hp).new hp1).new hp2).new hp3)
  have n0 : p ≠ a := Ne.symm (ne_free e1.1 hp)
  have n1 : p1 ≠ a := Ne.symm (ne_free ((e1.new hp).1) hp1)
  have n2 : p2 ≠ a := Ne.symm (ne_free (((e1.new hp).new hp1).1) hp2)
  generalize put (put (put (put G1 p (.lst [.int x, .int y])) p1 (.lst bad1)) p2 (.dct [])) p3 (.lst bad2) = G3 at v0 v1 v2 ex ⊢
  clear u1 u2 u3 hp hp1 hp2 hp3
  have len1 : bad1.length = 13 := by rw [← hbad1]; rfl
  have len2 : bad2.length = 6 := by rw [← hbad2]; rfl
  refine ⟨bad1, v1, by omega, fun p4 hp4 => ⟨by omega, ?_⟩⟩
  have w0 := (Sub.put (o := .lst (bad1 ++ bad2)) hp4) p _ v0
  have w2 := (Sub.put (o := .lst (bad1 ++ bad2)) hp4) p2 _ v2
  have w4 : put G3 p4 (.lst (bad1 ++ bad2)) p4 = some (.lst (bad1 ++ bad2)) := put_same
  have ex4 : Ext a l1 G (put G3 p4 (.lst (bad1 ++ bad2))) := ex.new hp4
  have n4 : p4 ≠ a := Ne.symm (ne_free ex.1 hp4)
  generalize put G3 p4 (.lst (bad1 ++ bad2)) = G4 at w0 w2 w4 ex4 ⊢
  have hP : ∀ d ∈ bad1 ++ bad2, Typed G4 d ∧ isFr d = false := by
    have tt : ∀ ds : List D, (∀ d ∈ ds, ∃ t, tyD G4 d = some t) → Typed G4 (.tup ds) := fun ds h => ⟨⟨_, rfl⟩, fun ds' e d hd => by cases e; exact h d hd⟩
    have tn : ∀ d t, tyD G4 d = some t → (∀ ds, d ≠ .tup ds) → Typed G4 d := fun d t h h2 => ⟨⟨t, h⟩, fun ds e => absurd e (h2 ds)⟩
    intro d hd
    rcases List.mem_append.mp hd with hd | hd
    · rw [← hbad1] at hd
      simp only [List.mem_cons, List.not_mem_nil, or_false] at hd
      rcases hd with rfl | rfl | rfl | rfl | rfl | rfl | rfl | rfl | rfl | rfl | rfl | rfl | rfl
      · exact ⟨tn _ _ rfl (fun _ h => by cases h), rfl⟩
      · exact ⟨tn _ _ rfl (fun _ h => by cases h), rfl⟩
      · exact ⟨tn _ _ rfl (fun _ h => by cases h), rfl⟩
      · exact ⟨tt _ (by simp), rfl⟩
      · exact ⟨tt _ (by simp), rfl⟩
      · exact ⟨tn _ _ (ty_lst w0) (fun _ h => by cases h), rfl⟩
      · refine ⟨tt _ (by simp), ?_⟩
        show (decide (0 < 2 * y) && decide ((((2 * x).natAbs.gcd (2 * y).natAbs : Nat) : Int) = 1)) = false
        have e : (2 * x).natAbs.gcd (2 * y).natAbs = 2 * (x.natAbs.gcd y.natAbs) := by
          rw [Int.natAbs_mul, Int.natAbs_mul]
          exact Nat.gcd_mul_left 2 _ _
        have h1 : x.natAbs.gcd y.natAbs = 1 := f4
        rw [e, h1]
        simp
      · refine ⟨tt _ (by simp), ?_⟩
        show (decide (0 < -y) && _) = false
        rw [decide_eq_false (by omega)]; rfl
      · exact ⟨tt _ (by simp), rfl⟩
      · exact ⟨tt _ (by simp), rfl⟩
      · exact ⟨tt _ (by simp), rfl⟩
      · exact ⟨tt _ (by simp), rfl⟩
      · exact ⟨tt _ (by simp), rfl⟩
    · rw [← hbad2] at hd
      simp only [List.mem_cons, List.not_mem_nil, or_false] at hd
      rcases hd with rfl | rfl | rfl | rfl | rfl | rfl
      · exact ⟨tt _ (by simp), rfl⟩
      · exact ⟨tt _ (by simp), rfl⟩
      · exact ⟨tt _ (by simp), rfl⟩
      · exact ⟨tn _ _ (ty_dct w2) (fun _ h => by cases h), rfl⟩
      · exact ⟨tt _ (by simp), rfl⟩
      · exact ⟨tt _ (by simp), rfl⟩
  refine lc_dropI (fun i G' => ∃ l', BoxOk (B + 1 + i) l' ∧ Ext a l' G4 G') ⟨l1, by simpa using b1, Ext.same ex4.1⟩ (fun i G' ⟨l', b, e⟩ => srcOk_one (sqAt_some.mpr (e.2 p4 _ n4 w4))) ?_ ?_
  · rintro i d G' K1 K0 hi ⟨l', b, e⟩ hK
    obtain ⟨ht, hf⟩ := hP d (List.mem_of_getElem? hi)
    have hi4 : i < 19 := by
      have := (List.getElem?_eq_some_iff.mp hi).1
      rw [List.length_append, len1, len2] at this
      exact this
    simp [st, gt]
    refine caught_at e.1 b (by omega) (.isf (ext_typed e ex4.1 ht)) fun l3 G5 b3 e3 => ?_
    rw [hf]
    exact same_at (pl_pair (by decide +kernel) .bl).same (by simpa using hK G5 ⟨l3, by rw [Int.natCast_add]; simpa [Int.add_assoc] using b3, e.trans e3⟩)
  · rintro G' ⟨l', b, e⟩
    rw [List.length_append, len1, len2] at b
    exact fun p5 hp5 p6 hp6 => eq_nil2 hp6 ⟨G', sub_put2 hp5 hp6, q l' G' (b.mono (by omega)) (ex4.trans e)⟩
/-! ### making -/
def S_made : DSp := fun ds G Q _ => ∃ (a : Addr) (l : List D) (B : Int), ds = [.ref a] ∧ G a = some (.lst l) ∧ BoxOk B l ∧ B < 800000000 ∧ ∀ l' G', BoxOk (B + 100) l' → Ext a l' G G' → Q (.bl true) G'
structure Lib4 (Γ : GE) : Prop extends Lib3 Γ where
  low : Γ.fn "_law_low" = some I_low
theorem low_mul {a b c : Int} (hc : 0 < c) (hb : b ≠ 0) : lowI (a * c) (b * c) = lowI a b := by
  have hg : (Int.gcd (a * c) (b * c) : Int) = (Int.gcd a b : Int) * c := by
    rw [Int.gcd_mul_right, Int.natCast_mul]
    congr 1
    omega
  have hgp : (0 : Int) < (Int.gcd a b : Int) := by
    have := Int.gcd_pos_of_ne_zero_right a hb
    omega
  have key : ∀ x g : Int, g ≠ 0 → (x * c).fdiv (g * c) = x.fdiv g := fun x g _ => Int.mul_fdiv_mul_of_pos_left x g hc
  have hneg : b * c < 0 ↔ b < 0 := by
    constructor
    · intro h
      by_cases h0 : b < 0
      · exact h0
      · have : 0 ≤ b * c := Int.mul_nonneg (by omega) (by omega)
        omega
    · intro h; exact Int.mul_neg_of_neg_of_pos h hc
  unfold lowI
  rw [hg]
  by_cases h : b < 0
  · rw [if_pos (hneg.mpr h), if_pos h, ← Int.neg_mul, key _ _ (by omega), key _ _ (by omega)]
  · rw [if_neg (fun z => h (hneg.mp z)), if_neg h, key _ _ (by omega), key _ _ (by omega)]
/-- no int -/
inductive BadN (G : DH) (a : Addr) : D → Prop
  | pl {v : D} {t : Ty} : Pl 4 v → tyD G v = some t → t ≠ .dict → isI v = false → BadN G a v
  | lst {b : Addr} {xs : List D} : b ≠ a → G b = some (.lst xs) → xs.length ≤ 1000 → (∀ d ∈ xs, Pl 3 d) → BadN G a (.ref b)
  | dct {b : Addr} {kvs : List (Key × D)} : b ≠ a → G b = some (.dct kvs) → BadN G a (.ref b)
theorem BadN.isI {G : DH} {a : Addr} {v : D} (h : BadN G a v) : K00.isI v = false := by
  cases h with
  | pl _ _ _ h => exact h
  | lst => rfl
  | dct => rfl
theorem BadN.at {G G' : DH} {a : Addr} {l l0 : List D} {v : D} (h : BadN G a v) (e : Ext a l G G') (h0 : G a = some (.lst l0)) : ∃ t, tyD G' v = some t ∧ (t = .dict → tyD G' v = some .dict) ∧ (t ≠ .dict → same 4 G' v v) := by
  cases h with
  | @pl v t h1 h2 h3 h4 => exact ⟨t, e.ty h0 h2, fun h => absurd h h3, fun _ => h1.same⟩
  | @lst b xs h1 h2 h3 h4 =>
    have h5 := e.2 b _ h1 h2
    exact ⟨.list, ty_lst h5, fun h => (by cases h), fun _ => ⟨b, xs, xs, rfl, h5, h5, rfl, h3, fun i x y hx hy => by
      rw [hx] at hy; cases hy
      exact (h4 _ (List.mem_of_getElem? hx)).same⟩⟩
  | @dct b kvs h1 h2 => exact ⟨.dict, ty_dct (e.2 b _ h1 h2), fun _ => ty_dct (e.2 b _ h1 h2), fun h => absurd rfl h⟩
theorem run_made {Γ : GE} (L : Lib4 Γ) {ds : List D} {G : DH} {Q : QD} {E : ED} (hl : ds.length = 1) (h : S_made ds G Q E) : Runs Γ m_f_law_made_right 9 ds G Q E := by
  obtain ⟨a, l, B, rfl, ha, hb, hB, q⟩ := h
  unfold Runs m_f_law_made_right
  simp [startD, dEnds, List.replicate, L.caught, L.same, L.take, L.very, L.low, -frD_def]
  refine for_rule (fun i σ G' => ∃ l' s1 s2 s3 s4 s5 s6 s7 s8, BoxOk (B + 6 * i) l' ∧ Ext a l' G G' ∧ σ = [some (.ref a), s1, s2, s3, s4, s5, s6, s7, s8]) ⟨l, none, none, none, none, none, none, none, none, by simpa using hb, Ext.same ha, rfl⟩ (fun _ _ _ _ _ => srcOk_nil) ?_ ?_
  · rintro i d σ G' Kn hi ⟨l', s1, s2, s3, s4, s5, s6, s7, s8, b, e, rfl⟩ hK
    have hi4 : i < 4 := by
      have := (List.getElem?_eq_some_iff.mp hi).1
      rwa [rangeL_length] at this
    simp [st, gt, -frD_def]
    refine ⟨by decide +kernel, fun p hp => ?_⟩
    have hpa : p ≠ a := Ne.symm (ne_free e.1 hp)
    have e0 := (Ext.same e.1).new (o := .lst [.int 5, .int 13, .int 1000, .int 100000000000000000000]) hp
    refine take_at e0.1 b (by omega) (by decide) (sm26 (by decide) (by decide)) fun d1 l1 G1 d1a d1b b1 e1 => ?_
    have hp1 := sqAt_some.mpr (e1.2 p _ hpa put_same)
    obtain ⟨w, hw, pw⟩ := pick (ns := [5, 13, 1000, 100000000000000000000]) d1a d1b
    have pw' : atI [D.int 5, D.int 13, D.int 1000, D.int 100000000000000000000] d1 = some (D.int w) := pw
    have w0 : 5 ≤ w ∧ w ≤ 100000000000000000000 := by
      simp at hw
      omega
    have k1 : IntMulOk 2 w := .of_left (intBits_le_64 (by decide) (by decide))
    simp [hp1, pw', k1, -frD_def]
    refine take_at e1.1 b1 (by omega) (by omega) (sm26 (by omega) (by omega)) fun d2 l2 G2 d2a d2b b2 e2 => ?_
    simp [k1, -frD_def]
    refine take_at e2.1 b2 (by omega) (by omega) (sm26 (by omega) (by omega)) fun d3 l3 G3 d3a d3b b3 e3 => ?_
    simp [-frD_def]
    refine take_at e3.1 b3 (by omega) (by decide) (sm26 (by decide) (by decide)) fun d4 l4 G4 d4a d4b b4 e4 => ?_
    have k2 : IntMulOk (d2 - w) (1 + d4) := .of_right (intBits_le_64 (by omega) (by omega))
    have k3 : IntMulOk (d3 - w) (1 + d4) := .of_right (intBits_le_64 (by omega) (by omega))
    have hlow := low_mul (a := d2 - w) (b := d3 - w) (c := 1 + d4) (by omega)
    simp [k2, k3, -frD_def]
    have ee : ∀ {l6 G6}, Ext a l6 G4 G6 → Ext a l6 G G6 := fun z => e.trans (e0.trans (e1.trans (e2.trans (e3.trans (e4.trans z)))))
    by_cases hb0 : d3 - w = 0
    · refine .inl ⟨hb0, ?_⟩
      refine caught_at e4.1 b4 (by omega) .number3 fun l6 G6 b6 e6 => ?_
      exact very_at (t := .int) rfl (fun h => (by cases h)) (fun _ => rfl) (by simpa using hK _ G6 ⟨l6, _, _, _, _, _, _, _, _, b6.mono (by omega), ee e6, rfl⟩)
    · refine .inr ⟨hb0, ?_⟩
      have hprod : (d3 - w) * (1 + d4) ≠ 0 := Int.mul_ne_zero hb0 (by omega)
      have hsz : Sz 90 (d3 - w) := by unfold Sz; omega
      have hsm : Sm ((d3 - w) * (1 + d4)) := Nat.lt_trans ((hsz.mul (n := 4) (y := 1 + d4) (by unfold Sz; omega)).log (by decide)) (by decide)
      refine caught_at e4.1 b4 (by omega) (.make hprod hsm) fun l5 G5 b5 e5 => ?_
      rw [hlow hb0]
      refine ⟨hb0, Nat.lt_trans (hsz.log (by decide)) (by decide), same_at (pl_pair (by decide +kernel) pl_fr).same ?_⟩
      simp [-frD_def]
      refine caught_at e5.1 b5 (by omega) .number3 fun l6 G6 b6 e6 => ?_
      exact very_at (t := .int) rfl (fun h => (by cases h)) (fun _ => rfl) (by simpa using hK _ G6 ⟨l6, _, _, _, _, _, _, _, _, b6.mono (by omega), ee (e5.trans e6), rfl⟩)
  · rintro σ G1 ⟨l1, s1, s2, s3, s4, s5, s6, s7, s8, b1, e1, rfl⟩
    rw [rangeL_length] at b1
    intro p hp p1 hp1 p2 hp2
    have n0 : p ≠ a := Ne.symm (ne_free e1.1 hp)
    have n1 : p1 ≠ a := Ne.symm (ne_free ((e1.new hp).1) hp1)
    have n2 : p2 ≠ a := Ne.symm (ne_free (((e1.new hp).new hp1).1) hp2)
    generalize hbad : [D.non, D.bl true, D.bl false, D.str (Str.ofString "1"), D.tup [D.int 1, D.int 1], D.ref p, D.ref p1, D.tup [D.int 1]] = bad at *
    have u1 : Sub (put G1 p (.lst [.int 1])) (put (put G1 p (.lst [.int 1])) p1 (.dct [])) := .put hp1
    have u2 : Sub (put (put G1 p (.lst [.int 1])) p1 (.dct [])) (put (put (put G1 p (.lst [.int 1])) p1 (.dct [])) p2 (.lst bad)) := .put hp2
    have v0 := u2 _ _ (u1 p _ put_same)
    have v1 := u2 p1 _ put_same
    have v2 : put (put (put G1 p (.lst [.int 1])) p1 (.dct [])) p2 (.lst bad) p2 = some (.lst bad) := put_same
    have ex : Ext a l1 G (put (put (put G1 p (.lst [.int 1])) p1 (.dct [])) p2 (.lst bad)) := ((e1.new hp).new hp1).new hp2
    generalize put (put (put G1 p (.lst [.int 1])) p1 (.dct [])) p2 (.lst bad) = G4 at v0 v1 v2 ex ⊢
    have hlen : bad.length = 8 := by rw [← hbad]; rfl
    have hP : ∀ d ∈ bad, BadN G4 a d := by
      intro d hd
      rw [← hbad] at hd
      simp only [List.mem_cons, List.not_mem_nil, or_false] at hd
      rcases hd with rfl | rfl | rfl | rfl | rfl | rfl | rfl | rfl
      · exact .pl (t := .none) .non rfl (by decide) rfl
      · exact .pl (t := .bool) .bl rfl (by decide) rfl
      · exact .pl (t := .bool) .bl rfl (by decide) rfl
      · exact .pl (t := .str) (.str (by decide +kernel)) rfl (by decide) rfl
      · exact .pl (t := .tuple) (Pl.two .int .int) rfl (by decide) rfl
      · exact .lst n0 v0 (by simp) fun d hd => by rw [List.mem_singleton.mp hd]; exact .int
      · exact .dct n1 v1
      · exact .pl (t := .tuple) (.tup (by simp) fun d hd => by rw [List.mem_singleton.mp hd]; exact .int) rfl (by decide) rfl
    refine for_rule (fun i σ G' => ∃ l' t2 t7 t8, BoxOk (B + 24 + 4 * i) l' ∧ Ext a l' G4 G' ∧ σ = [some (.ref a), s1, t2, s3, s4, s5, s6, t7, t8]) ⟨l1, s2, s7, s8, b1.mono (by omega), Ext.same ex.1, rfl⟩ (fun i σ G' _ ⟨l', _, _, _, b, e, _⟩ => srcOk_one (sqAt_some.mpr (e.2 p2 _ n2 v2))) ?_ ?_
    · rintro i d σ G' Kn hi ⟨l', t2, t7, t8, b, e, rfl⟩ hK
      have hbn := hP d (List.mem_of_getElem? hi)
      have hni := hbn.isI
      have hi8 : i < 8 := by
        have := (List.getElem?_eq_some_iff.mp hi).1
        rwa [hlen] at this
      simp [st, gt]
      intro q0 hq0
      have m0 : q0 ≠ a := Ne.symm (ne_free e.1 hq0)
      have ew : Ext a l' G4 (put G' q0 (.lst [.tup [d, .non], .tup [d, .int 1], .tup [d, .int 0], .tup [.int 3, d]])) := e.new hq0
      have wv : put G' q0 (.lst [.tup [d, .non], .tup [d, .int 1], .tup [d, .int 0], .tup [.int 3, d]]) q0 = some (.lst [.tup [d, .non], .tup [d, .int 1], .tup [d, .int 0], .tup [.int 3, d]]) := put_same
      generalize put G' q0 (.lst [.tup [d, .non], .tup [d, .int 1], .tup [d, .int 0], .tup [.int 3, d]]) = G6 at ew wv ⊢
      refine for_rule (fun j σ G' => ∃ l' t7 t8, BoxOk (B + 24 + 4 * i + j) l' ∧ Ext a l' G6 G' ∧ σ = [some (.ref a), s1, some d, s3, s4, s5, s6, t7, t8]) ⟨l', t7, t8, by simpa using b, Ext.same ew.1, rfl⟩ (fun j σ G' _ ⟨l', _, _, b, e, _⟩ => srcOk_one (sqAt_some.mpr (e.2 q0 _ m0 wv))) ?_ ?_
      · rintro j d' σ G7 Kn' hj ⟨l7, t7, t8, b7, e7, rfl⟩ hK'
        have hj4 : j < 4 := (List.getElem?_eq_some_iff.mp hj).1
        have e47 : Ext a l7 G4 G7 := ew.trans e7
        obtain ⟨t, ty7, _, _⟩ := hbn.at e47 ex.1
        have hc : ∃ o w, d' = .tup [o, w] ∧ Caught G7 "make" o w (pairD "number" d) := by
          have hm := List.mem_of_getElem? hj
          simp only [List.mem_cons, List.not_mem_nil, or_false] at hm
          rcases hm with rfl | rfl | rfl | rfl
          · exact ⟨_, _, rfl, .number1 ty7 (u := .none) rfl hni⟩
          · exact ⟨_, _, rfl, .number1 ty7 (u := .int) rfl hni⟩
          · exact ⟨_, _, rfl, .number1 ty7 (u := .int) rfl hni⟩
          · exact ⟨_, _, rfl, .number2 (t := .int) rfl ty7 rfl hni⟩
        obtain ⟨o, w, rfl, hc⟩ := hc
        simp [st, gt]
        refine caught_at e7.1 b7 (by omega) hc fun l8 G8 b8 e8 => ?_
        obtain ⟨t', ty8, z1, z2⟩ := hbn.at (e47.trans e8) ex.1
        exact very_at ty8 z1 z2 (by simpa using hK' _ G8 ⟨l8, _, _, b8.mono (by omega), e7.trans e8, rfl⟩)
      · rintro σ G7 ⟨l7, t7, t8, b7, e7, rfl⟩
        exact hK _ G7 ⟨l7, some d, t7, t8, b7.mono (by simp; omega), ew.trans e7, rfl⟩
    · rintro σ G' ⟨l', t2, t7, t8, b, e, rfl⟩
      rw [hlen] at b
      exact ⟨G', .refl, q l' G' (b.mono (by omega)) (ex.trans e)⟩
end DL.K00

set_option Elab.async false
set_option linter.all false
set_option maxRecDepth 100000
set_option maxHeartbeats 4000000
namespace DL.K00
open PySem PySem.Spec PyProof.Rows L2 DL TL
/-! ### the law -/
@[simp] def I_cell : FI := ⟨["script", "k"], S_cell, []⟩
@[simp] def I_box : FI := ⟨["great"], S_box, []⟩
@[simp] def I_pair : FI := ⟨["box"], S_pair, []⟩
@[simp] def I_pairs : FI := ⟨["box", "one", "other"], S_pairs, []⟩
@[simp] def I_texts : FI := ⟨["box", "one"], S_texts, []⟩
@[simp] def I_values : FI := ⟨["box", "one"], S_values, []⟩
@[simp] def I_made : FI := ⟨["box"], S_made, []⟩
structure Lib5 (Γ : GE) : Prop where
  cell : Γ.fn "_law_cell" = some I_cell
  box : Γ.fn "_law_box" = some I_box
  pair : Γ.fn "_law_pair" = some I_pair
  pairs : Γ.fn "_law_pairs_right" = some I_pairs
  texts : Γ.fn "_law_texts_right" = some I_texts
  values : Γ.fn "_law_values_right" = some I_values
  made : Γ.fn "_law_made_right" = some I_made
theorem run_law {Γ : GE} (L : Lib5 Γ) {ds : List D} {G : DH} {Q : QD} {E : ED} (hl : ds.length = 1) (h : SLaw ds G Q E) : Runs Γ m_law 7 ds G Q E := by
  obtain ⟨ns, rfl, hn, q⟩ := h
  unfold Runs m_law
  simp [startD, dEnds, List.replicate, L.cell, L.box, L.pair, L.pairs, L.texts, L.values, L.made, -frD_def]
  refine ⟨by omega, by omega, for_rule (fun i σ G' => ∃ s1 s2 s3 s4 s5 s6, σ = [some (.lsv (ns.map D.int)), s1, s2, s3, s4, s5, s6]) ⟨none, none, none, none, none, none, rfl⟩ (fun _ _ _ _ _ => srcOk_nil) ?_ ?_⟩
  · rintro i d σ G0 Kn hi ⟨s1, s2, s3, s4, s5, s6, rfl⟩ hK
    obtain ⟨j, _, rfl⟩ := range_mem (List.mem_of_getElem? hi)
    simp [st, gt, -frD_def]
    refine ⟨ns, j, rfl, fun c => ⟨c, rfl, fun a l ha hb => ?_⟩⟩
    refine ⟨a, l, 0, rfl, put_same, hb, by omega, fun x y l1 G1 b1 x1 x2 x3 x4 e1 => ?_⟩
    refine ⟨a, l1, 6, rfl, e1.1, b1, by omega, fun u v l2 G2 b2 u1 u2 u3 u4 e2 => ?_⟩
    simp [-frD_def]
    intro p hp
    have fp : Fr (x, y) := ⟨x1, x2, x3, x4⟩
    have fq : Fr (u, v) := ⟨u1, u2, u3, u4⟩
    have fz : Fr (0, 1) := ⟨by unfold Sz; decide, by decide, by unfold Sz; decide, by decide⟩
    have hpa : p ≠ a := Ne.symm (ne_free e2.1 hp)
    have e3 := (Ext.same e2.1).new (o := .lst [.tup [frD (x, y), frD (u, v)], .tup [frD (u, v), frD (x, y)], .tup [frD (x, y), frD (x, y)], .tup [frD (x, y), .tup [.int 0, .int 1]], .tup [.tup [.int 0, .int 1], frD (u, v)]]) hp
    have hpp : put G2 p (.lst [.tup [frD (x, y), frD (u, v)], .tup [frD (u, v), frD (x, y)], .tup [frD (x, y), frD (x, y)], .tup [frD (x, y), .tup [.int 0, .int 1]], .tup [.tup [.int 0, .int 1], frD (u, v)]]) p = some _ := put_same
    generalize hdef : put G2 p (.lst [.tup [frD (x, y), frD (u, v)], .tup [frD (u, v), frD (x, y)], .tup [frD (x, y), frD (x, y)], .tup [frD (x, y), .tup [.int 0, .int 1]], .tup [.tup [.int 0, .int 1], frD (u, v)]]) = G3 at *
    refine for_rule (fun i σ G' => ∃ l' t5 t6, BoxOk (12 + 5 * i) l' ∧ Ext a l' G3 G' ∧ σ = [some (.lsv (ns.map D.int)), some (.int j), some (.ref a), some (frD (x, y)), some (frD (u, v)), t5, t6]) ⟨l2, s5, s6, by simpa using b2, Ext.same e3.1, rfl⟩ (fun i σ G' _ ⟨l', _, _, b, e, _⟩ => srcOk_one (sqAt_some.mpr (e.2 p _ hpa hpp))) ?_ ?_
    · rintro i d σ G' Kn' hi ⟨l', t5, t6, b, e, rfl⟩ hK'
      have hi5 : i < 5 := (List.getElem?_eq_some_iff.mp hi).1
      have hd : ∃ f g, d = .tup [frD f, frD g] ∧ Fr f ∧ Fr g := by
        have hm := List.mem_of_getElem? hi
        simp only [List.mem_cons, List.not_mem_nil, or_false] at hm
        rcases hm with rfl | rfl | rfl | rfl | rfl
        · exact ⟨_, _, rfl, fp, fq⟩
        · exact ⟨_, _, rfl, fq, fp⟩
        · exact ⟨_, _, rfl, fp, fp⟩
        · exact ⟨(x, y), (0, 1), rfl, fp, fz⟩
        · exact ⟨(0, 1), (u, v), rfl, fz, fq⟩
      obtain ⟨f, g, rfl, hf, hg⟩ := hd
      simp [st, gt, -frD_def]
      refine ⟨a, l', _, f, g, rfl, e.1, b, by omega, hf, hg, fun l4 G4 b4 e4 => ?_⟩
      simpa using hK' _ G4 ⟨l4, _, _, b4.mono (by omega), e.trans e4, rfl⟩
    · rintro σ G4 ⟨l4, t5, t6, b4, e4, rfl⟩
      replace b4 : BoxOk 37 l4 := b4
      simp [st, gt, -frD_def]
      refine ⟨a, l4, _, (x, y), rfl, e4.1, b4, by omega, fp, fun l5 G5 b5 e5 => ?_⟩
      simp [-frD_def]
      refine ⟨a, l5, _, (x, y), rfl, e5.1, b5, by omega, fp, fun l6 G6 b6 e6 => ?_⟩
      simp [-frD_def]
      refine ⟨a, l6, _, (u, v), rfl, e6.1, b6, by omega, fq, fun l7 G7 b7 e7 => ?_⟩
      simp [-frD_def]
      refine ⟨a, l7, _, rfl, e7.1, b7, by omega, fun l8 G8 b8 e8 => ?_⟩
      simp [-frD_def]
      exact hK _ G8 ⟨_, _, _, _, _, _, rfl⟩
  · rintro σ G1 ⟨s1, s2, s3, s4, s5, s6, rfl⟩
    exact ⟨G1, .refl, q _⟩
end DL.K00

set_option Elab.async false
set_option linter.all false
set_option maxRecDepth 100000
set_option maxHeartbeats 4000000
namespace DL.K00
open PySem PySem.Spec PyProof.Rows L2 DL TL
/-! ### the module's names, one after another -/
/-- what k_is tells of a def of the text -/
structure DefAt (K : PySem.W.Frag) (x : Str) (st : Stmt) : Prop where
  ex : ∃ f fd, PySem.W.nsIn K mainGlobals x = some (some (.ref f)) ∧ Fun K x x st f fd
theorem defAt_mk {K : PySem.W.Frag} {x : Str} {st : Stmt} {f : Addr} {oc : Value} {od an : Option Addr} {osl : Array (Option Value)} {kV doc pm cdv ct : Value} (a : PySem.W.nsIn K mainGlobals x = some (some (.ref f)))
    (l : K.lookup f = some ⟨oc, od, .func (PySem.W.fnOf x x (defArgs st) (defBody st) (defScope st) .none kV doc pm an cdv ct), osl⟩) (c : PySem.W.codeIn K cdv x = true) (k : PySem.W.keepIn K (.ref f) = true) : DefAt K x st := ⟨f, _, a, fun_mk l c k⟩
theorem step {P : Program} {w : World} {K : PySem.W.Frag} {mg : Str → Option Value} {base h : Heap} (X : K.In h) (hG : h.Ns mainGlobals mg) {Γ : GE} {k : Nat} (ok : GOk Γ k true P w K mg base) (k2 : 2 ≤ k) (x : Str) (fi : FI) {st : Stmt} (A : DefAt K x st) {N : List Str} {ms : MSs}
    (sc : FnScope N fi.ps (defScope st)) (ck : chSs ⟨N, defScope st, defScope st, false, true⟩ ms (defBody st) = true) (run : ∀ ds G Q E, ds.length = fi.ps.length → fi.sp ds G Q E → Runs Γ ms N.length ds G Q E)
    (hb : ∀ (kV doc pm : Value) (an : Option Addr) (cdv ct : Value) (us : List Value), us.length = fi.ps.length → bindArgs (PySem.W.fnOf x x (defArgs st) (defBody st) (defScope st) .none kV doc pm an cdv ct) ⟨us, []⟩ = pure (fi.ps.zip us))
    (kb : ∀ q ∈ fi.kws, ∀ (kV doc pm : Value) (an : Option Addr) (cdv ct : Value) (us ws : List Value), us.length = q.1 → ws.length = q.2.1.length → bindArgs (PySem.W.fnOf x x (defArgs st) (defBody st) (defScope st) .none kV doc pm an cdv ct) ⟨us, q.2.1.zip ws⟩ = pure (fi.ps.zip (permL q.2.2 (us ++ ws)))) :
    GOk (Γ.add x fi) (k + 1) true P w K mg base := by
  obtain ⟨f, fd, a, F⟩ := A.ex
  exact GOk.add (ok.mono (Nat.le_succ k)) (PySem.W.mg_of X hG a) F (def_ok ok k2 F sc ck run) (F.binds hb) fun q hq => kbd_mk F (kb q hq)
/-- before any def -/
def Γ0 : GE where
  fn := fun _ => none
  con := fun x => if x = "DIGITS" then some (.str "0123456789") else if x = "MOST_DIGITS" then some (.int 1000) else none
  exc := fun x => if x = "InvalidNumber" then some [Str.ofString "given"] else if x = "InvalidText" then some [Str.ofString "given"] else if x = "DividedByZero" then some [] else none
  exb := fun x => if x = "InvalidNumber" then true else if x = "InvalidText" then true else if x = "DividedByZero" then true else false
  exm := fun x y => if x = "InvalidNumber" then (if y = "InvalidNumber" then some true else none)
    else if x = "InvalidText" then (if y = "InvalidNumber" then some false else if y = "InvalidText" then some true else none)
    else if x = "DividedByZero" then (if y = "InvalidNumber" then some false else if y = "InvalidText" then some false else if y = "DividedByZero" then some true else none) else none
def Γ1 : GE := Γ0.add "is_integer" I_is_integer
def Γ2 : GE := Γ1.add "is_tuple_of" I_is_tuple_of
def Γ3 : GE := Γ2.add "is_decimal" I_is_decimal
def Γ4 : GE := Γ3.add "is_fraction" I_is_fraction
def Γ5 : GE := Γ4.add "lowest" I_lowest
def Γ6 : GE := Γ5.add "fraction" I_fraction
def Γ7 : GE := Γ6.add "whole" I_whole
def Γ8 : GE := Γ7.add "add" I_add
def Γ9 : GE := Γ8.add "subtract" I_subtract
def Γ10 : GE := Γ9.add "multiply" I_multiply
def Γ11 : GE := Γ10.add "divide" I_divide
def Γ12 : GE := Γ11.add "compare" I_compare
def Γ13 : GE := Γ12.add "text_of_fraction" I_text
def Γ14 : GE := Γ13.add "fraction_in" I_fraction_in
def Γ15 : GE := Γ14.add "read_fraction" I_read
def Γ16 : GE := Γ15.add "_law_cell" I_cell
def Γ17 : GE := Γ16.add "_law_box" I_box
def Γ18 : GE := Γ17.add "_law_take" I_take
def Γ19 : GE := Γ18.add "_law_same" (I_same 0)
def Γ20 : GE := Γ19.add "_law_same" (I_same 1)
def Γ21 : GE := Γ20.add "_law_same" (I_same 2)
def Γ22 : GE := Γ21.add "_law_same" (I_same 3)
def Γ23 : GE := Γ22.add "_law_same" (I_same 4)
def Γ24 : GE := Γ23.add "_law_gcd" I_gcd
def Γ25 : GE := Γ24.add "_law_low" I_low
def Γ26 : GE := Γ25.add "_law_add" I_ladd
def Γ27 : GE := Γ26.add "_law_less" I_lless
def Γ28 : GE := Γ27.add "_law_mul" I_lmul
def Γ29 : GE := Γ28.add "_law_div" I_ldiv
def Γ30 : GE := Γ29.add "_law_very" I_very
def Γ31 : GE := Γ30.add "_law_caught" I_caught
def Γ32 : GE := Γ31.add "_law_pair" I_pair
def Γ33 : GE := Γ32.add "_law_digits" I_digits
def Γ34 : GE := Γ33.add "_law_text" I_ltext
def Γ35 : GE := Γ34.add "_law_pairs_right" I_pairs
def Γ36 : GE := Γ35.add "_law_texts_right" I_texts
def Γ37 : GE := Γ36.add "_law_values_right" I_values
def Γ38 : GE := Γ37.add "_law_made_right" I_made
structure Defs (K : PySem.W.Frag) : Prop where
  d_is_integer : DefAt K "is_integer" (topS 8)
  d_is_tuple_of : DefAt K "is_tuple_of" (topS 9)
  d_is_decimal : DefAt K "is_decimal" (topS 10)
  d_is_fraction : DefAt K "is_fraction" (topS 13)
  d_lowest : DefAt K "lowest" (topS 14)
  d_fraction : DefAt K "fraction" (topS 15)
  d_whole : DefAt K "whole" (topS 16)
  d_add : DefAt K "add" (topS 17)
  d_subtract : DefAt K "subtract" (topS 18)
  d_multiply : DefAt K "multiply" (topS 19)
  d_divide : DefAt K "divide" (topS 20)
  d_compare : DefAt K "compare" (topS 21)
  d_text_of_fraction : DefAt K "text_of_fraction" (topS 22)
  d_fraction_in : DefAt K "fraction_in" (topS 23)
  d_read_fraction : DefAt K "read_fraction" (topS 24)
  d_f_law_cell : DefAt K "_law_cell" (topS 26)
  d_f_law_box : DefAt K "_law_box" (topS 27)
  d_f_law_take : DefAt K "_law_take" (topS 28)
  d_f_law_same : DefAt K "_law_same" (topS 29)
  d_f_law_gcd : DefAt K "_law_gcd" (topS 30)
  d_f_law_low : DefAt K "_law_low" (topS 31)
  d_f_law_add : DefAt K "_law_add" (topS 32)
  d_f_law_less : DefAt K "_law_less" (topS 33)
  d_f_law_mul : DefAt K "_law_mul" (topS 34)
  d_f_law_div : DefAt K "_law_div" (topS 35)
  d_f_law_very : DefAt K "_law_very" (topS 36)
  d_f_law_caught : DefAt K "_law_caught" (topS 37)
  d_f_law_pair : DefAt K "_law_pair" (topS 38)
  d_f_law_digits : DefAt K "_law_digits" (topS 39)
  d_f_law_text : DefAt K "_law_text" (topS 40)
  d_f_law_pairs_right : DefAt K "_law_pairs_right" (topS 41)
  d_f_law_texts_right : DefAt K "_law_texts_right" (topS 42)
  d_f_law_values_right : DefAt K "_law_values_right" (topS 43)
  d_f_law_made_right : DefAt K "_law_made_right" (topS 44)
  d_law : DefAt K "law" (topS 45)
section
variable {P : Program} {w : World} {K : PySem.W.Frag} {mg : Str → Option Value} {base h : Heap}
theorem ok1 (X : K.In h) (hG : h.Ns mainGlobals mg) (A : Defs K) (ok : GOk Γ0 2 true P w K mg base) : GOk Γ1 3 true P w K mg base :=
  step X hG ok (by decide) "is_integer" I_is_integer A.d_is_integer sc_is_integer ck_is_integer (fun ds G Q E hl h => run_is_integer hl h) (fun _ _ _ _ _ _ us hl => match us, hl with | [_], _ => rfl) (fun q hq => nomatch hq)
theorem ok2 (X : K.In h) (hG : h.Ns mainGlobals mg) (A : Defs K) (ok : GOk Γ1 3 true P w K mg base) : GOk Γ2 4 true P w K mg base :=
  step X hG ok (by decide) "is_tuple_of" I_is_tuple_of A.d_is_tuple_of sc_is_tuple_of ck_is_tuple_of (fun ds G Q E hl h => run_is_tuple_of hl h) (fun _ _ _ _ _ _ us hl => match us, hl with | [_, _], _ => rfl) (fun q hq => nomatch hq)
theorem ok3 (X : K.In h) (hG : h.Ns mainGlobals mg) (A : Defs K) (ok : GOk Γ2 4 true P w K mg base) : GOk Γ3 5 true P w K mg base :=
  step X hG ok (by decide) "is_decimal" I_is_decimal A.d_is_decimal sc_is_decimal ck_is_decimal (fun ds G Q E hl h => run_is_decimal (by rfl) hl h) (fun _ _ _ _ _ _ us hl => match us, hl with | [_, _], _ => rfl) (fun q hq => nomatch hq)
theorem ok4 (X : K.In h) (hG : h.Ns mainGlobals mg) (A : Defs K) (ok : GOk Γ3 5 true P w K mg base) : GOk Γ4 6 true P w K mg base :=
  step X hG ok (by decide) "is_fraction" I_is_fraction A.d_is_fraction sc_is_fraction ck_is_fraction (fun ds G Q E hl h => run_is_fraction (by rfl) (by rfl) hl h) (fun _ _ _ _ _ _ us hl => match us, hl with | [_], _ => rfl) (fun q hq => (by obtain rfl := List.mem_singleton.mp hq; exact fun _ _ _ _ _ _ us ws hl hw => match us, ws, hl, hw with | [], [_], _, _ => rfl))
theorem ok5 (X : K.In h) (hG : h.Ns mainGlobals mg) (A : Defs K) (ok : GOk Γ4 6 true P w K mg base) : GOk Γ5 7 true P w K mg base :=
  step X hG ok (by decide) "lowest" I_lowest A.d_lowest sc_lowest ck_lowest (fun ds G Q E hl h => run_lowest hl h) (fun _ _ _ _ _ _ us hl => match us, hl with | [_, _], _ => rfl) (fun q hq => nomatch hq)
theorem ok6 (X : K.In h) (hG : h.Ns mainGlobals mg) (A : Defs K) (ok : GOk Γ5 7 true P w K mg base) : GOk Γ6 8 true P w K mg base :=
  step X hG ok (by decide) "fraction" I_fraction A.d_fraction sc_fraction ck_fraction (fun ds G Q E hl h => run_fraction (by rfl) (by rfl) (by rfl) hl h) (fun _ _ _ _ _ _ us hl => match us, hl with | [_, _], _ => rfl) (fun q hq => (by obtain rfl := List.mem_singleton.mp hq; exact fun _ _ _ _ _ _ us ws hl hw => match us, ws, hl, hw with | [], [_, _], _, _ => rfl))
theorem ok7 (X : K.In h) (hG : h.Ns mainGlobals mg) (A : Defs K) (ok : GOk Γ6 8 true P w K mg base) : GOk Γ7 9 true P w K mg base :=
  step X hG ok (by decide) "whole" I_whole A.d_whole sc_whole ck_whole (fun ds G Q E hl h => run_whole hl h) (fun _ _ _ _ _ _ us hl => match us, hl with | [_], _ => rfl) (fun q hq => nomatch hq)
theorem ok8 (X : K.In h) (hG : h.Ns mainGlobals mg) (A : Defs K) (ok : GOk Γ7 9 true P w K mg base) : GOk Γ8 10 true P w K mg base :=
  step X hG ok (by decide) "add" I_add A.d_add sc_add ck_add (fun ds G Q E hl h => run_add (by rfl) hl h) (fun _ _ _ _ _ _ us hl => match us, hl with | [_, _], _ => rfl) (fun q hq => (by obtain rfl := List.mem_singleton.mp hq; exact fun _ _ _ _ _ _ us ws hl hw => match us, ws, hl, hw with | [], [_, _], _, _ => rfl))
theorem ok9 (X : K.In h) (hG : h.Ns mainGlobals mg) (A : Defs K) (ok : GOk Γ8 10 true P w K mg base) : GOk Γ9 11 true P w K mg base :=
  step X hG ok (by decide) "subtract" I_subtract A.d_subtract sc_subtract ck_subtract (fun ds G Q E hl h => run_subtract (by rfl) hl h) (fun _ _ _ _ _ _ us hl => match us, hl with | [_, _], _ => rfl) (fun q hq => (by obtain rfl := List.mem_singleton.mp hq; exact fun _ _ _ _ _ _ us ws hl hw => match us, ws, hl, hw with | [], [_, _], _, _ => rfl))
theorem ok10 (X : K.In h) (hG : h.Ns mainGlobals mg) (A : Defs K) (ok : GOk Γ9 11 true P w K mg base) : GOk Γ10 12 true P w K mg base :=
  step X hG ok (by decide) "multiply" I_multiply A.d_multiply sc_multiply ck_multiply (fun ds G Q E hl h => run_multiply (by rfl) hl h) (fun _ _ _ _ _ _ us hl => match us, hl with | [_, _], _ => rfl) (fun q hq => (by obtain rfl := List.mem_singleton.mp hq; exact fun _ _ _ _ _ _ us ws hl hw => match us, ws, hl, hw with | [], [_, _], _, _ => rfl))
theorem ok11 (X : K.In h) (hG : h.Ns mainGlobals mg) (A : Defs K) (ok : GOk Γ10 12 true P w K mg base) : GOk Γ11 13 true P w K mg base :=
  step X hG ok (by decide) "divide" I_divide A.d_divide sc_divide ck_divide (fun ds G Q E hl h => run_divide (by rfl) (by rfl) hl h) (fun _ _ _ _ _ _ us hl => match us, hl with | [_, _], _ => rfl) (fun q hq => (by obtain rfl := List.mem_singleton.mp hq; exact fun _ _ _ _ _ _ us ws hl hw => match us, ws, hl, hw with | [], [_, _], _, _ => rfl))
theorem ok12 (X : K.In h) (hG : h.Ns mainGlobals mg) (A : Defs K) (ok : GOk Γ11 13 true P w K mg base) : GOk Γ12 14 true P w K mg base :=
  step X hG ok (by decide) "compare" I_compare A.d_compare sc_compare ck_compare (fun ds G Q E hl h => run_compare hl h) (fun _ _ _ _ _ _ us hl => match us, hl with | [_, _], _ => rfl) (fun q hq => (by obtain rfl := List.mem_singleton.mp hq; exact fun _ _ _ _ _ _ us ws hl hw => match us, ws, hl, hw with | [], [_, _], _, _ => rfl))
theorem ok13 (X : K.In h) (hG : h.Ns mainGlobals mg) (A : Defs K) (ok : GOk Γ12 14 true P w K mg base) : GOk Γ13 15 true P w K mg base :=
  step X hG ok (by decide) "text_of_fraction" I_text A.d_text_of_fraction sc_text_of_fraction ck_text_of_fraction (fun ds G Q E hl h => run_text_of_fraction hl h) (fun _ _ _ _ _ _ us hl => match us, hl with | [_], _ => rfl) (fun q hq => (by obtain rfl := List.mem_singleton.mp hq; exact fun _ _ _ _ _ _ us ws hl hw => match us, ws, hl, hw with | [], [_], _, _ => rfl))
theorem ok14 (X : K.In h) (hG : h.Ns mainGlobals mg) (A : Defs K) (ok : GOk Γ13 15 true P w K mg base) : GOk Γ14 16 true P w K mg base :=
  step X hG ok (by decide) "fraction_in" I_fraction_in A.d_fraction_in sc_fraction_in ck_fraction_in (fun ds G Q E hl h => run_fraction_in (by rfl) (by rfl) (by rfl) (by rfl) hl h) (fun _ _ _ _ _ _ us hl => match us, hl with | [_], _ => rfl) (fun q hq => nomatch hq)
theorem ok15 (X : K.In h) (hG : h.Ns mainGlobals mg) (A : Defs K) (ok : GOk Γ14 16 true P w K mg base) : GOk Γ15 17 true P w K mg base :=
  step X hG ok (by decide) "read_fraction" I_read A.d_read_fraction sc_read_fraction ck_read_fraction (fun ds G Q E hl h => run_read_fraction (by rfl) (by rfl) hl h) (fun _ _ _ _ _ _ us hl => match us, hl with | [_], _ => rfl) (fun q hq => (by obtain rfl := List.mem_singleton.mp hq; exact fun _ _ _ _ _ _ us ws hl hw => match us, ws, hl, hw with | [], [_], _, _ => rfl))
theorem ok16 (X : K.In h) (hG : h.Ns mainGlobals mg) (A : Defs K) (ok : GOk Γ15 17 true P w K mg base) : GOk Γ16 18 true P w K mg base :=
  step X hG ok (by decide) "_law_cell" I_cell A.d_f_law_cell sc_f_law_cell ck_f_law_cell (fun ds G Q E hl h => run_cell hl h) (fun _ _ _ _ _ _ us hl => match us, hl with | [_, _], _ => rfl) (fun q hq => nomatch hq)
theorem ok17 (X : K.In h) (hG : h.Ns mainGlobals mg) (A : Defs K) (ok : GOk Γ16 18 true P w K mg base) : GOk Γ17 19 true P w K mg base :=
  step X hG ok (by decide) "_law_box" I_box A.d_f_law_box sc_f_law_box ck_f_law_box (fun ds G Q E hl h => run_box hl h) (fun _ _ _ _ _ _ us hl => match us, hl with | [_], _ => rfl) (fun q hq => nomatch hq)
theorem ok18 (X : K.In h) (hG : h.Ns mainGlobals mg) (A : Defs K) (ok : GOk Γ17 19 true P w K mg base) : GOk Γ18 20 true P w K mg base :=
  step X hG ok (by decide) "_law_take" I_take A.d_f_law_take sc_f_law_take ck_f_law_take (fun ds G Q E hl h => run_take hl h) (fun _ _ _ _ _ _ us hl => match us, hl with | [_, _], _ => rfl) (fun q hq => nomatch hq)
theorem ok19 (X : K.In h) (hG : h.Ns mainGlobals mg) (A : Defs K) (ok : GOk Γ18 20 true P w K mg base) : GOk Γ19 21 true P w K mg base :=
  step X hG ok (by decide) "_law_same" (I_same 0) A.d_f_law_same sc_f_law_same ck_f_law_same (fun ds G Q E hl h => (by obtain ⟨x, y, _, z, _⟩ := h; exact z.elim)) (fun _ _ _ _ _ _ us hl => match us, hl with | [_, _], _ => rfl) (fun q hq => nomatch hq)
theorem ok20 (X : K.In h) (hG : h.Ns mainGlobals mg) (A : Defs K) (ok : GOk Γ19 21 true P w K mg base) : GOk Γ20 22 true P w K mg base :=
  step X hG ok (by decide) "_law_same" (I_same 1) A.d_f_law_same sc_f_law_same ck_f_law_same (fun ds G Q E hl h => run_same (by rfl) hl h) (fun _ _ _ _ _ _ us hl => match us, hl with | [_, _], _ => rfl) (fun q hq => nomatch hq)
theorem ok21 (X : K.In h) (hG : h.Ns mainGlobals mg) (A : Defs K) (ok : GOk Γ20 22 true P w K mg base) : GOk Γ21 23 true P w K mg base :=
  step X hG ok (by decide) "_law_same" (I_same 2) A.d_f_law_same sc_f_law_same ck_f_law_same (fun ds G Q E hl h => run_same (by rfl) hl h) (fun _ _ _ _ _ _ us hl => match us, hl with | [_, _], _ => rfl) (fun q hq => nomatch hq)
theorem ok22 (X : K.In h) (hG : h.Ns mainGlobals mg) (A : Defs K) (ok : GOk Γ21 23 true P w K mg base) : GOk Γ22 24 true P w K mg base :=
  step X hG ok (by decide) "_law_same" (I_same 3) A.d_f_law_same sc_f_law_same ck_f_law_same (fun ds G Q E hl h => run_same (by rfl) hl h) (fun _ _ _ _ _ _ us hl => match us, hl with | [_, _], _ => rfl) (fun q hq => nomatch hq)
theorem ok23 (X : K.In h) (hG : h.Ns mainGlobals mg) (A : Defs K) (ok : GOk Γ22 24 true P w K mg base) : GOk Γ23 25 true P w K mg base :=
  step X hG ok (by decide) "_law_same" (I_same 4) A.d_f_law_same sc_f_law_same ck_f_law_same (fun ds G Q E hl h => run_same (by rfl) hl h) (fun _ _ _ _ _ _ us hl => match us, hl with | [_, _], _ => rfl) (fun q hq => nomatch hq)
theorem ok24 (X : K.In h) (hG : h.Ns mainGlobals mg) (A : Defs K) (ok : GOk Γ23 25 true P w K mg base) : GOk Γ24 26 true P w K mg base :=
  step X hG ok (by decide) "_law_gcd" I_gcd A.d_f_law_gcd sc_f_law_gcd ck_f_law_gcd (fun ds G Q E hl h => run_gcd hl h) (fun _ _ _ _ _ _ us hl => match us, hl with | [_, _], _ => rfl) (fun q hq => nomatch hq)
theorem ok25 (X : K.In h) (hG : h.Ns mainGlobals mg) (A : Defs K) (ok : GOk Γ24 26 true P w K mg base) : GOk Γ25 27 true P w K mg base :=
  step X hG ok (by decide) "_law_low" I_low A.d_f_law_low sc_f_law_low ck_f_law_low (fun ds G Q E hl h => run_low (by rfl) hl h) (fun _ _ _ _ _ _ us hl => match us, hl with | [_, _], _ => rfl) (fun q hq => nomatch hq)
theorem ok26 (X : K.In h) (hG : h.Ns mainGlobals mg) (A : Defs K) (ok : GOk Γ25 27 true P w K mg base) : GOk Γ26 28 true P w K mg base :=
  step X hG ok (by decide) "_law_add" I_ladd A.d_f_law_add sc_f_law_add ck_f_law_add (fun ds G Q E hl h => run_ladd (by rfl) hl h) (fun _ _ _ _ _ _ us hl => match us, hl with | [_, _], _ => rfl) (fun q hq => nomatch hq)
theorem ok27 (X : K.In h) (hG : h.Ns mainGlobals mg) (A : Defs K) (ok : GOk Γ26 28 true P w K mg base) : GOk Γ27 29 true P w K mg base :=
  step X hG ok (by decide) "_law_less" I_lless A.d_f_law_less sc_f_law_less ck_f_law_less (fun ds G Q E hl h => run_lless (by rfl) hl h) (fun _ _ _ _ _ _ us hl => match us, hl with | [_, _], _ => rfl) (fun q hq => nomatch hq)
theorem ok28 (X : K.In h) (hG : h.Ns mainGlobals mg) (A : Defs K) (ok : GOk Γ27 29 true P w K mg base) : GOk Γ28 30 true P w K mg base :=
  step X hG ok (by decide) "_law_mul" I_lmul A.d_f_law_mul sc_f_law_mul ck_f_law_mul (fun ds G Q E hl h => run_lmul (by rfl) hl h) (fun _ _ _ _ _ _ us hl => match us, hl with | [_, _], _ => rfl) (fun q hq => nomatch hq)
theorem ok29 (X : K.In h) (hG : h.Ns mainGlobals mg) (A : Defs K) (ok : GOk Γ28 30 true P w K mg base) : GOk Γ29 31 true P w K mg base :=
  step X hG ok (by decide) "_law_div" I_ldiv A.d_f_law_div sc_f_law_div ck_f_law_div (fun ds G Q E hl h => run_ldiv (by rfl) hl h) (fun _ _ _ _ _ _ us hl => match us, hl with | [_, _], _ => rfl) (fun q hq => nomatch hq)
theorem ok30 (X : K.In h) (hG : h.Ns mainGlobals mg) (A : Defs K) (ok : GOk Γ29 31 true P w K mg base) : GOk Γ30 32 true P w K mg base :=
  step X hG ok (by decide) "_law_very" I_very A.d_f_law_very sc_f_law_very ck_f_law_very (fun ds G Q E hl h => run_very (by rfl) hl h) (fun _ _ _ _ _ _ us hl => match us, hl with | [_, _, _], _ => rfl) (fun q hq => nomatch hq)
theorem ok31 (X : K.In h) (hG : h.Ns mainGlobals mg) (A : Defs K) (ok : GOk Γ30 32 true P w K mg base) : GOk Γ31 33 true P w K mg base :=
  step X hG ok (by decide) "_law_caught" I_caught A.d_f_law_caught sc_f_law_caught ck_f_law_caught (fun ds G Q E hl h => run_caught ⟨(by rfl), (by rfl), (by rfl), (by rfl), (by rfl), (by rfl), (by rfl), (by rfl), (by rfl), (by rfl), (by rfl), (by rfl), (by rfl), (by rfl), (by rfl), (by rfl), (by rfl), (by rfl), (by rfl)⟩ hl h) (fun _ _ _ _ _ _ us hl => match us, hl with | [_, _, _, _], _ => rfl) (fun q hq => nomatch hq)
theorem ok32 (X : K.In h) (hG : h.Ns mainGlobals mg) (A : Defs K) (ok : GOk Γ31 33 true P w K mg base) : GOk Γ32 34 true P w K mg base :=
  step X hG ok (by decide) "_law_pair" I_pair A.d_f_law_pair sc_f_law_pair ck_f_law_pair (fun ds G Q E hl h => run_pair (by rfl) (by rfl) hl h) (fun _ _ _ _ _ _ us hl => match us, hl with | [_], _ => rfl) (fun q hq => nomatch hq)
theorem ok33 (X : K.In h) (hG : h.Ns mainGlobals mg) (A : Defs K) (ok : GOk Γ32 34 true P w K mg base) : GOk Γ33 35 true P w K mg base :=
  step X hG ok (by decide) "_law_digits" I_digits A.d_f_law_digits sc_f_law_digits ck_f_law_digits (fun ds G Q E hl h => run_digits hl h) (fun _ _ _ _ _ _ us hl => match us, hl with | [_], _ => rfl) (fun q hq => nomatch hq)
theorem ok34 (X : K.In h) (hG : h.Ns mainGlobals mg) (A : Defs K) (ok : GOk Γ33 35 true P w K mg base) : GOk Γ34 36 true P w K mg base :=
  step X hG ok (by decide) "_law_text" I_ltext A.d_f_law_text sc_f_law_text ck_f_law_text (fun ds G Q E hl h => run_ltext (by rfl) hl h) (fun _ _ _ _ _ _ us hl => match us, hl with | [_], _ => rfl) (fun q hq => nomatch hq)
theorem ok35 (X : K.In h) (hG : h.Ns mainGlobals mg) (A : Defs K) (ok : GOk Γ34 36 true P w K mg base) : GOk Γ35 37 true P w K mg base :=
  step X hG ok (by decide) "_law_pairs_right" I_pairs A.d_f_law_pairs_right sc_f_law_pairs_right ck_f_law_pairs_right (fun ds G Q E hl h => run_pairs ⟨(by rfl), (by rfl), (by rfl), (by rfl), (by rfl), (by rfl), (by rfl)⟩ hl h) (fun _ _ _ _ _ _ us hl => match us, hl with | [_, _, _], _ => rfl) (fun q hq => nomatch hq)
theorem ok36 (X : K.In h) (hG : h.Ns mainGlobals mg) (A : Defs K) (ok : GOk Γ35 37 true P w K mg base) : GOk Γ36 38 true P w K mg base :=
  step X hG ok (by decide) "_law_texts_right" I_texts A.d_f_law_texts_right sc_f_law_texts_right ck_f_law_texts_right (fun ds G Q E hl h => run_texts ⟨⟨(by rfl), (by rfl), (by rfl), (by rfl), (by rfl), (by rfl), (by rfl)⟩, (by rfl), (by rfl), (by rfl)⟩ hl h) (fun _ _ _ _ _ _ us hl => match us, hl with | [_, _], _ => rfl) (fun q hq => nomatch hq)
theorem ok37 (X : K.In h) (hG : h.Ns mainGlobals mg) (A : Defs K) (ok : GOk Γ36 38 true P w K mg base) : GOk Γ37 39 true P w K mg base :=
  step X hG ok (by decide) "_law_values_right" I_values A.d_f_law_values_right sc_f_law_values_right ck_f_law_values_right (fun ds G Q E hl h => run_values ⟨⟨(by rfl), (by rfl), (by rfl), (by rfl), (by rfl), (by rfl), (by rfl)⟩, (by rfl), (by rfl), (by rfl)⟩ hl h) (fun _ _ _ _ _ _ us hl => match us, hl with | [_, _], _ => rfl) (fun q hq => nomatch hq)
theorem ok38 (X : K.In h) (hG : h.Ns mainGlobals mg) (A : Defs K) (ok : GOk Γ37 39 true P w K mg base) : GOk Γ38 40 true P w K mg base :=
  step X hG ok (by decide) "_law_made_right" I_made A.d_f_law_made_right sc_f_law_made_right ck_f_law_made_right (fun ds G Q E hl h => run_made ⟨⟨⟨(by rfl), (by rfl), (by rfl), (by rfl), (by rfl), (by rfl), (by rfl)⟩, (by rfl), (by rfl), (by rfl)⟩, (by rfl)⟩ hl h) (fun _ _ _ _ _ _ us hl => match us, hl with | [_], _ => rfl) (fun q hq => nomatch hq)
theorem law_all (X : K.In h) (hG : h.Ns mainGlobals mg) (A : Defs K) (ok : GOk Γ0 2 true P w K mg base) {f : Addr} {fd : FuncData} (F : Fun K "law" "law" (topS 45) f fd) : FnOk P w K mg base (L2.CX P w) 60 f fd ["script"] (spLaw K) := by
  have g1 := ok1 X hG A ok
  have g2 := ok2 X hG A g1
  have g3 := ok3 X hG A g2
  have g4 := ok4 X hG A g3
  have g5 := ok5 X hG A g4
  have g6 := ok6 X hG A g5
  have g7 := ok7 X hG A g6
  have g8 := ok8 X hG A g7
  have g9 := ok9 X hG A g8
  have g10 := ok10 X hG A g9
  have g11 := ok11 X hG A g10
  have g12 := ok12 X hG A g11
  have g13 := ok13 X hG A g12
  have g14 := ok14 X hG A g13
  have g15 := ok15 X hG A g14
  have g16 := ok16 X hG A g15
  have g17 := ok17 X hG A g16
  have g18 := ok18 X hG A g17
  have g19 := ok19 X hG A g18
  have g20 := ok20 X hG A g19
  have g21 := ok21 X hG A g20
  have g22 := ok22 X hG A g21
  have g23 := ok23 X hG A g22
  have g24 := ok24 X hG A g23
  have g25 := ok25 X hG A g24
  have g26 := ok26 X hG A g25
  have g27 := ok27 X hG A g26
  have g28 := ok28 X hG A g27
  have g29 := ok29 X hG A g28
  have g30 := ok30 X hG A g29
  have g31 := ok31 X hG A g30
  have g32 := ok32 X hG A g31
  have g33 := ok33 X hG A g32
  have g34 := ok34 X hG A g33
  have g35 := ok35 X hG A g34
  have g36 := ok36 X hG A g35
  have g37 := ok37 X hG A g36
  have g38 := ok38 X hG A g37
  exact ((def_ok g38 (by decide) F sc_law ck_law (S := SLaw) fun ds G Q E hl h => run_law ⟨(by rfl), (by rfl), (by rfl), (by rfl), (by rfl), (by rfl), (by rfl)⟩ hl h).mono (by decide)).imp fun vs H Q E h => law_imp h
theorem law_end {fa : Addr} (X : K.In h) (hG : h.Ns mainGlobals mg) (hmg : mg "law" = some (.ref fa)) (A : Defs K) (ok : ∀ base, GOk Γ0 2 true P w K mg base) : ∃ fd : FuncData, (∀ (s : Shared) (u : Value), BindsTo s fd ⟨[u], []⟩ [("script", u)]) ∧ ∀ base : Heap, K.In base → base.Ns mainGlobals mg → FnOk P w K mg base (L2.CX P w) 60 fa fd ["script"] (spLaw K) := by
  obtain ⟨f, fd, a, F⟩ := A.d_law.ex
  have e := hmg.symm.trans (PySem.W.mg_of X hG a)
  cases e
  refine ⟨fd, ?_, fun base _ _ => law_all X hG A (ok base) F⟩
  obtain ⟨oc, od, kV, doc, pm, an, cdv, ct, osl, rfl, lk, hcd⟩ := F.ex
  exact fun s u => .of_eq rfl
end
end DL.K00

set_option Elab.async false
set_option linter.all false
set_option maxRecDepth 100000
set_option maxHeartbeats 4000000
namespace DL.K00
open PySem PySem.Spec PyProof.Rows L2 DL TL
/-! ### what stands before the first def -/
/-- a name of no object of the module -/
def NoName (K : PySem.W.Frag) (x : Str) : Prop := PySem.W.nsIn K mainGlobals x = some none
theorem exm_mk {K : PySem.W.Frag} {S C : Addr} {m : Bool} (h1 : PySem.W.subIn K (.ref C) (.type "BaseException") = some true) (h2 : PySem.W.isClsIn K C = true) (h3 : PySem.W.typeIn K (.ref C) = some (.type "type")) (h4 : PySem.W.subIn K (.ref S) (.ref C) = some m) :
    PySem.W.exmOne K (.ref S) (.ref C) = some m := by
  have e1 : (PySem.W.subIn K (.ref C) (.type "BaseException") == some true) = true := by rw [h1]; cases m <;> rfl
  have e2 : ((PySem.W.clsIn K C).isSome && PySem.W.typeIn K (.ref C) == some (.type "type")) = true := by
    have h2' : (PySem.W.clsIn K C).isSome = true := h2
    rw [h2', h3] <;> rfl
  show (if (PySem.W.subIn K (.ref C) (.type "BaseException") == some true) = true then (if ((PySem.W.clsIn K C).isSome && PySem.W.typeIn K (.ref C) == some (.type "type")) = true then PySem.W.subIn K (.ref S) (.ref C) else none) else none) = some m
  rw [if_pos e1, if_pos e2]
  exact h4
/-- an own exception class with one field, given -/
structure GivenAt (K : PySem.W.Frag) (C : Addr) (st : Stmt) : Prop where
  ex : ∃ fI fd qual, OexC K C ∧ PySem.W.findIn K (.ref C) "__init__" = some (some (.ref fI)) ∧ PySem.W.typeIn K (.ref fI) = some (.type "function") ∧ Fun K "__init__" qual st fI fd ∧ PySem.W.findIn K (.ref C) "given" = some none ∧ XfC K C
theorem given_mk {K : PySem.W.Frag} {C : Addr} {st : Stmt} {nm q : Str} {N : Addr} {bs bm : List Value} {sn : List Str} {sub : List Value} {ab : Bool} {col : Option Bool} {dd : Option Addr} {m0 m1 m2 m3 m5 : Option Value}
    {qual : Str} {f : Addr} {oc : Value} {od an : Option Addr} {osl : Array (Option Value)} {kV doc pm cdv ct : Value}
    (xL : K.lookup C = some (excClassObj nm q C N bs bm true sn sub ab col dd m0 m1 m2 m3 m5 "ValueError.__new__")) (xv : PySem.HandSPX.refsVE bm = true)
    (sa : PySem.W.findIn K (.ref C) "__setattr__" = some (some (.builtin "object.__setattr__"))) (ga : PySem.W.findIn K (.ref C) "__getattribute__" = some (some (.builtin "BaseException.__getattribute__"))) (gg : PySem.W.findIn K (.ref C) "__getattr__" = some none)
    (nb : PySem.W.findIn K (.ref C) "given" = some none) (a1 : PySem.W.findIn K (.ref C) "__init__" = some (some (.ref f))) (t1 : PySem.W.typeIn K (.ref f) = some (.type "function"))
    (l1 : K.lookup f = some ⟨oc, od, .func (PySem.W.fnOf "__init__" qual (defArgs st) (defBody st) (defScope st) .none kV doc pm an cdv ct), osl⟩) (c1 : PySem.W.codeIn K cdv qual = true) (k1 : PySem.W.keepIn K (.ref f) = true)
    (kC : PySem.W.keepIn K (.ref C) = true) (eC : PySem.W.subIn K (.ref C) (.type "BaseException") = some true) (tC : PySem.W.typeIn K (.ref C) = some (.type "type")) (hC : PySem.W.hasDictIn K C = true) : GivenAt K C st :=
  ⟨f, _, qual, ⟨⟨_, _, _, _, _, _, _, _, _, _, _, _, _, _, _, xL, xv⟩, sa, eC, tC, kC⟩, a1, t1, fun_mk l1 c1 k1, nb, ⟨ga, gg, eC, hC⟩⟩
theorem ex_given {P : Program} {w : World} {K : PySem.W.Frag} {mg : Str → Option Value} {base h : Heap} (X : K.In h) (hG : h.Ns mainGlobals mg) {x : Str} {C : Addr} {st : Stmt} (a : PySem.W.nsIn K mainGlobals x = some (some (.ref C))) (A : GivenAt K C st)
    (sc : FnScope ["self", "given"] ["self", "given"] (defScope st)) {p1 p2 p3 p4 pos : Pos} (hb : defBody st = [.Assign [.Attribute (.Name "self" p1) "given" p2] (.Name "given" p3) pos]) (h1 : (defScope st).names.lookup ("self" : Str) = some NameKind.local) (h2 : (defScope st).names.lookup ("given" : Str) = some NameKind.local)
    (hbi : ∀ (qual : Str) (kV doc pm : Value) (an : Option Addr) (cdv ct : Value) (us : List Value), us.length = (["self", "given"] : List Str).length → bindArgs (PySem.W.fnOf "__init__" qual (defArgs st) (defBody st) (defScope st) .none kV doc pm an cdv ct) ⟨us, []⟩ = pure ((["self", "given"] : List Str).zip us)) : ExOk P w K mg base x ["given"] := by
  obtain ⟨fI, fd, qual, o, i, t, F, n, xf⟩ := A.ex
  exact ⟨C, fI, fd, PySem.W.mg_of X hG a, o, i, t, init_ok (p4 := p4) F sc hb h1 h2 (by decide), F.binds (hbi qual), n, xf⟩
theorem ok_start {P : Program} {w : World} {K : PySem.W.Frag} {mg : Str → Option Value} {base h : Heap} (X : K.In h) (hG : h.Ns mainGlobals mg) {C1 C2 C3 : Addr} {t1 : Tok} {t2 : Tok}
    (aN : PySem.W.nsIn K mainGlobals "InvalidNumber" = some (some (.ref C1))) (aT : PySem.W.nsIn K mainGlobals "InvalidText" = some (some (.ref C2))) (aZ : PySem.W.nsIn K mainGlobals "DividedByZero" = some (some (.ref C3)))
    (gN : GivenAt K C1 (inClass (topS 4) 0)) (gT : GivenAt K C2 (inClass (topS 5) 0)) (zX : PySem.W.excIn K C3 veB "ValueError.__new__" = true) (zK : PySem.W.keepIn K (.ref C3) = true) (zB : PySem.W.subIn K (.ref C3) (.type "BaseException") = some true) (zT : PySem.W.typeIn K (.ref C3) = some (.type "type"))
    (dg : PySem.W.nsIn K mainGlobals "DIGITS" = some (some (.str "0123456789" t1))) (md : PySem.W.nsIn K mainGlobals "MOST_DIGITS" = some (some (.int 1000 t2))) (gc : PySem.W.nsIn K mainGlobals "gcd" = some (some (.builtin "math.gcd")))
    (nn : PySem.W.exmOne K (.ref C1) (.ref C1) = some true) (tn : PySem.W.exmOne K (.ref C2) (.ref C1) = some false) (tt : PySem.W.exmOne K (.ref C2) (.ref C2) = some true) (zn : PySem.W.exmOne K (.ref C3) (.ref C1) = some false) (zt : PySem.W.exmOne K (.ref C3) (.ref C2) = some false) (zz : PySem.W.exmOne K (.ref C3) (.ref C3) = some true)
    (bt : ∀ x ∈ bNames, PySem.W.nsIn K mainGlobals x = some none) : GOk Γ0 2 true P w K mg base := by
  refine ⟨fun f fi e => (by cases e), fun x hx => PySem.W.mg_none_of X hG (bt x hx), fun _ => PySem.W.mg_of X hG gc, fun x d e => ?_, fun x fs e => ?_, fun x e => ?_, fun x y m e => ?_⟩
  · unfold Γ0 at e
    simp only at e
    split at e
    · rename_i hx; subst hx; cases e
      exact ⟨_, .str _, PySem.W.mg_of X hG dg, ⟨_, rfl⟩, fun H => rfl⟩
    · split at e
      · rename_i hx; subst hx; cases e
        exact ⟨_, .int 1000, PySem.W.mg_of X hG md, ⟨_, rfl⟩, fun H => rfl⟩
      · cases e
  · unfold Γ0 at e
    simp only at e
    split at e
    · rename_i hx; subst hx; cases e
      exact ex_given (p4 := ⟨0, 0, 0, 0⟩) X hG aN gN ⟨rfl, rfl, rfl, by decide +kernel, rfl, by decide +kernel, by decide +kernel⟩ rfl rfl rfl (fun _ _ _ _ _ _ _ us hl => match us, hl with | [_, _], _ => rfl)
    · split at e
      · rename_i hx; subst hx; cases e
        exact ex_given (p4 := ⟨0, 0, 0, 0⟩) X hG aT gT ⟨rfl, rfl, rfl, by decide +kernel, rfl, by decide +kernel, by decide +kernel⟩ rfl rfl rfl (fun _ _ _ _ _ _ _ us hl => match us, hl with | [_, _], _ => rfl)
      · split at e
        · rename_i hx; subst hx; cases e
          exact ⟨C3, PySem.W.mg_of X hG aZ, zX, zK, zB, zT⟩
        · cases e
  · unfold Γ0 at e
    simp only at e
    split at e
    · rename_i hx; subst hx; exact ⟨by decide, C1, PySem.W.mg_of X hG aN⟩
    · split at e
      · rename_i hx; subst hx; exact ⟨by decide, C2, PySem.W.mg_of X hG aT⟩
      · split at e
        · rename_i hx; subst hx; exact ⟨by decide, C3, PySem.W.mg_of X hG aZ⟩
        · cases e
  · unfold Γ0 at e
    simp only at e
    have mN := PySem.W.mg_of X hG aN
    have mT := PySem.W.mg_of X hG aT
    have mZ := PySem.W.mg_of X hG aZ
    by_cases x1 : x = "InvalidNumber"
    · subst x1
      by_cases y1 : y = "InvalidNumber"
      · subst y1; cases e; exact ⟨_, _, mN, mN, nn⟩
      · simp [y1] at e
    · by_cases x2 : x = "InvalidText"
      · subst x2
        by_cases y1 : y = "InvalidNumber"
        · subst y1; cases e; exact ⟨_, _, mT, mN, tn⟩
        · by_cases y2 : y = "InvalidText"
          · subst y2; cases e; exact ⟨_, _, mT, mT, tt⟩
          · simp [y1, y2] at e
      · by_cases x3 : x = "DividedByZero"
        · subst x3
          by_cases y1 : y = "InvalidNumber"
          · subst y1; cases e; exact ⟨_, _, mZ, mN, zn⟩
          · by_cases y2 : y = "InvalidText"
            · subst y2; cases e; exact ⟨_, _, mZ, mT, zt⟩
            · by_cases y3 : y = "DividedByZero"
              · subst y3; cases e; exact ⟨_, _, mZ, mZ, zz⟩
              · simp [y1, y2, y3] at e
        · simp [x1, x2, x3] at e
theorem bt_mk {K : PySem.W.Frag} (z0 : PySem.W.nsIn K mainGlobals "len" = some none) (z1 : PySem.W.nsIn K mainGlobals "abs" = some none) (z2 : PySem.W.nsIn K mainGlobals "int" = some none) (z3 : PySem.W.nsIn K mainGlobals "str" = some none) (z4 : PySem.W.nsIn K mainGlobals "sum" = some none) (z5 : PySem.W.nsIn K mainGlobals "max" = some none) (z6 : PySem.W.nsIn K mainGlobals "min" = some none) (z7 : PySem.W.nsIn K mainGlobals "all" = some none) (z8 : PySem.W.nsIn K mainGlobals "any" = some none) (z9 : PySem.W.nsIn K mainGlobals "list" = some none) (z10 : PySem.W.nsIn K mainGlobals "tuple" = some none) (z11 : PySem.W.nsIn K mainGlobals "bool" = some none) (z12 : PySem.W.nsIn K mainGlobals "dict" = some none) (z13 : PySem.W.nsIn K mainGlobals "isinstance" = some none) (z14 : PySem.W.nsIn K mainGlobals "range" = some none) (z15 : PySem.W.nsIn K mainGlobals "enumerate" = some none) (z16 : PySem.W.nsIn K mainGlobals "zip" = some none) (z17 : PySem.W.nsIn K mainGlobals "reversed" = some none) : ∀ x ∈ bNames, PySem.W.nsIn K mainGlobals x = some none := by
  intro x hx
  simp only [bNames, List.mem_cons, List.not_mem_nil, or_false] at hx
  rcases hx with rfl | rfl | rfl | rfl | rfl | rfl | rfl | rfl | rfl | rfl | rfl | rfl | rfl | rfl | rfl | rfl | rfl | rfl
  · exact z0
  · exact z1
  · exact z2
  · exact z3
  · exact z4
  · exact z5
  · exact z6
  · exact z7
  · exact z8
  · exact z9
  · exact z10
  · exact z11
  · exact z12
  · exact z13
  · exact z14
  · exact z15
  · exact z16
  · exact z17
end DL.K00

set_option Elab.async false
set_option maxRecDepth 100000
open PySem PySem.W PyProof.Rows
set_option maxHeartbeats 0 in
theorem PySem.Challenge.cw_polybench_k00_fractions_holds : PySem.Challenge.rw_polybench_k00_fractions.Holds := by
  w_on; o_law; k_head; (case hw => w_witness2)
  k_fill
  refine L2.walk_of (l := PySem.Challenge.rw_polybench_k00_fractions) (n := 63) (k := 60) (x := "script") (CX := fun w => L2.CX PySem.Challenge.pw_polybench_k00_fractions w) (sp := fun w => DL.spLaw _) rfl (by decide) rfl ⟨rfl, by decide, by decide⟩ (fun w h Y => PySem.W.kIn_of Y) ?F (fun _ _ a ns hl ho hS => ⟨a, ns, rfl, DL.sqv_only ho hS, hl, fun _ => rfl⟩) (fun _ _ _ _ _ ⟨_, _, _, _, _, _, _, _, _, _, _, _, h⟩ => h)
  case F =>
    intro w mg fa h KX G hmg
    refine' DL.K00.law_end KX G hmg ?dd (fun base => DL.K00.ok_start KX G ?aN ?aT ?aZ ?gN ?gT ?zX ?zK ?zB ?zT ?dg ?md ?gc ?nn ?tn ?tt ?zn ?zt ?zz ?bt)
    (case dd =>
      refine ⟨?d0, ?d1, ?d2, ?d3, ?d4, ?d5, ?d6, ?d7, ?d8, ?d9, ?d10, ?d11, ?d12, ?d13, ?d14, ?d15, ?d16, ?d17, ?d18, ?d19, ?d20, ?d21, ?d22, ?d23, ?d24, ?d25, ?d26, ?d27, ?d28, ?d29, ?d30, ?d31, ?d32, ?d33, ?d34⟩
      (case d0 => refine' DL.K00.defAt_mk ?a ?l ?c ?k; (case a => k_is); (case l => k_is); (case c => k_is); (case k => k_is))
      (case d1 => refine' DL.K00.defAt_mk ?a ?l ?c ?k; (case a => k_is); (case l => k_is); (case c => k_is); (case k => k_is))
      (case d2 => refine' DL.K00.defAt_mk ?a ?l ?c ?k; (case a => k_is); (case l => k_is); (case c => k_is); (case k => k_is))
      (case d3 => refine' DL.K00.defAt_mk ?a ?l ?c ?k; (case a => k_is); (case l => k_is); (case c => k_is); (case k => k_is))
      (case d4 => refine' DL.K00.defAt_mk ?a ?l ?c ?k; (case a => k_is); (case l => k_is); (case c => k_is); (case k => k_is))
      (case d5 => refine' DL.K00.defAt_mk ?a ?l ?c ?k; (case a => k_is); (case l => k_is); (case c => k_is); (case k => k_is))
      (case d6 => refine' DL.K00.defAt_mk ?a ?l ?c ?k; (case a => k_is); (case l => k_is); (case c => k_is); (case k => k_is))
      (case d7 => refine' DL.K00.defAt_mk ?a ?l ?c ?k; (case a => k_is); (case l => k_is); (case c => k_is); (case k => k_is))
      (case d8 => refine' DL.K00.defAt_mk ?a ?l ?c ?k; (case a => k_is); (case l => k_is); (case c => k_is); (case k => k_is))
      (case d9 => refine' DL.K00.defAt_mk ?a ?l ?c ?k; (case a => k_is); (case l => k_is); (case c => k_is); (case k => k_is))
      (case d10 => refine' DL.K00.defAt_mk ?a ?l ?c ?k; (case a => k_is); (case l => k_is); (case c => k_is); (case k => k_is))
      (case d11 => refine' DL.K00.defAt_mk ?a ?l ?c ?k; (case a => k_is); (case l => k_is); (case c => k_is); (case k => k_is))
      (case d12 => refine' DL.K00.defAt_mk ?a ?l ?c ?k; (case a => k_is); (case l => k_is); (case c => k_is); (case k => k_is))
      (case d13 => refine' DL.K00.defAt_mk ?a ?l ?c ?k; (case a => k_is); (case l => k_is); (case c => k_is); (case k => k_is))
      (case d14 => refine' DL.K00.defAt_mk ?a ?l ?c ?k; (case a => k_is); (case l => k_is); (case c => k_is); (case k => k_is))
      (case d15 => refine' DL.K00.defAt_mk ?a ?l ?c ?k; (case a => k_is); (case l => k_is); (case c => k_is); (case k => k_is))
      (case d16 => refine' DL.K00.defAt_mk ?a ?l ?c ?k; (case a => k_is); (case l => k_is); (case c => k_is); (case k => k_is))
      (case d17 => refine' DL.K00.defAt_mk ?a ?l ?c ?k; (case a => k_is); (case l => k_is); (case c => k_is); (case k => k_is))
      (case d18 => refine' DL.K00.defAt_mk ?a ?l ?c ?k; (case a => k_is); (case l => k_is); (case c => k_is); (case k => k_is))
      (case d19 => refine' DL.K00.defAt_mk ?a ?l ?c ?k; (case a => k_is); (case l => k_is); (case c => k_is); (case k => k_is))
      (case d20 => refine' DL.K00.defAt_mk ?a ?l ?c ?k; (case a => k_is); (case l => k_is); (case c => k_is); (case k => k_is))
      (case d21 => refine' DL.K00.defAt_mk ?a ?l ?c ?k; (case a => k_is); (case l => k_is); (case c => k_is); (case k => k_is))
      (case d22 => refine' DL.K00.defAt_mk ?a ?l ?c ?k; (case a => k_is); (case l => k_is); (case c => k_is); (case k => k_is))
      (case d23 => refine' DL.K00.defAt_mk ?a ?l ?c ?k; (case a => k_is); (case l => k_is); (case c => k_is); (case k => k_is))
      (case d24 => refine' DL.K00.defAt_mk ?a ?l ?c ?k; (case a => k_is); (case l => k_is); (case c => k_is); (case k => k_is))
      (case d25 => refine' DL.K00.defAt_mk ?a ?l ?c ?k; (case a => k_is); (case l => k_is); (case c => k_is); (case k => k_is))
      (case d26 => refine' DL.K00.defAt_mk ?a ?l ?c ?k; (case a => k_is); (case l => k_is); (case c => k_is); (case k => k_is))
      (case d27 => refine' DL.K00.defAt_mk ?a ?l ?c ?k; (case a => k_is); (case l => k_is); (case c => k_is); (case k => k_is))
      (case d28 => refine' DL.K00.defAt_mk ?a ?l ?c ?k; (case a => k_is); (case l => k_is); (case c => k_is); (case k => k_is))
      (case d29 => refine' DL.K00.defAt_mk ?a ?l ?c ?k; (case a => k_is); (case l => k_is); (case c => k_is); (case k => k_is))
      (case d30 => refine' DL.K00.defAt_mk ?a ?l ?c ?k; (case a => k_is); (case l => k_is); (case c => k_is); (case k => k_is))
      (case d31 => refine' DL.K00.defAt_mk ?a ?l ?c ?k; (case a => k_is); (case l => k_is); (case c => k_is); (case k => k_is))
      (case d32 => refine' DL.K00.defAt_mk ?a ?l ?c ?k; (case a => k_is); (case l => k_is); (case c => k_is); (case k => k_is))
      (case d33 => refine' DL.K00.defAt_mk ?a ?l ?c ?k; (case a => k_is); (case l => k_is); (case c => k_is); (case k => k_is))
      (case d34 => refine' DL.K00.defAt_mk ?a ?l ?c ?k; (case a => k_is); (case l => k_is); (case c => k_is); (case k => k_is)))
    (case aN => k_is); (case aT => k_is); (case aZ => k_is)
    (case gN => refine' DL.K00.given_mk ?xL ?xv ?sa ?ga ?gg ?nb ?a1 ?t1 ?l1 ?c1 ?k1 ?kC ?eC ?tC ?hC; (case xL => k_is); (case xv => rfl); (case sa => k_is); (case ga => k_is); (case gg => k_is); (case nb => k_is); (case a1 => k_is); (case t1 => k_is); (case l1 => k_is); (case c1 => k_is); (case k1 => k_is); (case kC => k_is); (case eC => k_is); (case tC => k_is); (case hC => k_is))
    (case gT => refine' DL.K00.given_mk ?xL ?xv ?sa ?ga ?gg ?nb ?a1 ?t1 ?l1 ?c1 ?k1 ?kC ?eC ?tC ?hC; (case xL => k_is); (case xv => rfl); (case sa => k_is); (case ga => k_is); (case gg => k_is); (case nb => k_is); (case a1 => k_is); (case t1 => k_is); (case l1 => k_is); (case c1 => k_is); (case k1 => k_is); (case kC => k_is); (case eC => k_is); (case tC => k_is); (case hC => k_is))
    (case zX => first | k_exc | rfl | decide +kernel); (case zK => k_is); (case zB => k_is); (case zT => k_is); (case dg => k_is); (case md => k_is); (case gc => k_is)
    (case nn => refine' DL.K00.exm_mk ?h1 ?h2 ?h3 ?h4; (case h1 => k_is); (case h2 => k_is); (case h3 => k_is); (case h4 => first | rfl | k_is))
    (case tn => refine' DL.K00.exm_mk ?h1 ?h2 ?h3 ?h4; (case h1 => k_is); (case h2 => k_is); (case h3 => k_is); (case h4 => first | rfl | k_is))
    (case tt => refine' DL.K00.exm_mk ?h1 ?h2 ?h3 ?h4; (case h1 => k_is); (case h2 => k_is); (case h3 => k_is); (case h4 => first | rfl | k_is))
    (case zn => refine' DL.K00.exm_mk ?h1 ?h2 ?h3 ?h4; (case h1 => k_is); (case h2 => k_is); (case h3 => k_is); (case h4 => first | rfl | k_is))
    (case zt => refine' DL.K00.exm_mk ?h1 ?h2 ?h3 ?h4; (case h1 => k_is); (case h2 => k_is); (case h3 => k_is); (case h4 => first | rfl | k_is))
    (case zz => refine' DL.K00.exm_mk ?h1 ?h2 ?h3 ?h4; (case h1 => k_is); (case h2 => k_is); (case h3 => k_is); (case h4 => first | rfl | k_is))
    (case bt => refine' DL.K00.bt_mk ?z0 ?z1 ?z2 ?z3 ?z4 ?z5 ?z6 ?z7 ?z8 ?z9 ?z10 ?z11 ?z12 ?z13 ?z14 ?z15 ?z16 ?z17; (case z0 => k_is); (case z1 => k_is); (case z2 => k_is); (case z3 => k_is); (case z4 => k_is); (case z5 => k_is); (case z6 => k_is); (case z7 => k_is); (case z8 => k_is); (case z9 => k_is); (case z10 => k_is); (case z11 => k_is); (case z12 => k_is); (case z13 => k_is); (case z14 => k_is); (case z15 => k_is); (case z16 => k_is); (case z17 => k_is))

