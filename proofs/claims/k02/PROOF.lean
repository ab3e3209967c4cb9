import PyProof.Rows.All
import Wide.All
import OpenK.AllK
import Wide.FinOn
import HandS.ForMost
import HandS.ForExc
import HandS.Wide
import HandS.TupAny
import HandS.Small
import HandS.IsInst
import HandS.SortInts
import HandS.More
import HandS.Rev
import HandS.Zip
import HandS.EndBits
import HandS.Style
import PyProof.EqLayable
import PyProof.P3Eq
import HandS.Iter
import PyProof.Rows.SortShellAny
import PySem.Challenge.RW_needonce_k02_layout_by_its_rules
set_option Elab.async false
set_option linter.all false
set_option maxRecDepth 100000
/-! FL: a functional layer over HandS. Values as data (tuples without addresses), a heap of numbered mutable objects, each def a function of data and heap. -/
namespace FL
open PySem PySem.Spec PyProof.Rows L2

inductive D where
  | non | bl (b : Bool) | int (i : Int) | str (x : Str) | ty (n : String) | ref (i : Nat) | tup (ds : List D) | cst (ds : List D)

inductive MO where
  | lst (ds : List D)
  | dK (kvs : List (Key × D))
  | fdK (kvs : List (Key × D))
  | ins (C : Addr) (fs : List (Str × D))

abbrev HS := List MO
abbrev Sl := List (Option D)

/-- an exception: its class, its own attributes -/
structure XV where
  cls : Addr
  fs : Option (List (Str × D))

inductive R (α : Type) where
  | bad | ok (a : α) (h : HS) | ex (x : XV) (h : HS)

def R.bind {α β : Type} (m : R α) (f : α → HS → R β) : R β := match m with
  | .bad => .bad
  | .ok a h => f a h
  | .ex x h => .ex x h

/-- a list that no code of ours writes: locked, or of the module -/
def CsL (K : PySem.W.Frag) (H : Hp) (a : Addr) (vs : List V) : Prop :=
  (∃ o, H a = some (.frz o (.lst vs))) ∨
    ∃ (o : Obj) (its : Array Value) (n : Nat), K.lookup a = some o ∧ o.cls = .type "list" ∧ o.dict = none ∧ o.data = .seq its n ∧ its.size ≤ sizeLine ∧ Vals vs its.toList
theorem CsL.sq {K : PySem.W.Frag} {H : Hp} {a : Addr} {vs : List V} (h : CsL K H a vs) : SqL K H a vs := by
  rcases h with ⟨o, h⟩ | h
  · exact .inl (.inr ⟨o, h⟩)
  · exact .inr h

mutual
inductive DV (K : PySem.W.Frag) (ρ : List Addr) (H : Hp) : D → V → Prop where
  | non : DV K ρ H .non .non
  | bl (b : Bool) : DV K ρ H (.bl b) (.bl b)
  | int (i : Int) : DV K ρ H (.int i) (.int i)
  | str (x : Str) : DV K ρ H (.str x) (.str x)
  | ty (n : String) : DV K ρ H (.ty n) (.ty n)
  | ref {i : Nat} {a : Addr} : ρ[i]? = some a → DV K ρ H (.ref i) (.ref a)
  | tup {a : Addr} {vs : List V} {ds : List D} : SqT K H a vs → DVs K ρ H ds vs → DV K ρ H (.tup ds) (.ref a)
  | cst {a : Addr} {vs : List V} {ds : List D} : CsL K H a vs → DVs K ρ H ds vs → DV K ρ H (.cst ds) (.ref a)
inductive DVs (K : PySem.W.Frag) (ρ : List Addr) (H : Hp) : List D → List V → Prop where
  | nil : DVs K ρ H [] []
  | cons {d : D} {v : V} {ds : List D} {vs : List V} : DV K ρ H d v → DVs K ρ H ds vs → DVs K ρ H (d :: ds) (v :: vs)
end

abbrev KDs (κ : Type) (K : PySem.W.Frag) (ρ : List Addr) (H : Hp) : List (κ × D) → List (κ × V) → Prop := Paired fun p q => p.1 = q.1 ∧ DV K ρ H p.2 q.2

def RepO (K : PySem.W.Frag) (ρ : List Addr) (H : Hp) (a : Addr) : MO → Prop
  | .lst ds => ∃ vs, H a = some (.lst vs) ∧ DVs K ρ H ds vs
  | .dK kvs => ∃ vk, H a = some (.dK vk) ∧ KDs Key K ρ H kvs vk
  | .fdK kvs => ∃ o vk, H a = some (.frz o (.dK vk)) ∧ KDs Key K ρ H kvs vk
  | .ins C fs => ∃ dx vf, H a = some (.ins C dx vf) ∧ KDs Str K ρ H fs vf

structure Rep (K : PySem.W.Frag) (ρ : List Addr) (h : HS) (H : Hp) : Prop where
  len : ρ.length = h.length
  nd : ρ.Nodup
  obj : ∀ (i : Nat) (o : MO) (a : Addr), h[i]? = some o → ρ[i]? = some a → RepO K ρ H a o

structure Ext (ρ : List Addr) (H : Hp) (ρ' : List Addr) (H' : Hp) : Prop where
  pre : ∃ e, ρ' = ρ ++ e ∧ ∀ a ∈ e, H a = none
  keep : ∀ a o, H a = some o → a ∉ ρ → H' a = some o
  frz : ∀ a o u, H a = some (.frz o u) → H' a = some (.frz o u)
def isFz : HO → Bool
  | .frz _ _ => true
  | _ => false

section
variable {K : PySem.W.Frag} {ρ ρ1 ρ2 ρ' : List Addr} {h h' h1 : HS} {H H1 H2 H' : Hp}
theorem Ext.refl : Ext ρ H ρ H := ⟨⟨[], by simp, by simp⟩, fun _ _ e _ => e, fun _ _ _ e => e⟩
theorem Ext.trans (e1 : Ext ρ H ρ1 H1) (e2 : Ext ρ1 H1 ρ2 H2) (nd : ρ2.Nodup) : Ext ρ H ρ2 H2 := by
  obtain ⟨x, rfl, hx⟩ := e1.pre
  obtain ⟨y, rfl, hy⟩ := e2.pre
  rw [List.append_assoc] at nd
  have key : ∀ a o, H a = some o → a ∉ ρ → a ∉ ρ ++ x := fun a o e n z => by
    rcases List.mem_append.mp z with z | z
    · exact n z
    · rw [hx a z] at e; cases e
  refine ⟨⟨x ++ y, List.append_assoc .., fun a ha => ?_⟩, fun a o e n => e2.keep a o (e1.keep a o e n) (key a o e n), fun a o u e => e2.frz a o u (e1.frz a o u e)⟩
  rcases List.mem_append.mp ha with z | z
  · exact hx a z
  · cases q : H a with
    | none => rfl
    | some o =>
      have n : a ∉ ρ := fun z2 => (List.nodup_append.mp nd).2.2 a z2 a (List.mem_append_right x z) rfl
      have := e1.keep a o q n
      rw [hy a z] at this; cases this
theorem Ext.ix (e : Ext ρ H ρ' H') {i : Nat} {a : Addr} (q : ρ[i]? = some a) : ρ'[i]? = some a := by
  obtain ⟨x, rfl, _⟩ := e.pre
  rw [List.getElem?_append_left (List.getElem?_eq_some_iff.mp q).1]
  exact q
theorem Rep.mem (r : Rep K ρ h H) {a : Addr} (ha : a ∈ ρ) : ∃ (i : Nat) (o : MO), h[i]? = some o ∧ ρ[i]? = some a ∧ RepO K ρ H a o := by
  obtain ⟨i, hi, e⟩ := List.mem_iff_getElem.mp ha
  have hi' : i < h.length := by rw [← r.len]; exact hi
  have e1 : ρ[i]? = some a := by rw [List.getElem?_eq_getElem hi, e]
  have e2 : h[i]? = some h[i] := List.getElem?_eq_getElem hi'
  exact ⟨i, h[i], e2, e1, r.obj i _ a e2 e1⟩
theorem RepO.some {a : Addr} {o : MO} (r : RepO K ρ H a o) : ∃ u, H a = some u ∧ (∀ xs, u ≠ .tup xs) ∧ ∀ ob xs, u ≠ .frz ob (.lst xs) ∧ u ≠ .frz ob (.tup xs) := by
  cases o with
  | lst ds => obtain ⟨vs, e, _⟩ := r; exact ⟨_, e, (fun _ z => by cases z), fun _ _ => ⟨(fun z => by cases z), (fun z => by cases z)⟩⟩
  | dK ds => obtain ⟨vs, e, _⟩ := r; exact ⟨_, e, (fun _ z => by cases z), fun _ _ => ⟨(fun z => by cases z), (fun z => by cases z)⟩⟩
  | fdK ds => obtain ⟨ob, vs, e, _⟩ := r; exact ⟨_, e, (fun _ z => by cases z), fun _ _ => ⟨(fun z => by cases z), (fun z => by cases z)⟩⟩
  | ins C fs => obtain ⟨dx, vs, e, _⟩ := r; exact ⟨_, e, (fun _ z => by cases z), fun _ _ => ⟨(fun z => by cases z), (fun z => by cases z)⟩⟩
theorem Rep.tupNo (r : Rep K ρ h H) {a : Addr} {xs : List V} (e : Rd H a (.tup xs)) : a ∉ ρ := fun ha => by
  obtain ⟨i, o, _, _, q⟩ := r.mem ha
  obtain ⟨u, e1, n1, n2⟩ := q.some
  rcases e with e | ⟨ob, e⟩
  · rw [e] at e1; cases e1; exact n1 _ rfl
  · rw [e] at e1; cases e1; exact (n2 _ _).2 rfl
theorem Rep.cstNo (r : Rep K ρ h H) {a : Addr} {ob : Obj} {xs : List V} (e : H a = some (.frz ob (.lst xs))) : a ∉ ρ := fun ha => by
  obtain ⟨i, o, _, _, q⟩ := r.mem ha
  obtain ⟨u, e1, n1, n2⟩ := q.some
  rw [e] at e1; cases e1; exact (n2 _ _).1 rfl
/-- what keeps the data readable: numbers keep their addresses, tuples and locked things stay -/
structure Kp (ρ : List Addr) (H : Hp) (ρ' : List Addr) (H' : Hp) : Prop where
  ix : ∀ (i : Nat) (a : Addr), ρ[i]? = some a → ρ'[i]? = some a
  tup : ∀ a xs, H a = some (.tup xs) → H' a = some (.tup xs)
  frt : ∀ a o xs, H a = some (.frz o (.tup xs)) → H' a = some (.frz o (.tup xs))
  frl : ∀ a o xs, H a = some (.frz o (.lst xs)) → H' a = some (.frz o (.lst xs))
theorem Kp.of (r : Rep K ρ h H) (e : Ext ρ H ρ' H') : Kp ρ H ρ' H' :=
  ⟨fun _ _ q => e.ix q, fun a xs q => e.keep a _ q (r.tupNo (.inl q)), fun a o xs q => e.frz a o _ q, fun a o xs q => e.frz a o _ q⟩
/-- a thing that is no tuple and no locked row is changed -/
theorem Kp.upd1 {ρ : List Addr} {H : Hp} {a : Addr} {o u : HO} (e : H a = some u) (h1 : ∀ xs, u ≠ .tup xs) (h2 : ∀ ob xs, u ≠ .frz ob (.tup xs)) (h3 : ∀ ob xs, u ≠ .frz ob (.lst xs)) : Kp ρ H ρ (upd H a o) := by
  refine ⟨fun _ _ q => q, fun b ys q => ?_, fun b ob ys q => ?_, fun b ob ys q => ?_⟩
  · have hb : b ≠ a := fun z => by subst z; rw [e] at q; exact h1 _ (Option.some.inj q)
    rw [upd_ne hb]; exact q
  · have hb : b ≠ a := fun z => by subst z; rw [e] at q; exact h2 _ _ (Option.some.inj q)
    rw [upd_ne hb]; exact q
  · have hb : b ≠ a := fun z => by subst z; rw [e] at q; exact h3 _ _ (Option.some.inj q)
    rw [upd_ne hb]; exact q
theorem sqT_kp (e : Kp ρ H ρ' H') {a : Addr} {vs : List V} (q : SqT K H a vs) : SqT K H' a vs := by
  rcases q with (q | ⟨o, q⟩) | q
  · exact .inl (.inl (e.tup _ _ q))
  · exact .inl (.inr ⟨o, e.frt _ _ _ q⟩)
  · exact .inr q
theorem csL_kp (e : Kp ρ H ρ' H') {a : Addr} {vs : List V} (q : CsL K H a vs) : CsL K H' a vs := by
  rcases q with ⟨o, q⟩ | q
  · exact .inl ⟨o, e.frl _ _ _ q⟩
  · exact .inr q
mutual
theorem DV.kp (e : Kp ρ H ρ' H') : ∀ {d : D} {v : V}, DV K ρ H d v → DV K ρ' H' d v
  | _, _, .non => .non
  | _, _, .bl b => .bl b
  | _, _, .int i => .int i
  | _, _, .str x => .str x
  | _, _, .ty n => .ty n
  | _, _, .ref q => .ref (e.ix _ _ q)
  | _, _, .tup q s => .tup (sqT_kp e q) (DVs.kp e s)
  | _, _, .cst q s => .cst (csL_kp e q) (DVs.kp e s)
theorem DVs.kp (e : Kp ρ H ρ' H') : ∀ {d : List D} {v : List V}, DVs K ρ H d v → DVs K ρ' H' d v
  | _, _, .nil => .nil
  | _, _, .cons q s => .cons (DV.kp e q) (DVs.kp e s)
end
theorem KDs.kp {κ : Type} (e : Kp ρ H ρ' H') {ks : List (κ × D)} {vs : List (κ × V)} (q : KDs κ K ρ H ks vs) : KDs κ K ρ' H' ks vs :=
  Paired.mapP q fun _ _ z => ⟨z.1, z.2.kp e⟩
theorem RepO.kp (e : Kp ρ H ρ' H') {a : Addr} {o : MO} (s : H' a = H a) (q : RepO K ρ H a o) : RepO K ρ' H' a o := by
  cases o with
  | lst ds => obtain ⟨vs, e1, d⟩ := q; exact ⟨vs, s.trans e1, d.kp e⟩
  | dK ds => obtain ⟨vs, e1, d⟩ := q; exact ⟨vs, s.trans e1, KDs.kp e d⟩
  | fdK ds => obtain ⟨ob, vs, e1, d⟩ := q; exact ⟨ob, vs, s.trans e1, KDs.kp e d⟩
  | ins C fs => obtain ⟨dx, vs, e1, d⟩ := q; exact ⟨dx, vs, s.trans e1, KDs.kp e d⟩
theorem DV.mono (r : Rep K ρ h H) (e : Ext ρ H ρ' H') {d : D} {v : V} (q : DV K ρ H d v) : DV K ρ' H' d v := q.kp (.of r e)
theorem DVs.mono (r : Rep K ρ h H) (e : Ext ρ H ρ' H') {d : List D} {v : List V} (q : DVs K ρ H d v) : DVs K ρ' H' d v := q.kp (.of r e)
theorem KDs.mono {κ : Type} (r : Rep K ρ h H) (e : Ext ρ H ρ' H') {ks : List (κ × D)} {vs : List (κ × V)} (q : KDs κ K ρ H ks vs) : KDs κ K ρ' H' ks vs := KDs.kp (.of r e) q
theorem RepO.mono (r : Rep K ρ h H) (e : Ext ρ H ρ' H') {a : Addr} {o : MO} (s : H' a = H a) (q : RepO K ρ H a o) : RepO K ρ' H' a o := q.kp (.of r e) s

theorem DVs.length : ∀ {ds : List D} {vs : List V}, DVs K ρ H ds vs → ds.length = vs.length
  | _, _, .nil => rfl
  | _, _, .cons _ s => by rw [List.length_cons, List.length_cons, s.length]
theorem DVs.get : ∀ {ds : List D} {vs : List V} {i : Nat} {d : D}, DVs K ρ H ds vs → ds[i]? = some d → ∃ v, vs[i]? = some v ∧ DV K ρ H d v
  | _, _, _, _, .nil, e => by simp at e
  | _, _, 0, _, .cons q _, e => by simp at e; subst e; exact ⟨_, rfl, q⟩
  | _, _, i + 1, d, .cons _ s, e => by
    obtain ⟨v, e1, q⟩ := DVs.get (i := i) (d := d) s (by simpa using e)
    exact ⟨v, by simpa using e1, q⟩
theorem DVs.append : ∀ {ds : List D} {vs : List V} {es : List D} {ws : List V}, DVs K ρ H ds vs → DVs K ρ H es ws → DVs K ρ H (ds ++ es) (vs ++ ws)
  | _, _, _, _, .nil, t => t
  | _, _, _, _, .cons q s, t => .cons q (s.append t)
theorem DVs.take : ∀ {ds : List D} {vs : List V} (n : Nat), DVs K ρ H ds vs → DVs K ρ H (ds.take n) (vs.take n)
  | _, _, 0, _ => .nil
  | _, _, _ + 1, .nil => .nil
  | _, _, n + 1, .cons q s => .cons q (s.take n)
theorem DVs.drop : ∀ {ds : List D} {vs : List V} (n : Nat), DVs K ρ H ds vs → DVs K ρ H (ds.drop n) (vs.drop n)
  | _, _, 0, s => s
  | _, _, _ + 1, .nil => .nil
  | _, _, n + 1, .cons _ s => s.drop n
theorem DVs.set {d : D} {v : V} (q : DV K ρ H d v) : ∀ {ds : List D} {vs : List V} (n : Nat), DVs K ρ H ds vs → DVs K ρ H (ds.set n d) (vs.set n v)
  | _, _, _, .nil => .nil
  | _, _, 0, .cons _ s => .cons q s
  | _, _, n + 1, .cons p s => .cons p (s.set q n)
theorem DVs.rev : ∀ {ds : List D} {vs : List V}, DVs K ρ H ds vs → DVs K ρ H ds.reverse vs.reverse
  | _, _, .nil => .nil
  | _, _, .cons q s => by rw [List.reverse_cons, List.reverse_cons]; exact s.rev.append (.cons q .nil)
theorem DVs.ints : ∀ (ns : List Int), DVs K ρ H (ns.map D.int) (ns.map V.int)
  | [] => .nil
  | n :: r => .cons (.int n) (DVs.ints r)
theorem DVs.toInts : ∀ {ns : List Int} {vs : List V}, DVs K ρ H (ns.map D.int) vs → vs = ns.map V.int
  | [], _, .nil => rfl
  | n :: r, _, .cons q s => by cases q; rw [DVs.toInts s]; rfl
theorem DVs.strs : ∀ (ns : List Str), DVs K ρ H (ns.map D.str) (ns.map V.str)
  | [] => .nil
  | n :: r => .cons (.str n) (DVs.strs r)
theorem DVs.toStrs : ∀ {ns : List Str} {vs : List V}, DVs K ρ H (ns.map D.str) vs → vs = ns.map V.str
  | [], _, .nil => rfl
  | n :: r, _, .cons q s => by cases q; rw [DVs.toStrs s]; rfl

/-! ### heaps -/
/-- a thing that is not a numbered object is laid -/
theorem Ext.laid {p : Addr} {o : HO} (n : H p = none) : Ext ρ H ρ (upd H p o) := ⟨⟨[], by simp, by simp⟩, (fun a u e _ => by rw [upd_ne (ne_of_none e n)]; exact e), (fun a o u e => by rw [upd_ne (ne_of_none e n)]; exact e)⟩
theorem Rep.laid {p : Addr} {o : HO} (r : Rep K ρ h H) (n : H p = none) : Rep K ρ h (upd H p o) :=
  ⟨r.len, r.nd, fun i u a e1 e2 => by
    have q := r.obj i u a e1 e2
    obtain ⟨w, ew, _⟩ := q.some
    exact q.mono r (Ext.laid n) (upd_ne (ne_of_none ew n))⟩
/-- a new numbered object -/
theorem Ext.push {p : Addr} {o : HO} (n : H p = none) : Ext ρ H (ρ ++ [p]) (upd H p o) := ⟨⟨[p], rfl, fun a ha => by rw [List.mem_singleton.mp ha]; exact n⟩, (fun a u e _ => by rw [upd_ne (ne_of_none e n)]; exact e), (fun a o u e => by rw [upd_ne (ne_of_none e n)]; exact e)⟩
theorem Rep.push {p : Addr} {o : HO} {m : MO} (r : Rep K ρ h H) (n : H p = none) (q : RepO K (ρ ++ [p]) (upd H p o) p m) : Rep K (ρ ++ [p]) (h ++ [m]) (upd H p o) := by
  have np : p ∉ ρ := fun hp => by
    obtain ⟨_, _, _, _, z⟩ := r.mem hp
    obtain ⟨u, e, _⟩ := z.some
    rw [n] at e; cases e
  refine ⟨by simp [r.len], List.nodup_append.mpr ⟨r.nd, by simp, fun a ha b hb => by rw [List.mem_singleton.mp hb]; rintro rfl; exact np ha⟩, fun i u a e1 e2 => ?_⟩
  by_cases hi : i < h.length
  · rw [List.getElem?_append_left hi] at e1
    rw [List.getElem?_append_left (by rw [r.len]; exact hi)] at e2
    have z := r.obj i u a e1 e2
    obtain ⟨w, ew, _⟩ := z.some
    exact z.mono r (Ext.push n) (upd_ne (ne_of_none ew n))
  · have hl : i < (h ++ [m]).length := (List.getElem?_eq_some_iff.mp e1).1
    have ei : i = h.length := by rw [List.length_append] at hl; simp at hl; omega
    subst ei
    rw [List.getElem?_append_right (Nat.le_refl _), Nat.sub_self] at e1
    rw [← r.len, List.getElem?_append_right (Nat.le_refl _), Nat.sub_self] at e2
    simp at e1 e2
    subst e1; subst e2
    exact q
/-- an object is written -/
theorem Ext.wrote {i : Nat} {a : Addr} {o u0 : HO} (e : ρ[i]? = some a) (hv : H a = some u0) (nf : isFz u0 = false := by rfl) : Ext ρ H ρ (upd H a o) := ⟨⟨[], by simp, by simp⟩, (fun b u eb n => by
  have hb : b ≠ a := fun z => n (by rw [z]; exact List.mem_of_getElem? e)
  rw [upd_ne hb]; exact eb), (fun b ob u eb => by
  have hb : b ≠ a := fun z => by subst z; rw [hv] at eb; cases eb; cases nf
  rw [upd_ne hb]; exact eb)⟩
theorem Rep.wrote {i : Nat} {a : Addr} {o u0 : HO} {m : MO} (r : Rep K ρ h H) (e : ρ[i]? = some a) (hv : H a = some u0) (nf : isFz u0 = false) (q : RepO K ρ (upd H a o) a m) : Rep K ρ (h.set i m) (upd H a o) := by
  refine ⟨by rw [List.length_set]; exact r.len, r.nd, fun j u b e1 e2 => ?_⟩
  by_cases hj : j = i
  · subst hj
    rw [e] at e2; cases e2
    have hl : j < h.length := by
      have := (List.getElem?_eq_some_iff.mp e).1
      rw [← r.len]; exact this
    rw [List.getElem?_set_self hl] at e1
    cases e1
    exact q
  · rw [List.getElem?_set_ne (Ne.symm hj)] at e1
    have hb : b ≠ a := fun z => hj (by subst z; exact (List.getElem?_inj (List.getElem?_eq_some_iff.mp e2).1 r.nd).mp (e2.trans e.symm))
    exact (r.obj j u b e1 e2).mono r (Ext.wrote e hv nf) (upd_ne hb)
theorem Rep.look (r : Rep K ρ h H) {i : Nat} {o : MO} (e : h[i]? = some o) : ∃ a, ρ[i]? = some a ∧ RepO K ρ H a o := by
  have hi : i < ρ.length := by rw [r.len]; exact (List.getElem?_eq_some_iff.mp e).1
  exact ⟨ρ[i], List.getElem?_eq_getElem hi, r.obj i o _ e (List.getElem?_eq_getElem hi)⟩

/-! ### slots -/
def RepS (K : PySem.W.Frag) (ρ : List Addr) (H : Hp) (σh : Sl) (σ : L2.St) : Prop := σ.length = σh.length ∧ ∀ (i : Nat) (d : D), σh[i]? = some (some d) → ∃ v : V, σ[i]? = some (some v) ∧ DV K ρ H d v
theorem RepS.mono {σh : Sl} {σ : L2.St} (r : Rep K ρ h H) (e : Ext ρ H ρ' H') (s : RepS K ρ H σh σ) : RepS K ρ' H' σh σ :=
  ⟨s.1, fun i d q => let ⟨v, e1, z⟩ := s.2 i d q; ⟨v, e1, z.mono r e⟩⟩
theorem RepS.set {σh : Sl} {σ : L2.St} {d : D} {v : V} (s : RepS K ρ H σh σ) (i : Nat) (q : DV K ρ H d v) : RepS K ρ H (σh.set i (some d)) (σ.set i (some v)) := by
  refine ⟨by rw [List.length_set, List.length_set]; exact s.1, fun j e hj => ?_⟩
  by_cases hji : i = j
  · subst hji
    have hl : i < σh.length := by
      have := (List.getElem?_eq_some_iff.mp hj).1
      rw [List.length_set] at this; exact this
    rw [List.getElem?_set_self hl] at hj
    cases hj
    exact ⟨v, List.getElem?_set_self (by rw [s.1]; exact hl), q⟩
  · rw [List.getElem?_set_ne hji] at hj
    rw [List.getElem?_set_ne hji]
    exact s.2 j e hj

/-- an exception as it lies -/
def XRep (K : PySem.W.Frag) (ρ : List Addr) (H : Hp) (x : XV) (dx : Option Addr) : Prop := match x.fs with
  | none => dx = none
  | some fs => ∃ dd vf, dx = some dd ∧ H dd = some (.xd vf) ∧ KDs Str K ρ H fs vf

def Post {α β : Type} (K : PySem.W.Frag) (ρ : List Addr) (H : Hp) (rel : List Addr → Hp → α → β → Prop) (W : XK) (Q : β → Hp → Prop) : R α → Prop
  | .bad => False
  | .ok d h' => ∀ ρ' v H', Ext ρ H ρ' H' → Rep K ρ' h' H' → rel ρ' H' d v → Q v H'
  | .ex x h' => ∀ ρ' dx H', Ext ρ H ρ' H' → Rep K ρ' h' H' → XRep K ρ' H' x dx → W (.ref x.cls) dx H'

section
variable {α β γ δ : Type} {rel : List Addr → Hp → α → β → Prop} {rel2 : List Addr → Hp → γ → δ → Prop} {W W' : XK} {Q Q' : β → Hp → Prop} {Q2 : δ → Hp → Prop}
theorem Post.ext (e : Ext ρ H ρ1 H1) {m : R α} (p : Post K ρ H rel W Q m) : Post K ρ1 H1 rel W Q m := by
  cases m with
  | bad => exact p
  | ok d h' => exact fun ρ' v H' e2 r q => p ρ' v H' (e.trans e2 r.nd) r q
  | ex x h' => exact fun ρ' v H' e2 r q => p ρ' v H' (e.trans e2 r.nd) r q
theorem Post.mono {m : R α} (p : Post K ρ H rel W Q m) (k : ∀ v H', Q v H' → Q' v H') (kx : ∀ c d H', W c d H' → W' c d H') : Post K ρ H rel W' Q' m := by
  cases m with
  | bad => exact p
  | ok d h' => exact fun ρ' v H' e2 r q => k _ _ (p ρ' v H' e2 r q)
  | ex x h' => exact fun ρ' v H' e2 r q => kx _ _ _ (p ρ' v H' e2 r q)
/-- a first part, then the rest -/
theorem Post.of_bind {m : R α} {f : α → HS → R γ} (p : Post K ρ H rel2 W Q2 (m.bind f))
    (k : ∀ d h1 ρ1 v H1, Ext ρ H ρ1 H1 → Rep K ρ1 h1 H1 → rel ρ1 H1 d v → Post K ρ1 H1 rel2 W Q2 (f d h1) → Q v H1) : Post K ρ H rel W Q m := by
  cases m with
  | bad => exact p
  | ok d h' => exact fun ρ' v H' e r q => k d h' ρ' v H' e r q (Post.ext e p)
  | ex x h' => exact p
theorem Post.use {d : α} {v : β} (p : Post K ρ H rel W Q (.ok d h)) (r : Rep K ρ h H) (q : rel ρ H d v) : Q v H := p ρ v H .refl r q
end
end

/-! ### expressions -/
abbrev FE := Sl → HS → R D
abbrev FT := Sl → HS → R Bool
abbrev FA := Sl → HS → R (List D)
def bEq {α : Type} : List Addr → Hp → α → α → Prop := fun _ _ b c => b = c
def lE (K : PySem.W.Frag) (W : WX) (m : FE) : TE := fun σ H Q => ∃ ρ σh h, Rep K ρ h H ∧ RepS K ρ H σh σ ∧ Post K ρ H (DV K) (fun c d H' => W c d σ H') Q (m σh h)
def lT (K : PySem.W.Frag) (W : WX) (m : FT) : TT := fun σ H Q => ∃ ρ σh h, Rep K ρ h H ∧ RepS K ρ H σh σ ∧ Post K ρ H bEq (fun c d H' => W c d σ H') Q (m σh h)
def lA (K : PySem.W.Frag) (W : WX) (m : FA) : TA := fun σ H Q => ∃ ρ σh h, Rep K ρ h H ∧ RepS K ρ H σh σ ∧ Post K ρ H (DVs K) (fun c d H' => W c d σ H') Q (m σh h)
def GE (X : Cx) (W : WX) (e : Expr) (m : FE) : Prop := PE X e (lE X.K W m)
def GT (X : Cx) (W : WX) (e : Expr) (m : FT) : Prop := PT X e (lT X.K W m)
def GW (X : Cx) (W : WX) (e : Expr) (m : FT) : Prop := PW X e (lT X.K W m)
def GA (X : Cx) (W : WX) (es : List Expr) (m : FA) : Prop := PA X es (lA X.K W m)
theorem pe_mono {X : Cx} {e : Expr} {t t' : TE} (p : PE X e t) (k : ∀ σ H Q, t' σ H Q → t σ H Q) : PE X e t' := ⟨fun pins s σ H Q I q => p.run pins s σ H Q I (k σ H Q q)⟩
theorem pt_mono {X : Cx} {e : Expr} {t t' : TT} (p : PT X e t) (k : ∀ σ H Q, t' σ H Q → t σ H Q) : PT X e t' := ⟨fun pins s σ H Q I q => p.run pins s σ H Q I (k σ H Q q)⟩
theorem pw_mono {X : Cx} {e : Expr} {t t' : TT} (p : PW X e t) (k : ∀ σ H Q, t' σ H Q → t σ H Q) : PW X e t' := ⟨fun wh pins s σ H Q I q => p.run wh pins s σ H Q I (k σ H Q q)⟩
theorem pa_mono {X : Cx} {e : List Expr} {t t' : TA} (p : PA X e t) (k : ∀ σ H Q, t' σ H Q → t σ H Q) : PA X e t' := ⟨fun pos pins s σ H Q I q => p.run pos pins s σ H Q I (k σ H Q q)⟩
theorem ps_mono {X : Cx} {e : Stmt} {t t' : TS} (p : PS X e t) (k : ∀ D σ H, t' D σ H → t D σ H) : PS X e t' := ⟨fun pins s σ H D I q => p.run pins s σ H D I (k D σ H q)⟩
theorem pss_mono {X : Cx} {e : List Stmt} {t t' : TS} (p : PSs X e t) (k : ∀ D σ H, t' D σ H → t D σ H) : PSs X e t' := ⟨fun pins s σ H D I q => p.run pins s σ H D I (k D σ H q)⟩
theorem pg_mono {X : Cx} {e : Expr} {t t' : TG} (p : PG X e t) (k : ∀ v σ H Q, t' v σ H Q → t v σ H Q) : PG X e t' := ⟨fun pins s σ H v u Q I r q => p.run pins s σ H v u Q I r (k v σ H Q q)⟩
theorem pgs_mono {X : Cx} {e : List Expr} {t t' : TGs} (p : PGs X e t) (k : ∀ v σ H Q, t' v σ H Q → t v σ H Q) : PGs X e t' := ⟨fun pins s σ H v u Q I r q => p.run pins s σ H v u Q I r (k v σ H Q q)⟩
theorem pi_mono {X : Cx} {tg e : Expr} {t t' : TI} (p : PI X tg e t) (k : ∀ σ H Q, t' σ H Q → t σ H Q) : PI X tg e t' := ⟨fun pins s σ H Q I q => p.run pins s σ H Q I (k σ H Q q)⟩

section
variable {X : Cx} {W : WX} {pos : Pos} {e a b : Expr} {es : List Expr} {m ma mb : FE}
/-! names, constants -/
def mVar (i : Nat) : FE := fun σ h => match σ[i]? with
  | some (some d) => .ok d h
  | _ => .bad
def mC (d : D) : FE := fun _ h => .ok d h
theorem gv (i : Nat) {x : Str} {pos : Pos} (hN : X.N[i]? = some x := by rfl) (hv : Vis X.env.scope x := by first | exact Or.inl rfl | exact Or.inr (Or.inl rfl) | exact Or.inr (Or.inr rfl)) (hd : (x == ("__debug__" : Str)) = false := by decide)
    (hcd : (x == ("__classdict__" : Str)) = false := by decide) : GE X W (.Name x pos) (mVar i) := by
  refine pe_mono (pv i hN hv hd hcd) fun σ H Q ⟨ρ, σh, h, r, s, p⟩ => ?_
  cases q : σh[i]? with
  | none => simp only [mVar, q] at p; exact p.elim
  | some o =>
    cases o with
    | none => simp only [mVar, q] at p; exact p.elim
    | some d =>
      simp only [mVar, q] at p
      obtain ⟨v, e1, z⟩ := s.2 i d q
      exact ⟨v, e1, p.use r z⟩
theorem gC {d : D} {v : V} (h : PE X e (tC v)) (z : ∀ ρ H, DV X.K ρ H d v) : GE X W e (mC d) := pe_mono h fun σ H Q ⟨ρ, σh, h, r, s, p⟩ => p.use r (z _ _)
theorem g_int {i j pos} : GE X W (.Constant (.int i) j pos) (mC (.int i)) := gC pe_int fun _ _ => .int i
theorem g_bl {i j pos} : GE X W (.Constant (.bool i) j pos) (mC (.bl i)) := gC pe_bl fun _ _ => .bl i
theorem g_str {i j pos} : GE X W (.Constant (.str i) j pos) (mC (.str i)) := gC pe_str fun _ _ => .str i
theorem g_non {j pos} : GE X W (.Constant .none j pos) (mC .non) := gC pe_non fun _ _ => .non

/-! two values -/
def mOp (f : D → D → HS → R D) (ma mb : FE) : FE := fun σ h => (ma σ h).bind fun x h1 => (mb σ h1).bind fun y h2 => f x y h2
def mUn (f : D → HS → R D) (ma : FE) : FE := fun σ h => (ma σ h).bind f
def OpS (K : PySem.W.Frag) (f : D → D → HS → R D) (r : R2) : Prop := ∀ (ρ : List Addr) (h : HS) (H : Hp) (d1 d2 : D) (x y : V) (W : XK) (Q : VK),
  Rep K ρ h H → DV K ρ H d1 x → DV K ρ H d2 y → Post K ρ H (DV K) W Q (f d1 d2 h) → r x y H Q
def UnS (K : PySem.W.Frag) (f : D → HS → R D) (r : V → Hp → VK → Prop) : Prop := ∀ (ρ : List Addr) (h : HS) (H : Hp) (d : D) (x : V) (W : XK) (Q : VK),
  Rep K ρ h H → DV K ρ H d x → Post K ρ H (DV K) W Q (f d h) → r x H Q
theorem lOp {f : D → D → HS → R D} {r : R2} (hf : OpS X.K f r) (σ : L2.St) (H : Hp) (Q : VK) (q : lE X.K W (mOp f ma mb) σ H Q) : tOp r (lE X.K W ma) (lE X.K W mb) σ H Q := by
  obtain ⟨ρ, σh, h, rr, s, p⟩ := q
  refine ⟨ρ, σh, h, rr, s, Post.of_bind p fun d1 h1 ρ1 x H1 e1 r1 z1 p1 => ?_⟩
  refine ⟨ρ1, σh, h1, r1, s.mono rr e1, Post.of_bind p1 fun d2 h2 ρ2 y H2 e2 r2 z2 p2 => ?_⟩
  exact hf ρ2 h2 H2 d1 d2 x y _ Q r2 (z1.mono r1 e2) z2 p2
theorem g_op {op : Operator} {f : D → D → HS → R D} {r : R2} (ho : OpR X (binaryOp op) r) (hf : OpS X.K f r) (ha : GE X W a ma) (hb : GE X W b mb) : GE X W (.BinOp a op b pos) (mOp f ma mb) :=
  pe_mono (pe_op ho ha hb) (lOp hf)
theorem g_cmp {op : CmpOp} {f : D → D → HS → R D} {r : R2} (ho : OpR X (compareOp op) r) (hf : OpS X.K f r) (ha : GE X W a ma) (hb : GE X W b mb) (hm : behindInMarks op b = false := by rfl) :
    GE X W (.Compare a [op] [b] pos) (mOp f ma mb) := pe_mono (pe_cmpR ho ha hb hm) (lOp hf)
theorem g_ix {f : D → D → HS → R D} {r : R2} (ho : IxR X r) (hf : OpS X.K f r) (ha : GE X W a ma) (hb : GE X W b mb) (hm : PlainIx b := by exact fun _ _ => rfl) :
    GE X W (.Subscript a b pos) (mOp f ma mb) := pe_mono (pe_ix ho ha hb hm) (lOp hf)
theorem g_un {op : UnaryOp} {f : D → HS → R D} {r : V → Hp → VK → Prop} (ho : UnR X (unaryOp op) r) (hf : UnS X.K f r) (ha : GE X W a ma) : GE X W (.UnaryOp op a pos) (mUn f ma) :=
  pe_mono (pe_un ho ha) fun σ H Q ⟨ρ, σh, h, rr, s, p⟩ => ⟨ρ, σh, h, rr, s, Post.of_bind p fun d1 h1 ρ1 x H1 e1 r1 z1 p1 => hf ρ1 h1 H1 d1 x _ Q r1 z1 p1⟩
/-- two ways -/
theorem OpS.or {K : PySem.W.Frag} {f : D → D → HS → R D} {r r' : R2} (h : ∀ (ρ : List Addr) (h : HS) (H : Hp) (d1 d2 : D) (x y : V) (W : XK) (Q : VK),
  Rep K ρ h H → DV K ρ H d1 x → DV K ρ H d2 y → Post K ρ H (DV K) W Q (f d1 d2 h) → r x y H Q ∨ r' x y H Q) : OpS K f (fun x y H Q => r x y H Q ∨ r' x y H Q) := h

/-! lists of values -/
def mNil : FA := fun _ h => .ok [] h
def mCons (ma : FE) (mr : FA) : FA := fun σ h => (ma σ h).bind fun x h1 => (mr σ h1).bind fun xs h2 => .ok (x :: xs) h2
theorem ga_nil : GA X W [] mNil := pa_mono pa_nil fun σ H Q ⟨ρ, σh, h, r, s, p⟩ => p.use r DVs.nil
theorem ga_cons {mr : FA} (ha : GE X W e ma) (hr : GA X W es mr) (hs : starEach (e :: es) X.env = (false, eval e X.env) :: starEach es X.env := by rfl) : GA X W (e :: es) (mCons ma mr) :=
  pa_mono (pa_cons ha hr hs) fun σ H Q ⟨ρ, σh, h, r, s, p⟩ => ⟨ρ, σh, h, r, s, Post.of_bind p fun d1 h1 ρ1 x H1 e1 r1 z1 p1 =>
    ⟨ρ1, σh, h1, r1, s.mono r e1, Post.of_bind p1 fun d2 h2 ρ2 y H2 e2 r2 z2 p2 => p2.use r2 (.cons (z1.mono r1 e2) z2)⟩⟩
def mTup (ma : FA) : FE := fun σ h => (ma σ h).bind fun xs h1 => if xs.length ≤ sizeLine then .ok (.tup xs) h1 else .bad
def mLst (ma : FA) : FE := fun σ h => (ma σ h).bind fun xs h1 => if xs.length ≤ sizeLine then .ok (.ref h1.length) (h1 ++ [.lst xs]) else .bad
/-- a new tuple is handed on -/
theorem post_tup {K : PySem.W.Frag} {ρ : List Addr} {h : HS} {H : Hp} {ds : List D} {vs : List V} {W : XK} {Q : VK} (r : Rep K ρ h H) (z : DVs K ρ H ds vs) (p : Post K ρ H (DV K) W Q (.ok (.tup ds) h)) :
    ∀ a, H a = none → Q (.ref a) (upd H a (.tup vs)) := fun a n => p ρ _ _ (Ext.laid n) (r.laid n) (.tup (SqT.of upd_same) (z.mono r (Ext.laid n)))
/-- a new list is handed on -/
theorem post_lst {K : PySem.W.Frag} {ρ : List Addr} {h : HS} {H : Hp} {ds : List D} {vs : List V} {W : XK} {Q : VK} (r : Rep K ρ h H) (z : DVs K ρ H ds vs) (p : Post K ρ H (DV K) W Q (.ok (.ref h.length) (h ++ [.lst ds]))) :
    ∀ a, H a = none → Q (.ref a) (upd H a (.lst vs)) := fun a n => p (ρ ++ [a]) _ _ (Ext.push n) (r.push n ⟨vs, upd_same, z.mono r (Ext.push n)⟩) (.ref (by rw [← r.len]; simp))
theorem post_dK {K : PySem.W.Frag} {ρ : List Addr} {h : HS} {H : Hp} {ds : List (Key × D)} {vs : List (Key × V)} {W : XK} {Q : VK} (r : Rep K ρ h H) (z : KDs Key K ρ H ds vs) (p : Post K ρ H (DV K) W Q (.ok (.ref h.length) (h ++ [.dK ds]))) :
    ∀ a, H a = none → Q (.ref a) (upd H a (.dK vs)) := fun a n => p (ρ ++ [a]) _ _ (Ext.push n) (r.push n ⟨vs, upd_same, KDs.mono r (Ext.push n) z⟩) (.ref (by rw [← r.len]; simp))
theorem g_tup {x1} {mr : FA} (hr : GA X W es mr) : GE X W (.Tuple es x1 pos) (mTup mr) :=
  pe_mono (pe_tup hr) fun σ H Q ⟨ρ, σh, h, r, s, p⟩ => ⟨ρ, σh, h, r, s, Post.of_bind p fun ds h1 ρ1 vs H1 e1 r1 z1 p1 => by
    by_cases hl : ds.length ≤ sizeLine
    · rw [if_pos hl] at p1
      exact ⟨by rw [← z1.length]; exact hl, post_tup r1 z1 p1⟩
    · rw [if_neg hl] at p1; exact p1.elim⟩
theorem g_lst {mr : FA} (hr : GA X W es mr) : GE X W (.List es pos) (mLst mr) :=
  pe_mono (pe_lst hr) fun σ H Q ⟨ρ, σh, h, r, s, p⟩ => ⟨ρ, σh, h, r, s, Post.of_bind p fun ds h1 ρ1 vs H1 e1 r1 z1 p1 => by
    by_cases hl : ds.length ≤ sizeLine
    · rw [if_pos hl] at p1
      exact ⟨by rw [← z1.length]; exact hl, post_lst r1 z1 p1⟩
    · rw [if_neg hl] at p1; exact p1.elim⟩
end
end FL

set_option Elab.async false
set_option linter.all false
set_option maxRecDepth 100000
/-! FL, part b: the operations on data. -/
namespace FL
open PySem PySem.Spec PyProof.Rows L2

/-! ### arithmetic -/
def dInt2 (C : Int → Int → Bool) (g : Int → Int → D) : D → D → HS → R D
  | .int i, .int j, h => if C i j then .ok (g i j) h else .bad
  | _, _, _ => .bad
instance (i j : Int) : Decidable (CMul i j) := by unfold CMul; infer_instance
instance (i j : Int) : Decidable (CDivW i j) := by unfold CDivW; infer_instance
instance (i j : Int) : Decidable (CPow i j) := by unfold CPow; infer_instance
def dSub : D → D → HS → R D
  | .int i, .int j, h => .ok (.int (i - j)) h
  | _, _, _ => .bad
def dMul : D → D → HS → R D
  | .int i, .int j, h => if CMul i j then .ok (.int (i * j)) h else .bad
  | _, _, _ => .bad
def dFdiv : D → D → HS → R D
  | .int i, .int j, h => if CDivW i j then .ok (.int (i / j)) h else .bad
  | _, _, _ => .bad
def dMod : D → D → HS → R D
  | .int i, .int j, h => if 0 < j then .ok (.int (i % j)) h else .bad
  | _, _, _ => .bad
def dPow : D → D → HS → R D
  | .int i, .int j, h => if CPow i j then .ok (.int (i ^ j.toNat)) h else .bad
  | _, _, _ => .bad
def dNeg : D → HS → R D
  | .int i, h => .ok (.int (-i)) h
  | _, _ => .bad
section
variable {K : PySem.W.Frag}
theorem s_sub : OpS K dSub (rI0 fun i j => .int (i - j)) := by
  intro ρ h H d1 d2 x y W Q r z1 z2 p
  cases z1 <;> cases z2 <;> first | exact p.elim | skip
  exact ⟨_, _, rfl, rfl, p.use r (.int _)⟩
theorem s_mul : OpS K dMul (rI CMul fun i j => .int (i * j)) := by
  intro ρ h H d1 d2 x y W Q r z1 z2 p
  cases z1 <;> cases z2 <;> first | exact p.elim | skip
  rename_i i j
  by_cases c : CMul i j
  · simp only [dMul, if_pos c] at p; exact ⟨_, _, rfl, rfl, c, p.use r (.int _)⟩
  · simp only [dMul, if_neg c] at p; exact p.elim
theorem s_fdiv : OpS K dFdiv (rI CDivW fun i j => .int (i / j)) := by
  intro ρ h H d1 d2 x y W Q r z1 z2 p
  cases z1 <;> cases z2 <;> first | exact p.elim | skip
  rename_i i j
  by_cases c : CDivW i j
  · simp only [dFdiv, if_pos c] at p; exact ⟨_, _, rfl, rfl, c, p.use r (.int _)⟩
  · simp only [dFdiv, if_neg c] at p; exact p.elim
theorem s_mod : OpS K dMod (rI (fun _ j => 0 < j) fun i j => .int (i % j)) := by
  intro ρ h H d1 d2 x y W Q r z1 z2 p
  cases z1 <;> cases z2 <;> first | exact p.elim | skip
  rename_i i j
  by_cases c : 0 < j
  · simp only [dMod, if_pos c] at p; exact ⟨_, _, rfl, rfl, c, p.use r (.int _)⟩
  · simp only [dMod, if_neg c] at p; exact p.elim
theorem s_pow : OpS K dPow (rI CPow fun i j => .int (i ^ j.toNat)) := by
  intro ρ h H d1 d2 x y W Q r z1 z2 p
  cases z1 <;> cases z2 <;> first | exact p.elim | skip
  rename_i i j
  by_cases c : CPow i j
  · simp only [dPow, if_pos c] at p; exact ⟨_, _, rfl, rfl, c, p.use r (.int _)⟩
  · simp only [dPow, if_neg c] at p; exact p.elim
theorem s_neg : UnS K dNeg (rU fun i => .int (-i)) := by
  intro ρ h H d x W Q r z p
  cases z <;> first | exact p.elim | skip
  exact ⟨_, rfl, p.use r (.int _)⟩
end

/-! ### + : ints, texts, tuples, lists -/
def dAdd : D → D → HS → R D
  | .int i, .int j, h => .ok (.int (i + j)) h
  | .str i, .str j, h => if i.length + j.length ≤ sizeLine then .ok (.str (i ++ j)) h else .bad
  | .tup a, .tup b, h => if a.length + b.length ≤ sizeLine then .ok (.tup (a ++ b)) h else .bad
  | .ref a, .ref b, h => match h[a]?, h[b]? with
    | some (.lst x), some (.lst y) => if x.length + y.length ≤ sizeLine then .ok (.ref h.length) (h ++ [.lst (x ++ y)]) else .bad
    | _, _ => .bad
  | _, _, _ => .bad
abbrev rAddI : R2 := rI0 fun i j => .int (i + j)
abbrev rAddS : R2 := fun x y H Q => ∃ i j, x = .str i ∧ y = .str j ∧ i.length + j.length ≤ sizeLine ∧ Q (.str (i ++ j)) H
def rAdd4 (K : PySem.W.Frag) : R2 := fun x y H Q => rAddI x y H Q ∨ (rAddS x y H Q ∨ (rCatA K x y H Q ∨ rCat x y H Q))
theorem o_add {X : Cx} : OpR X (binaryOp .Add) (rAdd4 X.K) := OpR.or op_add (OpR.or op_add_str (OpR.or op_catA op_cat))
theorem s_add {K : PySem.W.Frag} : OpS K dAdd (rAdd4 K) := by
  intro ρ h H d1 d2 x y W Q r z1 z2 p
  cases z1 <;> cases z2 <;> first | exact p.elim | skip
  · exact .inl ⟨_, _, rfl, rfl, p.use r (.int _)⟩
  · rename_i i j
    by_cases c : i.length + j.length ≤ sizeLine
    · simp only [dAdd, if_pos c] at p; exact .inr (.inl ⟨_, _, rfl, rfl, c, p.use r (.str _)⟩)
    · simp only [dAdd, if_neg c] at p; exact p.elim
  · rename_i i a e1 j b e2
    cases q1 : h[i]? with
    | none => simp only [dAdd, q1] at p; exact p.elim
    | some o1 =>
      cases o1 with
      | lst x =>
        cases q2 : h[j]? with
        | none => simp only [dAdd, q1, q2] at p; exact p.elim
        | some o2 =>
          cases o2 with
          | lst y =>
            simp only [dAdd, q1, q2] at p
            obtain ⟨a', ea, va, ha, za⟩ := r.look q1
            obtain ⟨b', eb, vb, hb, zb⟩ := r.look q2
            rw [e1] at ea; cases ea
            rw [e2] at eb; cases eb
            by_cases c : x.length + y.length ≤ sizeLine
            · rw [if_pos c] at p
              exact .inr (.inr (.inr ⟨_, _, va, vb, rfl, rfl, ha, hb, by rw [← za.length, ← zb.length]; exact c, post_lst r (za.append zb) p⟩))
            · rw [if_neg c] at p; exact p.elim
          | _ => simp only [dAdd, q1, q2] at p; exact p.elim
      | _ => simp only [dAdd, q1] at p; exact p.elim
  · rename_i a va da sa za b vb db sb zb
    by_cases c : da.length + db.length ≤ sizeLine
    · simp only [dAdd, if_pos c] at p
      refine .inr (.inr (.inl ⟨_, _, va, vb, rfl, rfl, sa, sb, by rw [← za.length, ← zb.length]; exact c, fun e => ?_, fun e1 e2 => ?_, fun e1 e2 => post_tup r (za.append zb) p⟩))
      · subst e
        cases za
        exact p.use r (.tup sb zb)
      · subst e2
        cases zb
        rw [List.append_nil] at p
        exact p.use r (.tup sa za)
    · simp only [dAdd, if_neg c] at p; exact p.elim

/-! ### == -/
/-- a scalar -/
def scD : D → Option V
  | .non => some .non | .bl b => some (.bl b) | .int i => some (.int i) | .str x => some (.str x)
  | _ => none
theorem scD_rel {K : PySem.W.Frag} {ρ : List Addr} {H : Hp} {d : D} {v u : V} (z : DV K ρ H d v) (e : scD d = some u) : v = u := by
  cases z <;> simp [scD] at e <;> exact e
def pyD : Nat → HS → D → Option PyData
  | 0, _, _ => none
  | n + 1, h, d => match d with
    | .non => some .none
    | .bl b => some (.bool b)
    | .int i => some (.int i)
    | .str x => some (.str x)
    | .tup ds => (ds.mapM (pyD n h)).map .tuple
    | .cst ds => (ds.mapM (pyD n h)).map .list
    | .ref i => match h[i]? with
      | some (.lst ds) => (ds.mapM (pyD n h)).map .list
      | _ => none
    | _ => none
theorem pyD_ok {K : PySem.W.Frag} {ρ : List Addr} {h : HS} {H : Hp} (r : Rep K ρ h H) : ∀ (n : Nat) (d : D) (v : V) (p : PyData), DV K ρ H d v → pyD n h d = some p → Dp K H v p
  | 0, _, _, _, _, e => by cases e
  | n + 1, d, v, p, z, e => by
    have all : ∀ (ds : List D) (vs : List V) (ps : List PyData), DVs K ρ H ds vs → ds.mapM (pyD n h) = some ps → DpAll K H vs ps := by
      intro ds
      induction ds with
      | nil => intro vs ps z e; cases z; simp at e; subst e; exact .nil
      | cons d ds ih =>
        intro vs ps z e
        cases z with
        | cons z1 z2 =>
          rw [List.mapM_cons] at e
          cases e1 : pyD n h d with
          | none => rw [e1] at e; simp at e
          | some p1 =>
            rw [e1] at e
            cases e2 : ds.mapM (pyD n h) with
            | none => rw [e2] at e; simp at e
            | some ps1 =>
              rw [e2] at e
              simp at e
              subst e
              exact .cons (pyD_ok r n d _ p1 z1 e1) (ih _ _ z2 e2)
    cases z with
    | non => cases e; exact .non
    | bl b => cases e; exact .bl b
    | int i => cases e; exact .int i
    | str x => cases e; exact .str x
    | ty n => cases e
    | ref q =>
      rename_i i a
      cases q1 : h[i]? with
      | none => simp only [pyD, q1] at e; cases e
      | some o =>
        cases o with
        | lst ds =>
          simp only [pyD, q1] at e
          obtain ⟨ps, e1, e2⟩ := Option.map_eq_some_iff.mp e
          subst e2
          obtain ⟨a', ea, va, ha, za⟩ := r.look q1
          rw [q] at ea; cases ea
          exact .lst (SqL.of ha) (all _ _ _ za e1)
        | _ => simp only [pyD, q1] at e; cases e
    | tup q z =>
      simp only [pyD] at e
      obtain ⟨ps, e1, e2⟩ := Option.map_eq_some_iff.mp e
      subst e2
      exact .tup q (all _ _ _ z e1)
    | cst q z =>
      simp only [pyD] at e
      obtain ⟨ps, e1, e2⟩ := Option.map_eq_some_iff.mp e
      subst e2
      exact .lst q.sq (all _ _ _ z e1)
def eqDeep (x y : D) (h : HS) : Option Bool := match pyD 66 h x, pyD 66 h y with
  | some p, some q => if SeqAt.shaped p && SeqAt.shaped q then some (PyData.eqv p q) else none
  | _, _ => none
def eqB (x y : D) (h : HS) : Option Bool := match scD x, scD y with
  | some a, some b => if scal a b then some (decide (a = b)) else none
  | _, _ => eqDeep x y h
def dEq (x y : D) (h : HS) : R D := match eqB x y h with
  | some b => .ok (.bl b) h
  | none => .bad
def dNe (x y : D) (h : HS) : R D := match eqB x y h with
  | some b => .ok (.bl !b) h
  | none => .bad
def rEq2 (K : PySem.W.Frag) : R2 := fun x y H Q => rEq x y H Q ∨ rEqD K x y H Q
def rNe2 (K : PySem.W.Frag) : R2 := fun x y H Q => rNe x y H Q ∨ rNeD K x y H Q
theorem o_eq {X : Cx} (hu : X.A.units + 64 < cLine) : OpR X (compareOp .Eq) (rEq2 X.K) := OpR.or op_eq (op_eqD hu)
theorem o_ne {X : Cx} (hu : X.A.units + 64 < cLine) : OpR X (compareOp .NotEq) (rNe2 X.K) := OpR.or op_ne (op_neD hu)
theorem eqDeep_ok {K : PySem.W.Frag} {ρ : List Addr} {h : HS} {H : Hp} (r : Rep K ρ h H) {d1 d2 : D} {x y : V} {b : Bool} (z1 : DV K ρ H d1 x) (z2 : DV K ρ H d2 y) (e : eqDeep d1 d2 h = some b) :
    ∃ p q, Dp K H x p ∧ Dp K H y q ∧ SeqAt.shaped p = true ∧ SeqAt.shaped q = true ∧ b = PyData.eqv p q := by
  unfold eqDeep at e
  cases e1 : pyD 66 h d1 with
  | none => rw [e1] at e; cases e
  | some p =>
    cases e2 : pyD 66 h d2 with
    | none => rw [e1, e2] at e; cases e
    | some q =>
      rw [e1, e2] at e
      simp only at e
      by_cases c : (SeqAt.shaped p && SeqAt.shaped q) = true
      · rw [if_pos c] at e
        rw [Bool.and_eq_true] at c
        exact ⟨p, q, pyD_ok r _ _ _ _ z1 e1, pyD_ok r _ _ _ _ z2 e2, c.1, c.2, (Option.some.inj e).symm⟩
      · rw [if_neg c] at e; cases e
theorem eqB_ok {K : PySem.W.Frag} {ρ : List Addr} {h : HS} {H : Hp} (r : Rep K ρ h H) {d1 d2 : D} {x y : V} {b : Bool} (z1 : DV K ρ H d1 x) (z2 : DV K ρ H d2 y) (e : eqB d1 d2 h = some b) :
    (scal x y = true ∧ b = decide (x = y)) ∨ ∃ p q, Dp K H x p ∧ Dp K H y q ∧ SeqAt.shaped p = true ∧ SeqAt.shaped q = true ∧ b = PyData.eqv p q := by
  unfold eqB at e
  cases e1 : scD d1 with
  | none => rw [e1] at e; exact .inr (eqDeep_ok r z1 z2 e)
  | some a =>
    cases e2 : scD d2 with
    | none => rw [e1, e2] at e; exact .inr (eqDeep_ok r z1 z2 e)
    | some a2 =>
      rw [e1, e2] at e
      simp only at e
      rw [scD_rel z1 e1, scD_rel z2 e2]
      by_cases c : scal a a2 = true
      · rw [if_pos c] at e; exact .inl ⟨c, (Option.some.inj e).symm⟩
      · rw [if_neg c] at e; cases e
theorem s_eq {K : PySem.W.Frag} : OpS K dEq (rEq2 K) := by
  intro ρ h H d1 d2 x y W Q r z1 z2 p
  unfold dEq at p
  cases e : eqB d1 d2 h with
  | none => rw [e] at p; exact p.elim
  | some b =>
    rw [e] at p
    have q := p.use r (.bl b)
    rcases eqB_ok r z1 z2 e with ⟨c, rfl⟩ | ⟨u, w, h1, h2, h3, h4, rfl⟩
    · exact .inl ⟨c, q⟩
    · exact .inr ⟨u, w, h1, h2, h3, h4, q⟩
theorem s_ne {K : PySem.W.Frag} : OpS K dNe (rNe2 K) := by
  intro ρ h H d1 d2 x y W Q r z1 z2 p
  unfold dNe at p
  cases e : eqB d1 d2 h with
  | none => rw [e] at p; exact p.elim
  | some b =>
    rw [e] at p
    have q := p.use r (.bl (!b))
    rcases eqB_ok r z1 z2 e with ⟨c, rfl⟩ | ⟨u, w, h1, h2, h3, h4, rfl⟩
    · exact .inl ⟨c, q⟩
    · exact .inr ⟨u, w, h1, h2, h3, h4, q⟩

/-! ### < and its like -/
def dLt : D → D → HS → R D
  | .int i, .int j, h => .ok (.bl (decide (i < j))) h
  | _, _, _ => .bad
def dLe : D → D → HS → R D
  | .int i, .int j, h => .ok (.bl (decide (i ≤ j))) h
  | _, _, _ => .bad
def dGt : D → D → HS → R D
  | .int i, .int j, h => .ok (.bl (decide (j < i))) h
  | _, _, _ => .bad
def dGe : D → D → HS → R D
  | .int i, .int j, h => .ok (.bl (decide (j ≤ i))) h
  | _, _, _ => .bad
def dIsN : D → D → HS → R D
  | .non, .non, h => .ok (.bl true) h
  | _, .non, h => .ok (.bl false) h
  | _, _, _ => .bad
def dNotN : D → D → HS → R D
  | .non, .non, h => .ok (.bl false) h
  | _, .non, h => .ok (.bl true) h
  | _, _, _ => .bad
section
variable {K : PySem.W.Frag}
theorem s_lt : OpS K dLt (rI0 fun i j => .bl (decide (i < j))) := by
  intro ρ h H d1 d2 x y W Q r z1 z2 p
  cases z1 <;> cases z2 <;> first | exact p.elim | exact ⟨_, _, rfl, rfl, p.use r (.bl _)⟩
theorem s_le : OpS K dLe (rI0 fun i j => .bl (decide (i ≤ j))) := by
  intro ρ h H d1 d2 x y W Q r z1 z2 p
  cases z1 <;> cases z2 <;> first | exact p.elim | exact ⟨_, _, rfl, rfl, p.use r (.bl _)⟩
theorem s_gt : OpS K dGt (rI0 fun i j => .bl (decide (j < i))) := by
  intro ρ h H d1 d2 x y W Q r z1 z2 p
  cases z1 <;> cases z2 <;> first | exact p.elim | exact ⟨_, _, rfl, rfl, p.use r (.bl _)⟩
theorem s_ge : OpS K dGe (rI0 fun i j => .bl (decide (j ≤ i))) := by
  intro ρ h H d1 d2 x y W Q r z1 z2 p
  cases z1 <;> cases z2 <;> first | exact p.elim | exact ⟨_, _, rfl, rfl, p.use r (.bl _)⟩
theorem s_isN : OpS K dIsN (fun x y H Q => y = .non ∧ Q (.bl (decide (x = .non))) H) := by
  intro ρ h H d1 d2 x y W Q r z1 z2 p
  cases z1 <;> cases z2 <;> first | exact p.elim | exact ⟨rfl, p.use r (.bl _)⟩
theorem s_notN : OpS K dNotN (fun x y H Q => y = .non ∧ Q (.bl (!decide (x = .non))) H) := by
  intro ρ h H d1 d2 x y W Q r z1 z2 p
  cases z1 <;> cases z2 <;> first | exact p.elim | exact ⟨rfl, p.use r (.bl _)⟩
end

/-! ### dicts: keys ints and texts -/
def keyD : D → Option Key
  | .int i => some (.inl i)
  | .str x => some (.inr x)
  | _ => none
theorem keyD_rel {K : PySem.W.Frag} {ρ : List Addr} {H : Hp} {d : D} {v : V} {k : Key} (z : DV K ρ H d v) (e : keyD d = some k) : v = kV k := by
  cases z <;> simp [keyD] at e <;> subst e <;> rfl
def getK {κ α : Type} [DecidableEq κ] (kvs : List (κ × α)) (k : κ) : Option α := (kvs.find? fun kv => decide (kv.1 = k)).map (·.2)
def setK {κ α : Type} [DecidableEq κ] (kvs : List (κ × α)) (k : κ) (v : α) : List (κ × α) :=
  if (kvs.any fun kv => decide (kv.1 = k)) = true then kvs.map (fun kv => if kv.1 = k then (kv.1, v) else kv) else kvs ++ [(k, v)]
section
variable {κ : Type} [DecidableEq κ] {K : PySem.W.Frag} {ρ : List Addr} {h : HS} {H : Hp}
theorem KDs.length {ks : List (κ × D)} {vs : List (κ × V)} (q : KDs κ K ρ H ks vs) : ks.length = vs.length := Paired.length q
theorem KDs.keys {ks : List (κ × D)} {vs : List (κ × V)} (q : KDs κ K ρ H ks vs) : vs.map (·.1) = ks.map (·.1) := by
  unfold KDs at q
  induction q with
  | nil => rfl
  | cons z _ ih => rw [List.map_cons, List.map_cons, ih, z.1]
theorem KDs.get {ks : List (κ × D)} {vs : List (κ × V)} (q : KDs κ K ρ H ks vs) (k : κ) : (∀ d, getK ks k = some d → ∃ v, valV vs k = some v ∧ DV K ρ H d v) ∧ (getK ks k = none → valV vs k = none) := by
  unfold KDs at q
  induction q with
  | nil => exact ⟨(fun d e => by cases e), fun _ => rfl⟩
  | @cons p q ps qs z _ ih =>
    by_cases e : p.1 = k
    · have e2 : q.1 = k := z.1.symm.trans e
      have g1 : getK (p :: ps) k = some p.2 := by simp [getK, List.find?_cons, e]
      have g2 : valV (q :: qs) k = some q.2 := valV_pos e2
      exact ⟨(fun d ed => by rw [g1] at ed; cases ed; exact ⟨_, g2, z.2⟩), (fun en => by rw [g1] at en; cases en)⟩
    · have e2 : ¬ q.1 = k := fun y => e (z.1.trans y)
      have g1 : getK (p :: ps) k = getK ps k := by simp [getK, List.find?_cons, e]
      have g2 : valV (q :: qs) k = valV qs k := valV_neg e2
      rw [g1, g2]
      exact ih
theorem KDs.put {ks : List (κ × D)} {vs : List (κ × V)} (q : KDs κ K ρ H ks vs) (k : κ) {d : D} {v : V} (z : DV K ρ H d v) : KDs κ K ρ H (setK ks k d) (putK vs k v) := by
  have any : ∀ {ks : List (κ × D)} {vs : List (κ × V)}, KDs κ K ρ H ks vs → (ks.any fun kv => decide (kv.1 = k)) = (vs.any fun kv => decide (kv.1 = k)) := by
    intro ks vs q
    unfold KDs at q
    induction q with
    | nil => rfl
    | cons z _ ih => rw [List.any_cons, List.any_cons, ih, z.1]
  unfold setK putK
  rw [any q]
  split
  · rename_i hh
    clear hh any
    unfold KDs at q ⊢
    induction q with
    | nil => exact .nil
    | @cons p q ps qs z1 _ ih =>
      rw [List.map_cons, List.map_cons]
      refine .cons ?_ ih
      by_cases e : p.1 = k
      · have e2 : q.1 = k := z1.1.symm.trans e
        rw [if_pos e, if_pos e2]
        exact ⟨z1.1, z⟩
      · have e2 : ¬ q.1 = k := fun y => e (z1.1.trans y)
        rw [if_neg e, if_neg e2]
        exact z1
  · rename_i hh
    clear hh any
    unfold KDs at q ⊢
    induction q with
    | nil => exact .cons ⟨rfl, z⟩ .nil
    | cons z1 _ ih => exact .cons z1 ih
end

/-! ### subscripts: lists, tuples, texts by an int; dicts -/
def rIxK : R2 := fun x y H Q => ∃ a k kvs v, x = .ref a ∧ y = kV k ∧ Rd H a (.dK kvs) ∧ valV kvs k = some v ∧ Q v H
theorem ix_dK {X : Cx} (hu : X.A.units + 1 < cLine) : IxR X rIxK := by
  intro value slice pins s σ H x y v u Q I rx ry h hs
  obtain ⟨a, k, kvs, d, rfl, rfl, hr, hv, q⟩ := h
  obtain rfl : v = Value.ref a := rx
  have g : DGet H a (kV k) (some d) := .inl ⟨kvs, k, hr, rfl, hv.symm⟩
  exact PyProof.Rows.tail_any (dict_typeIs I g) PySem.F.slot_dict_getitem.lookup (d_getItem hu I g ry fun w' s3 I3 rw' => ⟨d, H, I3, rw', q⟩) hs
def rIxA (K : PySem.W.Frag) : R2 := fun x y H Q => rIx K x y H Q ∨ rIxK x y H Q
theorem o_ix {X : Cx} (hu : X.A.units + 1 < cLine) : IxR X (rIxA X.K) := IxR.or ix_seq (ix_dK hu)
def ixL (ds : List D) (h : HS) (i : Int) : R D := match atI ds i with
  | some d => .ok d h
  | none => .bad
def ixKD (kvs : List (Key × D)) (h : HS) (y : D) : R D := match keyD y with
  | some k => match getK kvs k with
    | some d => .ok d h
    | none => .bad
  | none => .bad
def dIx : D → D → HS → R D
  | .tup ds, .int i, h => ixL ds h i
  | .cst ds, .int i, h => ixL ds h i
  | .str z, .int i, h => if z.length ≤ sizeLine then match atI z.cps.toList i with
      | some c => .ok (.str ⟨#[c]⟩) h
      | none => .bad
    else .bad
  | .ref a, y, h => match h[a]? with
    | some (.lst ds) => match y with
      | .int i => ixL ds h i
      | _ => .bad
    | some (.dK kvs) => ixKD kvs h y
    | some (.fdK kvs) => ixKD kvs h y
    | _ => .bad
  | _, _, _ => .bad
theorem DVs.atI {K : PySem.W.Frag} {ρ : List Addr} {H : Hp} {ds : List D} {vs : List V} {i : Int} {d : D} (z : DVs K ρ H ds vs) (e : atI ds i = some d) : ∃ v, L2.atI vs i = some v ∧ DV K ρ H d v := by
  unfold L2.atI at e ⊢
  rw [← z.length]
  cases q : ixN ds.length i with
  | none => rw [q] at e; cases e
  | some j =>
    rw [q] at e
    exact z.get e
theorem s_ixL {K : PySem.W.Frag} {ρ : List Addr} {h : HS} {H : Hp} {ds : List D} {vs : List V} {i : Int} {W : XK} {Q : VK} (r : Rep K ρ h H) (z : DVs K ρ H ds vs) (p : Post K ρ H (DV K) W Q (ixL ds h i)) : ∃ v, atI vs i = some v ∧ Q v H := by
  unfold ixL at p
  cases e : atI ds i with
  | none => rw [e] at p; exact p.elim
  | some d =>
    rw [e] at p
    obtain ⟨v, ev, zv⟩ := z.atI e
    exact ⟨v, ev, p.use r zv⟩
theorem s_ixKD {K : PySem.W.Frag} {ρ : List Addr} {h : HS} {H : Hp} {kvs : List (Key × D)} {vs : List (Key × V)} {d : D} {y : V} {W : XK} {Q : VK} (r : Rep K ρ h H) (z : KDs Key K ρ H kvs vs) (zy : DV K ρ H d y)
    (p : Post K ρ H (DV K) W Q (ixKD kvs h d)) : ∃ k v, y = kV k ∧ valV vs k = some v ∧ Q v H := by
  unfold ixKD at p
  cases e : keyD d with
  | none => rw [e] at p; exact p.elim
  | some k =>
    rw [e] at p
    simp only at p
    cases e2 : getK kvs k with
    | none => rw [e2] at p; exact p.elim
    | some g =>
      rw [e2] at p
      obtain ⟨v, ev, zv⟩ := (z.get k).1 g e2
      exact ⟨k, v, keyD_rel zy e, ev, p.use r zv⟩
theorem s_ix {K : PySem.W.Frag} : OpS K dIx (rIxA K) := by
  intro ρ h H d1 d2 x y W Q r z1 z2 p
  cases z1 with
  | tup q zs =>
    cases z2 <;> first | exact p.elim | skip
    obtain ⟨v, e, qv⟩ := s_ixL r zs p
    exact .inl (.inr (.inl ⟨_, _, _, v, rfl, rfl, q, e, qv⟩))
  | cst q zs =>
    cases z2 <;> first | exact p.elim | skip
    obtain ⟨v, e, qv⟩ := s_ixL r zs p
    exact .inl (.inl ⟨_, _, _, v, rfl, rfl, q.sq, e, qv⟩)
  | str z =>
    cases z2 <;> first | exact p.elim | skip
    rename_i i
    by_cases c : z.length ≤ sizeLine
    · simp only [dIx, if_pos c] at p
      cases e : atI z.cps.toList i with
      | none => rw [e] at p; exact p.elim
      | some k => rw [e] at p; exact .inl (.inr (.inr ⟨_, _, k, rfl, rfl, c, e, p.use r (.str _)⟩))
    · simp only [dIx, if_neg c] at p; exact p.elim
  | ref q =>
    rename_i a ad
    cases e : h[a]? with
    | none => simp only [dIx, e] at p; exact p.elim
    | some o =>
      obtain ⟨a', ea, z⟩ := r.look e
      rw [q] at ea; cases ea
      cases o with
      | lst ds =>
        simp only [dIx, e] at p
        obtain ⟨vs, hv, zs⟩ := z
        cases z2 <;> first | exact p.elim | skip
        obtain ⟨v, e, qv⟩ := s_ixL r zs p
        exact .inl (.inl ⟨_, _, _, v, rfl, rfl, SqL.of hv, e, qv⟩)
      | dK kvs =>
        simp only [dIx, e] at p
        obtain ⟨vs, hv, zs⟩ := z
        obtain ⟨k, v, ey, ev, qv⟩ := s_ixKD r zs z2 p
        exact .inr ⟨_, k, vs, v, rfl, ey, .inl hv, ev, qv⟩
      | fdK kvs =>
        simp only [dIx, e] at p
        obtain ⟨ob, vs, hv, zs⟩ := z
        obtain ⟨k, v, ey, ev, qv⟩ := s_ixKD r zs z2 p
        exact .inr ⟨_, k, vs, v, rfl, ey, .inr ⟨ob, hv⟩, ev, qv⟩
      | ins C fs => simp only [dIx, e] at p; exact p.elim
  | _ => exact p.elim

/-! ### in -/
def fEq : D → D → Bool
  | .non, .non => true
  | .bl a, .bl b => a == b
  | .bl a, .int b => (if a then 1 else 0) == b
  | .int a, .bl b => a == (if b then 1 else 0)
  | .int a, .int b => a == b
  | .str a, .str b => a == b
  | _, _ => false
def flatD (d : D) : Bool := (scD d).isSome
theorem fEq_rel {K : PySem.W.Frag} {ρ : List Addr} {H : Hp} {d e : D} {v u : V} (z : DV K ρ H d v) (w : DV K ρ H e u) (f : flatD d = true) (g : flatD e = true) : fEq d e = eqV v u ∧ flatV v = true ∧ flatV u = true := by
  cases z <;> cases w <;> first | exact ⟨rfl, rfl, rfl⟩ | (simp [flatD, scD] at f g)
theorem fIn_rel {K : PySem.W.Frag} {ρ : List Addr} {H : Hp} {d : D} {v : V} (z : DV K ρ H d v) (f : flatD d = true) : ∀ {ds : List D} {vs : List V}, DVs K ρ H ds vs → ds.all flatD = true →
    (ds.any fun y => fEq y d) = inV v vs ∧ flatV v = true ∧ vs.all flatV = true
  | _, _, .nil, _ => ⟨rfl, by cases z <;> first | rfl | (simp [flatD, scD] at f), rfl⟩
  | e :: ds, u :: vs, .cons w s, g => by
    rw [List.all_cons, Bool.and_eq_true] at g
    obtain ⟨h1, h2, h3⟩ := fIn_rel z f s g.2
    obtain ⟨k1, k2, k3⟩ := fEq_rel w z g.1 f
    refine ⟨?_, h2, by rw [List.all_cons, k2, h3]; rfl⟩
    show (fEq e d || ds.any fun y => fEq y d) = (eqV u v || inV v vs)
    rw [k1, h1]
def itemsD (h : HS) : D → Option (List D)
  | .tup ds => some ds
  | .cst ds => some ds
  | .ref i => match h[i]? with
    | some (.lst ds) => some ds
    | _ => none
  | _ => none
theorem itemsD_ok {K : PySem.W.Frag} {ρ : List Addr} {h : HS} {H : Hp} (r : Rep K ρ h H) {d : D} {v : V} {ds : List D} (z : DV K ρ H d v) (e : itemsD h d = some ds) : ∃ a vs, v = .ref a ∧ (SqL K H a vs ∨ SqT K H a vs) ∧ DVs K ρ H ds vs := by
  cases z <;> first | (simp [itemsD] at e; done) | skip
  · rename_i i a q
    cases q1 : h[i]? with
    | none => simp only [itemsD, q1] at e; cases e
    | some o =>
      cases o with
      | lst ds =>
        simp only [itemsD, q1] at e
        cases e
        obtain ⟨a', ea, va, ha, za⟩ := r.look q1
        rw [q] at ea; cases ea
        exact ⟨_, va, rfl, .inl (SqL.of ha), za⟩
      | _ => simp only [itemsD, q1] at e; cases e
  · rename_i q z; cases e; exact ⟨_, _, rfl, .inr q, z⟩
  · rename_i q z; cases e; exact ⟨_, _, rfl, .inl q.sq, z⟩
def dictD (h : HS) : D → Option (List (Key × D))
  | .ref i => match h[i]? with
    | some (.dK ds) => some ds
    | some (.fdK ds) => some ds
    | _ => none
  | _ => none
theorem dictD_ok {K : PySem.W.Frag} {ρ : List Addr} {h : HS} {H : Hp} (r : Rep K ρ h H) {d : D} {v : V} {ks : List (Key × D)} (z : DV K ρ H d v) (e : dictD h d = some ks) : ∃ a vs, v = .ref a ∧ Rd H a (.dK vs) ∧ KDs Key K ρ H ks vs := by
  cases z <;> first | (simp [dictD] at e; done) | skip
  rename_i i a q
  cases q1 : h[i]? with
  | none => simp only [dictD, q1] at e; cases e
  | some o =>
    obtain ⟨a', ea, z⟩ := r.look q1
    rw [q] at ea; cases ea
    cases o with
    | dK ds => simp only [dictD, q1] at e; cases e; obtain ⟨va, ha, za⟩ := z; exact ⟨_, va, rfl, .inl ha, za⟩
    | fdK ds => simp only [dictD, q1] at e; cases e; obtain ⟨ob, va, ha, za⟩ := z; exact ⟨_, va, rfl, .inr ⟨ob, ha⟩, za⟩
    | _ => simp only [dictD, q1] at e; cases e
/-- x in y, as a truth -/
def inB (x y : D) (h : HS) : Option Bool := match itemsD h y with
  | some ds => if flatD x && ds.all flatD then some (ds.any fun y => fEq y x) else none
  | none => match dictD h y with
    | some ks => (keyD x).map fun k => (getK ks k).isSome
    | none => match x, y with
      | .str a, .str b => if a.length = 1 then some (decide (a.cps.getD 0 0 ∈ b.cps.toList)) else some (!(Builtin.Str.occurrences b a 0 b.length 1).isEmpty)
      | _, _ => none
def dIn (x y : D) (h : HS) : R D := match inB x y h with
  | some b => .ok (.bl b) h
  | none => .bad
def dNotIn (x y : D) (h : HS) : R D := match inB x y h with
  | some b => .ok (.bl !b) h
  | none => .bad
def rInK : R2 := fun x y H Q => ∃ a o, y = .ref a ∧ DGet H a x o ∧ Q (.bl o.isSome) H
def rNotInK : R2 := fun x y H Q => ∃ a o, y = .ref a ∧ DGet H a x o ∧ Q (.bl (!o.isSome)) H
theorem op_inK {X : Cx} (hu : X.A.units + 1 < cLine) : OpR X (compareOp .In) rInK := by
  intro pins s σ H x y v u Q I rx ry h
  obtain ⟨a, o, rfl, g, q⟩ := h
  obtain rfl : u = Value.ref a := ry
  exact d_in hu I g rx fun s3 I3 => ⟨.bl o.isSome, H, I3, rfl, q⟩
theorem op_notInK {X : Cx} (hu : X.A.units + 1 < cLine) : OpR X (compareOp .NotIn) rNotInK := by
  intro pins s σ H x y v u Q I rx ry h
  obtain ⟨a, o, rfl, g, q⟩ := h
  obtain rfl : u = Value.ref a := ry
  exact d_notIn hu I g rx fun s3 I3 => ⟨.bl (!o.isSome), H, I3, rfl, q⟩
abbrev rInSg : R2 := fun x y H Q => ∃ (c : Nat) (z : Str), x = .str ⟨#[c]⟩ ∧ y = .str z ∧ Q (.bl (decide (c ∈ z.cps.toList))) H
abbrev rNotInSg : R2 := fun x y H Q => ∃ (c : Nat) (z : Str), x = .str ⟨#[c]⟩ ∧ y = .str z ∧ Q (.bl (!decide (c ∈ z.cps.toList))) H
abbrev rInSt : R2 := fun x y H Q => ∃ i j, x = .str i ∧ y = .str j ∧ Q (.bl (!(Builtin.Str.occurrences j i 0 j.length 1).isEmpty)) H
abbrev rNotInSt : R2 := fun x y H Q => ∃ i j, x = .str i ∧ y = .str j ∧ Q (.bl (!(!(Builtin.Str.occurrences j i 0 j.length 1).isEmpty))) H
def rInA (K : PySem.W.Frag) : R2 := fun x y H Q => rIn K false x y H Q ∨ (rInK x y H Q ∨ (rInSg x y H Q ∨ rInSt x y H Q))
def rNotInA (K : PySem.W.Frag) : R2 := fun x y H Q => rIn K true x y H Q ∨ (rNotInK x y H Q ∨ (rNotInSg x y H Q ∨ rNotInSt x y H Q))
theorem o_in {X : Cx} (hu : X.A.units + 1 < cLine) : OpR X (compareOp .In) (rInA X.K) := OpR.or op_in_seq (OpR.or (op_inK hu) (OpR.or op_in_sign op_in_str))
theorem o_notIn {X : Cx} (hu : X.A.units + 1 < cLine) : OpR X (compareOp .NotIn) (rNotInA X.K) := OpR.or op_notIn_seq (OpR.or (op_notInK hu) (OpR.or op_notIn_sign op_notin_str))
theorem str_one {a : Str} (h : a.length = 1) : a = ⟨#[a.cps.getD 0 0]⟩ := by
  obtain ⟨⟨l⟩⟩ := a
  match l, h with
  | [c], _ => rfl
theorem inB_ok {K : PySem.W.Frag} {ρ : List Addr} {h : HS} {H : Hp} (r : Rep K ρ h H) {d1 d2 : D} {x y : V} {b : Bool} (z1 : DV K ρ H d1 x) (z2 : DV K ρ H d2 y) (e : inB d1 d2 h = some b) :
    ∀ Q : VK, (Q (.bl b) H → rInA K x y H Q) ∧ (Q (.bl (!b)) H → rNotInA K x y H Q) := by
  unfold inB at e
  cases e1 : itemsD h d2 with
  | some ds =>
    rw [e1] at e
    simp only at e
    obtain ⟨a, vs, rfl, hq, zs⟩ := itemsD_ok r z2 e1
    by_cases c : (flatD d1 && ds.all flatD) = true
    · rw [if_pos c] at e
      rw [Bool.and_eq_true] at c
      obtain ⟨h1, h2, h3⟩ := fIn_rel z1 c.1 zs c.2
      rw [h1] at e
      cases e
      exact fun Q => ⟨fun q => .inl ⟨a, vs, rfl, hq, h2, h3, q⟩, fun q => .inl ⟨a, vs, rfl, hq, h2, h3, q⟩⟩
    · rw [if_neg c] at e; cases e
  | none =>
    rw [e1] at e
    simp only at e
    cases e2 : dictD h d2 with
    | some ks =>
      rw [e2] at e
      simp only at e
      obtain ⟨a, vs, rfl, hq, zs⟩ := dictD_ok r z2 e2
      obtain ⟨k, ek, eb⟩ := Option.map_eq_some_iff.mp e
      have ex := keyD_rel z1 ek
      subst ex
      have g : DGet H a (kV k) (valV vs k) := .inl ⟨vs, k, hq, rfl, rfl⟩
      have eo : (valV vs k).isSome = b := by
        rw [← eb]
        cases q : getK ks k with
        | none => rw [(zs.get k).2 q]; rfl
        | some d => obtain ⟨v, ev, _⟩ := (zs.get k).1 d q; rw [ev]; rfl
      exact fun Q => ⟨fun q => .inr (.inl ⟨a, _, rfl, g, by rw [eo]; exact q⟩), fun q => .inr (.inl ⟨a, _, rfl, g, by rw [eo]; exact q⟩)⟩
    | none =>
      rw [e2] at e
      cases z1 <;> cases z2 <;> first | (cases e; done) | skip
      rename_i a c
      simp only at e
      by_cases hl : a.length = 1
      · rw [if_pos hl] at e
        cases e
        exact fun Q => ⟨fun q => .inr (.inr (.inl ⟨_, _, congrArg V.str (str_one hl), rfl, q⟩)), fun q => .inr (.inr (.inl ⟨_, _, congrArg V.str (str_one hl), rfl, q⟩))⟩
      · rw [if_neg hl] at e
        cases e
        exact fun Q => ⟨fun q => .inr (.inr (.inr ⟨_, _, rfl, rfl, q⟩)), fun q => .inr (.inr (.inr ⟨_, _, rfl, rfl, q⟩))⟩
theorem s_in {K : PySem.W.Frag} : OpS K dIn (rInA K) := by
  intro ρ h H d1 d2 x y W Q r z1 z2 p
  unfold dIn at p
  cases e : inB d1 d2 h with
  | none => rw [e] at p; exact p.elim
  | some b => rw [e] at p; exact (inB_ok r z1 z2 e Q).1 (p.use r (.bl b))
theorem s_notIn {K : PySem.W.Frag} : OpS K dNotIn (rNotInA K) := by
  intro ρ h H d1 d2 x y W Q r z1 z2 p
  unfold dNotIn at p
  cases e : inB d1 d2 h with
  | none => rw [e] at p; exact p.elim
  | some b => rw [e] at p; exact (inB_ok r z1 z2 e Q).2 (p.use r (.bl (!b)))

/-! ### a value as a test -/
def truB (h : HS) : D → Option Bool
  | .non => some false
  | .bl b => some b
  | .int i => some (i != 0)
  | .str y => if y.length ≤ sizeLine then some ((y.length : Int) != 0) else none
  | .tup ds => some (!ds.isEmpty)
  | .cst ds => some (!ds.isEmpty)
  | .ref i => match h[i]? with
    | some (.lst ds) => some (!ds.isEmpty)
    | some (.dK ds) => some (!ds.isEmpty)
    | _ => none
  | _ => none
theorem isEmpty_len {α β : Type} {xs : List α} {ys : List β} (e : xs.length = ys.length) : xs.isEmpty = ys.isEmpty := by
  cases xs <;> cases ys <;> first | rfl | (simp at e)
theorem truB_ok {K : PySem.W.Frag} {ρ : List Addr} {h : HS} {H : Hp} (r : Rep K ρ h H) {d : D} {v : V} {b : Bool} (z : DV K ρ H d v) (e : truB h d = some b) : TruV K v H b := by
  cases z with
  | non => cases e; rfl
  | bl b => cases e; rfl
  | int i => cases e; rfl
  | str y =>
    simp only [truB] at e
    by_cases c : y.length ≤ sizeLine
    · rw [if_pos c] at e; cases e; exact ⟨c, rfl⟩
    · rw [if_neg c] at e; cases e
  | ty n => cases e
  | tup q zs => cases e; exact .inr (.inl ⟨_, q, by rw [isEmpty_len zs.length]⟩)
  | cst q zs => cases e; exact .inl ⟨_, q.sq, by rw [isEmpty_len zs.length]⟩
  | ref q =>
    rename_i i a
    cases q1 : h[i]? with
    | none => simp only [truB, q1] at e; cases e
    | some o =>
      obtain ⟨a', ea, z⟩ := r.look q1
      rw [q] at ea; cases ea
      cases o with
      | lst ds => simp only [truB, q1] at e; cases e; obtain ⟨va, ha, za⟩ := z; exact .inl ⟨_, SqL.of ha, by rw [isEmpty_len za.length]⟩
      | dK ds => simp only [truB, q1] at e; cases e; obtain ⟨va, ha, za⟩ := z; exact .inr (.inr ⟨_, ha, by rw [isEmpty_len za.length]⟩)
      | _ => simp only [truB, q1] at e; cases e
def mTru (m : FE) : FT := fun σ h => (m σ h).bind fun d h1 => match truB h1 d with
  | some b => .ok b h1
  | none => .bad
section
variable {X : Cx} {W : WX} {pos : Pos} {e a b : Expr} {es rest : List Expr} {m ma mb : FE} {ta tb : FT}
theorem gt_val (ha : GE X W a ma) (he : ∀ whole, isTrue a X.env whole = (do let v ← whole; standAt a.pos; holding [v] (truthy v)) := by intro _; rfl) : GT X W a (mTru ma) :=
  pt_mono (pt_truth ha he) fun σ H Q ⟨ρ, σh, h, rr, s, p⟩ => ⟨ρ, σh, h, rr, s, Post.of_bind p fun d h1 ρ1 v H1 e1 r1 z1 p1 => by
    cases e : truB h1 d with
    | none => rw [e] at p1; exact p1.elim
    | some b => rw [e] at p1; exact ⟨b, truB_ok r1 z1 e, p1.use r1 rfl⟩⟩
/-- a comparison as a test -/
def mBl (m : FE) : FT := fun σ h => (m σ h).bind fun d h1 => match d with
  | .bl b => .ok b h1
  | _ => .bad
theorem lBl {m : FE} {t : TE} (k : ∀ σ H Q, lE X.K W m σ H Q → t σ H Q) (σ : L2.St) (H : Hp) (Q : Bool → Hp → Prop) (q : lT X.K W (mBl m) σ H Q) : tTest t σ H Q := by
  obtain ⟨ρ, σh, h, rr, s, p⟩ := q
  refine k σ H _ ⟨ρ, σh, h, rr, s, Post.of_bind p fun d h1 ρ1 v H1 e1 r1 z1 p1 => ?_⟩
  cases z1 <;> first | exact p1.elim | exact ⟨_, rfl, p1.use r1 rfl⟩
theorem gt_cmp {op : CmpOp} {f : D → D → HS → R D} {r : R2} (ho : OpR X (compareOp op) r) (hf : OpS X.K f r) (ha : GE X W a ma) (hb : GE X W b mb) (hm : behindInMarks op b = false := by rfl) :
    GT X W (.Compare a [op] [b] pos) (mBl (mOp f ma mb)) := pt_mono (pt_cmpR ho ha hb hm) (lBl (lOp hf))
/-- and, or, not -/
def mAnd (ta tb : FT) : FT := fun σ h => (ta σ h).bind fun c h1 => if c = true then tb σ h1 else .ok false h1
def mOr (ta tb : FT) : FT := fun σ h => (ta σ h).bind fun c h1 => if c = true then .ok true h1 else tb σ h1
def mNot (ta : FT) : FT := fun σ h => (ta σ h).bind fun c h1 => .ok (!c) h1
theorem gw_and1 (ha : GT X W a ta) : GW X W (.BoolOp .And [a] pos) ta := pw_and1 ha
theorem gw_or1 (ha : GT X W a ta) : GW X W (.BoolOp .Or [a] pos) ta := pw_or1 ha
theorem gw_and (ha : GT X W a ta) (hb : GW X W (.BoolOp .And (b :: rest) pos) tb) : GW X W (.BoolOp .And (a :: b :: rest) pos) (mAnd ta tb) :=
  pw_mono (pw_and ha hb) fun σ H Q ⟨ρ, σh, h, rr, s, p⟩ => ⟨ρ, σh, h, rr, s, Post.of_bind p fun d h1 ρ1 v H1 e1 r1 z1 p1 => by
    cases z1
    cases d with
    | true => exact ⟨ρ1, σh, h1, r1, s.mono rr e1, p1⟩
    | false => exact p1.use r1 rfl⟩
theorem gw_or (ha : GT X W a ta) (hb : GW X W (.BoolOp .Or (b :: rest) pos) tb) : GW X W (.BoolOp .Or (a :: b :: rest) pos) (mOr ta tb) :=
  pw_mono (pw_or ha hb) fun σ H Q ⟨ρ, σh, h, rr, s, p⟩ => ⟨ρ, σh, h, rr, s, Post.of_bind p fun d h1 ρ1 v H1 e1 r1 z1 p1 => by
    cases z1
    cases d with
    | false => exact ⟨ρ1, σh, h1, r1, s.mono rr e1, p1⟩
    | true => exact p1.use r1 rfl⟩
theorem gt_w (h : GW X W e ta) : GT X W e ta := PW.pt h
theorem gt_not (ha : GT X W a ta) : GT X W (.UnaryOp .Not a pos) (mNot ta) :=
  pt_mono (pt_not ha) fun σ H Q ⟨ρ, σh, h, rr, s, p⟩ => ⟨ρ, σh, h, rr, s, Post.of_bind p fun d h1 ρ1 v H1 e1 r1 z1 p1 => by
    cases z1
    exact p1.use r1 rfl⟩
/-- the same as values: of truths -/
def mAndV (ma mb : FE) : FE := fun σ h => (ma σ h).bind fun d h1 => match d with
  | .bl true => mb σ h1
  | .bl false => .ok (.bl false) h1
  | _ => .bad
def mOrV (ma mb : FE) : FE := fun σ h => (ma σ h).bind fun d h1 => match d with
  | .bl false => mb σ h1
  | .bl true => .ok (.bl true) h1
  | _ => .bad
def mNotV (ma : FE) : FE := fun σ h => (ma σ h).bind fun d h1 => match d with
  | .bl b => .ok (.bl !b) h1
  | _ => .bad
theorem g_one {op} (h : GE X W a m) : GE X W (.BoolOp op [a] pos) m := pe_one h
theorem g_and (ha : GE X W a ma) (hb : GE X W (.BoolOp .And (b :: rest) pos) mb) : GE X W (.BoolOp .And (a :: b :: rest) pos) (mAndV ma mb) :=
  pe_mono (pe_and ha hb) fun σ H Q ⟨ρ, σh, h, rr, s, p⟩ => ⟨ρ, σh, h, rr, s, Post.of_bind p fun d h1 ρ1 v H1 e1 r1 z1 p1 => by
    cases z1 <;> first | exact p1.elim | skip
    rename_i c
    cases c with
    | true => exact ⟨true, rfl, ⟨ρ1, σh, h1, r1, s.mono rr e1, p1⟩⟩
    | false => exact ⟨false, rfl, p1.use r1 (.bl false)⟩⟩
theorem g_or (ha : GE X W a ma) (hb : GE X W (.BoolOp .Or (b :: rest) pos) mb) : GE X W (.BoolOp .Or (a :: b :: rest) pos) (mOrV ma mb) :=
  pe_mono (pe_or ha hb) fun σ H Q ⟨ρ, σh, h, rr, s, p⟩ => ⟨ρ, σh, h, rr, s, Post.of_bind p fun d h1 ρ1 v H1 e1 r1 z1 p1 => by
    cases z1 <;> first | exact p1.elim | skip
    rename_i c
    cases c with
    | false => exact ⟨false, rfl, ⟨ρ1, σh, h1, r1, s.mono rr e1, p1⟩⟩
    | true => exact ⟨true, rfl, p1.use r1 (.bl true)⟩⟩
theorem g_not (ha : GE X W a ma) : GE X W (.UnaryOp .Not a pos) (mNotV ma) :=
  pe_mono (pe_not ha) fun σ H Q ⟨ρ, σh, h, rr, s, p⟩ => ⟨ρ, σh, h, rr, s, Post.of_bind p fun d h1 ρ1 v H1 e1 r1 z1 p1 => by
    cases z1 <;> first | exact p1.elim | exact ⟨_, rfl, p1.use r1 (.bl _)⟩⟩
def mIf (t : FT) (ma mb : FE) : FE := fun σ h => (t σ h).bind fun c h1 => if c = true then ma σ h1 else mb σ h1
theorem g_if {c : Expr} (hc : GT X W c ta) (ha : GE X W a ma) (hb : GE X W b mb) : GE X W (.IfExp c a b pos) (mIf ta ma mb) :=
  pe_mono (pe_ifExp hc ha hb) fun σ H Q ⟨ρ, σh, h, rr, s, p⟩ => ⟨ρ, σh, h, rr, s, Post.of_bind p fun d h1 ρ1 v H1 e1 r1 z1 p1 => by
    cases z1
    cases d with
    | true => exact ⟨ρ1, σh, h1, r1, s.mono rr e1, p1⟩
    | false => exact ⟨ρ1, σh, h1, r1, s.mono rr e1, p1⟩⟩
end
end FL

set_option Elab.async false
set_option linter.all false
set_option maxRecDepth 100000
/-! FL, part c: statements, loops, comprehensions, calls. -/
namespace FL
open PySem PySem.Spec PyProof.Rows L2

inductive RS where
  | bad | nx (σ : Sl) (h : HS) | rt (d : D) (h : HS) | bk (σ : Sl) (h : HS) | ct (σ : Sl) (h : HS) | ex (x : XV) (σ : Sl) (h : HS)
abbrev FS := Sl → HS → RS
def R.on {α : Type} (m : R α) (σ : Sl) (k : α → HS → RS) : RS := match m with
  | .bad => .bad
  | .ok a h => k a h
  | .ex x h => .ex x σ h

def PostS (K : PySem.W.Frag) (ρ : List Addr) (H : Hp) (W : WX) (T : Ends) : RS → Prop
  | .bad => False
  | .nx σh h' => ∀ ρ' σ' H', Ext ρ H ρ' H' → Rep K ρ' h' H' → RepS K ρ' H' σh σ' → T.nx σ' H'
  | .bk σh h' => ∀ ρ' σ' H', Ext ρ H ρ' H' → Rep K ρ' h' H' → RepS K ρ' H' σh σ' → T.bk σ' H'
  | .ct σh h' => ∀ ρ' σ' H', Ext ρ H ρ' H' → Rep K ρ' h' H' → RepS K ρ' H' σh σ' → T.ct σ' H'
  | .rt d h' => ∀ ρ' v H', Ext ρ H ρ' H' → Rep K ρ' h' H' → DV K ρ' H' d v → T.rt v H'
  | .ex x σh h' => ∀ ρ' dx σ' H', Ext ρ H ρ' H' → Rep K ρ' h' H' → RepS K ρ' H' σh σ' → XRep K ρ' H' x dx → W (.ref x.cls) dx σ' H'
section
variable {K : PySem.W.Frag} {ρ ρ1 : List Addr} {h h1 : HS} {H H1 : Hp} {W : WX} {T T' : Ends}
theorem PostS.ext (e : Ext ρ H ρ1 H1) {m : RS} (p : PostS K ρ H W T m) : PostS K ρ1 H1 W T m := by
  cases m with
  | bad => exact p
  | nx => exact fun ρ' v H' e2 r q => p ρ' v H' (e.trans e2 r.nd) r q
  | bk => exact fun ρ' v H' e2 r q => p ρ' v H' (e.trans e2 r.nd) r q
  | ct => exact fun ρ' v H' e2 r q => p ρ' v H' (e.trans e2 r.nd) r q
  | rt => exact fun ρ' v H' e2 r q => p ρ' v H' (e.trans e2 r.nd) r q
  | ex => exact fun ρ' v σ' H' e2 r q => p ρ' v σ' H' (e.trans e2 r.nd) r q
theorem PostS.of_on {α β : Type} {rel : List Addr → Hp → α → β → Prop} {m : R α} {σh : Sl} {σ : L2.St} {k : α → HS → RS} {Q : β → Hp → Prop} (p : PostS K ρ H W T (m.on σh k)) (r : Rep K ρ h H) (s : RepS K ρ H σh σ)
    (q : ∀ d h1 ρ1 v H1, Ext ρ H ρ1 H1 → Rep K ρ1 h1 H1 → rel ρ1 H1 d v → PostS K ρ1 H1 W T (k d h1) → Q v H1) : Post K ρ H rel (fun c d H' => W c d σ H') Q m := by
  cases m with
  | bad => exact p
  | ok d h' => exact fun ρ' v H' e r' z => q d h' ρ' v H' e r' z (PostS.ext e p)
  | ex x h' => exact fun ρ' dx H' e r' z => p ρ' dx σ H' e r' (s.mono r e) z
theorem PostS.useN {σh : Sl} {σ : L2.St} (p : PostS K ρ H W T (.nx σh h)) (r : Rep K ρ h H) (s : RepS K ρ H σh σ) : T.nx σ H := p ρ σ H .refl r s
end
def lS (K : PySem.W.Frag) (W : WX) (m : FS) : TS := fun T σ H => ∃ ρ σh h, Rep K ρ h H ∧ RepS K ρ H σh σ ∧ PostS K ρ H W T (m σh h)
def GS (X : Cx) (W : WX) (st : Stmt) (m : FS) : Prop := PS X st (lS X.K W m)
def GSs (X : Cx) (W : WX) (st : List Stmt) (m : FS) : Prop := PSs X st (lS X.K W m)

/-- the context of a body -/
structure CK (X : Cx) (W : WX) (k : Nat) : Prop where
  calm : X.calm = true
  nd : X.N.Nodup
  tk : Takes X W
  po : PassesOwn (model X.prog X.w) X.A X.env X.xe
  hr : Room k X.A
abbrev W0 : WX := fun _ _ _ _ => False
theorem CK.u64 {X : Cx} {W : WX} {k : Nat} (c : CK X W k) : X.A.units + 64 < cLine := c.hr.units
theorem CK.u1 {X : Cx} {W : WX} {k : Nat} (c : CK X W k) : X.A.units + 1 < cLine := hu_of c.hr
theorem CK.blk {X : Cx} {W : WX} {k : Nat} (c : CK X W k) (s : Shared) (H : Hp) (scope : Scope) (env : Env) (fp : List Addr) : CK (X.blk s H scope env fp) W0 k :=
  ⟨c.calm, c.nd, takes0, PassesOwn.never, c.hr⟩

section
variable {X : Cx} {W : WX} {pos : Pos} {e a b : Expr} {es rest : List Expr} {st : Stmt} {sts : List Stmt} {m ma mb : FE} {ta tb : FT} {u v : FS}
/-! ### small statements, blocks -/
def mSkip : FS := fun σ h => .nx σ h
def mSeq (u v : FS) : FS := fun σ h => match u σ h with
  | .nx σ' h' => v σ' h'
  | r => r
theorem lSeq (T : Ends) (σ : L2.St) (H : Hp) (q : lS X.K W (mSeq u v) T σ H) : tSeq (lS X.K W u) (lS X.K W v) T σ H := by
  obtain ⟨ρ, σh, h, rr, s, p⟩ := q
  refine ⟨ρ, σh, h, rr, s, ?_⟩
  unfold mSeq at p
  cases c : u σh h with
  | nx σ1 h1 =>
    rw [c] at p
    exact fun ρ' σ' H' e r z => ⟨ρ', σ1, h1, r, z, PostS.ext e p⟩
  | bad => rw [c] at p; exact p
  | rt => rw [c] at p; exact p
  | bk => rw [c] at p; exact p
  | ct => rw [c] at p; exact p
  | ex => rw [c] at p; exact p
theorem gs_nil : GSs X W [] mSkip := pss_mono pss_nil fun T σ H ⟨ρ, σh, h, r, s, p⟩ => p.useN r s
theorem gs_cons (h1 : GS X W st u) (h2 : GSs X W sts v) : GSs X W (st :: sts) (mSeq u v) := pss_mono (pss_cons h1 h2) lSeq
theorem gs_one (h1 : GS X W st u) : GSs X W [st] u := pss_one h1
theorem g_pass : GS X W (.Pass pos) mSkip := ps_mono ps_pass fun T σ H ⟨ρ, σh, h, r, s, p⟩ => p.useN r s
def mBrk : FS := fun σ h => .bk σ h
def mCnt : FS := fun σ h => .ct σ h
theorem g_break : GS X W (.Break pos) mBrk := ps_mono ps_break fun T σ H ⟨ρ, σh, h, r, s, p⟩ => p ρ σ H .refl r s
theorem g_continue : GS X W (.Continue pos) mCnt := ps_mono ps_continue fun T σ H ⟨ρ, σh, h, r, s, p⟩ => p ρ σ H .refl r s
theorem g_doc {x j pos pos'} : GS X W (.Expr (.Constant (.str x) j pos) pos') mSkip := ps_mono ps_doc fun T σ H ⟨ρ, σh, h, r, s, p⟩ => p.useN r s
def mDrop (m : FE) : FS := fun σ h => (m σ h).on σ fun _ h1 => .nx σ h1
theorem g_expr (he : GE X W e m) (hs : swapsWith e none pos.line X.env = pure false := by rfl) : GS X W (.Expr e pos) (mDrop m) :=
  ps_mono (ps_expr he hs) fun T σ H ⟨ρ, σh, h, r, s, p⟩ => ⟨ρ, σh, h, r, s, PostS.of_on p r s fun d h1 ρ1 v H1 e1 r1 z1 p1 => p1.useN r1 (s.mono r e1)⟩
def mRet (m : FE) : FS := fun σ h => (m σ h).on σ fun d h1 => .rt d h1
theorem g_ret (he : GE X W e m) : GS X W (.Return (some e) pos) (mRet m) :=
  ps_mono (ps_ret he) fun T σ H ⟨ρ, σh, h, r, s, p⟩ => ⟨ρ, σh, h, r, s, PostS.of_on p r s fun d h1 ρ1 v H1 e1 r1 z1 p1 => p1 ρ1 v H1 .refl r1 z1⟩
def mRetN : FS := fun σ h => .rt .non h
theorem g_retN : GS X W (.Return none pos) mRetN := ps_mono ps_retN fun T σ H ⟨ρ, σh, h, r, s, p⟩ => p ρ _ H .refl r .non
def mIfS (t : FT) (u v : FS) : FS := fun σ h => (t σ h).on σ fun c h1 => if c = true then u σ h1 else v σ h1
theorem g_ifS {c : Expr} {as bs : List Stmt} (hc : GT X W c ta) (ha : GSs X W as u) (hb : GSs X W bs v) : GS X W (.If c as bs pos) (mIfS ta u v) :=
  ps_mono (ps_if hc ha hb) fun T σ H ⟨ρ, σh, h, r, s, p⟩ => ⟨ρ, σh, h, r, s, PostS.of_on p r s fun d h1 ρ1 v H1 e1 r1 z1 p1 => by
    cases z1
    cases d with
    | true => exact ⟨ρ1, σh, h1, r1, s.mono r e1, p1⟩
    | false => exact ⟨ρ1, σh, h1, r1, s.mono r e1, p1⟩⟩
def mNever : FS := fun _ _ => .bad
theorem g_never : GS X W st mNever := ps_mono ps_never fun T σ H ⟨ρ, σh, h, r, s, p⟩ => p.elim
theorem gs_never : GSs X W sts mNever := pss_mono pss_never fun T σ H ⟨ρ, σh, h, r, s, p⟩ => p.elim

/-! ### targets -/
abbrev FG := D → Sl → HS → R Sl
def lG (K : PySem.W.Frag) (W : WX) (m : FG) : TG := fun v σ H Q => ∃ ρ σh h d, Rep K ρ h H ∧ RepS K ρ H σh σ ∧ DV K ρ H d v ∧ Post K ρ H (RepS K) (fun c d H' => W c d σ H') Q (m d σh h)
def GG (X : Cx) (W : WX) (e : Expr) (m : FG) : Prop := PG X e (lG X.K W m)
def mTo (i : Nat) : FG := fun d σ h => .ok (σ.set i (some d)) h
theorem gg_name {i : Nat} {x : Str} (hN : X.N.Nodup) (hi : X.N[i]? = some x := by rfl) (hx : Loc X.env.scope x := by first | exact Or.inl rfl | exact Or.inr rfl) (hf : X.fn x = true ∨ X.env.scope.names.lookup x = some .local := by first | exact .inl rfl | exact .inr rfl) : GG X W (.Name x pos) (mTo i) :=
  pg_mono (pg_name hN hi hx hf) fun v σ H Q ⟨ρ, σh, h, d, r, s, z, p⟩ => p.use r (s.set i z)
/-- several names -/
def setAll : List Nat → List D → Sl → Option Sl
  | [], [], σ => some σ
  | i :: is, d :: ds, σ => setAll is ds (σ.set i (some d))
  | _, _, _ => none
def mTos (is : List Nat) : FG := fun d σ h => match d with
  | .tup ds => match setAll is ds σ with
    | some σ' => .ok σ' h
    | none => .bad
  | _ => .bad
def tNames : List Nat → TGs
  | [] => gNil
  | i :: is => gCons (gName i) (tNames is)
theorem setAll_len : ∀ {is : List Nat} {ds : List D} {σ σ' : Sl}, setAll is ds σ = some σ' → is.length = ds.length
  | [], [], _, _, _ => rfl
  | i :: is, d :: ds, _, _, e => by rw [List.length_cons, List.length_cons, setAll_len (is := is) (ds := ds) e]
  | [], _ :: _, _, _, e => by cases e
  | _ :: _, [], _, _, e => by cases e
theorem tNames_ok {K : PySem.W.Frag} {ρ : List Addr} {H : Hp} : ∀ {is : List Nat} {ds : List D} {vs : List V} {σh σh' : Sl} {σ : L2.St} {Q : L2.St → Hp → Prop}, DVs K ρ H ds vs → RepS K ρ H σh σ → setAll is ds σh = some σh' →
    (∀ σ', RepS K ρ H σh' σ' → (∀ js : List Nat, (∀ i ∈ is, i ∈ js) → wipe σ' js = wipe σ js) → Q σ' H) → tNames is vs σ H Q
  | [], [], _, _, _, _, _, z, s, e, q => by cases z; cases e; exact ⟨rfl, q _ s fun _ _ => rfl⟩
  | i :: is, d :: ds, _, _, _, _, _, z, s, e, q => by
    cases z with
    | cons z1 z2 =>
      refine ⟨_, _, rfl, tNames_ok (is := is) (ds := ds) z2 (s.set i z1) e fun σ' s' hw => q σ' s' fun js hj => ?_⟩
      rw [hw js fun k hk => hj k (List.mem_cons_of_mem _ hk)]
      have hi : i ∈ js := hj i List.mem_cons_self
      clear hj hw
      induction js with
      | nil => cases hi
      | cons j js ih =>
        unfold wipe
        by_cases hij : i ∈ js
        · rw [ih hij]
        · have : i = j := by
            rcases List.mem_cons.mp hi with z | z
            · exact z
            · exact absurd z hij
          subst this
          have comm : ∀ (js : List Nat) (σ : L2.St) (x : Option V), i ∉ js → wipe (σ.set i x) js = (wipe σ js).set i x := by
            intro js
            induction js with
            | nil => intro σ x _; rfl
            | cons k js ih2 =>
              intro σ x hn
              unfold wipe
              rw [ih2 σ x fun z => hn (List.mem_cons_of_mem _ z)]
              exact List.set_comm _ _ fun e => hn (by rw [e]; exact List.mem_cons_self)
          rw [comm js _ _ hij, List.set_set]
  | [], _ :: _, _, _, _, _, _, _, _, e, _ => by cases e
  | _ :: _, [], _, _, _, _, _, _, _, e, _ => by cases e
theorem gg_names {is : List Nat} {k : Nat} (hc : X.calm = true) (hp : PGs X es (tNames is)) (hn : (assignEach es X.env).length = is.length := by rfl) (hst : (assignEach es X.env).findIdx? (·.1) = none := by rfl) : GG X W (.Tuple es k pos) (mTos is) :=
  pg_mono (pg_tup hc hp hn hst) fun v σ H Q ⟨ρ, σh, h, d, r, s, z, p⟩ => by
    cases z with
    | tup q zs =>
      unfold mTos at p
      simp only at p
      rename_i a vs ds _
      cases e : setAll is ds σh with
      | none => rw [e] at p; exact p.elim
      | some σ' =>
        rw [e] at p
        exact ⟨_, vs, rfl, q, by rw [setAll_len e, zs.length], tNames_ok zs s e fun σ' s' _ => p.use r s'⟩
    | _ => exact p.elim
/-- o[i] = .. -/
def dSet (o i d : D) (h : HS) : Option HS := match o with
  | .ref a => match h[a]? with
    | some (.lst ds) => match i with
      | .int k => (ixN ds.length k).map fun j => h.set a (.lst (ds.set j d))
      | _ => none
    | some (.dK kvs) => match keyD i with
      | some k => if kvs.length < sizeLine then some (h.set a (.dK (setK kvs k d))) else none
      | none => none
    | _ => none
  | _ => none
def rSet2 : TSet := fun o i v H Q => rSetL o i v H Q ∨ rSetD o i v H Q
theorem p_set {k : Nat} (c : CK X W k) : PSet X rSet2 := by
  intro pins s σ H o i v ov iv u Q I ro ri rv h
  rcases h with h | h
  · exact set_list pins s σ H o i v ov iv u Q I ro ri rv h
  · exact set_dict c.u1 pins s σ H o i v ov iv u Q I ro ri rv h
theorem dSet_ok {K : PySem.W.Frag} {ρ : List Addr} {h h' : HS} {H : Hp} (r : Rep K ρ h H) {o i d : D} {x y v : V} {Q : Hp → Prop} (z1 : DV K ρ H o x) (z2 : DV K ρ H i y) (z3 : DV K ρ H d v) (e : dSet o i d h = some h')
    (q : ∀ H', Ext ρ H ρ H' → Rep K ρ h' H' → Q H') : rSet2 x y v H Q := by
  cases z1 <;> first | (cases e; done) | skip
  rename_i a ad qa
  unfold dSet at e
  simp only at e
  cases q1 : h[a]? with
  | none => rw [q1] at e; cases e
  | some ob =>
    obtain ⟨a', ea, z⟩ := r.look q1
    rw [qa] at ea; cases ea
    rw [q1] at e
    cases ob with
    | lst ds =>
      obtain ⟨vs, hv, zs⟩ := z
      cases z2 <;> first | (cases e; done) | skip
      rename_i k
      obtain ⟨j, ej, eh⟩ := Option.map_eq_some_iff.mp e
      subst eh
      refine .inl ⟨_, vs, k, j, rfl, rfl, hv, by rw [← zs.length]; exact ej, q _ (Ext.wrote qa hv) (r.wrote qa hv rfl ⟨_, upd_same, (zs.set z3 j).mono r (Ext.wrote qa hv)⟩)⟩
    | dK kvs =>
      obtain ⟨vs, hv, zs⟩ := z
      simp only at e
      cases ek : keyD i with
      | none => rw [ek] at e; cases e
      | some k =>
        rw [ek] at e
        simp only at e
        by_cases hl : kvs.length < sizeLine
        · rw [if_pos hl] at e
          cases e
          have ey := keyD_rel z2 ek
          subst ey
          exact .inr ⟨_, _, rfl, DPut.k hv (by rw [← zs.length]; exact hl), q _ (Ext.wrote qa hv) (r.wrote qa hv rfl ⟨_, upd_same, KDs.mono r (Ext.wrote qa hv) (zs.put k z3)⟩)⟩
        · rw [if_neg hl] at e; cases e
    | _ => cases e
def mToIx (mo mi : FE) : FG := fun d σ h => (mo σ h).bind fun o h1 => (mi σ h1).bind fun i h2 => match dSet o i d h2 with
  | some h3 => .ok σ h3
  | none => .bad
theorem gg_sub {k : Nat} (c : CK X W k) (ho : GE X W a ma) (hi : GE X W b mb)
    (hs : ∀ v, assign (.Subscript a b pos) X.env v = (do
      let ov ← holding [v] (eval a X.env)
      let iv ← holding [v, ov] (eval b X.env)
      standAt pos
      holding [v, ov, iv] (setItem ov iv v)
      release [v, ov, iv] []) := by intro _; rfl) : GG X W (.Subscript a b pos) (mToIx ma mb) :=
  pg_mono (pg_sub ho hi (p_set c) hs) fun v σ H Q ⟨ρ, σh, h, d, r, s, z, p⟩ => ⟨ρ, σh, h, r, s, Post.of_bind p fun o h1 ρ1 x H1 e1 r1 z1 p1 =>
    ⟨ρ1, σh, h1, r1, s.mono r e1, Post.of_bind p1 fun i h2 ρ2 y H2 e2 r2 z2 p2 => by
      cases e : dSet o i d h2 with
      | none => rw [e] at p2; exact p2.elim
      | some h3 =>
        rw [e] at p2
        exact dSet_ok r2 (z1.mono r1 e2) z2 ((z.mono r e1).mono r1 e2) e fun H' e3 r3 => p2 ρ2 σ H' e3 r3 (((s.mono r e1).mono r1 e2).mono r2 e3)⟩⟩
def mAsg (m : FE) (g : FG) : FS := fun σ h => (m σ h).on σ fun d h1 => (g d σ h1).on σ fun σ' h2 => .nx σ' h2
theorem lAsg {g : FG} (T : Ends) (σ : L2.St) (H : Hp) (q : lS X.K W (mAsg m g) T σ H) : tAsg (lE X.K W m) (lG X.K W g) T σ H := by
  obtain ⟨ρ, σh, h, r, s, p⟩ := q
  refine ⟨ρ, σh, h, r, s, PostS.of_on p r s fun d h1 ρ1 v H1 e1 r1 z1 p1 => ?_⟩
  exact ⟨ρ1, σh, h1, d, r1, s.mono r e1, z1, PostS.of_on p1 r1 (s.mono r e1) fun σ' h2 ρ2 σ2 H2 e2 r2 z2 p2 => p2.useN r2 z2⟩
theorem g_asg {tg : Expr} {g : FG} (he : GE X W e m) (hg : GG X W tg g) (hs : swapsWithSole [tg] e pos.line X.env = pure false := by rfl) (hw : swappedStores [tg] e X.env = pure none := by rfl)
    (h1 : (assignEach [tg] X.env).map (·.2) = [assign tg X.env] := by rfl) : GS X W (.Assign [tg] e pos) (mAsg m g) := ps_mono (ps_asg he hg hs hw h1) lAsg

/-! ### op= -/
def mAug (i : Nat) (f : D → D → HS → R D) (m : FE) : FS := fun σ h => match σ[i]? with
  | some (some d) => (m σ h).on σ fun e h1 => (f d e h1).on σ fun z h2 => .nx (σ.set i (some z)) h2
  | _ => .bad
theorem g_aug {i : Nat} {x : Str} {op : Operator} {f : D → D → HS → R D} {r : R2} {pos' : Pos} (hN : X.N.Nodup) (ho : OpR X (inplaceOp op) r) (hf : OpS X.K f r) (he : GE X W e m) (hi : X.N[i]? = some x := by rfl) (hx : Loc X.env.scope x := by first | exact Or.inl rfl | exact Or.inr rfl)
    (hfn : X.fn x = true ∨ X.env.scope.names.lookup x = some .local := by first | exact .inl rfl | exact .inr rfl) : GS X W (.AugAssign (.Name x pos') op e pos) (mAug i f m) :=
  ps_mono (ps_aug hN hi hx he ho hfn) fun T σ H ⟨ρ, σh, h, rr, s, p⟩ => by
    unfold mAug at p
    cases q : σh[i]? with
    | none => rw [q] at p; exact p.elim
    | some o =>
      cases o with
      | none => rw [q] at p; exact p.elim
      | some d =>
        rw [q] at p
        obtain ⟨v, e1, z⟩ := s.2 i d q
        refine ⟨v, e1, ρ, σh, h, rr, s, PostS.of_on p rr s fun d2 h1 ρ1 v2 H1 e1 r1 z1 p1 => ?_⟩
        refine hf ρ1 h1 H1 d d2 v v2 (fun c d H' => W c d σ H') _ r1 (z.mono rr e1) z1 (PostS.of_on p1 r1 (s.mono rr e1) fun d3 h2 ρ2 v3 H2 e2 r2 z2 p2 => ?_)
        exact p2.useN r2 (((s.mono rr e1).mono r1 e2).set i z2)
/-- d[k] op= e, d a dict -/
def dSetK (o i d : D) (h : HS) : Option HS := match o with
  | .ref a => match h[a]? with
    | some (.dK kvs) => match keyD i with
      | some k => if kvs.length < sizeLine then some (h.set a (.dK (setK kvs k d))) else none
      | none => none
    | _ => none
  | _ => none
theorem dSetK_ok {K : PySem.W.Frag} {ρ : List Addr} {h h' : HS} {H : Hp} (r : Rep K ρ h H) {o i d : D} {a : Addr} {y v : V} (z1 : DV K ρ H o (.ref a)) (z2 : DV K ρ H i y) (z3 : DV K ρ H d v) (e : dSetK o i d h = some h') :
    ∃ H', DPut H a y v H' ∧ Ext ρ H ρ H' ∧ Rep K ρ h' H' := by
  cases z1 <;> first | (cases e; done) | skip
  rename_i ai qa
  unfold dSetK at e
  simp only at e
  cases q1 : h[ai]? with
  | none => rw [q1] at e; cases e
  | some ob =>
    obtain ⟨a', ea, z⟩ := r.look q1
    rw [qa] at ea; cases ea
    rw [q1] at e
    cases ob with
    | dK kvs =>
      obtain ⟨vs, hv, zs⟩ := z
      simp only at e
      cases ek : keyD i with
      | none => rw [ek] at e; cases e
      | some k =>
        rw [ek] at e
        simp only at e
        by_cases hl : kvs.length < sizeLine
        · rw [if_pos hl] at e
          cases e
          have ey := keyD_rel z2 ek
          subst ey
          exact ⟨_, DPut.k hv (by rw [← zs.length]; exact hl), Ext.wrote qa hv, r.wrote qa hv rfl ⟨_, upd_same, KDs.mono r (Ext.wrote qa hv) (zs.put k z3)⟩⟩
        · rw [if_neg hl] at e; cases e
    | _ => cases e
def mAugK (mo mi : FE) (f : D → D → HS → R D) (m : FE) : FS := fun σ h => (mo σ h).on σ fun o h1 => (mi σ h1).on σ fun i h2 => match dictD h2 o, keyD i with
  | some kvs, some k => match getK kvs k with
    | some d => (m σ h2).on σ fun e h3 => (f d e h3).on σ fun z h4 => match dSetK o i z h4 with
      | some h5 => .nx σ h5
      | none => .bad
    | none => .bad
  | _, _ => .bad
theorem g_augK {k : Nat} {op : Operator} {f : D → D → HS → R D} {r : R2} {tpos : Pos} (c : CK X W k) (ho : OpR X (inplaceOp op) r) (hf : OpS X.K f r) (hd : GE X W a ma) (hi : GE X W b mb) (he : GE X W e m)
    (ha : ∀ ov iv new, augStore b ov iv new = (do holding [new, ov, iv] (setItem ov iv new); release [new, ov, iv] []; pure .next) := by intros; rfl) : GS X W (.AugAssign (.Subscript a b tpos) op e pos) (mAugK ma mb f m) :=
  ps_mono (ps_daug c.u1 hd hi he ho ha) fun T σ H ⟨ρ, σh, h, rr, s, p⟩ => ⟨ρ, σh, h, rr, s, PostS.of_on p rr s fun o h1 ρ1 x H1 e1 r1 z1 p1 =>
    ⟨ρ1, σh, h1, r1, s.mono rr e1, PostS.of_on p1 r1 (s.mono rr e1) fun i h2 ρ2 y H2 e2 r2 z2 p2 => by
      have s2 := (s.mono rr e1).mono r1 e2
      have z1' := z1.mono r1 e2
      cases q1 : dictD h2 o with
      | none => rw [q1] at p2; exact p2.elim
      | some kvs =>
        cases q2 : keyD i with
        | none => rw [q1, q2] at p2; exact p2.elim
        | some kk =>
          rw [q1, q2] at p2
          simp only at p2
          cases q3 : getK kvs kk with
          | none => rw [q3] at p2; exact p2.elim
          | some d =>
            rw [q3] at p2
            simp only at p2
            obtain ⟨ad, vs, ex, hv, zs⟩ := dictD_ok r2 z1' q1
            subst ex
            obtain ⟨v, ev, zv⟩ := (zs.get kk).1 d q3
            have ey := keyD_rel z2 q2
            refine ⟨ad, v, rfl, .inl ⟨vs, kk, hv, ey, ev.symm⟩, ρ2, σh, h2, r2, s2, PostS.of_on p2 r2 s2 fun d2 h3 ρ3 v2 H3 e3 r3 z3 p3 => ?_⟩
            have s3 := s2.mono r2 e3
            refine hf ρ3 h3 H3 d d2 v v2 (fun c d H' => W c d σ H') _ r3 (zv.mono r2 e3) z3 (PostS.of_on p3 r3 s3 fun d3 h4 ρ4 v3 H4 e4 r4 z4 p4 => ?_)
            have s4 := s3.mono r3 e4
            cases q4 : dSetK o i d3 h4 with
            | none => rw [q4] at p4; exact p4.elim
            | some h5 =>
              rw [q4] at p4
              obtain ⟨H5, g, e5, r5⟩ := dSetK_ok r4 ((z1'.mono r2 e3).mono r3 e4) ((z2.mono r2 e3).mono r3 e4) z4 q4
              exact ⟨H5, g, p4 ρ4 σ H5 e5 r5 (s4.mono r4 e5)⟩⟩⟩
end

/-! ### attributes of instances -/
def putA {α : Type} (f : Str) (v : α) : List (Str × α) → List (Str × α)
  | [] => [(f, v)]
  | (g, x) :: r => if g = f then (g, v) :: r else (g, x) :: putA f v r
section
variable {K : PySem.W.Frag} {ρ : List Addr} {H : Hp}
theorem FDs.look {fs : List (Str × D)} {vs : List (Str × V)} (q : KDs Str K ρ H fs vs) (f : Str) : (∀ d, fs.lookup f = some d → ∃ v, vs.lookup f = some v ∧ DV K ρ H d v) ∧ (fs.lookup f = none → vs.lookup f = none) := by
  unfold KDs at q
  induction q with
  | nil => exact ⟨(fun d e => by cases e), fun _ => rfl⟩
  | @cons p q ps qs z _ ih =>
    obtain ⟨g, d⟩ := p
    obtain ⟨g', v⟩ := q
    obtain ⟨e1, z⟩ := z
    have e1 : g = g' := e1
    subst e1
    rw [List.lookup_cons, List.lookup_cons]
    by_cases e : (f == g) = true
    · rw [e]; exact ⟨(fun d' e' => by cases e'; exact ⟨v, rfl, z⟩), (fun e' => by cases e')⟩
    · have e' : (f == g) = false := by simpa using e
      rw [e']; exact ih
theorem FDs.put {fs : List (Str × D)} {vs : List (Str × V)} (q : KDs Str K ρ H fs vs) (f : Str) {d : D} {v : V} (z : DV K ρ H d v) : KDs Str K ρ H (putA f d fs) (putF f v vs) := by
  unfold KDs at q
  induction q with
  | nil => exact .cons ⟨rfl, z⟩ .nil
  | @cons p q ps qs y t ih =>
    obtain ⟨g, d'⟩ := p
    obtain ⟨g', v'⟩ := q
    obtain ⟨e1, y⟩ := y
    have e1 : g = g' := e1
    subst e1
    show KDs Str K ρ H (if g = f then (g, d) :: ps else (g, d') :: putA f d ps) (if g = f then (g, v) :: qs else (g, v') :: putF f v qs)
    by_cases e : g = f
    · rw [if_pos e, if_pos e]; exact .cons ⟨rfl, z⟩ t
    · rw [if_neg e, if_neg e]; exact .cons ⟨rfl, y⟩ ih
end
/-- an instance of one of the classes -/
def insD (Cs : List Addr) (h : HS) : D → Option (Nat × Addr × List (Str × D))
  | .ref i => match h[i]? with
    | some (.ins C fs) => if C ∈ Cs then some (i, C, fs) else none
    | _ => none
  | _ => none
theorem insD_ok {K : PySem.W.Frag} {ρ : List Addr} {h : HS} {H : Hp} (r : Rep K ρ h H) {Cs : List Addr} {d : D} {v : V} {i : Nat} {C : Addr} {fs : List (Str × D)} (z : DV K ρ H d v) (e : insD Cs h d = some (i, C, fs)) :
    ∃ a dx vs, v = .ref a ∧ d = .ref i ∧ ρ[i]? = some a ∧ h[i]? = some (.ins C fs) ∧ C ∈ Cs ∧ H a = some (.ins C dx vs) ∧ KDs Str K ρ H fs vs := by
  cases z <;> first | (simp [insD] at e; done) | skip
  rename_i j a q
  cases q1 : h[j]? with
  | none => simp only [insD, q1] at e; cases e
  | some o =>
    obtain ⟨a', ea, z⟩ := r.look q1
    rw [q] at ea; cases ea
    cases o with
    | ins C' fs' =>
      simp only [insD, q1] at e
      by_cases hc : C' ∈ Cs
      · rw [if_pos hc] at e
        cases e
        obtain ⟨dx, va, ha, za⟩ := z
        exact ⟨a, dx, va, rfl, rfl, q, q1, hc, ha, za⟩
      · rw [if_neg hc] at e; cases e
    | _ => simp only [insD, q1] at e; cases e
section
variable {X : Cx} {W : WX} {pos : Pos} {e a b : Expr} {es rest : List Expr} {m ma mb : FE} {f : Str} {Cs : List Addr}
def HasF (K : PySem.W.Frag) (Cs : List Addr) (f : Str) : Prop := ∀ C ∈ Cs, Cls K C ∧ NoAttr K C f
def mFld (Cs : List Addr) (f : Str) (m : FE) : FE := fun σ h => (m σ h).bind fun d h1 => match insD Cs h1 d with
  | some (_, _, fs) => match fs.lookup f with
    | some v => .ok v h1
    | none => .bad
  | none => .bad
theorem g_fld (hC : HasF X.K Cs f) (ha : GE X W a ma) (hb : attributeBase a f X.env (eval a X.env) = eval a X.env := by rfl) : GE X W (.Attribute a f pos) (mFld Cs f ma) :=
  pe_mono (pe_fld ha hb) fun σ H Q ⟨ρ, σh, h, rr, s, p⟩ => ⟨ρ, σh, h, rr, s, Post.of_bind p fun d h1 ρ1 v H1 e1 r1 z1 p1 => by
    cases q : insD Cs h1 d with
    | none => rw [q] at p1; exact p1.elim
    | some t =>
      obtain ⟨i, C, fs⟩ := t
      rw [q] at p1
      simp only at p1
      obtain ⟨ad, dx, vs, rfl, rfl, _, _, hc, hv, zs⟩ := insD_ok r1 z1 q
      cases q2 : fs.lookup f with
      | none => rw [q2] at p1; exact p1.elim
      | some w =>
        rw [q2] at p1
        obtain ⟨u, eu, zu⟩ := (FDs.look zs f).1 w q2
        exact ⟨ad, C, dx, vs, u, rfl, hv, (hC C hc).1, (hC C hc).2, eu, p1.use r1 zu⟩⟩
def mFldSet (Cs : List Addr) (f : Str) (mo mv : FE) : FS := fun σ h => (mv σ h).on σ fun y h1 => (mo σ h1).on σ fun o h2 => match insD Cs h2 o with
  | some (i, C, fs) => if fs.length < 1000 then .nx σ (h2.set i (.ins C (putA f y fs))) else .bad
  | none => .bad
theorem g_fldSet (hC : HasF X.K Cs f) (ha : GE X W a ma) (hv : GE X W e m) {pos' : Pos} (hs : swapsWith e (some (.Attribute a f pos')) pos.line X.env = pure false := by rfl) : GS X W (.Assign [.Attribute a f pos'] e pos) (mFldSet Cs f ma m) :=
  ps_mono (ps_fld ha hv hs) fun T σ H ⟨ρ, σh, h, rr, s, p⟩ => ⟨ρ, σh, h, rr, s, PostS.of_on p rr s fun y h1 ρ1 x H1 e1 r1 z1 p1 =>
    ⟨ρ1, σh, h1, r1, s.mono rr e1, PostS.of_on p1 r1 (s.mono rr e1) fun o h2 ρ2 v H2 e2 r2 z2 p2 => by
      have s2 := (s.mono rr e1).mono r1 e2
      have zy := z1.mono r1 e2
      cases q : insD Cs h2 o with
      | none => rw [q] at p2; exact p2.elim
      | some t =>
        obtain ⟨i, C, fs⟩ := t
        rw [q] at p2
        simp only at p2
        obtain ⟨ad, dx, vs, rfl, rfl, qa, _, hc, hv, zs⟩ := insD_ok r2 z2 q
        by_cases hl : fs.length < 1000
        · rw [if_pos hl] at p2
          have ex := Ext.wrote (H := H2) (o := .ins C dx (putF f x vs)) qa hv
          exact ⟨ad, C, dx, vs, rfl, hv, (hC C hc).1, (hC C hc).2, by rw [← KDs.length zs]; exact hl, p2 ρ2 σ _ ex (r2.wrote qa hv rfl ⟨dx, _, upd_same, KDs.mono r2 ex (FDs.put zs f zy)⟩) (s2.mono r2 ex)⟩
        · rw [if_neg hl] at p2; exact p2.elim⟩⟩
def mFldAug (Cs : List Addr) (f : Str) (mo : FE) (g : D → D → HS → R D) (mv : FE) : FS := fun σ h => (mo σ h).on σ fun o h1 => match insD Cs h1 o with
  | some (i, C, fs) => match fs.lookup f with
    | some d => (mv σ h1).on σ fun y h2 => (g d y h2).on σ fun z h3 => match insD [C] h3 o with
      | some (_, _, fs') => if fs'.length < 1000 then .nx σ (h3.set i (.ins C (putA f z fs'))) else .bad
      | none => .bad
    | none => .bad
  | none => .bad
theorem g_fldAug {op : Operator} {g : D → D → HS → R D} {r : R2} (hC : HasF X.K Cs f) (ho : OpR X (inplaceOp op) r) (hf : OpS X.K g r) (ha : GE X W a ma) (hv : GE X W e m) {tpos : Pos} : GS X W (.AugAssign (.Attribute a f tpos) op e pos) (mFldAug Cs f ma g m) :=
  ps_mono (ps_fldaug ha hv ho) fun T σ H ⟨ρ, σh, h, rr, s, p⟩ => ⟨ρ, σh, h, rr, s, PostS.of_on p rr s fun o h1 ρ1 x H1 e1 r1 z1 p1 => by
    have s1 := s.mono rr e1
    cases q : insD Cs h1 o with
    | none => rw [q] at p1; exact p1.elim
    | some t =>
      obtain ⟨i, C, fs⟩ := t
      rw [q] at p1
      simp only at p1
      obtain ⟨ad, dx, vs, rfl, rfl, qa, _, hc, hv, zs⟩ := insD_ok r1 z1 q
      cases q2 : fs.lookup f with
      | none => rw [q2] at p1; exact p1.elim
      | some w =>
        rw [q2] at p1
        simp only at p1
        obtain ⟨u, eu, zu⟩ := (FDs.look zs f).1 w q2
        refine ⟨ad, C, dx, vs, u, rfl, hv, (hC C hc).1, (hC C hc).2, eu, ρ1, σh, h1, r1, s1, PostS.of_on p1 r1 s1 fun y h2 ρ2 v2 H2 e2 r2 z2 p2 => ?_⟩
        have s2 := s1.mono r1 e2
        refine hf ρ2 h2 H2 w y u v2 (fun c d H' => W c d σ H') _ r2 (zu.mono r1 e2) z2 (PostS.of_on p2 r2 s2 fun d3 h3 ρ3 v3 H3 e3 r3 z3 p3 => ?_)
        have s3 := s2.mono r2 e3
        cases q3 : insD [C] h3 (.ref i) with
        | none => rw [q3] at p3; exact p3.elim
        | some t =>
          obtain ⟨j, C', fs'⟩ := t
          rw [q3] at p3
          simp only at p3
          obtain ⟨ad', dx', vs', ea, ei, qa', _, hc', hv', zs'⟩ := insD_ok r3 ((z1.mono r1 e2).mono r2 e3) q3
          cases ea
          cases ei
          have ec : C' = C := by simpa using hc'
          subst ec
          by_cases hl : fs'.length < 1000
          · rw [if_pos hl] at p3
            have ex := Ext.wrote (H := H3) (o := .ins C' dx' (putF f v3 vs')) qa' hv'
            exact ⟨dx', vs', hv', by rw [← KDs.length zs']; exact hl, p3 ρ3 σ _ ex (r3.wrote qa' hv' rfl ⟨dx', _, upd_same, KDs.mono r3 ex (FDs.put zs' f z3)⟩) (s3.mono r3 ex)⟩
          · rw [if_neg hl] at p3; exact p3.elim⟩
end
end FL

set_option Elab.async false
set_option linter.all false
set_option maxRecDepth 100000
/-! FL, part d: slices, loops, comprehensions, calls. -/
namespace FL
open PySem PySem.Spec PyProof.Rows L2

/-! ### slices -/
abbrev FO := Sl → HS → R (Option Int)
def lO (K : PySem.W.Frag) (W : WX) (m : FO) : TO := fun σ H Q => ∃ ρ σh h, Rep K ρ h H ∧ RepS K ρ H σh σ ∧ Post K ρ H bEq (fun c d H' => W c d σ H') Q (m σh h)
def GO (X : Cx) (W : WX) (e : Option Expr) (m : FO) : Prop := PO X e (lO X.K W m)
theorem po_mono {X : Cx} {e : Option Expr} {t t' : TO} (p : PO X e t) (k : ∀ σ H Q, t' σ H Q → t σ H Q) : PO X e t' := ⟨fun pins s σ H Q I q => p.run pins s σ H Q I (k σ H Q q)⟩
def mNoPart : FO := fun _ h => .ok none h
def mPart (m : FE) : FO := fun σ h => (m σ h).bind fun d h1 => match d with
  | .int i => .ok (some i) h1
  | _ => .bad
section
variable {X : Cx} {W : WX} {pos p2 : Pos} {e a b : Expr} {lo hi : Option Expr} {m ma mb : FE} {ml mh : FO}
theorem go_none : GO X W none mNoPart := po_mono po_none fun σ H Q ⟨ρ, σh, h, r, s, p⟩ => p.use r rfl
theorem go_some (he : GE X W e m) : GO X W (some e) (mPart m) := po_mono (po_some he) fun σ H Q ⟨ρ, σh, h, r, s, p⟩ => ⟨ρ, σh, h, r, s, Post.of_bind p fun d h1 ρ1 v H1 e1 r1 z1 p1 => by
  cases z1 <;> first | exact p1.elim | exact ⟨_, rfl, p1.use r1 rfl⟩⟩
def cutD (xs : List D) (lo hi : Option Int) : List D := (xs.drop (HT.sIx xs.length 0 lo)).take (HT.sIx xs.length xs.length hi - HT.sIx xs.length 0 lo)
def dSl (x : D) (lo hi : Option Int) (h : HS) : R D := match x with
  | .tup ds => .ok (.tup (cutD ds lo hi)) h
  | .cst ds => .ok (.ref h.length) (h ++ [.lst (cutD ds lo hi)])
  | .str z => if z.length ≤ sizeLine then .ok (.str (cutS z lo hi)) h else .bad
  | .ref i => match h[i]? with
    | some (.lst ds) => .ok (.ref h.length) (h ++ [.lst (cutD ds lo hi)])
    | _ => .bad
  | _ => .bad
def rSl3 (K : PySem.W.Frag) : V → Option Int → Option Int → Hp → VK → Prop := fun x lo hi H Q => rSlL K x lo hi H Q ∨ (rSlS x lo hi H Q ∨ rSlA K x lo hi H Q)
theorem o_sl {X : Cx} : SlR X (rSl3 X.K) := SlR.or sl_list (SlR.or sl_str sl_tupA)
theorem DVs.cut {K : PySem.W.Frag} {ρ : List Addr} {H : Hp} {ds : List D} {vs : List V} (z : DVs K ρ H ds vs) (lo hi : Option Int) : DVs K ρ H (cutD ds lo hi) (cutV vs lo hi) := by
  unfold cutD cutV
  rw [← z.length]
  exact (z.drop _).take _
theorem s_sl {K : PySem.W.Frag} {ρ : List Addr} {h : HS} {H : Hp} {d : D} {v : V} {lo hi : Option Int} {W : XK} {Q : VK} (r : Rep K ρ h H) (z : DV K ρ H d v) (p : Post K ρ H (DV K) W Q (dSl d lo hi h)) : rSl3 K v lo hi H Q := by
  cases z with
  | tup q zs =>
    rename_i a vs ds
    refine .inr (.inr ⟨_, vs, rfl, q, fun e => ?_, fun e => post_tup r (zs.cut lo hi) p⟩)
    have ec : cutD ds lo hi = ds := by
      unfold cutD
      rw [zs.length, e.1, e.2]
      simp [← zs.length]
    have p' : Post K ρ H (DV K) W Q (.ok (.tup ds) h) := by
      rw [← ec]; exact p
    exact p'.use r (.tup q zs)
  | cst q zs => exact .inl ⟨_, _, rfl, q.sq, post_lst r (zs.cut lo hi) p⟩
  | str z =>
    by_cases c : z.length ≤ sizeLine
    · simp only [dSl, if_pos c] at p
      exact .inr (.inl ⟨z, rfl, c, p.use r (.str _)⟩)
    · simp only [dSl, if_neg c] at p; exact p.elim
  | ref q =>
    rename_i i a
    cases q1 : h[i]? with
    | none => simp only [dSl, q1] at p; exact p.elim
    | some o =>
      obtain ⟨a', ea, z⟩ := r.look q1
      rw [q] at ea; cases ea
      cases o with
      | lst ds =>
        simp only [dSl, q1] at p
        obtain ⟨vs, hv, zs⟩ := z
        exact .inl ⟨_, _, rfl, SqL.of hv, post_lst r (zs.cut lo hi) p⟩
      | _ => simp only [dSl, q1] at p; exact p.elim
  | _ => exact p.elim
def mSl (m : FE) (ml mh : FO) : FE := fun σ h => (m σ h).bind fun x h1 => (ml σ h1).bind fun l h2 => (mh σ h2).bind fun u h3 => dSl x l u h3
theorem g_slice (he : GE X W e m) (hl : GO X W lo ml) (hu : GO X W hi mh) : GE X W (.Subscript e (.Slice lo hi none p2) pos) (mSl m ml mh) :=
  pe_mono (pe_slice o_sl he hl hu) fun σ H Q ⟨ρ, σh, h, r, s, p⟩ => ⟨ρ, σh, h, r, s, Post.of_bind p fun x h1 ρ1 v H1 e1 r1 z1 p1 =>
    ⟨ρ1, σh, h1, r1, s.mono r e1, Post.of_bind p1 fun l h2 ρ2 l' H2 e2 r2 z2 p2 =>
      ⟨ρ2, σh, h2, r2, (s.mono r e1).mono r1 e2, Post.of_bind p2 fun u h3 ρ3 u' H3 e3 r3 z3 p3 => by
        cases z2
        cases z3
        exact s_sl r3 ((z1.mono r1 e2).mono r2 e3) p3⟩⟩⟩
end

/-! ### what a loop walks -/
structure ItD where
  n : Nat
  get : Nat → HS → Option D
  fin : HS → Bool
abbrev FI := Sl → HS → R ItD
def ItRel (K : PySem.W.Frag) (ρ0 : List Addr) (H0 : Hp) (Jh : ItD) (J : It) : Prop := ∀ (ρ : List Addr) (h : HS) (H : Hp), Rep K ρ h H → Ext ρ0 H0 ρ H →
  (∀ j d, j < Jh.n → Jh.get j h = some d → J.go j H ∧ ∀ x H', J.yld j H x H' → Ext ρ H ρ H' ∧ Rep K ρ h H' ∧ DV K ρ H' d x) ∧ (Jh.fin h = true → J.stop Jh.n H)
def lI (K : PySem.W.Frag) (W : WX) (m : FI) : TI := fun σ H Q => ∃ ρ σh h, Rep K ρ h H ∧ RepS K ρ H σh σ ∧ Post K ρ H (ItRel K) (fun c d H' => W c d σ H') Q (m σh h)
def GI (X : Cx) (W : WX) (tg e : Expr) (m : FI) : Prop := PI X tg e (lI X.K W m)

/-- a list, a tuple, a text -/
def iAny (K : PySem.W.Frag) (t : TE) : TI := fun σ H Q => t σ H fun x H1 => (∃ a, x = .ref a ∧ (∃ xs, SqL K H1 a xs) ∧ Q (Itl K a) H1) ∨ (∃ a, x = .ref a ∧ (∃ xs, SqT K H1 a xs) ∧ Q (Itt K a) H1) ∨ (∃ z, x = .str z ∧ Q (Its z) H1)
section
variable {X : Cx} {W : WX} {tg e : Expr} {t : TE} {m : FE}
theorem pi_any (he : PE X e t) : PI X tg e (iAny X.K t) := by
  refine ⟨fun pins s σ H R I h => ?_⟩
  refine thn (he.run pins s σ H _ I h) fun v s1 ⟨x, H1, I1, r1, q1⟩ => ?_
  rcases q1 with ⟨a, e, ⟨xs, hq⟩, q⟩ | ⟨a, e, ⟨xs, hq⟩, q⟩ | ⟨z, e, q⟩
  · subst e
    cases r1
    obtain ⟨its, rv, p, hz⟩ := I1.list hq
    refine wpAny_pyIter_list p.isList ?_
    refine ⟨s1.heap.objs.size, [s1.heap.objs.size], _, _, H1, rfl, I1.kept (t' := s1.toks) fun b o e => Heap.get?_push_of_some _ e, turn_list a _, ⟨_, Heap.get?_push_size _ rfl, rfl, rfl⟩, fun b hb => ?_, q⟩
    have e : b = s1.heap.objs.size := by simpa using hb
    subst e
    exact I1.fpOk (Nat.le_refl _) (I1.hok.fresh (Nat.le_refl _))
  · subst e
    cases r1
    obtain ⟨its, rv, p, hz⟩ := I1.tuple hq
    refine wpAny_pyIter_tuple (show s1.heap.IsTuple a its.toArray from p) ?_
    refine ⟨s1.heap.objs.size, [s1.heap.objs.size], _, _, H1, rfl, I1.kept (t' := s1.toks) fun b o e => Heap.get?_push_of_some _ e, turn_tuple a _, ⟨_, Heap.get?_push_size _ rfl, rfl, rfl⟩, fun b hb => ?_, q⟩
    have e : b = s1.heap.objs.size := by simpa using hb
    subst e
    exact I1.fpOk (Nat.le_refl _) (I1.hok.fresh (Nat.le_refl _))
  · subst e
    obtain ⟨t, rfl⟩ := r1
    cases ha : z.cps.all (· < 128)
    · exact wpAny_pyIter_wide ha (pi_one (tk := s1.toks) I1 _ (turn_str _ z t "str_iterator" (.inr rfl)) ⟨_, Heap.get?_push_size _ rfl, rfl, rfl⟩ q)
    · exact wpAny_pyIter_ascii ha (pi_one (tk := s1.toks) I1 _ (turn_str _ z t "str_ascii_iterator" (.inl rfl)) ⟨_, Heap.get?_push_size _ rfl, rfl, rfl⟩ q)
def lstAt (h : HS) (i : Nat) : Option (List D) := match h[i]? with
  | some (.lst ds) => some ds
  | _ => none
theorem lstAt_ok {K : PySem.W.Frag} {ρ : List Addr} {h : HS} {H : Hp} (r : Rep K ρ h H) {i : Nat} {a : Addr} {ds : List D} (q : ρ[i]? = some a) (e : lstAt h i = some ds) : ∃ vs, H a = some (.lst vs) ∧ DVs K ρ H ds vs := by
  unfold lstAt at e
  cases q1 : h[i]? with
  | none => rw [q1] at e; cases e
  | some o =>
    obtain ⟨a', ea, z⟩ := r.look q1
    rw [q] at ea; cases ea
    rw [q1] at e
    cases o with
    | lst ds => cases e; exact z
    | _ => cases e
theorem SqL.one {K : PySem.W.Frag} {H : Hp} {a : Addr} {vs ws : List V} (h : H a = some (.lst vs)) (s : ∀ xs, SqL K H a xs → xs[0]? = ws[0]?) : True := trivial
def itSeq (d : D) (h : HS) : R ItD := match d with
  | .tup ds => .ok ⟨ds.length, fun j _ => ds[j]?, fun _ => true⟩ h
  | .cst ds => .ok ⟨ds.length, fun j _ => ds[j]?, fun _ => true⟩ h
  | .str z => .ok ⟨z.cps.size, fun j _ => (z.cps[j]?).map fun c => .str ⟨#[c]⟩, fun _ => true⟩ h
  | .ref i => match lstAt h i with
    | some ds => .ok ⟨ds.length, fun j h' => (lstAt h' i).bind fun ds' => ds'[j]?, fun h' => (lstAt h' i).any fun ds' => ds'.length ≤ ds.length⟩ h
    | none => .bad
  | _ => .bad
def mSeqI (m : FE) : FI := fun σ h => (m σ h).bind itSeq
theorem gi_seq (he : GE X W e m) : GI X W tg e (mSeqI m) := pi_mono (pi_any he) fun σ H Q ⟨ρ, σh, h, r, s, p⟩ => ⟨ρ, σh, h, r, s, Post.of_bind p fun d h1 ρ1 v H1 e1 r1 z1 p1 => by
  cases z1 with
  | tup q zs =>
    rename_i a vs ds
    refine .inr (.inl ⟨_, rfl, ⟨vs, q⟩, p1.use r1 fun ρ h H r e => ?_⟩)
    have q' := sqT_kp (.of r1 e) q
    have zs' := zs.mono r1 e
    refine ⟨fun j d hj hd => ?_, fun _ => ⟨vs, q', by rw [zs.length]; exact Nat.le_refl _⟩⟩
    obtain ⟨v, ev, zv⟩ := zs'.get hd
    exact ⟨⟨vs, v, q', ev⟩, fun x H' ⟨eH, hx⟩ => by
      subst eH
      have := hx vs q'
      rw [ev] at this; cases this
      exact ⟨.refl, r, zv⟩⟩
  | cst q zs =>
    rename_i a vs ds
    refine .inl ⟨_, rfl, ⟨vs, q.sq⟩, p1.use r1 fun ρ h H r e => ?_⟩
    have q' := (csL_kp (.of r1 e) q).sq
    have zs' := zs.mono r1 e
    refine ⟨fun j d hj hd => ?_, fun _ => ⟨vs, q', by rw [zs.length]; exact Nat.le_refl _⟩⟩
    obtain ⟨v, ev, zv⟩ := zs'.get hd
    exact ⟨⟨vs, v, q', ev⟩, fun x H' ⟨eH, hx⟩ => by
      subst eH
      have := hx vs q'
      rw [ev] at this; cases this
      exact ⟨.refl, r, zv⟩⟩
  | str z =>
    refine .inr (.inr ⟨z, rfl, p1.use r1 fun ρ h H r e => ⟨fun j d hj hd => ⟨hj, fun x H' ⟨eH, c, ec, ex⟩ => ?_⟩, fun _ => Nat.le_refl _⟩⟩)
    subst eH
    simp only [ec, Option.map_some, Option.some.injEq] at hd
    subst hd
    subst ex
    exact ⟨.refl, r, .str _⟩
  | ref q =>
    rename_i i a
    unfold itSeq at p1
    simp only at p1
    cases q1 : lstAt h1 i with
    | none => rw [q1] at p1; exact p1.elim
    | some ds =>
      rw [q1] at p1
      obtain ⟨vs, hv, zs⟩ := lstAt_ok r1 q q1
      refine .inl ⟨_, rfl, ⟨vs, SqL.of hv⟩, p1.use r1 fun ρ h H r e => ?_⟩
      have q' := e.ix q
      refine ⟨fun j d hj hd => ?_, fun hf => ?_⟩
      · obtain ⟨ds', e2, e3⟩ := Option.bind_eq_some_iff.mp hd
        obtain ⟨vs', hv', zs'⟩ := lstAt_ok r q' e2
        obtain ⟨v, ev, zv⟩ := zs'.get e3
        exact ⟨⟨vs', v, SqL.of hv', ev⟩, fun x H' ⟨eH, hx⟩ => by
          subst eH
          have := hx vs' (SqL.of hv')
          rw [ev] at this; cases this
          exact ⟨.refl, r, zv⟩⟩
      · cases q2 : lstAt h i with
        | none => simp [q2] at hf
        | some ds' =>
          obtain ⟨vs', hv', zs'⟩ := lstAt_ok r q' q2
          simp [q2] at hf
          exact ⟨vs', SqL.of hv', by rw [← zs'.length]; exact hf⟩
  | _ => exact p1.elim⟩
/-- range -/
def itRange (lo : Int) (n : Nat) : ItD := ⟨n, fun j _ => some (.int (lo + j)), fun _ => true⟩
theorem itRange_rel {K : PySem.W.Frag} {ρ0 : List Addr} {H0 : Hp} {lo : Int} {n : Nat} : ItRel K ρ0 H0 (itRange lo n) (Itr lo n) := fun ρ h H r e =>
  ⟨fun j d hj hd => ⟨hj, fun x H' ⟨eH, ex⟩ => by subst eH; subst ex; cases hd; exact ⟨.refl, r, .int _⟩⟩, fun _ => Nat.le_refl _⟩
def mRange1 (ma : FA) : FI := fun σ h => (ma σ h).bind fun ds h1 => match ds with
  | [.int j] => if -(2 ^ 62) ≤ j ∧ j < 2 ^ 62 then .ok (itRange 0 j.toNat) h1 else .bad
  | _ => .bad
def mRange2 (ma : FA) : FI := fun σ h => (ma σ h).bind fun ds h1 => match ds with
  | [.int i, .int j] => if -(2 ^ 62) ≤ i ∧ i < 2 ^ 62 ∧ -(2 ^ 62) ≤ j ∧ j < 2 ^ 62 then .ok (itRange i (j - i).toNat) h1 else .bad
  | _ => .bad
theorem DVs.one {K : PySem.W.Frag} {ρ : List Addr} {H : Hp} {d : D} {vs : List V} (z : DVs K ρ H [d] vs) : ∃ v, vs = [v] ∧ DV K ρ H d v := by
  cases z with
  | cons a b => cases b; exact ⟨_, rfl, a⟩
theorem DVs.two {K : PySem.W.Frag} {ρ : List Addr} {H : Hp} {d e : D} {vs : List V} (z : DVs K ρ H [d, e] vs) : ∃ v w, vs = [v, w] ∧ DV K ρ H d v ∧ DV K ρ H e w := by
  cases z with
  | cons a b => obtain ⟨w, rfl, c⟩ := b.one; exact ⟨_, _, rfl, a, c⟩
variable {a b : Expr} {ma : FA} {p pos : Pos}
theorem gi_range1 (hm : X.mg "range" = none) (ha : GA X W [a] ma) (hg : Gl X "range" := by rfl) (hs : starEach [a] X.env = [(false, eval a X.env)] := by rfl) : GI X W tg (.Call (.Name "range" p) [a] [] pos) (mRange1 ma) :=
  pi_mono (pi_range1 hg hm ha hs) fun σ H Q ⟨ρ, σh, h, r, s, p⟩ => ⟨ρ, σh, h, r, s, Post.of_bind p fun ds h1 ρ1 vs H1 e1 r1 z1 p1 => by
    match ds, z1, p1 with
    | [.int j], z1, p1 =>
      obtain ⟨v, rfl, z⟩ := z1.one
      cases z
      simp only at p1
      by_cases c : -(2 ^ 62) ≤ j ∧ j < 2 ^ 62
      · rw [if_pos c] at p1
        exact ⟨j, rfl, c.1, c.2, p1.use r1 itRange_rel⟩
      · rw [if_neg c] at p1; exact p1.elim⟩
theorem gi_range2 (hm : X.mg "range" = none) (ha : GA X W [a, b] ma) (hg : Gl X "range" := by rfl) (hs : starEach [a, b] X.env = [(false, eval a X.env), (false, eval b X.env)] := by rfl) (hs2 : starEach [b] X.env = [(false, eval b X.env)] := by rfl) :
    GI X W tg (.Call (.Name "range" p) [a, b] [] pos) (mRange2 ma) :=
  pi_mono (pi_range2 hg hm ha hs hs2) fun σ H Q ⟨ρ, σh, h, r, s, p⟩ => ⟨ρ, σh, h, r, s, Post.of_bind p fun ds h1 ρ1 vs H1 e1 r1 z1 p1 => by
    match ds, z1, p1 with
    | [.int i, .int j], z1, p1 =>
      obtain ⟨v, w, rfl, za, zb⟩ := z1.two
      cases za
      cases zb
      simp only at p1
      by_cases c : -(2 ^ 62) ≤ i ∧ i < 2 ^ 62 ∧ -(2 ^ 62) ≤ j ∧ j < 2 ^ 62
      · rw [if_pos c] at p1
        exact ⟨i, j, rfl, c, p1.use r1 itRange_rel⟩
      · rw [if_neg c] at p1; exact p1.elim⟩
/-- the values of a dict that is locked -/
def fdAt (h : HS) (i : Nat) : Option (List (Key × D)) := match h[i]? with
  | some (.fdK ds) => some ds
  | _ => none
theorem fdAt_ok {K : PySem.W.Frag} {ρ : List Addr} {h : HS} {H : Hp} (r : Rep K ρ h H) {i : Nat} {a : Addr} {ds : List (Key × D)} (q : ρ[i]? = some a) (e : fdAt h i = some ds) : ∃ o vs, H a = some (.frz o (.dK vs)) ∧ KDs Key K ρ H ds vs := by
  unfold fdAt at e
  cases q1 : h[i]? with
  | none => rw [q1] at e; cases e
  | some o =>
    obtain ⟨a', ea, z⟩ := r.look q1
    rw [q] at ea; cases ea
    rw [q1] at e
    cases o with
    | fdK ds => cases e; exact z
    | _ => cases e
theorem KDs.getI {κ : Type} {K : PySem.W.Frag} {ρ : List Addr} {H : Hp} {ks : List (κ × D)} {vs : List (κ × V)} (q : KDs κ K ρ H ks vs) {i : Nat} {k : κ} {d : D} (e : ks[i]? = some (k, d)) : ∃ v, vs[i]? = some (k, v) ∧ DV K ρ H d v := by
  unfold KDs at q
  induction q generalizing i with
  | nil => simp at e
  | @cons p q ps qs z _ ih =>
    cases i with
    | zero =>
      simp at e
      subst e
      obtain ⟨g, v⟩ := q
      obtain ⟨e1, z⟩ := z
      have e1 : k = g := e1
      subst e1
      exact ⟨v, by simp, z⟩
    | succ i =>
      obtain ⟨v, e1, z⟩ := ih (i := i) (by simpa using e)
      exact ⟨v, by simpa using e1, z⟩
def itVals (d : D) (h : HS) : R ItD := match d with
  | .ref i => match fdAt h i with
    | some ds => .ok ⟨ds.length, fun j _ => (ds[j]?).map (·.2), fun _ => true⟩ h
    | none => .bad
  | _ => .bad
def dKey : Key → D
  | .inl i => .int i
  | .inr x => .str x
theorem dKey_rel {K : PySem.W.Frag} {ρ : List Addr} {H : Hp} (k : Key) : DV K ρ H (dKey k) (kV k) := by
  cases k
  · exact .int _
  · exact .str _
def itKeys (d : D) (h : HS) : R ItD := match d with
  | .ref i => match fdAt h i with
    | some ds => .ok ⟨ds.length, fun j _ => (ds[j]?).map fun kv => dKey kv.1, fun _ => true⟩ h
    | none => .bad
  | _ => .bad
theorem itVals_ok {K : PySem.W.Frag} {ρ : List Addr} {h : HS} {H : Hp} {d : D} {x : V} {W : XK} {Q : It → Hp → Prop} (r : Rep K ρ h H) (z : DV K ρ H d x) (p : Post K ρ H (ItRel K) W Q (itVals d h)) : ∃ a o kvs, x = .ref a ∧ H a = some (.frz o (.dK kvs)) ∧ Q (Itd a o kvs) H := by
  cases z <;> first | exact p.elim | skip
  rename_i i a q
  unfold itVals at p
  simp only at p
  cases q1 : fdAt h i with
  | none => rw [q1] at p; exact p.elim
  | some ds =>
    rw [q1] at p
    obtain ⟨o, vs, hv, zs⟩ := fdAt_ok r q q1
    refine ⟨a, o, vs, rfl, hv, p.use r fun ρ' h' H' r' e => ?_⟩
    have hv' := e.frz _ _ _ hv
    have zs' := KDs.mono r e zs
    refine ⟨fun j d hj hd => ⟨⟨hv', by rw [← KDs.length zs]; exact hj⟩, fun x H2 ⟨eH, k, ek⟩ => ?_⟩, fun _ => ⟨hv', by rw [← KDs.length zs]; exact Nat.le_refl _⟩⟩
    subst eH
    obtain ⟨⟨k', d'⟩, e1, e2⟩ := Option.map_eq_some_iff.mp hd
    simp only at e2
    subst e2
    obtain ⟨v, ev, zv⟩ := zs'.getI e1
    rw [ek] at ev
    cases ev
    exact ⟨.refl, r', zv⟩
theorem itKeys_ok {K : PySem.W.Frag} {ρ : List Addr} {h : HS} {H : Hp} {d : D} {x : V} {W : XK} {Q : It → Hp → Prop} (r : Rep K ρ h H) (z : DV K ρ H d x) (p : Post K ρ H (ItRel K) W Q (itKeys d h)) : ∃ a o kvs, x = .ref a ∧ H a = some (.frz o (.dK kvs)) ∧ Q (Itk a o kvs) H := by
  cases z <;> first | exact p.elim | skip
  rename_i i a q
  unfold itKeys at p
  simp only at p
  cases q1 : fdAt h i with
  | none => rw [q1] at p; exact p.elim
  | some ds =>
    rw [q1] at p
    obtain ⟨o, vs, hv, zs⟩ := fdAt_ok r q q1
    refine ⟨a, o, vs, rfl, hv, p.use r fun ρ' h' H' r' e => ?_⟩
    have hv' := e.frz _ _ _ hv
    have zs' := KDs.mono r e zs
    refine ⟨fun j d hj hd => ⟨⟨hv', by rw [← KDs.length zs]; exact hj⟩, fun x H2 ⟨eH, k, v, ek, ex⟩ => ?_⟩, fun _ => ⟨hv', by rw [← KDs.length zs]; exact Nat.le_refl _⟩⟩
    subst eH
    subst ex
    obtain ⟨⟨k', d'⟩, e1, e2⟩ := Option.map_eq_some_iff.mp hd
    simp only at e2
    subst e2
    obtain ⟨v', ev, zv⟩ := zs'.getI e1
    rw [ek] at ev
    cases ev
    exact ⟨.refl, r', dKey_rel _⟩
def mValsI (m : FE) : FI := fun σ h => (m σ h).bind itVals
def mKeysI (m : FE) : FI := fun σ h => (m σ h).bind itKeys
theorem gi_vals {apos : Pos} (he : GE X W e m) (hbase : attributeBase e "values" X.env (eval e X.env) = eval e X.env := by rfl) (hline : (apos.endLine == pos.line) = true := by rfl) : GI X W tg (.Call (.Attribute e "values" apos) [] [] pos) (mValsI m) :=
  pi_mono (pi_values he hbase hline) fun σ H Q ⟨ρ, σh, h, r, s, p⟩ => ⟨ρ, σh, h, r, s, Post.of_bind p fun d h1 ρ1 v H1 e1 r1 z1 p1 => itVals_ok r1 z1 p1⟩
theorem gi_keys (he : GE X W e m) : GI X W tg e (mKeysI m) :=
  pi_mono (pi_keys he) fun σ H Q ⟨ρ, σh, h, r, s, p⟩ => ⟨ρ, σh, h, r, s, Post.of_bind p fun d h1 ρ1 v H1 e1 r1 z1 p1 => by
    obtain ⟨a, o, kvs, e, hv, q⟩ := itKeys_ok r1 z1 p1
    exact ⟨a, o, e, .inl ⟨kvs, hv, q⟩⟩⟩
end

/-! ### for -/
def forL (g : FG) (body : FS) (J : ItD) : Nat → Nat → Sl → HS → RS
  | 0, _, σ, h => if J.fin h = true then .nx σ h else .bad
  | n + 1, j, σ, h => match J.get j h with
    | none => .bad
    | some d => (g d σ h).on σ fun σ1 h1 => match body σ1 h1 with
      | .nx σ2 h2 => forL g body J n (j + 1) σ2 h2
      | .ct σ2 h2 => forL g body J n (j + 1) σ2 h2
      | .bk σ2 h2 => .nx σ2 h2
      | r => r
def mFor (it : FI) (g : FG) (body : FS) : FS := fun σ h => (it σ h).on σ fun J h1 => forL g body J J.n 0 σ h1
section
variable {X : Cx} {W : WX} {pos : Pos} {tg iter c : Expr} {body : List Stmt} {it : FI} {g : FG} {mb : FS} {tc : FT}
theorem g_for {k : Nat} (C : CK X W k) (hi : GI X W tg iter it) (hg : GG X W tg g) (hb : GSs X W body mb) (hs : ∀ x, foldedSetIterable iter X.env x = pure x := by intro _; rfl) : GS X W (.For tg iter body [] pos) (mFor it g mb) :=
  ps_mono (ps_for C.po C.calm hi hg hb hs) fun T σ H ⟨ρ, σh, h, r, s, p⟩ => ⟨ρ, σh, h, r, s, PostS.of_on p r s fun J h1 ρ1 Ji H1 e1 r1 z1 p1 => by
    refine ⟨fun i m σ H => ∃ ρ σh h, Rep X.K ρ h H ∧ RepS X.K ρ H σh σ ∧ Ext ρ1 H1 ρ H ∧ i + m = J.n ∧ PostS X.K ρ H W T (forL g mb J m i σh h), ⟨J.n, ρ1, σh, h1, r1, s.mono r e1, .refl, by omega, p1⟩, ?_⟩
    rintro i m σ2 H2 ⟨ρ2, σh2, h2, r2, s2, e2, hm, p2⟩
    obtain ⟨z3, z4⟩ := z1 ρ2 h2 H2 r2 e2
    cases m with
    | zero =>
      unfold forL at p2
      by_cases hf : J.fin h2 = true
      · rw [if_pos hf] at p2
        have ei : i = J.n := by omega
        subst ei
        exact .inl ⟨z4 hf, p2.useN r2 s2⟩
      · rw [if_neg hf] at p2; exact p2.elim
    | succ m =>
      unfold forL at p2
      cases q : J.get i h2 with
      | none => rw [q] at p2; exact p2.elim
      | some d =>
        rw [q] at p2
        simp only at p2
        obtain ⟨hgo, hy⟩ := z3 i d (by omega) q
        refine .inr ⟨hgo, fun σ' H' => ∃ ρ σh h, Rep X.K ρ h H' ∧ RepS X.K ρ H' σh σ' ∧ Ext ρ1 H1 ρ H' ∧ i + 1 + m = J.n ∧ PostS X.K ρ H' W T (forL g mb J m (i + 1) σh h), fun σ' H' q => ⟨m, by omega, q⟩, fun x H3 hyl => ?_⟩
        obtain ⟨e3, r3, zd⟩ := hy x H3 hyl
        refine ⟨ρ2, σh2, h2, d, r3, s2.mono r2 e3, zd, PostS.of_on (PostS.ext e3 p2) r3 (s2.mono r2 e3) fun σ4 h4 ρ4 σ5 H4 e4 r4 s4 p4 => ?_⟩
        have e14 := (e2.trans e3 r3.nd).trans e4 r4.nd
        refine ⟨ρ4, σ4, h4, r4, s4, ?_⟩
        cases q5 : mb σ4 h4 with
        | bad => rw [q5] at p4; exact p4
        | nx σ6 h6 => rw [q5] at p4; exact fun ρ' σ' H' e r z => ⟨ρ', σ6, h6, r, z, e14.trans e r.nd, by omega, PostS.ext e p4⟩
        | ct σ6 h6 => rw [q5] at p4; exact fun ρ' σ' H' e r z => ⟨ρ', σ6, h6, r, z, e14.trans e r.nd, by omega, PostS.ext e p4⟩
        | bk σ6 h6 => rw [q5] at p4; exact p4
        | rt d h6 => rw [q5] at p4; exact p4
        | ex x σ6 h6 => rw [q5] at p4; exact p4⟩

/-! ### while -/
def whileF (c : FT) (b : FS) : Nat → Sl → HS → RS
  | 0, _, _ => .bad
  | n + 1, σ, h => (c σ h).on σ fun t h1 => if t = true then match b σ h1 with
      | .nx σ2 h2 => whileF c b n σ2 h2
      | .ct σ2 h2 => whileF c b n σ2 h2
      | .bk σ2 h2 => .nx σ2 h2
      | r => r
    else .nx σ h1
theorem whileF_up (c : FT) (b : FS) : ∀ (n : Nat) (σ : Sl) (h : HS), whileF c b n σ h ≠ .bad → whileF c b (n + 1) σ h = whileF c b n σ h
  | 0, _, _, hb => absurd rfl hb
  | n + 1, σ, h, hb => by
    unfold whileF at hb ⊢
    cases q : c σ h with
    | bad => rfl
    | ex => rfl
    | ok t h1 =>
      rw [q] at hb
      simp only [R.on] at hb ⊢
      cases t with
      | false => rfl
      | true =>
        simp only [if_true] at hb ⊢
        cases q2 : b σ h1 with
        | nx σ2 h2 => rw [q2] at hb; exact whileF_up c b n σ2 h2 hb
        | ct σ2 h2 => rw [q2] at hb; exact whileF_up c b n σ2 h2 hb
        | _ => rfl
theorem whileF_ge (c : FT) (b : FS) {n m : Nat} (hnm : n ≤ m) (σ : Sl) (h : HS) (hb : whileF c b n σ h ≠ .bad) : whileF c b m σ h = whileF c b n σ h := by
  induction hnm with
  | refl => rfl
  | step _ ih => rw [whileF_up c b _ σ h (by rw [ih]; exact hb), ih]
open Classical in
noncomputable def mWhile (c : FT) (b : FS) : FS := fun σ h => if H : ∃ n, whileF c b n σ h ≠ .bad then whileF c b (Classical.choose H) σ h else .bad
theorem mWhile_of {c : FT} {b : FS} {n : Nat} {σ : Sl} {h : HS} (hb : whileF c b n σ h ≠ .bad) : mWhile c b σ h = whileF c b n σ h := by
  have H : ∃ n, whileF c b n σ h ≠ .bad := ⟨n, hb⟩
  unfold mWhile
  rw [dif_pos H]
  have h2 := Classical.choose_spec H
  rcases Nat.le_total n (Classical.choose H) with l | l
  · exact whileF_ge c b l σ h hb
  · exact (whileF_ge c b l σ h h2).symm
theorem mWhile_bad {c : FT} {b : FS} {σ : Sl} {h : HS} (hb : mWhile c b σ h ≠ .bad) : ∃ n, whileF c b n σ h = mWhile c b σ h := by
  unfold mWhile at hb ⊢
  split
  · exact ⟨_, rfl⟩
  · rename_i H; rw [dif_neg H] at hb; exact absurd rfl hb
theorem mWhile_eq (c : FT) (b : FS) (σ : Sl) (h : HS) : mWhile c b σ h = (c σ h).on σ fun t h1 => if t = true then match b σ h1 with
      | .nx σ2 h2 => mWhile c b σ2 h2
      | .ct σ2 h2 => mWhile c b σ2 h2
      | .bk σ2 h2 => .nx σ2 h2
      | r => r
    else .nx σ h1 := by
  -- one turn more of the counted loop
  have turn : ∀ n, whileF c b (n + 1) σ h = (c σ h).on σ fun t h1 => if t = true then match b σ h1 with
      | .nx σ2 h2 => whileF c b n σ2 h2
      | .ct σ2 h2 => whileF c b n σ2 h2
      | .bk σ2 h2 => .nx σ2 h2
      | r => r
    else .nx σ h1 := fun n => rfl
  by_cases H : ∃ n, whileF c b n σ h ≠ .bad
  · obtain ⟨n, hn⟩ := H
    rw [mWhile_of hn]
    cases n with
    | zero => exact absurd rfl hn
    | succ n =>
      rw [turn n] at hn ⊢
      cases q : c σ h with
      | bad => rfl
      | ex => rfl
      | ok t h1 =>
        rw [q] at hn
        simp only [R.on] at hn ⊢
        cases t with
        | false => rfl
        | true =>
          simp only [if_true] at hn ⊢
          cases q2 : b σ h1 with
          | nx σ2 h2 => rw [q2] at hn; exact (mWhile_of hn).symm
          | ct σ2 h2 => rw [q2] at hn; exact (mWhile_of hn).symm
          | _ => rfl
  · have hb : mWhile c b σ h = .bad := by unfold mWhile; rw [dif_neg H]
    rw [hb]
    have all : ∀ n, whileF c b n σ h = .bad := fun n => Classical.byContradiction fun z => H ⟨n, z⟩
    cases q : c σ h with
    | bad => rfl
    | ex x h1 =>
      have := all 1
      rw [turn 0, q] at this; cases this
    | ok t h1 =>
      cases t with
      | false =>
        have := all 1
        rw [turn 0, q] at this; cases this
      | true =>
        show RS.bad = match b σ h1 with
          | .nx σ2 h2 => mWhile c b σ2 h2
          | .ct σ2 h2 => mWhile c b σ2 h2
          | .bk σ2 h2 => .nx σ2 h2
          | r => r
        have step : ∀ n, (match b σ h1 with
          | .nx σ2 h2 => whileF c b n σ2 h2
          | .ct σ2 h2 => whileF c b n σ2 h2
          | .bk σ2 h2 => .nx σ2 h2
          | r => r) = RS.bad := fun n => by
          have := all (n + 1)
          rw [turn n, q] at this
          exact this
        cases q2 : b σ h1 with
        | nx σ2 h2 =>
          have : ¬ ∃ n, whileF c b n σ2 h2 ≠ .bad := fun ⟨n, z⟩ => z (by have := step n; rw [q2] at this; exact this)
          show RS.bad = mWhile c b σ2 h2
          unfold mWhile; rw [dif_neg this]
        | ct σ2 h2 =>
          have : ¬ ∃ n, whileF c b n σ2 h2 ≠ .bad := fun ⟨n, z⟩ => z (by have := step n; rw [q2] at this; exact this)
          show RS.bad = mWhile c b σ2 h2
          unfold mWhile; rw [dif_neg this]
        | bad => rfl
        | bk => have := step 0; rw [q2] at this; cases this
        | rt => have := step 0; rw [q2] at this; cases this
        | ex => have := step 0; rw [q2] at this; cases this
theorem g_while {k : Nat} (C : CK X W k) (hc : GT X W c tc) (hb : GSs X W body mb) : GS X W (.While c body [] pos) (mWhile tc mb) :=
  ps_mono (ps_while C.po hc hb) fun T σ H ⟨ρ, σh, h, r, s, p⟩ => by
    have nb : mWhile tc mb σh h ≠ .bad := fun z => by rw [z] at p; exact p
    obtain ⟨n, en⟩ := mWhile_bad nb
    rw [← en] at p
    refine ⟨fun m σ H => ∃ ρ σh h, Rep X.K ρ h H ∧ RepS X.K ρ H σh σ ∧ PostS X.K ρ H W T (whileF tc mb m σh h), ⟨n, ρ, σh, h, r, s, p⟩, ?_⟩
    rintro m σ2 H2 ⟨ρ2, σh2, h2, r2, s2, p2⟩
    cases m with
    | zero => exact p2.elim
    | succ m =>
      refine ⟨ρ2, σh2, h2, r2, s2, PostS.of_on (rel := bEq) p2 r2 s2 fun t h3 ρ3 t' H3 e3 r3 z3 p3 => ?_⟩
      cases z3
      have s3 := s2.mono r2 e3
      cases t with
      | false => exact p3.useN r3 s3
      | true =>
        simp only [if_true] at p3 ⊢
        refine ⟨fun σ' H' => ∃ ρ σh h, Rep X.K ρ h H' ∧ RepS X.K ρ H' σh σ' ∧ PostS X.K ρ H' W T (whileF tc mb m σh h), fun σ' H' q => ⟨m, by omega, q⟩, ρ3, σh2, h3, r3, s3, ?_⟩
        cases q5 : mb σh2 h3 with
        | bad => rw [q5] at p3; exact p3
        | nx σ6 h6 => rw [q5] at p3; exact fun ρ' σ' H' e r z => ⟨ρ', σ6, h6, r, z, PostS.ext e p3⟩
        | ct σ6 h6 => rw [q5] at p3; exact fun ρ' σ' H' e r z => ⟨ρ', σ6, h6, r, z, PostS.ext e p3⟩
        | bk σ6 h6 => rw [q5] at p3; exact p3
        | rt d h6 => rw [q5] at p3; exact p3
        | ex x σ6 h6 => rw [q5] at p3; exact p3
end
end FL

set_option Elab.async false
set_option linter.all false
set_option maxRecDepth 100000
/-! FL, part e: comprehensions, calls, defs. -/
namespace FL
open PySem PySem.Spec PyProof.Rows L2

/-! ### comprehensions -/
inductive Tgt where
  | one (i : Nat) | many (is : List Nat)
def Tgt.m : Tgt → FG
  | .one i => mTo i
  | .many is => mTos is
def Tgt.g (K : PySem.W.Frag) : Tgt → TG
  | .one i => gName i
  | .many is => gTup K is.length (tNames is)
def Tgt.ixs : Tgt → List Nat
  | .one i => [i]
  | .many is => is
theorem wipe_set {i : Nat} {x : Option V} : ∀ {js : List Nat} {σ : L2.St}, i ∈ js → wipe (σ.set i x) js = wipe σ js := by
  intro js
  have comm : ∀ (js : List Nat) (σ : L2.St) (x : Option V) (i : Nat), i ∉ js → wipe (σ.set i x) js = (wipe σ js).set i x := by
    intro js
    induction js with
    | nil => intro σ x i _; rfl
    | cons k js ih2 =>
      intro σ x i hn
      unfold wipe
      rw [ih2 σ x i fun z => hn (List.mem_cons_of_mem _ z)]
      exact List.set_comm _ _ fun e => hn (by rw [e]; exact List.mem_cons_self)
  induction js with
  | nil => intro σ h; cases h
  | cons j js ih =>
    intro σ hi
    unfold wipe
    by_cases hij : i ∈ js
    · rw [ih hij]
    · have : i = j := by
        rcases List.mem_cons.mp hi with z | z
        · exact z
        · exact absurd z hij
      subst this
      rw [comm js _ _ _ hij, List.set_set]
theorem wipe_wipe {σ : L2.St} : ∀ {js ks : List Nat}, (∀ i ∈ ks, i ∈ js) → wipe (wipe σ ks) js = wipe σ js
  | js, [], _ => rfl
  | js, k :: ks, h => by
    show wipe ((wipe σ ks).set k none) js = _
    rw [wipe_set (h k List.mem_cons_self), wipe_wipe fun i hi => h i (List.mem_cons_of_mem _ hi)]
theorem Tgt.ok {K : PySem.W.Frag} {ρ : List Addr} {h : HS} {H : Hp} {t : Tgt} {d : D} {v : V} {σh σh' : Sl} {h' : HS} {σ : L2.St} {js : List Nat} {Q : L2.St → Hp → Prop} (z : DV K ρ H d v) (s : RepS K ρ H σh σ) (e : t.m d σh h = .ok σh' h')
    (hj : ∀ i ∈ t.ixs, i ∈ js) (q : h' = h → ∀ σ', RepS K ρ H σh' σ' → wipe σ' js = wipe σ js → Q σ' H) : t.g K v σ H Q := by
  cases t with
  | one i =>
    cases e
    exact q rfl _ (s.set i z) (wipe_set (hj i (by simp [Tgt.ixs])))
  | many is =>
    cases z with
    | tup q' zs =>
      rename_i a vs ds
      simp only [Tgt.m, mTos] at e
      cases e1 : setAll is ds σh with
      | none => rw [e1] at e; cases e
      | some σ' =>
        rw [e1] at e
        cases e
        exact ⟨_, vs, rfl, q', by rw [setAll_len e1, zs.length], tNames_ok zs s e1 fun σ' s' hw => q rfl σ' s' (hw js hj)⟩
    | _ => cases e
def wipeD (σ : Sl) : List Nat → Sl
  | [] => σ
  | v :: vs => (wipeD σ vs).set v none
theorem wipeD_ok {K : PySem.W.Frag} {ρ : List Addr} {H : Hp} {σh : Sl} {σ : L2.St} (s : RepS K ρ H σh σ) : ∀ vs : List Nat, RepS K ρ H (wipeD σh vs) (wipe σ vs)
  | [] => s
  | v :: vs => by
    have ih := wipeD_ok s vs
    refine ⟨by unfold wipeD wipe; rw [List.length_set, List.length_set]; exact ih.1, fun i d hd => ?_⟩
    unfold wipeD at hd
    unfold wipe
    by_cases e : v = i
    · subst e
      by_cases hl : v < (wipeD σh vs).length
      · rw [List.getElem?_set_self hl] at hd; cases hd
      · rw [List.getElem?_eq_none (by simpa using hl)] at hd; cases hd
    · rw [List.getElem?_set_ne e] at hd ⊢
      exact ih.2 i d hd
def R.nox {α : Type} : R α → R α
  | .ex _ _ => .bad
  | r => r
def lcL (t : Tgt) (tt : FT) (te : FE) (J : ItD) (σ : Sl) : Nat → Nat → List D → HS → R (List D)
  | 0, _, acc, h => if J.fin h = true then .ok acc h else .bad
  | n + 1, j, acc, h => match J.get j h with
    | none => .bad
    | some d => match t.m d σ h with
      | .ok σ1 h1 => match tt σ1 h1 with
        | .ok true h2 => match te σ1 h2 with
          | .ok y h3 => if acc.length < sizeLine then lcL t tt te J σ n (j + 1) (acc ++ [y]) h3 else .bad
          | _ => .bad
        | .ok false h2 => lcL t tt te J σ n (j + 1) acc h2
        | _ => .bad
      | _ => .bad
def mLc (it : FI) (t : Tgt) (tt : FT) (te : FE) (vs : List Nat) : FE := fun σ h => (it σ h).bind fun J h1 => (lcL t tt te J (wipeD σ vs) J.n 0 [] h1).bind fun ds h2 => .ok (.ref h2.length) (h2 ++ [.lst ds])
theorem Kp.off {ρ : List Addr} {H : Hp} {a : Addr} {o : HO} {xs : List V} (e : H a = some (.lst xs)) : Kp ρ H ρ (upd H a o) :=
  .upd1 e (fun _ z => by cases z) (fun _ _ z => by cases z) (fun _ _ z => by cases z)
theorem lcL_nox {t : Tgt} {tt : FT} {te : FE} {J : ItD} {σ : Sl} {x : XV} {h2 : HS} : ∀ (n j : Nat) (acc : List D) (h : HS), lcL t tt te J σ n j acc h ≠ .ex x h2
  | 0, j, acc, h => fun z => by
    unfold lcL at z
    split at z <;> cases z
  | n + 1, j, acc, h => fun z => by
    unfold lcL at z
    cases g1 : J.get j h with
    | none => rw [g1] at z; cases z
    | some d =>
      rw [g1] at z
      simp only at z
      cases g2 : t.m d σ h with
      | bad => rw [g2] at z; cases z
      | ex => rw [g2] at z; cases z
      | ok σ1 h1 =>
        rw [g2] at z
        simp only at z
        cases g3 : tt σ1 h1 with
        | bad => rw [g3] at z; cases z
        | ex => rw [g3] at z; cases z
        | ok b h2 =>
          rw [g3] at z
          cases b with
          | false => exact lcL_nox n _ _ _ z
          | true =>
            simp only at z
            cases g4 : te σ1 h2 with
            | bad => rw [g4] at z; cases z
            | ex => rw [g4] at z; cases z
            | ok y h3 =>
              rw [g4] at z
              simp only at z
              split at z
              · exact lcL_nox n _ _ _ z
              · cases z
theorem lLc {K : PySem.W.Frag} {W : WX} {it : FI} {t : Tgt} {tt : FT} {te : FE} {vs : List Nat} (hvs : ∀ i ∈ t.ixs, i ∈ vs) (σ : L2.St) (H : Hp) (Q : VK) (q : lE K W (mLc it t tt te vs) σ H Q) :
    tLc (lI K W it) (t.g K) (lT K W0 tt) (lE K W0 te) vs σ H Q := by
  obtain ⟨ρ, σh, h, r, s, p⟩ := q
  refine ⟨ρ, σh, h, r, s, Post.of_bind p fun J h1 ρ1 Ji H1 e1 r1 z1 p1 => fun Dn hDn => ?_⟩
  have s1 := wipeD_ok (s.mono r e1) vs
  -- what the rest of the list is to give
  refine ⟨fun i m H => ∃ ρ h acc vacc, Rep K ρ h H ∧ Dn ∉ ρ ∧ H Dn = some (.lst vacc) ∧ DVs K ρ H acc vacc ∧ Ext ρ1 H1 ρ H ∧ RepS K ρ H (wipeD σh vs) (wipe σ vs) ∧ i + m = J.n ∧
      ∃ ds h2, lcL t tt te J (wipeD σh vs) m i acc h = .ok ds h2 ∧ ∀ ρ' v H', Ext ρ1 H1 ρ' H' → Rep K ρ' (h2 ++ [.lst ds]) H' → DV K ρ' H' (.ref h2.length) v → Q v H', ?_, ?_⟩
  · refine ⟨J.n, ρ1, h1, [], [], r1.laid hDn, fun z => ?_, upd_same, .nil, .laid hDn, s1.mono r1 (.laid hDn), by omega, ?_⟩
    · obtain ⟨_, _, _, _, w⟩ := r1.mem z
      obtain ⟨u, eu, _⟩ := w.some
      rw [hDn] at eu; cases eu
    · cases q1 : lcL t tt te J (wipeD σh vs) J.n 0 [] h1 with
      | bad => rw [q1] at p1; exact p1.elim
      | ok ds h2 => rw [q1] at p1; exact ⟨ds, h2, rfl, p1⟩
      | ex x h2 =>
        exact absurd q1 (lcL_nox _ _ _ _)
  · rintro i m H2 ⟨ρ2, h2, acc, vacc, r2, nD, hD, za, e2, s2, hm, ds, h9, q9, k9⟩
    obtain ⟨z3, z4⟩ := z1 ρ2 h2 H2 r2 e2
    cases m with
    | zero =>
      unfold lcL at q9
      by_cases hf : J.fin h2 = true
      · rw [if_pos hf] at q9
        cases q9
        have ei : i = J.n := by omega
        subst ei
        have hix : (ρ2 ++ [Dn])[h2.length]? = some Dn := by rw [← r2.len]; simp
        refine .inl ⟨z4 hf, k9 (ρ2 ++ [Dn]) _ H2 ?_ ?_ (.ref hix)⟩
        · obtain ⟨x, rfl, hx⟩ := e2.pre
          refine ⟨⟨x ++ [Dn], by rw [List.append_assoc], fun a ha => ?_⟩, e2.keep, e2.frz⟩
          rcases List.mem_append.mp ha with z | z
          · exact hx a z
          · rw [List.mem_singleton.mp z]; exact hDn
        · have kp : Kp ρ2 H2 (ρ2 ++ [Dn]) H2 := ⟨fun j a q => by rw [List.getElem?_append_left (List.getElem?_eq_some_iff.mp q).1]; exact q, fun _ _ q => q, fun _ _ _ q => q, fun _ _ _ q => q⟩
          refine ⟨by simp [r2.len], List.nodup_append.mpr ⟨r2.nd, by simp, fun a ha b hb => by rw [List.mem_singleton.mp hb]; rintro rfl; exact nD ha⟩, fun j u a ea eb => ?_⟩
          by_cases hj : j < h2.length
          · rw [List.getElem?_append_left hj] at ea
            rw [List.getElem?_append_left (by rw [r2.len]; exact hj)] at eb
            exact (r2.obj j u a ea eb).kp kp rfl
          · have hl : j < (h2 ++ [MO.lst acc]).length := (List.getElem?_eq_some_iff.mp ea).1
            have ej : j = h2.length := by rw [List.length_append] at hl; simp at hl; omega
            subst ej
            rw [List.getElem?_append_right (Nat.le_refl _), Nat.sub_self] at ea
            rw [hix] at eb
            cases eb
            simp at ea
            subst ea
            exact ⟨vacc, hD, za.kp kp⟩
      · rw [if_neg hf] at q9; cases q9
    | succ m =>
      unfold lcL at q9
      cases g1 : J.get i h2 with
      | none => rw [g1] at q9; cases q9
      | some d =>
        rw [g1] at q9
        simp only at q9
        obtain ⟨hgo, hy⟩ := z3 i d (by omega) g1
        refine .inr ⟨hgo, fun H => ∃ ρ h acc vacc, Rep K ρ h H ∧ Dn ∉ ρ ∧ H Dn = some (.lst vacc) ∧ DVs K ρ H acc vacc ∧ Ext ρ1 H1 ρ H ∧ RepS K ρ H (wipeD σh vs) (wipe σ vs) ∧ i + 1 + m = J.n ∧
          ∃ ds h2, lcL t tt te J (wipeD σh vs) m (i + 1) acc h = .ok ds h2 ∧ ∀ ρ' v H', Ext ρ1 H1 ρ' H' → Rep K ρ' (h2 ++ [.lst ds]) H' → DV K ρ' H' (.ref h2.length) v → Q v H', fun H' q => ⟨m, by omega, q⟩, fun x H3 hyl => ?_⟩
        obtain ⟨e3, r3, zd⟩ := hy x H3 hyl
        have s3 := s2.mono r2 e3
        have hD3 := e3.keep _ _ hD nD
        cases g2 : t.m d (wipeD σh vs) h2 with
        | bad => rw [g2] at q9; cases q9
        | ex x h => rw [g2] at q9; cases q9
        | ok σ1 h3 =>
          rw [g2] at q9
          simp only at q9
          refine Tgt.ok (js := vs) zd s3 g2 hvs fun eh σ4 s4 hw => ⟨by rw [hw, wipe_wipe fun i hi => hi], ?_⟩
          subst eh
          refine ⟨ρ2, σ1, h3, r3, s4, ?_⟩
          cases g3 : tt σ1 h3 with
          | bad => rw [g3] at q9; cases q9
          | ex x h => rw [g3] at q9; cases q9
          | ok b h4 =>
            rw [g3] at q9
            intro ρ4 b' H4 e4 r4 eb
            cases eb
            have off : ∀ {ρ4 : List Addr} {H4 : Hp}, Ext ρ2 H3 ρ4 H4 → Dn ∉ ρ4 := fun {ρ4 H4} e4 z => by
              obtain ⟨x, rfl, hx⟩ := e4.pre
              rcases List.mem_append.mp z with z | z
              · exact nD z
              · rw [hx _ z] at hD3; cases hD3
            have nD4 := off e4
            have hD4 := e4.keep _ _ hD3 nD
            have za4 := (za.mono r2 e3).mono r3 e4
            have e24 := (e2.trans e3 r3.nd).trans e4 r4.nd
            cases b with
            | false => exact ⟨ρ4, h4, acc, vacc, r4, nD4, hD4, za4, e24, s3.mono r3 e4, by omega, ds, h9, q9, k9⟩
            | true =>
              simp only [if_true] at q9 ⊢
              refine ⟨ρ4, σ1, h4, r4, s4.mono r3 e4, ?_⟩
              cases g4 : te σ1 h4 with
              | bad => rw [g4] at q9; cases q9
              | ex x h => rw [g4] at q9; cases q9
              | ok y h5 =>
                rw [g4] at q9
                simp only at q9
                intro ρ5 y' H5 e5 r5 zy
                by_cases hl : acc.length < sizeLine
                · rw [if_pos hl] at q9
                  have e45 := e4.trans e5 r5.nd
                  have nD5 := off e45
                  have hD5 := e5.keep _ _ hD4 nD4
                  have za5 := za4.mono r4 e5
                  have kp : Kp ρ5 H5 ρ5 (upd H5 Dn (.lst (vacc ++ [y']))) := .off hD5
                  refine ⟨vacc, hD5, by rw [← za.length]; exact hl, ρ5, h5, acc ++ [y], vacc ++ [y'], ?_, nD5, upd_same, (za5.kp kp).append (.cons (zy.kp kp) .nil), ?_, ?_, by omega, ds, h9, q9, k9⟩
                  · refine ⟨r5.len, r5.nd, fun j u a ea eb => (r5.obj j u a ea eb).kp kp (upd_ne fun z => ?_)⟩
                    subst z
                    exact nD5 (List.mem_of_getElem? eb)
                  · have e25 := e24.trans e5 r5.nd
                    refine ⟨e25.pre, fun a o ha hn => ?_, fun a o u ha => ?_⟩
                    · rw [upd_ne (ne_of_none ha hDn)]; exact e25.keep a o ha hn
                    · rw [upd_ne (ne_of_none ha hDn)]; exact e25.frz a o u ha
                  · have s5 := (s3.mono r3 e4).mono r4 e5
                    exact ⟨s5.1, fun j d hj => let ⟨v, e1, z⟩ := s5.2 j d hj; ⟨v, e1, z.kp kp⟩⟩
                · rw [if_neg hl] at q9; cases q9
section
variable {X : Cx} {W : WX} {pos : Pos} {tg iter elt : Expr} {ifs : List Expr} {scope : Scope} {own : List (Str × Nat)} {it : FI} {t : Tgt} {tt : FT} {te : FE} {k : Nat}
def mYes : FT := fun _ h => .ok true h
abbrev GTs (X : Cx) (W : WX) (ifs : List Expr) (m : FT) : Prop := PTs X ifs (lT X.K W m)
theorem gts_nil : GTs X W [] mYes := ⟨fun pins s σ H Q I ⟨ρ, σh, h, r, sl, p⟩ => pts_nil.run pins s σ H Q I (p.use r rfl)⟩
theorem gts_one {c : Expr} (h : GT X W c tt) : GTs X W [c] tt := pts_one h
theorem g_lc (C : CK X W k) (hi : GI X W tg iter it) (ok : BlkOk X.N X.env.scope scope own) (hvs : ∀ i ∈ t.ixs, i ∈ own.map (·.2))
    (hg : ∀ (s : Shared) (H : Hp) (C : Addr) (cl : List (Str × Addr)) (fp : List Addr), PG (X.blk s H scope (compEnvC scope cl C X.env) fp) tg (t.g X.K))
    (ht : ∀ (s : Shared) (H : Hp) (C : Addr) (cl : List (Str × Addr)) (fp : List Addr), GTs (X.blk s H scope (compEnvC scope cl C X.env) fp) W0 ifs tt)
    (he : ∀ (s : Shared) (H : Hp) (C : Addr) (cl : List (Str × Addr)) (fp : List Addr), GE (X.blk s H scope (compEnvC scope cl C X.env) fp) W0 elt te) (hs : ∀ x, foldedSetIterable iter X.env x = pure x := by intro _; rfl) :
    GE X W (.ListComp elt [⟨tg, iter, ifs, 0⟩] scope pos) (mLc it t tt te (own.map (·.2))) :=
  pe_mono (pe_lc (tt := lT X.K W0 tt) (te := lE X.K W0 te) C.calm C.nd hi ok hg ht he hs) (lLc hvs)
theorem g_setLc {i : Nat} {y : Str} {py : Pos} {spos : Pos} (C : CK X W k) (hyl : X.env.scope.names.lookup y = some .local)
    (hsw : swapsWith (.ListComp elt [⟨tg, iter, ifs, 0⟩] scope pos) (some (.Name y py)) spos.line X.env = pure true) (hi : GI X W tg iter it) (ok : BlkOk X.N X.env.scope scope own) (hvs : ∀ i ∈ t.ixs, i ∈ own.map (·.2))
    (hg : ∀ (s : Shared) (H : Hp) (C : Addr) (cl : List (Str × Addr)) (fp : List Addr), PG (X.blk s H scope (compEnvC scope cl C X.env) fp) tg (t.g X.K))
    (ht : ∀ (s : Shared) (H : Hp) (C : Addr) (cl : List (Str × Addr)) (fp : List Addr), GTs (X.blk s H scope (compEnvC scope cl C X.env) fp) W0 ifs tt)
    (he : ∀ (s : Shared) (H : Hp) (C : Addr) (cl : List (Str × Addr)) (fp : List Addr), GE (X.blk s H scope (compEnvC scope cl C X.env) fp) W0 elt te) (hy : X.N[i]? = some y := by rfl) (hs : ∀ x, foldedSetIterable iter X.env x = pure x := by intro _; rfl) :
    GS X W (.Assign [.Name y py] (.ListComp elt [⟨tg, iter, ifs, 0⟩] scope pos) spos) (mAsg (mLc it t tt te (own.map (·.2))) (mTo i)) :=
  ps_mono (ps_setLc (tt := lT X.K W0 tt) (te := lE X.K W0 te) C.calm C.nd hy hyl hsw hi ok hg ht he hs) fun T σ H ⟨ρ, σh, h, r, s, p⟩ => lLc hvs σ H _ ⟨ρ, σh, h, r, s, PostS.of_on p r s fun d h1 ρ1 v H1 e1 r1 z1 p1 => p1.useN r1 ((s.mono r e1).set i z1)⟩
end

/-! ### a thing that is locked while an expression runs -/
def mLockE (i : Nat) (m : FE) : FE := fun σ h => match σ[i]? with
  | some (some (.ref a)) => match h[a]? with
    | some (.dK kvs) => match m σ (h.set a (.fdK kvs)) with
      | .ok d h' => .ok d (h'.set a (.dK kvs))
      | _ => .bad
    | _ => .bad
  | _ => .bad
theorem g_lockE {X : Cx} {W : WX} {e : Expr} {m : FE} (i : Nat) (he : GE X W e m) : GE X W e (mLockE i m) :=
  pe_mono (pe_lock he) fun σ H Q ⟨ρ, σh, h, r, s, p⟩ => by
    unfold mLockE at p
    split at p
    · rename_i a q1
      split at p
      · rename_i kvs q2
        obtain ⟨v, ev, zv⟩ := s.2 i _ q1
        obtain ⟨ad, ea, vk, hv, zs⟩ := r.look q2
        refine ⟨ad, .dK vk, hv, trivial, fun od => ?_⟩
        have kp : Kp ρ H ρ (upd H ad (.frz od (.dK vk))) := .upd1 hv (fun _ z => by cases z) (fun _ _ z => by cases z) (fun _ _ z => by cases z)
        have r2 : Rep X.K ρ (h.set a (.fdK kvs)) (upd H ad (.frz od (.dK vk))) := r.wrote ea hv rfl ⟨od, vk, upd_same, KDs.kp kp zs⟩
        refine ⟨ρ, σh, _, r2, ⟨s.1, fun j d hj => let ⟨v, e1, z⟩ := s.2 j d hj; ⟨v, e1, z.kp kp⟩⟩, ?_⟩
        cases q3 : m σh (h.set a (.fdK kvs)) with
        | bad => rw [q3] at p; exact p
        | ex x h' => rw [q3] at p; exact p.elim
        | ok d h' =>
          rw [q3] at p
          intro ρ' v' H' e' r' z'
          have hf : H' ad = some (.frz od (.dK vk)) := e'.frz _ _ _ upd_same
          refine ⟨hf, ?_⟩
          have ea' := e'.ix ea
          have kp' : Kp ρ' H' ρ' (upd H' ad (.dK vk)) := .upd1 hf (fun _ z => by cases z) (fun _ _ z => by cases z) (fun _ _ z => by cases z)
          have ne : ∀ b, H b ≠ some (.dK vk) → b ≠ ad := fun b hb z => hb (by rw [z]; exact hv)
          refine p ρ' v' _ ⟨?_, fun b u hb hn => ?_, fun b ob u hb => ?_⟩ ?_ (z'.kp kp')
          · obtain ⟨x, hx, hn⟩ := e'.pre
            refine ⟨x, hx, fun b hb => ?_⟩
            have := hn b hb
            by_cases hba : b = ad
            · subst hba; rw [upd_same] at this; cases this
            · rw [upd_ne hba] at this; exact this
          · have hba : b ≠ ad := fun z => hn (by rw [z]; exact List.mem_of_getElem? ea)
            rw [upd_ne hba]
            exact e'.keep b u (by rw [upd_ne hba]; exact hb) hn
          · have hba : b ≠ ad := fun z => by subst z; rw [hv] at hb; cases hb
            rw [upd_ne hba]
            exact e'.frz b ob u (by rw [upd_ne hba]; exact hb)
          · refine ⟨by rw [List.length_set]; exact r'.len, r'.nd, fun j u b e1 e2 => ?_⟩
            by_cases hj : j = a
            · subst hj
              rw [ea'] at e2; cases e2
              have hl : j < h'.length := by
                have := (List.getElem?_eq_some_iff.mp ea').1
                rw [← r'.len]; exact this
              rw [List.getElem?_set_self hl] at e1
              cases e1
              exact ⟨vk, upd_same, (KDs.kp (Kp.of r2 e') (KDs.kp kp zs)).kp kp'⟩
            · rw [List.getElem?_set_ne (Ne.symm hj)] at e1
              have hb : b ≠ ad := fun z => hj (by subst z; exact (List.getElem?_inj (List.getElem?_eq_some_iff.mp e2).1 r'.nd).mp (e2.trans ea'.symm))
              exact (r'.obj j u b e1 e2).kp kp' (upd_ne hb)
      · exact p.elim
    · exact p.elim
end FL

set_option Elab.async false
set_option linter.all false
set_option maxRecDepth 100000
/-! FL, part f: calls of built-ins, methods, defs; the def's own rule. -/
namespace FL
open PySem PySem.Spec PyProof.Rows L2

/-! ### calls by values -/
abbrev RL := List V → Hp → VK → Prop
def CallS (K : PySem.W.Frag) (f : List D → HS → R D) (r : RL) : Prop := ∀ (ρ : List Addr) (h : HS) (H : Hp) (ds : List D) (vs : List V) (W : XK) (Q : VK), Rep K ρ h H → DVs K ρ H ds vs → Post K ρ H (DV K) W Q (f ds h) → r vs H Q
def mCall (f : List D → HS → R D) (ma : FA) : FE := fun σ h => (ma σ h).bind f
section
variable {X : Cx} {W : WX} {pos p apos : Pos} {x : Str} {e o : Expr} {es : List Expr} {m mo : FE} {ma : FA} {f : List D → HS → R D} {r : RL} {id T : String}
theorem lCall (hf : CallS X.K f r) (σ : L2.St) (H : Hp) (Q : VK) (q : lE X.K W (mCall f ma) σ H Q) : tCB r (lA X.K W ma) σ H Q := by
  obtain ⟨ρ, σh, h, rr, s, p⟩ := q
  exact ⟨ρ, σh, h, rr, s, Post.of_bind p fun ds h1 ρ1 vs H1 e1 r1 z1 p1 => hf ρ1 h1 H1 ds vs _ Q r1 z1 p1⟩
theorem g_callB (hc : CallR X (.builtin id) r) (hf : CallS X.K f r) (hm : X.mg x = none) (hv : bootBuiltins x = some (.builtin id)) (ha : GA X W (e :: es) ma) (hg : Gl X x := by rfl) (hn : x ≠ "__name__" := by decide) (hdb : (x == ("__debug__" : Str)) = false := by decide)
    (he : starEach (e :: es) X.env = (false, eval e X.env) :: starEach es X.env := by rfl) (hpl : (backTo pos (starEach es X.env)).any (·.1) = false := by rfl) : GE X W (.Call (.Name x p) (e :: es) [] pos) (mCall f ma) :=
  pe_mono (pe_callB hc hg hm hv ha hn hdb he hpl) (lCall hf)
theorem g_callTy (hc : CallR X (.type T) r) (hf : CallS X.K f r) (hm : X.mg x = none) (hv : bootBuiltins x = some (.type T)) (ha : GA X W (e :: es) ma) (hg : Gl X x := by rfl) (hn : x ≠ "__name__" := by decide) (hdb : (x == ("__debug__" : Str)) = false := by decide)
    (he : starEach (e :: es) X.env = (false, eval e X.env) :: starEach es X.env := by rfl) (hpl : (backTo pos (starEach es X.env)).any (·.1) = false := by rfl) : GE X W (.Call (.Name x p) (e :: es) [] pos) (mCall f ma) :=
  pe_mono (pe_callTy hc hg hm hv ha hn hdb he hpl) (lCall hf)
end

/-! ### len, abs, int, max, min, sum, sorted, tuple, list, dict -/
def lenD (h : HS) : D → Option Nat
  | .str y => if y.length ≤ sizeLine then some y.length else none
  | .tup ds => some ds.length
  | .cst ds => some ds.length
  | .ref i => match h[i]? with
    | some (.lst ds) => some ds.length
    | some (.dK ds) => some ds.length
    | _ => none
  | _ => none
def dLen (ds : List D) (h : HS) : R D := match ds with
  | [d] => match lenD h d with
    | some n => .ok (.int n) h
    | none => .bad
  | _ => .bad
def rLen2 (K : PySem.W.Frag) : RL := fun xs H Q => (∃ x n, xs = [x] ∧ LenV K x H n ∧ Q (.int n) H) ∨ (∃ a kvs, xs = [V.ref a] ∧ H a = some (.dK kvs) ∧ Q (.int kvs.length) H)
theorem o_len {X : Cx} : CallR X (.builtin "len") (rLen2 X.K) := CallR.or call_len call_lenD
theorem s_len {K : PySem.W.Frag} : CallS K dLen (rLen2 K) := by
  intro ρ h H ds vs W Q r z0 p
  match ds, z0, p with
  | [d], zz, p =>
    obtain ⟨v, rfl, z⟩ := zz.one
    unfold dLen at p
    simp only at p
    cases e : lenD h d with
    | none => rw [e] at p; exact p.elim
    | some n =>
      rw [e] at p
      have q := p.use r (.int _)
      cases z with
      | str y =>
        simp only [lenD] at e
        by_cases c : y.length ≤ sizeLine
        · rw [if_pos c] at e; cases e; exact .inl ⟨_, _, rfl, ⟨c, rfl⟩, q⟩
        · rw [if_neg c] at e; cases e
      | tup q' zs => cases e; exact .inl ⟨_, _, rfl, .inr ⟨_, q', zs.length⟩, q⟩
      | cst q' zs => cases e; exact .inl ⟨_, _, rfl, .inl ⟨_, q'.sq, zs.length⟩, q⟩
      | ref q' =>
        rename_i i a
        cases q1 : h[i]? with
        | none => simp only [lenD, q1] at e; cases e
        | some o =>
          obtain ⟨a', ea, z⟩ := r.look q1
          rw [q'] at ea; cases ea
          cases o with
          | lst ds => simp only [lenD, q1] at e; cases e; obtain ⟨va, ha, za⟩ := z; exact .inl ⟨_, _, rfl, .inl ⟨_, SqL.of ha, za.length⟩, q⟩
          | dK ds => simp only [lenD, q1] at e; cases e; obtain ⟨va, ha, za⟩ := z; exact .inr ⟨_, _, rfl, ha, by rw [← KDs.length za]; exact q⟩
          | _ => simp only [lenD, q1] at e; cases e
      | _ => cases e
def dAbs (ds : List D) (h : HS) : R D := match ds with
  | [.int i] => .ok (.int (if i < 0 then -i else i)) h
  | _ => .bad
theorem s_abs {K : PySem.W.Frag} : CallS K dAbs (fun xs H Q => ∃ i, xs = [.int i] ∧ Q (.int (if i < 0 then -i else i)) H) := by
  intro ρ h H ds vs W Q r z0 p
  match ds, z0, p with
  | [.int i], zz, p => obtain ⟨v, rfl, z⟩ := zz.one; cases z; exact ⟨i, rfl, p.use r (.int _)⟩
def dInt (ds : List D) (h : HS) : R D := match ds with
  | [.int i] => .ok (.int i) h
  | [.bl k] => .ok (.int (if k then 1 else 0)) h
  | _ => .bad
theorem s_int {K : PySem.W.Frag} : CallS K dInt (fun xs H Q => (∃ i, xs = [.int i] ∧ Q (.int i) H) ∨ ∃ k, xs = [.bl k] ∧ Q (.int (if k then 1 else 0)) H) := by
  intro ρ h H ds vs W Q r z0 p
  match ds, z0, p with
  | [.int i], zz, p => obtain ⟨v, rfl, z⟩ := zz.one; cases z; exact .inl ⟨i, rfl, p.use r (.int _)⟩
  | [.bl k], zz, p => obtain ⟨v, rfl, z⟩ := zz.one; cases z; exact .inr ⟨k, rfl, p.use r (.int _)⟩
def dMax2 (ds : List D) (h : HS) : R D := match ds with
  | [.int i, .int j] => .ok (.int (if j > i then j else i)) h
  | _ => .bad
def dMin2 (ds : List D) (h : HS) : R D := match ds with
  | [.int i, .int j] => .ok (.int (if j < i then j else i)) h
  | _ => .bad
theorem s_max2 {K : PySem.W.Frag} : CallS K dMax2 (fun xs H Q => ∃ i j, xs = [.int i, .int j] ∧ Q (.int (if j > i then j else i)) H) := by
  intro ρ h H ds vs W Q r z0 p
  match ds, z0, p with
  | [.int i, .int j], z, p => obtain ⟨v, w, rfl, z1, z2⟩ := z.two; cases z1; cases z2; exact ⟨i, j, rfl, p.use r (.int _)⟩
theorem s_min2 {K : PySem.W.Frag} : CallS K dMin2 (fun xs H Q => ∃ i j, xs = [.int i, .int j] ∧ Q (.int (if j < i then j else i)) H) := by
  intro ρ h H ds vs W Q r z0 p
  match ds, z0, p with
  | [.int i, .int j], z, p => obtain ⟨v, w, rfl, z1, z2⟩ := z.two; cases z1; cases z2; exact ⟨i, j, rfl, p.use r (.int _)⟩
def unI : D → Option Int
  | .int i => some i
  | _ => none
/-- all are ints -/
def intsD : List D → Option (List Int)
  | [] => some []
  | d :: ds => match unI d, intsD ds with
    | some i, some is => some (i :: is)
    | _, _ => none
theorem intsD_eq : ∀ {ds : List D} {ns : List Int}, intsD ds = some ns → ds = ns.map D.int
  | [], ns, e => by cases e; rfl
  | d :: ds, ns, e => by
    unfold intsD at e
    cases d <;> simp only [unI] at e <;> first | (cases e; done) | skip
    cases q : intsD ds with
    | none => rw [q] at e; cases e
    | some is => rw [q] at e; cases e; rw [intsD_eq q]; rfl
theorem intsD_map : ∀ ns : List Int, intsD (ns.map D.int) = some ns
  | [] => rfl
  | n :: ns => by
    show (match some n, intsD (ns.map D.int) with
      | some i, some is => some (i :: is)
      | _, _ => none) = _
    rw [intsD_map ns]
/-- a list's items: a numbered list, or one that stays -/
def listD (h : HS) : D → Option (List D)
  | .cst ds => some ds
  | .ref i => lstAt h i
  | _ => none
theorem listD_ok {K : PySem.W.Frag} {ρ : List Addr} {h : HS} {H : Hp} (r : Rep K ρ h H) {d : D} {v : V} {ds : List D} (z : DV K ρ H d v) (e : listD h d = some ds) : ∃ a vs, v = .ref a ∧ SqL K H a vs ∧ DVs K ρ H ds vs := by
  cases z with
  | cst q zs => cases e; exact ⟨_, _, rfl, q.sq, zs⟩
  | ref q =>
    obtain ⟨vs, hv, zs⟩ := lstAt_ok r q e
    exact ⟨_, vs, rfl, SqL.of hv, zs⟩
  | _ => cases e
def dSum (ds : List D) (h : HS) : R D := match ds with
  | [d] => match (listD h d).bind intsD with
    | some ns => .ok (.int ns.sum) h
    | none => .bad
  | _ => .bad
theorem s_sum {K : PySem.W.Frag} : CallS K dSum (rSum K) := by
  intro ρ h H ds vs W Q r z0 p
  match ds, z0, p with
  | [d], zz, p =>
    obtain ⟨v, rfl, z⟩ := zz.one
    unfold dSum at p
    simp only at p
    cases e : (listD h d).bind intsD with
    | none => rw [e] at p; exact p.elim
    | some ns =>
      rw [e] at p
      obtain ⟨es, e1, e2⟩ := Option.bind_eq_some_iff.mp e
      obtain ⟨a, vs, rfl, hq, zs⟩ := listD_ok r z e1
      rw [intsD_eq e2] at zs
      rw [zs.toInts] at hq
      exact ⟨a, ns, rfl, hq, p.use r (.int _)⟩
def sortI (ns : List Int) : List Int := ns.mergeSort (fun a b => decide (a ≤ b))
theorem sortI_perm (ns : List Int) : (sortI ns).Perm ns := List.mergeSort_perm ns _
theorem sortI_sorted (ns : List Int) : (sortI ns).Pairwise (· ≤ ·) := by
  have h := List.pairwise_mergeSort (le := fun a b : Int => decide (a ≤ b)) (fun a b c h1 h2 => by simp only [decide_eq_true_eq] at *; omega) (fun a b => by simp only [Bool.or_eq_true, decide_eq_true_eq]; omega) ns
  exact h.imp fun h => of_decide_eq_true h
theorem sortI_eq {ns ms : List Int} (hp : ms.Perm ns) (hs : ms.Pairwise (· ≤ ·)) : ms = sortI ns :=
  PySem.W.ksm_same (hp.trans (sortI_perm ns).symm) hs (sortI_sorted ns)
def keysI : List (Key × D) → Option (List Int)
  | [] => some []
  | (.inl i, _) :: r => (keysI r).map (i :: ·)
  | (.inr _, _) :: _ => none
theorem keysI_eq : ∀ {ks : List (Key × D)} {ns : List Int}, keysI ks = some ns → ks.map (·.1) = ns.map Sum.inl
  | [], ns, e => by cases e; rfl
  | (.inl i, d) :: r, ns, e => by
    obtain ⟨ms, e1, e2⟩ := Option.map_eq_some_iff.mp e
    subst e2
    rw [List.map_cons, keysI_eq e1]; rfl
  | (.inr x, d) :: r, ns, e => by cases e
def dSorted (ds : List D) (h : HS) : R D := match ds with
  | [d] => match (listD h d).bind intsD with
    | some ns => .ok (.ref h.length) (h ++ [.lst ((sortI ns).map D.int)])
    | none => match (dictD h d).bind keysI with
      | some ns => if ns.length < 64 then .ok (.ref h.length) (h ++ [.lst ((sortI ns).map D.int)]) else .bad
      | none => .bad
  | _ => .bad
def rSortedDI : RL := fun xs H Q => ∃ (a : Addr) (kvs : List (Key × V)) (ks : List Int), xs = [.ref a] ∧ Rd H a (.dK kvs) ∧ kvs.map (·.1) = ks.map Sum.inl ∧ ks.length < 64 ∧
    ∀ (ys : List Int) (p : Addr), ys.Perm ks → ys.Pairwise (· ≤ ·) → H p = none → Q (.ref p) (upd H p (.lst (ys.map V.int)))
def rSorted2 (K : PySem.W.Frag) : RL := fun vs H Q => rSortedI K vs H Q ∨ rSortedDI vs H Q
theorem o_sorted {X : Cx} (hc : X.calm = true) : CallR X (.builtin "sorted") (rSorted2 X.K) := CallR.or cr_sortedI (call_sortedDI hc)
theorem s_sorted {K : PySem.W.Frag} : CallS K dSorted (rSorted2 K) := by
  intro ρ h H ds vs W Q r z0 p
  match ds, z0, p with
  | [d], zz, p =>
    obtain ⟨v, rfl, z⟩ := zz.one
    unfold dSorted at p
    simp only at p
    cases e : (listD h d).bind intsD with
    | some ns =>
      rw [e] at p
      obtain ⟨es, e1, e2⟩ := Option.bind_eq_some_iff.mp e
      obtain ⟨a, vs, rfl, hq, zs⟩ := listD_ok r z e1
      rw [intsD_eq e2] at zs
      rw [zs.toInts] at hq
      exact .inl ⟨a, ns, rfl, hq, fun ns' p' hp hs hn => by rw [sortI_eq hp hs]; exact post_lst r (DVs.ints _) p p' hn⟩
    | none =>
      rw [e] at p
      simp only at p
      cases e3 : (dictD h d).bind keysI with
      | none => rw [e3] at p; exact p.elim
      | some ns =>
        rw [e3] at p
        simp only at p
        obtain ⟨ks, e1, e2⟩ := Option.bind_eq_some_iff.mp e3
        obtain ⟨a, vs, rfl, hq, zs⟩ := dictD_ok r z e1
        by_cases hl : ns.length < 64
        · rw [if_pos hl] at p
          exact .inr ⟨a, vs, ns, rfl, hq, by rw [zs.keys, keysI_eq e2], hl, fun ns' p' hp hs hn => by rw [sortI_eq hp hs]; exact post_lst r (DVs.ints _) p p' hn⟩
        · rw [if_neg hl] at p; exact p.elim
def dTuple (ds : List D) (h : HS) : R D := match ds with
  | [.tup xs] => .ok (.tup xs) h
  | [d] => match listD h d with
    | some xs => .ok (.tup xs) h
    | none => .bad
  | _ => .bad
def rTuple (K : PySem.W.Frag) : RL := fun xs H Q => ∃ p ys, xs = [.ref p] ∧ ((SqL K H p ys ∧ ∀ l, H l = none → Q (.ref l) (upd H l (.tup ys))) ∨ (SqT K H p ys ∧ Q (.ref p) H))
theorem s_tuple {K : PySem.W.Frag} : CallS K dTuple (rTuple K) := by
  intro ρ h H ds vs W Q r z0 p
  match ds, z0, p with
  | [d], zz, p =>
    obtain ⟨v, rfl, z⟩ := zz.one
    have lst : ∀ xs, listD h d = some xs → Post K ρ H (DV K) W Q (.ok (.tup xs) h) → rTuple K [v] H Q := fun xs e p => by
      obtain ⟨a, vs, rfl, hq, zs⟩ := listD_ok r z e
      exact ⟨a, vs, rfl, .inl ⟨hq, post_tup r zs p⟩⟩
    cases z with
    | tup q zs => exact ⟨_, _, rfl, .inr ⟨q, p.use r (.tup q zs)⟩⟩
    | cst q zs => exact lst _ rfl p
    | ref q =>
      rename_i i a
      unfold dTuple at p
      simp only at p
      cases e : listD h (.ref i) with
      | none => rw [e] at p; exact p.elim
      | some xs => rw [e] at p; exact lst xs e p
    | _ => exact p.elim
  | a :: _ :: _, zz, p => cases a <;> exact p.elim
def dList (ds : List D) (h : HS) : R D := match ds with
  | [d] => match itemsD h d with
    | some xs => .ok (.ref h.length) (h ++ [.lst xs])
    | none => match dictD h d with
      | some ks => .ok (.ref h.length) (h ++ [.lst (ks.map fun kv => dKey kv.1)])
      | none => .bad
  | _ => .bad
def rList (K : PySem.W.Frag) : RL := fun xs H Q => (∃ p ys, xs = [.ref p] ∧ (SqL K H p ys ∨ SqT K H p ys) ∧ ∀ l, H l = none → Q (.ref l) (upd H l (.lst ys))) ∨
  ∃ (a : Addr) (kvs : List (Key × V)), xs = [.ref a] ∧ Rd H a (.dK kvs) ∧ ∀ p, H p = none → Q (.ref p) (upd H p (.lst (kvs.map fun kv => kV kv.1)))
theorem o_list {X : Cx} (hc : X.calm = true) : CallR X (.type "list") (rList X.K) := CallR.or call_list_of (call_listD hc)
theorem DVs.keysOf {K : PySem.W.Frag} {ρ : List Addr} {H : Hp} {ks : List (Key × D)} {vs : List (Key × V)} (z : KDs Key K ρ H ks vs) : DVs K ρ H (ks.map fun kv => dKey kv.1) (vs.map fun kv => kV kv.1) := by
  unfold KDs at z
  induction z with
  | nil => exact .nil
  | cons z _ ih => exact .cons (by show DV K ρ H (dKey _) (kV _); rw [← z.1]; exact dKey_rel _) ih
theorem s_list {K : PySem.W.Frag} : CallS K dList (rList K) := by
  intro ρ h H ds vs W Q r z0 p
  match ds, z0, p with
  | [d], zz, p =>
    obtain ⟨v, rfl, z⟩ := zz.one
    unfold dList at p
    simp only at p
    cases e : itemsD h d with
    | some xs =>
      rw [e] at p
      obtain ⟨a, vs, rfl, hq, zs⟩ := itemsD_ok r z e
      exact .inl ⟨a, vs, rfl, hq, post_lst r zs p⟩
    | none =>
      rw [e] at p
      simp only at p
      cases e2 : dictD h d with
      | none => rw [e2] at p; exact p.elim
      | some ks =>
        rw [e2] at p
        obtain ⟨a, vs, rfl, hq, zs⟩ := dictD_ok r z e2
        exact .inr ⟨a, vs, rfl, hq, post_lst r (DVs.keysOf zs) p⟩
def dDict (ds : List D) (h : HS) : R D := match ds with
  | [d] => match dictD h d with
    | some ks => .ok (.ref h.length) (h ++ [.dK ks])
    | none => .bad
  | _ => .bad
theorem s_dict {K : PySem.W.Frag} : CallS K dDict (fun xs H Q => ∃ (a : Addr) (kvs : List (Key × V)), xs = [.ref a] ∧ Rd H a (.dK kvs) ∧ ∀ p, H p = none → Q (.ref p) (upd H p (.dK kvs))) := by
  intro ρ h H ds vs W Q r z0 p
  match ds, z0, p with
  | [d], zz, p =>
    obtain ⟨v, rfl, z⟩ := zz.one
    unfold dDict at p
    simp only at p
    cases e : dictD h d with
    | none => rw [e] at p; exact p.elim
    | some ks =>
      rw [e] at p
      obtain ⟨a, vs, rfl, hq, zs⟩ := dictD_ok r z e
      exact ⟨a, vs, rfl, hq, post_dK r zs p⟩
/-- isinstance: the answer by a table of the types -/
def tyOfD (h : HS) : D → Option String
  | .non => some "NoneType" | .bl _ => some "bool" | .int _ => some "int" | .str _ => some "str" | .tup _ => some "tuple"
  | .ref i => match h[i]? with
    | some (.lst _) => some "list"
    | some (.dK _) => some "dict"
    | _ => none
  | _ => none
def dIsi (tab : List (String × String × Bool)) (ds : List D) (h : HS) : R D := match ds with
  | [d, .ty c] => match tyOfD h d with
    | some t => if t = c then .ok (.bl true) h else match tab.find? (fun p => p.1 = t ∧ p.2.1 = c) with
      | some p => .ok (.bl p.2.2) h
      | none => .bad
    | none => .bad
  | _ => .bad
theorem tyX_tup {K : PySem.W.Frag} {H : Hp} {a : Addr} {vs : List V} (q : SqT K H a vs) : TyX K H (.ref a) (.type "tuple") := by
  rcases q with (q | ⟨o, q⟩) | ⟨o, its, n, hk, hc, _⟩
  · exact .base (.tup q)
  · exact .fTuple q
  · exact .kTuple hk hc
theorem s_isi {K : PySem.W.Frag} {tab : List (String × String × Bool)} (ht : ∀ p ∈ tab, PySem.W.kitOne K (.type p.1) (.type p.2.1) = some p.2.2) : CallS K (dIsi tab) (rIsi K) := by
  intro ρ h H ds vs W Q r z0 p
  match ds, z0, p with
  | [d, .ty c], z, p =>
    obtain ⟨v, w, rfl, z1, z2⟩ := z.two
    cases z2
    unfold dIsi at p
    simp only at p
    cases e : tyOfD h d with
    | none => rw [e] at p; exact p.elim
    | some t =>
      rw [e] at p
      simp only at p
      have tx : TyX K H v (.type t) := by
        cases z1 with
        | non => cases e; exact .base .non
        | bl b => cases e; exact .base (.bl b)
        | int i => cases e; exact .base (.int i)
        | str x => cases e; exact .base (.str x)
        | tup q zs => cases e; exact tyX_tup q
        | ref q =>
          rename_i i a
          cases q1 : h[i]? with
          | none => simp only [tyOfD, q1] at e; cases e
          | some o =>
            obtain ⟨a', ea, z⟩ := r.look q1
            rw [q] at ea; cases ea
            cases o with
            | lst ds => simp only [tyOfD, q1] at e; cases e; obtain ⟨va, ha, za⟩ := z; exact .base (.lst ha)
            | dK ds => simp only [tyOfD, q1] at e; cases e; obtain ⟨va, ha, za⟩ := z; exact .base (.dK ha)
            | _ => simp only [tyOfD, q1] at e; cases e
        | _ => cases e
      by_cases hc : t = c
      · rw [if_pos hc] at p
        subst hc
        refine ⟨v, .ty t, .type t, .type t, true, rfl, .ty t, tx, ?_, p.use r (.bl _)⟩
        unfold PySem.W.kitOne
        rw [if_pos (by simp)]
      · rw [if_neg hc] at p
        cases q : tab.find? (fun p => p.1 = t ∧ p.2.1 = c) with
        | none => rw [q] at p; exact p.elim
        | some pr =>
          rw [q] at p
          have hm := List.mem_of_find?_eq_some q
          have hp := List.find?_some q
          simp only [decide_eq_true_eq] at hp
          obtain ⟨h1, h2⟩ := hp
          subst h1; subst h2
          exact ⟨v, .ty _, _, _, pr.2.2, rfl, .ty _, tx, ht pr hm, p.use r (.bl _)⟩
theorem g_tyName {X : Cx} {W : WX} {x : Str} {T : String} {pos : Pos} (hm : X.mg x = none) (hv : bootBuiltins x = some (.type T)) (hg : Gl X x := by rfl) (hn : x ≠ "__name__" := by decide) (hd : (x == ("__debug__" : Str)) = false := by decide) : GE X W (.Name x pos) (mC (.ty T)) :=
  gC (pe_bltn hg hm hv (show RelV (.ty T) (.type T) from rfl) hn hd) fun _ _ => .ty T

/-! ### methods of built-in types -/
def MtS (K : PySem.W.Frag) (f : D → List D → HS → R D) (r : V → List V → Hp → VK → Prop) : Prop := ∀ (ρ : List Addr) (h : HS) (H : Hp) (d : D) (v : V) (ds : List D) (vs : List V) (W : XK) (Q : VK), Rep K ρ h H → DV K ρ H d v → DVs K ρ H ds vs →
  Post K ρ H (DV K) W Q (f d ds h) → r v vs H Q
def tyMD (T : String) (h : HS) : D → Bool
  | .str _ => T == "str"
  | .ref i => match h[i]? with
    | some (.lst _) => T == "list"
    | some (.dK _) => T == "dict"
    | _ => false
  | _ => false
def mBM (T : String) (f : D → List D → HS → R D) (mo : FE) (ma : FA) : FE := fun σ h => (mo σ h).bind fun d h1 => if tyMD T h1 d = true then (ma σ h1).bind fun ds h2 => f d ds h2 else .bad
theorem tyMD_ok {K : PySem.W.Frag} {ρ : List Addr} {h : HS} {H : Hp} (r : Rep K ρ h H) {T : String} {d : D} {v : V} (z : DV K ρ H d v) (e : tyMD T h d = true) : tyV K T v H := by
  cases z with
  | str y => exact beq_iff_eq.mp e
  | ref q =>
    rename_i i a
    cases q1 : h[i]? with
    | none => simp only [tyMD, q1] at e; cases e
    | some o =>
      obtain ⟨a', ea, z⟩ := r.look q1
      rw [q] at ea; cases ea
      cases o with
      | lst ds => simp only [tyMD, q1] at e; obtain ⟨va, ha, za⟩ := z; exact .inl ⟨beq_iff_eq.mp e, _, SqL.of ha⟩
      | dK ds => simp only [tyMD, q1] at e; obtain ⟨va, ha, za⟩ := z; exact .inr (.inr (.inl ⟨beq_iff_eq.mp e, .inl ⟨_, ha⟩⟩))
      | _ => simp only [tyMD, q1] at e; cases e
  | _ => cases e
section
variable {X : Cx} {W : WX} {pos p apos cpos : Pos} {name : Str} {e o : Expr} {es : List Expr} {m mo : FE} {ma : FA} {f : D → List D → HS → R D} {r : V → List V → Hp → VK → Prop} {id T : String}
theorem g_bm (pa : PlainAttrs T) (slot : Slot T name id) (hty : typeOf (.builtin id) = pure (.type "method_descriptor")) (hm : MtR X id r) (hf : MtS X.K f r) (ho : GE X W o mo) (ha : GA X W (e :: es) ma)
    (hbase : attributeBase o name X.env (eval o X.env) = eval o X.env := by rfl)
    (hfew : ((backTo cpos (starEach (e :: es) X.env)).all (fun x => !x.1) && (backToKw cpos (keywordEach [] X.env)).all (fun x => x.1.isSome)
      && decide ((e :: es).length + ([] : List Keyword).length + (if ([] : List Keyword).isEmpty then 0 else 1) < 30)) = true := by rfl)
    (hline : (apos.endLine == cpos.line) = true := by rfl) (hs : starEach (e :: es) X.env = (false, eval e X.env) :: starEach es X.env := by rfl) (hplain : (backTo cpos (starEach es X.env)).any (·.1) = false := by rfl) :
    GE X W (.Call (.Attribute o name apos) (e :: es) [] cpos) (mBM T f mo ma) :=
  pe_mono (pe_bm pa slot hty hm ho ha hbase hfew hline hs hplain) fun σ H Q ⟨ρ, σh, h, rr, s, p⟩ => ⟨ρ, σh, h, rr, s, Post.of_bind p fun d h1 ρ1 v H1 e1 r1 z1 p1 => by
    by_cases c : tyMD T h1 d = true
    · rw [if_pos c] at p1
      exact ⟨tyMD_ok r1 z1 c, ρ1, σh, h1, r1, s.mono rr e1, Post.of_bind p1 fun ds h2 ρ2 vs H2 e2 r2 z2 p2 => hf ρ2 h2 H2 d v ds vs _ Q r2 (z1.mono r1 e2) z2 p2⟩
    · rw [if_neg c] at p1; exact p1.elim⟩
theorem g_bm0 (pa : PlainAttrs T) (slot : Slot T name id) (hty : typeOf (.builtin id) = pure (.type "method_descriptor")) (hm : MtR X id r) (hf : MtS X.K f r) (ho : GE X W o mo)
    (hbase : attributeBase o name X.env (eval o X.env) = eval o X.env := by rfl) (hline : (apos.endLine == cpos.line) = true := by rfl) : GE X W (.Call (.Attribute o name apos) [] [] cpos) (mBM T f mo mNil) :=
  pe_mono (pe_bm0 pa slot hty hm ho hbase hline) fun σ H Q ⟨ρ, σh, h, rr, s, p⟩ => ⟨ρ, σh, h, rr, s, Post.of_bind p fun d h1 ρ1 v H1 e1 r1 z1 p1 => by
    by_cases c : tyMD T h1 d = true
    · rw [if_pos c] at p1
      exact ⟨tyMD_ok r1 z1 c, hf ρ1 h1 H1 d v [] [] _ Q r1 z1 .nil p1⟩
    · rw [if_neg c] at p1; exact p1.elim⟩
end
def dAppend (d : D) (ds : List D) (h : HS) : R D := match d, ds with
  | .ref i, [y] => match lstAt h i with
    | some xs => if xs.length < sizeLine then .ok .non (h.set i (.lst (xs ++ [y]))) else .bad
    | none => .bad
  | _, _ => .bad
theorem s_append {K : PySem.W.Frag} : MtS K dAppend rAppend := by
  intro ρ h H d v ds vs W Q r z zs0 p
  cases z <;> first | exact p.elim | skip
  rename_i i a q
  match ds, zs0, p with
  | [y], zs, p =>
    obtain ⟨w, rfl, zw⟩ := zs.one
    unfold dAppend at p
    simp only at p
    cases e : lstAt h i with
    | none => rw [e] at p; exact p.elim
    | some xs =>
      rw [e] at p
      simp only at p
      obtain ⟨us, hv, zu⟩ := lstAt_ok r q e
      by_cases hl : xs.length < sizeLine
      · rw [if_pos hl] at p
        have ex := Ext.wrote (o := .lst (us ++ [w])) q hv
        exact ⟨_, us, w, rfl, rfl, hv, by rw [← zu.length]; exact hl, p ρ .non _ ex (r.wrote q hv rfl ⟨_, upd_same, (zu.append (.cons zw .nil)).mono r ex⟩) .non⟩
      · rw [if_neg hl] at p; exact p.elim
def dPop0 (d : D) (ds : List D) (h : HS) : R D := match d, ds with
  | .ref i, [] => match lstAt h i with
    | some xs => match xs[xs.length - 1]? with
      | some y => .ok y (h.set i (.lst xs.dropLast))
      | none => .bad
    | none => .bad
  | _, _ => .bad
theorem DVs.dropLast {K : PySem.W.Frag} {ρ : List Addr} {H : Hp} {ds : List D} {vs : List V} (z : DVs K ρ H ds vs) : DVs K ρ H ds.dropLast vs.dropLast := by
  rw [List.dropLast_eq_take, List.dropLast_eq_take, z.length]
  exact z.take _
theorem s_pop0 {K : PySem.W.Frag} : MtS K dPop0 rPop := by
  intro ρ h H d v ds vs W Q r z zs0 p
  cases z <;> first | exact p.elim | skip
  rename_i i a q
  match ds, zs0, p with
  | [], zs, p =>
    cases zs
    cases zs0
    unfold dPop0 at p
    simp only at p
    cases e : lstAt h i with
    | none => rw [e] at p; exact p.elim
    | some xs =>
      rw [e] at p
      simp only at p
      obtain ⟨us, hv, zu⟩ := lstAt_ok r q e
      cases e2 : xs[xs.length - 1]? with
      | none => rw [e2] at p; exact p.elim
      | some y =>
        rw [e2] at p
        obtain ⟨w, ew, zw⟩ := zu.get e2
        have ex := Ext.wrote (o := .lst us.dropLast) q hv
        exact ⟨_, us, w, rfl, rfl, hv, by rw [← zu.length]; exact ew, p ρ w _ ex (r.wrote q hv rfl ⟨_, upd_same, zu.dropLast.mono r ex⟩) (zw.mono r ex)⟩
def dExtend (d : D) (ds : List D) (h : HS) : R D := match d, ds with
  | .ref i, [.ref j] => match lstAt h i, lstAt h j with
    | some xs, some ys => if xs.length + ys.length ≤ sizeLine then .ok .non (h.set i (.lst (xs ++ ys))) else .bad
    | _, _ => .bad
  | _, _ => .bad
theorem s_extend {K : PySem.W.Frag} : MtS K dExtend rExtend := by
  intro ρ h H d v ds vs W Q r z zs0 p
  cases z <;> first | exact p.elim | skip
  rename_i i a q
  match ds, zs0, p with
  | [.ref j], zs, p =>
    obtain ⟨w, rfl, zw⟩ := zs.one
    cases zw with
    | ref q2 =>
      unfold dExtend at p
      simp only at p
      cases e : lstAt h i with
      | none => rw [e] at p; exact p.elim
      | some xs =>
        cases e2 : lstAt h j with
        | none => rw [e, e2] at p; exact p.elim
        | some ys =>
          rw [e, e2] at p
          simp only at p
          obtain ⟨us, hv, zu⟩ := lstAt_ok r q e
          obtain ⟨ws, hw, zw⟩ := lstAt_ok r q2 e2
          by_cases hl : xs.length + ys.length ≤ sizeLine
          · rw [if_pos hl] at p
            have ex := Ext.wrote (o := .lst (us ++ ws)) q hv
            exact ⟨_, _, us, ws, rfl, rfl, hv, hw, by rw [← zu.length, ← zw.length]; exact hl, p ρ .non _ ex (r.wrote q hv rfl ⟨_, upd_same, (zu.append zw).mono r ex⟩) .non⟩
          · rw [if_neg hl] at p; exact p.elim

/-! ### dict displays -/
abbrev FPs := List (FE × FE)
def mPairs : List (FE × FE) → Sl → HS → R (List (Key × D))
  | [], _, h => .ok [] h
  | (mk, mv) :: r, σ, h => (mk σ h).bind fun k h1 => (mv σ h1).bind fun v h2 => match keyD k with
    | some k => (mPairs r σ h2).bind fun ps h3 => .ok ((k, v) :: ps) h3
    | none => .bad
def mergeD (kvs more : List (Key × D)) : List (Key × D) := more.foldl (fun acc kv => setK acc kv.1 kv.2) kvs
def mDict0 : FE := fun _ h => .ok (.ref h.length) (h ++ [.dK []])
/-- the new dict is numbered when it is done -/
def mDict (prs : List (FE × FE)) : FE := fun σ h => (mPairs prs σ h).bind fun ps h1 => if ps.length ≤ 15 then .ok (.ref h1.length) (h1 ++ [.dK (mergeD [] ps)]) else .bad
section
variable {X : Cx} {W : WX} {pos : Pos}
theorem g_dict0 : GE X W (.Dict [] [] pos) mDict0 := pe_mono pe_dnewK fun σ H Q ⟨ρ, σh, h, r, s, p⟩ => post_dK r Paired.nil p
theorem KDs.merge {K : PySem.W.Frag} {ρ : List Addr} {H : Hp} {ms : List (Key × D)} {ns : List (Key × V)} (q : KDs Key K ρ H ms ns) : ∀ {ks : List (Key × D)} {vs : List (Key × V)}, KDs Key K ρ H ks vs → KDs Key K ρ H (mergeD ks ms) (mergeK vs ns) := by
  unfold KDs at q
  induction q with
  | nil => intro ks vs z; exact z
  | @cons p q ps qs z _ ih =>
    intro ks vs w
    show KDs Key K ρ H (mergeD (setK ks p.1 p.2) ps) (mergeK (putK vs q.1 q.2) qs)
    rw [← z.1]
    exact ih (KDs.put w p.1 z.2)
/-- the pairs, beside a new dict at a that is not numbered yet -/
def PP (K : PySem.W.Frag) (ρ0 : List Addr) (H0 : Hp) (a : Addr) (W : XK) (Q : List (V × V) → Hp → Prop) : R (List (Key × D)) → Prop
  | .bad => False
  | .ok ps h2 => ∀ ρ' H' vs, Rep K ρ' h2 H' → KDs Key K ρ' H' ps vs → H' a = some (.dK []) → a ∉ ρ' → Ext ρ0 H0 ρ' H' → Q (vs.map fun (kv : Key × V) => (kV kv.1, kv.2)) H'
  | .ex x h2 => ∀ ρ' dx H', Ext ρ0 H0 ρ' H' → Rep K ρ' h2 H' → XRep K ρ' H' x dx → W (.ref x.cls) dx H'
theorem pairs_ok {K : PySem.W.Frag} {a : Addr} {σ : L2.St} {σh : Sl} : ∀ (prs : List (FE × FE)) (ρ : List Addr) (h : HS) (H : Hp) (Q : List (V × V) → Hp → Prop), Rep K ρ h H → RepS K ρ H σh σ → H a = some (.dK []) → a ∉ ρ →
    PP K ρ H a (fun c d H' => W c d σ H') Q (mPairs prs σh h) → tPairs (prs.map fun p => (lE K W p.1, lE K W p.2)) σ H Q
  | [], ρ, h, H, Q, r, s, ha, hn, p => p ρ H [] r .nil ha hn .refl
  | (mk, mv) :: prs, ρ, h, H, Q, r, s, ha, hn, p => by
    have off : ∀ {ρ1 : List Addr} {H1 : Hp} {ρ : List Addr} {H : Hp}, H a = some (.dK []) → a ∉ ρ → Ext ρ H ρ1 H1 → H1 a = some (.dK []) ∧ a ∉ ρ1 := fun {ρ1 H1 ρ H} ha hn e => by
      refine ⟨e.keep a _ ha hn, fun z => ?_⟩
      obtain ⟨x, rfl, hx⟩ := e.pre
      rcases List.mem_append.mp z with z | z
      · exact hn z
      · rw [hx a z] at ha; cases ha
    have p : PP K ρ H a (fun c d H' => W c d σ H') Q ((mk σh h).bind fun k h1 => (mv σh h1).bind fun v h2 => match keyD k with
      | some k => (mPairs prs σh h2).bind fun ps h3 => .ok ((k, v) :: ps) h3
      | none => .bad) := p
    refine ⟨ρ, σh, h, r, s, ?_⟩
    show Post K ρ H (DV K) _ _ (mk σh h)
    cases g1 : mk σh h with
    | bad => rw [g1] at p; exact p
    | ex x h1 => rw [g1] at p; exact fun ρ' dx H' e r' z => p ρ' dx H' e r' z
    | ok k h1 =>
      rw [g1] at p
      intro ρ1 kv H1 e1 r1 z1
      obtain ⟨ha1, hn1⟩ := off ha hn e1
      refine ⟨ρ1, σh, h1, r1, s.mono r e1, ?_⟩
      show Post K ρ1 H1 (DV K) _ _ (mv σh h1)
      simp only [R.bind] at p
      cases g2 : mv σh h1 with
      | bad => rw [g2] at p; exact p
      | ex x h2 => rw [g2] at p; exact fun ρ' dx H' e r' z => p ρ' dx H' (e1.trans e r'.nd) r' z
      | ok v h2 =>
        rw [g2] at p
        intro ρ2 vv H2 e2 r2 z2
        obtain ⟨ha2, hn2⟩ := off ha1 hn1 e2
        have e02 := e1.trans e2 r2.nd
        simp only at p
        cases ek : keyD k with
        | none => rw [ek] at p; exact p.elim
        | some kk =>
          rw [ek] at p
          simp only at p
          have s2 := (s.mono r e1).mono r1 e2
          refine pairs_ok prs ρ2 h2 H2 _ r2 s2 ha2 hn2 ?_
          cases g3 : mPairs prs σh h2 with
          | bad => rw [g3] at p; exact p
          | ex x h3 => rw [g3] at p; exact fun ρ' dx H' e r' z => p ρ' dx H' (e02.trans e r'.nd) r' z
          | ok ps h3 =>
            rw [g3] at p
            intro ρ3 H3 vs r3 zv ha3 hn3 e23
            have zk := keyD_rel z1 ek
            subst zk
            exact p ρ3 H3 ((kk, vv) :: vs) r3 (.cons ⟨rfl, z2.mono r2 e23⟩ zv) ha3 hn3 (e02.trans e23 r3.nd)
/-- a thing that stands beside is numbered -/
theorem Rep.adopt {K : PySem.W.Frag} {ρ : List Addr} {h : HS} {H : Hp} {a : Addr} {o : HO} {m : MO} (r : Rep K ρ h H) (nD : a ∉ ρ) (kp : Kp ρ H (ρ ++ [a]) (upd H a o)) (q : RepO K (ρ ++ [a]) (upd H a o) a m) : Rep K (ρ ++ [a]) (h ++ [m]) (upd H a o) := by
  have hix : (ρ ++ [a])[h.length]? = some a := by rw [← r.len]; simp
  refine ⟨by simp [r.len], List.nodup_append.mpr ⟨r.nd, by simp, fun b hb c hc => by rw [List.mem_singleton.mp hc]; rintro rfl; exact nD hb⟩, fun j u b ea eb => ?_⟩
  by_cases hj : j < h.length
  · rw [List.getElem?_append_left hj] at ea
    rw [List.getElem?_append_left (by rw [r.len]; exact hj)] at eb
    exact (r.obj j u b ea eb).kp kp (upd_ne fun z => nD (by rw [← z]; exact List.mem_of_getElem? eb))
  · have hl : j < (h ++ [m]).length := (List.getElem?_eq_some_iff.mp ea).1
    have ej : j = h.length := by rw [List.length_append] at hl; simp at hl; omega
    subst ej
    rw [List.getElem?_append_right (Nat.le_refl _), Nat.sub_self] at ea
    rw [hix] at eb
    cases eb
    simp at ea
    subst ea
    exact q
theorem g_dict {keys : List (Option Expr)} {values : List Expr} {prs : List (FE × FE)} (h : PPs X pos keys values (prs.map fun p => (lE X.K W p.1, lE X.K W p.2))) (hall : keys.all (·.isSome) = true := by rfl) (hl : keys.length = values.length := by rfl) (h0 : keys ≠ [] := by simp)
    (h15 : keys.length ≤ 15 := by decide) : GE X W (.Dict keys values pos) (mDict prs) :=
  pe_mono (pe_disp h hall hl h0 h15) fun σ H Q ⟨ρ, σh, hh, r, s, p⟩ => fun a ha => by
    have r' := r.laid (o := .dK []) ha
    have na : a ∉ ρ := fun z => by
      obtain ⟨_, _, _, _, w⟩ := r.mem z
      obtain ⟨u, eu, _⟩ := w.some
      rw [ha] at eu; cases eu
    have p : Post X.K ρ H (DV X.K) (fun c d H' => W c d σ H') Q ((mPairs prs σh hh).bind fun ps h1 => if ps.length ≤ 15 then .ok (.ref h1.length) (h1 ++ [.dK (mergeD [] ps)]) else .bad) := p
    have e0 : Ext ρ H ρ (upd H a (.dK [])) := .laid ha
    refine pairs_ok prs ρ hh _ _ r' (s.mono r e0) upd_same na ?_
    cases g1 : mPairs prs σh hh with
    | bad => rw [g1] at p; exact p
    | ex x h1 => rw [g1] at p; exact fun ρ' dx H' e r' z => p ρ' dx H' (e0.trans e r'.nd) r' z
    | ok ps h1 =>
      rw [g1] at p
      simp only [R.bind] at p
      intro ρ1 H1 vs r1 zv ha1 hn1 e01
      by_cases c : ps.length ≤ 15
      · rw [if_pos c] at p
        have e01 := e0.trans e01 r1.nd
        have kp : Kp ρ1 H1 (ρ1 ++ [a]) (upd H1 a (.dK (mergeK [] vs))) := by
          have k1 : Kp ρ1 H1 ρ1 (upd H1 a (.dK (mergeK [] vs))) := .upd1 ha1 (fun _ z => by cases z) (fun _ _ z => by cases z) (fun _ _ z => by cases z)
          exact ⟨fun j b q => by rw [List.getElem?_append_left (List.getElem?_eq_some_iff.mp q).1]; exact q, k1.tup, k1.frt, k1.frl⟩
        refine ⟨ha1, vs, rfl, by rw [← zv.length]; exact c, p (ρ1 ++ [a]) _ _ ⟨?_, fun b o hb hn => ?_, fun b o u hb => ?_⟩ (r1.adopt hn1 kp ⟨_, upd_same, (KDs.merge zv Paired.nil).kp kp⟩) (.ref (by rw [← r1.len]; simp))⟩
        · obtain ⟨x, rfl, hx⟩ := e01.pre
          refine ⟨x ++ [a], by rw [List.append_assoc], fun b hb => ?_⟩
          rcases List.mem_append.mp hb with z | z
          · exact hx b z
          · rw [List.mem_singleton.mp z]; exact ha
        · rw [upd_ne (ne_of_none hb ha)]; exact e01.keep b o hb hn
        · rw [upd_ne (ne_of_none hb ha)]; exact e01.frz b o u hb
      · rw [if_neg c] at p; exact p.elim
theorem gp_nil : PPs X pos [] [] (([] : List (FE × FE)).map fun p => (lE X.K W p.1, lE X.K W p.2)) := pps_nil
theorem gp_cons {k v : Expr} {ks : List (Option Expr)} {vs : List Expr} {mk mv : FE} {prs : List (FE × FE)} (hk : GE X W k mk) (hv : GE X W v mv) (hr : PPs X pos ks vs (prs.map fun p => (lE X.K W p.1, lE X.K W p.2))) :
    PPs X pos (some k :: ks) (v :: vs) (((mk, mv) :: prs).map fun p => (lE X.K W p.1, lE X.K W p.2)) := pps_cons hk hv hr
end
end FL

set_option Elab.async false
set_option linter.all false
set_option maxRecDepth 100000
/-! FL, part g: defs, methods, classes of one's own; the law's end. -/
namespace FL
open PySem PySem.Spec PyProof.Rows L2

def spF (K : PySem.W.Frag) (n : Nat) (g : List D → HS → R D) : Sp := fun vs H Q E => ∃ ρ h ds, Rep K ρ h H ∧ DVs K ρ H ds vs ∧ vs.length = n ∧ Post K ρ H (DV K) E Q (g ds h)
/-- a def by its name, as a function of data -/
structure FD (P : Program) (w : World) (K : PySem.W.Frag) (mg : Str → Option Value) (base : Heap) (k : Nat) (x : Str) (n : Nat) (g : List D → HS → R D) : Prop where
  ex : ∃ (f : Addr) (fd : FuncData) (ps : List Str), FnOk P w K mg base (L2.CX P w) k f fd ps (spF K n g) ∧ mg x = some (.ref f) ∧ PySem.W.keepIn K (.ref f) = true ∧ Binds K fd ps []
/-- a method -/
structure MD (P : Program) (w : World) (K : PySem.W.Frag) (mg : Str → Option Value) (base : Heap) (k : Nat) (C : Addr) (m : Str) (n : Nat) (g : List D → HS → R D) : Prop where
  cls : Cls K C
  ex : ∃ (f : Addr) (fd : FuncData) (ps : List Str), FnOk P w K mg base (L2.CX P w) k f fd ps (spF K n g) ∧ Meth K C m f ∧ Binds K fd ps []
/-- a class that is made by its __init__ -/
structure CD (P : Program) (w : World) (K : PySem.W.Frag) (mg : Str → Option Value) (base : Heap) (k : Nat) (x : Str) (C : Addr) (n : Nat) (g : List D → HS → R D) : Prop where
  at_ : mg x = some (.ref C)
  ex : ∃ (f : Addr) (fd : FuncData) (ps : List Str), FnOk P w K mg base (L2.CX P w) k f fd ps (spF K n g) ∧ Mk K C f ∧ Binds K fd ps []
section
variable {X : Cx} {W : WX} {pos p apos : Pos} {x m : Str} {e o : Expr} {es : List Expr} {mo : FE} {ma : FA} {g : List D → HS → R D} {j k n : Nat} {C : Addr}
theorem call_ok {σ : L2.St} {H : Hp} {Q : VK} (hn : ∀ ds h, ∀ b, g ds h = b → True) {ρ : List Addr} {h : HS} {ds : List D} {vs : List V} (r : Rep X.K ρ h H) (z : DVs X.K ρ H ds vs) (hl : vs.length = n) (p : Post X.K ρ H (DV X.K) (fun c d H' => W c d σ H') Q (g ds h)) :
    spF X.K n g vs H Q (WE W σ) := ⟨ρ, h, ds, r, z, hl, p⟩
/-- a call with as many arguments as the def has parameters -/
def mCallF (n : Nat) (g : List D → HS → R D) (ma : FA) : FE := fun σ h => (ma σ h).bind fun ds h1 => if ds.length = n then g ds h1 else .bad
theorem lCallF {K : PySem.W.Frag} (σ : L2.St) (H : Hp) (Q : VK) (q : lE K W (mCallF n g ma) σ H Q) : tCallS (spF K n g) (WE W) (lA K W ma) σ H Q := by
  obtain ⟨ρ, σh, h, rr, s, p⟩ := q
  refine ⟨ρ, σh, h, rr, s, Post.of_bind p fun ds h1 ρ1 vs H1 e1 r1 z1 p1 => ?_⟩
  by_cases c : ds.length = n
  · rw [if_pos c] at p1; exact ⟨ρ1, h1, ds, r1, z1, by rw [← z1.length]; exact c, p1⟩
  · rw [if_neg c] at p1; exact p1.elim
theorem g_call (F : FD X.prog X.w X.K X.mg X.base k x n g) (c : CK X W j) (hk : k ≤ j) (ha : GA X W (e :: es) ma) (hg : Gl X x := by rfl) (hdb : (x == ("__debug__" : Str)) = false := by decide)
    (he : starEach (e :: es) X.env = (false, eval e X.env) :: starEach es X.env := by rfl) (hpl : (backTo pos (starEach es X.env)).any (·.1) = false := by rfl) : GE X W (.Call (.Name x p) (e :: es) [] pos) (mCallF n g ma) := by
  obtain ⟨f, fd, ps, F, hm, hk2, hb⟩ := F.ex
  exact pe_mono (pe_callS F (c.hr.mono hk) hg hm hk2 hb (fun σ => passAt c.tk σ) ha hdb he hpl) lCallF
theorem g_call0 (F : FD X.prog X.w X.K X.mg X.base k x n g) (c : CK X W j) (hk : k ≤ j) (hg : Gl X x := by rfl) (hdb : (x == ("__debug__" : Str)) = false := by decide) : GE X W (.Call (.Name x p) [] [] pos) (mCallF n g mNil) := by
  obtain ⟨f, fd, ps, F, hm, hk2, hb⟩ := F.ex
  refine pe_mono (t := tCallS (spF X.K n g) (WE W) tNil) ⟨fun pins s σ H Q I h => ?_⟩ fun σ H Q q => ?_
  · refine wpAny_Call_Name_kw (ld_glob I hg hm ?_ hdb)
    exact PySem.W.callWith_K0 I.kIn hk2 (run_fnS (us := []) (vs := []) (E := WE W) F (c.hr.mono hk) hb (passAt c.tk σ) I .nil h)
  · obtain ⟨ρ, σh, h, rr, s, p⟩ := q
    show spF X.K n g [] H Q (WE W σ)
    simp only [mCallF, mNil, R.bind] at p
    by_cases c : ([] : List D).length = n
    · rw [if_pos c] at p; exact ⟨ρ, h, [], rr, .nil, c, p⟩
    · rw [if_neg c] at p; exact p.elim
def tMethS (C : Addr) (m : Str) (sp : Sp) (E : L2.St → XK) (ta : TE) (t : TA) : TE := fun σ H Q => ta σ H fun x H1 => ∃ a dx fs, x = .ref a ∧ H1 a = some (.ins C dx fs) ∧ fs.lookup m = none ∧
  t σ H1 fun vs H2 => sp (x :: vs) H2 Q (E σ)
def mMeth (C : Addr) (m : Str) (n : Nat) (g : List D → HS → R D) (mo : FE) (ma : FA) : FE := fun σ h => (mo σ h).bind fun d h1 => match insD [C] h1 d with
  | some (_, _, fs) => if (fs.lookup m).isNone = true then (ma σ h1).bind fun ds h2 => if ds.length + 1 = n then g (d :: ds) h2 else .bad else .bad
  | none => .bad
theorem lMeth {K : PySem.W.Frag} (σ : L2.St) (H : Hp) (Q : VK) (q : lE K W (mMeth C m n g mo ma) σ H Q) : tMethS C m (spF K n g) (WE W) (lE K W mo) (lA K W ma) σ H Q := by
  obtain ⟨ρ, σh, h, rr, s, p⟩ := q
  refine ⟨ρ, σh, h, rr, s, Post.of_bind p fun d h1 ρ1 v H1 e1 r1 z1 p1 => ?_⟩
  cases q : insD [C] h1 d with
  | none => rw [q] at p1; exact p1.elim
  | some t =>
    obtain ⟨i, C', fs⟩ := t
    rw [q] at p1
    simp only at p1
    obtain ⟨ad, dx, vs, rfl, rfl, _, _, hc, hv, zs⟩ := insD_ok r1 z1 q
    have ec : C' = C := by simpa using hc
    subst ec
    by_cases hl : (fs.lookup m).isNone = true
    · rw [if_pos hl] at p1
      refine ⟨ad, dx, vs, rfl, hv, (FDs.look zs m).2 (Option.isNone_iff_eq_none.mp hl), ρ1, σh, h1, r1, s.mono rr e1, Post.of_bind p1 fun ds h2 ρ2 vs2 H2 e2 r2 z2 p2 => ?_⟩
      by_cases c : ds.length + 1 = n
      · rw [if_pos c] at p2; exact ⟨ρ2, h2, _, r2, .cons (z1.mono r1 e2) z2, by rw [List.length_cons, ← z2.length]; exact c, p2⟩
      · rw [if_neg c] at p2; exact p2.elim
    · rw [if_neg hl] at p1; exact p1.elim
theorem g_meth {pl : Sem Bool} (F : MD X.prog X.w X.K X.mg X.base k C m n g) (c : CK X W j) (hk : k ≤ j) (ho : GE X W o mo) (ha : GA X W (e :: es) ma)
    (hst : starEach (e :: es) X.env = (false, eval e X.env) :: starEach es X.env := by rfl) (hpl : (backTo pos (starEach es X.env)).any (·.1) = false := by rfl)
    (ht : eval (.Call (.Attribute o m apos) (e :: es) [] pos) X.env = (do
      let ov ← eval o X.env
      standAt apos.atName
      let (f, first) ← holding [ov] (getMethod ov m pl)
      callWith pos f first (backTo pos (starEach (e :: es) X.env)) (backToKw pos (keywordEach [] X.env))) := by rfl) : GE X W (.Call (.Attribute o m apos) (e :: es) [] pos) (mMeth C m n g mo ma) := by
  obtain ⟨f, fd, ps, Fn, hm, hb⟩ := F.ex
  refine pe_mono (t := tMethS C m (spF X.K n g) (WE W) (lE X.K W mo) (lA X.K W ma)) ⟨fun pins s σ H Q I h => ?_⟩ lMeth
  refine PySem.W.methodCall_KW (pl := pl) (thn (PE.run ho pins s σ H _ I h) fun u s1 ⟨x, H1, I1, rx, a, dx, fs, ex, ea, l, q⟩ => ?_) ht
  subst ex
  obtain rfl : u = Value.ref a := rx
  refine getmeth_ok I1 ea F.cls hm l ?_
  refine PySem.W.callWith_K (first := [.ref a]) (h₀ := X.base) I.ok.mod.kin hm.kp (thn (PA.run ha pos pins s1 σ H1 _ I1 q) fun us s2 ⟨vs, H2, I2, r, q2⟩ => ⟨I2.kIn, ?_⟩) hst hpl
  exact run_fnS (us := .ref a :: us) (vs := .ref a :: vs) (E := WE W) Fn (c.hr.mono hk) hb (passAt c.tk σ) I2 (.cons rfl r) q2
theorem g_meth0 {pl : Sem Bool} (F : MD X.prog X.w X.K X.mg X.base k C m n g) (c : CK X W j) (hk : k ≤ j) (ho : GE X W o mo)
    (ht : eval (.Call (.Attribute o m apos) [] [] pos) X.env = (do
      let ov ← eval o X.env
      standAt apos.atName
      let (f, first) ← holding [ov] (getMethod ov m pl)
      callWith pos f first (backTo pos (starEach [] X.env)) (backToKw pos (keywordEach [] X.env))) := by rfl) : GE X W (.Call (.Attribute o m apos) [] [] pos) (mMeth C m n g mo mNil) := by
  obtain ⟨f, fd, ps, Fn, hm, hb⟩ := F.ex
  refine pe_mono (t := tMethS C m (spF X.K n g) (WE W) (lE X.K W mo) (lA X.K W mNil)) ⟨fun pins s σ H Q I h => ?_⟩ lMeth
  refine PySem.W.methodCall_KW (pl := pl) (thn (PE.run ho pins s σ H _ I h) fun u s1 ⟨x, H1, I1, rx, a, dx, fs, ex, ea, l, q⟩ => ?_) ht
  subst ex
  obtain rfl : u = Value.ref a := rx
  refine getmeth_ok I1 ea F.cls hm l ?_
  have q : spF X.K n g [.ref a] H1 Q (WE W σ) := by
    obtain ⟨ρ, σh, h, rr, s, p⟩ := q
    exact p.use rr .nil
  exact PySem.W.callWith_K0 (first := [.ref a]) I1.kIn hm.kp (run_fnS (us := [.ref a]) (vs := [.ref a]) (E := WE W) Fn (c.hr.mono hk) hb (passAt c.tk σ) I1 (.cons rfl .nil) q)
/-- C(..) -/
def mMake (C : Addr) (n : Nat) (g : List D → HS → R D) (ma : FA) : FE := fun σ h => (ma σ h).bind fun ds h1 => if ds.length + 1 = n then (g (.ref h1.length :: ds) (h1 ++ [.ins C []])).bind fun v h2 => match v with
  | .non => .ok (.ref h1.length) h2
  | _ => .bad
  else .bad
theorem make_ok {K : PySem.W.Frag} {ρ : List Addr} {h : HS} {H : Hp} {ds : List D} {vs : List V} {W : XK} {Q : VK} (r : Rep K ρ h H) (z : DVs K ρ H ds vs) (hl : ds.length + 1 = n)
    (p : Post K ρ H (DV K) W Q ((g (.ref h.length :: ds) (h ++ [.ins C []])).bind fun v h2 => match v with
      | .non => .ok (.ref h.length) h2
      | _ => .bad)) : ∀ x dx, H x = none → H dx = none → dx ≠ x → spF K n g (.ref x :: vs) (upd (upd H dx (.own x)) x (.ins C dx [])) (fun v H2 => v = .non ∧ Q (.ref x) H2) W := by
  intro x dx hx hdx hne
  have e1 : Ext ρ H ρ (upd H dx (.own x)) := .laid hdx
  have r1 := r.laid (o := .own x) hdx
  have hx1 : (upd H dx (.own x)) x = none := by rw [upd_ne (Ne.symm hne)]; exact hx
  have e2 : Ext ρ (upd H dx (.own x)) (ρ ++ [x]) (upd (upd H dx (.own x)) x (.ins C dx [])) := .push hx1
  have r2 := r1.push (m := .ins C []) hx1 (o := .ins C dx []) ⟨dx, [], upd_same, .nil⟩
  have e12 := e1.trans e2 r2.nd
  refine ⟨ρ ++ [x], h ++ [.ins C []], .ref h.length :: ds, r2, .cons (.ref (by rw [← r.len]; simp)) (z.mono r e12), by rw [List.length_cons, ← z.length]; exact hl, ?_⟩
  refine Post.of_bind (Post.ext e12 p) fun v h2 ρ2 u H2 e3 r3 zv p3 => ?_
  cases zv <;> first | exact p3.elim | skip
  exact ⟨rfl, p3.use r3 (.ref (e3.ix (by rw [← r.len]; simp)))⟩
def tMakeS (C : Addr) (sp : Sp) (E : L2.St → XK) (t : TA) : TE := fun σ H Q => t σ H fun vs H1 => ∀ x dx, H1 x = none → H1 dx = none → dx ≠ x →
  sp (.ref x :: vs) (upd (upd H1 dx (.own x)) x (.ins C dx [])) (fun v H2 => v = .non ∧ Q (.ref x) H2) (E σ)
theorem lMake {K : PySem.W.Frag} (σ : L2.St) (H : Hp) (Q : VK) (q : lE K W (mMake C n g ma) σ H Q) : tMakeS C (spF K n g) (WE W) (lA K W ma) σ H Q := by
  obtain ⟨ρ, σh, h, rr, s, p⟩ := q
  refine ⟨ρ, σh, h, rr, s, Post.of_bind p fun ds h1 ρ1 vs H1 e1 r1 z1 p1 => ?_⟩
  by_cases c : ds.length + 1 = n
  · rw [if_pos c] at p1; exact make_ok r1 z1 c p1
  · rw [if_neg c] at p1; exact p1.elim
theorem run_makeS {CX : CXT} {f : Addr} {fd : FuncData} {ps : List Str} {sp : Sp} {E : XK} {pins : List (Addr × Obj)} {σ : L2.St} {H : Hp} {s : Shared} {Q : VK} {us : List Value} {vs : List V} (M : Mk X.K C f) (F : FnOk X.prog X.w X.K X.mg X.base CX k f fd ps sp) (hr : Room (k + 1) X.A) (hb : Binds X.K fd ps [])
    (hx : PassesAt CX X σ E) (I : Inv X pins σ H s) (r : Vals vs us)
    (h : ∀ x dx, H x = none → H dx = none → dx ≠ x → sp (.ref x :: vs) (upd (upd H dx (.own x)) x (.ins C dx [])) (fun v H2 => v = .non ∧ Q (.ref x) H2) E) :
    wpAny (model X.prog X.w) X.A (call (.ref C) us) (EP X pins σ Q) X.xe s := by
  have hq := h (s.heap.objs.size + 1) s.heap.objs.size (I.hok.fresh (Nat.le_succ _)) (I.hok.fresh (Nat.le_refl _)) (Nat.ne_of_lt (Nat.lt_succ_self _))
  have I2 := Inv.made (C := C) I
  have r2 : Vals (V.ref (s.heap.objs.size + 1) :: vs) (Value.ref (s.heap.objs.size + 1) :: us) := .cons rfl r
  have hl : (Value.ref (s.heap.objs.size + 1) :: us).length = ps.length := by
    have e := r2.length
    rw [F.len _ _ _ _ hq] at e
    exact e.symm
  have b := hb _ (Value.ref (s.heap.objs.size + 1) :: us) I2.kIn (by rw [List.append_nil]; exact hl)
  rw [List.append_nil] at b
  refine wpAny_call (make_map (f := f) I.kIn M.makes M.init (beq_iff_eq.mp M.fn) (codeAny_mono (F.run _ X.stack _ _ ⟨Value.ref (s.heap.objs.size + 1) :: us, []⟩ (Value.ref (s.heap.objs.size + 1) :: us) _ _ E (hr.make C us [])
    (I2.env0.make C us []) b r2 hq) fun r s' hq' => ?_))
  cases r with
  | error e => exact hx pins _ _ e s' I2 hq'
  | ok fl =>
    cases fl with
    | ret u =>
      obtain ⟨v, H', I3, rv, ev, q3⟩ := I2.after hq'
      subst ev
      exact ⟨rv, ⟨V.ref (s.heap.objs.size + 1), H', I3, rfl, q3⟩⟩
    | next => exact False.elim hq'
    | brk => exact False.elim hq'
    | cont => exact False.elim hq'
theorem g_make (F : CD X.prog X.w X.K X.mg X.base k x C n g) (c : CK X W j) (hk : k + 1 ≤ j) (ha : GA X W (e :: es) ma) (hg : Gl X x := by rfl) (hdb : (x == ("__debug__" : Str)) = false := by decide)
    (he : starEach (e :: es) X.env = (false, eval e X.env) :: starEach es X.env := by rfl) (hpl : (backTo pos (starEach es X.env)).any (·.1) = false := by rfl) : GE X W (.Call (.Name x p) (e :: es) [] pos) (mMake C n g ma) := by
  obtain ⟨f, fd, ps, Fn, M, hb⟩ := F.ex
  refine pe_mono (t := tMakeS C (spF X.K n g) (WE W) (lA X.K W ma)) ⟨fun pins s σ H Q I h => ?_⟩ lMake
  refine wpAny_Call_Name_kw (ld_glob I hg F.at_ ?_ hdb)
  refine PySem.W.callWith_K (h₀ := X.base) I.ok.mod.kin M.kp (thn (PA.run ha pos pins s σ H _ I h) fun us s1 ⟨vs, H1, I1, r, q⟩ => ⟨I1.kIn, ?_⟩) he hpl
  exact run_makeS M Fn (c.hr.mono hk) hb (passAt c.tk σ) I1 r q
theorem g_make0 (F : CD X.prog X.w X.K X.mg X.base k x C n g) (c : CK X W j) (hk : k + 1 ≤ j) (hg : Gl X x := by rfl) (hdb : (x == ("__debug__" : Str)) = false := by decide) : GE X W (.Call (.Name x p) [] [] pos) (mMake C n g mNil) := by
  obtain ⟨f, fd, ps, Fn, M, hb⟩ := F.ex
  refine pe_mono (t := tMakeS C (spF X.K n g) (WE W) (lA X.K W mNil)) ⟨fun pins s σ H Q I h => ?_⟩ lMake
  refine wpAny_Call_Name_kw (ld_glob I hg F.at_ ?_ hdb)
  obtain ⟨ρ, σh, hh, rr, s', p⟩ := h
  exact PySem.W.callWith_K0 I.kIn M.kp (run_makeS (us := []) (vs := []) M Fn (c.hr.mono hk) hb (passAt c.tk σ) I .nil (p.use rr .nil))
end

/-! ### a def's own rule -/
def runB (N : Nat) (m : FS) : List D → HS → R D := fun ds h => match m (ds.map some ++ List.replicate (N - ds.length) none) h with
  | .nx _ h' => .ok .non h'
  | .rt d h' => .ok d h'
  | .ex x _ h' => .ex x h'
  | _ => .bad
section
variable {P : Program} {w : World} {K : PySem.W.Frag} {mg : Str → Option Value} {base : Heap}
abbrev WD (E : XK) : WX := fun c d _ H => E c d H
theorem start_rep {ρ : List Addr} {H : Hp} {N : List Str} {ds : List D} {vs : List V} (z : DVs K ρ H ds vs) : RepS K ρ H (ds.map some ++ List.replicate (N.length - ds.length) none) (L2.start N vs) := by
  refine ⟨by unfold L2.start; rw [List.length_append, List.length_append, List.length_map, List.length_map, List.length_replicate, List.length_replicate, z.length], fun i d hd => ?_⟩
  by_cases hi : i < ds.length
  · rw [List.getElem?_append_left (by simpa using hi), List.getElem?_map] at hd
    obtain ⟨d', e1, e2⟩ := Option.map_eq_some_iff.mp hd
    cases e2
    obtain ⟨v, ev, zv⟩ := z.get e1
    refine ⟨v, ?_, zv⟩
    unfold L2.start
    rw [List.getElem?_append_left (by rw [List.length_map, ← z.length]; exact hi), List.getElem?_map, ev]
    rfl
  · rw [List.getElem?_append_right (by simpa using hi), List.getElem?_replicate] at hd
    split at hd <;> cases hd
theorem fn_ok {x qual : Str} {st : Stmt} {f : Addr} {fd : FuncData} {N ps : List Str} {k : Nat} {m : FS} (F : Fun K x qual st f fd) (S : FnScope N ps (defScope st))
    (hbody : ∀ (cdv : Value) (A : Around) (outer : List Env) (s : Shared) (H : Hp) (E : XK), CK (cxOf (L2.CX P w) P w K mg base N qual (defScope st) f cdv A outer s H E) (WD E) k →
      GSs (cxOf (L2.CX P w) P w K mg base N qual (defScope st) f cdv A outer s H E) (WD E) (defBody st) m) : FnOk P w K mg base (L2.CX P w) (k + 1) f fd ps (spF K ps.length (runB N.length m)) := by
  refine F.okX S (fun vs H Q E h => ?_) (fun cdv A outer s H vs Q E hr h => ?_)
  · obtain ⟨_, _, _, _, _, hl, _⟩ := h; exact hl
  · obtain ⟨ρ, hh, ds, r, z, hl, p⟩ := h
    have C : CK (cxOf (L2.CX P w) P w K mg base N qual (defScope st) f cdv A outer s H E) (WD E) k := ⟨rfl, S.nd, takes_of rfl rfl rfl rfl, passes_of rfl, hr⟩
    refine ⟨_, hbody cdv A outer s H E C, ρ, _, hh, r, start_rep z, ?_⟩
    show PostS K ρ H (WD E) _ (m (ds.map some ++ List.replicate (N.length - ds.length) none) hh)
    unfold runB at p
    cases q : m (ds.map some ++ List.replicate (N.length - ds.length) none) hh with
    | bad => rw [q] at p; exact p
    | nx σ' h' => rw [q] at p; exact fun ρ' σ' H' e r' s' => p ρ' .non H' e r' .non
    | rt d h' => rw [q] at p; exact p
    | bk => rw [q] at p; exact p.elim
    | ct => rw [q] at p; exact p.elim
    | ex x σ' h' => rw [q] at p; exact fun ρ' dx σ' H' e r' s' z' => p ρ' dx H' e r' z'
theorem fn_imp {k : Nat} {f : Addr} {fd : FuncData} {ps : List Str} {n : Nat} {g g' : List D → HS → R D} (F : FnOk P w K mg base (L2.CX P w) k f fd ps (spF K n g)) (h : ∀ ds hh, ds.length = n → g' ds hh ≠ .bad → g ds hh = g' ds hh) : FnOk P w K mg base (L2.CX P w) k f fd ps (spF K n g') :=
  F.imp fun vs H Q E ⟨ρ, hh, ds, r, z, hl, p⟩ => ⟨ρ, hh, ds, r, z, hl, by
    rw [h ds hh (by rw [z.length]; exact hl) (fun e => by rw [e] at p; exact p)]; exact p⟩
end

/-! ### the law's end -/
theorem law_hsp {K : PySem.W.Frag} {g : List D → HS → R D} {P : List Int → Prop} (hg : ∀ ns : List Int, P ns → ∃ h', g [.cst (ns.map D.int)] [] = .ok (.bl true) h') (H : Hp) (a : Addr) (ns : List Int) (hp : P ns) (hO : Only H) (hS : SqL K H a (ns.map V.int)) :
    spF K 1 g [.ref a] H (fun v _ => v = .bl true) fun _ _ _ => False := by
  obtain ⟨h', e⟩ := hg ns hp
  have c : CsL K H a (ns.map V.int) := by
    rcases hS with (h | ⟨o, h⟩) | h
    · rcases hO a with z | ⟨o, xs, z⟩
      · rw [h] at z; cases z
      · rw [h] at z; cases z
    · exact .inl ⟨o, h⟩
    · exact .inr h
  refine ⟨[], [], [.cst (ns.map D.int)], ⟨rfl, List.nodup_nil, fun i o a e => by simp at e⟩, .cons (.cst c (DVs.ints ns)) .nil, rfl, ?_⟩
  rw [e]
  intro ρ' v H' _ _ z
  cases z
  rfl
theorem law_CX {P : Program} {w : World} {H : Hp} {s : Shared} {e : Value} {s' : Shared} (h : L2.CX P w [] H s (fun _ _ _ => False) e s') : False := by
  obtain ⟨_, _, _, _, _, _, _, _, _, _, _, _, z⟩ := h
  exact z.elim
end FL

set_option Elab.async false
set_option linter.all false
set_option maxRecDepth 100000
/-! FL, part h: further operations. -/
namespace FL
open PySem PySem.Spec PyProof.Rows L2
/-! ### += -/
def dIAdd : D → D → HS → R D
  | .int i, .int j, h => .ok (.int (i + j)) h
  | .str i, .str j, h => if i.length + j.length ≤ sizeLine then .ok (.str (i ++ j)) h else .bad
  | .ref a, .ref b, h => match lstAt h a, lstAt h b with
    | some x, some y => if x.length + y.length ≤ sizeLine then .ok (.ref a) (h.set a (.lst (x ++ y))) else .bad
    | _, _ => .bad
  | _, _, _ => .bad
def rIAdd : R2 := fun x y H Q => rAddI x y H Q ∨ (rAddS x y H Q ∨ rExt2 x y H Q)
theorem o_iadd {X : Cx} : OpR X (inplaceOp .Add) rIAdd := OpR.or iop_add (OpR.or iop_add_str iop_ext)
theorem s_iadd {K : PySem.W.Frag} : OpS K dIAdd rIAdd := by
  intro ρ h H d1 d2 x y W Q r z1 z2 p
  cases z1 <;> cases z2 <;> first | exact p.elim | skip
  · exact .inl ⟨_, _, rfl, rfl, p.use r (.int _)⟩
  · rename_i i j
    by_cases c : i.length + j.length ≤ sizeLine
    · simp only [dIAdd, if_pos c] at p; exact .inr (.inl ⟨_, _, rfl, rfl, c, p.use r (.str _)⟩)
    · simp only [dIAdd, if_neg c] at p; exact p.elim
  · rename_i i a q1 j b q2
    unfold dIAdd at p
    simp only at p
    cases e : lstAt h i with
    | none => rw [e] at p; exact p.elim
    | some xs =>
      cases e2 : lstAt h j with
      | none => rw [e, e2] at p; exact p.elim
      | some ys =>
        rw [e, e2] at p
        simp only at p
        obtain ⟨us, hv, zu⟩ := lstAt_ok r q1 e
        obtain ⟨ws, hw, zw⟩ := lstAt_ok r q2 e2
        by_cases hl : xs.length + ys.length ≤ sizeLine
        · rw [if_pos hl] at p
          have ex := Ext.wrote (o := .lst (us ++ ws)) q1 hv
          exact .inr (.inr ⟨_, _, us, ws, rfl, rfl, hv, hw, by rw [← zu.length, ← zw.length]; exact hl, p ρ _ _ ex (r.wrote q1 hv rfl ⟨_, upd_same, (zu.append zw).mono r ex⟩) (.ref q1)⟩)
        · rw [if_neg hl] at p; exact p.elim
end FL

set_option Elab.async false
set_option linter.all false
set_option maxRecDepth 100000
/-! FL, part i: reading what a def does as a weakest condition. -/
namespace FL
open PySem PySem.Spec PyProof.Rows L2

abbrev XP := XV → HS → Prop
abbrev X0 : XP := fun _ _ => False
/-- it comes to a value that P wants, or raises as X wants -/
def wpR0 {α : Type} (m : R α) (P : α → HS → Prop) (X : XP) : Prop := match m with
  | .ok a h => P a h
  | .ex x h => X x h
  | .bad => False
/-- what is wanted behind a statement -/
structure Tl where
  rt : D → HS → Prop
  bk : Sl → HS → Prop
  ct : Sl → HS → Prop
  ex : XV → Sl → HS → Prop
def wpS0 (m : RS) (N : Sl → HS → Prop) (T : Tl) : Prop := match m with
  | .bad => False
  | .nx σ h => N σ h
  | .rt d h => T.rt d h
  | .bk σ h => T.bk σ h
  | .ct σ h => T.ct σ h
  | .ex x σ h => T.ex x σ h
/-- a return and an exception are wanted -/
abbrev Tl.ret (Q : D → HS → Prop) (X : XP) : Tl := ⟨Q, fun _ _ => False, fun _ _ => False, fun x _ h => X x h⟩
section
variable {α β : Type} {m : R α} {P P' : α → HS → Prop} {X X' : XP} {N N' : Sl → HS → Prop} {T : Tl} {σ : Sl} {h : HS}
theorem wqR_ok {a : α} : wpR0 (.ok a h) P X ↔ P a h := Iff.rfl
theorem wqR_bad : wpR0 (.bad : R α) P X ↔ False := Iff.rfl
theorem wqR_ex {x : XV} : wpR0 (.ex x h : R α) P X ↔ X x h := Iff.rfl
theorem wqR_mono (w : wpR0 m P X) (k : ∀ a h, P a h → P' a h) : wpR0 m P' X := by
  cases m with
  | ok a h => exact k _ _ w
  | bad => exact w
  | ex => exact w
theorem wqR_monoX (w : wpR0 m P X) (k : ∀ a h, P a h → P' a h) (kx : ∀ x h, X x h → X' x h) : wpR0 m P' X' := by
  cases m with
  | ok a h => exact k _ _ w
  | bad => exact w
  | ex => exact kx _ _ w
theorem wqR_elim (w : wpR0 m P X0) : ∃ a h, m = .ok a h ∧ P a h := by
  cases m with
  | ok a h => exact ⟨a, h, rfl, w⟩
  | bad => exact w.elim
  | ex => exact w.elim
theorem wqR_bind {f : α → HS → R β} {Q : β → HS → Prop} : wpR0 (m.bind f) Q X ↔ wpR0 m (fun a h => wpR0 (f a h) Q X) X := by
  cases m <;> exact Iff.rfl
theorem wqR_ite {c : Prop} [Decidable c] {a b : R α} : wpR0 (if c then a else b) P X ↔ if c then wpR0 a P X else wpR0 b P X := by split <;> exact Iff.rfl
theorem wqS_on {k : α → HS → RS} : wpS0 (m.on σ k) N T ↔ wpR0 m (fun a h => wpS0 (k a h) N T) (fun x h => T.ex x σ h) := by
  cases m <;> exact Iff.rfl
theorem wqS_nx : wpS0 (.nx σ h) N T ↔ N σ h := Iff.rfl
theorem wqS_rt {d : D} : wpS0 (.rt d h) N T ↔ T.rt d h := Iff.rfl
theorem wqS_ite {c : Prop} [Decidable c] {a b : RS} : wpS0 (if c then a else b) N T ↔ if c then wpS0 a N T else wpS0 b N T := by split <;> exact Iff.rfl
theorem wqS_mono {s : RS} (w : wpS0 s N T) (k : ∀ σ h, N σ h → N' σ h) : wpS0 s N' T := by
  cases s with
  | nx σ h => exact k _ _ w
  | _ => exact w

/-! ### statements -/
variable {u v : FS} {e ma mb : FE} {t tb : FT} {g : FG} {it : FI} {XE : XP}
theorem wq_skip : wpS0 (mSkip σ h) N T ↔ N σ h := Iff.rfl
theorem wq_seq : wpS0 (mSeq u v σ h) N T ↔ wpS0 (u σ h) (fun σ h => wpS0 (v σ h) N T) T := by
  unfold mSeq
  cases u σ h <;> exact Iff.rfl
theorem wq_drop : wpS0 (mDrop e σ h) N T ↔ wpR0 (e σ h) (fun _ h => N σ h) (fun x h => T.ex x σ h) := wqS_on
theorem wq_ret : wpS0 (mRet e σ h) N T ↔ wpR0 (e σ h) T.rt (fun x h => T.ex x σ h) := wqS_on
theorem wq_retN : wpS0 (mRetN σ h) N T ↔ T.rt .non h := Iff.rfl
theorem wq_brk : wpS0 (mBrk σ h) N T ↔ T.bk σ h := Iff.rfl
theorem wq_cnt : wpS0 (mCnt σ h) N T ↔ T.ct σ h := Iff.rfl
theorem wq_if : wpS0 (mIfS t u v σ h) N T ↔ wpR0 (t σ h) (fun c h => if c = true then wpS0 (u σ h) N T else wpS0 (v σ h) N T) (fun x h => T.ex x σ h) := by
  unfold mIfS
  rw [wqS_on]
  simp only [wqS_ite]
theorem wq_asg : wpS0 (mAsg e g σ h) N T ↔ wpR0 (e σ h) (fun d h => wpR0 (g d σ h) N (fun x h => T.ex x σ h)) (fun x h => T.ex x σ h) := by
  unfold mAsg
  rw [wqS_on]
  simp only [wqS_on]
  exact Iff.rfl
theorem wq_to {i : Nat} {d : D} {P : Sl → HS → Prop} : wpR0 (mTo i d σ h) P X ↔ P (σ.set i (some d)) h := Iff.rfl
theorem wq_tos {is : List Nat} {d : D} {P : Sl → HS → Prop} : wpR0 (mTos is d σ h) P X ↔ match d with
  | .tup ds => match setAll is ds σ with
    | some σ' => P σ' h
    | none => False
  | _ => False := by
  unfold mTos
  cases d <;> first | exact Iff.rfl | skip
  rename_i ds
  simp only
  cases setAll is ds σ <;> exact Iff.rfl
theorem wq_toIx {mo mi : FE} {d : D} {P : Sl → HS → Prop} : wpR0 (mToIx mo mi d σ h) P X ↔ wpR0 (mo σ h) (fun o h => wpR0 (mi σ h) (fun i h => match dSet o i d h with
  | some h => P σ h
  | none => False) X) X := by
  unfold mToIx
  rw [wqR_bind]
  simp only [wqR_bind]
  refine iff_of_eq (congrArg (fun f => wpR0 (mo σ h) f X) (funext fun o => funext fun h => congrArg (fun f => wpR0 (mi σ h) f X) (funext fun i => funext fun h => ?_)))
  cases dSet o i d h <;> rfl
theorem wq_aug {i : Nat} {f : D → D → HS → R D} : wpS0 (mAug i f e σ h) N T ↔ match σ[i]? with
  | some (some d) => wpR0 (e σ h) (fun y h => wpR0 (f d y h) (fun z h => N (σ.set i (some z)) h) (fun x h => T.ex x σ h)) (fun x h => T.ex x σ h)
  | _ => False := by
  unfold mAug
  rcases σ[i]? with _ | _ | d
  · exact Iff.rfl
  · exact Iff.rfl
  · simp only
    rw [wqS_on]
    simp only [wqS_on]
    exact Iff.rfl
theorem wq_augK {mo mi : FE} {f : D → D → HS → R D} : wpS0 (mAugK mo mi f e σ h) N T ↔ wpR0 (mo σ h) (fun o h => wpR0 (mi σ h) (fun i h => match dictD h o, keyD i with
  | some kvs, some k => match getK kvs k with
    | some d => wpR0 (e σ h) (fun y h => wpR0 (f d y h) (fun z h => match dSetK o i z h with
      | some h => N σ h
      | none => False) (fun x h => T.ex x σ h)) (fun x h => T.ex x σ h)
    | none => False
  | _, _ => False) (fun x h => T.ex x σ h)) (fun x h => T.ex x σ h) := by
  unfold mAugK
  rw [wqS_on]
  simp only [wqS_on]
  refine iff_of_eq (congrArg (fun f => wpR0 (mo σ h) f _) (funext fun o => funext fun h => congrArg (fun f => wpR0 (mi σ h) f _) (funext fun i => funext fun h => ?_)))
  cases dictD h o with
  | none => rfl
  | some kvs =>
    cases keyD i with
    | none => rfl
    | some k =>
      simp only
      cases getK kvs k with
      | none => rfl
      | some d =>
        simp only [wqS_on]
        refine congrArg (fun f => wpR0 (e σ h) f _) (funext fun y => funext fun h => congrArg (fun f => wpR0 _ f _) (funext fun z => funext fun h => ?_))
        cases dSetK o i z h <;> rfl
theorem wq_fldSet {Cs : List Addr} {f : Str} {mo : FE} : wpS0 (mFldSet Cs f mo e σ h) N T ↔ wpR0 (e σ h) (fun y h => wpR0 (mo σ h) (fun o h => match insD Cs h o with
  | some (i, C, fs) => if fs.length < 1000 then N σ (h.set i (.ins C (putA f y fs))) else False
  | none => False) (fun x h => T.ex x σ h)) (fun x h => T.ex x σ h) := by
  unfold mFldSet
  rw [wqS_on]
  simp only [wqS_on]
  refine iff_of_eq (congrArg (fun f => wpR0 (e σ h) f _) (funext fun y => funext fun h => congrArg (fun f => wpR0 (mo σ h) f _) (funext fun o => funext fun h => ?_)))
  cases insD Cs h o with
  | none => rfl
  | some t =>
    obtain ⟨i, C, fs⟩ := t
    simp only
    split <;> rfl
theorem wq_fldAug {Cs : List Addr} {f : Str} {mo : FE} {g : D → D → HS → R D} : wpS0 (mFldAug Cs f mo g e σ h) N T ↔ wpR0 (mo σ h) (fun o h => match insD Cs h o with
  | some (i, C, fs) => match fs.lookup f with
    | some d => wpR0 (e σ h) (fun y h => wpR0 (g d y h) (fun z h => match insD [C] h o with
      | some (_, _, fs') => if fs'.length < 1000 then N σ (h.set i (.ins C (putA f z fs'))) else False
      | none => False) (fun x h => T.ex x σ h)) (fun x h => T.ex x σ h)
    | none => False
  | none => False) (fun x h => T.ex x σ h) := by
  unfold mFldAug
  rw [wqS_on]
  refine iff_of_eq (congrArg (fun f => wpR0 (mo σ h) f _) (funext fun o => funext fun h => ?_))
  cases insD Cs h o with
  | none => rfl
  | some t =>
    obtain ⟨i, C, fs⟩ := t
    simp only
    cases fs.lookup f with
    | none => rfl
    | some d =>
      simp only [wqS_on]
      refine congrArg (fun f => wpR0 (e σ h) f _) (funext fun y => funext fun h => congrArg (fun f => wpR0 _ f _) (funext fun z => funext fun h => ?_))
      cases insD [C] h o with
      | none => rfl
      | some t =>
        obtain ⟨j, C', fs'⟩ := t
        simp only
        split <;> rfl

/-! ### expressions -/
theorem wq_var {i : Nat} {P : D → HS → Prop} : wpR0 (mVar i σ h) P X ↔ match σ[i]? with
  | some (some d) => P d h
  | _ => False := by
  unfold mVar
  rcases σ[i]? with _ | _ | d <;> exact Iff.rfl
theorem wq_c {d : D} {P : D → HS → Prop} : wpR0 (mC d σ h) P X ↔ P d h := Iff.rfl
theorem wq_op {f : D → D → HS → R D} {P : D → HS → Prop} : wpR0 (mOp f ma mb σ h) P X ↔ wpR0 (ma σ h) (fun x h => wpR0 (mb σ h) (fun y h => wpR0 (f x y h) P X) X) X := by
  unfold mOp
  rw [wqR_bind]
  simp only [wqR_bind]
theorem wq_un {f : D → HS → R D} {P : D → HS → Prop} : wpR0 (mUn f ma σ h) P X ↔ wpR0 (ma σ h) (fun x h => wpR0 (f x h) P X) X := wqR_bind
theorem wq_nil {P : List D → HS → Prop} : wpR0 (mNil σ h) P X ↔ P [] h := Iff.rfl
theorem wq_cons {mr : FA} {P : List D → HS → Prop} : wpR0 (mCons ma mr σ h) P X ↔ wpR0 (ma σ h) (fun x h => wpR0 (mr σ h) (fun xs h => P (x :: xs) h) X) X := by
  unfold mCons
  rw [wqR_bind]
  simp only [wqR_bind]
  exact Iff.rfl
theorem wq_tup {mr : FA} {P : D → HS → Prop} : wpR0 (mTup mr σ h) P X ↔ wpR0 (mr σ h) (fun xs h => if xs.length ≤ sizeLine then P (.tup xs) h else False) X := by
  unfold mTup
  rw [wqR_bind]
  simp only [wqR_ite]
  exact Iff.rfl
theorem wq_lst {mr : FA} {P : D → HS → Prop} : wpR0 (mLst mr σ h) P X ↔ wpR0 (mr σ h) (fun xs h => if xs.length ≤ sizeLine then P (.ref h.length) (h ++ [.lst xs]) else False) X := by
  unfold mLst
  rw [wqR_bind]
  simp only [wqR_ite]
  exact Iff.rfl
theorem wq_dict0 {P : D → HS → Prop} : wpR0 (mDict0 σ h) P X ↔ P (.ref h.length) (h ++ [.dK []]) := Iff.rfl
theorem wq_dict {prs : List (FE × FE)} {P : D → HS → Prop} : wpR0 (mDict prs σ h) P X ↔ wpR0 (mPairs prs σ h) (fun ps h => if ps.length ≤ 15 then P (.ref h.length) (h ++ [.dK (mergeD [] ps)]) else False) X := by
  unfold mDict
  rw [wqR_bind]
  simp only [wqR_ite]
  exact Iff.rfl
theorem wq_pairs0 {P : List (Key × D) → HS → Prop} : wpR0 (mPairs [] σ h) P X ↔ P [] h := Iff.rfl
theorem wq_pairs {mk mv : FE} {r : List (FE × FE)} {P : List (Key × D) → HS → Prop} : wpR0 (mPairs ((mk, mv) :: r) σ h) P X ↔ wpR0 (mk σ h) (fun k h => wpR0 (mv σ h) (fun v h => match keyD k with
  | some k => wpR0 (mPairs r σ h) (fun ps h => P ((k, v) :: ps) h) X
  | none => False) X) X := by
  show wpR0 ((mk σ h).bind fun k h1 => (mv σ h1).bind fun v h2 => match keyD k with
    | some k => (mPairs r σ h2).bind fun ps h3 => .ok ((k, v) :: ps) h3
    | none => .bad) P X ↔ _
  rw [wqR_bind]
  simp only [wqR_bind]
  refine iff_of_eq (congrArg (fun f => wpR0 (mk σ h) f _) (funext fun o => funext fun h => congrArg (fun f => wpR0 (mv σ h) f _) (funext fun i => funext fun h => ?_)))
  cases keyD o with
  | none => rfl
  | some k => simp only [wqR_bind]; rfl
theorem wq_call {f : List D → HS → R D} {mr : FA} {P : D → HS → Prop} : wpR0 (mCall f mr σ h) P X ↔ wpR0 (mr σ h) (fun xs h => wpR0 (f xs h) P X) X := wqR_bind
theorem wq_callF {n : Nat} {f : List D → HS → R D} {mr : FA} {P : D → HS → Prop} : wpR0 (mCallF n f mr σ h) P X ↔ wpR0 (mr σ h) (fun xs h => if xs.length = n then wpR0 (f xs h) P X else False) X := by
  unfold mCallF
  rw [wqR_bind]
  simp only [wqR_ite]
  exact Iff.rfl
theorem wq_tru {P : Bool → HS → Prop} : wpR0 (mTru e σ h) P X ↔ wpR0 (e σ h) (fun d h => match truB h d with
  | some b => P b h
  | none => False) X := by
  unfold mTru
  rw [wqR_bind]
  refine iff_of_eq (congrArg (fun f => wpR0 (e σ h) f X) (funext fun d => funext fun h => ?_))
  cases truB h d <;> rfl
theorem wq_bl {P : Bool → HS → Prop} : wpR0 (mBl e σ h) P X ↔ wpR0 (e σ h) (fun d h => match d with
  | .bl b => P b h
  | _ => False) X := by
  unfold mBl
  rw [wqR_bind]
  refine iff_of_eq (congrArg (fun f => wpR0 (e σ h) f X) (funext fun d => funext fun h => ?_))
  cases d <;> rfl
theorem wq_and {P : Bool → HS → Prop} : wpR0 (mAnd t tb σ h) P X ↔ wpR0 (t σ h) (fun c h => if c = true then wpR0 (tb σ h) P X else P false h) X := by
  unfold mAnd
  rw [wqR_bind]
  simp only [wqR_ite]
  exact Iff.rfl
theorem wq_or {P : Bool → HS → Prop} : wpR0 (mOr t tb σ h) P X ↔ wpR0 (t σ h) (fun c h => if c = true then P true h else wpR0 (tb σ h) P X) X := by
  unfold mOr
  rw [wqR_bind]
  simp only [wqR_ite]
  exact Iff.rfl
theorem wq_not {P : Bool → HS → Prop} : wpR0 (mNot t σ h) P X ↔ wpR0 (t σ h) (fun c h => P (!c) h) X := wqR_bind
theorem wq_andV {P : D → HS → Prop} : wpR0 (mAndV ma mb σ h) P X ↔ wpR0 (ma σ h) (fun d h => match d with
  | .bl b => if b = true then wpR0 (mb σ h) P X else P (.bl false) h
  | _ => False) X := by
  unfold mAndV
  rw [wqR_bind]
  refine iff_of_eq (congrArg (fun f => wpR0 (ma σ h) f X) (funext fun d => funext fun h => ?_))
  cases d <;> first | rfl | skip
  rename_i b
  cases b
  · simp [wpR0]
  · simp
theorem wq_orV {P : D → HS → Prop} : wpR0 (mOrV ma mb σ h) P X ↔ wpR0 (ma σ h) (fun d h => match d with
  | .bl b => if b = true then P (.bl true) h else wpR0 (mb σ h) P X
  | _ => False) X := by
  unfold mOrV
  rw [wqR_bind]
  refine iff_of_eq (congrArg (fun f => wpR0 (ma σ h) f X) (funext fun d => funext fun h => ?_))
  cases d <;> first | rfl | skip
  rename_i b
  cases b
  · simp
  · simp [wpR0]
theorem wq_notV {P : D → HS → Prop} : wpR0 (mNotV ma σ h) P X ↔ wpR0 (ma σ h) (fun d h => match d with
  | .bl b => P (.bl !b) h
  | _ => False) X := by
  unfold mNotV
  rw [wqR_bind]
  refine iff_of_eq (congrArg (fun f => wpR0 (ma σ h) f X) (funext fun d => funext fun h => ?_))
  cases d <;> rfl
theorem wq_part {P : Option Int → HS → Prop} : wpR0 (mPart e σ h) P X ↔ wpR0 (e σ h) (fun d h => match d with
  | .int i => P (some i) h
  | _ => False) X := by
  unfold mPart
  rw [wqR_bind]
  refine iff_of_eq (congrArg (fun f => wpR0 (e σ h) f X) (funext fun d => funext fun h => ?_))
  cases d <;> rfl
theorem wq_noPart {P : Option Int → HS → Prop} : wpR0 (mNoPart σ h) P X ↔ P none h := Iff.rfl
theorem wq_sl {ml mh : FO} {P : D → HS → Prop} : wpR0 (mSl e ml mh σ h) P X ↔ wpR0 (e σ h) (fun x h => wpR0 (ml σ h) (fun l h => wpR0 (mh σ h) (fun u h => wpR0 (dSl x l u h) P X) X) X) X := by
  unfold mSl
  rw [wqR_bind]
  simp only [wqR_bind]
theorem wq_bm {S : String} {f : D → List D → HS → R D} {mr : FA} {P : D → HS → Prop} : wpR0 (mBM S f e mr σ h) P X ↔ wpR0 (e σ h) (fun d h => if tyMD S h d = true then wpR0 (mr σ h) (fun xs h => wpR0 (f d xs h) P X) X else False) X := by
  unfold mBM
  rw [wqR_bind]
  simp only [wqR_ite, wqR_bind]
  exact Iff.rfl
theorem wq_ifE {P : D → HS → Prop} : wpR0 (mIf t ma mb σ h) P X ↔ wpR0 (t σ h) (fun c h => if c = true then wpR0 (ma σ h) P X else wpR0 (mb σ h) P X) X := by
  unfold mIf
  rw [wqR_bind]
  simp only [wqR_ite]
theorem wq_fld {Cs : List Addr} {f : Str} {P : D → HS → Prop} : wpR0 (mFld Cs f e σ h) P X ↔ wpR0 (e σ h) (fun d h => match insD Cs h d with
  | some (_, _, fs) => match fs.lookup f with
    | some v => P v h
    | none => False
  | none => False) X := by
  unfold mFld
  rw [wqR_bind]
  refine iff_of_eq (congrArg (fun f => wpR0 (e σ h) f X) (funext fun d => funext fun h => ?_))
  cases insD Cs h d with
  | none => rfl
  | some t =>
    obtain ⟨i, C, fs⟩ := t
    simp only
    cases fs.lookup f <;> rfl
theorem wq_meth {C : Addr} {mn : Str} {n : Nat} {f : List D → HS → R D} {mr : FA} {P : D → HS → Prop} : wpR0 (mMeth C mn n f e mr σ h) P X ↔ wpR0 (e σ h) (fun d h => match insD [C] h d with
  | some (_, _, fs) => if (fs.lookup mn).isNone = true then wpR0 (mr σ h) (fun xs h => if xs.length + 1 = n then wpR0 (f (d :: xs) h) P X else False) X else False
  | none => False) X := by
  unfold mMeth
  rw [wqR_bind]
  refine iff_of_eq (congrArg (fun f => wpR0 (e σ h) f X) (funext fun d => funext fun h => ?_))
  cases insD [C] h d with
  | none => rfl
  | some t =>
    obtain ⟨i, C, fs⟩ := t
    simp only [wqR_ite, wqR_bind]
    rfl
theorem wq_make {C : Addr} {n : Nat} {f : List D → HS → R D} {mr : FA} {P : D → HS → Prop} : wpR0 (mMake C n f mr σ h) P X ↔ wpR0 (mr σ h) (fun xs h => if xs.length + 1 = n then wpR0 (f (.ref h.length :: xs) (h ++ [.ins C []])) (fun v h2 => match v with
  | .non => P (.ref h.length) h2
  | _ => False) X else False) X := by
  unfold mMake
  rw [wqR_bind]
  refine iff_of_eq (congrArg (fun f => wpR0 (mr σ h) f X) (funext fun d => funext fun h => ?_))
  by_cases q : d.length + 1 = n
  · rw [if_pos q, if_pos q, wqR_bind]
    refine congrArg (fun f => wpR0 _ f X) (funext fun v => funext fun h => ?_)
    cases v <;> rfl
  · rw [if_neg q, if_neg q]; rfl
theorem wq_lockE {i : Nat} {P : D → HS → Prop} : wpR0 (mLockE i e σ h) P X ↔ match σ[i]? with
  | some (some (.ref a)) => match h[a]? with
    | some (.dK kvs) => wpR0 (e σ (h.set a (.fdK kvs))) (fun d h' => P d (h'.set a (.dK kvs))) X0
    | _ => False
  | _ => False := by
  unfold mLockE
  rcases σ[i]? with _ | _ | d
  · exact Iff.rfl
  · exact Iff.rfl
  · cases d <;> first | exact Iff.rfl | skip
    rename_i a
    simp only
    rcases h[a]? with _ | o
    · exact Iff.rfl
    · cases o <;> first | exact Iff.rfl | skip
      rename_i kvs
      simp only
      cases e σ (h.set a (.fdK kvs)) <;> exact Iff.rfl
/-! ### a def -/
theorem wq_runB {n : Nat} {m : FS} {ds : List D} {Q : D → HS → Prop} : wpR0 (runB n m ds h) Q X ↔ wpS0 (m (ds.map some ++ List.replicate (n - ds.length) none) h) (fun _ h => Q .non h) (.ret Q X) := by
  unfold runB
  cases q : m (ds.map some ++ List.replicate (n - ds.length) none) h <;> exact Iff.rfl

/-! ### loops -/
theorem wq_forE : wpS0 (mFor it g u σ h) N T ↔ wpR0 (it σ h) (fun J h => wpS0 (forL g u J J.n 0 σ h) N T) (fun x h => T.ex x σ h) := wqS_on
theorem wq_rng1 {ma : FA} {P : ItD → HS → Prop} : wpR0 (mRange1 ma σ h) P X ↔ wpR0 (ma σ h) (fun ds h => match ds with
  | [.int j] => if -(2 ^ 62) ≤ j ∧ j < 2 ^ 62 then P (itRange 0 j.toNat) h else False
  | _ => False) X := by
  unfold mRange1
  rw [wqR_bind]
  refine iff_of_eq (congrArg (fun f => wpR0 (ma σ h) f X) (funext fun ds => funext fun h => ?_))
  split
  · rw [wqR_ite]; rfl
  · rename_i q
    first
      | rfl
      | (show False = _
         split
         · exact (q _ rfl).elim
         · rfl)
theorem wq_rng2 {ma : FA} {P : ItD → HS → Prop} : wpR0 (mRange2 ma σ h) P X ↔ wpR0 (ma σ h) (fun ds h => match ds with
  | [.int i, .int j] => if -(2 ^ 62) ≤ i ∧ i < 2 ^ 62 ∧ -(2 ^ 62) ≤ j ∧ j < 2 ^ 62 then P (itRange i (j - i).toNat) h else False
  | _ => False) X := by
  unfold mRange2
  rw [wqR_bind]
  refine iff_of_eq (congrArg (fun f => wpR0 (ma σ h) f X) (funext fun ds => funext fun h => ?_))
  split
  · rw [wqR_ite]; rfl
  · rename_i q
    first
      | rfl
      | (show False = _
         split
         · exact (q _ _ rfl).elim
         · rfl)
theorem wq_seqI {P : ItD → HS → Prop} : wpR0 (mSeqI e σ h) P X ↔ wpR0 (e σ h) (fun d h => wpR0 (itSeq d h) P X) X := wqR_bind
theorem wq_forL (J : ItD) (I : Nat → Sl → HS → Prop) (h0 : I 0 σ h)
    (step : ∀ j σ h, I j σ h → j < J.n → ∃ d, J.get j h = some d ∧ wpR0 (g d σ h) (fun σ h => wpS0 (u σ h) (I (j + 1)) { T with ct := I (j + 1), bk := N }) (fun x h => T.ex x σ h))
    (fin : ∀ σ h, I J.n σ h → J.fin h = true ∧ N σ h) : wpS0 (forL g u J J.n 0 σ h) N T := by
  have go : ∀ n j σ h, j + n = J.n → I j σ h → wpS0 (forL g u J n j σ h) N T := by
    intro n
    induction n with
    | zero =>
      intro j σ h e i
      have : j = J.n := by omega
      subst this
      obtain ⟨f1, f2⟩ := fin σ h i
      unfold forL
      rw [if_pos f1]
      exact f2
    | succ n ih =>
      intro j σ h e i
      obtain ⟨d, e1, w⟩ := step j σ h i (by omega)
      unfold forL
      rw [e1]
      refine wqS_on.mpr (wqR_mono w fun σ1 h1 w1 => ?_)
      cases q : u σ1 h1 with
      | nx σ2 h2 => rw [q] at w1; exact ih (j + 1) σ2 h2 (by omega) w1
      | ct σ2 h2 => rw [q] at w1; exact ih (j + 1) σ2 h2 (by omega) w1
      | bk σ2 h2 => rw [q] at w1; exact w1
      | rt d h2 => rw [q] at w1; exact w1
      | ex x σ2 h2 => rw [q] at w1; exact w1
      | bad => rw [q] at w1; exact w1
  exact go J.n 0 σ h (by omega) h0
/-- while, by an invariant and a number that falls -/
theorem wq_while (I : Sl → HS → Prop) (μ : Sl → HS → Nat) (h0 : I σ h)
    (step : ∀ σ h, I σ h → wpR0 (t σ h) (fun c h1 => if c = true then wpS0 (u σ h1) (fun σ' h' => I σ' h' ∧ μ σ' h' < μ σ h) { T with ct := fun σ' h' => I σ' h' ∧ μ σ' h' < μ σ h, bk := N } else N σ h1) (fun x h => T.ex x σ h)) : wpS0 (mWhile t u σ h) N T := by
  have go : ∀ n σ h, μ σ h < n → I σ h → wpS0 (mWhile t u σ h) N T := by
    intro n
    induction n with
    | zero => intro σ h hl; omega
    | succ n ih =>
      intro σ h hl i
      rw [mWhile_eq]
      refine wqS_on.mpr (wqR_mono (step σ h i) fun c h1 w => ?_)
      cases c with
      | false => exact w
      | true =>
        simp only [if_true] at w ⊢
        cases q : u σ h1 with
        | nx σ2 h2 => rw [q] at w; exact ih σ2 h2 (by have := w.2; omega) w.1
        | ct σ2 h2 => rw [q] at w; exact ih σ2 h2 (by have := w.2; omega) w.1
        | bk σ2 h2 => rw [q] at w; exact w
        | rt d h2 => rw [q] at w; exact w
        | ex x σ2 h2 => rw [q] at w; exact w
        | bad => rw [q] at w; exact w
  exact go _ σ h (Nat.lt_succ_self _) h0
/-- a comprehension -/
theorem wq_lcE {tg : Tgt} {tt : FT} {te : FE} {vs : List Nat} {P : D → HS → Prop} : wpR0 (mLc it tg tt te vs σ h) P X ↔ wpR0 (it σ h) (fun J h => wpR0 (lcL tg tt te J (wipeD σ vs) J.n 0 [] h) (fun ds h => P (.ref h.length) (h ++ [.lst ds])) X) X := by
  unfold mLc
  rw [wqR_bind]
  simp only [wqR_bind]
  exact Iff.rfl
theorem wq_lcL {tg : Tgt} {tt : FT} {te : FE} {P : List D → HS → Prop} (J : ItD) (I : Nat → List D → HS → Prop) (h0 : I 0 [] h)
    (step : ∀ j acc h, I j acc h → j < J.n → ∃ d, J.get j h = some d ∧ wpR0 (tg.m d σ h) (fun σ h => wpR0 (tt σ h) (fun b h => if b = true then wpR0 (te σ h) (fun y h => acc.length < sizeLine ∧ I (j + 1) (acc ++ [y]) h) X0 else I (j + 1) acc h) X0) X0)
    (fin : ∀ acc h, I J.n acc h → J.fin h = true ∧ P acc h) : wpR0 (lcL tg tt te J σ J.n 0 [] h) P X := by
  have go : ∀ n j acc h, j + n = J.n → I j acc h → wpR0 (lcL tg tt te J σ n j acc h) P X := by
    intro n
    induction n with
    | zero =>
      intro j acc h e i
      have : j = J.n := by omega
      subst this
      obtain ⟨f1, f2⟩ := fin acc h i
      unfold lcL
      rw [if_pos f1]
      exact f2
    | succ n ih =>
      intro j acc h e i
      obtain ⟨d, e1, w⟩ := step j acc h i (by omega)
      unfold lcL
      rw [e1]
      simp only
      obtain ⟨σ1, h1, q1, w⟩ := wqR_elim w
      rw [q1]
      simp only
      obtain ⟨b, h2, q2, w⟩ := wqR_elim w
      rw [q2]
      cases b with
      | false => exact ih (j + 1) acc h2 (by omega) w
      | true =>
        simp only [if_true] at w ⊢
        obtain ⟨y, h3, q3, hl, w⟩ := wqR_elim w
        rw [q3]
        simp only
        rw [if_pos hl]
        exact ih (j + 1) _ h3 (by omega) w
  exact go J.n 0 [] h (by omega) h0
end
/-- the same, closed -/
@[irreducible] def wpR {α : Type} (m : R α) (P : α → HS → Prop) (X : XP) : Prop := wpR0 m P X
@[irreducible] def wpS (m : RS) (N : Sl → HS → Prop) (T : Tl) : Prop := wpS0 m N T
theorem wpR_eq {α : Type} : @wpR α = @wpR0 α := by
  funext m P X
  unfold wpR
  rfl
theorem wpS_eq : wpS = wpS0 := by
  funext m N T
  unfold wpS
  rfl

theorem wpR_ok {a : α} : wpR (.ok a h) P X ↔ P a h := by
  have q := @wqR_ok
  simp only [← wpR_eq, ← wpS_eq] at q
  exact q 
theorem wpR_bad : wpR (.bad : R α) P X ↔ False := by
  have q := @wqR_bad
  simp only [← wpR_eq, ← wpS_eq] at q
  exact q 
theorem wpR_ex {x : XV} : wpR (.ex x h : R α) P X ↔ X x h := by
  have q := @wqR_ex
  simp only [← wpR_eq, ← wpS_eq] at q
  exact q 
theorem wpR_mono (w : wpR m P X) (k : ∀ a h, P a h → P' a h) : wpR m P' X := by
  have q := @wqR_mono
  simp only [← wpR_eq, ← wpS_eq] at q
  exact q w k
theorem wpR_monoX (w : wpR m P X) (k : ∀ a h, P a h → P' a h) (kx : ∀ x h, X x h → X' x h) : wpR m P' X' := by
  have q := @wqR_monoX
  simp only [← wpR_eq, ← wpS_eq] at q
  exact q w k kx
theorem wpR_elim (w : wpR m P X0) : ∃ a h, m = .ok a h ∧ P a h := by
  have q := @wqR_elim
  simp only [← wpR_eq, ← wpS_eq] at q
  exact q w
theorem wpR_bind {f : α → HS → R β} {Q : β → HS → Prop} : wpR (m.bind f) Q X ↔ wpR m (fun a h => wpR (f a h) Q X) X := by
  have q := @wqR_bind
  simp only [← wpR_eq, ← wpS_eq] at q
  exact q 
theorem wpR_ite {c : Prop} [Decidable c] {a b : R α} : wpR (if c then a else b) P X ↔ if c then wpR a P X else wpR b P X := by
  have q := @wqR_ite
  simp only [← wpR_eq, ← wpS_eq] at q
  exact q 
theorem wpS_on {k : α → HS → RS} : wpS (m.on σ k) N T ↔ wpR m (fun a h => wpS (k a h) N T) (fun x h => T.ex x σ h) := by
  have q := @wqS_on
  simp only [← wpR_eq, ← wpS_eq] at q
  exact q 
theorem wpS_nx : wpS (.nx σ h) N T ↔ N σ h := by
  have q := @wqS_nx
  simp only [← wpR_eq, ← wpS_eq] at q
  exact q 
theorem wpS_rt {d : D} : wpS (.rt d h) N T ↔ T.rt d h := by
  have q := @wqS_rt
  simp only [← wpR_eq, ← wpS_eq] at q
  exact q 
theorem wpS_ite {c : Prop} [Decidable c] {a b : RS} : wpS (if c then a else b) N T ↔ if c then wpS a N T else wpS b N T := by
  have q := @wqS_ite
  simp only [← wpR_eq, ← wpS_eq] at q
  exact q 
theorem wpS_mono {s : RS} (w : wpS s N T) (k : ∀ σ h, N σ h → N' σ h) : wpS s N' T := by
  have q := @wqS_mono
  simp only [← wpR_eq, ← wpS_eq] at q
  exact q w k
theorem wp_skip : wpS (mSkip σ h) N T ↔ N σ h := by
  have q := @wq_skip
  simp only [← wpR_eq, ← wpS_eq] at q
  exact q 
theorem wp_seq : wpS (mSeq u v σ h) N T ↔ wpS (u σ h) (fun σ h => wpS (v σ h) N T) T := by
  have q := @wq_seq
  simp only [← wpR_eq, ← wpS_eq] at q
  exact q 
theorem wp_drop : wpS (mDrop e σ h) N T ↔ wpR (e σ h) (fun _ h => N σ h) (fun x h => T.ex x σ h) := by
  have q := @wq_drop
  simp only [← wpR_eq, ← wpS_eq] at q
  exact q 
theorem wp_ret : wpS (mRet e σ h) N T ↔ wpR (e σ h) T.rt (fun x h => T.ex x σ h) := by
  have q := @wq_ret
  simp only [← wpR_eq, ← wpS_eq] at q
  exact q 
theorem wp_retN : wpS (mRetN σ h) N T ↔ T.rt .non h := by
  have q := @wq_retN
  simp only [← wpR_eq, ← wpS_eq] at q
  exact q 
theorem wp_brk : wpS (mBrk σ h) N T ↔ T.bk σ h := by
  have q := @wq_brk
  simp only [← wpR_eq, ← wpS_eq] at q
  exact q 
theorem wp_cnt : wpS (mCnt σ h) N T ↔ T.ct σ h := by
  have q := @wq_cnt
  simp only [← wpR_eq, ← wpS_eq] at q
  exact q 
theorem wp_if : wpS (mIfS t u v σ h) N T ↔ wpR (t σ h) (fun c h => if c = true then wpS (u σ h) N T else wpS (v σ h) N T) (fun x h => T.ex x σ h) := by
  have q := @wq_if
  simp only [← wpR_eq, ← wpS_eq] at q
  exact q 
theorem wp_asg : wpS (mAsg e g σ h) N T ↔ wpR (e σ h) (fun d h => wpR (g d σ h) N (fun x h => T.ex x σ h)) (fun x h => T.ex x σ h) := by
  have q := @wq_asg
  simp only [← wpR_eq, ← wpS_eq] at q
  exact q 
theorem wp_to {i : Nat} {d : D} {P : Sl → HS → Prop} : wpR (mTo i d σ h) P X ↔ P (σ.set i (some d)) h := by
  have q := @wq_to
  simp only [← wpR_eq, ← wpS_eq] at q
  exact q 
theorem wp_tos {is : List Nat} {d : D} {P : Sl → HS → Prop} : wpR (mTos is d σ h) P X ↔ match d with
  | .tup ds => match setAll is ds σ with
    | some σ' => P σ' h
    | none => False
  | _ => False := by
  have q := @wq_tos
  simp only [← wpR_eq, ← wpS_eq] at q
  exact q 
theorem wp_toIx {mo mi : FE} {d : D} {P : Sl → HS → Prop} : wpR (mToIx mo mi d σ h) P X ↔ wpR (mo σ h) (fun o h => wpR (mi σ h) (fun i h => match dSet o i d h with
  | some h => P σ h
  | none => False) X) X := by
  have q := @wq_toIx
  simp only [← wpR_eq, ← wpS_eq] at q
  exact q 
theorem wp_aug {i : Nat} {f : D → D → HS → R D} : wpS (mAug i f e σ h) N T ↔ match σ[i]? with
  | some (some d) => wpR (e σ h) (fun y h => wpR (f d y h) (fun z h => N (σ.set i (some z)) h) (fun x h => T.ex x σ h)) (fun x h => T.ex x σ h)
  | _ => False := by
  have q := @wq_aug
  simp only [← wpR_eq, ← wpS_eq] at q
  exact q 
theorem wp_augK {mo mi : FE} {f : D → D → HS → R D} : wpS (mAugK mo mi f e σ h) N T ↔ wpR (mo σ h) (fun o h => wpR (mi σ h) (fun i h => match dictD h o, keyD i with
  | some kvs, some k => match getK kvs k with
    | some d => wpR (e σ h) (fun y h => wpR (f d y h) (fun z h => match dSetK o i z h with
      | some h => N σ h
      | none => False) (fun x h => T.ex x σ h)) (fun x h => T.ex x σ h)
    | none => False
  | _, _ => False) (fun x h => T.ex x σ h)) (fun x h => T.ex x σ h) := by
  have q := @wq_augK
  simp only [← wpR_eq, ← wpS_eq] at q
  exact q 
theorem wp_fldSet {Cs : List Addr} {f : Str} {mo : FE} : wpS (mFldSet Cs f mo e σ h) N T ↔ wpR (e σ h) (fun y h => wpR (mo σ h) (fun o h => match insD Cs h o with
  | some (i, C, fs) => if fs.length < 1000 then N σ (h.set i (.ins C (putA f y fs))) else False
  | none => False) (fun x h => T.ex x σ h)) (fun x h => T.ex x σ h) := by
  have q := @wq_fldSet
  simp only [← wpR_eq, ← wpS_eq] at q
  exact q 
theorem wp_fldAug {Cs : List Addr} {f : Str} {mo : FE} {g : D → D → HS → R D} : wpS (mFldAug Cs f mo g e σ h) N T ↔ wpR (mo σ h) (fun o h => match insD Cs h o with
  | some (i, C, fs) => match fs.lookup f with
    | some d => wpR (e σ h) (fun y h => wpR (g d y h) (fun z h => match insD [C] h o with
      | some (_, _, fs') => if fs'.length < 1000 then N σ (h.set i (.ins C (putA f z fs'))) else False
      | none => False) (fun x h => T.ex x σ h)) (fun x h => T.ex x σ h)
    | none => False
  | none => False) (fun x h => T.ex x σ h) := by
  have q := @wq_fldAug
  simp only [← wpR_eq, ← wpS_eq] at q
  exact q 
theorem wp_var {i : Nat} {P : D → HS → Prop} : wpR (mVar i σ h) P X ↔ match σ[i]? with
  | some (some d) => P d h
  | _ => False := by
  have q := @wq_var
  simp only [← wpR_eq, ← wpS_eq] at q
  exact q 
theorem wp_c {d : D} {P : D → HS → Prop} : wpR (mC d σ h) P X ↔ P d h := by
  have q := @wq_c
  simp only [← wpR_eq, ← wpS_eq] at q
  exact q 
theorem wp_op {f : D → D → HS → R D} {P : D → HS → Prop} : wpR (mOp f ma mb σ h) P X ↔ wpR (ma σ h) (fun x h => wpR (mb σ h) (fun y h => wpR (f x y h) P X) X) X := by
  have q := @wq_op
  simp only [← wpR_eq, ← wpS_eq] at q
  exact q 
theorem wp_un {f : D → HS → R D} {P : D → HS → Prop} : wpR (mUn f ma σ h) P X ↔ wpR (ma σ h) (fun x h => wpR (f x h) P X) X := by
  have q := @wq_un
  simp only [← wpR_eq, ← wpS_eq] at q
  exact q 
theorem wp_nil {P : List D → HS → Prop} : wpR (mNil σ h) P X ↔ P [] h := by
  have q := @wq_nil
  simp only [← wpR_eq, ← wpS_eq] at q
  exact q 
theorem wp_cons {mr : FA} {P : List D → HS → Prop} : wpR (mCons ma mr σ h) P X ↔ wpR (ma σ h) (fun x h => wpR (mr σ h) (fun xs h => P (x :: xs) h) X) X := by
  have q := @wq_cons
  simp only [← wpR_eq, ← wpS_eq] at q
  exact q 
theorem wp_tup {mr : FA} {P : D → HS → Prop} : wpR (mTup mr σ h) P X ↔ wpR (mr σ h) (fun xs h => if xs.length ≤ sizeLine then P (.tup xs) h else False) X := by
  have q := @wq_tup
  simp only [← wpR_eq, ← wpS_eq] at q
  exact q 
theorem wp_lst {mr : FA} {P : D → HS → Prop} : wpR (mLst mr σ h) P X ↔ wpR (mr σ h) (fun xs h => if xs.length ≤ sizeLine then P (.ref h.length) (h ++ [.lst xs]) else False) X := by
  have q := @wq_lst
  simp only [← wpR_eq, ← wpS_eq] at q
  exact q 
theorem wp_dict0 {P : D → HS → Prop} : wpR (mDict0 σ h) P X ↔ P (.ref h.length) (h ++ [.dK []]) := by
  have q := @wq_dict0
  simp only [← wpR_eq, ← wpS_eq] at q
  exact q 
theorem wp_dict {prs : List (FE × FE)} {P : D → HS → Prop} : wpR (mDict prs σ h) P X ↔ wpR (mPairs prs σ h) (fun ps h => if ps.length ≤ 15 then P (.ref h.length) (h ++ [.dK (mergeD [] ps)]) else False) X := by
  have q := @wq_dict
  simp only [← wpR_eq, ← wpS_eq] at q
  exact q 
theorem wp_pairs0 {P : List (Key × D) → HS → Prop} : wpR (mPairs [] σ h) P X ↔ P [] h := by
  have q := @wq_pairs0
  simp only [← wpR_eq, ← wpS_eq] at q
  exact q 
theorem wp_pairs {mk mv : FE} {r : List (FE × FE)} {P : List (Key × D) → HS → Prop} : wpR (mPairs ((mk, mv) :: r) σ h) P X ↔ wpR (mk σ h) (fun k h => wpR (mv σ h) (fun v h => match keyD k with
  | some k => wpR (mPairs r σ h) (fun ps h => P ((k, v) :: ps) h) X
  | none => False) X) X := by
  have q := @wq_pairs
  simp only [← wpR_eq, ← wpS_eq] at q
  exact q 
theorem wp_call {f : List D → HS → R D} {mr : FA} {P : D → HS → Prop} : wpR (mCall f mr σ h) P X ↔ wpR (mr σ h) (fun xs h => wpR (f xs h) P X) X := by
  have q := @wq_call
  simp only [← wpR_eq, ← wpS_eq] at q
  exact q 
theorem wp_callF {n : Nat} {f : List D → HS → R D} {mr : FA} {P : D → HS → Prop} : wpR (mCallF n f mr σ h) P X ↔ wpR (mr σ h) (fun xs h => if xs.length = n then wpR (f xs h) P X else False) X := by
  have q := @wq_callF
  simp only [← wpR_eq, ← wpS_eq] at q
  exact q 
theorem wp_tru {P : Bool → HS → Prop} : wpR (mTru e σ h) P X ↔ wpR (e σ h) (fun d h => match truB h d with
  | some b => P b h
  | none => False) X := by
  have q := @wq_tru
  simp only [← wpR_eq, ← wpS_eq] at q
  exact q 
theorem wp_bl {P : Bool → HS → Prop} : wpR (mBl e σ h) P X ↔ wpR (e σ h) (fun d h => match d with
  | .bl b => P b h
  | _ => False) X := by
  have q := @wq_bl
  simp only [← wpR_eq, ← wpS_eq] at q
  exact q 
theorem wp_and {P : Bool → HS → Prop} : wpR (mAnd t tb σ h) P X ↔ wpR (t σ h) (fun c h => if c = true then wpR (tb σ h) P X else P false h) X := by
  have q := @wq_and
  simp only [← wpR_eq, ← wpS_eq] at q
  exact q 
theorem wp_or {P : Bool → HS → Prop} : wpR (mOr t tb σ h) P X ↔ wpR (t σ h) (fun c h => if c = true then P true h else wpR (tb σ h) P X) X := by
  have q := @wq_or
  simp only [← wpR_eq, ← wpS_eq] at q
  exact q 
theorem wp_not {P : Bool → HS → Prop} : wpR (mNot t σ h) P X ↔ wpR (t σ h) (fun c h => P (!c) h) X := by
  have q := @wq_not
  simp only [← wpR_eq, ← wpS_eq] at q
  exact q 
theorem wp_andV {P : D → HS → Prop} : wpR (mAndV ma mb σ h) P X ↔ wpR (ma σ h) (fun d h => match d with
  | .bl b => if b = true then wpR (mb σ h) P X else P (.bl false) h
  | _ => False) X := by
  have q := @wq_andV
  simp only [← wpR_eq, ← wpS_eq] at q
  exact q 
theorem wp_orV {P : D → HS → Prop} : wpR (mOrV ma mb σ h) P X ↔ wpR (ma σ h) (fun d h => match d with
  | .bl b => if b = true then P (.bl true) h else wpR (mb σ h) P X
  | _ => False) X := by
  have q := @wq_orV
  simp only [← wpR_eq, ← wpS_eq] at q
  exact q 
theorem wp_notV {P : D → HS → Prop} : wpR (mNotV ma σ h) P X ↔ wpR (ma σ h) (fun d h => match d with
  | .bl b => P (.bl !b) h
  | _ => False) X := by
  have q := @wq_notV
  simp only [← wpR_eq, ← wpS_eq] at q
  exact q 
theorem wp_part {P : Option Int → HS → Prop} : wpR (mPart e σ h) P X ↔ wpR (e σ h) (fun d h => match d with
  | .int i => P (some i) h
  | _ => False) X := by
  have q := @wq_part
  simp only [← wpR_eq, ← wpS_eq] at q
  exact q 
theorem wp_noPart {P : Option Int → HS → Prop} : wpR (mNoPart σ h) P X ↔ P none h := by
  have q := @wq_noPart
  simp only [← wpR_eq, ← wpS_eq] at q
  exact q 
theorem wp_sl {ml mh : FO} {P : D → HS → Prop} : wpR (mSl e ml mh σ h) P X ↔ wpR (e σ h) (fun x h => wpR (ml σ h) (fun l h => wpR (mh σ h) (fun u h => wpR (dSl x l u h) P X) X) X) X := by
  have q := @wq_sl
  simp only [← wpR_eq, ← wpS_eq] at q
  exact q 
theorem wp_bm {S : String} {f : D → List D → HS → R D} {mr : FA} {P : D → HS → Prop} : wpR (mBM S f e mr σ h) P X ↔ wpR (e σ h) (fun d h => if tyMD S h d = true then wpR (mr σ h) (fun xs h => wpR (f d xs h) P X) X else False) X := by
  have q := @wq_bm
  simp only [← wpR_eq, ← wpS_eq] at q
  exact q 
theorem wp_ifE {P : D → HS → Prop} : wpR (mIf t ma mb σ h) P X ↔ wpR (t σ h) (fun c h => if c = true then wpR (ma σ h) P X else wpR (mb σ h) P X) X := by
  have q := @wq_ifE
  simp only [← wpR_eq, ← wpS_eq] at q
  exact q 
theorem wp_fld {Cs : List Addr} {f : Str} {P : D → HS → Prop} : wpR (mFld Cs f e σ h) P X ↔ wpR (e σ h) (fun d h => match insD Cs h d with
  | some (_, _, fs) => match fs.lookup f with
    | some v => P v h
    | none => False
  | none => False) X := by
  have q := @wq_fld
  simp only [← wpR_eq, ← wpS_eq] at q
  exact q 
theorem wp_meth {C : Addr} {mn : Str} {n : Nat} {f : List D → HS → R D} {mr : FA} {P : D → HS → Prop} : wpR (mMeth C mn n f e mr σ h) P X ↔ wpR (e σ h) (fun d h => match insD [C] h d with
  | some (_, _, fs) => if (fs.lookup mn).isNone = true then wpR (mr σ h) (fun xs h => if xs.length + 1 = n then wpR (f (d :: xs) h) P X else False) X else False
  | none => False) X := by
  have q := @wq_meth
  simp only [← wpR_eq, ← wpS_eq] at q
  exact q 
theorem wp_make {C : Addr} {n : Nat} {f : List D → HS → R D} {mr : FA} {P : D → HS → Prop} : wpR (mMake C n f mr σ h) P X ↔ wpR (mr σ h) (fun xs h => if xs.length + 1 = n then wpR (f (.ref h.length :: xs) (h ++ [.ins C []])) (fun v h2 => match v with
  | .non => P (.ref h.length) h2
  | _ => False) X else False) X := by
  have q := @wq_make
  simp only [← wpR_eq, ← wpS_eq] at q
  exact q 
theorem wp_lockE {i : Nat} {P : D → HS → Prop} : wpR (mLockE i e σ h) P X ↔ match σ[i]? with
  | some (some (.ref a)) => match h[a]? with
    | some (.dK kvs) => wpR (e σ (h.set a (.fdK kvs))) (fun d h' => P d (h'.set a (.dK kvs))) X0
    | _ => False
  | _ => False := by
  have q := @wq_lockE
  simp only [← wpR_eq, ← wpS_eq] at q
  exact q 
theorem wp_runB {n : Nat} {m : FS} {ds : List D} {Q : D → HS → Prop} : wpR (runB n m ds h) Q X ↔ wpS (m (ds.map some ++ List.replicate (n - ds.length) none) h) (fun _ h => Q .non h) (.ret Q X) := by
  have q := @wq_runB
  simp only [← wpR_eq, ← wpS_eq] at q
  exact q 
theorem wp_forE : wpS (mFor it g u σ h) N T ↔ wpR (it σ h) (fun J h => wpS (forL g u J J.n 0 σ h) N T) (fun x h => T.ex x σ h) := by
  have q := @wq_forE
  simp only [← wpR_eq, ← wpS_eq] at q
  exact q 
theorem wp_rng1 {ma : FA} {P : ItD → HS → Prop} : wpR (mRange1 ma σ h) P X ↔ wpR (ma σ h) (fun ds h => match ds with
  | [.int j] => if -(2 ^ 62) ≤ j ∧ j < 2 ^ 62 then P (itRange 0 j.toNat) h else False
  | _ => False) X := by
  have q := @wq_rng1
  simp only [← wpR_eq, ← wpS_eq] at q
  exact q 
theorem wp_rng2 {ma : FA} {P : ItD → HS → Prop} : wpR (mRange2 ma σ h) P X ↔ wpR (ma σ h) (fun ds h => match ds with
  | [.int i, .int j] => if -(2 ^ 62) ≤ i ∧ i < 2 ^ 62 ∧ -(2 ^ 62) ≤ j ∧ j < 2 ^ 62 then P (itRange i (j - i).toNat) h else False
  | _ => False) X := by
  have q := @wq_rng2
  simp only [← wpR_eq, ← wpS_eq] at q
  exact q 
theorem wp_seqI {P : ItD → HS → Prop} : wpR (mSeqI e σ h) P X ↔ wpR (e σ h) (fun d h => wpR (itSeq d h) P X) X := by
  have q := @wq_seqI
  simp only [← wpR_eq, ← wpS_eq] at q
  exact q 
theorem wp_forL (J : ItD) (I : Nat → Sl → HS → Prop) (h0 : I 0 σ h)
    (step : ∀ j σ h, I j σ h → j < J.n → ∃ d, J.get j h = some d ∧ wpR (g d σ h) (fun σ h => wpS (u σ h) (I (j + 1)) { T with ct := I (j + 1), bk := N }) (fun x h => T.ex x σ h))
    (fin : ∀ σ h, I J.n σ h → J.fin h = true ∧ N σ h) : wpS (forL g u J J.n 0 σ h) N T := by
  have q := @wq_forL
  simp only [← wpR_eq, ← wpS_eq] at q
  exact q J I h0 step fin
theorem wp_while (I : Sl → HS → Prop) (μ : Sl → HS → Nat) (h0 : I σ h)
    (step : ∀ σ h, I σ h → wpR (t σ h) (fun c h1 => if c = true then wpS (u σ h1) (fun σ' h' => I σ' h' ∧ μ σ' h' < μ σ h) { T with ct := fun σ' h' => I σ' h' ∧ μ σ' h' < μ σ h, bk := N } else N σ h1) (fun x h => T.ex x σ h)) : wpS (mWhile t u σ h) N T := by
  have q := @wq_while
  simp only [← wpR_eq, ← wpS_eq] at q
  exact q I μ h0 step
theorem wp_lcE {tg : Tgt} {tt : FT} {te : FE} {vs : List Nat} {P : D → HS → Prop} : wpR (mLc it tg tt te vs σ h) P X ↔ wpR (it σ h) (fun J h => wpR (lcL tg tt te J (wipeD σ vs) J.n 0 [] h) (fun ds h => P (.ref h.length) (h ++ [.lst ds])) X) X := by
  have q := @wq_lcE
  simp only [← wpR_eq, ← wpS_eq] at q
  exact q 
theorem wp_lcL {tg : Tgt} {tt : FT} {te : FE} {P : List D → HS → Prop} (J : ItD) (I : Nat → List D → HS → Prop) (h0 : I 0 [] h)
    (step : ∀ j acc h, I j acc h → j < J.n → ∃ d, J.get j h = some d ∧ wpR (tg.m d σ h) (fun σ h => wpR (tt σ h) (fun b h => if b = true then wpR (te σ h) (fun y h => acc.length < sizeLine ∧ I (j + 1) (acc ++ [y]) h) X0 else I (j + 1) acc h) X0) X0)
    (fin : ∀ acc h, I J.n acc h → J.fin h = true ∧ P acc h) : wpR (lcL tg tt te J σ J.n 0 [] h) P X := by
  have q := @wq_lcL
  simp only [← wpR_eq, ← wpS_eq] at q
  exact q J I h0 step fin
end FL

set_option Elab.async false
set_option linter.all false
set_option maxRecDepth 100000
set_option maxHeartbeats 400000
/-! FL, part j: the law's draws. -/
namespace FL
open PySem PySem.Spec PyProof.Rows L2
/-! ### what an operation gives at data of a known kind -/
section
variable {h : HS} {i j : Int} {a b : Str} {ds : List D} {d e : D}
theorem ev_add : dAdd (.int i) (.int j) h = .ok (.int (i + j)) h := rfl
theorem ev_iadd : dIAdd (.int i) (.int j) h = .ok (.int (i + j)) h := rfl
theorem ev_addT {es : List D} (q : ds.length + es.length ≤ sizeLine) : dAdd (.tup ds) (.tup es) h = .ok (.tup (ds ++ es)) h := if_pos q
theorem ev_addS (q : a.length + b.length ≤ sizeLine) : dAdd (.str a) (.str b) h = .ok (.str (a ++ b)) h := if_pos q
theorem ev_sub : dSub (.int i) (.int j) h = .ok (.int (i - j)) h := rfl
theorem ev_mul (q : CMul i j) : dMul (.int i) (.int j) h = .ok (.int (i * j)) h := if_pos q
theorem ev_fdiv (q : CDivW i j) : dFdiv (.int i) (.int j) h = .ok (.int (i / j)) h := if_pos q
theorem ev_mod (q : 0 < j) : dMod (.int i) (.int j) h = .ok (.int (i % j)) h := if_pos q
theorem ev_pow (q : CPow i j) : dPow (.int i) (.int j) h = .ok (.int (i ^ j.toNat)) h := if_pos q
theorem ev_neg : dNeg (.int i) h = .ok (.int (-i)) h := rfl
theorem ev_lt : dLt (.int i) (.int j) h= .ok (D.bl (decide (i < j))) h := rfl
theorem ev_le : dLe (.int i) (.int j) h= .ok (D.bl (decide (i ≤ j))) h := rfl
theorem ev_gt : dGt (.int i) (.int j) h= .ok (D.bl (decide (j < i))) h := rfl
theorem ev_ge : dGe (.int i) (.int j) h= .ok (D.bl (decide (j ≤ i))) h := rfl
theorem ev_eqI : dEq (.int i) (.int j) h= .ok (D.bl (decide (i = j))) h := by
  show R.ok (D.bl (decide (V.int i = V.int j))) h = _
  simp
theorem ev_neI : dNe (.int i) (.int j) h= .ok (D.bl (!decide (i = j))) h := by
  show R.ok (D.bl (!decide (V.int i = V.int j))) h = _
  simp
theorem ev_eqS : dEq (.str a) (.str b) h= .ok (D.bl (decide (a = b))) h := by
  show R.ok (D.bl (decide (V.str a = V.str b))) h = _
  simp
theorem ev_neS : dNe (.str a) (.str b) h= .ok (D.bl (!decide (a = b))) h := by
  show R.ok (D.bl (!decide (V.str a = V.str b))) h = _
  simp
theorem ev_isN : dIsN .non .non h= .ok (D.bl true) h := rfl
theorem ev_int : dInt [.int i] h = .ok (.int i) h := rfl
theorem ev_abs : dAbs [.int i] h = .ok (.int (if i < 0 then -i else i)) h := rfl
theorem ev_max : dMax2 [.int i, .int j] h = .ok (.int (if j > i then j else i)) h := rfl
theorem ev_min : dMin2 [.int i, .int j] h = .ok (.int (if j < i then j else i)) h := rfl
theorem ev_ixT (q : atI ds i = some d) : dIx (.tup ds) (.int i) h = .ok d h := by
  show ixL ds h i = _
  rw [ixL, q]
theorem ev_ixC (q : atI ds i = some d) : dIx (.cst ds) (.int i) h = .ok d h := by
  show ixL ds h i = _
  rw [ixL, q]
theorem ev_ixL {n : Nat} (hn : h[n]? = some (.lst ds)) (q : atI ds i = some d) : dIx (.ref n) (.int i) h = .ok d h := by
  simp only [dIx, hn, ixL, q]
theorem ev_lenT : dLen [.tup ds] h = .ok (.int ds.length) h := rfl
theorem ev_lenC : dLen [.cst ds] h = .ok (.int ds.length) h := rfl
theorem ev_lenL {n : Nat} (hn : h[n]? = some (.lst ds)) : dLen [.ref n] h = .ok (.int ds.length) h := by
  simp only [dLen, lenD, hn]
theorem ev_tupL {n : Nat} (hn : h[n]? = some (.lst ds)) : dTuple [.ref n] h = .ok (.tup ds) h := by
  simp only [dTuple, listD, lstAt, hn]
theorem ev_tupT : dTuple [.tup ds] h = .ok (.tup ds) h := rfl
theorem ev_tyL {n : Nat} (hn : h[n]? = some (.lst ds)) : tyMD "list" h (.ref n) = true := by
  simp only [tyMD, hn]; rfl
theorem ev_app {n : Nat} (hn : h[n]? = some (.lst ds)) (hl : ds.length < sizeLine) : dAppend (.ref n) [d] h = .ok .non (h.set n (.lst (ds ++ [d]))) := by
  simp only [dAppend, lstAt, hn, if_pos hl]
end
noncomputable def m_nextB : FS :=
    mSeq (mAugK (mVar 0) (mC (.str "at")) dIAdd (mC (.int 1)))
    (mSeq (mIfS (mBl (mOp dGt (mOp dIx (mVar 0) (mC (.str "at"))) (mCall (dLen) (mCons (mOp dIx (mVar 0) (mC (.str "draws"))) (mNil)))))
    (mRet (mC (.int 0)))
    (mSkip))
    (mRet (mOp dMod (mCall (dInt) (mCons (mOp dIx (mOp dIx (mVar 0) (mC (.str "draws"))) (mOp dSub (mOp dIx (mVar 0) (mC (.str "at"))) (mC (.int 1)))) (mNil))) (mVar 1))))
/-- the bag of a law's draws: the list's place, how many were taken -/
abbrev bagB (r : Nat) (a : Nat) : MO := .dK [(.inr "draws", .ref r), (.inr "at", .int a)]
def nxB (ds : List Int) (a : Nat) (m : Int) : Int := if ds.length ≤ a then 0 else ds.getD a 0 % m
theorem nextB_ok {h : HS} {w r a : Nat} {ds : List Int} {m : Int} (hw : h[w]? = some (bagB r a)) (hr : h[r]? = some (.lst (ds.map .int))) (hm : 0 < m) :
    runB 2 m_nextB [.ref w, .int m] h = .ok (.int (nxB ds a m)) (h.set w (bagB r (a + 1))) := by
  have key : wpR (runB 2 m_nextB [.ref w, .int m] h) (fun d h' => d = .int (nxB ds a m) ∧ h' = h.set w (bagB r (a + 1))) X0 := by
    unfold m_nextB
    simp only [↓wp_seq, ↓wp_skip, ↓wp_drop, ↓wp_ret, ↓wp_retN, ↓wp_brk, ↓wp_cnt, ↓wp_if, ↓wp_asg, ↓wp_to, ↓wp_tos, ↓wp_toIx, ↓wp_aug, ↓wp_augK, ↓wp_fldSet, ↓wp_fldAug, ↓wp_var, ↓wp_c, ↓wp_op, ↓wp_un, ↓wp_nil, ↓wp_cons, ↓wp_tup, ↓wp_lst, ↓wp_dict0, ↓wp_dict, ↓wp_pairs0, ↓wp_pairs, ↓wp_call, ↓wp_callF, ↓wp_tru, ↓wp_bl, ↓wp_and, ↓wp_or, ↓wp_not, ↓wp_andV, ↓wp_orV, ↓wp_notV, ↓wp_part, ↓wp_noPart, ↓wp_sl, ↓wp_bm, ↓wp_ifE, ↓wp_fld, ↓wp_meth, ↓wp_make, ↓wp_lockE, ↓wp_rng1, ↓wp_rng2, ↓wp_seqI, ↓wpR_ok, ↓wpS_nx, ↓wpS_rt, List.getElem?_cons_zero, List.getElem?_cons_succ, List.set_cons_zero, List.set_cons_succ, List.length_cons, List.length_nil, ↓reduceIte, decide_eq_true_eq, ev_add, ev_iadd, ev_sub, ev_mod, ev_neg, ev_lt, ev_le, ev_gt, ev_ge, ev_eqI, ev_neI, ev_eqS, ev_neS, ev_isN, ev_int, ev_abs, ev_max, ev_min, ev_lenT, ev_lenC, ev_tupT, Int.reduceLT, Int.reduceLE, Int.reduceNeg, Int.reduceAdd, Int.reduceSub, Int.reduceEq, Nat.reduceAdd, Nat.reduceSub, and_self, ↓List.map_cons, ↓List.map_nil, ↓List.cons_append, ↓List.nil_append, List.replicate, ↓wp_runB, List.map_cons, List.map_nil, List.cons_append, List.nil_append, Nat.sub_self, List.replicate_zero]
    have kd : keyD (D.str "at") = some (.inr "at") := rfl
    have kr : keyD (D.str "draws") = some (.inr "draws") := rfl
    have g1 : ∀ a : Nat, getK [((Sum.inr "draws" : Key), D.ref r), (.inr "at", .int a)] (.inr "at") = some (.int a) := fun a => rfl
    have g2 : ∀ a : Nat, getK [((Sum.inr "draws" : Key), D.ref r), (.inr "at", .int a)] (.inr "draws") = some (.ref r) := fun a => rfl
    have g3 : setK [((Sum.inr "draws" : Key), D.ref r), (.inr "at", .int a)] (.inr "at") (.int (a + 1)) = [((Sum.inr "draws" : Key), D.ref r), (.inr "at", .int (a + 1 : Nat))] := rfl
    have lw : w < h.length := (List.getElem?_eq_some_iff.mp hw).1
    have nwr : w ≠ r := by
      intro e
      rw [e, hr] at hw
      cases hw
    have hw2 : ∀ o, (h.set w o)[w]? = some o := fun o => by rw [List.getElem?_set_self lw]
    have hr2 : ∀ o, (h.set w o)[r]? = some (.lst (ds.map .int)) := fun o => by rw [List.getElem?_set_ne nwr, hr]
    simp only [dictD, hw, kd, kr, g1, dIAdd, dSetK, ↓wpR_ok, List.length_cons, List.length_nil, show (0 + 1 + 1 < sizeLine) = True from by decide, if_true, g3, dIx, ixKD, hw2, hr2, g2, dLen, lenD, List.length_map, dGt, decide_eq_true_eq, dSub, dInt, dMod, ixL]
    by_cases c : ds.length ≤ a
    · rw [if_pos (by omega), nxB, if_pos c]
      exact ⟨rfl, trivial⟩
    · rw [if_neg (by omega)]
      have e : atI (ds.map D.int) (((a : Int) + 1) - 1) = some (.int (ds.getD a 0)) := by
        rw [show ((a : Int) + 1) - 1 = (a : Int) from by omega]
        refine atI_nat ?_
        rw [List.getElem?_map, List.getElem?_eq_getElem (by omega : a < ds.length), List.getD_eq_getElem?_getD, List.getElem?_eq_getElem (by omega : a < ds.length)]
        rfl
      rw [show (((a + 1 : Nat) : Int) - 1) = ((a : Int) + 1) - 1 from by omega, e]
      simp only [↓wpR_ok, hm, if_true, nxB, if_neg c]
      exact ⟨trivial, trivial⟩
  obtain ⟨d, h', e, rfl, rfl⟩ := wpR_elim key
  exact e
noncomputable def m_drawsB_b1 : FS :=
    mIfS (mBl (mOp dGt (mVar 6) (mC (.int 0))))
    (mSeq (mDrop (mBM "list" dAppend (mVar 2) (mCons (mOp dMod (mCall (dInt) (mCons (mVar 6) (mNil))) (mC (.int 997))) (mNil))))
    (mAsg (mOp dFdiv (mVar 6) (mC (.int 997))) (mTo 6)))
    (mSkip)
noncomputable def m_drawsB_r2 : FS :=
    mFor (mRange1 (mCons (mC (.int 60)) (mNil))) (mTo 7)
    (m_drawsB_b1)
noncomputable def m_drawsB_b3 : FS :=
    mSeq (mAsg (mCall (dAbs) (mCons (mCall (dInt) (mCons (mOp dIx (mVar 0) (mVar 4)) (mNil))) (mNil))) (mTo 5))
    (mSeq (mAsg (mOp dMod (mCall (dInt) (mCons (mOp dAdd (mOp dAdd (mOp dMul (mVar 3) (mC (.int 48271))) (mOp dMod (mVar 5) (mC (.int 1000003)))) (mVar 4)) (mNil))) (mC (.int 65537))) (mTo 3))
    (mSeq (mAsg (mC (.int 0)) (mTo 6))
    (mSeq (mIfS (mBl (mOp dGe (mVar 5) (mOp dPow (mC (.int 10)) (mC (.int 18)))))
    (mAsg (mVar 5) (mTo 6))
    (mSeq (mDrop (mBM "list" dAppend (mVar 2) (mCons (mOp dMod (mCall (dInt) (mCons (mVar 5) (mNil))) (mC (.int 997))) (mNil))))
    (mDrop (mBM "list" dAppend (mVar 2) (mCons (mOp dMod (mOp dMod (mCall (dInt) (mCons (mOp dAdd (mOp dMul (mVar 3) (mC (.int 69621))) (mC (.int 5))) (mNil))) (mC (.int 65521))) (mC (.int 997))) (mNil))))))
    (m_drawsB_r2))))
noncomputable def m_drawsB_b4 : FS :=
    mSeq (mAsg (mOp dMod (mCall (dInt) (mCons (mOp dAdd (mOp dAdd (mOp dMul (mVar 3) (mC (.int 16807))) (mVar 4)) (mC (.int 1))) (mNil))) (mC (.int 65537))) (mTo 3))
    (mDrop (mBM "list" dAppend (mVar 2) (mCons (mOp dMod (mCall (dInt) (mCons (mVar 3) (mNil))) (mC (.int 997))) (mNil))))
noncomputable def m_drawsB_r5 : FS :=
    mRet (mSl (mVar 2) (mNoPart) (mPart (mVar 1)))
noncomputable def m_drawsB_r6 : FS :=
    mSeq (mFor (mRange1 (mCons (mVar 1) (mNil))) (mTo 4)
    (m_drawsB_b4))
    (m_drawsB_r5)
noncomputable def m_drawsB : FS :=
    mSeq (mAsg (mLst (mNil)) (mTo 2))
    (mSeq (mAsg (mC (.int 7)) (mTo 3))
    (mSeq (mFor (mRange1 (mCons (mCall (dLen) (mCons (mVar 0) (mNil))) (mNil))) (mTo 4)
    (m_drawsB_b3))
    (m_drawsB_r6)))
def inR (m : Int) (l : List Int) : Prop := ∀ d ∈ l, 0 ≤ d ∧ d < m
theorem inR.app {m : Int} {l : List Int} {x : Int} (h : inR m l) (h0 : 0 ≤ x) (h1 : x < m) : inR m (l ++ [x]) := by
  intro d hd
  rcases List.mem_append.mp hd with e | e
  · exact h d e
  · rw [List.mem_singleton.mp e]; exact ⟨h0, h1⟩
theorem app_int {l : List Int} {x : Int} : l.map D.int ++ [.int x] = (l ++ [x]).map D.int := by simp
/-- the heap while the draws are made: one list more -/
theorem lst_at {h : HS} {l : List D} : lstAt (h ++ [.lst l]) h.length = some l := by simp [lstAt]
theorem lst_set {h : HS} {o o' : MO} : (h ++ [o]).set h.length o' = h ++ [o'] := by simp
theorem ty_lst {h : HS} {l : List D} : tyMD "list" (h ++ [.lst l]) (.ref h.length) = true := by simp [tyMD]
theorem wp_forR {lo : Int} {n : Nat} {g : FG} {u : FS} {σ : Sl} {h : HS} {N : Sl → HS → Prop} {T : Tl} (I : Nat → Sl → HS → Prop) (h0 : I 0 σ h)
    (step : ∀ j σ h, I j σ h → j < n → wpR (g (.int (lo + j)) σ h) (fun σ h => wpS (u σ h) (I (j + 1)) { T with ct := I (j + 1), bk := N }) (fun x h => T.ex x σ h))
    (fin : ∀ σ h, I n σ h → N σ h) : wpS (forL g u (itRange lo n) (itRange lo n).n 0 σ h) N T :=
  wp_forL (itRange lo n) I h0 (fun j σ h i hj => ⟨_, rfl, step j σ h i hj⟩) fun σ h i => ⟨rfl, fin σ h i⟩
theorem mod997 {x : Int} : 0 ≤ x % 997 ∧ x % 997 < 997 := ⟨by omega, by omega⟩
theorem cdiv997 {r : Int} : CDivW r 997 := ⟨by decide, by decide⟩
section
variable {h : HS} {acc : List Int} {T : Tl}
/-- a draw more -/
theorem app_draw {P : D → HS → Prop} {X : XP} {x : Int} (hl : acc.length < 1000000) (k : P .non (h ++ [.lst ((acc ++ [x]).map .int)])) : wpR (dAppend (.ref h.length) [.int x] (h ++ [.lst (acc.map .int)])) P X := by
  simp only [dAppend, lst_at, List.length_map, lst_set, app_int]
  rw [if_pos (Nat.lt_of_lt_of_le hl (by decide)), wpR_ok]
  exact k
theorem draws_b1 {a0 a1 a3 a4 a5 a7 : Option D} {r : Int} (hr : 0 ≤ r) (ha : inR 997 acc) (hl : acc.length < 100000) :
    wpS (m_drawsB_b1 [a0, a1, some (.ref h.length), a3, a4, a5, some (.int r), a7] (h ++ [.lst (acc.map .int)]))
      (fun σ h' => ∃ (acc' : List Int) (r' : Int), σ = [a0, a1, some (.ref h.length), a3, a4, a5, some (.int r'), a7] ∧ h' = h ++ [.lst (acc'.map .int)] ∧ 0 ≤ r' ∧ inR 997 acc' ∧ acc'.length ≤ acc.length + 1) T := by
  unfold m_drawsB_b1
  simp only [↓wp_seq, ↓wp_skip, ↓wp_drop, ↓wp_ret, ↓wp_retN, ↓wp_brk, ↓wp_cnt, ↓wp_if, ↓wp_asg, ↓wp_to, ↓wp_tos, ↓wp_toIx, ↓wp_aug, ↓wp_augK, ↓wp_fldSet, ↓wp_fldAug, ↓wp_var, ↓wp_c, ↓wp_op, ↓wp_un, ↓wp_nil, ↓wp_cons, ↓wp_tup, ↓wp_lst, ↓wp_dict0, ↓wp_dict, ↓wp_pairs0, ↓wp_pairs, ↓wp_call, ↓wp_callF, ↓wp_tru, ↓wp_bl, ↓wp_and, ↓wp_or, ↓wp_not, ↓wp_andV, ↓wp_orV, ↓wp_notV, ↓wp_part, ↓wp_noPart, ↓wp_sl, ↓wp_bm, ↓wp_ifE, ↓wp_fld, ↓wp_meth, ↓wp_make, ↓wp_lockE, ↓wp_rng1, ↓wp_rng2, ↓wp_seqI, ↓wpR_ok, ↓wpS_nx, ↓wpS_rt, List.getElem?_cons_zero, List.getElem?_cons_succ, List.set_cons_zero, List.set_cons_succ, List.length_cons, List.length_nil, ↓reduceIte, decide_eq_true_eq, ev_add, ev_iadd, ev_sub, ev_mod, ev_neg, ev_lt, ev_le, ev_gt, ev_ge, ev_eqI, ev_neI, ev_eqS, ev_neS, ev_isN, ev_int, ev_abs, ev_max, ev_min, ev_lenT, ev_lenC, ev_tupT, Int.reduceLT, Int.reduceLE, Int.reduceNeg, Int.reduceAdd, Int.reduceSub, Int.reduceEq, Nat.reduceAdd, Nat.reduceSub, and_self, ↓List.map_cons, ↓List.map_nil, ↓List.cons_append, ↓List.nil_append, List.replicate, ty_lst]
  by_cases c : 0 < r
  · rw [if_pos c]
    refine app_draw (by omega) ?_
    simp only [ev_fdiv cdiv997, wpR_ok]
    exact ⟨_, _, rfl, rfl, Int.ediv_nonneg hr (by decide), ha.app mod997.1 mod997.2, by simp⟩
  · rw [if_neg c]
    exact ⟨acc, r, rfl, rfl, hr, ha, Nat.le_succ _⟩
theorem draws_r2 {a0 a1 a3 a4 a5 a7 : Option D} {r : Int} (hr : 0 ≤ r) (ha : inR 997 acc) (hl : acc.length < 90000) :
    wpS (m_drawsB_r2 [a0, a1, some (.ref h.length), a3, a4, a5, some (.int r), a7] (h ++ [.lst (acc.map .int)]))
      (fun σ h' => ∃ (acc' : List Int) (a6 a7 : Option D), σ = [a0, a1, some (.ref h.length), a3, a4, a5, a6, a7] ∧ h' = h ++ [.lst (acc'.map .int)] ∧ inR 997 acc' ∧ acc'.length ≤ acc.length + 60) T := by
  unfold m_drawsB_r2
  simp only [↓wp_seq, ↓wp_skip, ↓wp_drop, ↓wp_ret, ↓wp_retN, ↓wp_brk, ↓wp_cnt, ↓wp_if, ↓wp_asg, ↓wp_to, ↓wp_tos, ↓wp_toIx, ↓wp_aug, ↓wp_augK, ↓wp_fldSet, ↓wp_fldAug, ↓wp_var, ↓wp_c, ↓wp_op, ↓wp_un, ↓wp_nil, ↓wp_cons, ↓wp_tup, ↓wp_lst, ↓wp_dict0, ↓wp_dict, ↓wp_pairs0, ↓wp_pairs, ↓wp_call, ↓wp_callF, ↓wp_tru, ↓wp_bl, ↓wp_and, ↓wp_or, ↓wp_not, ↓wp_andV, ↓wp_orV, ↓wp_notV, ↓wp_part, ↓wp_noPart, ↓wp_sl, ↓wp_bm, ↓wp_ifE, ↓wp_fld, ↓wp_meth, ↓wp_make, ↓wp_lockE, ↓wp_rng1, ↓wp_rng2, ↓wp_seqI, ↓wpR_ok, ↓wpS_nx, ↓wpS_rt, List.getElem?_cons_zero, List.getElem?_cons_succ, List.set_cons_zero, List.set_cons_succ, List.length_cons, List.length_nil, ↓reduceIte, decide_eq_true_eq, ev_add, ev_iadd, ev_sub, ev_mod, ev_neg, ev_lt, ev_le, ev_gt, ev_ge, ev_eqI, ev_neI, ev_eqS, ev_neS, ev_isN, ev_int, ev_abs, ev_max, ev_min, ev_lenT, ev_lenC, ev_tupT, Int.reduceLT, Int.reduceLE, Int.reduceNeg, Int.reduceAdd, Int.reduceSub, Int.reduceEq, Nat.reduceAdd, Nat.reduceSub, and_self, ↓List.map_cons, ↓List.map_nil, ↓List.cons_append, ↓List.nil_append, List.replicate, ↓wp_forE]
  rw [if_pos (by decide)]
  refine wp_forR (fun j σ h' => ∃ (acc' : List Int) (r' : Int) (a7 : Option D), σ = [a0, a1, some (.ref h.length), a3, a4, a5, some (.int r'), a7] ∧ h' = h ++ [.lst (acc'.map .int)] ∧ 0 ≤ r' ∧ inR 997 acc' ∧ acc'.length ≤ acc.length + j)
    ⟨acc, r, a7, rfl, rfl, hr, ha, Nat.le_refl _⟩ ?_ ?_
  · rintro j σ h' ⟨acc', r', a7, rfl, rfl, hr', ha', hl'⟩ hj
    simp only [↓wp_seq, ↓wp_skip, ↓wp_drop, ↓wp_ret, ↓wp_retN, ↓wp_brk, ↓wp_cnt, ↓wp_if, ↓wp_asg, ↓wp_to, ↓wp_tos, ↓wp_toIx, ↓wp_aug, ↓wp_augK, ↓wp_fldSet, ↓wp_fldAug, ↓wp_var, ↓wp_c, ↓wp_op, ↓wp_un, ↓wp_nil, ↓wp_cons, ↓wp_tup, ↓wp_lst, ↓wp_dict0, ↓wp_dict, ↓wp_pairs0, ↓wp_pairs, ↓wp_call, ↓wp_callF, ↓wp_tru, ↓wp_bl, ↓wp_and, ↓wp_or, ↓wp_not, ↓wp_andV, ↓wp_orV, ↓wp_notV, ↓wp_part, ↓wp_noPart, ↓wp_sl, ↓wp_bm, ↓wp_ifE, ↓wp_fld, ↓wp_meth, ↓wp_make, ↓wp_lockE, ↓wp_rng1, ↓wp_rng2, ↓wp_seqI, ↓wpR_ok, ↓wpS_nx, ↓wpS_rt, List.getElem?_cons_zero, List.getElem?_cons_succ, List.set_cons_zero, List.set_cons_succ, List.length_cons, List.length_nil, ↓reduceIte, decide_eq_true_eq, ev_add, ev_iadd, ev_sub, ev_mod, ev_neg, ev_lt, ev_le, ev_gt, ev_ge, ev_eqI, ev_neI, ev_eqS, ev_neS, ev_isN, ev_int, ev_abs, ev_max, ev_min, ev_lenT, ev_lenC, ev_tupT, Int.reduceLT, Int.reduceLE, Int.reduceNeg, Int.reduceAdd, Int.reduceSub, Int.reduceEq, Nat.reduceAdd, Nat.reduceSub, and_self, ↓List.map_cons, ↓List.map_nil, ↓List.cons_append, ↓List.nil_append, List.replicate]
    refine wpS_mono (draws_b1 hr' ha' (by have : j < 60 := hj; omega)) ?_
    rintro σ h2 ⟨acc2, r2, rfl, rfl, q1, q2, q3⟩
    exact ⟨acc2, r2, _, rfl, rfl, q1, q2, by omega⟩
  · rintro σ h' ⟨acc', r', a7, rfl, rfl, hr', ha', hl'⟩
    exact ⟨acc', _, _, rfl, rfl, ha', hl'⟩
theorem draws_b3 {ns : List Int} {a1 a5 a6 a7 : Option D} {j : Nat} {mx : Int} (h0 : 0 ≤ mx) (h1 : mx < 65537) (hj : j < ns.length) (ha : inR 997 acc) (hl : acc.length < 80000) :
    wpS (m_drawsB_b3 [some (.cst (ns.map .int)), a1, some (.ref h.length), some (.int mx), some (.int j), a5, a6, a7] (h ++ [.lst (acc.map .int)]))
      (fun σ h' => ∃ (acc' : List Int) (mx' : Int) (a4 a5 a6 a7 : Option D), σ = [some (.cst (ns.map .int)), a1, some (.ref h.length), some (.int mx'), a4, a5, a6, a7] ∧ h' = h ++ [.lst (acc'.map .int)] ∧ 0 ≤ mx' ∧ mx' < 65537 ∧ inR 997 acc' ∧ acc'.length ≤ acc.length + 62) T := by
  unfold m_drawsB_b3
  have e : atI (ns.map D.int) (j : Int) = some (.int ns[j]) := atI_nat (by rw [List.getElem?_map, List.getElem?_eq_getElem hj]; rfl)
  have cm : ∀ y : Int, 0 ≤ y → y < 65537 → ∀ z, CMul y z := fun y h0 h1 z => .inl ⟨by omega, by omega⟩
  simp only [↓wp_seq, ↓wp_skip, ↓wp_drop, ↓wp_ret, ↓wp_retN, ↓wp_brk, ↓wp_cnt, ↓wp_if, ↓wp_asg, ↓wp_to, ↓wp_tos, ↓wp_toIx, ↓wp_aug, ↓wp_augK, ↓wp_fldSet, ↓wp_fldAug, ↓wp_var, ↓wp_c, ↓wp_op, ↓wp_un, ↓wp_nil, ↓wp_cons, ↓wp_tup, ↓wp_lst, ↓wp_dict0, ↓wp_dict, ↓wp_pairs0, ↓wp_pairs, ↓wp_call, ↓wp_callF, ↓wp_tru, ↓wp_bl, ↓wp_and, ↓wp_or, ↓wp_not, ↓wp_andV, ↓wp_orV, ↓wp_notV, ↓wp_part, ↓wp_noPart, ↓wp_sl, ↓wp_bm, ↓wp_ifE, ↓wp_fld, ↓wp_meth, ↓wp_make, ↓wp_lockE, ↓wp_rng1, ↓wp_rng2, ↓wp_seqI, ↓wpR_ok, ↓wpS_nx, ↓wpS_rt, List.getElem?_cons_zero, List.getElem?_cons_succ, List.set_cons_zero, List.set_cons_succ, List.length_cons, List.length_nil, ↓reduceIte, decide_eq_true_eq, ev_add, ev_iadd, ev_sub, ev_mod, ev_neg, ev_lt, ev_le, ev_gt, ev_ge, ev_eqI, ev_neI, ev_eqS, ev_neS, ev_isN, ev_int, ev_abs, ev_max, ev_min, ev_lenT, ev_lenC, ev_tupT, Int.reduceLT, Int.reduceLE, Int.reduceNeg, Int.reduceAdd, Int.reduceSub, Int.reduceEq, Nat.reduceAdd, Nat.reduceSub, and_self, ↓List.map_cons, ↓List.map_nil, ↓List.cons_append, ↓List.nil_append, List.replicate, ev_ixC e, ev_mul (cm _ h0 h1 _), ev_pow (show CPow 10 18 from by decide)]
  have hc : 0 ≤ (if ns[j] < 0 then -ns[j] else ns[j]) := by split <;> omega
  generalize (if ns[j] < 0 then -ns[j] else ns[j]) = c at hc ⊢
  have g0 : 0 ≤ (mx * 48271 + c % 1000003 + (j : Int)) % 65537 := by omega
  have g1 : (mx * 48271 + c % 1000003 + (j : Int)) % 65537 < 65537 := by omega
  generalize (mx * 48271 + c % 1000003 + (j : Int)) % 65537 = mx2 at g0 g1 ⊢
  split
  · rename_i hb
    clear hb
    refine wpS_mono (draws_r2 hc ha (by omega)) ?_
    rintro σ h' ⟨acc', a6, a7, rfl, rfl, q1, q2⟩
    exact ⟨acc', _, _, _, _, _, rfl, rfl, g0, g1, q1, by omega⟩
  · rename_i hb
    clear hb
    rw [if_pos ty_lst]
    refine app_draw (by omega) ?_
    rw [if_pos ty_lst]
    simp only [ev_mul (cm _ g0 g1 _), wpR_ok, ev_add, ev_int, ev_mod, Int.reduceLT]
    refine app_draw (by simp; omega) ?_
    have ha2 : inR 997 ((acc ++ [c % 997]) ++ [(mx2 * 69621 + 5) % 65521 % 997]) := (ha.app mod997.1 mod997.2).app mod997.1 mod997.2
    have hl2 : ((acc ++ [c % 997]) ++ [(mx2 * 69621 + 5) % 65521 % 997]).length = acc.length + 2 := by simp
    generalize (acc ++ [c % 997]) ++ [(mx2 * 69621 + 5) % 65521 % 997] = acc2 at ha2 hl2 ⊢
    have hl3 : acc2.length < 90000 := by omega
    have hz : (0 : Int) ≤ 0 := Int.le_refl 0
    clear cm e h0 h1 hj hl
    have w := draws_r2 (h := h) (T := T) (a0 := some (.cst (ns.map .int))) (a1 := a1) (a3 := some (.int mx2)) (a4 := some (.int j)) (a5 := some (.int c)) (a7 := a7) hz ha2 hl3
    refine wpS_mono w ?_
    rintro σ h' ⟨acc', a6, a7, rfl, rfl, q1, q2⟩
    refine ⟨acc', _, _, _, _, _, rfl, rfl, g0, g1, q1, ?_⟩
    omega
theorem draws_b4 {a0 a1 a5 a6 a7 : Option D} {mx : Int} {k : Nat} (h0 : 0 ≤ mx) (h1 : mx < 65537) (ha : inR 997 acc) (hl : acc.length < 900000) :
    wpS (m_drawsB_b4 [a0, a1, some (.ref h.length), some (.int mx), some (.int k), a5, a6, a7] (h ++ [.lst (acc.map .int)]))
      (fun σ h' => ∃ (acc' : List Int) (mx' : Int), σ = [a0, a1, some (.ref h.length), some (.int mx'), some (.int k), a5, a6, a7] ∧ h' = h ++ [.lst (acc'.map .int)] ∧ 0 ≤ mx' ∧ mx' < 65537 ∧ inR 997 acc' ∧ acc'.length ≤ acc.length + 1) T := by
  unfold m_drawsB_b4
  have cm : ∀ z, CMul mx z := fun z => .inl ⟨by omega, by omega⟩
  simp only [↓wp_seq, ↓wp_skip, ↓wp_drop, ↓wp_ret, ↓wp_retN, ↓wp_brk, ↓wp_cnt, ↓wp_if, ↓wp_asg, ↓wp_to, ↓wp_tos, ↓wp_toIx, ↓wp_aug, ↓wp_augK, ↓wp_fldSet, ↓wp_fldAug, ↓wp_var, ↓wp_c, ↓wp_op, ↓wp_un, ↓wp_nil, ↓wp_cons, ↓wp_tup, ↓wp_lst, ↓wp_dict0, ↓wp_dict, ↓wp_pairs0, ↓wp_pairs, ↓wp_call, ↓wp_callF, ↓wp_tru, ↓wp_bl, ↓wp_and, ↓wp_or, ↓wp_not, ↓wp_andV, ↓wp_orV, ↓wp_notV, ↓wp_part, ↓wp_noPart, ↓wp_sl, ↓wp_bm, ↓wp_ifE, ↓wp_fld, ↓wp_meth, ↓wp_make, ↓wp_lockE, ↓wp_rng1, ↓wp_rng2, ↓wp_seqI, ↓wpR_ok, ↓wpS_nx, ↓wpS_rt, List.getElem?_cons_zero, List.getElem?_cons_succ, List.set_cons_zero, List.set_cons_succ, List.length_cons, List.length_nil, ↓reduceIte, decide_eq_true_eq, ev_add, ev_iadd, ev_sub, ev_mod, ev_neg, ev_lt, ev_le, ev_gt, ev_ge, ev_eqI, ev_neI, ev_eqS, ev_neS, ev_isN, ev_int, ev_abs, ev_max, ev_min, ev_lenT, ev_lenC, ev_tupT, Int.reduceLT, Int.reduceLE, Int.reduceNeg, Int.reduceAdd, Int.reduceSub, Int.reduceEq, Nat.reduceAdd, Nat.reduceSub, and_self, ↓List.map_cons, ↓List.map_nil, ↓List.cons_append, ↓List.nil_append, List.replicate, ev_mul (cm _)]
  rw [if_pos ty_lst]
  refine app_draw (by omega) ?_
  exact ⟨_, _, rfl, rfl, by omega, by omega, ha.app mod997.1 mod997.2, by simp⟩
theorem draws_r6 {a0 a4 a5 a6 a7 : Option D} {mx : Int} {m : Nat} (hm : m ≤ 100000) (h0 : 0 ≤ mx) (h1 : mx < 65537) (ha : inR 997 acc) (hl : acc.length < 100000) 
    (k : ∀ acc' ds : List Int, inR 997 ds → T.rt (.ref (h.length + 1)) (h ++ [.lst (acc'.map .int), .lst (ds.map .int)])) :
    wpS (m_drawsB_r6 [a0, some (.int m), some (.ref h.length), some (.int mx), a4, a5, a6, a7] (h ++ [.lst (acc.map .int)])) (fun _ _ => False) T := by
  unfold m_drawsB_r6
  simp only [↓wp_seq, ↓wp_skip, ↓wp_drop, ↓wp_ret, ↓wp_retN, ↓wp_brk, ↓wp_cnt, ↓wp_if, ↓wp_asg, ↓wp_to, ↓wp_tos, ↓wp_toIx, ↓wp_aug, ↓wp_augK, ↓wp_fldSet, ↓wp_fldAug, ↓wp_var, ↓wp_c, ↓wp_op, ↓wp_un, ↓wp_nil, ↓wp_cons, ↓wp_tup, ↓wp_lst, ↓wp_dict0, ↓wp_dict, ↓wp_pairs0, ↓wp_pairs, ↓wp_call, ↓wp_callF, ↓wp_tru, ↓wp_bl, ↓wp_and, ↓wp_or, ↓wp_not, ↓wp_andV, ↓wp_orV, ↓wp_notV, ↓wp_part, ↓wp_noPart, ↓wp_sl, ↓wp_bm, ↓wp_ifE, ↓wp_fld, ↓wp_meth, ↓wp_make, ↓wp_lockE, ↓wp_rng1, ↓wp_rng2, ↓wp_seqI, ↓wpR_ok, ↓wpS_nx, ↓wpS_rt, List.getElem?_cons_zero, List.getElem?_cons_succ, List.set_cons_zero, List.set_cons_succ, List.length_cons, List.length_nil, ↓reduceIte, decide_eq_true_eq, ev_add, ev_iadd, ev_sub, ev_mod, ev_neg, ev_lt, ev_le, ev_gt, ev_ge, ev_eqI, ev_neI, ev_eqS, ev_neS, ev_isN, ev_int, ev_abs, ev_max, ev_min, ev_lenT, ev_lenC, ev_tupT, Int.reduceLT, Int.reduceLE, Int.reduceNeg, Int.reduceAdd, Int.reduceSub, Int.reduceEq, Nat.reduceAdd, Nat.reduceSub, and_self, ↓List.map_cons, ↓List.map_nil, ↓List.cons_append, ↓List.nil_append, List.replicate, ↓wp_forE]
  rw [if_pos (by omega)]
  refine wp_forR (fun j σ h' => ∃ (acc' : List Int) (mx' : Int) (a4 : Option D), σ = [a0, some (.int m), some (.ref h.length), some (.int mx'), a4, a5, a6, a7] ∧ h' = h ++ [.lst (acc'.map .int)] ∧ 0 ≤ mx' ∧ mx' < 65537 ∧ inR 997 acc' ∧ acc'.length ≤ acc.length + j)
    ⟨acc, mx, a4, rfl, rfl, h0, h1, ha, Nat.le_refl _⟩ ?_ ?_
  · rintro j σ h' ⟨acc', mx', a4, rfl, rfl, q0, q1, q2, q3⟩ hj
    simp only [↓wp_seq, ↓wp_skip, ↓wp_drop, ↓wp_ret, ↓wp_retN, ↓wp_brk, ↓wp_cnt, ↓wp_if, ↓wp_asg, ↓wp_to, ↓wp_tos, ↓wp_toIx, ↓wp_aug, ↓wp_augK, ↓wp_fldSet, ↓wp_fldAug, ↓wp_var, ↓wp_c, ↓wp_op, ↓wp_un, ↓wp_nil, ↓wp_cons, ↓wp_tup, ↓wp_lst, ↓wp_dict0, ↓wp_dict, ↓wp_pairs0, ↓wp_pairs, ↓wp_call, ↓wp_callF, ↓wp_tru, ↓wp_bl, ↓wp_and, ↓wp_or, ↓wp_not, ↓wp_andV, ↓wp_orV, ↓wp_notV, ↓wp_part, ↓wp_noPart, ↓wp_sl, ↓wp_bm, ↓wp_ifE, ↓wp_fld, ↓wp_meth, ↓wp_make, ↓wp_lockE, ↓wp_rng1, ↓wp_rng2, ↓wp_seqI, ↓wpR_ok, ↓wpS_nx, ↓wpS_rt, List.getElem?_cons_zero, List.getElem?_cons_succ, List.set_cons_zero, List.set_cons_succ, List.length_cons, List.length_nil, ↓reduceIte, decide_eq_true_eq, ev_add, ev_iadd, ev_sub, ev_mod, ev_neg, ev_lt, ev_le, ev_gt, ev_ge, ev_eqI, ev_neI, ev_eqS, ev_neS, ev_isN, ev_int, ev_abs, ev_max, ev_min, ev_lenT, ev_lenC, ev_tupT, Int.reduceLT, Int.reduceLE, Int.reduceNeg, Int.reduceAdd, Int.reduceSub, Int.reduceEq, Nat.reduceAdd, Nat.reduceSub, and_self, ↓List.map_cons, ↓List.map_nil, ↓List.cons_append, ↓List.nil_append, List.replicate]
    rw [show (0 : Int) + (j : Int) = (j : Int) from by omega]
    refine wpS_mono (draws_b4 q0 q1 q2 (by omega)) ?_
    rintro σ h2 ⟨acc2, mx2, rfl, rfl, p1, p2, p3, p4⟩
    exact ⟨acc2, mx2, _, rfl, rfl, p1, p2, p3, by omega⟩
  · rintro σ h' ⟨acc', mx', a4, rfl, rfl, q0, q1, q2, q3⟩
    unfold m_drawsB_r5
    simp only [↓wp_seq, ↓wp_skip, ↓wp_drop, ↓wp_ret, ↓wp_retN, ↓wp_brk, ↓wp_cnt, ↓wp_if, ↓wp_asg, ↓wp_to, ↓wp_tos, ↓wp_toIx, ↓wp_aug, ↓wp_augK, ↓wp_fldSet, ↓wp_fldAug, ↓wp_var, ↓wp_c, ↓wp_op, ↓wp_un, ↓wp_nil, ↓wp_cons, ↓wp_tup, ↓wp_lst, ↓wp_dict0, ↓wp_dict, ↓wp_pairs0, ↓wp_pairs, ↓wp_call, ↓wp_callF, ↓wp_tru, ↓wp_bl, ↓wp_and, ↓wp_or, ↓wp_not, ↓wp_andV, ↓wp_orV, ↓wp_notV, ↓wp_part, ↓wp_noPart, ↓wp_sl, ↓wp_bm, ↓wp_ifE, ↓wp_fld, ↓wp_meth, ↓wp_make, ↓wp_lockE, ↓wp_rng1, ↓wp_rng2, ↓wp_seqI, ↓wpR_ok, ↓wpS_nx, ↓wpS_rt, List.getElem?_cons_zero, List.getElem?_cons_succ, List.set_cons_zero, List.set_cons_succ, List.length_cons, List.length_nil, ↓reduceIte, decide_eq_true_eq, ev_add, ev_iadd, ev_sub, ev_mod, ev_neg, ev_lt, ev_le, ev_gt, ev_ge, ev_eqI, ev_neI, ev_eqS, ev_neS, ev_isN, ev_int, ev_abs, ev_max, ev_min, ev_lenT, ev_lenC, ev_tupT, Int.reduceLT, Int.reduceLE, Int.reduceNeg, Int.reduceAdd, Int.reduceSub, Int.reduceEq, Nat.reduceAdd, Nat.reduceSub, and_self, ↓List.map_cons, ↓List.map_nil, ↓List.cons_append, ↓List.nil_append, List.replicate]
    have e : dSl (D.ref h.length) none (some (m : Int)) (h ++ [.lst (acc'.map D.int)]) = .ok (.ref (h.length + 1)) (h ++ [.lst (acc'.map .int), .lst ((acc'.take m).map .int)]) := by
      have e1 : cutD (acc'.map D.int) none (some (m : Int)) = (acc'.take m).map .int := by
        unfold cutD
        have e2 : HT.sIx (acc'.map D.int).length 0 none = 0 := rfl
        have e3 : HT.sIx (acc'.map D.int).length (acc'.map D.int).length (some (m : Int)) = min m (acc'.map D.int).length := HT.sIx_nat _ _ _
        rw [e2, e3, List.drop_zero, Nat.sub_zero, List.map_take, List.take_eq_take_iff]
        omega
      simp only [dSl, List.getElem?_append_right (Nat.le_refl _), Nat.sub_self, List.getElem?_cons_zero, e1, List.length_append, List.length_cons, List.length_nil, List.append_assoc, List.cons_append, List.nil_append]
    rw [e, wpR_ok]
    exact k _ _ fun d hd => q2 d (List.mem_of_mem_take hd)
theorem drawsB_ok {h : HS} {ns : List Int} {m : Nat} (hl : ns.length ≤ 63) (hm : m ≤ 100000) :
    ∃ junk ds : List Int, runB 8 m_drawsB [.cst (ns.map .int), .int m] h = .ok (.ref (h.length + 1)) (h ++ [.lst (junk.map .int), .lst (ds.map .int)]) ∧ inR 997 ds := by
  have key : wpR (runB 8 m_drawsB [.cst (ns.map .int), .int m] h) (fun d h' => ∃ junk ds : List Int, d = .ref (h.length + 1) ∧ h' = h ++ [.lst (junk.map .int), .lst (ds.map .int)] ∧ inR 997 ds) X0 := by
    unfold m_drawsB
    simp only [↓wp_seq, ↓wp_skip, ↓wp_drop, ↓wp_ret, ↓wp_retN, ↓wp_brk, ↓wp_cnt, ↓wp_if, ↓wp_asg, ↓wp_to, ↓wp_tos, ↓wp_toIx, ↓wp_aug, ↓wp_augK, ↓wp_fldSet, ↓wp_fldAug, ↓wp_var, ↓wp_c, ↓wp_op, ↓wp_un, ↓wp_nil, ↓wp_cons, ↓wp_tup, ↓wp_lst, ↓wp_dict0, ↓wp_dict, ↓wp_pairs0, ↓wp_pairs, ↓wp_call, ↓wp_callF, ↓wp_tru, ↓wp_bl, ↓wp_and, ↓wp_or, ↓wp_not, ↓wp_andV, ↓wp_orV, ↓wp_notV, ↓wp_part, ↓wp_noPart, ↓wp_sl, ↓wp_bm, ↓wp_ifE, ↓wp_fld, ↓wp_meth, ↓wp_make, ↓wp_lockE, ↓wp_rng1, ↓wp_rng2, ↓wp_seqI, ↓wpR_ok, ↓wpS_nx, ↓wpS_rt, List.getElem?_cons_zero, List.getElem?_cons_succ, List.set_cons_zero, List.set_cons_succ, List.length_cons, List.length_nil, ↓reduceIte, decide_eq_true_eq, ev_add, ev_iadd, ev_sub, ev_mod, ev_neg, ev_lt, ev_le, ev_gt, ev_ge, ev_eqI, ev_neI, ev_eqS, ev_neS, ev_isN, ev_int, ev_abs, ev_max, ev_min, ev_lenT, ev_lenC, ev_tupT, Int.reduceLT, Int.reduceLE, Int.reduceNeg, Int.reduceAdd, Int.reduceSub, Int.reduceEq, Nat.reduceAdd, Nat.reduceSub, and_self, ↓List.map_cons, ↓List.map_nil, ↓List.cons_append, ↓List.nil_append, List.replicate, ↓wp_runB, ↓wp_forE, List.length_map, Nat.sub_self]
    rw [if_pos (by decide), if_pos (by omega)]
    refine wp_forR (fun j σ h' => ∃ (acc' : List Int) (mx' : Int) (a4 a5 a6 a7 : Option D), σ = [some (.cst (ns.map .int)), some (.int m), some (.ref h.length), some (.int mx'), a4, a5, a6, a7] ∧ h' = h ++ [.lst (acc'.map .int)] ∧ 0 ≤ mx' ∧ mx' < 65537 ∧ inR 997 acc' ∧ acc'.length ≤ 62 * j)
      ⟨[], 7, _, _, _, _, rfl, rfl, by decide, by decide, (fun _ h => by cases h), Nat.le_refl _⟩ ?_ ?_
    · rintro j σ h' ⟨acc', mx', a4, a5, a6, a7, rfl, rfl, q0, q1, q2, q3⟩ hj
      simp only [↓wp_seq, ↓wp_skip, ↓wp_drop, ↓wp_ret, ↓wp_retN, ↓wp_brk, ↓wp_cnt, ↓wp_if, ↓wp_asg, ↓wp_to, ↓wp_tos, ↓wp_toIx, ↓wp_aug, ↓wp_augK, ↓wp_fldSet, ↓wp_fldAug, ↓wp_var, ↓wp_c, ↓wp_op, ↓wp_un, ↓wp_nil, ↓wp_cons, ↓wp_tup, ↓wp_lst, ↓wp_dict0, ↓wp_dict, ↓wp_pairs0, ↓wp_pairs, ↓wp_call, ↓wp_callF, ↓wp_tru, ↓wp_bl, ↓wp_and, ↓wp_or, ↓wp_not, ↓wp_andV, ↓wp_orV, ↓wp_notV, ↓wp_part, ↓wp_noPart, ↓wp_sl, ↓wp_bm, ↓wp_ifE, ↓wp_fld, ↓wp_meth, ↓wp_make, ↓wp_lockE, ↓wp_rng1, ↓wp_rng2, ↓wp_seqI, ↓wpR_ok, ↓wpS_nx, ↓wpS_rt, List.getElem?_cons_zero, List.getElem?_cons_succ, List.set_cons_zero, List.set_cons_succ, List.length_cons, List.length_nil, ↓reduceIte, decide_eq_true_eq, ev_add, ev_iadd, ev_sub, ev_mod, ev_neg, ev_lt, ev_le, ev_gt, ev_ge, ev_eqI, ev_neI, ev_eqS, ev_neS, ev_isN, ev_int, ev_abs, ev_max, ev_min, ev_lenT, ev_lenC, ev_tupT, Int.reduceLT, Int.reduceLE, Int.reduceNeg, Int.reduceAdd, Int.reduceSub, Int.reduceEq, Nat.reduceAdd, Nat.reduceSub, and_self, ↓List.map_cons, ↓List.map_nil, ↓List.cons_append, ↓List.nil_append, List.replicate]
      rw [show (0 : Int) + (j : Int) = (j : Int) from by omega]
      refine wpS_mono (draws_b3 q0 q1 (by omega) q2 (by omega)) ?_
      rintro σ h2 ⟨acc2, mx2, _, _, _, _, rfl, rfl, p1, p2, p3, p4⟩
      exact ⟨acc2, mx2, _, _, _, _, rfl, rfl, p1, p2, p3, by omega⟩
    · intro σ h' hh
      obtain ⟨acc', mx', a4, a5, a6, a7, e1, e2, q0, q1, q2, q3⟩ := hh
      rw [Int.toNat_natCast] at q3
      rw [e1, e2]
      have hl2 : acc'.length < 100000 := by
        have q4 : 62 * ns.length ≤ 62 * 63 := Nat.mul_le_mul_left _ hl
        exact Nat.lt_of_le_of_lt q3 (Nat.lt_of_le_of_lt q4 (by decide))
      refine wpS_mono (draws_r6 hm q0 q1 q2 hl2 fun acc' ds hd => ⟨acc', ds, rfl, rfl, hd⟩) fun _ _ f => f.elim
  obtain ⟨d, h', e, junk, ds, rfl, rfl, q⟩ := wpR_elim key
  exact ⟨junk, ds, e, q⟩
end
end FL

set_option Elab.async false
set_option linter.all false
set_option maxRecDepth 100000
set_option maxHeartbeats 400000
/-! FL, part k: data without places compares as itself; the bag of draws at its place. -/
namespace FL
open PySem PySem.Spec PyProof.Rows L2
/-- data of a depth, without places -/
def okD : Nat → D → Bool
  | 0, _ => false
  | n + 1, d => match d with
    | .non => true
    | .bl _ => true
    | .int _ => true
    | .str x => PyData.strOk x
    | .tup ds => ds.all (okD n)
    | _ => false
theorem okD_up : ∀ {n : Nat} {d : D}, okD n d = true → okD (n + 1) d = true
  | 0, d, e => by cases e
  | n + 1, d, e => by
    cases d <;> first | rfl | exact e | skip
    rename_i ds
    simp only [okD, List.all_eq_true] at e ⊢
    intro x hx
    exact okD_up (e x hx)
theorem okD_le {n m : Nat} {d : D} (h : n ≤ m) (e : okD n d = true) : okD m d = true := by
  induction h with
  | refl => exact e
  | step _ ih => exact okD_up ih
/-- what it reads as -/
theorem okD_py : ∀ {n : Nat} {d : D}, okD n d = true → ∃ p : PyData, (∀ (m : Nat) (h : HS), n ≤ m → pyD m h d = some p) ∧ p.canLay0 = true ∧ p.depth ≤ n
  | 0, d, e => by cases e
  | n + 1, d, e => by
    cases d with
    | non => exact ⟨.none, fun m h hm => by obtain ⟨k, rfl⟩ := Nat.exists_eq_add_of_lt hm; rfl, rfl, Nat.zero_le _⟩
    | bl b => exact ⟨.bool b, fun m h hm => by obtain ⟨k, rfl⟩ := Nat.exists_eq_add_of_lt hm; rfl, rfl, Nat.zero_le _⟩
    | int i => exact ⟨.int i, fun m h hm => by obtain ⟨k, rfl⟩ := Nat.exists_eq_add_of_lt hm; rfl, rfl, Nat.zero_le _⟩
    | str x => exact ⟨.str x, fun m h hm => by obtain ⟨k, rfl⟩ := Nat.exists_eq_add_of_lt hm; rfl, by simp only [PyData.canLay0]; exact e, Nat.zero_le _⟩
    | ty _ => cases e
    | ref _ => cases e
    | cst _ => cases e
    | tup ds =>
      have all : ∀ l : List D, l.all (okD n) = true → ∃ ps : List PyData, (∀ (m : Nat) (h : HS), n ≤ m → l.mapM (pyD m h) = some ps) ∧ PyData.canLayAll0 ps = true ∧ PyData.depthAll ps ≤ n := by
        intro l
        induction l with
        | nil => intro _; exact ⟨[], fun m h _ => rfl, rfl, Nat.zero_le _⟩
        | cons x l ih =>
          intro hl
          rw [List.all_cons, Bool.and_eq_true] at hl
          obtain ⟨p, p1, p2, p3⟩ := okD_py hl.1
          obtain ⟨ps, q1, q2, q3⟩ := ih hl.2
          refine ⟨p :: ps, fun m h hm => ?_, ?_, ?_⟩
          · rw [List.mapM_cons, p1 m h hm, q1 m h hm]; rfl
          · simp only [PyData.canLayAll0, p2, q2, Bool.and_self]
          · simp only [PyData.depthAll]
            exact Nat.max_le.mpr ⟨p3, q3⟩
      obtain ⟨ps, q1, q2, q3⟩ := all ds e
      refine ⟨.tuple ps, fun m h hm => ?_, ?_, ?_⟩
      · obtain ⟨k, rfl⟩ := Nat.exists_eq_add_of_lt hm
        show (ds.mapM (pyD (n + k) h)).map PyData.tuple = _
        rw [q1 _ h (by omega)]
        rfl
      · simp only [PyData.canLay0, q2]
      · simp only [PyData.depth]
        omega
theorem okDs_py {n : Nat} : ∀ {l : List D}, l.all (okD n) = true → ∃ ps : List PyData, (∀ (m : Nat) (h : HS), n ≤ m → l.mapM (pyD m h) = some ps) ∧ PyData.canLayAll0 ps = true ∧ PyData.depthAll ps ≤ n
  | [], _ => ⟨[], fun m h _ => rfl, rfl, Nat.zero_le _⟩
  | x :: l, hl => by
    rw [List.all_cons, Bool.and_eq_true] at hl
    obtain ⟨p, p1, p2, p3⟩ := okD_py hl.1
    obtain ⟨ps, q1, q2, q3⟩ := okDs_py hl.2
    refine ⟨p :: ps, fun m h hm => ?_, ?_, ?_⟩
    · rw [List.mapM_cons, p1 m h hm, q1 m h hm]; rfl
    · simp only [PyData.canLayAll0, p2, q2, Bool.and_self]
    · simp only [PyData.depthAll]
      exact Nat.max_le.mpr ⟨p3, q3⟩
theorem shaped_ok {p : PyData} (h : p.canLay0 = true) (hd : p.depth ≤ 64) : SeqAt.shaped p = true := by
  unfold SeqAt.shaped
  rw [h, decide_eq_true hd]; rfl
section
variable {h : HS} {ds : List D} {n i j : Nat}
/-- two places with the same list -/
theorem eqB_lst (hi : h[i]? = some (.lst ds)) (hj : h[j]? = some (.lst ds)) (ok : ds.all (okD n) = true) (hn : n ≤ 60) : eqB (.ref i) (.ref j) h = some true := by
  obtain ⟨ps, q1, q2, q3⟩ := okDs_py ok
  have c : PyData.canLay0 (.list ps) = true := by simp only [PyData.canLay0, q2]
  have s : SeqAt.shaped (.list ps) = true := shaped_ok c (by simp only [PyData.depth]; omega)
  have e1 : ∀ k, h[k]? = some (.lst ds) → pyD 66 h (.ref k) = some (.list ps) := fun k hk => by
    show (match h[k]? with
      | some (.lst ds) => (ds.mapM (pyD 65 h)).map PyData.list
      | _ => none) = _
    rw [hk]
    show (ds.mapM (pyD 65 h)).map PyData.list = _
    rw [q1 65 h (by omega)]; rfl
  show eqDeep (.ref i) (.ref j) h = _
  unfold eqDeep
  rw [e1 i hi, e1 j hj]
  simp only [s, Bool.and_self, if_true]
  rw [SeqAt.eqv_refl _ c]
theorem eqB_tup (ok : ds.all (okD n) = true) (hn : n ≤ 60) : eqB (.tup ds) (.tup ds) h = some true := by
  obtain ⟨p, q1, q2, q3⟩ := okD_py (n := n + 1) (d := .tup ds) ok
  have s : SeqAt.shaped p = true := shaped_ok q2 (by omega)
  show eqDeep (.tup ds) (.tup ds) h = _
  unfold eqDeep
  rw [q1 66 h (by omega)]
  simp only [s, Bool.and_self, if_true]
  rw [SeqAt.eqv_refl _ q2]
theorem dNe_lst (hi : h[i]? = some (.lst ds)) (hj : h[j]? = some (.lst ds)) (ok : ds.all (okD n) = true) (hn : n ≤ 60) : dNe (.ref i) (.ref j) h = .ok (.bl false) h := by
  unfold dNe
  rw [eqB_lst hi hj ok hn]; rfl
theorem dEq_lst (hi : h[i]? = some (.lst ds)) (hj : h[j]? = some (.lst ds)) (ok : ds.all (okD n) = true) (hn : n ≤ 60) : dEq (.ref i) (.ref j) h = .ok (.bl true) h := by
  unfold dEq
  rw [eqB_lst hi hj ok hn]
theorem dNe_tup (ok : ds.all (okD n) = true) (hn : n ≤ 60) : dNe (.tup ds) (.tup ds) h = .ok (.bl false) h := by
  unfold dNe
  rw [eqB_tup ok hn]; rfl
theorem dEq_tup (ok : ds.all (okD n) = true) (hn : n ≤ 60) : dEq (.tup ds) (.tup ds) h = .ok (.bl true) h := by
  unfold dEq
  rw [eqB_tup ok hn]
end
theorem sz0 : (0 ≤ sizeLine) = True := eq_true (by decide)
theorem sz1 : (1 ≤ sizeLine) = True := eq_true (by decide)
theorem sz2 : (2 ≤ sizeLine) = True := eq_true (by decide)
theorem sz3 : (3 ≤ sizeLine) = True := eq_true (by decide)
theorem sz4 : (4 ≤ sizeLine) = True := eq_true (by decide)
theorem sz5 : (5 ≤ sizeLine) = True := eq_true (by decide)
theorem sz6 : (6 ≤ sizeLine) = True := eq_true (by decide)
theorem sz7 : (7 ≤ sizeLine) = True := eq_true (by decide)
theorem sz8 : (8 ≤ sizeLine) = True := eq_true (by decide)
theorem sz9 : (9 ≤ sizeLine) = True := eq_true (by decide)
theorem ev_keyI {i : Int} : keyD (.int i) = some (.inl i) := rfl
theorem ev_keyS {x : Str} : keyD (.str x) = some (.inr x) := rfl
/-! ### members of short tuples; a part at a heap's end -/
section
variable {h l x : HS} {ds : List D} {u v w z : D} {o : MO} {k : Nat}
theorem ixT0 : dIx (.tup (u :: ds)) (.int 0) h = .ok u h := ev_ixT (atI_nat (j := 0) rfl)
theorem ixT1 : dIx (.tup (u :: v :: ds)) (.int 1) h = .ok v h := ev_ixT (atI_nat (j := 1) rfl)
theorem ixT2 : dIx (.tup (u :: v :: w :: ds)) (.int 2) h = .ok w h := ev_ixT (atI_nat (j := 2) rfl)
theorem ixT3 : dIx (.tup (u :: v :: w :: z :: ds)) (.int 3) h = .ok z h := ev_ixT (atI_nat (j := 3) rfl)
theorem ixTm1 : dIx (.tup [u]) (.int (-1)) h = .ok u h := rfl
theorem ixTm2 : dIx (.tup [u, v]) (.int (-1)) h = .ok v h := rfl
theorem ixTm3 : dIx (.tup [u, v, w]) (.int (-1)) h = .ok w h := rfl
def onH (h l : HS) : HS := h ++ l
theorem onH_nil (h : HS) : onH h [] = h := List.append_nil h
theorem onH_get : (onH h l)[h.length + k]? = l[k]? := by
  unfold onH
  rw [List.getElem?_append_right (by omega)]
  congr 1
  omega
theorem onH_set : (onH h l).set (h.length + k) o = onH h (l.set k o) := by
  unfold onH
  rw [List.set_append_right _ _ (by omega), show h.length + k - h.length = k from by omega]
theorem onH_push : onH h l ++ x = onH h (l ++ x) := List.append_assoc _ _ _
theorem onH_len : (onH h l).length = h.length + l.length := List.length_append
theorem dSet_dK {kvs : List (Key × D)} {i : D} {q : Key} {p : Nat} {d : D} (hp : h[p]? = some (.dK kvs)) (hi : keyD i = some q) (hl : kvs.length < sizeLine) : dSet (.ref p) i d h = some (h.set p (.dK (setK kvs q d))) := by
  simp only [dSet, hp, hi, if_pos hl]
end
/-! ### loops over a list at a place, a tuple; places that stay -/
theorem get_push {h l : HS} {i : Nat} {o : MO} (e : h[i]? = some o) : (h ++ l)[i]? = some o := by
  rw [List.getElem?_append_left (List.getElem?_eq_some_iff.mp e).1, e]
theorem get_set {h : HS} {i : Nat} {o o' : MO} (e : h[i]? = some o) : (h.set i o')[i]? = some o' := List.getElem?_set_self (List.getElem?_eq_some_iff.mp e).1
theorem get_other {h : HS} {i j : Nat} {x : Option MO} {o : MO} (n : i ≠ j) (e : h[j]? = x) : (h.set i o)[j]? = x := by rw [List.getElem?_set_ne n, e]
theorem insD_at {h : HS} {i : Nat} {C : Addr} {fs : List (Str × D)} {Cs : List Addr} (e : h[i]? = some (.ins C fs)) (hc : C ∈ Cs) : insD Cs h (.ref i) = some (i, C, fs) := by
  simp only [insD, e, if_pos hc]
theorem ev_eqB {h : HS} {a b : Bool} : dEq (.bl a) (.bl b) h = .ok (D.bl (decide (a = b))) h := by
  show R.ok (D.bl (decide (V.bl a = V.bl b))) h = _
  simp
theorem ev_neB {h : HS} {a b : Bool} : dNe (.bl a) (.bl b) h = .ok (D.bl (!decide (a = b))) h := by
  show R.ok (D.bl (!decide (V.bl a = V.bl b))) h = _
  simp
section
variable {σ : Sl} {h : HS} {g : FG} {u : FS} {N : Sl → HS → Prop} {T : Tl} {X : XP} {p : Nat} {ds : List D}
theorem wp_forS (hp : h[p]? = some (.lst ds)) (I : Nat → Sl → HS → Prop) (h0 : I 0 σ h) (keep : ∀ j σ h, I j σ h → h[p]? = some (.lst ds))
    (step : ∀ (j : Nat) (hj : j < ds.length) (σ : Sl) (h : HS), I j σ h → wpR (g ds[j] σ h) (fun σ h => wpS (u σ h) (I (j + 1)) { T with ct := I (j + 1), bk := N }) (fun x h => T.ex x σ h))
    (fin : ∀ σ h, I ds.length σ h → N σ h) : wpR (itSeq (.ref p) h) (fun J h => wpS (forL g u J J.n 0 σ h) N T) X := by
  have e : lstAt h p = some ds := by simp only [lstAt, hp]
  simp only [itSeq, e, wpR_ok]
  refine wp_forL _ I h0 (fun j σ h i hj => ⟨ds[j], ?_, step j hj σ h i⟩) fun σ h i => ⟨?_, fin σ h i⟩
  · have e2 : lstAt h p = some ds := by simp only [lstAt, keep j σ h i]
    simp only [e2, Option.bind]
    exact List.getElem?_eq_getElem hj
  · have e2 : lstAt h p = some ds := by simp only [lstAt, keep _ σ h i]
    simp only [e2, Option.any, Nat.le_refl, decide_true]
theorem wp_forT (I : Nat → Sl → HS → Prop) (h0 : I 0 σ h)
    (step : ∀ (j : Nat) (hj : j < ds.length) (σ : Sl) (h : HS), I j σ h → wpR (g ds[j] σ h) (fun σ h => wpS (u σ h) (I (j + 1)) { T with ct := I (j + 1), bk := N }) (fun x h => T.ex x σ h))
    (fin : ∀ σ h, I ds.length σ h → N σ h) : wpR (itSeq (.tup ds) h) (fun J h => wpS (forL g u J J.n 0 σ h) N T) X := by
  simp only [itSeq, wpR_ok]
  exact wp_forL _ I h0 (fun j σ h i hj => ⟨ds[j], List.getElem?_eq_getElem hj, step j hj σ h i⟩) fun σ h i => ⟨rfl, fin σ h i⟩
variable {tg : Tgt} {tt : FT} {te : FE} {P : List D → HS → Prop} {X' : XP}
theorem wp_lcS (hp : h[p]? = some (.lst ds)) (I : Nat → List D → HS → Prop) (h0 : I 0 [] h) (keep : ∀ j acc h, I j acc h → h[p]? = some (.lst ds))
    (step : ∀ (j : Nat) (hj : j < ds.length) (acc : List D) (h : HS), I j acc h → wpR (tg.m ds[j] σ h) (fun σ h => wpR (tt σ h) (fun b h => if b = true then wpR (te σ h) (fun y h => acc.length < sizeLine ∧ I (j + 1) (acc ++ [y]) h) X0 else I (j + 1) acc h) X0) X0)
    (fin : ∀ acc h, I ds.length acc h → P acc h) : wpR (itSeq (.ref p) h) (fun J h => wpR (lcL tg tt te J σ J.n 0 [] h) P X') X := by
  have e : lstAt h p = some ds := by simp only [lstAt, hp]
  simp only [itSeq, e, wpR_ok]
  refine wp_lcL _ I h0 (fun j acc h i hj => ⟨ds[j], ?_, step j hj acc h i⟩) fun acc h i => ⟨?_, fin acc h i⟩
  · have e2 : lstAt h p = some ds := by simp only [lstAt, keep j acc h i]
    simp only [e2, Option.bind]
    exact List.getElem?_eq_getElem hj
  · have e2 : lstAt h p = some ds := by simp only [lstAt, keep _ acc h i]
    simp only [e2, Option.any, Nat.le_refl, decide_true]
theorem wp_lcR {lo : Int} {n : Nat} (I : Nat → List D → HS → Prop) (h0 : I 0 [] h)
    (step : ∀ (j : Nat), j < n → ∀ (acc : List D) (h : HS), I j acc h → wpR (tg.m (.int (lo + j)) σ h) (fun σ h => wpR (tt σ h) (fun b h => if b = true then wpR (te σ h) (fun y h => acc.length < sizeLine ∧ I (j + 1) (acc ++ [y]) h) X0 else I (j + 1) acc h) X0) X0)
    (fin : ∀ acc h, I n acc h → P acc h) : wpR (lcL tg tt te (itRange lo n) σ (itRange lo n).n 0 [] h) P X' :=
  wp_lcL _ I h0 (fun j acc h i hj => ⟨_, rfl, step j hj acc h i⟩) fun acc h i => ⟨rfl, fin acc h i⟩
theorem wp_lcV {kvs : List (Key × D)} (hp : h[p]? = some (.fdK kvs)) (I : Nat → List D → HS → Prop) (h0 : I 0 [] h)
    (step : ∀ (j : Nat) (hj : j < kvs.length) (acc : List D) (h : HS), I j acc h → wpR (tg.m (kvs[j]).2 σ h) (fun σ h => wpR (tt σ h) (fun b h => if b = true then wpR (te σ h) (fun y h => acc.length < sizeLine ∧ I (j + 1) (acc ++ [y]) h) X0 else I (j + 1) acc h) X0) X0)
    (fin : ∀ acc h, I kvs.length acc h → P acc h) : wpR (itVals (.ref p) h) (fun J h => wpR (lcL tg tt te J σ J.n 0 [] h) P X') X := by
  have e : fdAt h p = some kvs := by simp only [fdAt, hp]
  simp only [itVals, e, wpR_ok]
  refine wp_lcL _ I h0 (fun j acc h i hj => ⟨(kvs[j]).2, ?_, step j hj acc h i⟩) fun acc h i => ⟨rfl, fin acc h i⟩
  show (kvs[j]?).map (·.2) = _
  rw [List.getElem?_eq_getElem hj]; rfl
theorem wp_one {i : Nat} {d : D} {Q : Sl → HS → Prop} : wpR ((Tgt.one i).m d σ h) Q X ↔ Q (σ.set i (some d)) h := wp_to
theorem wp_many {is : List Nat} {d : D} {Q : Sl → HS → Prop} : wpR ((Tgt.many is).m d σ h) Q X ↔ match d with
  | .tup ds => match setAll is ds σ with
    | some σ' => Q σ' h
    | none => False
  | _ => False := wp_tos
theorem wp_yes {Q : Bool → HS → Prop} : wpR (mYes σ h) Q X ↔ Q true h := wpR_ok
theorem wp_valsI {e : FE} {Q : ItD → HS → Prop} : wpR (mValsI e σ h) Q X ↔ wpR (e σ h) (fun d h => wpR (itVals d h) Q X) X := wpR_bind
theorem wp_keysI {e : FE} {Q : ItD → HS → Prop} : wpR (mKeysI e σ h) Q X ↔ wpR (e σ h) (fun d h => wpR (itKeys d h) Q X) X := wpR_bind
end
/-! ### the heap of a law of the k60 family: draws, bag, then what else there is -/
theorem nxB_lt {ds : List Int} {a : Nat} {m : Int} (hd : inR 997 ds) (hm : 0 < m) : 0 ≤ nxB ds a m ∧ nxB ds a m < m := by
  unfold nxB
  split
  · omega
  · exact ⟨Int.emod_nonneg _ (by omega), Int.emod_lt_of_pos _ hm⟩
/-- the fixed part, the part of before, the part at work -/
def mkB (js ds : List Int) (a : Nat) (r l : HS) : HS := .lst (js.map .int) :: .lst (ds.map .int) :: bagB 1 a :: (r ++ l)
def pB (r : HS) : Nat := r.length + 3
section
variable {js ds : List Int} {a : Nat} {r l : HS} {m : Int} {o : MO} {k : Nat}
theorem mkB_next (hm : 0 < m) : runB 2 m_nextB [.ref 2, .int m] (mkB js ds a r l) = .ok (.int (nxB ds a m)) (mkB js ds (a + 1) r l) := nextB_ok (r := 1) rfl rfl hm
theorem mkB_get : (mkB js ds a r l)[pB r + k]? = l[k]? := by
  have e : pB r + k = r.length + k + 1 + 1 + 1 := by unfold pB; omega
  rw [e]
  show (r ++ l)[r.length + k]? = _
  rw [List.getElem?_append_right (by omega)]
  congr 1
  omega
theorem mkB_set : (mkB js ds a r l).set (pB r + k) o = mkB js ds a r (l.set k o) := by
  have e : pB r + k = r.length + k + 1 + 1 + 1 := by unfold pB; omega
  rw [e]
  show MO.lst (js.map .int) :: .lst (ds.map .int) :: bagB 1 a :: ((r ++ l).set (r.length + k) o) = _
  rw [List.set_append_right _ _ (by omega), show r.length + k - r.length = k from by omega]
  rfl
theorem mkB_push {x : HS} : mkB js ds a r l ++ x = mkB js ds a r (l ++ x) := by simp [mkB]
theorem mkB_len : (mkB js ds a r l).length = pB r + l.length := by
  simp [mkB, pB]
  omega
end
/-! ### a heap that grew while draws were taken -/
theorem set_self {h : HS} {p : Nat} {o : MO} (e : h[p]? = some o) : h.set p o = h := by
  obtain ⟨hp, e⟩ := List.getElem?_eq_some_iff.mp e
  subst e
  exact List.set_getElem_self hp
theorem set_setp {h l : HS} {i : Nat} {o o' : MO} (hi : i < h.length) : (h.set i o ++ l).set i o' = h.set i o' ++ l := by
  rw [List.set_append_left _ _ (by rw [List.length_set]; exact hi), List.set_set]
/-- h is h0 but for the draws taken and what was laid behind -/
def Dw (ds : List Int) (h0 h : HS) : Prop := h0[1]? = some (.lst (ds.map .int)) ∧ 2 < h0.length ∧ ∃ (a : Nat) (l : HS), h = h0.set 2 (bagB 1 a) ++ l
section
variable {ds : List Int} {h0 h h1 l : HS} {a i : Nat} {m : Int} {P : D → HS → Prop} {X : XP} {o : MO}
theorem Dw.refl (hb : h0[2]? = some (bagB 1 a)) (hd : h0[1]? = some (.lst (ds.map .int))) : Dw ds h0 h0 :=
  ⟨hd, (List.getElem?_eq_some_iff.mp hb).1, a, [], by rw [set_self hb, List.append_nil]⟩
theorem Dw.push (w : Dw ds h0 h) : Dw ds h0 (h ++ l) := by
  obtain ⟨w1, w2, a, l1, rfl⟩ := w
  exact ⟨w1, w2, a, l1 ++ l, List.append_assoc _ _ _⟩
theorem Dw.get (w : Dw ds h0 h) (n : i ≠ 2) (e : h0[i]? = some o) : h[i]? = some o := by
  obtain ⟨w1, w2, a, l1, rfl⟩ := w
  exact get_push (get_other (Ne.symm n) e)
theorem Dw.bag (w : Dw ds h0 h) : ∃ a, h[2]? = some (bagB 1 a) ∧ h[1]? = some (.lst (ds.map .int)) := by
  obtain ⟨w1, w2, a, l1, rfl⟩ := w
  exact ⟨a, get_push (List.getElem?_set_self w2), get_push (get_other (by decide) w1)⟩
theorem Dw.le (w : Dw ds h0 h) : h0.length ≤ h.length := by
  obtain ⟨w1, w2, a, l1, rfl⟩ := w
  rw [List.length_append, List.length_set]
  omega
theorem Dw.trans (w : Dw ds h0 h) (v : Dw ds h h1) : Dw ds h0 h1 := by
  obtain ⟨w1, w2, a, l1, rfl⟩ := w
  obtain ⟨v1, v2, b, l2, rfl⟩ := v
  refine ⟨w1, w2, b, l1 ++ l2, ?_⟩
  rw [set_setp w2, List.append_assoc]
theorem Dw.self (w : Dw ds h0 h) : Dw ds h h := by
  obtain ⟨a, e1, e2⟩ := w.bag
  exact Dw.refl e1 e2
/-- a draw -/
theorem Dw.next (hd : inR 997 ds) (w : Dw ds h0 h) (hm : 0 < m) (k : ∀ (v : Int) (h' : HS), 0 ≤ v → v < m → Dw ds h0 h' → P (.int v) h') : wpR (runB 2 m_nextB [.ref 2, .int m] h) P X := by
  obtain ⟨b, e1, e2⟩ := w.bag
  rw [nextB_ok e1 e2 hm, wpR_ok]
  obtain ⟨q1, q2⟩ := nxB_lt (a := b) hd hm
  refine k _ _ q1 q2 ?_
  obtain ⟨w1, w2, a, l1, rfl⟩ := w
  exact ⟨w1, w2, b + 1, l1, set_setp w2⟩
end
end FL

set_option Elab.async false
set_option linter.all false
set_option maxRecDepth 100000
/-! FL, part l: defs that call themselves; reversed; constants of the module. -/
namespace FL
open PySem PySem.Spec PyProof.Rows L2
section
variable {P : Program} {w : World} {K : PySem.W.Frag} {mg : Str → Option Value} {base : Heap}
/-- no fuel left: nothing is promised -/
theorem fn_bad {k : Nat} {f : Addr} {fd : FuncData} {ps : List Str} {n : Nat} (hn : n = ps.length) : FnOk P w K mg base (L2.CX P w) k f fd ps (spF K n fun _ _ => .bad) :=
  ⟨fun vs H Q E q => by obtain ⟨_, _, _, _, _, hl, _⟩ := q; rw [hl, hn], fun A outer s H args us vs Q E hr he hb hv hs => by obtain ⟨_, _, _, _, _, _, p⟩ := hs; exact p.elim⟩
end
/-! ### reversed -/
def itRev (d : D) (h : HS) : R ItD := match d with
  | .tup ds => .ok ⟨ds.length, fun j _ => ds[ds.length - 1 - j]?, fun _ => true⟩ h
  | .cst ds => .ok ⟨ds.length, fun j _ => ds[ds.length - 1 - j]?, fun _ => true⟩ h
  | .ref i => match lstAt h i with
    | some ds => .ok ⟨ds.length, fun j h' => (lstAt h' i).bind fun ds' => ds'[ds.length - 1 - j]?, fun _ => true⟩ h
    | none => .bad
  | _ => .bad
def mRevI (m : FE) : FI := fun σ h => (m σ h).bind itRev
section
variable {X : Cx} {W : WX} {tg e : Expr} {m : FE}
theorem gi_rev {p pos : Pos} (hm : X.mg "reversed" = none) (he : GE X W e m) (hg : Gl X "reversed" := by rfl) (hs : starEach [e] X.env = (false, eval e X.env) :: starEach [] X.env := by rfl) : GI X W tg (.Call (.Name "reversed" p) [e] [] pos) (mRevI m) :=
  pi_mono (RT.pi_revA hg hm he hs) fun σ H Q ⟨ρ, σh, h, r, s, p⟩ => ⟨ρ, σh, h, r, s, Post.of_bind p fun d h1 ρ1 v H1 e1 r1 z1 p1 => by
    cases z1 with
    | tup q zs =>
      rename_i a vs ds
      refine ⟨_, vs, rfl, .inr ⟨q, p1.use r1 fun ρ h H r e => ?_⟩⟩
      have q' := sqT_kp (.of r1 e) q
      have zs' := zs.mono r1 e
      refine ⟨fun j d hj hd => ?_, fun _ => by rw [zs.length]; exact Nat.le_refl _⟩
      obtain ⟨v, ev, zv⟩ := zs'.get hd
      rw [zs.length] at hj ev
      exact ⟨⟨hj, vs, v, q', ev⟩, fun x H' ⟨eH, hx⟩ => by
        subst eH
        have := hx vs q'
        rw [ev] at this; cases this
        exact ⟨.refl, r, zv⟩⟩
    | cst q zs =>
      rename_i a vs ds
      refine ⟨_, vs, rfl, .inl ⟨q.sq, p1.use r1 fun ρ h H r e => ?_⟩⟩
      have q' := (csL_kp (.of r1 e) q).sq
      have zs' := zs.mono r1 e
      refine ⟨fun j d hj hd => ?_, fun _ => by rw [zs.length]; exact Nat.le_refl _⟩
      obtain ⟨v, ev, zv⟩ := zs'.get hd
      rw [zs.length] at hj ev
      exact ⟨⟨hj, vs, v, q', ev⟩, fun x H' ⟨eH, hx⟩ => by
        subst eH
        have := hx vs q'
        rw [ev] at this; cases this
        exact ⟨.refl, r, zv⟩⟩
    | ref q =>
      rename_i i a
      unfold itRev at p1
      simp only at p1
      cases q1 : lstAt h1 i with
      | none => rw [q1] at p1; exact p1.elim
      | some ds =>
        rw [q1] at p1
        obtain ⟨vs, hv, zs⟩ := lstAt_ok r1 q q1
        refine ⟨_, vs, rfl, .inl ⟨SqL.of hv, p1.use r1 fun ρ h H r e => ?_⟩⟩
        have q' := e.ix q
        refine ⟨fun j d hj hd => ?_, fun _ => by rw [zs.length]; exact Nat.le_refl _⟩
        obtain ⟨ds', e2, e3⟩ := Option.bind_eq_some_iff.mp hd
        obtain ⟨vs', hv', zs'⟩ := lstAt_ok r q' e2
        obtain ⟨v, ev, zv⟩ := zs'.get e3
        rw [zs.length] at hj ev
        exact ⟨⟨hj, vs', v, SqL.of hv', ev⟩, fun x H' ⟨eH, hx⟩ => by
          subst eH
          have := hx vs' (SqL.of hv')
          rw [ev] at this; cases this
          exact ⟨.refl, r, zv⟩⟩
    | _ => exact p1.elim⟩
end
/-! ### constants of the module -/
mutual
/-- a value of the written part that reads as data -/
inductive KDv (K : PySem.W.Frag) : D → Value → Prop where
  | non : KDv K .non .none
  | bl (b : Bool) : KDv K (.bl b) (.bool b)
  | int (i : Int) (t : Tok) : KDv K (.int i) (.int i t)
  | str (x : Str) (t : Tok) : KDv K (.str x) (.str x t)
  | tup {a : Addr} {ds : List D} {od : Option Addr} {its : Array Value} {n : Nat} {sl : Array (Option Value)} (l : K.lookup a = some ⟨.type "tuple", od, .seq its n, sl⟩) (hl : its.size ≤ sizeLine) (all : KDvs K ds its.toList) : KDv K (.tup ds) (.ref a)
inductive KDvs (K : PySem.W.Frag) : List D → List Value → Prop where
  | nil : KDvs K [] []
  | cons {d : D} {u : Value} {ds : List D} {us : List Value} (h : KDv K d u) (t : KDvs K ds us) : KDvs K (d :: ds) (u :: us)
end
mutual
theorem KDv.ok {K : PySem.W.Frag} : ∀ {d : D} {u : Value}, KDv K d u → ∃ v : V, RelV v u ∧ ∀ ρ H, DV K ρ H d v
  | _, _, .non => ⟨.non, rfl, fun _ _ => .non⟩
  | _, _, .bl b => ⟨.bl b, rfl, fun _ _ => .bl b⟩
  | _, _, .int i t => ⟨.int i, ⟨t, rfl⟩, fun _ _ => .int i⟩
  | _, _, .str x t => ⟨.str x, ⟨t, rfl⟩, fun _ _ => .str x⟩
  | _, _, .tup l hl all => by
    obtain ⟨vs, h1, h2⟩ := all.ok
    exact ⟨.ref _, rfl, fun ρ H => .tup (.inr ⟨_, _, _, l, rfl, rfl, hl, h1⟩) (h2 ρ H)⟩
theorem KDvs.ok {K : PySem.W.Frag} : ∀ {ds : List D} {us : List Value}, KDvs K ds us → ∃ vs : List V, Vals vs us ∧ ∀ ρ H, DVs K ρ H ds vs
  | _, _, .nil => ⟨[], .nil, fun _ _ => .nil⟩
  | _, _, .cons h t => by
    obtain ⟨v, h1, h2⟩ := h.ok
    obtain ⟨vs, t1, t2⟩ := t.ok
    exact ⟨v :: vs, .cons h1 t1, fun ρ H => .cons (h2 ρ H) (t2 ρ H)⟩
end
/-- what a name of the module stands for -/
def KName (K : PySem.W.Frag) (mg : Str → Option Value) (x : Str) (d : D) : Prop := ∃ u, mg x = some u ∧ KDv K d u
theorem g_glob {X : Cx} {W : WX} {x : Str} {d : D} {pos : Pos} (h : KName X.K X.mg x d) (hg : Gl X x := by rfl) (hd : (x == ("__debug__" : Str)) = false := by decide) : GE X W (.Name x pos) (mC d) := by
  obtain ⟨u, hm, k⟩ := h
  obtain ⟨v, r, z⟩ := k.ok
  exact pe_mono (pe_glob hg hm r hd) fun σ H Q ⟨ρ, σh, h, rr, s, p⟩ => p.use rr (z ρ H)
end FL

set_option Elab.async false
set_option linter.all false
set_option maxRecDepth 100000
/-! FL, part m: sorted of texts. -/
namespace FL
open PySem PySem.Spec PyProof.Rows L2
/-! ### the order of texts -/
def leS (a b : Str) : Prop := a.cps.toList ≤ b.cps.toList
instance (a b : Str) : Decidable (leS a b) := by unfold leS; infer_instance
def leB (a b : Str) : Bool := decide (leS a b)
theorem leS_trans {a b c : Str} (h1 : leS a b) (h2 : leS b c) : leS a c := List.le_trans h1 h2
theorem leS_total (a b : Str) : leS a b ∨ leS b a := List.le_total _ _
theorem leS_anti {a b : Str} (h1 : leS a b) (h2 : leS b a) : a = b := by
  have e := List.le_antisymm h1 h2
  obtain ⟨⟨l⟩⟩ := a
  obtain ⟨⟨m⟩⟩ := b
  simp only at e
  subst e
  rfl
def sortS (xs : List Str) : List Str := xs.mergeSort leB
theorem sortS_perm (xs : List Str) : (sortS xs).Perm xs := List.mergeSort_perm xs _
theorem sortS_sorted (xs : List Str) : (sortS xs).Pairwise leS := by
  have h := List.pairwise_mergeSort (le := leB) (fun a b c h1 h2 => decide_eq_true (leS_trans (of_decide_eq_true h1) (of_decide_eq_true h2))) (fun a b => by
    rw [Bool.or_eq_true]
    exact (leS_total a b).imp (fun h => decide_eq_true h) fun h => decide_eq_true h) xs
  exact h.imp fun h => of_decide_eq_true h
theorem rising_pw : ∀ (l : List Str) (p : Str), risingS p l = true → (p :: l).Pairwise leS
  | [], p, _ => List.pairwise_singleton _ _
  | x :: r, p, h => by
    have h0 : (!ltCps x.cps.toList p.cps.toList && risingS x r) = true := h
    rw [Bool.and_eq_true] at h0
    have ih := rising_pw r x h0.2
    have hp : leS p x := by
      have q := h0.1
      rw [ltCps_eq, Bool.not_eq_true', decide_eq_false_iff_not] at q
      exact List.not_lt.mp q
    refine List.pairwise_cons.mpr ⟨fun y hy => ?_, ih⟩
    rcases List.mem_cons.mp hy with e | e
    · rw [e]; exact hp
    · exact leS_trans hp ((List.pairwise_cons.mp ih).1 y e)
theorem sorted_pw {l : List Str} (h : sortedS l = true) : l.Pairwise leS := by
  cases l with
  | nil => exact List.Pairwise.nil
  | cons x r => exact rising_pw r x h
theorem sortS_eq {xs ys : List Str} (hp : ys.Perm xs) (hs : ys.Pairwise leS) : ys = sortS xs :=
  List.Perm.eq_of_pairwise (fun a b _ _ h1 h2 => leS_anti h1 h2) hs (sortS_sorted xs) (hp.trans (sortS_perm xs).symm)
/-! ### sorted -/
def unS : D → Option Str
  | .str x => some x
  | _ => none
def strsD : List D → Option (List Str)
  | [] => some []
  | d :: ds => match FL.unS d, strsD ds with
    | some i, some is => some (i :: is)
    | _, _ => none
theorem strsD_eq : ∀ {ds : List D} {xs : List Str}, strsD ds = some xs → ds = xs.map D.str
  | [], xs, e => by cases e; rfl
  | d :: ds, xs, e => by
    cases d <;> simp only [strsD, FL.unS] at e <;> first | (cases e; done) | skip
    cases q : strsD ds with
    | none => rw [q] at e; cases e
    | some is =>
      rw [q] at e
      cases e
      rw [strsD_eq q]; rfl
theorem strsD_map : ∀ xs : List Str, strsD (xs.map .str) = some xs
  | [] => rfl
  | x :: xs => by simp only [List.map_cons, strsD, FL.unS, strsD_map xs]
theorem DVs.strsM {K : PySem.W.Frag} {ρ : List Addr} {H : Hp} : ∀ (xs : List Str), DVs K ρ H (xs.map D.str) (xs.map V.str)
  | [] => .nil
  | x :: xs => .cons (.str x) (DVs.strsM xs)
theorem DVs.strs_back {K : PySem.W.Frag} {ρ : List Addr} {H : Hp} : ∀ {xs : List Str} {vs : List V}, DVs K ρ H (xs.map D.str) vs → vs = xs.map V.str
  | [], _, .nil => rfl
  | x :: xs, _, .cons (.str _) t => by rw [DVs.strs_back t]; rfl
def dSortA (ds : List D) (h : HS) : R D := match dSorted ds h with
  | .ok d h' => .ok d h'
  | .ex x h' => .ex x h'
  | .bad => match ds with
    | [d] => match (listD h d).bind strsD with
      | some xs => .ok (.ref h.length) (h ++ [.lst ((sortS xs).map D.str)])
      | none => .bad
    | _ => .bad
def rSortedSA (K : PySem.W.Frag) : RL := fun vs H Q => ∃ (a : Addr) (xs : List Str), vs = [V.ref a] ∧ SqL K H a (xs.map V.str) ∧
  ∀ (ys : List Str) (p : Addr), ys.Perm xs → sortedS ys = true → H p = none → Q (.ref p) (upd H p (.lst (ys.map V.str)))
theorem cr_sortedSA {X : Cx} : CallR X (.builtin "sorted") (rSortedSA X.K) := by
  intro pins s σ H vs us Q I r h
  obtain ⟨a, xs, rfl, hs, q⟩ := h
  obtain ⟨its, rv, hl, hz⟩ := I.list hs
  rw [Vals.ref1 r]
  refine PyProof.Rows.sorted_strsAny hl.isList rv.strs (by rw [← rv.length]; exact hz) fun out ys h1 h2 h3 => ?_
  obtain ⟨ep, he'⟩ := PyProof.Rows.sortedAll_at s.heap its out
  have hlen : (ys.map V.str).length ≤ sizeLine := by
    rw [List.length_map, h2.length_eq]
    rw [List.length_map] at hz
    exact hz
  exact ⟨.ref _, upd H (s.heap.objs.size + 1) (.lst (ys.map V.str)), I.laid (t' := s.toks) (fun _ _ => PyProof.Rows.sortedAll_old) (Nat.le_succ _) ⟨hlen, out.toList, ep, vals_of_strs h1, he'⟩, rfl, q ys _ h2 h3 (I.hok.fresh (Nat.le_succ _))⟩
def rSortA (K : PySem.W.Frag) : RL := fun vs H Q => rSorted2 K vs H Q ∨ rSortedSA K vs H Q
theorem o_sortA {X : Cx} (hc : X.calm = true) : CallR X (.builtin "sorted") (rSortA X.K) := CallR.or (o_sorted hc) cr_sortedSA
theorem s_sortA {K : PySem.W.Frag} : CallS K dSortA (rSortA K) := by
  intro ρ h H ds vs W Q r z0 p
  unfold dSortA at p
  cases e : dSorted ds h with
  | ok d h' =>
    rw [e] at p
    exact .inl (s_sorted ρ h H ds vs W Q r z0 (by rw [e]; exact p))
  | ex x h' =>
    rw [e] at p
    exact .inl (s_sorted ρ h H ds vs W Q r z0 (by rw [e]; exact p))
  | bad =>
    rw [e] at p
    match ds, z0, p with
    | [d], zz, p =>
      obtain ⟨v, rfl, z⟩ := zz.one
      simp only at p
      cases e1 : (listD h d).bind strsD with
      | none => rw [e1] at p; exact p.elim
      | some xs =>
        rw [e1] at p
        obtain ⟨ds', e2, e3⟩ := Option.bind_eq_some_iff.mp e1
        obtain ⟨a, vs', rfl, hs, zs⟩ := listD_ok r z e2
        have e4 := strsD_eq e3
        subst e4
        rw [DVs.strs_back zs] at hs
        refine .inr ⟨a, xs, rfl, hs, fun ys q hp hso hq => ?_⟩
        have ey := sortS_eq hp (sorted_pw hso)
        subst ey
        exact post_lst r (DVs.strsM _) p q hq
    | [], _, p => exact p.elim
    | _ :: _ :: _, _, p => exact p.elim
end FL

set_option Elab.async false
set_option linter.all false
set_option maxRecDepth 100000
set_option maxHeartbeats 400000
/-! FL, part n: the draws of the laws k20 to k34, k90. -/
namespace FL
open PySem PySem.Spec PyProof.Rows L2
abbrev bagA (a : Nat) (s : Int) : MO := .dK [(.inr "row", .ref 0), (.inr "at", .int a), (.inr "seed", .int s)]
noncomputable def m_nextA : FS :=
    mSeq (mAsg (mOp dIx (mVar 0) (mC (.str "at"))) (mTo 2))
    (mSeq (mAsg (mOp dAdd (mVar 2) (mC (.int 1))) (mToIx (mVar 0) (mC (.str "at"))))
    (mSeq (mIfS (mBl (mOp dLt (mVar 2) (mCall (dLen) (mCons (mOp dIx (mVar 0) (mC (.str "row"))) (mNil)))))
    (mRet (mOp dMod (mOp dIx (mOp dIx (mVar 0) (mC (.str "row"))) (mVar 2)) (mVar 1)))
    (mSkip))
    (mSeq (mAsg (mOp dMod (mCall (dInt) (mCons (mOp dMul (mOp dAdd (mOp dAdd (mOp dIx (mVar 0) (mC (.str "seed"))) (mOp dMul (mC (.int 17)) (mVar 2))) (mC (.int 3))) (mC (.int 48271))) (mNil))) (mC (.int 2147483647))) (mTo 3))
    (mRet (mOp dMod (mOp dFdiv (mOp dMod (mCall (dInt) (mCons (mOp dAdd (mOp dMul (mVar 3) (mVar 3)) (mVar 2)) (mNil))) (mC (.int 2147483629))) (mC (.int 7))) (mVar 1))))))
def nxA (ds : List Int) (s : Int) (a : Nat) (m : Int) : Int :=
  if a < ds.length then ds.getD a 0 % m else (((s + 17 * a + 3) * 48271 % 2147483647 * ((s + 17 * a + 3) * 48271 % 2147483647) + a) % 2147483629) / 7 % m
theorem nextA_ok {h : HS} {a : Nat} {ds : List Int} {m s : Int} (hw : h[1]? = some (bagA a s)) (hr : h[0]? = some (.lst (ds.map .int))) (hm : 0 < m) :
    runB 4 m_nextA [.ref 1, .int m] h = .ok (.int (nxA ds s a m)) (h.set 1 (bagA (a + 1) s)) := by
  have key : wpR (runB 4 m_nextA [.ref 1, .int m] h) (fun d h' => d = .int (nxA ds s a m) ∧ h' = h.set 1 (bagA (a + 1) s)) X0 := by
    unfold m_nextA
    have lw : 1 < h.length := (List.getElem?_eq_some_iff.mp hw).1
    have hw2 : ∀ o, (h.set 1 o)[1]? = some o := fun o => by rw [List.getElem?_set_self lw]
    have hr2 : ∀ o, (h.set 1 o)[0]? = some (.lst (ds.map .int)) := fun o => by rw [List.getElem?_set_ne (by decide), hr]
    have i1 : dIx (.ref 1) (.str "at") h = .ok (.int a) h := by simp only [dIx, hw]; rfl
    have e2 : dSet (.ref 1) (.str "at") (.int (a + 1)) h = some (h.set 1 (bagA (a + 1) s)) := by
      rw [dSet_dK hw rfl (show 3 < sizeLine by decide)]; rfl
    have i3 : dIx (.ref 1) (.str "row") (h.set 1 (bagA (a + 1) s)) = .ok (.ref 0) (h.set 1 (bagA (a + 1) s)) := by simp only [dIx, hw2]; rfl
    have i4 : dIx (.ref 1) (.str "seed") (h.set 1 (bagA (a + 1) s)) = .ok (.int s) (h.set 1 (bagA (a + 1) s)) := by simp only [dIx, hw2]; rfl
    have c1 : CMul 17 (a : Int) := .inl ⟨by decide, by decide⟩
    have c2 : CMul (s + 17 * (a : Int) + 3) 48271 := .inr ⟨by decide, by decide⟩
    have c3 : CMul ((s + 17 * (a : Int) + 3) * 48271 % 2147483647) ((s + 17 * (a : Int) + 3) * 48271 % 2147483647) := .inl ⟨by omega, by omega⟩
    have c4 : ∀ x : Int, CDivW x 7 := fun x => ⟨by decide, by decide⟩
    simp only [↓wp_seq, ↓wp_skip, ↓wp_drop, ↓wp_ret, ↓wp_retN, ↓wp_brk, ↓wp_cnt, ↓wp_if, ↓wp_asg, ↓wp_to, ↓wp_tos, ↓wp_toIx, ↓wp_aug, ↓wp_augK, ↓wp_fldSet, ↓wp_fldAug, ↓wp_var, ↓wp_c, ↓wp_op, ↓wp_un, ↓wp_nil, ↓wp_cons, ↓wp_tup, ↓wp_lst, ↓wp_dict0, ↓wp_dict, ↓wp_pairs0, ↓wp_pairs, ↓wp_call, ↓wp_callF, ↓wp_tru, ↓wp_bl, ↓wp_and, ↓wp_or, ↓wp_not, ↓wp_andV, ↓wp_orV, ↓wp_notV, ↓wp_part, ↓wp_noPart, ↓wp_sl, ↓wp_bm, ↓wp_ifE, ↓wp_fld, ↓wp_meth, ↓wp_make, ↓wp_lockE, ↓wp_rng1, ↓wp_rng2, ↓wp_seqI, ↓wpR_ok, ↓wpS_nx, ↓wpS_rt, List.getElem?_cons_zero, List.getElem?_cons_succ, List.set_cons_zero, List.set_cons_succ, List.length_cons, List.length_nil, ↓reduceIte, decide_eq_true_eq, ev_add, ev_iadd, ev_sub, ev_mod, ev_neg, ev_lt, ev_le, ev_gt, ev_ge, ev_eqI, ev_neI, ev_eqS, ev_neS, ev_isN, ev_int, ev_abs, ev_max, ev_min, ev_lenT, ev_lenC, ev_tupT, Int.reduceLT, Int.reduceLE, Int.reduceNeg, Int.reduceAdd, Int.reduceSub, Int.reduceEq, Nat.reduceAdd, Nat.reduceSub, and_self, ↓List.map_cons, ↓List.map_nil, ↓List.cons_append, ↓List.nil_append, List.replicate, ixT0, ixT1, ixT2, ixT3, ixTm1, ixTm2, ixTm3, onH_get, onH_set, onH_push, onH_len, mkB_get, mkB_set, mkB_push, mkB_len, mkB_next, Option.getD_some, Option.getD_none, sz0, sz1, sz2, sz3, sz4, sz5, sz6, sz7, sz8, sz9, ev_keyI, ev_keyS, ev_eqB, ev_neB, wp_one, wp_yes, wp_valsI, wp_keysI, wp_lcE, ↓wp_runB, i1, e2, i3, i4, ev_lenL (hr2 _), List.length_map, ev_mul c1, ev_mul c2, ev_mul c3, ev_fdiv (c4 _)]
    refine ite2 (fun c => ?_) (fun c => ?_)
    · have c' : a < ds.length := by omega
      have e : atI (ds.map D.int) (a : Int) = some (.int (ds.getD a 0)) := by
        refine atI_nat ?_
        rw [List.getElem?_map, List.getElem?_eq_getElem c', List.getD_eq_getElem?_getD, List.getElem?_eq_getElem c']
        rfl
      rw [ev_ixL (hr2 _) e, wpR_ok, ev_mod hm, wpR_ok]
      exact ⟨by rw [nxA, if_pos c'], rfl⟩
    · rw [ev_mod hm, wpR_ok]
      exact ⟨by rw [nxA, if_neg (by omega)], rfl⟩
  obtain ⟨d, h', e, rfl, rfl⟩ := wpR_elim key
  exact e
theorem nxA_lt {ds : List Int} {s : Int} {a : Nat} {m : Int} (hm : 0 < m) : 0 ≤ nxA ds s a m ∧ nxA ds s a m < m := by
  unfold nxA
  split
  · exact ⟨Int.emod_nonneg _ (by omega), Int.emod_lt_of_pos _ hm⟩
  · exact ⟨Int.emod_nonneg _ (by omega), Int.emod_lt_of_pos _ hm⟩
/-! ### a heap that grew while draws were taken -/
def DA (ds : List Int) (s : Int) (h0 h : HS) : Prop := h0[0]? = some (.lst (ds.map .int)) ∧ 1 < h0.length ∧ ∃ (a : Nat) (l : HS), h = h0.set 1 (bagA a s) ++ l
section
variable {ds : List Int} {s : Int} {h0 h h1 l : HS} {a i : Nat} {m : Int} {P : D → HS → Prop} {X : XP} {o : MO}
theorem DA.refl (hb : h0[1]? = some (bagA a s)) (hd : h0[0]? = some (.lst (ds.map .int))) : DA ds s h0 h0 :=
  ⟨hd, (List.getElem?_eq_some_iff.mp hb).1, a, [], by rw [set_self hb, List.append_nil]⟩
theorem DA.push (w : DA ds s h0 h) : DA ds s h0 (h ++ l) := by
  obtain ⟨w1, w2, a, l1, rfl⟩ := w
  exact ⟨w1, w2, a, l1 ++ l, List.append_assoc _ _ _⟩
theorem DA.get (w : DA ds s h0 h) (n : i ≠ 1) (e : h0[i]? = some o) : h[i]? = some o := by
  obtain ⟨w1, w2, a, l1, rfl⟩ := w
  exact get_push (get_other (Ne.symm n) e)
theorem DA.bag (w : DA ds s h0 h) : ∃ a, h[1]? = some (bagA a s) ∧ h[0]? = some (.lst (ds.map .int)) := by
  obtain ⟨w1, w2, a, l1, rfl⟩ := w
  exact ⟨a, get_push (List.getElem?_set_self w2), get_push (get_other (by decide) w1)⟩
theorem DA.self (w : DA ds s h0 h) : DA ds s h h := by
  obtain ⟨a, e1, e2⟩ := w.bag
  exact DA.refl e1 e2
theorem DA.le (w : DA ds s h0 h) : h0.length ≤ h.length := by
  obtain ⟨w1, w2, a, l1, rfl⟩ := w
  rw [List.length_append, List.length_set]
  omega
theorem DA.two (w : DA ds s h0 h) : 1 < h0.length := w.2.1
theorem DA.trans (w : DA ds s h0 h) (v : DA ds s h h1) : DA ds s h0 h1 := by
  obtain ⟨w1, w2, a, l1, rfl⟩ := w
  obtain ⟨v1, v2, b, l2, rfl⟩ := v
  refine ⟨w1, w2, b, l1 ++ l2, ?_⟩
  rw [set_setp w2, List.append_assoc]
/-- a change behind the old heap's end -/
theorem DA.setp (w : DA ds s h0 h) {p : Nat} (hp : h0.length ≤ p) : DA ds s h0 (h.set p o) := by
  obtain ⟨w1, w2, a, l1, rfl⟩ := w
  refine ⟨w1, w2, a, l1.set (p - h0.length) o, ?_⟩
  rw [List.set_append_right _ _ (by rw [List.length_set]; exact hp), List.length_set]
/-- a draw -/
theorem DA.next (w : DA ds s h0 h) (hm : 0 < m) (k : ∀ (v : Int) (h' : HS), 0 ≤ v → v < m → DA ds s h0 h' → P (.int v) h') : wpR (runB 4 m_nextA [.ref 1, .int m] h) P X := by
  obtain ⟨b, e1, e2⟩ := w.bag
  rw [nextA_ok e1 e2 hm, wpR_ok]
  obtain ⟨q1, q2⟩ := nxA_lt (ds := ds) (s := s) (a := b) hm
  refine k _ _ q1 q2 ?_
  obtain ⟨w1, w2, a, l1, rfl⟩ := w
  exact ⟨w1, w2, b + 1, l1, set_setp w2⟩
end
/-! ### the row -/
noncomputable def m_drawsA_b1 : FS :=
    mIfS (mBl (mOp dGt (mVar 3) (mC (.int 0))))
    (mSeq (mDrop (mBM "list" dAppend (mVar 1) (mCons (mOp dMod (mVar 3) (mC (.int 1000))) (mNil))))
    (mAsg (mOp dFdiv (mVar 3) (mC (.int 1000))) (mTo 3)))
    (mSkip)
noncomputable def m_drawsA_b2 : FS :=
    mSeq (mAsg (mOp dMod (mCall (dInt) (mCons (mOp dAdd (mOp dAdd (mOp dMul (mVar 5) (mVar 5)) (mOp dMul (mVar 4) (mC (.int 7919)))) (mC (.int 17))) (mNil))) (mC (.int 2147483629))) (mTo 5))
    (mDrop (mBM "list" dAppend (mVar 1) (mCons (mOp dMod (mVar 5) (mC (.int 1000))) (mNil))))
noncomputable def m_drawsA_b3 : FS :=
    mSeq (mAsg (mCall (dAbs) (mCons (mOp dIx (mVar 0) (mVar 2)) (mNil))) (mTo 3))
    (mIfS (mBl (mOp dGe (mVar 3) (mOp dPow (mC (.int 10)) (mC (.int 18)))))
    (mFor (mRange1 (mCons (mC (.int 20)) (mNil))) (mTo 4)
    (m_drawsA_b1))
    (mSeq (mAsg (mOp dMod (mCall (dInt) (mCons (mOp dAdd (mOp dAdd (mOp dMul (mOp dIx (mVar 0) (mVar 2)) (mC (.int 48271))) (mOp dMul (mVar 2) (mC (.int 69621)))) (mC (.int 12345))) (mNil))) (mC (.int 2147483647))) (mTo 5))
    (mFor (mRange1 (mCons (mC (.int 3)) (mNil))) (mTo 4)
    (m_drawsA_b2))))
noncomputable def m_drawsA_r4 : FS :=
    mRet (mVar 1)
noncomputable def m_drawsA : FS :=
    mSeq (mAsg (mLst (mNil)) (mTo 1))
    (mSeq (mFor (mRange1 (mCons (mCall (dMin2) (mCons (mCall (dLen) (mCons (mVar 0) (mNil))) (mCons (mC (.int 63)) (mNil)))) (mNil))) (mTo 2)
    (m_drawsA_b3))
    (m_drawsA_r4))
section
variable {h : HS} {acc : List Int} {T : Tl} {a0 a2 a3 a4 a5 : Option D}
theorem cdiv1000 {r : Int} : CDivW r 1000 := ⟨by decide, by decide⟩
theorem drawsA_b1 {r : Int} (hl : acc.length < 100000) :
    wpS (m_drawsA_b1 [a0, some (.ref h.length), a2, some (.int r), a4, a5] (h ++ [.lst (acc.map .int)]))
      (fun σ h' => ∃ (acc' : List Int) (r' : Int), σ = [a0, some (.ref h.length), a2, some (.int r'), a4, a5] ∧ h' = h ++ [.lst (acc'.map .int)] ∧ acc'.length ≤ acc.length + 1) T := by
  unfold m_drawsA_b1
  simp only [↓wp_seq, ↓wp_skip, ↓wp_drop, ↓wp_ret, ↓wp_retN, ↓wp_brk, ↓wp_cnt, ↓wp_if, ↓wp_asg, ↓wp_to, ↓wp_tos, ↓wp_toIx, ↓wp_aug, ↓wp_augK, ↓wp_fldSet, ↓wp_fldAug, ↓wp_var, ↓wp_c, ↓wp_op, ↓wp_un, ↓wp_nil, ↓wp_cons, ↓wp_tup, ↓wp_lst, ↓wp_dict0, ↓wp_dict, ↓wp_pairs0, ↓wp_pairs, ↓wp_call, ↓wp_callF, ↓wp_tru, ↓wp_bl, ↓wp_and, ↓wp_or, ↓wp_not, ↓wp_andV, ↓wp_orV, ↓wp_notV, ↓wp_part, ↓wp_noPart, ↓wp_sl, ↓wp_bm, ↓wp_ifE, ↓wp_fld, ↓wp_meth, ↓wp_make, ↓wp_lockE, ↓wp_rng1, ↓wp_rng2, ↓wp_seqI, ↓wpR_ok, ↓wpS_nx, ↓wpS_rt, List.getElem?_cons_zero, List.getElem?_cons_succ, List.set_cons_zero, List.set_cons_succ, List.length_cons, List.length_nil, ↓reduceIte, decide_eq_true_eq, ev_add, ev_iadd, ev_sub, ev_mod, ev_neg, ev_lt, ev_le, ev_gt, ev_ge, ev_eqI, ev_neI, ev_eqS, ev_neS, ev_isN, ev_int, ev_abs, ev_max, ev_min, ev_lenT, ev_lenC, ev_tupT, Int.reduceLT, Int.reduceLE, Int.reduceNeg, Int.reduceAdd, Int.reduceSub, Int.reduceEq, Nat.reduceAdd, Nat.reduceSub, and_self, ↓List.map_cons, ↓List.map_nil, ↓List.cons_append, ↓List.nil_append, List.replicate, ixT0, ixT1, ixT2, ixT3, ixTm1, ixTm2, ixTm3, onH_get, onH_set, onH_push, onH_len, mkB_get, mkB_set, mkB_push, mkB_len, mkB_next, Option.getD_some, Option.getD_none, sz0, sz1, sz2, sz3, sz4, sz5, sz6, sz7, sz8, sz9, ev_keyI, ev_keyS, ev_eqB, ev_neB, wp_one, wp_yes, wp_valsI, wp_keysI, wp_lcE, ty_lst]
  refine ite2 (fun c => ?_) (fun c => ?_)
  · refine app_draw (by omega) ?_
    simp only [ev_fdiv cdiv1000, wpR_ok]
    exact ⟨_, _, rfl, rfl, by simp⟩
  · exact ⟨acc, r, rfl, rfl, Nat.le_succ _⟩
theorem drawsA_b2 {r j : Int} (h0 : 0 ≤ r) (h1 : r < 2147483647) (hl : acc.length < 100000) :
    wpS (m_drawsA_b2 [a0, some (.ref h.length), a2, a3, some (.int j), some (.int r)] (h ++ [.lst (acc.map .int)]))
      (fun σ h' => ∃ (acc' : List Int) (r' : Int), σ = [a0, some (.ref h.length), a2, a3, some (.int j), some (.int r')] ∧ h' = h ++ [.lst (acc'.map .int)] ∧ 0 ≤ r' ∧ r' < 2147483647 ∧ acc'.length ≤ acc.length + 1) T := by
  unfold m_drawsA_b2
  have c1 : CMul r r := .inl ⟨by omega, by omega⟩
  have c2 : CMul j 7919 := .inr ⟨by decide, by decide⟩
  simp only [↓wp_seq, ↓wp_skip, ↓wp_drop, ↓wp_ret, ↓wp_retN, ↓wp_brk, ↓wp_cnt, ↓wp_if, ↓wp_asg, ↓wp_to, ↓wp_tos, ↓wp_toIx, ↓wp_aug, ↓wp_augK, ↓wp_fldSet, ↓wp_fldAug, ↓wp_var, ↓wp_c, ↓wp_op, ↓wp_un, ↓wp_nil, ↓wp_cons, ↓wp_tup, ↓wp_lst, ↓wp_dict0, ↓wp_dict, ↓wp_pairs0, ↓wp_pairs, ↓wp_call, ↓wp_callF, ↓wp_tru, ↓wp_bl, ↓wp_and, ↓wp_or, ↓wp_not, ↓wp_andV, ↓wp_orV, ↓wp_notV, ↓wp_part, ↓wp_noPart, ↓wp_sl, ↓wp_bm, ↓wp_ifE, ↓wp_fld, ↓wp_meth, ↓wp_make, ↓wp_lockE, ↓wp_rng1, ↓wp_rng2, ↓wp_seqI, ↓wpR_ok, ↓wpS_nx, ↓wpS_rt, List.getElem?_cons_zero, List.getElem?_cons_succ, List.set_cons_zero, List.set_cons_succ, List.length_cons, List.length_nil, ↓reduceIte, decide_eq_true_eq, ev_add, ev_iadd, ev_sub, ev_mod, ev_neg, ev_lt, ev_le, ev_gt, ev_ge, ev_eqI, ev_neI, ev_eqS, ev_neS, ev_isN, ev_int, ev_abs, ev_max, ev_min, ev_lenT, ev_lenC, ev_tupT, Int.reduceLT, Int.reduceLE, Int.reduceNeg, Int.reduceAdd, Int.reduceSub, Int.reduceEq, Nat.reduceAdd, Nat.reduceSub, and_self, ↓List.map_cons, ↓List.map_nil, ↓List.cons_append, ↓List.nil_append, List.replicate, ixT0, ixT1, ixT2, ixT3, ixTm1, ixTm2, ixTm3, onH_get, onH_set, onH_push, onH_len, mkB_get, mkB_set, mkB_push, mkB_len, mkB_next, Option.getD_some, Option.getD_none, sz0, sz1, sz2, sz3, sz4, sz5, sz6, sz7, sz8, sz9, ev_keyI, ev_keyS, ev_eqB, ev_neB, wp_one, wp_yes, wp_valsI, wp_keysI, wp_lcE, ev_mul c1, ev_mul c2, ty_lst]
  refine app_draw (by omega) ?_
  exact ⟨_, _, rfl, rfl, by omega, by omega, by simp⟩
theorem drawsA_b3 {ns : List Int} {j : Nat} (hj : j < ns.length) (hl : acc.length < 90000) :
    wpS (m_drawsA_b3 [some (.cst (ns.map .int)), some (.ref h.length), some (.int j), a3, a4, a5] (h ++ [.lst (acc.map .int)]))
      (fun σ h' => ∃ (acc' : List Int) (a3 a4 a5 : Option D), σ = [some (.cst (ns.map .int)), some (.ref h.length), some (.int j), a3, a4, a5] ∧ h' = h ++ [.lst (acc'.map .int)] ∧ acc'.length ≤ acc.length + 20) T := by
  unfold m_drawsA_b3
  have e : atI (ns.map D.int) (j : Int) = some (.int ns[j]) := atI_nat (by rw [List.getElem?_map, List.getElem?_eq_getElem hj]; rfl)
  have c1 : CMul ns[j] 48271 := .inr ⟨by decide, by decide⟩
  have c2 : CMul (j : Int) 69621 := .inr ⟨by decide, by decide⟩
  simp only [↓wp_seq, ↓wp_skip, ↓wp_drop, ↓wp_ret, ↓wp_retN, ↓wp_brk, ↓wp_cnt, ↓wp_if, ↓wp_asg, ↓wp_to, ↓wp_tos, ↓wp_toIx, ↓wp_aug, ↓wp_augK, ↓wp_fldSet, ↓wp_fldAug, ↓wp_var, ↓wp_c, ↓wp_op, ↓wp_un, ↓wp_nil, ↓wp_cons, ↓wp_tup, ↓wp_lst, ↓wp_dict0, ↓wp_dict, ↓wp_pairs0, ↓wp_pairs, ↓wp_call, ↓wp_callF, ↓wp_tru, ↓wp_bl, ↓wp_and, ↓wp_or, ↓wp_not, ↓wp_andV, ↓wp_orV, ↓wp_notV, ↓wp_part, ↓wp_noPart, ↓wp_sl, ↓wp_bm, ↓wp_ifE, ↓wp_fld, ↓wp_meth, ↓wp_make, ↓wp_lockE, ↓wp_rng1, ↓wp_rng2, ↓wp_seqI, ↓wpR_ok, ↓wpS_nx, ↓wpS_rt, List.getElem?_cons_zero, List.getElem?_cons_succ, List.set_cons_zero, List.set_cons_succ, List.length_cons, List.length_nil, ↓reduceIte, decide_eq_true_eq, ev_add, ev_iadd, ev_sub, ev_mod, ev_neg, ev_lt, ev_le, ev_gt, ev_ge, ev_eqI, ev_neI, ev_eqS, ev_neS, ev_isN, ev_int, ev_abs, ev_max, ev_min, ev_lenT, ev_lenC, ev_tupT, Int.reduceLT, Int.reduceLE, Int.reduceNeg, Int.reduceAdd, Int.reduceSub, Int.reduceEq, Nat.reduceAdd, Nat.reduceSub, and_self, ↓List.map_cons, ↓List.map_nil, ↓List.cons_append, ↓List.nil_append, List.replicate, ixT0, ixT1, ixT2, ixT3, ixTm1, ixTm2, ixTm3, onH_get, onH_set, onH_push, onH_len, mkB_get, mkB_set, mkB_push, mkB_len, mkB_next, Option.getD_some, Option.getD_none, sz0, sz1, sz2, sz3, sz4, sz5, sz6, sz7, sz8, sz9, ev_keyI, ev_keyS, ev_eqB, ev_neB, wp_one, wp_yes, wp_valsI, wp_keysI, wp_lcE, ev_ixC e, ev_mul c1, ev_mul c2, ev_pow (show CPow 10 18 from by decide), ↓wp_forE]
  generalize (if ns[j] < 0 then -ns[j] else ns[j]) = c
  split
  · rename_i hb
    clear hb
    rw [if_pos (by decide)]
    refine wp_forR (fun k σ h' => ∃ (acc' : List Int) (r : Int) (a4 : Option D), σ = [some (.cst (ns.map .int)), some (.ref h.length), some (.int j), some (.int r), a4, a5] ∧ h' = h ++ [.lst (acc'.map .int)] ∧ acc'.length ≤ acc.length + k) ⟨acc, c, a4, rfl, rfl, Nat.le_refl _⟩ ?_ ?_
    · rintro k σ h' ⟨acc', r, a4, rfl, rfl, q⟩ hk
      simp only [↓wp_seq, ↓wp_skip, ↓wp_drop, ↓wp_ret, ↓wp_retN, ↓wp_brk, ↓wp_cnt, ↓wp_if, ↓wp_asg, ↓wp_to, ↓wp_tos, ↓wp_toIx, ↓wp_aug, ↓wp_augK, ↓wp_fldSet, ↓wp_fldAug, ↓wp_var, ↓wp_c, ↓wp_op, ↓wp_un, ↓wp_nil, ↓wp_cons, ↓wp_tup, ↓wp_lst, ↓wp_dict0, ↓wp_dict, ↓wp_pairs0, ↓wp_pairs, ↓wp_call, ↓wp_callF, ↓wp_tru, ↓wp_bl, ↓wp_and, ↓wp_or, ↓wp_not, ↓wp_andV, ↓wp_orV, ↓wp_notV, ↓wp_part, ↓wp_noPart, ↓wp_sl, ↓wp_bm, ↓wp_ifE, ↓wp_fld, ↓wp_meth, ↓wp_make, ↓wp_lockE, ↓wp_rng1, ↓wp_rng2, ↓wp_seqI, ↓wpR_ok, ↓wpS_nx, ↓wpS_rt, List.getElem?_cons_zero, List.getElem?_cons_succ, List.set_cons_zero, List.set_cons_succ, List.length_cons, List.length_nil, ↓reduceIte, decide_eq_true_eq, ev_add, ev_iadd, ev_sub, ev_mod, ev_neg, ev_lt, ev_le, ev_gt, ev_ge, ev_eqI, ev_neI, ev_eqS, ev_neS, ev_isN, ev_int, ev_abs, ev_max, ev_min, ev_lenT, ev_lenC, ev_tupT, Int.reduceLT, Int.reduceLE, Int.reduceNeg, Int.reduceAdd, Int.reduceSub, Int.reduceEq, Nat.reduceAdd, Nat.reduceSub, and_self, ↓List.map_cons, ↓List.map_nil, ↓List.cons_append, ↓List.nil_append, List.replicate, ixT0, ixT1, ixT2, ixT3, ixTm1, ixTm2, ixTm3, onH_get, onH_set, onH_push, onH_len, mkB_get, mkB_set, mkB_push, mkB_len, mkB_next, Option.getD_some, Option.getD_none, sz0, sz1, sz2, sz3, sz4, sz5, sz6, sz7, sz8, sz9, ev_keyI, ev_keyS, ev_eqB, ev_neB, wp_one, wp_yes, wp_valsI, wp_keysI, wp_lcE]
      have hk2 : k < 20 := hk
      refine wpS_mono (drawsA_b1 (by omega)) ?_
      rintro σ h2 ⟨acc2, r2, rfl, rfl, q2⟩
      exact ⟨acc2, r2, _, rfl, rfl, by omega⟩
    · rintro σ h' ⟨acc', r, a4, rfl, rfl, q⟩
      exact ⟨acc', _, _, _, rfl, rfl, q⟩
  · rename_i hb
    clear hb
    rw [if_pos (by decide)]
    refine wp_forR (fun k σ h' => ∃ (acc' : List Int) (r : Int) (a4 : Option D), σ = [some (.cst (ns.map .int)), some (.ref h.length), some (.int j), some (.int c), a4, some (.int r)] ∧ h' = h ++ [.lst (acc'.map .int)] ∧ 0 ≤ r ∧ r < 2147483647 ∧ acc'.length ≤ acc.length + k) ⟨acc, _, a4, rfl, rfl, by omega, by omega, Nat.le_refl _⟩ ?_ ?_
    · rintro k σ h' ⟨acc', r, a4, rfl, rfl, q0, q1, q⟩ hk
      simp only [↓wp_seq, ↓wp_skip, ↓wp_drop, ↓wp_ret, ↓wp_retN, ↓wp_brk, ↓wp_cnt, ↓wp_if, ↓wp_asg, ↓wp_to, ↓wp_tos, ↓wp_toIx, ↓wp_aug, ↓wp_augK, ↓wp_fldSet, ↓wp_fldAug, ↓wp_var, ↓wp_c, ↓wp_op, ↓wp_un, ↓wp_nil, ↓wp_cons, ↓wp_tup, ↓wp_lst, ↓wp_dict0, ↓wp_dict, ↓wp_pairs0, ↓wp_pairs, ↓wp_call, ↓wp_callF, ↓wp_tru, ↓wp_bl, ↓wp_and, ↓wp_or, ↓wp_not, ↓wp_andV, ↓wp_orV, ↓wp_notV, ↓wp_part, ↓wp_noPart, ↓wp_sl, ↓wp_bm, ↓wp_ifE, ↓wp_fld, ↓wp_meth, ↓wp_make, ↓wp_lockE, ↓wp_rng1, ↓wp_rng2, ↓wp_seqI, ↓wpR_ok, ↓wpS_nx, ↓wpS_rt, List.getElem?_cons_zero, List.getElem?_cons_succ, List.set_cons_zero, List.set_cons_succ, List.length_cons, List.length_nil, ↓reduceIte, decide_eq_true_eq, ev_add, ev_iadd, ev_sub, ev_mod, ev_neg, ev_lt, ev_le, ev_gt, ev_ge, ev_eqI, ev_neI, ev_eqS, ev_neS, ev_isN, ev_int, ev_abs, ev_max, ev_min, ev_lenT, ev_lenC, ev_tupT, Int.reduceLT, Int.reduceLE, Int.reduceNeg, Int.reduceAdd, Int.reduceSub, Int.reduceEq, Nat.reduceAdd, Nat.reduceSub, and_self, ↓List.map_cons, ↓List.map_nil, ↓List.cons_append, ↓List.nil_append, List.replicate, ixT0, ixT1, ixT2, ixT3, ixTm1, ixTm2, ixTm3, onH_get, onH_set, onH_push, onH_len, mkB_get, mkB_set, mkB_push, mkB_len, mkB_next, Option.getD_some, Option.getD_none, sz0, sz1, sz2, sz3, sz4, sz5, sz6, sz7, sz8, sz9, ev_keyI, ev_keyS, ev_eqB, ev_neB, wp_one, wp_yes, wp_valsI, wp_keysI, wp_lcE]
      have hk2 : k < 3 := hk
      refine wpS_mono (drawsA_b2 q0 q1 (by omega)) ?_
      rintro σ h2 ⟨acc2, r2, rfl, rfl, p0, p1, q2⟩
      exact ⟨acc2, r2, _, rfl, rfl, p0, p1, by omega⟩
    · rintro σ h' ⟨acc', r, a4, rfl, rfl, q0, q1, q⟩
      have q2 : acc'.length ≤ acc.length + 3 := q
      exact ⟨acc', _, _, _, rfl, rfl, by omega⟩
theorem drawsA_ok {ns : List Int} (hl : ns.length ≤ 63) : ∃ ds : List Int, runB 6 m_drawsA [.cst (ns.map .int)] h = .ok (.ref h.length) (h ++ [.lst (ds.map .int)]) := by
  have key : wpR (runB 6 m_drawsA [.cst (ns.map .int)] h) (fun d h' => ∃ ds : List Int, d = .ref h.length ∧ h' = h ++ [.lst (ds.map .int)]) X0 := by
    unfold m_drawsA
    simp only [↓wp_seq, ↓wp_skip, ↓wp_drop, ↓wp_ret, ↓wp_retN, ↓wp_brk, ↓wp_cnt, ↓wp_if, ↓wp_asg, ↓wp_to, ↓wp_tos, ↓wp_toIx, ↓wp_aug, ↓wp_augK, ↓wp_fldSet, ↓wp_fldAug, ↓wp_var, ↓wp_c, ↓wp_op, ↓wp_un, ↓wp_nil, ↓wp_cons, ↓wp_tup, ↓wp_lst, ↓wp_dict0, ↓wp_dict, ↓wp_pairs0, ↓wp_pairs, ↓wp_call, ↓wp_callF, ↓wp_tru, ↓wp_bl, ↓wp_and, ↓wp_or, ↓wp_not, ↓wp_andV, ↓wp_orV, ↓wp_notV, ↓wp_part, ↓wp_noPart, ↓wp_sl, ↓wp_bm, ↓wp_ifE, ↓wp_fld, ↓wp_meth, ↓wp_make, ↓wp_lockE, ↓wp_rng1, ↓wp_rng2, ↓wp_seqI, ↓wpR_ok, ↓wpS_nx, ↓wpS_rt, List.getElem?_cons_zero, List.getElem?_cons_succ, List.set_cons_zero, List.set_cons_succ, List.length_cons, List.length_nil, ↓reduceIte, decide_eq_true_eq, ev_add, ev_iadd, ev_sub, ev_mod, ev_neg, ev_lt, ev_le, ev_gt, ev_ge, ev_eqI, ev_neI, ev_eqS, ev_neS, ev_isN, ev_int, ev_abs, ev_max, ev_min, ev_lenT, ev_lenC, ev_tupT, Int.reduceLT, Int.reduceLE, Int.reduceNeg, Int.reduceAdd, Int.reduceSub, Int.reduceEq, Nat.reduceAdd, Nat.reduceSub, and_self, ↓List.map_cons, ↓List.map_nil, ↓List.cons_append, ↓List.nil_append, List.replicate, ixT0, ixT1, ixT2, ixT3, ixTm1, ixTm2, ixTm3, onH_get, onH_set, onH_push, onH_len, mkB_get, mkB_set, mkB_push, mkB_len, mkB_next, Option.getD_some, Option.getD_none, sz0, sz1, sz2, sz3, sz4, sz5, sz6, sz7, sz8, sz9, ev_keyI, ev_keyS, ev_eqB, ev_neB, wp_one, wp_yes, wp_valsI, wp_keysI, wp_lcE, ↓wp_runB, ↓wp_forE, List.length_map, Nat.sub_self]
    rw [if_pos (by split <;> omega)]
    refine wp_forR (fun j σ h' => ∃ (acc : List Int) (a2 a3 a4 a5 : Option D), σ = [some (.cst (ns.map .int)), some (.ref h.length), a2, a3, a4, a5] ∧ h' = h ++ [.lst (acc.map .int)] ∧ acc.length ≤ 20 * j) ⟨[], _, _, _, _, rfl, rfl, Nat.le_refl _⟩ ?_ ?_
    · rintro j σ h' ⟨acc, a2, a3, a4, a5, rfl, rfl, q⟩ hj
      have hj2 : j < ns.length := by
        have : (if (63 : Int) < (ns.length : Int) then (63 : Int) else (ns.length : Int)) ≤ ns.length := by split <;> omega
        omega
      simp only [↓wp_seq, ↓wp_skip, ↓wp_drop, ↓wp_ret, ↓wp_retN, ↓wp_brk, ↓wp_cnt, ↓wp_if, ↓wp_asg, ↓wp_to, ↓wp_tos, ↓wp_toIx, ↓wp_aug, ↓wp_augK, ↓wp_fldSet, ↓wp_fldAug, ↓wp_var, ↓wp_c, ↓wp_op, ↓wp_un, ↓wp_nil, ↓wp_cons, ↓wp_tup, ↓wp_lst, ↓wp_dict0, ↓wp_dict, ↓wp_pairs0, ↓wp_pairs, ↓wp_call, ↓wp_callF, ↓wp_tru, ↓wp_bl, ↓wp_and, ↓wp_or, ↓wp_not, ↓wp_andV, ↓wp_orV, ↓wp_notV, ↓wp_part, ↓wp_noPart, ↓wp_sl, ↓wp_bm, ↓wp_ifE, ↓wp_fld, ↓wp_meth, ↓wp_make, ↓wp_lockE, ↓wp_rng1, ↓wp_rng2, ↓wp_seqI, ↓wpR_ok, ↓wpS_nx, ↓wpS_rt, List.getElem?_cons_zero, List.getElem?_cons_succ, List.set_cons_zero, List.set_cons_succ, List.length_cons, List.length_nil, ↓reduceIte, decide_eq_true_eq, ev_add, ev_iadd, ev_sub, ev_mod, ev_neg, ev_lt, ev_le, ev_gt, ev_ge, ev_eqI, ev_neI, ev_eqS, ev_neS, ev_isN, ev_int, ev_abs, ev_max, ev_min, ev_lenT, ev_lenC, ev_tupT, Int.reduceLT, Int.reduceLE, Int.reduceNeg, Int.reduceAdd, Int.reduceSub, Int.reduceEq, Nat.reduceAdd, Nat.reduceSub, and_self, ↓List.map_cons, ↓List.map_nil, ↓List.cons_append, ↓List.nil_append, List.replicate, ixT0, ixT1, ixT2, ixT3, ixTm1, ixTm2, ixTm3, onH_get, onH_set, onH_push, onH_len, mkB_get, mkB_set, mkB_push, mkB_len, mkB_next, Option.getD_some, Option.getD_none, sz0, sz1, sz2, sz3, sz4, sz5, sz6, sz7, sz8, sz9, ev_keyI, ev_keyS, ev_eqB, ev_neB, wp_one, wp_yes, wp_valsI, wp_keysI, wp_lcE]
      rw [show (0 : Int) + (j : Int) = (j : Int) from by omega]
      refine wpS_mono (drawsA_b3 hj2 (by omega)) ?_
      rintro σ h2 ⟨acc2, _, _, _, rfl, rfl, q2⟩
      exact ⟨acc2, _, _, _, _, rfl, rfl, by omega⟩
    · rintro σ h' ⟨acc, a2, a3, a4, a5, rfl, rfl, q⟩
      unfold m_drawsA_r4
      simp only [↓wp_seq, ↓wp_skip, ↓wp_drop, ↓wp_ret, ↓wp_retN, ↓wp_brk, ↓wp_cnt, ↓wp_if, ↓wp_asg, ↓wp_to, ↓wp_tos, ↓wp_toIx, ↓wp_aug, ↓wp_augK, ↓wp_fldSet, ↓wp_fldAug, ↓wp_var, ↓wp_c, ↓wp_op, ↓wp_un, ↓wp_nil, ↓wp_cons, ↓wp_tup, ↓wp_lst, ↓wp_dict0, ↓wp_dict, ↓wp_pairs0, ↓wp_pairs, ↓wp_call, ↓wp_callF, ↓wp_tru, ↓wp_bl, ↓wp_and, ↓wp_or, ↓wp_not, ↓wp_andV, ↓wp_orV, ↓wp_notV, ↓wp_part, ↓wp_noPart, ↓wp_sl, ↓wp_bm, ↓wp_ifE, ↓wp_fld, ↓wp_meth, ↓wp_make, ↓wp_lockE, ↓wp_rng1, ↓wp_rng2, ↓wp_seqI, ↓wpR_ok, ↓wpS_nx, ↓wpS_rt, List.getElem?_cons_zero, List.getElem?_cons_succ, List.set_cons_zero, List.set_cons_succ, List.length_cons, List.length_nil, ↓reduceIte, decide_eq_true_eq, ev_add, ev_iadd, ev_sub, ev_mod, ev_neg, ev_lt, ev_le, ev_gt, ev_ge, ev_eqI, ev_neI, ev_eqS, ev_neS, ev_isN, ev_int, ev_abs, ev_max, ev_min, ev_lenT, ev_lenC, ev_tupT, Int.reduceLT, Int.reduceLE, Int.reduceNeg, Int.reduceAdd, Int.reduceSub, Int.reduceEq, Nat.reduceAdd, Nat.reduceSub, and_self, ↓List.map_cons, ↓List.map_nil, ↓List.cons_append, ↓List.nil_append, List.replicate, ixT0, ixT1, ixT2, ixT3, ixTm1, ixTm2, ixTm3, onH_get, onH_set, onH_push, onH_len, mkB_get, mkB_set, mkB_push, mkB_len, mkB_next, Option.getD_some, Option.getD_none, sz0, sz1, sz2, sz3, sz4, sz5, sz6, sz7, sz8, sz9, ev_keyI, ev_keyS, ev_eqB, ev_neB, wp_one, wp_yes, wp_valsI, wp_keysI, wp_lcE]
      exact ⟨acc, trivial, rfl⟩
  obtain ⟨d, h', e, ds, rfl, rfl⟩ := wpR_elim key
  exact ⟨ds, e⟩
end
noncomputable def f_drawsA : List D → HS → R D := runB 6 m_drawsA
noncomputable def m_readerA_r1 : FS :=
    mRet (mDict [(mC (.str "row"), mVar 1), (mC (.str "at"), mC (.int 0)), (mC (.str "seed"), mVar 2)])
noncomputable def m_readerA : FS :=
    mSeq (mAsg (mCallF 1 (f_drawsA) (mCons (mVar 0) (mNil))) (mTo 1))
    (mSeq (mAsg (mC (.int 5)) (mTo 2))
    (mSeq (mIfS (mBl (mOp dGt (mCall (dLen) (mCons (mVar 0) (mNil))) (mC (.int 0))))
    (mAsg (mOp dMod (mCall (dAbs) (mCons (mOp dIx (mVar 0) (mUn dNeg (mC (.int 1)))) (mNil))) (mC (.int 1000003))) (mTo 2))
    (mSkip))
    (m_readerA_r1)))
theorem readerA_ok {ns : List Int} (hl : ns.length ≤ 63) : ∃ (ds : List Int) (s : Int), runB 3 m_readerA [.cst (ns.map .int)] [] = .ok (.ref 1) [.lst (ds.map .int), bagA 0 s] := by
  have key : wpR (runB 3 m_readerA [.cst (ns.map .int)] []) (fun d h' => ∃ (ds : List Int) (s : Int), d = .ref 1 ∧ h' = [.lst (ds.map .int), bagA 0 s]) X0 := by
    unfold m_readerA
    obtain ⟨ds, e⟩ := drawsA_ok (h := []) hl
    have e2 : f_drawsA [.cst (ns.map .int)] [] = .ok (.ref 0) [.lst (ds.map .int)] := e
    have fin : ∀ s : Int, wpS (m_readerA_r1 [some (.cst (ns.map .int)), some (.ref 0), some (.int s)] [.lst (ds.map .int)]) (fun _ h' => ∃ (ds : List Int) (s : Int), D.non = .ref 1 ∧ h' = [.lst (ds.map .int), bagA 0 s]) (Tl.ret (fun d h' => ∃ (ds : List Int) (s : Int), d = .ref 1 ∧ h' = [.lst (ds.map .int), bagA 0 s]) X0) := fun s => by
      unfold m_readerA_r1
      simp only [↓wp_seq, ↓wp_skip, ↓wp_drop, ↓wp_ret, ↓wp_retN, ↓wp_brk, ↓wp_cnt, ↓wp_if, ↓wp_asg, ↓wp_to, ↓wp_tos, ↓wp_toIx, ↓wp_aug, ↓wp_augK, ↓wp_fldSet, ↓wp_fldAug, ↓wp_var, ↓wp_c, ↓wp_op, ↓wp_un, ↓wp_nil, ↓wp_cons, ↓wp_tup, ↓wp_lst, ↓wp_dict0, ↓wp_dict, ↓wp_pairs0, ↓wp_pairs, ↓wp_call, ↓wp_callF, ↓wp_tru, ↓wp_bl, ↓wp_and, ↓wp_or, ↓wp_not, ↓wp_andV, ↓wp_orV, ↓wp_notV, ↓wp_part, ↓wp_noPart, ↓wp_sl, ↓wp_bm, ↓wp_ifE, ↓wp_fld, ↓wp_meth, ↓wp_make, ↓wp_lockE, ↓wp_rng1, ↓wp_rng2, ↓wp_seqI, ↓wpR_ok, ↓wpS_nx, ↓wpS_rt, List.getElem?_cons_zero, List.getElem?_cons_succ, List.set_cons_zero, List.set_cons_succ, List.length_cons, List.length_nil, ↓reduceIte, decide_eq_true_eq, ev_add, ev_iadd, ev_sub, ev_mod, ev_neg, ev_lt, ev_le, ev_gt, ev_ge, ev_eqI, ev_neI, ev_eqS, ev_neS, ev_isN, ev_int, ev_abs, ev_max, ev_min, ev_lenT, ev_lenC, ev_tupT, Int.reduceLT, Int.reduceLE, Int.reduceNeg, Int.reduceAdd, Int.reduceSub, Int.reduceEq, Nat.reduceAdd, Nat.reduceSub, and_self, ↓List.map_cons, ↓List.map_nil, ↓List.cons_append, ↓List.nil_append, List.replicate, ixT0, ixT1, ixT2, ixT3, ixTm1, ixTm2, ixTm3, onH_get, onH_set, onH_push, onH_len, mkB_get, mkB_set, mkB_push, mkB_len, mkB_next, Option.getD_some, Option.getD_none, sz0, sz1, sz2, sz3, sz4, sz5, sz6, sz7, sz8, sz9, ev_keyI, ev_keyS, ev_eqB, ev_neB, wp_one, wp_yes, wp_valsI, wp_keysI, wp_lcE]
      rw [if_pos (by decide)]
      exact ⟨ds, s, trivial, rfl⟩
    simp only [↓wp_seq, ↓wp_skip, ↓wp_drop, ↓wp_ret, ↓wp_retN, ↓wp_brk, ↓wp_cnt, ↓wp_if, ↓wp_asg, ↓wp_to, ↓wp_tos, ↓wp_toIx, ↓wp_aug, ↓wp_augK, ↓wp_fldSet, ↓wp_fldAug, ↓wp_var, ↓wp_c, ↓wp_op, ↓wp_un, ↓wp_nil, ↓wp_cons, ↓wp_tup, ↓wp_lst, ↓wp_dict0, ↓wp_dict, ↓wp_pairs0, ↓wp_pairs, ↓wp_call, ↓wp_callF, ↓wp_tru, ↓wp_bl, ↓wp_and, ↓wp_or, ↓wp_not, ↓wp_andV, ↓wp_orV, ↓wp_notV, ↓wp_part, ↓wp_noPart, ↓wp_sl, ↓wp_bm, ↓wp_ifE, ↓wp_fld, ↓wp_meth, ↓wp_make, ↓wp_lockE, ↓wp_rng1, ↓wp_rng2, ↓wp_seqI, ↓wpR_ok, ↓wpS_nx, ↓wpS_rt, List.getElem?_cons_zero, List.getElem?_cons_succ, List.set_cons_zero, List.set_cons_succ, List.length_cons, List.length_nil, ↓reduceIte, decide_eq_true_eq, ev_add, ev_iadd, ev_sub, ev_mod, ev_neg, ev_lt, ev_le, ev_gt, ev_ge, ev_eqI, ev_neI, ev_eqS, ev_neS, ev_isN, ev_int, ev_abs, ev_max, ev_min, ev_lenT, ev_lenC, ev_tupT, Int.reduceLT, Int.reduceLE, Int.reduceNeg, Int.reduceAdd, Int.reduceSub, Int.reduceEq, Nat.reduceAdd, Nat.reduceSub, and_self, ↓List.map_cons, ↓List.map_nil, ↓List.cons_append, ↓List.nil_append, List.replicate, ixT0, ixT1, ixT2, ixT3, ixTm1, ixTm2, ixTm3, onH_get, onH_set, onH_push, onH_len, mkB_get, mkB_set, mkB_push, mkB_len, mkB_next, Option.getD_some, Option.getD_none, sz0, sz1, sz2, sz3, sz4, sz5, sz6, sz7, sz8, sz9, ev_keyI, ev_keyS, ev_eqB, ev_neB, wp_one, wp_yes, wp_valsI, wp_keysI, wp_lcE, ↓wp_runB, e2, List.length_map, Nat.sub_self]
    refine ite2 (fun c => ?_) (fun c => fin 5)
    have hn : ns ≠ [] := fun z => by rw [z] at c; exact absurd c (by decide)
    have el : atI (ns.map D.int) (-1) = some (.int (ns.getLast hn)) := by
      have hz : ns.map D.int = ns.dropLast.map D.int ++ [.int (ns.getLast hn)] := by
        rw [← List.map_singleton, ← List.map_append, List.dropLast_concat_getLast]
      rw [hz]
      exact atI_last _ _
    simp only [↓wp_seq, ↓wp_skip, ↓wp_drop, ↓wp_ret, ↓wp_retN, ↓wp_brk, ↓wp_cnt, ↓wp_if, ↓wp_asg, ↓wp_to, ↓wp_tos, ↓wp_toIx, ↓wp_aug, ↓wp_augK, ↓wp_fldSet, ↓wp_fldAug, ↓wp_var, ↓wp_c, ↓wp_op, ↓wp_un, ↓wp_nil, ↓wp_cons, ↓wp_tup, ↓wp_lst, ↓wp_dict0, ↓wp_dict, ↓wp_pairs0, ↓wp_pairs, ↓wp_call, ↓wp_callF, ↓wp_tru, ↓wp_bl, ↓wp_and, ↓wp_or, ↓wp_not, ↓wp_andV, ↓wp_orV, ↓wp_notV, ↓wp_part, ↓wp_noPart, ↓wp_sl, ↓wp_bm, ↓wp_ifE, ↓wp_fld, ↓wp_meth, ↓wp_make, ↓wp_lockE, ↓wp_rng1, ↓wp_rng2, ↓wp_seqI, ↓wpR_ok, ↓wpS_nx, ↓wpS_rt, List.getElem?_cons_zero, List.getElem?_cons_succ, List.set_cons_zero, List.set_cons_succ, List.length_cons, List.length_nil, ↓reduceIte, decide_eq_true_eq, ev_add, ev_iadd, ev_sub, ev_mod, ev_neg, ev_lt, ev_le, ev_gt, ev_ge, ev_eqI, ev_neI, ev_eqS, ev_neS, ev_isN, ev_int, ev_abs, ev_max, ev_min, ev_lenT, ev_lenC, ev_tupT, Int.reduceLT, Int.reduceLE, Int.reduceNeg, Int.reduceAdd, Int.reduceSub, Int.reduceEq, Nat.reduceAdd, Nat.reduceSub, and_self, ↓List.map_cons, ↓List.map_nil, ↓List.cons_append, ↓List.nil_append, List.replicate, ixT0, ixT1, ixT2, ixT3, ixTm1, ixTm2, ixTm3, onH_get, onH_set, onH_push, onH_len, mkB_get, mkB_set, mkB_push, mkB_len, mkB_next, Option.getD_some, Option.getD_none, sz0, sz1, sz2, sz3, sz4, sz5, sz6, sz7, sz8, sz9, ev_keyI, ev_keyS, ev_eqB, ev_neB, wp_one, wp_yes, wp_valsI, wp_keysI, wp_lcE, ev_ixC el]
    exact fin _
  obtain ⟨d, h', e, ds, s, rfl, rfl⟩ := wpR_elim key
  exact ⟨ds, s, e⟩
/-! ### comprehensions over a tuple; slices; in -/
section
variable {σ : Sl} {h : HS} {X X' : XP} {ds : List D} {tg : Tgt} {tt : FT} {te : FE} {P : List D → HS → Prop}
theorem wp_lcT (I : Nat → List D → HS → Prop) (h0 : I 0 [] h)
    (step : ∀ (j : Nat) (hj : j < ds.length) (acc : List D) (h : HS), I j acc h → wpR (tg.m ds[j] σ h) (fun σ h => wpR (tt σ h) (fun b h => if b = true then wpR (te σ h) (fun y h => acc.length < sizeLine ∧ I (j + 1) (acc ++ [y]) h) X0 else I (j + 1) acc h) X0) X0)
    (fin : ∀ acc h, I ds.length acc h → P acc h) : wpR (itSeq (.tup ds) h) (fun J h => wpR (lcL tg tt te J σ J.n 0 [] h) P X') X := by
  simp only [itSeq, wpR_ok]
  exact wp_lcL _ I h0 (fun j acc h i hj => ⟨ds[j], List.getElem?_eq_getElem hj, step j hj acc h i⟩) fun acc h i => ⟨rfl, fin acc h i⟩
/-- a filter and a map, the heap as it is -/
theorem lcT_fm {α : Type} {xs : List α} (g : α → D) (p : α → Bool) (f : α → D) (hl : xs.length < 10000)
    (step : ∀ d ∈ xs, wpR (tg.m (g d) σ h) (fun σ2 h2 => wpR (tt σ2 h2) (fun b h3 => b = p d ∧ if b = true then wpR (te σ2 h3) (fun y h4 => y = f d ∧ h4 = h) X0 else h3 = h) X0) X0)
    (k : P ((xs.filter p).map f) h) : wpR (itSeq (.tup (xs.map g)) h) (fun J h => wpR (lcL tg tt te J σ J.n 0 [] h) P X') X := by
  refine wp_lcT (fun j acc h' => acc = ((xs.take j).filter p).map f ∧ h' = h) ⟨rfl, rfl⟩ ?_ ?_
  · rintro j hj0 acc h' ⟨rfl, rfl⟩
    have hj : j < xs.length := by rw [List.length_map] at hj0; exact hj0
    have eg : (xs.map g)[j] = g xs[j] := List.getElem_map _
    rw [eg]
    refine wpR_mono (step _ (List.getElem_mem hj)) fun σ2 h2 w => wpR_mono w fun b h3 w => ?_
    obtain ⟨eb, w⟩ := w
    have ht : (xs.take (j + 1)).filter p = (xs.take j).filter p ++ (if p xs[j] = true then [xs[j]] else []) := by
      rw [List.take_add_one, List.getElem?_eq_getElem hj, Option.toList_some, List.filter_append]
      congr 1
      by_cases q : p xs[j] = true
      · simp [q]
      · simp [q]
    by_cases q : b = true
    · rw [if_pos q] at w ⊢
      refine wpR_mono w fun y h4 w => ?_
      obtain ⟨rfl, rfl⟩ := w
      refine ⟨?_, ?_, rfl⟩
      · rw [List.length_map]
        have h1 : ((xs.take j).filter p).length ≤ (xs.take j).length := List.length_filter_le _ _
        have h2 : (xs.take j).length ≤ j := by rw [List.length_take]; exact Nat.min_le_left _ _
        exact Nat.lt_trans (show ((xs.take j).filter p).length < 10000 by omega) (by decide)
      · rw [ht, if_pos (eb ▸ q), List.map_append]; rfl
    · rw [if_neg q] at w ⊢
      refine ⟨?_, w⟩
      rw [ht, if_neg (by rw [← eb]; exact q), List.append_nil]
  · rintro acc h' ⟨rfl, rfl⟩
    rw [List.length_map, List.take_length]
    exact k
/-- the same over a list at a place -/
theorem lcS_fm {α : Type} {xs : List α} {q : Nat} (g : α → D) (hq : h[q]? = some (.lst (xs.map g))) (p : α → Bool) (f : α → D) (hl : xs.length < 10000)
    (step : ∀ d ∈ xs, wpR (tg.m (g d) σ h) (fun σ2 h2 => wpR (tt σ2 h2) (fun b h3 => b = p d ∧ if b = true then wpR (te σ2 h3) (fun y h4 => y = f d ∧ h4 = h) X0 else h3 = h) X0) X0)
    (k : P ((xs.filter p).map f) h) : wpR (itSeq (.ref q) h) (fun J h => wpR (lcL tg tt te J σ J.n 0 [] h) P X') X := by
  refine wp_lcS hq (fun j acc h' => acc = ((xs.take j).filter p).map f ∧ h' = h) ⟨rfl, rfl⟩ (fun j acc h' q => q.2 ▸ hq) ?_ ?_
  · rintro j hj0 acc h' ⟨rfl, rfl⟩
    have hj : j < xs.length := by rw [List.length_map] at hj0; exact hj0
    have eg : (xs.map g)[j] = g xs[j] := List.getElem_map _
    rw [eg]
    refine wpR_mono (step _ (List.getElem_mem hj)) fun σ2 h2 w => wpR_mono w fun b h3 w => ?_
    obtain ⟨eb, w⟩ := w
    have ht : (xs.take (j + 1)).filter p = (xs.take j).filter p ++ (if p xs[j] = true then [xs[j]] else []) := by
      rw [List.take_add_one, List.getElem?_eq_getElem hj, Option.toList_some, List.filter_append]
      congr 1
      by_cases q : p xs[j] = true
      · simp [q]
      · simp [q]
    by_cases q : b = true
    · rw [if_pos q] at w ⊢
      refine wpR_mono w fun y h4 w => ?_
      obtain ⟨rfl, rfl⟩ := w
      refine ⟨?_, ?_, rfl⟩
      · rw [List.length_map]
        have h1 : ((xs.take j).filter p).length ≤ (xs.take j).length := List.length_filter_le _ _
        have h2 : (xs.take j).length ≤ j := by rw [List.length_take]; exact Nat.min_le_left _ _
        exact Nat.lt_trans (show ((xs.take j).filter p).length < 10000 by omega) (by decide)
      · rw [ht, if_pos (eb ▸ q), List.map_append]; rfl
    · rw [if_neg q] at w ⊢
      refine ⟨?_, w⟩
      rw [ht, if_neg (by rw [← eb]; exact q), List.append_nil]
  · rintro acc h' ⟨rfl, rfl⟩
    rw [List.length_map, List.take_length]
    exact k
theorem lcT_map (f : D → D) (hl : ds.length < 10000)
    (step : ∀ d ∈ ds, wpR (tg.m d σ h) (fun σ2 h2 => wpR (te σ2 h2) (fun y h4 => y = f d ∧ h4 = h) X0) X0)
    (k : P (ds.map f) h) : wpR (itSeq (.tup ds) h) (fun J h => wpR (lcL tg mYes te J σ J.n 0 [] h) P X') X := by
  have e : ds = ds.map id := (List.map_id ds).symm
  have q := lcT_fm (tg := tg) (tt := mYes) (te := te) (P := P) (X := X) (X' := X') (σ := σ) (h := h) (xs := ds) id (fun _ => true) f hl (fun d hd => wpR_mono (step d hd) fun σ2 h2 w => wp_yes.mpr ⟨rfl, by rw [if_pos rfl]; exact w⟩) (by rw [List.filter_eq_self.mpr fun _ _ => rfl]; exact k)
  rw [← e] at q
  exact q
end
section
variable {h : HS} {l : List D} {x y z w : D} {a b c e : Str}
theorem sl1 : dSl (.tup (x :: l)) (some 1) none h = .ok (.tup l) h := by
  have e : cutD (x :: l) (some 1) none = l := by
    unfold cutD
    have e1 : HT.sIx (x :: l).length 0 (some 1) = 1 := by
      show (if (1 : Int) < 0 then ((1 : Int) + ((x :: l).length : Int)).toNat else min (Int.toNat 1) (x :: l).length) = 1
      rw [if_neg (by decide), List.length_cons]
      exact Nat.min_eq_left (Nat.succ_le_succ (Nat.zero_le _))
    rw [e1, HT.sIx_none]
    simp
  show R.ok (D.tup (cutD (x :: l) (some 1) none)) h = _
  rw [e]
theorem sl2 : dSl (.tup (x :: y :: l)) (some 2) none h = .ok (.tup l) h := by
  have e : cutD (x :: y :: l) (some 2) none = l := by
    unfold cutD
    have e1 : HT.sIx (x :: y :: l).length 0 (some 2) = 2 := by
      show (if (2 : Int) < 0 then ((2 : Int) + ((x :: y :: l).length : Int)).toNat else min (Int.toNat 2) (x :: y :: l).length) = 2
      rw [if_neg (by decide), List.length_cons, List.length_cons]
      exact Nat.min_eq_left (Nat.succ_le_succ (Nat.succ_le_succ (Nat.zero_le _)))
    rw [e1, HT.sIx_none]
    simp
  show R.ok (D.tup (cutD (x :: y :: l) (some 2) none)) h = _
  rw [e]
theorem in2 : dIn (.str e) (.tup [.str a, .str b]) h = .ok (.bl (decide (a = e ∨ b = e))) h := by
  show R.ok (D.bl ([D.str a, .str b].any fun y => fEq y (.str e))) h = _
  congr 2
  rw [Bool.eq_iff_iff]
  simp [fEq]
end
end FL

set_option Elab.async false
set_option linter.all false
set_option maxRecDepth 100000
/-! FL, part o: a dict of the module with text keys. -/
namespace FL
open PySem PySem.Spec PyProof.Rows L2
inductive KEnts (K : PySem.W.Frag) : List (Str × D) → List DictEntry → Prop where
  | nil : KEnts K [] []
  | cons {z : Str} {t : Tok} {d : D} {e : DictEntry} {tab : List (Str × D)} {es : List DictEntry} (hk : e.key = .str z t) (h : KDv K d e.val) (r : KEnts K tab es) : KEnts K ((z, d) :: tab) (e :: es)
def tabGet (tab : List (Str × D)) (z : Str) : Option D := (tab.find? fun p => decide (p.1 = z)).map (·.2)
structure KTab (K : PySem.W.Frag) (w : World) (mg : Str → Option Value) (x : Str) (tab : List (Str × D)) : Prop where
  ex : ∃ (d : Addr) (es : Array DictEntry) (n : Nat), mg x = some (.ref d) ∧ KDict K w d es n ∧ KEnts K tab es.toList
theorem KEnts.find {K : PySem.W.Frag} {z : Str} : ∀ {tab : List (Str × D)} {es : List DictEntry}, KEnts K tab es →
    (∃ r : Option Value, (match es.find? (·.key.isStr z) with
      | some e => some (some e.val)
      | none => if es.any (·.refKey) then none else some none) = some r ∧ match tabGet tab z with
        | some d => ∃ u, r = some u ∧ KDv K d u
        | none => r = none) ∧ es.any (·.refKey) = false
  | _, _, .nil => ⟨⟨none, rfl, rfl⟩, rfl⟩
  | _, _, .cons (z := y) (t := t) (e := e) (tab := tab) (es := es) hk h r => by
    obtain ⟨⟨r0, e1, e2⟩, e3⟩ := r.find (z := z)
    have ek : e.key.isStr z = (y == z) := by rw [hk]; rfl
    have er : e.refKey = false := by
      unfold DictEntry.refKey
      rw [hk]
    refine ⟨?_, by rw [List.any_cons, er, e3]; rfl⟩
    by_cases c : y = z
    · refine ⟨some e.val, ?_, ?_⟩
      · rw [List.find?_cons, ek, beq_iff_eq.mpr c]
      · rw [tabGet, List.find?_cons, decide_eq_true c]
        exact ⟨_, rfl, h⟩
    · refine ⟨r0, ?_, ?_⟩
      · rw [List.find?_cons, ek, beq_false_of_ne c, List.any_cons, er, Bool.false_or]
        exact e1
      · rw [tabGet, List.find?_cons, decide_eq_false c]
        exact e2
theorem KTab.get {K : PySem.W.Frag} {d : Addr} {es : Array DictEntry} {n : Nat} {w : World} {tab : List (Str × D)} (k : KDict K w d es n) (r : KEnts K tab es.toList) (z : Str) :
    ∃ r : Option Value, PySem.W.nsIn K d z = some r ∧ match tabGet tab z with
      | some d => ∃ u, r = some u ∧ KDv K d u
      | none => r = none := by
  obtain ⟨⟨r0, e1, e2⟩, _⟩ := r.find (z := z)
  refine ⟨r0, ?_, e2⟩
  unfold PySem.W.nsIn
  rw [k.at_]
  exact e1
def dKIn (tab : List (Str × D)) : D → HS → R D
  | .str z, h => .ok (.bl (tabGet tab z).isSome) h
  | _, _ => .bad
def dKNotIn (tab : List (Str × D)) : D → HS → R D
  | .str z, h => .ok (.bl !(tabGet tab z).isSome) h
  | _, _ => .bad
def dKGet (tab : List (Str × D)) : D → HS → R D
  | .str z, h => match tabGet tab z with
    | some d => .ok d h
    | none => .bad
  | _, _ => .bad
section
variable {X : Cx} {W : WX} {e : Expr} {m : FE} {x : Str} {tab : List (Str × D)} {p pos : Pos}
theorem lKIn {d : Addr} {es : Array DictEntry} {n : Nat} (k : KDict X.K X.w d es n) (r : KEnts X.K tab es.toList) (σ : L2.St) (H : Hp) (Q : VK) (q : lE X.K W (mUn (dKIn tab) m) σ H Q) :
    tOp (fun x y H Q => ∃ (z : Str) (r : Option Value), x = .str z ∧ y = .ref d ∧ PySem.W.nsIn X.K d z = some r ∧ Q (.bl r.isSome) H) (lE X.K W m) (tC (.ref d)) σ H Q := by
  obtain ⟨ρ, σh, h, rr, s, p⟩ := q
  refine ⟨ρ, σh, h, rr, s, Post.of_bind p fun d1 h1 ρ1 v H1 e1 r1 z1 p1 => ?_⟩
  cases z1 <;> first | exact p1.elim | skip
  rename_i z
  obtain ⟨r0, e1, e2⟩ := KTab.get k r z
  refine ⟨z, r0, rfl, rfl, e1, ?_⟩
  have p2 : Post X.K ρ1 H1 (DV X.K) _ Q (.ok (.bl (tabGet tab z).isSome) h1) := p1
  have e3 : (tabGet tab z).isSome = r0.isSome := by
    cases q : tabGet tab z with
    | none => rw [q] at e2; rw [e2]; rfl
    | some d => rw [q] at e2; obtain ⟨u, e4, _⟩ := e2; rw [e4]; rfl
  rw [e3] at p2
  exact p2.use r1 (.bl _)
theorem g_kin (K : KTab X.K X.w X.mg x tab) (he : GE X W e m) (hg : Gl X x := by rfl) (hd : (x == ("__debug__" : Str)) = false := by decide) : GE X W (.Compare e [.In] [.Name x p] pos) (mUn (dKIn tab) m) := by
  obtain ⟨d, es, n, hm, k, r⟩ := K.ex
  exact pe_mono (pe_cmpR (op_in_kd k) he (pe_glob (v := V.ref d) hg hm rfl hd) rfl) (lKIn k r)
theorem gt_kin (K : KTab X.K X.w X.mg x tab) (he : GE X W e m) (hg : Gl X x := by rfl) (hd : (x == ("__debug__" : Str)) = false := by decide) : GT X W (.Compare e [.In] [.Name x p] pos) (mBl (mUn (dKIn tab) m)) := by
  obtain ⟨d, es, n, hm, k, r⟩ := K.ex
  exact pt_mono (pt_cmpR (op_in_kd k) he (pe_glob (v := V.ref d) hg hm rfl hd) rfl) (lBl (lKIn k r))
theorem g_kget (K : KTab X.K X.w X.mg x tab) (he : GE X W e m) (hg : Gl X x := by rfl) (hd : (x == ("__debug__" : Str)) = false := by decide) (hp : PlainIx e := by exact fun _ _ => rfl) : GE X W (.Subscript (.Name x p) e pos) (mUn (dKGet tab) m) := by
  obtain ⟨d, es, n, hm, k, r⟩ := K.ex
  refine pe_mono (pe_ix ix_kdict (pe_glob (v := V.ref d) hg hm rfl hd) he hp) fun σ H Q ⟨ρ, σh, h, rr, s, p⟩ => ⟨ρ, σh, h, rr, s, Post.of_bind p fun d1 h1 ρ1 v H1 e1 r1 z1 p1 => ?_⟩
  cases z1 <;> first | exact p1.elim | skip
  rename_i z
  obtain ⟨r0, e1, e2⟩ := KTab.get k r z
  cases q : tabGet tab z with
  | none =>
    simp only [dKGet, q] at p1
    exact p1.elim
  | some dd =>
    rw [q] at e2
    obtain ⟨u, e4, kd⟩ := e2
    simp only [dKGet, q] at p1
    obtain ⟨v, rv, zv⟩ := kd.ok
    exact ⟨d, z, v, rfl, rfl, ⟨es, n, u, k.at_, k.lit, by rw [e1, e4], rv⟩, p1.use r1 (zv _ _)⟩
end
end FL

set_option Elab.async false
set_option linter.all false
set_option maxRecDepth 100000
set_option maxHeartbeats 400000
/-! FL, part p: the draws of the laws k00 to k10, k97, k98. -/
namespace FL
open PySem PySem.Spec PyProof.Rows L2
noncomputable def m_mixK : FS :=
    mSeq (mAsg (mOp dMod (mCall (dInt) (mCons (mOp dAdd (mOp dAdd (mOp dMul (mVar 0) (mC (.int 48271))) (mOp dMul (mVar 1) (mC (.int 69621)))) (mC (.int 11))) (mNil))) (mC (.int 2147483647))) (mTo 2))
    (mRet (mOp dMod (mOp dMod (mCall (dInt) (mCons (mOp dAdd (mOp dAdd (mOp dAdd (mOp dMul (mVar 2) (mVar 2)) (mOp dMul (mVar 0) (mC (.int 40692)))) (mOp dMul (mVar 1) (mC (.int 7)))) (mC (.int 3))) (mNil))) (mC (.int 1000003))) (mC (.int 1000))))
noncomputable def f_mixK : List D → HS → R D := runB 3 m_mixK
def mixI (a k : Int) : Int := (((a * 48271 + k * 69621 + 11) % 2147483647) * ((a * 48271 + k * 69621 + 11) % 2147483647) + a * 40692 + k * 7 + 3) % 1000003 % 1000
theorem mixK_ok {a k : Int} {h : HS} : f_mixK [.int a, .int k] h = .ok (.int (mixI a k)) h := by
  have key : wpR (f_mixK [.int a, .int k] h) (fun d h' => d = .int (mixI a k) ∧ h' = h) X0 := by
    unfold f_mixK m_mixK
    have c1 : CMul a 48271 := .inr ⟨by decide, by decide⟩
    have c2 : CMul k 69621 := .inr ⟨by decide, by decide⟩
    have c3 : CMul ((a * 48271 + k * 69621 + 11) % 2147483647) ((a * 48271 + k * 69621 + 11) % 2147483647) := .inl ⟨by omega, by omega⟩
    have c4 : CMul a 40692 := .inr ⟨by decide, by decide⟩
    have c5 : CMul k 7 := .inr ⟨by decide, by decide⟩
    simp only [↓wp_seq, ↓wp_skip, ↓wp_drop, ↓wp_ret, ↓wp_retN, ↓wp_brk, ↓wp_cnt, ↓wp_if, ↓wp_asg, ↓wp_to, ↓wp_tos, ↓wp_toIx, ↓wp_aug, ↓wp_augK, ↓wp_fldSet, ↓wp_fldAug, ↓wp_var, ↓wp_c, ↓wp_op, ↓wp_un, ↓wp_nil, ↓wp_cons, ↓wp_tup, ↓wp_lst, ↓wp_dict0, ↓wp_dict, ↓wp_pairs0, ↓wp_pairs, ↓wp_call, ↓wp_callF, ↓wp_tru, ↓wp_bl, ↓wp_and, ↓wp_or, ↓wp_not, ↓wp_andV, ↓wp_orV, ↓wp_notV, ↓wp_part, ↓wp_noPart, ↓wp_sl, ↓wp_bm, ↓wp_ifE, ↓wp_fld, ↓wp_meth, ↓wp_make, ↓wp_lockE, ↓wp_rng1, ↓wp_rng2, ↓wp_seqI, ↓wpR_ok, ↓wpS_nx, ↓wpS_rt, List.getElem?_cons_zero, List.getElem?_cons_succ, List.set_cons_zero, List.set_cons_succ, List.length_cons, List.length_nil, ↓reduceIte, decide_eq_true_eq, ev_add, ev_iadd, ev_sub, ev_mod, ev_neg, ev_lt, ev_le, ev_gt, ev_ge, ev_eqI, ev_neI, ev_eqS, ev_neS, ev_isN, ev_int, ev_abs, ev_max, ev_min, ev_lenT, ev_lenC, ev_tupT, Int.reduceLT, Int.reduceLE, Int.reduceNeg, Int.reduceAdd, Int.reduceSub, Int.reduceEq, Nat.reduceAdd, Nat.reduceSub, and_self, ↓List.map_cons, ↓List.map_nil, ↓List.cons_append, ↓List.nil_append, List.replicate, ixT0, ixT1, ixT2, ixT3, ixTm1, ixTm2, ixTm3, onH_get, onH_set, onH_push, onH_len, mkB_get, mkB_set, mkB_push, mkB_len, mkB_next, Option.getD_some, Option.getD_none, sz0, sz1, sz2, sz3, sz4, sz5, sz6, sz7, sz8, sz9, ev_keyI, ev_keyS, ev_eqB, ev_neB, wp_one, wp_yes, wp_valsI, wp_keysI, wp_lcE, ↓wp_runB, ev_mul c1, ev_mul c2, ev_mul c3, ev_mul c4, ev_mul c5]
    exact ⟨rfl, trivial⟩
  obtain ⟨d, h', e, rfl, rfl⟩ := wpR_elim key
  exact e
noncomputable def m_streamK_b1 : FS :=
    mIfS (mAnd (mBl (mOp dGt (mVar 4) (mC (.int 0)))) (mBl (mOp dLt (mCall (dLen) (mCons (mVar 2) (mNil))) (mVar 1))))
    (mSeq (mDrop (mBM "list" dAppend (mVar 2) (mCons (mOp dMod (mCall (dInt) (mCons (mVar 4) (mNil))) (mC (.int 1000))) (mNil))))
    (mAsg (mOp dFdiv (mVar 4) (mC (.int 1000))) (mTo 4)))
    (mSkip)
noncomputable def m_streamK_b2 : FS :=
    mIfS (mBl (mOp dLt (mCall (dLen) (mCons (mVar 2) (mNil))) (mVar 1)))
    (mDrop (mBM "list" dAppend (mVar 2) (mCons (mCallF 2 (f_mixK) (mCons (mVar 4) (mCons (mOp dAdd (mOp dMul (mC (.int 64)) (mVar 5)) (mVar 3)) (mNil)))) (mNil))))
    (mSkip)
noncomputable def m_streamK_b3 : FS :=
    mSeq (mAsg (mOp dIx (mVar 0) (mVar 3)) (mTo 4))
    (mIfS (mBl (mOp dGe (mVar 4) (mOp dPow (mC (.int 10)) (mC (.int 18)))))
    (mFor (mRange1 (mCons (mC (.int 60)) (mNil))) (mTo 5)
    (m_streamK_b1))
    (mFor (mRange1 (mCons (mC (.int 3)) (mNil))) (mTo 5)
    (m_streamK_b2)))
noncomputable def m_streamK_r4 : FS :=
    mRet (mDict [(mC (.str "row"), mVar 2), (mC (.str "at"), mC (.int 0)), (mC (.str "seed"), mCall (dLen) (mCons (mVar 2) (mNil)))])
noncomputable def m_streamK : FS :=
    mSeq (mAsg (mLst (mNil)) (mTo 2))
    (mSeq (mFor (mRange1 (mCons (mCall (dMin2) (mCons (mCall (dLen) (mCons (mVar 0) (mNil))) (mCons (mC (.int 63)) (mNil)))) (mNil))) (mTo 3)
    (m_streamK_b3))
    (m_streamK_r4))
noncomputable def m_pickK_r1 : FS :=
    mRet (mOp dMod (mCall (dInt) (mCons (mVar 3) (mNil))) (mVar 1))
noncomputable def m_pickK : FS :=
    mSeq (mAsg (mOp dIx (mVar 0) (mC (.str "at"))) (mTo 2))
    (mSeq (mAsg (mOp dAdd (mVar 2) (mC (.int 1))) (mToIx (mVar 0) (mC (.str "at"))))
    (mSeq (mAsg (mCallF 2 (f_mixK) (mCons (mOp dIx (mVar 0) (mC (.str "seed"))) (mCons (mVar 2) (mNil)))) (mTo 3))
    (mSeq (mIfS (mBl (mOp dLt (mVar 2) (mCall (dLen) (mCons (mOp dIx (mVar 0) (mC (.str "row"))) (mNil)))))
    (mAsg (mOp dIx (mOp dIx (mVar 0) (mC (.str "row"))) (mVar 2)) (mTo 3))
    (mSkip))
    (m_pickK_r1))))
noncomputable def f_pickK : List D → HS → R D := runB 4 m_pickK
noncomputable def f_streamK : List D → HS → R D := runB 6 m_streamK
def nxK (ds : List Int) (s : Int) (a : Nat) (m : Int) : Int := (if a < ds.length then ds.getD a 0 else mixI s a) % m
theorem pickK_eq {h : HS} {a : Nat} {ds : List Int} {m s : Int} (hw : h[1]? = some (bagA a s)) (hr : h[0]? = some (.lst (ds.map .int))) (hm : 0 < m) :
    f_pickK [.ref 1, .int m] h = .ok (.int (nxK ds s a m)) (h.set 1 (bagA (a + 1) s)) := by
  have key : wpR (f_pickK [.ref 1, .int m] h) (fun d h' => d = .int (nxK ds s a m) ∧ h' = h.set 1 (bagA (a + 1) s)) X0 := by
    unfold f_pickK m_pickK
    have lw : 1 < h.length := (List.getElem?_eq_some_iff.mp hw).1
    have hw2 : ∀ o, (h.set 1 o)[1]? = some o := fun o => by rw [List.getElem?_set_self lw]
    have hr2 : ∀ o, (h.set 1 o)[0]? = some (.lst (ds.map .int)) := fun o => by rw [List.getElem?_set_ne (by decide), hr]
    have i1 : dIx (.ref 1) (.str "at") h = .ok (.int a) h := by simp only [dIx, hw]; rfl
    have e2 : dSet (.ref 1) (.str "at") (.int (a + 1)) h = some (h.set 1 (bagA (a + 1) s)) := by
      rw [dSet_dK hw rfl (show 3 < sizeLine by decide)]; rfl
    have i3 : dIx (.ref 1) (.str "row") (h.set 1 (bagA (a + 1) s)) = .ok (.ref 0) (h.set 1 (bagA (a + 1) s)) := by simp only [dIx, hw2]; rfl
    have i4 : dIx (.ref 1) (.str "seed") (h.set 1 (bagA (a + 1) s)) = .ok (.int s) (h.set 1 (bagA (a + 1) s)) := by simp only [dIx, hw2]; rfl
    simp only [↓wp_seq, ↓wp_skip, ↓wp_drop, ↓wp_ret, ↓wp_retN, ↓wp_brk, ↓wp_cnt, ↓wp_if, ↓wp_asg, ↓wp_to, ↓wp_tos, ↓wp_toIx, ↓wp_aug, ↓wp_augK, ↓wp_fldSet, ↓wp_fldAug, ↓wp_var, ↓wp_c, ↓wp_op, ↓wp_un, ↓wp_nil, ↓wp_cons, ↓wp_tup, ↓wp_lst, ↓wp_dict0, ↓wp_dict, ↓wp_pairs0, ↓wp_pairs, ↓wp_call, ↓wp_callF, ↓wp_tru, ↓wp_bl, ↓wp_and, ↓wp_or, ↓wp_not, ↓wp_andV, ↓wp_orV, ↓wp_notV, ↓wp_part, ↓wp_noPart, ↓wp_sl, ↓wp_bm, ↓wp_ifE, ↓wp_fld, ↓wp_meth, ↓wp_make, ↓wp_lockE, ↓wp_rng1, ↓wp_rng2, ↓wp_seqI, ↓wpR_ok, ↓wpS_nx, ↓wpS_rt, List.getElem?_cons_zero, List.getElem?_cons_succ, List.set_cons_zero, List.set_cons_succ, List.length_cons, List.length_nil, ↓reduceIte, decide_eq_true_eq, ev_add, ev_iadd, ev_sub, ev_mod, ev_neg, ev_lt, ev_le, ev_gt, ev_ge, ev_eqI, ev_neI, ev_eqS, ev_neS, ev_isN, ev_int, ev_abs, ev_max, ev_min, ev_lenT, ev_lenC, ev_tupT, Int.reduceLT, Int.reduceLE, Int.reduceNeg, Int.reduceAdd, Int.reduceSub, Int.reduceEq, Nat.reduceAdd, Nat.reduceSub, and_self, ↓List.map_cons, ↓List.map_nil, ↓List.cons_append, ↓List.nil_append, List.replicate, ixT0, ixT1, ixT2, ixT3, ixTm1, ixTm2, ixTm3, onH_get, onH_set, onH_push, onH_len, mkB_get, mkB_set, mkB_push, mkB_len, mkB_next, Option.getD_some, Option.getD_none, sz0, sz1, sz2, sz3, sz4, sz5, sz6, sz7, sz8, sz9, ev_keyI, ev_keyS, ev_eqB, ev_neB, wp_one, wp_yes, wp_valsI, wp_keysI, wp_lcE, ↓wp_runB, i1, e2, i3, i4, mixK_ok, ev_lenL (hr2 _), List.length_map]
    refine ite2 (fun c => ?_) (fun c => ?_)
    · have c' : a < ds.length := by omega
      have e : atI (ds.map D.int) (a : Int) = some (.int (ds.getD a 0)) := by
        refine atI_nat ?_
        rw [List.getElem?_map, List.getElem?_eq_getElem c', List.getD_eq_getElem?_getD, List.getElem?_eq_getElem c']
        rfl
      unfold m_pickK_r1
      rw [ev_ixL (hr2 _) e, wpR_ok]
      simp only [↓wp_seq, ↓wp_skip, ↓wp_drop, ↓wp_ret, ↓wp_retN, ↓wp_brk, ↓wp_cnt, ↓wp_if, ↓wp_asg, ↓wp_to, ↓wp_tos, ↓wp_toIx, ↓wp_aug, ↓wp_augK, ↓wp_fldSet, ↓wp_fldAug, ↓wp_var, ↓wp_c, ↓wp_op, ↓wp_un, ↓wp_nil, ↓wp_cons, ↓wp_tup, ↓wp_lst, ↓wp_dict0, ↓wp_dict, ↓wp_pairs0, ↓wp_pairs, ↓wp_call, ↓wp_callF, ↓wp_tru, ↓wp_bl, ↓wp_and, ↓wp_or, ↓wp_not, ↓wp_andV, ↓wp_orV, ↓wp_notV, ↓wp_part, ↓wp_noPart, ↓wp_sl, ↓wp_bm, ↓wp_ifE, ↓wp_fld, ↓wp_meth, ↓wp_make, ↓wp_lockE, ↓wp_rng1, ↓wp_rng2, ↓wp_seqI, ↓wpR_ok, ↓wpS_nx, ↓wpS_rt, List.getElem?_cons_zero, List.getElem?_cons_succ, List.set_cons_zero, List.set_cons_succ, List.length_cons, List.length_nil, ↓reduceIte, decide_eq_true_eq, ev_add, ev_iadd, ev_sub, ev_mod, ev_neg, ev_lt, ev_le, ev_gt, ev_ge, ev_eqI, ev_neI, ev_eqS, ev_neS, ev_isN, ev_int, ev_abs, ev_max, ev_min, ev_lenT, ev_lenC, ev_tupT, Int.reduceLT, Int.reduceLE, Int.reduceNeg, Int.reduceAdd, Int.reduceSub, Int.reduceEq, Nat.reduceAdd, Nat.reduceSub, and_self, ↓List.map_cons, ↓List.map_nil, ↓List.cons_append, ↓List.nil_append, List.replicate, ixT0, ixT1, ixT2, ixT3, ixTm1, ixTm2, ixTm3, onH_get, onH_set, onH_push, onH_len, mkB_get, mkB_set, mkB_push, mkB_len, mkB_next, Option.getD_some, Option.getD_none, sz0, sz1, sz2, sz3, sz4, sz5, sz6, sz7, sz8, sz9, ev_keyI, ev_keyS, ev_eqB, ev_neB, wp_one, wp_yes, wp_valsI, wp_keysI, wp_lcE]
      rw [ev_mod hm, wpR_ok]
      exact ⟨by rw [nxK, if_pos c'], rfl⟩
    · unfold m_pickK_r1
      simp only [↓wp_seq, ↓wp_skip, ↓wp_drop, ↓wp_ret, ↓wp_retN, ↓wp_brk, ↓wp_cnt, ↓wp_if, ↓wp_asg, ↓wp_to, ↓wp_tos, ↓wp_toIx, ↓wp_aug, ↓wp_augK, ↓wp_fldSet, ↓wp_fldAug, ↓wp_var, ↓wp_c, ↓wp_op, ↓wp_un, ↓wp_nil, ↓wp_cons, ↓wp_tup, ↓wp_lst, ↓wp_dict0, ↓wp_dict, ↓wp_pairs0, ↓wp_pairs, ↓wp_call, ↓wp_callF, ↓wp_tru, ↓wp_bl, ↓wp_and, ↓wp_or, ↓wp_not, ↓wp_andV, ↓wp_orV, ↓wp_notV, ↓wp_part, ↓wp_noPart, ↓wp_sl, ↓wp_bm, ↓wp_ifE, ↓wp_fld, ↓wp_meth, ↓wp_make, ↓wp_lockE, ↓wp_rng1, ↓wp_rng2, ↓wp_seqI, ↓wpR_ok, ↓wpS_nx, ↓wpS_rt, List.getElem?_cons_zero, List.getElem?_cons_succ, List.set_cons_zero, List.set_cons_succ, List.length_cons, List.length_nil, ↓reduceIte, decide_eq_true_eq, ev_add, ev_iadd, ev_sub, ev_mod, ev_neg, ev_lt, ev_le, ev_gt, ev_ge, ev_eqI, ev_neI, ev_eqS, ev_neS, ev_isN, ev_int, ev_abs, ev_max, ev_min, ev_lenT, ev_lenC, ev_tupT, Int.reduceLT, Int.reduceLE, Int.reduceNeg, Int.reduceAdd, Int.reduceSub, Int.reduceEq, Nat.reduceAdd, Nat.reduceSub, and_self, ↓List.map_cons, ↓List.map_nil, ↓List.cons_append, ↓List.nil_append, List.replicate, ixT0, ixT1, ixT2, ixT3, ixTm1, ixTm2, ixTm3, onH_get, onH_set, onH_push, onH_len, mkB_get, mkB_set, mkB_push, mkB_len, mkB_next, Option.getD_some, Option.getD_none, sz0, sz1, sz2, sz3, sz4, sz5, sz6, sz7, sz8, sz9, ev_keyI, ev_keyS, ev_eqB, ev_neB, wp_one, wp_yes, wp_valsI, wp_keysI, wp_lcE]
      rw [ev_mod hm, wpR_ok]
      exact ⟨by rw [nxK, if_neg (by omega)], rfl⟩
  obtain ⟨d, h', e, rfl, rfl⟩ := wpR_elim key
  exact e
theorem DA.pickK {ds : List Int} {s : Int} {h0 h : HS} {m : Int} {P : D → HS → Prop} {X : XP} (w : DA ds s h0 h) (hm : 0 < m) (k : ∀ (v : Int) (h' : HS), 0 ≤ v → v < m → DA ds s h0 h' → P (.int v) h') : wpR (f_pickK [.ref 1, .int m] h) P X := by
  obtain ⟨b, e1, e2⟩ := w.bag
  rw [pickK_eq e1 e2 hm, wpR_ok]
  refine k _ _ (Int.emod_nonneg _ (by omega)) (Int.emod_lt_of_pos _ hm) ?_
  obtain ⟨w1, w2, a, l1, rfl⟩ := w
  exact ⟨w1, w2, b + 1, l1, set_setp w2⟩
section
variable {h : HS} {acc : List Int} {T : Tl} {a0 a3 a4 a5 : Option D} {m : Int}
theorem len_last {h : HS} {l : List D} : dLen [.ref h.length] (h ++ [.lst l]) = .ok (.int l.length) (h ++ [.lst l]) := ev_lenL (by simp)
theorem streamK_b1 {r : Int} (hl : acc.length < 100000) :
    wpS (m_streamK_b1 [a0, some (.int m), some (.ref h.length), a3, some (.int r), a5] (h ++ [.lst (acc.map .int)]))
      (fun σ h' => ∃ (acc' : List Int) (r' : Int), σ = [a0, some (.int m), some (.ref h.length), a3, some (.int r'), a5] ∧ h' = h ++ [.lst (acc'.map .int)] ∧ acc'.length ≤ acc.length + 1) T := by
  unfold m_streamK_b1
  simp only [↓wp_seq, ↓wp_skip, ↓wp_drop, ↓wp_ret, ↓wp_retN, ↓wp_brk, ↓wp_cnt, ↓wp_if, ↓wp_asg, ↓wp_to, ↓wp_tos, ↓wp_toIx, ↓wp_aug, ↓wp_augK, ↓wp_fldSet, ↓wp_fldAug, ↓wp_var, ↓wp_c, ↓wp_op, ↓wp_un, ↓wp_nil, ↓wp_cons, ↓wp_tup, ↓wp_lst, ↓wp_dict0, ↓wp_dict, ↓wp_pairs0, ↓wp_pairs, ↓wp_call, ↓wp_callF, ↓wp_tru, ↓wp_bl, ↓wp_and, ↓wp_or, ↓wp_not, ↓wp_andV, ↓wp_orV, ↓wp_notV, ↓wp_part, ↓wp_noPart, ↓wp_sl, ↓wp_bm, ↓wp_ifE, ↓wp_fld, ↓wp_meth, ↓wp_make, ↓wp_lockE, ↓wp_rng1, ↓wp_rng2, ↓wp_seqI, ↓wpR_ok, ↓wpS_nx, ↓wpS_rt, List.getElem?_cons_zero, List.getElem?_cons_succ, List.set_cons_zero, List.set_cons_succ, List.length_cons, List.length_nil, ↓reduceIte, decide_eq_true_eq, ev_add, ev_iadd, ev_sub, ev_mod, ev_neg, ev_lt, ev_le, ev_gt, ev_ge, ev_eqI, ev_neI, ev_eqS, ev_neS, ev_isN, ev_int, ev_abs, ev_max, ev_min, ev_lenT, ev_lenC, ev_tupT, Int.reduceLT, Int.reduceLE, Int.reduceNeg, Int.reduceAdd, Int.reduceSub, Int.reduceEq, Nat.reduceAdd, Nat.reduceSub, and_self, ↓List.map_cons, ↓List.map_nil, ↓List.cons_append, ↓List.nil_append, List.replicate, ixT0, ixT1, ixT2, ixT3, ixTm1, ixTm2, ixTm3, onH_get, onH_set, onH_push, onH_len, mkB_get, mkB_set, mkB_push, mkB_len, mkB_next, Option.getD_some, Option.getD_none, sz0, sz1, sz2, sz3, sz4, sz5, sz6, sz7, sz8, sz9, ev_keyI, ev_keyS, ev_eqB, ev_neB, wp_one, wp_yes, wp_valsI, wp_keysI, wp_lcE, ty_lst, len_last]
  refine ite2 (fun c => ?_) (fun c => ?_)
  · refine ite2 (fun c2 => ?_) (fun c2 => ?_)
    · refine app_draw (by omega) ?_
      simp only [ev_fdiv cdiv1000, wpR_ok]
      exact ⟨_, _, rfl, rfl, by simp⟩
    · exact ⟨acc, r, rfl, rfl, Nat.le_succ _⟩
  · exact ⟨acc, r, rfl, rfl, Nat.le_succ _⟩
theorem streamK_b2 {r j k : Int} (hl : acc.length < 100000) :
    wpS (m_streamK_b2 [a0, some (.int m), some (.ref h.length), some (.int k), some (.int r), some (.int j)] (h ++ [.lst (acc.map .int)]))
      (fun σ h' => ∃ (acc' : List Int), σ = [a0, some (.int m), some (.ref h.length), some (.int k), some (.int r), some (.int j)] ∧ h' = h ++ [.lst (acc'.map .int)] ∧ acc'.length ≤ acc.length + 1) T := by
  unfold m_streamK_b2
  have c2 : CMul 64 j := .inl ⟨by decide, by decide⟩
  simp only [↓wp_seq, ↓wp_skip, ↓wp_drop, ↓wp_ret, ↓wp_retN, ↓wp_brk, ↓wp_cnt, ↓wp_if, ↓wp_asg, ↓wp_to, ↓wp_tos, ↓wp_toIx, ↓wp_aug, ↓wp_augK, ↓wp_fldSet, ↓wp_fldAug, ↓wp_var, ↓wp_c, ↓wp_op, ↓wp_un, ↓wp_nil, ↓wp_cons, ↓wp_tup, ↓wp_lst, ↓wp_dict0, ↓wp_dict, ↓wp_pairs0, ↓wp_pairs, ↓wp_call, ↓wp_callF, ↓wp_tru, ↓wp_bl, ↓wp_and, ↓wp_or, ↓wp_not, ↓wp_andV, ↓wp_orV, ↓wp_notV, ↓wp_part, ↓wp_noPart, ↓wp_sl, ↓wp_bm, ↓wp_ifE, ↓wp_fld, ↓wp_meth, ↓wp_make, ↓wp_lockE, ↓wp_rng1, ↓wp_rng2, ↓wp_seqI, ↓wpR_ok, ↓wpS_nx, ↓wpS_rt, List.getElem?_cons_zero, List.getElem?_cons_succ, List.set_cons_zero, List.set_cons_succ, List.length_cons, List.length_nil, ↓reduceIte, decide_eq_true_eq, ev_add, ev_iadd, ev_sub, ev_mod, ev_neg, ev_lt, ev_le, ev_gt, ev_ge, ev_eqI, ev_neI, ev_eqS, ev_neS, ev_isN, ev_int, ev_abs, ev_max, ev_min, ev_lenT, ev_lenC, ev_tupT, Int.reduceLT, Int.reduceLE, Int.reduceNeg, Int.reduceAdd, Int.reduceSub, Int.reduceEq, Nat.reduceAdd, Nat.reduceSub, and_self, ↓List.map_cons, ↓List.map_nil, ↓List.cons_append, ↓List.nil_append, List.replicate, ixT0, ixT1, ixT2, ixT3, ixTm1, ixTm2, ixTm3, onH_get, onH_set, onH_push, onH_len, mkB_get, mkB_set, mkB_push, mkB_len, mkB_next, Option.getD_some, Option.getD_none, sz0, sz1, sz2, sz3, sz4, sz5, sz6, sz7, sz8, sz9, ev_keyI, ev_keyS, ev_eqB, ev_neB, wp_one, wp_yes, wp_valsI, wp_keysI, wp_lcE, ty_lst, len_last, ev_mul c2, mixK_ok]
  refine ite2 (fun c => ?_) (fun c => ?_)
  · refine app_draw (by omega) ?_
    exact ⟨_, trivial, rfl, by simp⟩
  · exact ⟨acc, trivial, rfl, Nat.le_succ _⟩
theorem streamK_b3 {ns : List Int} {j : Nat} (hj : j < ns.length) (hl : acc.length < 90000) :
    wpS (m_streamK_b3 [some (.cst (ns.map .int)), some (.int m), some (.ref h.length), some (.int j), a4, a5] (h ++ [.lst (acc.map .int)]))
      (fun σ h' => ∃ (acc' : List Int) (a4 a5 : Option D), σ = [some (.cst (ns.map .int)), some (.int m), some (.ref h.length), some (.int j), a4, a5] ∧ h' = h ++ [.lst (acc'.map .int)] ∧ acc'.length ≤ acc.length + 60) T := by
  unfold m_streamK_b3
  have e : atI (ns.map D.int) (j : Int) = some (.int ns[j]) := atI_nat (by rw [List.getElem?_map, List.getElem?_eq_getElem hj]; rfl)
  simp only [↓wp_seq, ↓wp_skip, ↓wp_drop, ↓wp_ret, ↓wp_retN, ↓wp_brk, ↓wp_cnt, ↓wp_if, ↓wp_asg, ↓wp_to, ↓wp_tos, ↓wp_toIx, ↓wp_aug, ↓wp_augK, ↓wp_fldSet, ↓wp_fldAug, ↓wp_var, ↓wp_c, ↓wp_op, ↓wp_un, ↓wp_nil, ↓wp_cons, ↓wp_tup, ↓wp_lst, ↓wp_dict0, ↓wp_dict, ↓wp_pairs0, ↓wp_pairs, ↓wp_call, ↓wp_callF, ↓wp_tru, ↓wp_bl, ↓wp_and, ↓wp_or, ↓wp_not, ↓wp_andV, ↓wp_orV, ↓wp_notV, ↓wp_part, ↓wp_noPart, ↓wp_sl, ↓wp_bm, ↓wp_ifE, ↓wp_fld, ↓wp_meth, ↓wp_make, ↓wp_lockE, ↓wp_rng1, ↓wp_rng2, ↓wp_seqI, ↓wpR_ok, ↓wpS_nx, ↓wpS_rt, List.getElem?_cons_zero, List.getElem?_cons_succ, List.set_cons_zero, List.set_cons_succ, List.length_cons, List.length_nil, ↓reduceIte, decide_eq_true_eq, ev_add, ev_iadd, ev_sub, ev_mod, ev_neg, ev_lt, ev_le, ev_gt, ev_ge, ev_eqI, ev_neI, ev_eqS, ev_neS, ev_isN, ev_int, ev_abs, ev_max, ev_min, ev_lenT, ev_lenC, ev_tupT, Int.reduceLT, Int.reduceLE, Int.reduceNeg, Int.reduceAdd, Int.reduceSub, Int.reduceEq, Nat.reduceAdd, Nat.reduceSub, and_self, ↓List.map_cons, ↓List.map_nil, ↓List.cons_append, ↓List.nil_append, List.replicate, ixT0, ixT1, ixT2, ixT3, ixTm1, ixTm2, ixTm3, onH_get, onH_set, onH_push, onH_len, mkB_get, mkB_set, mkB_push, mkB_len, mkB_next, Option.getD_some, Option.getD_none, sz0, sz1, sz2, sz3, sz4, sz5, sz6, sz7, sz8, sz9, ev_keyI, ev_keyS, ev_eqB, ev_neB, wp_one, wp_yes, wp_valsI, wp_keysI, wp_lcE, ev_ixC e, ev_pow (show CPow 10 18 from by decide), ↓wp_forE]
  generalize ns[j] = c
  split
  · rename_i hb
    clear hb
    rw [if_pos (by decide)]
    refine wp_forR (fun k σ h' => ∃ (acc' : List Int) (r : Int) (a5 : Option D), σ = [some (.cst (ns.map .int)), some (.int m), some (.ref h.length), some (.int j), some (.int r), a5] ∧ h' = h ++ [.lst (acc'.map .int)] ∧ acc'.length ≤ acc.length + k) ⟨acc, c, a5, rfl, rfl, Nat.le_refl _⟩ ?_ ?_
    · rintro k σ h' ⟨acc', r, a5, rfl, rfl, q⟩ hk
      simp only [↓wp_seq, ↓wp_skip, ↓wp_drop, ↓wp_ret, ↓wp_retN, ↓wp_brk, ↓wp_cnt, ↓wp_if, ↓wp_asg, ↓wp_to, ↓wp_tos, ↓wp_toIx, ↓wp_aug, ↓wp_augK, ↓wp_fldSet, ↓wp_fldAug, ↓wp_var, ↓wp_c, ↓wp_op, ↓wp_un, ↓wp_nil, ↓wp_cons, ↓wp_tup, ↓wp_lst, ↓wp_dict0, ↓wp_dict, ↓wp_pairs0, ↓wp_pairs, ↓wp_call, ↓wp_callF, ↓wp_tru, ↓wp_bl, ↓wp_and, ↓wp_or, ↓wp_not, ↓wp_andV, ↓wp_orV, ↓wp_notV, ↓wp_part, ↓wp_noPart, ↓wp_sl, ↓wp_bm, ↓wp_ifE, ↓wp_fld, ↓wp_meth, ↓wp_make, ↓wp_lockE, ↓wp_rng1, ↓wp_rng2, ↓wp_seqI, ↓wpR_ok, ↓wpS_nx, ↓wpS_rt, List.getElem?_cons_zero, List.getElem?_cons_succ, List.set_cons_zero, List.set_cons_succ, List.length_cons, List.length_nil, ↓reduceIte, decide_eq_true_eq, ev_add, ev_iadd, ev_sub, ev_mod, ev_neg, ev_lt, ev_le, ev_gt, ev_ge, ev_eqI, ev_neI, ev_eqS, ev_neS, ev_isN, ev_int, ev_abs, ev_max, ev_min, ev_lenT, ev_lenC, ev_tupT, Int.reduceLT, Int.reduceLE, Int.reduceNeg, Int.reduceAdd, Int.reduceSub, Int.reduceEq, Nat.reduceAdd, Nat.reduceSub, and_self, ↓List.map_cons, ↓List.map_nil, ↓List.cons_append, ↓List.nil_append, List.replicate, ixT0, ixT1, ixT2, ixT3, ixTm1, ixTm2, ixTm3, onH_get, onH_set, onH_push, onH_len, mkB_get, mkB_set, mkB_push, mkB_len, mkB_next, Option.getD_some, Option.getD_none, sz0, sz1, sz2, sz3, sz4, sz5, sz6, sz7, sz8, sz9, ev_keyI, ev_keyS, ev_eqB, ev_neB, wp_one, wp_yes, wp_valsI, wp_keysI, wp_lcE]
      have hk2 : k < 60 := hk
      refine wpS_mono (streamK_b1 (by omega)) ?_
      rintro σ h2 ⟨acc2, r2, rfl, rfl, q2⟩
      exact ⟨acc2, r2, _, rfl, rfl, by omega⟩
    · rintro σ h' ⟨acc', r, a5, rfl, rfl, q⟩
      exact ⟨acc', _, _, rfl, rfl, q⟩
  · rename_i hb
    clear hb
    rw [if_pos (by decide)]
    refine wp_forR (fun k σ h' => ∃ (acc' : List Int) (a5 : Option D), σ = [some (.cst (ns.map .int)), some (.int m), some (.ref h.length), some (.int j), some (.int c), a5] ∧ h' = h ++ [.lst (acc'.map .int)] ∧ acc'.length ≤ acc.length + k) ⟨acc, a5, rfl, rfl, Nat.le_refl _⟩ ?_ ?_
    · rintro k σ h' ⟨acc', a5, rfl, rfl, q⟩ hk
      simp only [↓wp_seq, ↓wp_skip, ↓wp_drop, ↓wp_ret, ↓wp_retN, ↓wp_brk, ↓wp_cnt, ↓wp_if, ↓wp_asg, ↓wp_to, ↓wp_tos, ↓wp_toIx, ↓wp_aug, ↓wp_augK, ↓wp_fldSet, ↓wp_fldAug, ↓wp_var, ↓wp_c, ↓wp_op, ↓wp_un, ↓wp_nil, ↓wp_cons, ↓wp_tup, ↓wp_lst, ↓wp_dict0, ↓wp_dict, ↓wp_pairs0, ↓wp_pairs, ↓wp_call, ↓wp_callF, ↓wp_tru, ↓wp_bl, ↓wp_and, ↓wp_or, ↓wp_not, ↓wp_andV, ↓wp_orV, ↓wp_notV, ↓wp_part, ↓wp_noPart, ↓wp_sl, ↓wp_bm, ↓wp_ifE, ↓wp_fld, ↓wp_meth, ↓wp_make, ↓wp_lockE, ↓wp_rng1, ↓wp_rng2, ↓wp_seqI, ↓wpR_ok, ↓wpS_nx, ↓wpS_rt, List.getElem?_cons_zero, List.getElem?_cons_succ, List.set_cons_zero, List.set_cons_succ, List.length_cons, List.length_nil, ↓reduceIte, decide_eq_true_eq, ev_add, ev_iadd, ev_sub, ev_mod, ev_neg, ev_lt, ev_le, ev_gt, ev_ge, ev_eqI, ev_neI, ev_eqS, ev_neS, ev_isN, ev_int, ev_abs, ev_max, ev_min, ev_lenT, ev_lenC, ev_tupT, Int.reduceLT, Int.reduceLE, Int.reduceNeg, Int.reduceAdd, Int.reduceSub, Int.reduceEq, Nat.reduceAdd, Nat.reduceSub, and_self, ↓List.map_cons, ↓List.map_nil, ↓List.cons_append, ↓List.nil_append, List.replicate, ixT0, ixT1, ixT2, ixT3, ixTm1, ixTm2, ixTm3, onH_get, onH_set, onH_push, onH_len, mkB_get, mkB_set, mkB_push, mkB_len, mkB_next, Option.getD_some, Option.getD_none, sz0, sz1, sz2, sz3, sz4, sz5, sz6, sz7, sz8, sz9, ev_keyI, ev_keyS, ev_eqB, ev_neB, wp_one, wp_yes, wp_valsI, wp_keysI, wp_lcE]
      have hk2 : k < 3 := hk
      refine wpS_mono (streamK_b2 (by omega)) ?_
      rintro σ h2 ⟨acc2, rfl, rfl, q2⟩
      exact ⟨acc2, _, rfl, rfl, by omega⟩
    · rintro σ h' ⟨acc', a5, rfl, rfl, q⟩
      have q2 : acc'.length ≤ acc.length + 3 := q
      exact ⟨acc', _, _, rfl, rfl, by omega⟩
theorem streamK_ok {ns : List Int} (hl : ns.length ≤ 63) : ∃ ds : List Int, f_streamK [.cst (ns.map .int), .int m] [] = .ok (.ref 1) [.lst (ds.map .int), bagA 0 ds.length] := by
  have key : wpR (f_streamK [.cst (ns.map .int), .int m] []) (fun d h' => ∃ ds : List Int, d = .ref 1 ∧ h' = [.lst (ds.map .int), bagA 0 ds.length]) X0 := by
    unfold f_streamK m_streamK
    simp only [↓wp_seq, ↓wp_skip, ↓wp_drop, ↓wp_ret, ↓wp_retN, ↓wp_brk, ↓wp_cnt, ↓wp_if, ↓wp_asg, ↓wp_to, ↓wp_tos, ↓wp_toIx, ↓wp_aug, ↓wp_augK, ↓wp_fldSet, ↓wp_fldAug, ↓wp_var, ↓wp_c, ↓wp_op, ↓wp_un, ↓wp_nil, ↓wp_cons, ↓wp_tup, ↓wp_lst, ↓wp_dict0, ↓wp_dict, ↓wp_pairs0, ↓wp_pairs, ↓wp_call, ↓wp_callF, ↓wp_tru, ↓wp_bl, ↓wp_and, ↓wp_or, ↓wp_not, ↓wp_andV, ↓wp_orV, ↓wp_notV, ↓wp_part, ↓wp_noPart, ↓wp_sl, ↓wp_bm, ↓wp_ifE, ↓wp_fld, ↓wp_meth, ↓wp_make, ↓wp_lockE, ↓wp_rng1, ↓wp_rng2, ↓wp_seqI, ↓wpR_ok, ↓wpS_nx, ↓wpS_rt, List.getElem?_cons_zero, List.getElem?_cons_succ, List.set_cons_zero, List.set_cons_succ, List.length_cons, List.length_nil, ↓reduceIte, decide_eq_true_eq, ev_add, ev_iadd, ev_sub, ev_mod, ev_neg, ev_lt, ev_le, ev_gt, ev_ge, ev_eqI, ev_neI, ev_eqS, ev_neS, ev_isN, ev_int, ev_abs, ev_max, ev_min, ev_lenT, ev_lenC, ev_tupT, Int.reduceLT, Int.reduceLE, Int.reduceNeg, Int.reduceAdd, Int.reduceSub, Int.reduceEq, Nat.reduceAdd, Nat.reduceSub, and_self, ↓List.map_cons, ↓List.map_nil, ↓List.cons_append, ↓List.nil_append, List.replicate, ixT0, ixT1, ixT2, ixT3, ixTm1, ixTm2, ixTm3, onH_get, onH_set, onH_push, onH_len, mkB_get, mkB_set, mkB_push, mkB_len, mkB_next, Option.getD_some, Option.getD_none, sz0, sz1, sz2, sz3, sz4, sz5, sz6, sz7, sz8, sz9, ev_keyI, ev_keyS, ev_eqB, ev_neB, wp_one, wp_yes, wp_valsI, wp_keysI, wp_lcE, ↓wp_runB, ↓wp_forE, List.length_map, Nat.sub_self]
    rw [if_pos (by split <;> omega)]
    refine wp_forR (fun j σ h' => ∃ (acc : List Int) (a3 a4 a5 : Option D), σ = [some (.cst (ns.map .int)), some (.int m), some (.ref 0), a3, a4, a5] ∧ h' = [.lst (acc.map .int)] ∧ acc.length ≤ 60 * j) ⟨[], _, _, _, rfl, rfl, Nat.le_refl _⟩ ?_ ?_
    · rintro j σ h' ⟨acc, a3, a4, a5, rfl, rfl, q⟩ hj
      have hj2 : j < ns.length := by
        have : (if (63 : Int) < (ns.length : Int) then (63 : Int) else (ns.length : Int)) ≤ ns.length := by split <;> omega
        omega
      simp only [↓wp_seq, ↓wp_skip, ↓wp_drop, ↓wp_ret, ↓wp_retN, ↓wp_brk, ↓wp_cnt, ↓wp_if, ↓wp_asg, ↓wp_to, ↓wp_tos, ↓wp_toIx, ↓wp_aug, ↓wp_augK, ↓wp_fldSet, ↓wp_fldAug, ↓wp_var, ↓wp_c, ↓wp_op, ↓wp_un, ↓wp_nil, ↓wp_cons, ↓wp_tup, ↓wp_lst, ↓wp_dict0, ↓wp_dict, ↓wp_pairs0, ↓wp_pairs, ↓wp_call, ↓wp_callF, ↓wp_tru, ↓wp_bl, ↓wp_and, ↓wp_or, ↓wp_not, ↓wp_andV, ↓wp_orV, ↓wp_notV, ↓wp_part, ↓wp_noPart, ↓wp_sl, ↓wp_bm, ↓wp_ifE, ↓wp_fld, ↓wp_meth, ↓wp_make, ↓wp_lockE, ↓wp_rng1, ↓wp_rng2, ↓wp_seqI, ↓wpR_ok, ↓wpS_nx, ↓wpS_rt, List.getElem?_cons_zero, List.getElem?_cons_succ, List.set_cons_zero, List.set_cons_succ, List.length_cons, List.length_nil, ↓reduceIte, decide_eq_true_eq, ev_add, ev_iadd, ev_sub, ev_mod, ev_neg, ev_lt, ev_le, ev_gt, ev_ge, ev_eqI, ev_neI, ev_eqS, ev_neS, ev_isN, ev_int, ev_abs, ev_max, ev_min, ev_lenT, ev_lenC, ev_tupT, Int.reduceLT, Int.reduceLE, Int.reduceNeg, Int.reduceAdd, Int.reduceSub, Int.reduceEq, Nat.reduceAdd, Nat.reduceSub, and_self, ↓List.map_cons, ↓List.map_nil, ↓List.cons_append, ↓List.nil_append, List.replicate, ixT0, ixT1, ixT2, ixT3, ixTm1, ixTm2, ixTm3, onH_get, onH_set, onH_push, onH_len, mkB_get, mkB_set, mkB_push, mkB_len, mkB_next, Option.getD_some, Option.getD_none, sz0, sz1, sz2, sz3, sz4, sz5, sz6, sz7, sz8, sz9, ev_keyI, ev_keyS, ev_eqB, ev_neB, wp_one, wp_yes, wp_valsI, wp_keysI, wp_lcE]
      rw [show (0 : Int) + (j : Int) = (j : Int) from by omega]
      refine wpS_mono (streamK_b3 (h := []) hj2 (by omega)) ?_
      rintro σ h2 ⟨acc2, _, _, rfl, rfl, q2⟩
      exact ⟨acc2, _, _, _, rfl, rfl, by omega⟩
    · rintro σ h' ⟨acc, a3, a4, a5, rfl, rfl, q⟩
      unfold m_streamK_r4
      have e1 : dLen [.ref 0] [.lst (acc.map D.int)] = .ok (.int acc.length) [.lst (acc.map D.int)] := by
        have := ev_lenL (h := [.lst (acc.map D.int)]) (n := 0) (ds := acc.map D.int) rfl
        rw [List.length_map] at this
        exact this
      simp only [↓wp_seq, ↓wp_skip, ↓wp_drop, ↓wp_ret, ↓wp_retN, ↓wp_brk, ↓wp_cnt, ↓wp_if, ↓wp_asg, ↓wp_to, ↓wp_tos, ↓wp_toIx, ↓wp_aug, ↓wp_augK, ↓wp_fldSet, ↓wp_fldAug, ↓wp_var, ↓wp_c, ↓wp_op, ↓wp_un, ↓wp_nil, ↓wp_cons, ↓wp_tup, ↓wp_lst, ↓wp_dict0, ↓wp_dict, ↓wp_pairs0, ↓wp_pairs, ↓wp_call, ↓wp_callF, ↓wp_tru, ↓wp_bl, ↓wp_and, ↓wp_or, ↓wp_not, ↓wp_andV, ↓wp_orV, ↓wp_notV, ↓wp_part, ↓wp_noPart, ↓wp_sl, ↓wp_bm, ↓wp_ifE, ↓wp_fld, ↓wp_meth, ↓wp_make, ↓wp_lockE, ↓wp_rng1, ↓wp_rng2, ↓wp_seqI, ↓wpR_ok, ↓wpS_nx, ↓wpS_rt, List.getElem?_cons_zero, List.getElem?_cons_succ, List.set_cons_zero, List.set_cons_succ, List.length_cons, List.length_nil, ↓reduceIte, decide_eq_true_eq, ev_add, ev_iadd, ev_sub, ev_mod, ev_neg, ev_lt, ev_le, ev_gt, ev_ge, ev_eqI, ev_neI, ev_eqS, ev_neS, ev_isN, ev_int, ev_abs, ev_max, ev_min, ev_lenT, ev_lenC, ev_tupT, Int.reduceLT, Int.reduceLE, Int.reduceNeg, Int.reduceAdd, Int.reduceSub, Int.reduceEq, Nat.reduceAdd, Nat.reduceSub, and_self, ↓List.map_cons, ↓List.map_nil, ↓List.cons_append, ↓List.nil_append, List.replicate, ixT0, ixT1, ixT2, ixT3, ixTm1, ixTm2, ixTm3, onH_get, onH_set, onH_push, onH_len, mkB_get, mkB_set, mkB_push, mkB_len, mkB_next, Option.getD_some, Option.getD_none, sz0, sz1, sz2, sz3, sz4, sz5, sz6, sz7, sz8, sz9, ev_keyI, ev_keyS, ev_eqB, ev_neB, wp_one, wp_yes, wp_valsI, wp_keysI, wp_lcE, e1]
      rw [if_pos (by decide)]
      exact ⟨acc, trivial, rfl⟩
  obtain ⟨d, h', e, ds, rfl, rfl⟩ := wpR_elim key
  exact ⟨ds, e⟩
end
theorem ite_and2 {a b : Prop} [Decidable a] [Decidable b] {p q : Prop} : (if a then (if b then p else q) else q) = (if a ∧ b then p else q) := by
  by_cases x : a <;> by_cases y : b <;> simp [x, y]
theorem ite_tand {b : Prop} [Decidable b] {p q : Prop} : (if True ∧ b then p else q) = (if b then p else q) := by
  by_cases y : b <;> simp [y]
theorem ite_or2 {a b : Prop} [Decidable a] [Decidable b] {p q : Prop} : (if a then p else (if b then p else q)) = (if a ∨ b then p else q) := by
  by_cases x : a <;> by_cases y : b <;> simp [x, y]
theorem ite_not2 {a : Prop} [Decidable a] {p q : Prop} : (if ¬a then p else q) = (if a then q else p) := by
  by_cases x : a <;> simp [x]
end FL

set_option Elab.async false
set_option linter.all false
set_option maxRecDepth 100000
set_option maxHeartbeats 4000000
namespace K02
open PySem PySem.Spec PyProof.Rows L2 FL
def topS (i : Nat) : Stmt := PySem.Challenge.pw_needonce_k02_layout_by_its_rules.main.body.getD i (.Pass ⟨0, 0, 0, 0⟩)
def isiTab : List (String × String × Bool) := [("int", "str", false), ("bool", "str", false), ("str", "str", true), ("list", "str", false), ("tuple", "str", false), ("dict", "str", false), ("int", "int", true), ("bool", "int", true), ("str", "int", false), ("list", "int", false), ("tuple", "int", false), ("dict", "int", false), ("int", "list", false), ("bool", "list", false), ("str", "list", false), ("list", "list", true), ("tuple", "list", false), ("dict", "list", false)]
def tab_CLOSED_BY : List (Str × D) := [(")", D.str "("), ("]", D.str "["), ("}", D.str "{"), ("in", D.str "let"), ("of", D.str "case"), ("then", D.str "if"), ("else", D.str "then")]
/-! ### what each def is, as a function of data -/
abbrev s_Contexts_init : Stmt := inClass (topS 4) 0
noncomputable def m_Contexts_init (cs : Nat → Addr) : FS :=
    mSeq (mFldSet [cs 0] "stack" (mVar 0) (mLst (mNil)))
    (mFldSet [cs 0] "found" (mVar 0) (mLst (mNil)))
noncomputable def f_Contexts_init (cs : Nat → Addr) : List D → HS → R D := runB 1 (m_Contexts_init cs)
abbrev s_Contexts_add : Stmt := inClass (topS 4) 1
noncomputable def m_Contexts_add (cs : Nat → Addr) : FS :=
    mDrop (mBM "list" dAppend (mFld [cs 0] "found" (mVar 0)) (mCons (mTup (mCons (mC (.str "sign")) (mCons (mVar 1) (mCons (mOp dIx (mVar 2) (mC (.int 2))) (mCons (mOp dIx (mVar 2) (mC (.int 3))) (mNil)))))) (mNil)))
noncomputable def f_Contexts_add (cs : Nat → Addr) : List D → HS → R D := runB 3 (m_Contexts_add cs)
abbrev s_Contexts_column : Stmt := inClass (topS 4) 2
noncomputable def m_Contexts_column_b1 (cs : Nat → Addr) : FS :=
    mIfS (mTru (mCall (dIsi isiTab) (mCons (mVar 1) (mCons (mC (.ty "int")) (mNil)))))
    (mRet (mVar 1))
    (mSkip)
noncomputable def m_Contexts_column_r2 (cs : Nat → Addr) : FS :=
    mRet (mC (.int 0))
noncomputable def m_Contexts_column (cs : Nat → Addr) : FS :=
    mSeq (mFor (mRevI (mFld [cs 0] "stack" (mVar 0))) (mTo 1)
    (m_Contexts_column_b1 cs))
    (m_Contexts_column_r2 cs)
noncomputable def f_Contexts_column (cs : Nat → Addr) : List D → HS → R D := runB 2 (m_Contexts_column cs)
abbrev s_Contexts_open_block : Stmt := inClass (topS 4) 6
noncomputable def m_Contexts_open_block (cs : Nat → Addr) : FS :=
    mSeq (mIfS (mAnd (mBl (mOp dEq (mOp dIx (mVar 1) (mC (.int 0))) (mC (.str "sign")))) (mBl (mOp dEq (mOp dIx (mVar 1) (mC (.int 1))) (mC (.str "{")))))
    (mRet (mC (.bl false)))
    (mSkip))
    (mSeq (mDrop (mMeth (cs 0) "add" 3 (f_Contexts_add cs) (mVar 0) (mCons (mC (.str "{")) (mCons (mVar 1) (mNil)))))
    (mSeq (mIfS (mAnd (mBl (mOp dNe (mOp dIx (mVar 1) (mC (.int 0))) (mC (.str "end")))) (mBl (mOp dGt (mOp dIx (mVar 1) (mC (.int 3))) (mMeth (cs 0) "column" 1 (f_Contexts_column cs) (mVar 0) mNil))))
    (mSeq (mDrop (mBM "list" dAppend (mFld [cs 0] "stack" (mVar 0)) (mCons (mOp dIx (mVar 1) (mC (.int 3))) (mNil))))
    (mRet (mC (.bl true))))
    (mSkip))
    (mSeq (mDrop (mMeth (cs 0) "add" 3 (f_Contexts_add cs) (mVar 0) (mCons (mC (.str "}")) (mCons (mVar 1) (mNil)))))
    (mRet (mC (.bl false))))))
noncomputable def f_Contexts_open_block (cs : Nat → Addr) : List D → HS → R D := runB 2 (m_Contexts_open_block cs)
abbrev s_Contexts_on_block : Stmt := inClass (topS 4) 3
noncomputable def m_Contexts_on_block (cs : Nat → Addr) : FS :=
    mRet (mAndV (mOp dGt (mCall (dLen) (mCons (mFld [cs 0] "stack" (mVar 0)) (mNil))) (mC (.int 0))) (mCall (dIsi isiTab) (mCons (mOp dIx (mFld [cs 0] "stack" (mVar 0)) (mUn dNeg (mC (.int 1)))) (mCons (mC (.ty "int")) (mNil)))))
noncomputable def f_Contexts_on_block (cs : Nat → Addr) : List D → HS → R D := runB 1 (m_Contexts_on_block cs)
abbrev s_Contexts_close_blocks : Stmt := inClass (topS 4) 4
noncomputable def m_Contexts_close_blocks_b1 (cs : Nat → Addr) : FS :=
    mSeq (mDrop (mBM "list" dPop0 (mFld [cs 0] "stack" (mVar 0)) (mNil)))
    (mDrop (mMeth (cs 0) "add" 3 (f_Contexts_add cs) (mVar 0) (mCons (mC (.str "}")) (mCons (mVar 1) (mNil)))))
noncomputable def m_Contexts_close_blocks (cs : Nat → Addr) : FS :=
    mWhile (mTru (mMeth (cs 0) "on_block" 1 (f_Contexts_on_block cs) (mVar 0) mNil))
    (m_Contexts_close_blocks_b1 cs)
noncomputable def f_Contexts_close_blocks (cs : Nat → Addr) : List D → HS → R D := runB 2 (m_Contexts_close_blocks cs)
abbrev s_Contexts_marker : Stmt := inClass (topS 4) 5
noncomputable def m_Contexts_marker_b1 (cs : Nat → Addr) : FS :=
    mIfS (mNot (mTru (mCall (dIsi isiTab) (mCons (mVar 1) (mCons (mC (.ty "int")) (mNil))))))
    (mRet (mVar 1))
    (mSkip)
noncomputable def m_Contexts_marker_r2 (cs : Nat → Addr) : FS :=
    mRet (mC (.str ""))
noncomputable def m_Contexts_marker (cs : Nat → Addr) : FS :=
    mSeq (mFor (mRevI (mFld [cs 0] "stack" (mVar 0))) (mTo 1)
    (m_Contexts_marker_b1 cs))
    (m_Contexts_marker_r2 cs)
noncomputable def f_Contexts_marker (cs : Nat → Addr) : List D → HS → R D := runB 2 (m_Contexts_marker cs)
abbrev s_Contexts_close_to : Stmt := inClass (topS 4) 8
noncomputable def m_Contexts_close_to (cs : Nat → Addr) : FS :=
    mSeq (mIfS (mBl (mOp dNe (mMeth (cs 0) "marker" 1 (f_Contexts_marker cs) (mVar 0) mNil) (mVar 1)))
    (mRet (mC (.bl false)))
    (mSkip))
    (mSeq (mDrop (mMeth (cs 0) "close_blocks" 2 (f_Contexts_close_blocks cs) (mVar 0) (mCons (mVar 2) (mNil))))
    (mSeq (mDrop (mBM "list" dPop0 (mFld [cs 0] "stack" (mVar 0)) (mNil)))
    (mRet (mC (.bl true)))))
noncomputable def f_Contexts_close_to (cs : Nat → Addr) : List D → HS → R D := runB 3 (m_Contexts_close_to cs)
abbrev s_Contexts_take : Stmt := inClass (topS 4) 9
noncomputable def m_Contexts_take_r1 (cs : Nat → Addr) : FS :=
    mIfS (mBl (mOp dIn (mVar 2) (mC (D.tup [D.str "(", D.str "[", D.str "{", D.str "let", D.str "case", D.str "if"]))))
    (mDrop (mBM "list" dAppend (mFld [cs 0] "stack" (mVar 0)) (mCons (mVar 2) (mNil))))
    (mSkip)
noncomputable def m_Contexts_take_r2 (cs : Nat → Addr) : FS :=
    mSeq (mIfS (mAnd (mBl (mUn (dKIn tab_CLOSED_BY) (mVar 2))) (mAnd (mTru (mMeth (cs 0) "close_to" 3 (f_Contexts_close_to cs) (mVar 0) (mCons (mUn (dKGet tab_CLOSED_BY) (mVar 2)) (mCons (mVar 1) (mNil))))) (mBl (mOp dEq (mVar 2) (mC (.str "then"))))))
    (mDrop (mBM "list" dAppend (mFld [cs 0] "stack" (mVar 0)) (mCons (mC (.str "then")) (mNil))))
    (mSkip))
    (m_Contexts_take_r1 cs)
noncomputable def m_Contexts_take (cs : Nat → Addr) : FS :=
    mSeq (mAsg (mOp dIx (mVar 1) (mC (.int 1))) (mTo 2))
    (mSeq (mIfS (mBl (mOp dIn (mOp dIx (mVar 1) (mC (.int 0))) (mTup (mCons (mC (.str "sign")) (mCons (mC (.str "keyword")) (mNil))))))
    (mSeq (mIfS (mAnd (mBl (mOp dEq (mVar 2) (mC (.str ",")))) (mBl (mOp dIn (mMeth (cs 0) "marker" 1 (f_Contexts_marker cs) (mVar 0) mNil) (mTup (mCons (mC (.str "(")) (mCons (mC (.str "[")) (mNil)))))))
    (mDrop (mMeth (cs 0) "close_blocks" 2 (f_Contexts_close_blocks cs) (mVar 0) (mCons (mVar 1) (mNil))))
    (mSkip))
    (m_Contexts_take_r2 cs))
    (mSkip))
    (mDrop (mBM "list" dAppend (mFld [cs 0] "found" (mVar 0)) (mCons (mVar 1) (mNil)))))
noncomputable def f_Contexts_take (cs : Nat → Addr) : List D → HS → R D := runB 3 (m_Contexts_take cs)
abbrev s_Contexts_begin_row : Stmt := inClass (topS 4) 7
noncomputable def m_Contexts_begin_row_b1 (cs : Nat → Addr) : FS :=
    mSeq (mDrop (mBM "list" dPop0 (mFld [cs 0] "stack" (mVar 0)) (mNil)))
    (mDrop (mMeth (cs 0) "add" 3 (f_Contexts_add cs) (mVar 0) (mCons (mC (.str "}")) (mCons (mVar 1) (mNil)))))
noncomputable def m_Contexts_begin_row_r2 (cs : Nat → Addr) : FS :=
    mIfS (mAnd (mTru (mMeth (cs 0) "on_block" 1 (f_Contexts_on_block cs) (mVar 0) mNil)) (mBl (mOp dEq (mOp dIx (mFld [cs 0] "stack" (mVar 0)) (mUn dNeg (mC (.int 1)))) (mOp dIx (mVar 1) (mC (.int 3))))))
    (mDrop (mMeth (cs 0) "add" 3 (f_Contexts_add cs) (mVar 0) (mCons (mC (.str ";")) (mCons (mVar 1) (mNil)))))
    (mSkip)
noncomputable def m_Contexts_begin_row (cs : Nat → Addr) : FS :=
    mSeq (mWhile (mAnd (mTru (mMeth (cs 0) "on_block" 1 (f_Contexts_on_block cs) (mVar 0) mNil)) (mBl (mOp dGt (mOp dIx (mFld [cs 0] "stack" (mVar 0)) (mUn dNeg (mC (.int 1)))) (mOp dIx (mVar 1) (mC (.int 3))))))
    (m_Contexts_begin_row_b1 cs))
    (m_Contexts_begin_row_r2 cs)
noncomputable def f_Contexts_begin_row (cs : Nat → Addr) : List D → HS → R D := runB 2 (m_Contexts_begin_row cs)
abbrev s_layout : Stmt := topS 5
noncomputable def m_layout_b1 (cs : Nat → Addr) : FS :=
    mSeq (mIfS (mTru (mMeth (cs 0) "on_block" 1 (f_Contexts_on_block cs) (mVar 1) mNil))
    (mDrop (mMeth (cs 0) "add" 3 (f_Contexts_add cs) (mVar 1) (mCons (mC (.str "}")) (mCons (mVar 4) (mNil)))))
    (mSkip))
    (mDrop (mBM "list" dPop0 (mFld [cs 0] "stack" (mVar 1)) (mNil)))
noncomputable def m_layout_r2 (cs : Nat → Addr) : FS :=
    mDrop (mBM "list" dAppend (mFld [cs 0] "found" (mVar 1)) (mCons (mVar 4) (mNil)))
noncomputable def m_layout_r3 (cs : Nat → Addr) : FS :=
    mSeq (mAsg (mOp dIx (mVar 4) (mC (.int 2))) (mTo 3))
    (mAsg (mAndV (mOp dEq (mOp dIx (mVar 4) (mC (.int 0))) (mC (.str "keyword"))) (mOp dIn (mOp dIx (mVar 4) (mC (.int 1))) (mC (D.tup [D.str "where", D.str "let", D.str "of"])))) (mTo 2))
noncomputable def m_layout_b4 (cs : Nat → Addr) : FS :=
    mSeq (mAsg (mAndV (mVar 2) (mMeth (cs 0) "open_block" 2 (f_Contexts_open_block cs) (mVar 1) (mCons (mVar 4) (mNil)))) (mTo 5))
    (mSeq (mIfS (mBl (mOp dEq (mOp dIx (mVar 4) (mC (.int 0))) (mC (.str "end"))))
    (mSeq (mWhile (mBl (mOp dGt (mCall (dLen) (mCons (mFld [cs 0] "stack" (mVar 1)) (mNil))) (mC (.int 0))))
    (m_layout_b1 cs))
    (m_layout_r2 cs))
    (mSeq (mIfS (mAnd (mBl (mOp dGt (mOp dIx (mVar 4) (mC (.int 2))) (mVar 3))) (mNot (mTru (mVar 5))))
    (mDrop (mMeth (cs 0) "begin_row" 2 (f_Contexts_begin_row cs) (mVar 1) (mCons (mVar 4) (mNil))))
    (mSkip))
    (mDrop (mMeth (cs 0) "take" 2 (f_Contexts_take cs) (mVar 1) (mCons (mVar 4) (mNil))))))
    (m_layout_r3 cs))
noncomputable def m_layout_r5 (cs : Nat → Addr) : FS :=
    mRet (mFld [cs 0] "found" (mVar 1))
noncomputable def m_layout (cs : Nat → Addr) : FS :=
    mSeq (mAsg (mMake (cs 0) 1 (f_Contexts_init cs) mNil) (mTo 1))
    (mSeq (mAsg (mC (.bl true)) (mTo 2))
    (mSeq (mAsg (mC (.int 0)) (mTo 3))
    (mSeq (mFor (mSeqI (mVar 0)) (mTo 4)
    (m_layout_b4 cs))
    (m_layout_r5 cs))))
noncomputable def f_layout (cs : Nat → Addr) : List D → HS → R D := runB 6 (m_layout cs)
abbrev s_z_mix : Stmt := topS 7
noncomputable def m_z_mix (cs : Nat → Addr) : FS :=
    mSeq (mAsg (mOp dMod (mCall (dInt) (mCons (mOp dAdd (mOp dAdd (mOp dMul (mVar 0) (mC (.int 48271))) (mOp dMul (mVar 1) (mC (.int 69621)))) (mC (.int 11))) (mNil))) (mC (.int 2147483647))) (mTo 2))
    (mRet (mOp dMod (mOp dMod (mCall (dInt) (mCons (mOp dAdd (mOp dAdd (mOp dAdd (mOp dMul (mVar 2) (mVar 2)) (mOp dMul (mVar 0) (mC (.int 40692)))) (mOp dMul (mVar 1) (mC (.int 7)))) (mC (.int 3))) (mNil))) (mC (.int 1000003))) (mC (.int 1000))))
noncomputable def f_z_mix (cs : Nat → Addr) : List D → HS → R D := runB 3 (m_z_mix cs)
abbrev s_z_stream : Stmt := topS 8
noncomputable def m_z_stream_b1 (cs : Nat → Addr) : FS :=
    mIfS (mAnd (mBl (mOp dGt (mVar 4) (mC (.int 0)))) (mBl (mOp dLt (mCall (dLen) (mCons (mVar 2) (mNil))) (mVar 1))))
    (mSeq (mDrop (mBM "list" dAppend (mVar 2) (mCons (mOp dMod (mCall (dInt) (mCons (mVar 4) (mNil))) (mC (.int 1000))) (mNil))))
    (mAsg (mOp dFdiv (mVar 4) (mC (.int 1000))) (mTo 4)))
    (mSkip)
noncomputable def m_z_stream_b2 (cs : Nat → Addr) : FS :=
    mIfS (mBl (mOp dLt (mCall (dLen) (mCons (mVar 2) (mNil))) (mVar 1)))
    (mDrop (mBM "list" dAppend (mVar 2) (mCons (mCallF 2 (f_z_mix cs) (mCons (mVar 4) (mCons (mOp dAdd (mOp dMul (mC (.int 64)) (mVar 5)) (mVar 3)) (mNil)))) (mNil))))
    (mSkip)
noncomputable def m_z_stream_b3 (cs : Nat → Addr) : FS :=
    mSeq (mAsg (mOp dIx (mVar 0) (mVar 3)) (mTo 4))
    (mIfS (mBl (mOp dGe (mVar 4) (mOp dPow (mC (.int 10)) (mC (.int 18)))))
    (mFor (mRange1 (mCons (mC (.int 60)) (mNil))) (mTo 5)
    (m_z_stream_b1 cs))
    (mFor (mRange1 (mCons (mC (.int 3)) (mNil))) (mTo 5)
    (m_z_stream_b2 cs)))
noncomputable def m_z_stream_r4 (cs : Nat → Addr) : FS :=
    mRet (mDict [(mC (.str "row"), mVar 2), (mC (.str "at"), mC (.int 0)), (mC (.str "seed"), mCall (dLen) (mCons (mVar 2) (mNil)))])
noncomputable def m_z_stream (cs : Nat → Addr) : FS :=
    mSeq (mAsg (mLst (mNil)) (mTo 2))
    (mSeq (mFor (mRange1 (mCons (mCall (dMin2) (mCons (mCall (dLen) (mCons (mVar 0) (mNil))) (mCons (mC (.int 63)) (mNil)))) (mNil))) (mTo 3)
    (m_z_stream_b3 cs))
    (m_z_stream_r4 cs))
noncomputable def f_z_stream (cs : Nat → Addr) : List D → HS → R D := runB 6 (m_z_stream cs)
abbrev s_z_pick : Stmt := topS 9
noncomputable def m_z_pick_r1 (cs : Nat → Addr) : FS :=
    mRet (mOp dMod (mCall (dInt) (mCons (mVar 3) (mNil))) (mVar 1))
noncomputable def m_z_pick (cs : Nat → Addr) : FS :=
    mSeq (mAsg (mOp dIx (mVar 0) (mC (.str "at"))) (mTo 2))
    (mSeq (mAsg (mOp dAdd (mVar 2) (mC (.int 1))) (mToIx (mVar 0) (mC (.str "at"))))
    (mSeq (mAsg (mCallF 2 (f_z_mix cs) (mCons (mOp dIx (mVar 0) (mC (.str "seed"))) (mCons (mVar 2) (mNil)))) (mTo 3))
    (mSeq (mIfS (mBl (mOp dLt (mVar 2) (mCall (dLen) (mCons (mOp dIx (mVar 0) (mC (.str "row"))) (mNil)))))
    (mAsg (mOp dIx (mOp dIx (mVar 0) (mC (.str "row"))) (mVar 2)) (mTo 3))
    (mSkip))
    (m_z_pick_r1 cs))))
noncomputable def f_z_pick (cs : Nat → Addr) : List D → HS → R D := runB 4 (m_z_pick cs)
abbrev s_z_row : Stmt := topS 10
noncomputable def m_z_row_r1 (cs : Nat → Addr) : FS :=
    mSeq (mDrop (mBM "list" dAppend (mVar 3) (mCons (mTup (mCons (mVar 8) (mCons (mVar 7) (mCons (mVar 4) (mCons (mVar 5) (mNil)))))) (mNil))))
    (mAsg (mOp dAdd (mOp dAdd (mOp dAdd (mVar 5) (mCall (dLen) (mCons (mVar 7) (mNil)))) (mC (.int 1))) (mCallF 2 (f_z_pick cs) (mCons (mVar 0) (mCons (mC (.int 2)) (mNil))))) (mTo 5))
noncomputable def m_z_row_r2 (cs : Nat → Addr) : FS :=
    mSeq (mAsg (mOp dIx (mVar 2) (mCallF 2 (f_z_pick cs) (mCons (mVar 0) (mCons (mC (.int 18)) (mNil))))) (mTo 7))
    (mSeq (mAsg (mC (.str "keyword")) (mTo 8))
    (mSeq (mIfS (mBl (mOp dIn (mVar 7) (mTup (mCons (mC (.str "f")) (mCons (mC (.str "x")) (mNil))))))
    (mAsg (mC (.str "name")) (mTo 8))
    (mIfS (mBl (mOp dEq (mCall (dLen) (mCons (mVar 7) (mNil))) (mC (.int 1))))
    (mAsg (mC (.str "sign")) (mTo 8))
    (mSkip)))
    (m_z_row_r1 cs)))
noncomputable def m_z_row_b3 (cs : Nat → Addr) : FS :=
    mSeq (mIfS (mBl (mOp dEq (mCallF 2 (f_z_pick cs) (mCons (mVar 0) (mCons (mC (.int 3)) (mNil)))) (mC (.int 0))))
    (mSeq (mAsg (mOp dAdd (mOp dAdd (mVar 4) (mC (.int 1))) (mCallF 2 (f_z_pick cs) (mCons (mVar 0) (mCons (mC (.int 2)) (mNil))))) (mTo 4))
    (mAsg (mOp dAdd (mC (.int 1)) (mCallF 2 (f_z_pick cs) (mCons (mVar 0) (mCons (mC (.int 14)) (mNil))))) (mTo 5)))
    (mSkip))
    (m_z_row_r2 cs)
noncomputable def m_z_row_r4 (cs : Nat → Addr) : FS :=
    mSeq (mDrop (mBM "list" dAppend (mVar 3) (mCons (mTup (mCons (mC (.str "end")) (mCons (mC (.str "")) (mCons (mOp dAdd (mVar 4) (mCallF 2 (f_z_pick cs) (mCons (mVar 0) (mCons (mC (.int 2)) (mNil))))) (mCons (mVar 5) (mNil)))))) (mNil))))
    (mRet (mVar 3))
noncomputable def m_z_row (cs : Nat → Addr) : FS :=
    mSeq (mAsg (mLst (mCons (mC (.str "where")) (mCons (mC (.str "let")) (mCons (mC (.str "of")) (mCons (mC (.str "case")) (mCons (mC (.str "if")) (mCons (mC (.str "then")) (mCons (mC (.str "else")) (mCons (mC (.str "in")) (mCons (mC (.str "(")) (mCons (mC (.str ")")) (mCons (mC (.str "[")) (mCons (mC (.str "]")) (mCons (mC (.str "{")) (mCons (mC (.str "}")) (mCons (mC (.str ",")) (mCons (mC (.str "f")) (mCons (mC (.str "x")) (mCons (mC (.str "=")) (mNil)))))))))))))))))))) (mTo 2))
    (mSeq (mAsg (mLst (mNil)) (mTo 3))
    (mSeq (mAsg (mC (.int 1)) (mTo 4))
    (mSeq (mAsg (mC (.int 1)) (mTo 5))
    (mSeq (mFor (mRange1 (mCons (mVar 1) (mNil))) (mTo 6)
    (m_z_row_b3 cs))
    (m_z_row_r4 cs)))))
noncomputable def f_z_row (cs : Nat → Addr) : List D → HS → R D := runB 9 (m_z_row cs)
abbrev s_z_marker : Stmt := topS 11
noncomputable def m_z_marker_b1 (cs : Nat → Addr) : FS :=
    mSeq (mAsg (mOp dIx (mVar 0) (mOp dSub (mOp dSub (mCall (dLen) (mCons (mVar 0) (mNil))) (mC (.int 1))) (mVar 1))) (mTo 2))
    (mIfS (mTru (mCall (dIsi isiTab) (mCons (mVar 2) (mCons (mC (.ty "str")) (mNil)))))
    (mRet (mVar 2))
    (mSkip))
noncomputable def m_z_marker_r2 (cs : Nat → Addr) : FS :=
    mRet (mC (.str ""))
noncomputable def m_z_marker (cs : Nat → Addr) : FS :=
    mSeq (mFor (mRange1 (mCons (mCall (dLen) (mCons (mVar 0) (mNil))) (mNil))) (mTo 1)
    (m_z_marker_b1 cs))
    (m_z_marker_r2 cs)
noncomputable def f_z_marker (cs : Nat → Addr) : List D → HS → R D := runB 3 (m_z_marker cs)
abbrev s_z_inner : Stmt := topS 12
noncomputable def m_z_inner_b1 (cs : Nat → Addr) : FS :=
    mSeq (mAsg (mOp dIx (mVar 0) (mOp dSub (mOp dSub (mCall (dLen) (mCons (mVar 0) (mNil))) (mC (.int 1))) (mVar 1))) (mTo 2))
    (mIfS (mTru (mCall (dIsi isiTab) (mCons (mVar 2) (mCons (mC (.ty "int")) (mNil)))))
    (mRet (mVar 2))
    (mSkip))
noncomputable def m_z_inner_r2 (cs : Nat → Addr) : FS :=
    mRet (mC (.int 0))
noncomputable def m_z_inner (cs : Nat → Addr) : FS :=
    mSeq (mFor (mRange1 (mCons (mCall (dLen) (mCons (mVar 0) (mNil))) (mNil))) (mTo 1)
    (m_z_inner_b1 cs))
    (m_z_inner_r2 cs)
noncomputable def f_z_inner (cs : Nat → Addr) : List D → HS → R D := runB 3 (m_z_inner cs)
abbrev s_z_sign : Stmt := topS 13
noncomputable def m_z_sign (cs : Nat → Addr) : FS :=
    mRet (mTup (mCons (mC (.str "sign")) (mCons (mVar 0) (mCons (mOp dIx (mVar 1) (mC (.int 2))) (mCons (mOp dIx (mVar 1) (mC (.int 3))) (mNil))))))
noncomputable def f_z_sign (cs : Nat → Addr) : List D → HS → R D := runB 2 (m_z_sign cs)
abbrev s_z_close : Stmt := topS 14
noncomputable def m_z_close_b1 (cs : Nat → Addr) : FS :=
    mSeq (mDrop (mBM "list" dPop0 (mVar 0) (mNil)))
    (mDrop (mBM "list" dAppend (mVar 1) (mCons (mCallF 2 (f_z_sign cs) (mCons (mC (.str "}")) (mCons (mVar 2) (mNil)))) (mNil))))
noncomputable def m_z_close (cs : Nat → Addr) : FS :=
    mWhile (mAnd (mTru (mVar 0)) (mTru (mCall (dIsi isiTab) (mCons (mOp dIx (mVar 0) (mUn dNeg (mC (.int 1)))) (mCons (mC (.ty "int")) (mNil))))))
    (m_z_close_b1 cs)
noncomputable def f_z_close (cs : Nat → Addr) : List D → HS → R D := runB 3 (m_z_close cs)
abbrev s_z_effect : Stmt := topS 15
noncomputable def m_z_effect_r1 (cs : Nat → Addr) : FS :=
    mIfS (mBl (mOp dIn (mVar 3) (mTup (mCons (mC (.str "(")) (mCons (mC (.str "[")) (mCons (mC (.str "{")) (mCons (mC (.str "let")) (mCons (mC (.str "case")) (mCons (mC (.str "if")) (mNil))))))))))
    (mDrop (mBM "list" dAppend (mVar 0) (mCons (mVar 3) (mNil))))
    (mSkip)
noncomputable def m_z_effect_r2 (cs : Nat → Addr) : FS :=
    mSeq (mAsg (mDict [(mC (.str ")"), mC (.str "(")), (mC (.str "]"), mC (.str "[")), (mC (.str "}"), mC (.str "{")), (mC (.str "in"), mC (.str "let")), (mC (.str "of"), mC (.str "case")), (mC (.str "then"), mC (.str "if")), (mC (.str "else"), mC (.str "then"))]) (mTo 5))
    (mSeq (mIfS (mAnd (mBl (mOp dIn (mVar 3) (mVar 5))) (mBl (mOp dEq (mVar 4) (mOp dIx (mVar 5) (mVar 3)))))
    (mSeq (mDrop (mCallF 3 (f_z_close cs) (mCons (mVar 0) (mCons (mVar 1) (mCons (mVar 2) (mNil))))))
    (mSeq (mDrop (mBM "list" dPop0 (mVar 0) (mNil)))
    (mIfS (mBl (mOp dEq (mVar 3) (mC (.str "then"))))
    (mDrop (mBM "list" dAppend (mVar 0) (mCons (mC (.str "then")) (mNil))))
    (mSkip))))
    (mSkip))
    (m_z_effect_r1 cs))
noncomputable def m_z_effect (cs : Nat → Addr) : FS :=
    mSeq (mAsg (mOp dIx (mVar 2) (mC (.int 1))) (mTo 3))
    (mSeq (mAsg (mCallF 1 (f_z_marker cs) (mCons (mVar 0) (mNil))) (mTo 4))
    (mSeq (mIfS (mAnd (mBl (mOp dEq (mVar 3) (mC (.str ",")))) (mBl (mOp dIn (mVar 4) (mTup (mCons (mC (.str "(")) (mCons (mC (.str "[")) (mNil)))))))
    (mDrop (mCallF 3 (f_z_close cs) (mCons (mVar 0) (mCons (mVar 1) (mCons (mVar 2) (mNil))))))
    (mSkip))
    (m_z_effect_r2 cs)))
noncomputable def f_z_effect (cs : Nat → Addr) : List D → HS → R D := runB 6 (m_z_effect cs)
abbrev s_z_first : Stmt := topS 16
noncomputable def m_z_first_b1 (cs : Nat → Addr) : FS :=
    mSeq (mDrop (mBM "list" dPop0 (mVar 0) (mNil)))
    (mDrop (mBM "list" dAppend (mVar 1) (mCons (mCallF 2 (f_z_sign cs) (mCons (mC (.str "}")) (mCons (mVar 2) (mNil)))) (mNil))))
noncomputable def m_z_first_r2 (cs : Nat → Addr) : FS :=
    mIfS (mAnd (mTru (mVar 0)) (mBl (mOp dEq (mOp dIx (mVar 0) (mUn dNeg (mC (.int 1)))) (mOp dIx (mVar 2) (mC (.int 3))))))
    (mDrop (mBM "list" dAppend (mVar 1) (mCons (mCallF 2 (f_z_sign cs) (mCons (mC (.str ";")) (mCons (mVar 2) (mNil)))) (mNil))))
    (mSkip)
noncomputable def m_z_first (cs : Nat → Addr) : FS :=
    mSeq (mWhile (mAnd (mTru (mVar 0)) (mAnd (mTru (mCall (dIsi isiTab) (mCons (mOp dIx (mVar 0) (mUn dNeg (mC (.int 1)))) (mCons (mC (.ty "int")) (mNil))))) (mBl (mOp dGt (mOp dIx (mVar 0) (mUn dNeg (mC (.int 1)))) (mOp dIx (mVar 2) (mC (.int 3)))))))
    (m_z_first_b1 cs))
    (m_z_first_r2 cs)
noncomputable def f_z_first (cs : Nat → Addr) : List D → HS → R D := runB 3 (m_z_first cs)
abbrev s_z_opens : Stmt := topS 17
noncomputable def m_z_opens (cs : Nat → Addr) : FS :=
    mSeq (mIfS (mAnd (mBl (mOp dEq (mOp dIx (mVar 2) (mC (.int 1))) (mC (.str "{")))) (mBl (mOp dEq (mOp dIx (mVar 2) (mC (.int 0))) (mC (.str "sign")))))
    (mRet (mC (.bl false)))
    (mSkip))
    (mSeq (mDrop (mBM "list" dAppend (mVar 1) (mCons (mCallF 2 (f_z_sign cs) (mCons (mC (.str "{")) (mCons (mVar 2) (mNil)))) (mNil))))
    (mSeq (mIfS (mOr (mBl (mOp dEq (mOp dIx (mVar 2) (mC (.int 0))) (mC (.str "end")))) (mBl (mOp dLe (mOp dIx (mVar 2) (mC (.int 3))) (mCallF 1 (f_z_inner cs) (mCons (mVar 0) (mNil))))))
    (mSeq (mDrop (mBM "list" dAppend (mVar 1) (mCons (mCallF 2 (f_z_sign cs) (mCons (mC (.str "}")) (mCons (mVar 2) (mNil)))) (mNil))))
    (mRet (mC (.bl false))))
    (mSkip))
    (mSeq (mDrop (mBM "list" dAppend (mVar 0) (mCons (mOp dIx (mVar 2) (mC (.int 3))) (mNil))))
    (mRet (mC (.bl true))))))
noncomputable def f_z_opens (cs : Nat → Addr) : List D → HS → R D := runB 3 (m_z_opens cs)
abbrev s_z_layout : Stmt := topS 18
noncomputable def m_z_layout_b1 (cs : Nat → Addr) : FS :=
    mIfS (mTru (mCall (dIsi isiTab) (mCons (mVar 6) (mCons (mC (.ty "int")) (mNil)))))
    (mDrop (mBM "list" dAppend (mVar 2) (mCons (mCallF 2 (f_z_sign cs) (mCons (mC (.str "}")) (mCons (mVar 4) (mNil)))) (mNil))))
    (mSkip)
noncomputable def m_z_layout_r2 (cs : Nat → Addr) : FS :=
    mSeq (mIfS (mBl (mOp dEq (mOp dIx (mVar 4) (mC (.int 0))) (mC (.str "end"))))
    (mFor (mRevI (mVar 1)) (mTo 6)
    (m_z_layout_b1 cs))
    (mSeq (mIfS (mAnd (mNot (mTru (mVar 5))) (mOr (mBl (mOp dEq (mVar 3) (mC (.int 0)))) (mBl (mOp dLt (mOp dIx (mOp dIx (mVar 0) (mOp dSub (mVar 3) (mC (.int 1)))) (mC (.int 2))) (mOp dIx (mVar 4) (mC (.int 2)))))))
    (mDrop (mCallF 3 (f_z_first cs) (mCons (mVar 1) (mCons (mVar 2) (mCons (mVar 4) (mNil))))))
    (mSkip))
    (mDrop (mCallF 3 (f_z_effect cs) (mCons (mVar 1) (mCons (mVar 2) (mCons (mVar 4) (mNil))))))))
    (mDrop (mBM "list" dAppend (mVar 2) (mCons (mVar 4) (mNil))))
noncomputable def m_z_layout_b3 (cs : Nat → Addr) : FS :=
    mSeq (mAsg (mOp dIx (mVar 0) (mVar 3)) (mTo 4))
    (mSeq (mAsg (mC (.bl false)) (mTo 5))
    (mSeq (mIfS (mOr (mBl (mOp dEq (mVar 3) (mC (.int 0)))) (mBl (mOp dIn (mOp dIx (mOp dIx (mVar 0) (mOp dSub (mVar 3) (mC (.int 1)))) (mC (.int 1))) (mTup (mCons (mC (.str "where")) (mCons (mC (.str "let")) (mCons (mC (.str "of")) (mNil))))))))
    (mAsg (mCallF 3 (f_z_opens cs) (mCons (mVar 1) (mCons (mVar 2) (mCons (mVar 4) (mNil))))) (mTo 5))
    (mSkip))
    (m_z_layout_r2 cs)))
noncomputable def m_z_layout_r4 (cs : Nat → Addr) : FS :=
    mRet (mVar 2)
noncomputable def m_z_layout (cs : Nat → Addr) : FS :=
    mSeq (mAsg (mLst (mNil)) (mTo 1))
    (mSeq (mAsg (mLst (mNil)) (mTo 2))
    (mSeq (mFor (mRange1 (mCons (mCall (dLen) (mCons (mVar 0) (mNil))) (mNil))) (mTo 3)
    (m_z_layout_b3 cs))
    (m_z_layout_r4 cs)))
noncomputable def f_z_layout (cs : Nat → Addr) : List D → HS → R D := runB 7 (m_z_layout cs)
abbrev s_law : Stmt := topS 19
noncomputable def m_law (cs : Nat → Addr) : FS :=
    mSeq (mAsg (mCallF 2 (f_z_stream cs) (mCons (mVar 0) (mCons (mC (.int 300)) (mNil)))) (mTo 1))
    (mSeq (mAsg (mCallF 2 (f_z_row cs) (mCons (mVar 1) (mCons (mCall (dMin2) (mCons (mC (.int 100)) (mCons (mOp dFdiv (mCall (dLen) (mCons (mOp dIx (mVar 1) (mC (.str "row"))) (mNil))) (mC (.int 2))) (mNil)))) (mNil)))) (mTo 2))
    (mSeq (mAsg (mCall (dList) (mCons (mVar 2) (mNil))) (mTo 3))
    (mSeq (mAsg (mCallF 1 (f_z_layout cs) (mCons (mVar 2) (mNil))) (mTo 4))
    (mSeq (mAsg (mCallF 1 (f_layout cs) (mCons (mVar 3) (mNil))) (mTo 5))
    (mSeq (mIfS (mOr (mNot (mTru (mCall (dIsi isiTab) (mCons (mVar 5) (mCons (mC (.ty "list")) (mNil)))))) (mOr (mBl (mOp dNe (mVar 5) (mVar 4))) (mBl (mOp dNe (mVar 3) (mVar 2)))))
    (mRet (mC (.bl false)))
    (mSkip))
    (mSeq (mAsg (mCallF 1 (f_layout cs) (mCons (mVar 3) (mNil))) (mTo 6))
    (mSeq (mDrop (mBM "list" dAppend (mVar 5) (mCons (mC (.str "spoilt")) (mNil))))
    (mRet (mAndV (mOp dEq (mVar 6) (mVar 4)) (mOp dEq (mCallF 1 (f_layout cs) (mCons (mLst (mCons (mTup (mCons (mC (.str "end")) (mCons (mC (.str "")) (mCons (mC (.int 1)) (mCons (mC (.int 1)) (mNil)))))) (mNil))) (mNil))) (mLst (mCons (mTup (mCons (mC (.str "sign")) (mCons (mC (.str "{")) (mCons (mC (.int 1)) (mCons (mC (.int 1)) (mNil)))))) (mCons (mTup (mCons (mC (.str "sign")) (mCons (mC (.str "}")) (mCons (mC (.int 1)) (mCons (mC (.int 1)) (mNil)))))) (mCons (mTup (mCons (mC (.str "end")) (mCons (mC (.str "")) (mCons (mC (.int 1)) (mCons (mC (.int 1)) (mNil)))))) (mNil)))))))))))))))
noncomputable def f_law (cs : Nat → Addr) : List D → HS → R D := runB 7 (m_law cs)
/-! ### the facts of the top -/
structure Txt (K : PySem.W.Frag) (w : World) (mg : Str → Option Value) (cs : Nat → Addr) : Prop where
  b_int : mg "int" = none
  b_isinstance : mg "isinstance" = none
  b_len : mg "len" = none
  b_list : mg "list" = none
  b_min : mg "min" = none
  b_range : mg "range" = none
  b_reversed : mg "reversed" = none
  b_str : mg "str" = none
  isi : ∀ p ∈ isiTab, PySem.W.kitOne K (.type p.1) (.type p.2.1) = some p.2.2
  c_MARKERS : KName K mg "MARKERS" (D.tup [D.str "(", D.str "[", D.str "{", D.str "let", D.str "case", D.str "if"])
  c_OPENERS : KName K mg "OPENERS" (D.tup [D.str "where", D.str "let", D.str "of"])
  t_CLOSED_BY : KTab K w mg "CLOSED_BY" tab_CLOSED_BY
  h_found : HasF K [cs 0] "found"
  h_stack : HasF K [cs 0] "stack"
section
variable {P : Program} {w : World} {K : PySem.W.Frag} {mg : Str → Option Value} {base : Heap} {cs : Nat → Addr}
abbrev N_Contexts_init : List Str := ["self"]
theorem sc_Contexts_init : FnScope N_Contexts_init ["self"] (defScope s_Contexts_init) := ⟨rfl, rfl, rfl, by decide +kernel, rfl, by decide +kernel, by decide +kernel⟩
theorem ok_Contexts_init {f : Addr} {fd : FuncData} (F : Fun K "__init__" "Contexts.__init__" s_Contexts_init f fd) (T : Txt K w mg cs)  : FnOk P w K mg base (L2.CX P w) 1 f fd ["self"] (spF K 1 (f_Contexts_init cs)) := by
  show FnOk P w K mg base (L2.CX P w) (0 + 1) f fd ["self"] (spF K (List.length ["self"]) (runB (List.length N_Contexts_init) (m_Contexts_init cs)))
  refine fn_ok F sc_Contexts_init fun cdv A outer s H E C => ?_
  refine gs_cons (g_fldSet T.h_stack (gv 0) (g_lst (ga_nil))) ?_
  exact gs_one (g_fldSet T.h_found (gv 0) (g_lst (ga_nil)))
abbrev N_Contexts_add : List Str := ["self", "text", "token"]
theorem sc_Contexts_add : FnScope N_Contexts_add ["self", "text", "token"] (defScope s_Contexts_add) := ⟨rfl, rfl, rfl, by decide +kernel, rfl, by decide +kernel, by decide +kernel⟩
theorem ok_Contexts_add {f : Addr} {fd : FuncData} (F : Fun K "add" "Contexts.add" s_Contexts_add f fd) (T : Txt K w mg cs)  : FnOk P w K mg base (L2.CX P w) 1 f fd ["self", "text", "token"] (spF K 3 (f_Contexts_add cs)) := by
  show FnOk P w K mg base (L2.CX P w) (0 + 1) f fd ["self", "text", "token"] (spF K (List.length ["self", "text", "token"]) (runB (List.length N_Contexts_add) (m_Contexts_add cs)))
  refine fn_ok F sc_Contexts_add fun cdv A outer s H E C => ?_
  exact gs_one (g_expr (g_bm PySem.F.plainAttrs_list PySem.F.slot_list_append PySem.F.type_list_append mt_append s_append (g_fld T.h_found (gv 0)) (ga_cons (g_tup (ga_cons (g_str) (ga_cons (gv 1) (ga_cons (g_ix (o_ix C.u1) s_ix (gv 2) (g_int)) (ga_cons (g_ix (o_ix C.u1) s_ix (gv 2) (g_int)) (ga_nil)))))) (ga_nil))))
abbrev N_Contexts_column : List Str := ["self", "context"]
theorem sc_Contexts_column : FnScope N_Contexts_column ["self"] (defScope s_Contexts_column) := ⟨rfl, rfl, rfl, by decide +kernel, rfl, by decide +kernel, by decide +kernel⟩
theorem ok_Contexts_column {f : Addr} {fd : FuncData} (F : Fun K "column" "Contexts.column" s_Contexts_column f fd) (T : Txt K w mg cs)  : FnOk P w K mg base (L2.CX P w) 1 f fd ["self"] (spF K 1 (f_Contexts_column cs)) := by
  show FnOk P w K mg base (L2.CX P w) (0 + 1) f fd ["self"] (spF K (List.length ["self"]) (runB (List.length N_Contexts_column) (m_Contexts_column cs)))
  refine fn_ok F sc_Contexts_column fun cdv A outer s H E C => ?_
  refine gs_cons ?_ ?_
  · refine g_for C (gi_rev T.b_reversed (g_fld T.h_stack (gv 0))) (gg_name C.nd) ?_
    delta m_Contexts_column_b1
    refine gs_one ?_
    refine g_ifS (gt_val (g_callB call_isi (s_isi T.isi) T.b_isinstance (by decide +kernel) (ga_cons (gv 1) (ga_cons (g_tyName T.b_int (by decide +kernel)) (ga_nil))))) ?_ ?_
    · exact gs_one (g_ret (gv 1))
    · exact gs_nil
  delta m_Contexts_column_r2
  exact gs_one (g_ret (g_int))
abbrev N_Contexts_open_block : List Str := ["self", "token"]
theorem sc_Contexts_open_block : FnScope N_Contexts_open_block ["self", "token"] (defScope s_Contexts_open_block) := ⟨rfl, rfl, rfl, by decide +kernel, rfl, by decide +kernel, by decide +kernel⟩
theorem ok_Contexts_open_block {f : Addr} {fd : FuncData} (F : Fun K "open_block" "Contexts.open_block" s_Contexts_open_block f fd) (T : Txt K w mg cs) (F_Contexts_add : MD P w K mg base 1 (cs 0) "add" 3 (f_Contexts_add cs)) (F_Contexts_column : MD P w K mg base 1 (cs 0) "column" 1 (f_Contexts_column cs)) : FnOk P w K mg base (L2.CX P w) 2 f fd ["self", "token"] (spF K 2 (f_Contexts_open_block cs)) := by
  show FnOk P w K mg base (L2.CX P w) (1 + 1) f fd ["self", "token"] (spF K (List.length ["self", "token"]) (runB (List.length N_Contexts_open_block) (m_Contexts_open_block cs)))
  refine fn_ok F sc_Contexts_open_block fun cdv A outer s H E C => ?_
  refine gs_cons ?_ ?_
  · refine g_ifS (gt_w (gw_and (gt_cmp (o_eq C.u64) s_eq (g_ix (o_ix C.u1) s_ix (gv 1) (g_int)) (g_str)) (gw_and1 (gt_cmp (o_eq C.u64) s_eq (g_ix (o_ix C.u1) s_ix (gv 1) (g_int)) (g_str))))) ?_ ?_
    · exact gs_one (g_ret (g_bl))
    · exact gs_nil
  refine gs_cons (g_expr (g_meth F_Contexts_add C (by omega) (gv 0) (ga_cons (g_str) (ga_cons (gv 1) (ga_nil))))) ?_
  refine gs_cons ?_ ?_
  · refine g_ifS (gt_w (gw_and (gt_cmp (o_ne C.u64) s_ne (g_ix (o_ix C.u1) s_ix (gv 1) (g_int)) (g_str)) (gw_and1 (gt_cmp op_gt s_gt (g_ix (o_ix C.u1) s_ix (gv 1) (g_int)) (g_meth0 F_Contexts_column C (by omega) (gv 0)))))) ?_ ?_
    · refine gs_cons (g_expr (g_bm PySem.F.plainAttrs_list PySem.F.slot_list_append PySem.F.type_list_append mt_append s_append (g_fld T.h_stack (gv 0)) (ga_cons (g_ix (o_ix C.u1) s_ix (gv 1) (g_int)) (ga_nil)))) ?_
      exact gs_one (g_ret (g_bl))
    · exact gs_nil
  refine gs_cons (g_expr (g_meth F_Contexts_add C (by omega) (gv 0) (ga_cons (g_str) (ga_cons (gv 1) (ga_nil))))) ?_
  exact gs_one (g_ret (g_bl))
abbrev N_Contexts_on_block : List Str := ["self"]
theorem sc_Contexts_on_block : FnScope N_Contexts_on_block ["self"] (defScope s_Contexts_on_block) := ⟨rfl, rfl, rfl, by decide +kernel, rfl, by decide +kernel, by decide +kernel⟩
theorem ok_Contexts_on_block {f : Addr} {fd : FuncData} (F : Fun K "on_block" "Contexts.on_block" s_Contexts_on_block f fd) (T : Txt K w mg cs)  : FnOk P w K mg base (L2.CX P w) 1 f fd ["self"] (spF K 1 (f_Contexts_on_block cs)) := by
  show FnOk P w K mg base (L2.CX P w) (0 + 1) f fd ["self"] (spF K (List.length ["self"]) (runB (List.length N_Contexts_on_block) (m_Contexts_on_block cs)))
  refine fn_ok F sc_Contexts_on_block fun cdv A outer s H E C => ?_
  exact gs_one (g_ret (g_and (g_cmp op_gt s_gt (g_callB o_len s_len T.b_len (by decide +kernel) (ga_cons (g_fld T.h_stack (gv 0)) (ga_nil))) (g_int)) (g_one (g_callB call_isi (s_isi T.isi) T.b_isinstance (by decide +kernel) (ga_cons (g_ix (o_ix C.u1) s_ix (g_fld T.h_stack (gv 0)) (g_un un_neg s_neg (g_int))) (ga_cons (g_tyName T.b_int (by decide +kernel)) (ga_nil)))))))
abbrev N_Contexts_close_blocks : List Str := ["self", "token"]
theorem sc_Contexts_close_blocks : FnScope N_Contexts_close_blocks ["self", "token"] (defScope s_Contexts_close_blocks) := ⟨rfl, rfl, rfl, by decide +kernel, rfl, by decide +kernel, by decide +kernel⟩
theorem ok_Contexts_close_blocks {f : Addr} {fd : FuncData} (F : Fun K "close_blocks" "Contexts.close_blocks" s_Contexts_close_blocks f fd) (T : Txt K w mg cs) (F_Contexts_on_block : MD P w K mg base 1 (cs 0) "on_block" 1 (f_Contexts_on_block cs)) (F_Contexts_add : MD P w K mg base 1 (cs 0) "add" 3 (f_Contexts_add cs)) : FnOk P w K mg base (L2.CX P w) 2 f fd ["self", "token"] (spF K 2 (f_Contexts_close_blocks cs)) := by
  show FnOk P w K mg base (L2.CX P w) (1 + 1) f fd ["self", "token"] (spF K (List.length ["self", "token"]) (runB (List.length N_Contexts_close_blocks) (m_Contexts_close_blocks cs)))
  refine fn_ok F sc_Contexts_close_blocks fun cdv A outer s H E C => ?_
  refine gs_one ?_
  refine g_while C (gt_val (g_meth0 F_Contexts_on_block C (by omega) (gv 0))) ?_
  delta m_Contexts_close_blocks_b1
  refine gs_cons (g_expr (g_bm0 PySem.F.plainAttrs_list PySem.F.slot_list_pop PySem.F.type_list_pop mt_pop s_pop0 (g_fld T.h_stack (gv 0)))) ?_
  exact gs_one (g_expr (g_meth F_Contexts_add C (by omega) (gv 0) (ga_cons (g_str) (ga_cons (gv 1) (ga_nil)))))
abbrev N_Contexts_marker : List Str := ["self", "context"]
theorem sc_Contexts_marker : FnScope N_Contexts_marker ["self"] (defScope s_Contexts_marker) := ⟨rfl, rfl, rfl, by decide +kernel, rfl, by decide +kernel, by decide +kernel⟩
theorem ok_Contexts_marker {f : Addr} {fd : FuncData} (F : Fun K "marker" "Contexts.marker" s_Contexts_marker f fd) (T : Txt K w mg cs)  : FnOk P w K mg base (L2.CX P w) 1 f fd ["self"] (spF K 1 (f_Contexts_marker cs)) := by
  show FnOk P w K mg base (L2.CX P w) (0 + 1) f fd ["self"] (spF K (List.length ["self"]) (runB (List.length N_Contexts_marker) (m_Contexts_marker cs)))
  refine fn_ok F sc_Contexts_marker fun cdv A outer s H E C => ?_
  refine gs_cons ?_ ?_
  · refine g_for C (gi_rev T.b_reversed (g_fld T.h_stack (gv 0))) (gg_name C.nd) ?_
    delta m_Contexts_marker_b1
    refine gs_one ?_
    refine g_ifS (gt_not (gt_val (g_callB call_isi (s_isi T.isi) T.b_isinstance (by decide +kernel) (ga_cons (gv 1) (ga_cons (g_tyName T.b_int (by decide +kernel)) (ga_nil)))))) ?_ ?_
    · exact gs_one (g_ret (gv 1))
    · exact gs_nil
  delta m_Contexts_marker_r2
  exact gs_one (g_ret (g_str))
abbrev N_Contexts_close_to : List Str := ["self", "marker", "token"]
theorem sc_Contexts_close_to : FnScope N_Contexts_close_to ["self", "marker", "token"] (defScope s_Contexts_close_to) := ⟨rfl, rfl, rfl, by decide +kernel, rfl, by decide +kernel, by decide +kernel⟩
theorem ok_Contexts_close_to {f : Addr} {fd : FuncData} (F : Fun K "close_to" "Contexts.close_to" s_Contexts_close_to f fd) (T : Txt K w mg cs) (F_Contexts_close_blocks : MD P w K mg base 2 (cs 0) "close_blocks" 2 (f_Contexts_close_blocks cs)) (F_Contexts_marker : MD P w K mg base 1 (cs 0) "marker" 1 (f_Contexts_marker cs)) : FnOk P w K mg base (L2.CX P w) 3 f fd ["self", "marker", "token"] (spF K 3 (f_Contexts_close_to cs)) := by
  show FnOk P w K mg base (L2.CX P w) (2 + 1) f fd ["self", "marker", "token"] (spF K (List.length ["self", "marker", "token"]) (runB (List.length N_Contexts_close_to) (m_Contexts_close_to cs)))
  refine fn_ok F sc_Contexts_close_to fun cdv A outer s H E C => ?_
  refine gs_cons ?_ ?_
  · refine g_ifS (gt_cmp (o_ne C.u64) s_ne (g_meth0 F_Contexts_marker C (by omega) (gv 0)) (gv 1)) ?_ ?_
    · exact gs_one (g_ret (g_bl))
    · exact gs_nil
  refine gs_cons (g_expr (g_meth F_Contexts_close_blocks C (by omega) (gv 0) (ga_cons (gv 2) (ga_nil)))) ?_
  refine gs_cons (g_expr (g_bm0 PySem.F.plainAttrs_list PySem.F.slot_list_pop PySem.F.type_list_pop mt_pop s_pop0 (g_fld T.h_stack (gv 0)))) ?_
  exact gs_one (g_ret (g_bl))
abbrev N_Contexts_take : List Str := ["self", "token", "text"]
theorem sc_Contexts_take : FnScope N_Contexts_take ["self", "token"] (defScope s_Contexts_take) := ⟨rfl, rfl, rfl, by decide +kernel, rfl, by decide +kernel, by decide +kernel⟩
theorem ok_Contexts_take {f : Addr} {fd : FuncData} (F : Fun K "take" "Contexts.take" s_Contexts_take f fd) (T : Txt K w mg cs) (F_Contexts_close_blocks : MD P w K mg base 2 (cs 0) "close_blocks" 2 (f_Contexts_close_blocks cs)) (F_Contexts_close_to : MD P w K mg base 3 (cs 0) "close_to" 3 (f_Contexts_close_to cs)) (F_Contexts_marker : MD P w K mg base 1 (cs 0) "marker" 1 (f_Contexts_marker cs)) : FnOk P w K mg base (L2.CX P w) 4 f fd ["self", "token"] (spF K 2 (f_Contexts_take cs)) := by
  show FnOk P w K mg base (L2.CX P w) (3 + 1) f fd ["self", "token"] (spF K (List.length ["self", "token"]) (runB (List.length N_Contexts_take) (m_Contexts_take cs)))
  refine fn_ok F sc_Contexts_take fun cdv A outer s H E C => ?_
  refine gs_cons (g_asg (g_ix (o_ix C.u1) s_ix (gv 1) (g_int)) (gg_name C.nd)) ?_
  refine gs_cons ?_ ?_
  · refine g_ifS (gt_cmp (o_in C.u1) s_in (g_ix (o_ix C.u1) s_ix (gv 1) (g_int)) (g_tup (ga_cons (g_str) (ga_cons (g_str) (ga_nil))))) ?_ ?_
    · refine gs_cons ?_ ?_
      · refine g_ifS (gt_w (gw_and (gt_cmp (o_eq C.u64) s_eq (gv 2) (g_str)) (gw_and1 (gt_cmp (o_in C.u1) s_in (g_meth0 F_Contexts_marker C (by omega) (gv 0)) (g_tup (ga_cons (g_str) (ga_cons (g_str) (ga_nil)))))))) ?_ ?_
        · exact gs_one (g_expr (g_meth F_Contexts_close_blocks C (by omega) (gv 0) (ga_cons (gv 1) (ga_nil))))
        · exact gs_nil
      delta m_Contexts_take_r2
      refine gs_cons ?_ ?_
      · refine g_ifS (gt_w (gw_and (gt_kin T.t_CLOSED_BY (gv 2)) (gw_and (gt_val (g_meth F_Contexts_close_to C (by omega) (gv 0) (ga_cons (g_kget T.t_CLOSED_BY (gv 2)) (ga_cons (gv 1) (ga_nil))))) (gw_and1 (gt_cmp (o_eq C.u64) s_eq (gv 2) (g_str)))))) ?_ ?_
        · exact gs_one (g_expr (g_bm PySem.F.plainAttrs_list PySem.F.slot_list_append PySem.F.type_list_append mt_append s_append (g_fld T.h_stack (gv 0)) (ga_cons (g_str) (ga_nil))))
        · exact gs_nil
      delta m_Contexts_take_r1
      refine gs_one ?_
      refine g_ifS (gt_cmp (o_in C.u1) s_in (gv 2) (g_glob T.c_MARKERS)) ?_ ?_
      · exact gs_one (g_expr (g_bm PySem.F.plainAttrs_list PySem.F.slot_list_append PySem.F.type_list_append mt_append s_append (g_fld T.h_stack (gv 0)) (ga_cons (gv 2) (ga_nil))))
      · exact gs_nil
    · exact gs_nil
  exact gs_one (g_expr (g_bm PySem.F.plainAttrs_list PySem.F.slot_list_append PySem.F.type_list_append mt_append s_append (g_fld T.h_found (gv 0)) (ga_cons (gv 1) (ga_nil))))
abbrev N_Contexts_begin_row : List Str := ["self", "token"]
theorem sc_Contexts_begin_row : FnScope N_Contexts_begin_row ["self", "token"] (defScope s_Contexts_begin_row) := ⟨rfl, rfl, rfl, by decide +kernel, rfl, by decide +kernel, by decide +kernel⟩
theorem ok_Contexts_begin_row {f : Addr} {fd : FuncData} (F : Fun K "begin_row" "Contexts.begin_row" s_Contexts_begin_row f fd) (T : Txt K w mg cs) (F_Contexts_on_block : MD P w K mg base 1 (cs 0) "on_block" 1 (f_Contexts_on_block cs)) (F_Contexts_add : MD P w K mg base 1 (cs 0) "add" 3 (f_Contexts_add cs)) : FnOk P w K mg base (L2.CX P w) 2 f fd ["self", "token"] (spF K 2 (f_Contexts_begin_row cs)) := by
  show FnOk P w K mg base (L2.CX P w) (1 + 1) f fd ["self", "token"] (spF K (List.length ["self", "token"]) (runB (List.length N_Contexts_begin_row) (m_Contexts_begin_row cs)))
  refine fn_ok F sc_Contexts_begin_row fun cdv A outer s H E C => ?_
  refine gs_cons ?_ ?_
  · refine g_while C (gt_w (gw_and (gt_val (g_meth0 F_Contexts_on_block C (by omega) (gv 0))) (gw_and1 (gt_cmp op_gt s_gt (g_ix (o_ix C.u1) s_ix (g_fld T.h_stack (gv 0)) (g_un un_neg s_neg (g_int))) (g_ix (o_ix C.u1) s_ix (gv 1) (g_int)))))) ?_
    delta m_Contexts_begin_row_b1
    refine gs_cons (g_expr (g_bm0 PySem.F.plainAttrs_list PySem.F.slot_list_pop PySem.F.type_list_pop mt_pop s_pop0 (g_fld T.h_stack (gv 0)))) ?_
    exact gs_one (g_expr (g_meth F_Contexts_add C (by omega) (gv 0) (ga_cons (g_str) (ga_cons (gv 1) (ga_nil)))))
  delta m_Contexts_begin_row_r2
  refine gs_one ?_
  refine g_ifS (gt_w (gw_and (gt_val (g_meth0 F_Contexts_on_block C (by omega) (gv 0))) (gw_and1 (gt_cmp (o_eq C.u64) s_eq (g_ix (o_ix C.u1) s_ix (g_fld T.h_stack (gv 0)) (g_un un_neg s_neg (g_int))) (g_ix (o_ix C.u1) s_ix (gv 1) (g_int)))))) ?_ ?_
  · exact gs_one (g_expr (g_meth F_Contexts_add C (by omega) (gv 0) (ga_cons (g_str) (ga_cons (gv 1) (ga_nil)))))
  · exact gs_nil
abbrev N_layout : List Str := ["row", "contexts", "expected", "last_row", "token", "inside"]
theorem sc_layout : FnScope N_layout ["row"] (defScope s_layout) := ⟨rfl, rfl, rfl, by decide +kernel, rfl, by decide +kernel, by decide +kernel⟩
theorem ok_layout {f : Addr} {fd : FuncData} (F : Fun K "layout" "layout" s_layout f fd) (T : Txt K w mg cs) (K_Contexts : CD P w K mg base 1 "Contexts" (cs 0) 1 (f_Contexts_init cs)) (F_Contexts_open_block : MD P w K mg base 2 (cs 0) "open_block" 2 (f_Contexts_open_block cs)) (F_Contexts_take : MD P w K mg base 4 (cs 0) "take" 2 (f_Contexts_take cs)) (F_Contexts_on_block : MD P w K mg base 1 (cs 0) "on_block" 1 (f_Contexts_on_block cs)) (F_Contexts_begin_row : MD P w K mg base 2 (cs 0) "begin_row" 2 (f_Contexts_begin_row cs)) (F_Contexts_add : MD P w K mg base 1 (cs 0) "add" 3 (f_Contexts_add cs)) : FnOk P w K mg base (L2.CX P w) 5 f fd ["row"] (spF K 1 (f_layout cs)) := by
  show FnOk P w K mg base (L2.CX P w) (4 + 1) f fd ["row"] (spF K (List.length ["row"]) (runB (List.length N_layout) (m_layout cs)))
  refine fn_ok F sc_layout fun cdv A outer s H E C => ?_
  refine gs_cons (g_asg (g_make0 K_Contexts C (by omega)) (gg_name C.nd)) ?_
  refine gs_cons (g_asg (g_bl) (gg_name C.nd)) ?_
  refine gs_cons (g_asg (g_int) (gg_name C.nd)) ?_
  refine gs_cons ?_ ?_
  · refine g_for C (gi_seq (gv 0)) (gg_name C.nd) ?_
    delta m_layout_b4
    refine gs_cons (g_asg (g_and (gv 2) (g_one (g_meth F_Contexts_open_block C (by omega) (gv 1) (ga_cons (gv 4) (ga_nil))))) (gg_name C.nd)) ?_
    refine gs_cons ?_ ?_
    · refine g_ifS (gt_cmp (o_eq C.u64) s_eq (g_ix (o_ix C.u1) s_ix (gv 4) (g_int)) (g_str)) ?_ ?_
      · refine gs_cons ?_ ?_
        · refine g_while C (gt_cmp op_gt s_gt (g_callB o_len s_len T.b_len (by decide +kernel) (ga_cons (g_fld T.h_stack (gv 1)) (ga_nil))) (g_int)) ?_
          delta m_layout_b1
          refine gs_cons ?_ ?_
          · refine g_ifS (gt_val (g_meth0 F_Contexts_on_block C (by omega) (gv 1))) ?_ ?_
            · exact gs_one (g_expr (g_meth F_Contexts_add C (by omega) (gv 1) (ga_cons (g_str) (ga_cons (gv 4) (ga_nil)))))
            · exact gs_nil
          exact gs_one (g_expr (g_bm0 PySem.F.plainAttrs_list PySem.F.slot_list_pop PySem.F.type_list_pop mt_pop s_pop0 (g_fld T.h_stack (gv 1))))
        delta m_layout_r2
        exact gs_one (g_expr (g_bm PySem.F.plainAttrs_list PySem.F.slot_list_append PySem.F.type_list_append mt_append s_append (g_fld T.h_found (gv 1)) (ga_cons (gv 4) (ga_nil))))
      · refine gs_cons ?_ ?_
        · refine g_ifS (gt_w (gw_and (gt_cmp op_gt s_gt (g_ix (o_ix C.u1) s_ix (gv 4) (g_int)) (gv 3)) (gw_and1 (gt_not (gt_val (gv 5)))))) ?_ ?_
          · exact gs_one (g_expr (g_meth F_Contexts_begin_row C (by omega) (gv 1) (ga_cons (gv 4) (ga_nil))))
          · exact gs_nil
        exact gs_one (g_expr (g_meth F_Contexts_take C (by omega) (gv 1) (ga_cons (gv 4) (ga_nil))))
    delta m_layout_r3
    refine gs_cons (g_asg (g_ix (o_ix C.u1) s_ix (gv 4) (g_int)) (gg_name C.nd)) ?_
    exact gs_one (g_asg (g_and (g_cmp (o_eq C.u64) s_eq (g_ix (o_ix C.u1) s_ix (gv 4) (g_int)) (g_str)) (g_one (g_cmp (o_in C.u1) s_in (g_ix (o_ix C.u1) s_ix (gv 4) (g_int)) (g_glob T.c_OPENERS)))) (gg_name C.nd))
  delta m_layout_r5
  exact gs_one (g_ret (g_fld T.h_found (gv 1)))
abbrev N_z_mix : List Str := ["_law_cell", "_law_k", "_law_low"]
theorem sc_z_mix : FnScope N_z_mix ["_law_cell", "_law_k"] (defScope s_z_mix) := ⟨rfl, rfl, rfl, by decide +kernel, rfl, by decide +kernel, by decide +kernel⟩
theorem ok_z_mix {f : Addr} {fd : FuncData} (F : Fun K "_law_mix" "_law_mix" s_z_mix f fd) (T : Txt K w mg cs)  : FnOk P w K mg base (L2.CX P w) 1 f fd ["_law_cell", "_law_k"] (spF K 2 (f_z_mix cs)) := by
  show FnOk P w K mg base (L2.CX P w) (0 + 1) f fd ["_law_cell", "_law_k"] (spF K (List.length ["_law_cell", "_law_k"]) (runB (List.length N_z_mix) (m_z_mix cs)))
  refine fn_ok F sc_z_mix fun cdv A outer s H E C => ?_
  refine gs_cons (g_asg (g_op op_mod s_mod (g_callTy call_int1 s_int T.b_int (by decide +kernel) (ga_cons (g_op o_add s_add (g_op o_add s_add (g_op op_mul s_mul (gv 0) (g_int)) (g_op op_mul s_mul (gv 1) (g_int))) (g_int)) (ga_nil))) (g_int)) (gg_name C.nd)) ?_
  exact gs_one (g_ret (g_op op_mod s_mod (g_op op_mod s_mod (g_callTy call_int1 s_int T.b_int (by decide +kernel) (ga_cons (g_op o_add s_add (g_op o_add s_add (g_op o_add s_add (g_op op_mul s_mul (gv 2) (gv 2)) (g_op op_mul s_mul (gv 0) (g_int))) (g_op op_mul s_mul (gv 1) (g_int))) (g_int)) (ga_nil))) (g_int)) (g_int)))
abbrev N_z_stream : List Str := ["_law_script", "_law_most", "_law_row_here", "_law_k", "_law_rest", "_law_j"]
theorem sc_z_stream : FnScope N_z_stream ["_law_script", "_law_most"] (defScope s_z_stream) := ⟨rfl, rfl, rfl, by decide +kernel, rfl, by decide +kernel, by decide +kernel⟩
theorem ok_z_stream {f : Addr} {fd : FuncData} (F : Fun K "_law_stream" "_law_stream" s_z_stream f fd) (T : Txt K w mg cs) (F_z_mix : FD P w K mg base 1 "_law_mix" 2 (f_z_mix cs)) : FnOk P w K mg base (L2.CX P w) 2 f fd ["_law_script", "_law_most"] (spF K 2 (f_z_stream cs)) := by
  show FnOk P w K mg base (L2.CX P w) (1 + 1) f fd ["_law_script", "_law_most"] (spF K (List.length ["_law_script", "_law_most"]) (runB (List.length N_z_stream) (m_z_stream cs)))
  refine fn_ok F sc_z_stream fun cdv A outer s H E C => ?_
  refine gs_cons (g_asg (g_lst (ga_nil)) (gg_name C.nd)) ?_
  refine gs_cons ?_ ?_
  · refine g_for C (gi_range1 T.b_range (ga_cons (g_callB (call_min2 C.calm) s_min2 T.b_min (by decide +kernel) (ga_cons (g_callB o_len s_len T.b_len (by decide +kernel) (ga_cons (gv 0) (ga_nil))) (ga_cons (g_int) (ga_nil)))) (ga_nil))) (gg_name C.nd) ?_
    delta m_z_stream_b3
    refine gs_cons (g_asg (g_ix (o_ix C.u1) s_ix (gv 0) (gv 3)) (gg_name C.nd)) ?_
    refine gs_one ?_
    refine g_ifS (gt_cmp op_ge s_ge (gv 4) (g_op op_pow s_pow (g_int) (g_int))) ?_ ?_
    · refine gs_one ?_
      refine g_for C (gi_range1 T.b_range (ga_cons (g_int) (ga_nil))) (gg_name C.nd) ?_
      delta m_z_stream_b1
      refine gs_one ?_
      refine g_ifS (gt_w (gw_and (gt_cmp op_gt s_gt (gv 4) (g_int)) (gw_and1 (gt_cmp op_lt s_lt (g_callB o_len s_len T.b_len (by decide +kernel) (ga_cons (gv 2) (ga_nil))) (gv 1))))) ?_ ?_
      · refine gs_cons (g_expr (g_bm PySem.F.plainAttrs_list PySem.F.slot_list_append PySem.F.type_list_append mt_append s_append (gv 2) (ga_cons (g_op op_mod s_mod (g_callTy call_int1 s_int T.b_int (by decide +kernel) (ga_cons (gv 4) (ga_nil))) (g_int)) (ga_nil)))) ?_
        exact gs_one (g_asg (g_op op_fdivW s_fdiv (gv 4) (g_int)) (gg_name C.nd))
      · exact gs_nil
    · refine gs_one ?_
      refine g_for C (gi_range1 T.b_range (ga_cons (g_int) (ga_nil))) (gg_name C.nd) ?_
      delta m_z_stream_b2
      refine gs_one ?_
      refine g_ifS (gt_cmp op_lt s_lt (g_callB o_len s_len T.b_len (by decide +kernel) (ga_cons (gv 2) (ga_nil))) (gv 1)) ?_ ?_
      · exact gs_one (g_expr (g_bm PySem.F.plainAttrs_list PySem.F.slot_list_append PySem.F.type_list_append mt_append s_append (gv 2) (ga_cons (g_call F_z_mix C (by omega) (ga_cons (gv 4) (ga_cons (g_op o_add s_add (g_op op_mul s_mul (g_int) (gv 5)) (gv 3)) (ga_nil)))) (ga_nil))))
      · exact gs_nil
  delta m_z_stream_r4
  exact gs_one (g_ret (g_dict (gp_cons (g_str) (gv 2) (gp_cons (g_str) (g_int) (gp_cons (g_str) (g_callB o_len s_len T.b_len (by decide +kernel) (ga_cons (gv 2) (ga_nil))) (gp_nil))))))
abbrev N_z_pick : List Str := ["_law_draws", "_law_many", "_law_at", "_law_number"]
theorem sc_z_pick : FnScope N_z_pick ["_law_draws", "_law_many"] (defScope s_z_pick) := ⟨rfl, rfl, rfl, by decide +kernel, rfl, by decide +kernel, by decide +kernel⟩
theorem ok_z_pick {f : Addr} {fd : FuncData} (F : Fun K "_law_pick" "_law_pick" s_z_pick f fd) (T : Txt K w mg cs) (F_z_mix : FD P w K mg base 1 "_law_mix" 2 (f_z_mix cs)) : FnOk P w K mg base (L2.CX P w) 2 f fd ["_law_draws", "_law_many"] (spF K 2 (f_z_pick cs)) := by
  show FnOk P w K mg base (L2.CX P w) (1 + 1) f fd ["_law_draws", "_law_many"] (spF K (List.length ["_law_draws", "_law_many"]) (runB (List.length N_z_pick) (m_z_pick cs)))
  refine fn_ok F sc_z_pick fun cdv A outer s H E C => ?_
  refine gs_cons (g_asg (g_ix (o_ix C.u1) s_ix (gv 0) (g_str)) (gg_name C.nd)) ?_
  refine gs_cons (g_asg (g_op o_add s_add (gv 2) (g_int)) (gg_sub C (gv 0) (g_str))) ?_
  refine gs_cons (g_asg (g_call F_z_mix C (by omega) (ga_cons (g_ix (o_ix C.u1) s_ix (gv 0) (g_str)) (ga_cons (gv 2) (ga_nil)))) (gg_name C.nd)) ?_
  refine gs_cons ?_ ?_
  · refine g_ifS (gt_cmp op_lt s_lt (gv 2) (g_callB o_len s_len T.b_len (by decide +kernel) (ga_cons (g_ix (o_ix C.u1) s_ix (gv 0) (g_str)) (ga_nil)))) ?_ ?_
    · exact gs_one (g_asg (g_ix (o_ix C.u1) s_ix (g_ix (o_ix C.u1) s_ix (gv 0) (g_str)) (gv 2)) (gg_name C.nd))
    · exact gs_nil
  delta m_z_pick_r1
  exact gs_one (g_ret (g_op op_mod s_mod (g_callTy call_int1 s_int T.b_int (by decide +kernel) (ga_cons (gv 3) (ga_nil))) (gv 1)))
abbrev N_z_row : List Str := ["_law_draws", "_law_many", "_law_words", "_law_found", "_law_row_here", "_law_column", "_law_k", "_law_text", "_law_kind"]
theorem sc_z_row : FnScope N_z_row ["_law_draws", "_law_many"] (defScope s_z_row) := ⟨rfl, rfl, rfl, by decide +kernel, rfl, by decide +kernel, by decide +kernel⟩
theorem ok_z_row {f : Addr} {fd : FuncData} (F : Fun K "_law_row" "_law_row" s_z_row f fd) (T : Txt K w mg cs) (F_z_pick : FD P w K mg base 2 "_law_pick" 2 (f_z_pick cs)) : FnOk P w K mg base (L2.CX P w) 3 f fd ["_law_draws", "_law_many"] (spF K 2 (f_z_row cs)) := by
  show FnOk P w K mg base (L2.CX P w) (2 + 1) f fd ["_law_draws", "_law_many"] (spF K (List.length ["_law_draws", "_law_many"]) (runB (List.length N_z_row) (m_z_row cs)))
  refine fn_ok F sc_z_row fun cdv A outer s H E C => ?_
  refine gs_cons (g_asg (g_lst (ga_cons (g_str) (ga_cons (g_str) (ga_cons (g_str) (ga_cons (g_str) (ga_cons (g_str) (ga_cons (g_str) (ga_cons (g_str) (ga_cons (g_str) (ga_cons (g_str) (ga_cons (g_str) (ga_cons (g_str) (ga_cons (g_str) (ga_cons (g_str) (ga_cons (g_str) (ga_cons (g_str) (ga_cons (g_str) (ga_cons (g_str) (ga_cons (g_str) (ga_nil)))))))))))))))))))) (gg_name C.nd)) ?_
  refine gs_cons (g_asg (g_lst (ga_nil)) (gg_name C.nd)) ?_
  refine gs_cons (g_asg (g_int) (gg_name C.nd)) ?_
  refine gs_cons (g_asg (g_int) (gg_name C.nd)) ?_
  refine gs_cons ?_ ?_
  · refine g_for C (gi_range1 T.b_range (ga_cons (gv 1) (ga_nil))) (gg_name C.nd) ?_
    delta m_z_row_b3
    refine gs_cons ?_ ?_
    · refine g_ifS (gt_cmp (o_eq C.u64) s_eq (g_call F_z_pick C (by omega) (ga_cons (gv 0) (ga_cons (g_int) (ga_nil)))) (g_int)) ?_ ?_
      · refine gs_cons (g_asg (g_op o_add s_add (g_op o_add s_add (gv 4) (g_int)) (g_call F_z_pick C (by omega) (ga_cons (gv 0) (ga_cons (g_int) (ga_nil))))) (gg_name C.nd)) ?_
        exact gs_one (g_asg (g_op o_add s_add (g_int) (g_call F_z_pick C (by omega) (ga_cons (gv 0) (ga_cons (g_int) (ga_nil))))) (gg_name C.nd))
      · exact gs_nil
    delta m_z_row_r2
    refine gs_cons (g_asg (g_ix (o_ix C.u1) s_ix (gv 2) (g_call F_z_pick C (by omega) (ga_cons (gv 0) (ga_cons (g_int) (ga_nil))))) (gg_name C.nd)) ?_
    refine gs_cons (g_asg (g_str) (gg_name C.nd)) ?_
    refine gs_cons ?_ ?_
    · refine g_ifS (gt_cmp (o_in C.u1) s_in (gv 7) (g_tup (ga_cons (g_str) (ga_cons (g_str) (ga_nil))))) ?_ ?_
      · exact gs_one (g_asg (g_str) (gg_name C.nd))
      · refine gs_one ?_
        refine g_ifS (gt_cmp (o_eq C.u64) s_eq (g_callB o_len s_len T.b_len (by decide +kernel) (ga_cons (gv 7) (ga_nil))) (g_int)) ?_ ?_
        · exact gs_one (g_asg (g_str) (gg_name C.nd))
        · exact gs_nil
    delta m_z_row_r1
    refine gs_cons (g_expr (g_bm PySem.F.plainAttrs_list PySem.F.slot_list_append PySem.F.type_list_append mt_append s_append (gv 3) (ga_cons (g_tup (ga_cons (gv 8) (ga_cons (gv 7) (ga_cons (gv 4) (ga_cons (gv 5) (ga_nil)))))) (ga_nil)))) ?_
    exact gs_one (g_asg (g_op o_add s_add (g_op o_add s_add (g_op o_add s_add (gv 5) (g_callB o_len s_len T.b_len (by decide +kernel) (ga_cons (gv 7) (ga_nil)))) (g_int)) (g_call F_z_pick C (by omega) (ga_cons (gv 0) (ga_cons (g_int) (ga_nil))))) (gg_name C.nd))
  delta m_z_row_r4
  refine gs_cons (g_expr (g_bm PySem.F.plainAttrs_list PySem.F.slot_list_append PySem.F.type_list_append mt_append s_append (gv 3) (ga_cons (g_tup (ga_cons (g_str) (ga_cons (g_str) (ga_cons (g_op o_add s_add (gv 4) (g_call F_z_pick C (by omega) (ga_cons (gv 0) (ga_cons (g_int) (ga_nil))))) (ga_cons (gv 5) (ga_nil)))))) (ga_nil)))) ?_
  exact gs_one (g_ret (gv 3))
abbrev N_z_marker : List Str := ["_law_stack", "_law_k", "_law_context"]
theorem sc_z_marker : FnScope N_z_marker ["_law_stack"] (defScope s_z_marker) := ⟨rfl, rfl, rfl, by decide +kernel, rfl, by decide +kernel, by decide +kernel⟩
theorem ok_z_marker {f : Addr} {fd : FuncData} (F : Fun K "_law_marker" "_law_marker" s_z_marker f fd) (T : Txt K w mg cs)  : FnOk P w K mg base (L2.CX P w) 1 f fd ["_law_stack"] (spF K 1 (f_z_marker cs)) := by
  show FnOk P w K mg base (L2.CX P w) (0 + 1) f fd ["_law_stack"] (spF K (List.length ["_law_stack"]) (runB (List.length N_z_marker) (m_z_marker cs)))
  refine fn_ok F sc_z_marker fun cdv A outer s H E C => ?_
  refine gs_cons ?_ ?_
  · refine g_for C (gi_range1 T.b_range (ga_cons (g_callB o_len s_len T.b_len (by decide +kernel) (ga_cons (gv 0) (ga_nil))) (ga_nil))) (gg_name C.nd) ?_
    delta m_z_marker_b1
    refine gs_cons (g_asg (g_ix (o_ix C.u1) s_ix (gv 0) (g_op op_sub s_sub (g_op op_sub s_sub (g_callB o_len s_len T.b_len (by decide +kernel) (ga_cons (gv 0) (ga_nil))) (g_int)) (gv 1))) (gg_name C.nd)) ?_
    refine gs_one ?_
    refine g_ifS (gt_val (g_callB call_isi (s_isi T.isi) T.b_isinstance (by decide +kernel) (ga_cons (gv 2) (ga_cons (g_tyName T.b_str (by decide +kernel)) (ga_nil))))) ?_ ?_
    · exact gs_one (g_ret (gv 2))
    · exact gs_nil
  delta m_z_marker_r2
  exact gs_one (g_ret (g_str))
abbrev N_z_inner : List Str := ["_law_stack", "_law_k", "_law_context"]
theorem sc_z_inner : FnScope N_z_inner ["_law_stack"] (defScope s_z_inner) := ⟨rfl, rfl, rfl, by decide +kernel, rfl, by decide +kernel, by decide +kernel⟩
theorem ok_z_inner {f : Addr} {fd : FuncData} (F : Fun K "_law_inner" "_law_inner" s_z_inner f fd) (T : Txt K w mg cs)  : FnOk P w K mg base (L2.CX P w) 1 f fd ["_law_stack"] (spF K 1 (f_z_inner cs)) := by
  show FnOk P w K mg base (L2.CX P w) (0 + 1) f fd ["_law_stack"] (spF K (List.length ["_law_stack"]) (runB (List.length N_z_inner) (m_z_inner cs)))
  refine fn_ok F sc_z_inner fun cdv A outer s H E C => ?_
  refine gs_cons ?_ ?_
  · refine g_for C (gi_range1 T.b_range (ga_cons (g_callB o_len s_len T.b_len (by decide +kernel) (ga_cons (gv 0) (ga_nil))) (ga_nil))) (gg_name C.nd) ?_
    delta m_z_inner_b1
    refine gs_cons (g_asg (g_ix (o_ix C.u1) s_ix (gv 0) (g_op op_sub s_sub (g_op op_sub s_sub (g_callB o_len s_len T.b_len (by decide +kernel) (ga_cons (gv 0) (ga_nil))) (g_int)) (gv 1))) (gg_name C.nd)) ?_
    refine gs_one ?_
    refine g_ifS (gt_val (g_callB call_isi (s_isi T.isi) T.b_isinstance (by decide +kernel) (ga_cons (gv 2) (ga_cons (g_tyName T.b_int (by decide +kernel)) (ga_nil))))) ?_ ?_
    · exact gs_one (g_ret (gv 2))
    · exact gs_nil
  delta m_z_inner_r2
  exact gs_one (g_ret (g_int))
abbrev N_z_sign : List Str := ["_law_text", "_law_token"]
theorem sc_z_sign : FnScope N_z_sign ["_law_text", "_law_token"] (defScope s_z_sign) := ⟨rfl, rfl, rfl, by decide +kernel, rfl, by decide +kernel, by decide +kernel⟩
theorem ok_z_sign {f : Addr} {fd : FuncData} (F : Fun K "_law_sign" "_law_sign" s_z_sign f fd) (T : Txt K w mg cs)  : FnOk P w K mg base (L2.CX P w) 1 f fd ["_law_text", "_law_token"] (spF K 2 (f_z_sign cs)) := by
  show FnOk P w K mg base (L2.CX P w) (0 + 1) f fd ["_law_text", "_law_token"] (spF K (List.length ["_law_text", "_law_token"]) (runB (List.length N_z_sign) (m_z_sign cs)))
  refine fn_ok F sc_z_sign fun cdv A outer s H E C => ?_
  exact gs_one (g_ret (g_tup (ga_cons (g_str) (ga_cons (gv 0) (ga_cons (g_ix (o_ix C.u1) s_ix (gv 1) (g_int)) (ga_cons (g_ix (o_ix C.u1) s_ix (gv 1) (g_int)) (ga_nil)))))))
abbrev N_z_close : List Str := ["_law_stack", "_law_found", "_law_token"]
theorem sc_z_close : FnScope N_z_close ["_law_stack", "_law_found", "_law_token"] (defScope s_z_close) := ⟨rfl, rfl, rfl, by decide +kernel, rfl, by decide +kernel, by decide +kernel⟩
theorem ok_z_close {f : Addr} {fd : FuncData} (F : Fun K "_law_close" "_law_close" s_z_close f fd) (T : Txt K w mg cs) (F_z_sign : FD P w K mg base 1 "_law_sign" 2 (f_z_sign cs)) : FnOk P w K mg base (L2.CX P w) 2 f fd ["_law_stack", "_law_found", "_law_token"] (spF K 3 (f_z_close cs)) := by
  show FnOk P w K mg base (L2.CX P w) (1 + 1) f fd ["_law_stack", "_law_found", "_law_token"] (spF K (List.length ["_law_stack", "_law_found", "_law_token"]) (runB (List.length N_z_close) (m_z_close cs)))
  refine fn_ok F sc_z_close fun cdv A outer s H E C => ?_
  refine gs_one ?_
  refine g_while C (gt_w (gw_and (gt_val (gv 0)) (gw_and1 (gt_val (g_callB call_isi (s_isi T.isi) T.b_isinstance (by decide +kernel) (ga_cons (g_ix (o_ix C.u1) s_ix (gv 0) (g_un un_neg s_neg (g_int))) (ga_cons (g_tyName T.b_int (by decide +kernel)) (ga_nil)))))))) ?_
  delta m_z_close_b1
  refine gs_cons (g_expr (g_bm0 PySem.F.plainAttrs_list PySem.F.slot_list_pop PySem.F.type_list_pop mt_pop s_pop0 (gv 0))) ?_
  exact gs_one (g_expr (g_bm PySem.F.plainAttrs_list PySem.F.slot_list_append PySem.F.type_list_append mt_append s_append (gv 1) (ga_cons (g_call F_z_sign C (by omega) (ga_cons (g_str) (ga_cons (gv 2) (ga_nil)))) (ga_nil))))
abbrev N_z_effect : List Str := ["_law_stack", "_law_found", "_law_token", "_law_text", "_law_marker_here", "_law_pairs"]
theorem sc_z_effect : FnScope N_z_effect ["_law_stack", "_law_found", "_law_token"] (defScope s_z_effect) := ⟨rfl, rfl, rfl, by decide +kernel, rfl, by decide +kernel, by decide +kernel⟩
theorem ok_z_effect {f : Addr} {fd : FuncData} (F : Fun K "_law_effect" "_law_effect" s_z_effect f fd) (T : Txt K w mg cs) (F_z_marker : FD P w K mg base 1 "_law_marker" 1 (f_z_marker cs)) (F_z_close : FD P w K mg base 2 "_law_close" 3 (f_z_close cs)) : FnOk P w K mg base (L2.CX P w) 3 f fd ["_law_stack", "_law_found", "_law_token"] (spF K 3 (f_z_effect cs)) := by
  show FnOk P w K mg base (L2.CX P w) (2 + 1) f fd ["_law_stack", "_law_found", "_law_token"] (spF K (List.length ["_law_stack", "_law_found", "_law_token"]) (runB (List.length N_z_effect) (m_z_effect cs)))
  refine fn_ok F sc_z_effect fun cdv A outer s H E C => ?_
  refine gs_cons (g_asg (g_ix (o_ix C.u1) s_ix (gv 2) (g_int)) (gg_name C.nd)) ?_
  refine gs_cons (g_asg (g_call F_z_marker C (by omega) (ga_cons (gv 0) (ga_nil))) (gg_name C.nd)) ?_
  refine gs_cons ?_ ?_
  · refine g_ifS (gt_w (gw_and (gt_cmp (o_eq C.u64) s_eq (gv 3) (g_str)) (gw_and1 (gt_cmp (o_in C.u1) s_in (gv 4) (g_tup (ga_cons (g_str) (ga_cons (g_str) (ga_nil)))))))) ?_ ?_
    · exact gs_one (g_expr (g_call F_z_close C (by omega) (ga_cons (gv 0) (ga_cons (gv 1) (ga_cons (gv 2) (ga_nil))))))
    · exact gs_nil
  delta m_z_effect_r2
  refine gs_cons (g_asg (g_dict (gp_cons (g_str) (g_str) (gp_cons (g_str) (g_str) (gp_cons (g_str) (g_str) (gp_cons (g_str) (g_str) (gp_cons (g_str) (g_str) (gp_cons (g_str) (g_str) (gp_cons (g_str) (g_str) (gp_nil))))))))) (gg_name C.nd)) ?_
  refine gs_cons ?_ ?_
  · refine g_ifS (gt_w (gw_and (gt_cmp (o_in C.u1) s_in (gv 3) (gv 5)) (gw_and1 (gt_cmp (o_eq C.u64) s_eq (gv 4) (g_ix (o_ix C.u1) s_ix (gv 5) (gv 3)))))) ?_ ?_
    · refine gs_cons (g_expr (g_call F_z_close C (by omega) (ga_cons (gv 0) (ga_cons (gv 1) (ga_cons (gv 2) (ga_nil)))))) ?_
      refine gs_cons (g_expr (g_bm0 PySem.F.plainAttrs_list PySem.F.slot_list_pop PySem.F.type_list_pop mt_pop s_pop0 (gv 0))) ?_
      refine gs_one ?_
      refine g_ifS (gt_cmp (o_eq C.u64) s_eq (gv 3) (g_str)) ?_ ?_
      · exact gs_one (g_expr (g_bm PySem.F.plainAttrs_list PySem.F.slot_list_append PySem.F.type_list_append mt_append s_append (gv 0) (ga_cons (g_str) (ga_nil))))
      · exact gs_nil
    · exact gs_nil
  delta m_z_effect_r1
  refine gs_one ?_
  refine g_ifS (gt_cmp (o_in C.u1) s_in (gv 3) (g_tup (ga_cons (g_str) (ga_cons (g_str) (ga_cons (g_str) (ga_cons (g_str) (ga_cons (g_str) (ga_cons (g_str) (ga_nil))))))))) ?_ ?_
  · exact gs_one (g_expr (g_bm PySem.F.plainAttrs_list PySem.F.slot_list_append PySem.F.type_list_append mt_append s_append (gv 0) (ga_cons (gv 3) (ga_nil))))
  · exact gs_nil
abbrev N_z_first : List Str := ["_law_stack", "_law_found", "_law_token"]
theorem sc_z_first : FnScope N_z_first ["_law_stack", "_law_found", "_law_token"] (defScope s_z_first) := ⟨rfl, rfl, rfl, by decide +kernel, rfl, by decide +kernel, by decide +kernel⟩
theorem ok_z_first {f : Addr} {fd : FuncData} (F : Fun K "_law_first" "_law_first" s_z_first f fd) (T : Txt K w mg cs) (F_z_sign : FD P w K mg base 1 "_law_sign" 2 (f_z_sign cs)) : FnOk P w K mg base (L2.CX P w) 2 f fd ["_law_stack", "_law_found", "_law_token"] (spF K 3 (f_z_first cs)) := by
  show FnOk P w K mg base (L2.CX P w) (1 + 1) f fd ["_law_stack", "_law_found", "_law_token"] (spF K (List.length ["_law_stack", "_law_found", "_law_token"]) (runB (List.length N_z_first) (m_z_first cs)))
  refine fn_ok F sc_z_first fun cdv A outer s H E C => ?_
  refine gs_cons ?_ ?_
  · refine g_while C (gt_w (gw_and (gt_val (gv 0)) (gw_and (gt_val (g_callB call_isi (s_isi T.isi) T.b_isinstance (by decide +kernel) (ga_cons (g_ix (o_ix C.u1) s_ix (gv 0) (g_un un_neg s_neg (g_int))) (ga_cons (g_tyName T.b_int (by decide +kernel)) (ga_nil))))) (gw_and1 (gt_cmp op_gt s_gt (g_ix (o_ix C.u1) s_ix (gv 0) (g_un un_neg s_neg (g_int))) (g_ix (o_ix C.u1) s_ix (gv 2) (g_int))))))) ?_
    delta m_z_first_b1
    refine gs_cons (g_expr (g_bm0 PySem.F.plainAttrs_list PySem.F.slot_list_pop PySem.F.type_list_pop mt_pop s_pop0 (gv 0))) ?_
    exact gs_one (g_expr (g_bm PySem.F.plainAttrs_list PySem.F.slot_list_append PySem.F.type_list_append mt_append s_append (gv 1) (ga_cons (g_call F_z_sign C (by omega) (ga_cons (g_str) (ga_cons (gv 2) (ga_nil)))) (ga_nil))))
  delta m_z_first_r2
  refine gs_one ?_
  refine g_ifS (gt_w (gw_and (gt_val (gv 0)) (gw_and1 (gt_cmp (o_eq C.u64) s_eq (g_ix (o_ix C.u1) s_ix (gv 0) (g_un un_neg s_neg (g_int))) (g_ix (o_ix C.u1) s_ix (gv 2) (g_int)))))) ?_ ?_
  · exact gs_one (g_expr (g_bm PySem.F.plainAttrs_list PySem.F.slot_list_append PySem.F.type_list_append mt_append s_append (gv 1) (ga_cons (g_call F_z_sign C (by omega) (ga_cons (g_str) (ga_cons (gv 2) (ga_nil)))) (ga_nil))))
  · exact gs_nil
abbrev N_z_opens : List Str := ["_law_stack", "_law_found", "_law_token"]
theorem sc_z_opens : FnScope N_z_opens ["_law_stack", "_law_found", "_law_token"] (defScope s_z_opens) := ⟨rfl, rfl, rfl, by decide +kernel, rfl, by decide +kernel, by decide +kernel⟩
theorem ok_z_opens {f : Addr} {fd : FuncData} (F : Fun K "_law_opens" "_law_opens" s_z_opens f fd) (T : Txt K w mg cs) (F_z_sign : FD P w K mg base 1 "_law_sign" 2 (f_z_sign cs)) (F_z_inner : FD P w K mg base 1 "_law_inner" 1 (f_z_inner cs)) : FnOk P w K mg base (L2.CX P w) 2 f fd ["_law_stack", "_law_found", "_law_token"] (spF K 3 (f_z_opens cs)) := by
  show FnOk P w K mg base (L2.CX P w) (1 + 1) f fd ["_law_stack", "_law_found", "_law_token"] (spF K (List.length ["_law_stack", "_law_found", "_law_token"]) (runB (List.length N_z_opens) (m_z_opens cs)))
  refine fn_ok F sc_z_opens fun cdv A outer s H E C => ?_
  refine gs_cons ?_ ?_
  · refine g_ifS (gt_w (gw_and (gt_cmp (o_eq C.u64) s_eq (g_ix (o_ix C.u1) s_ix (gv 2) (g_int)) (g_str)) (gw_and1 (gt_cmp (o_eq C.u64) s_eq (g_ix (o_ix C.u1) s_ix (gv 2) (g_int)) (g_str))))) ?_ ?_
    · exact gs_one (g_ret (g_bl))
    · exact gs_nil
  refine gs_cons (g_expr (g_bm PySem.F.plainAttrs_list PySem.F.slot_list_append PySem.F.type_list_append mt_append s_append (gv 1) (ga_cons (g_call F_z_sign C (by omega) (ga_cons (g_str) (ga_cons (gv 2) (ga_nil)))) (ga_nil)))) ?_
  refine gs_cons ?_ ?_
  · refine g_ifS (gt_w (gw_or (gt_cmp (o_eq C.u64) s_eq (g_ix (o_ix C.u1) s_ix (gv 2) (g_int)) (g_str)) (gw_or1 (gt_cmp op_le s_le (g_ix (o_ix C.u1) s_ix (gv 2) (g_int)) (g_call F_z_inner C (by omega) (ga_cons (gv 0) (ga_nil))))))) ?_ ?_
    · refine gs_cons (g_expr (g_bm PySem.F.plainAttrs_list PySem.F.slot_list_append PySem.F.type_list_append mt_append s_append (gv 1) (ga_cons (g_call F_z_sign C (by omega) (ga_cons (g_str) (ga_cons (gv 2) (ga_nil)))) (ga_nil)))) ?_
      exact gs_one (g_ret (g_bl))
    · exact gs_nil
  refine gs_cons (g_expr (g_bm PySem.F.plainAttrs_list PySem.F.slot_list_append PySem.F.type_list_append mt_append s_append (gv 0) (ga_cons (g_ix (o_ix C.u1) s_ix (gv 2) (g_int)) (ga_nil)))) ?_
  exact gs_one (g_ret (g_bl))
abbrev N_z_layout : List Str := ["_law_row_here", "_law_stack", "_law_found", "_law_k", "_law_token", "_law_opened", "_law_context"]
theorem sc_z_layout : FnScope N_z_layout ["_law_row_here"] (defScope s_z_layout) := ⟨rfl, rfl, rfl, by decide +kernel, rfl, by decide +kernel, by decide +kernel⟩
theorem ok_z_layout {f : Addr} {fd : FuncData} (F : Fun K "_law_layout" "_law_layout" s_z_layout f fd) (T : Txt K w mg cs) (F_z_opens : FD P w K mg base 2 "_law_opens" 3 (f_z_opens cs)) (F_z_effect : FD P w K mg base 3 "_law_effect" 3 (f_z_effect cs)) (F_z_first : FD P w K mg base 2 "_law_first" 3 (f_z_first cs)) (F_z_sign : FD P w K mg base 1 "_law_sign" 2 (f_z_sign cs)) : FnOk P w K mg base (L2.CX P w) 4 f fd ["_law_row_here"] (spF K 1 (f_z_layout cs)) := by
  show FnOk P w K mg base (L2.CX P w) (3 + 1) f fd ["_law_row_here"] (spF K (List.length ["_law_row_here"]) (runB (List.length N_z_layout) (m_z_layout cs)))
  refine fn_ok F sc_z_layout fun cdv A outer s H E C => ?_
  refine gs_cons (g_asg (g_lst (ga_nil)) (gg_name C.nd)) ?_
  refine gs_cons (g_asg (g_lst (ga_nil)) (gg_name C.nd)) ?_
  refine gs_cons ?_ ?_
  · refine g_for C (gi_range1 T.b_range (ga_cons (g_callB o_len s_len T.b_len (by decide +kernel) (ga_cons (gv 0) (ga_nil))) (ga_nil))) (gg_name C.nd) ?_
    delta m_z_layout_b3
    refine gs_cons (g_asg (g_ix (o_ix C.u1) s_ix (gv 0) (gv 3)) (gg_name C.nd)) ?_
    refine gs_cons (g_asg (g_bl) (gg_name C.nd)) ?_
    refine gs_cons ?_ ?_
    · refine g_ifS (gt_w (gw_or (gt_cmp (o_eq C.u64) s_eq (gv 3) (g_int)) (gw_or1 (gt_cmp (o_in C.u1) s_in (g_ix (o_ix C.u1) s_ix (g_ix (o_ix C.u1) s_ix (gv 0) (g_op op_sub s_sub (gv 3) (g_int))) (g_int)) (g_tup (ga_cons (g_str) (ga_cons (g_str) (ga_cons (g_str) (ga_nil))))))))) ?_ ?_
      · exact gs_one (g_asg (g_call F_z_opens C (by omega) (ga_cons (gv 1) (ga_cons (gv 2) (ga_cons (gv 4) (ga_nil))))) (gg_name C.nd))
      · exact gs_nil
    delta m_z_layout_r2
    refine gs_cons ?_ ?_
    · refine g_ifS (gt_cmp (o_eq C.u64) s_eq (g_ix (o_ix C.u1) s_ix (gv 4) (g_int)) (g_str)) ?_ ?_
      · refine gs_one ?_
        refine g_for C (gi_rev T.b_reversed (gv 1)) (gg_name C.nd) ?_
        delta m_z_layout_b1
        refine gs_one ?_
        refine g_ifS (gt_val (g_callB call_isi (s_isi T.isi) T.b_isinstance (by decide +kernel) (ga_cons (gv 6) (ga_cons (g_tyName T.b_int (by decide +kernel)) (ga_nil))))) ?_ ?_
        · exact gs_one (g_expr (g_bm PySem.F.plainAttrs_list PySem.F.slot_list_append PySem.F.type_list_append mt_append s_append (gv 2) (ga_cons (g_call F_z_sign C (by omega) (ga_cons (g_str) (ga_cons (gv 4) (ga_nil)))) (ga_nil))))
        · exact gs_nil
      · refine gs_cons ?_ ?_
        · refine g_ifS (gt_w (gw_and (gt_not (gt_val (gv 5))) (gw_and1 (gt_w (gw_or (gt_cmp (o_eq C.u64) s_eq (gv 3) (g_int)) (gw_or1 (gt_cmp op_lt s_lt (g_ix (o_ix C.u1) s_ix (g_ix (o_ix C.u1) s_ix (gv 0) (g_op op_sub s_sub (gv 3) (g_int))) (g_int)) (g_ix (o_ix C.u1) s_ix (gv 4) (g_int))))))))) ?_ ?_
          · exact gs_one (g_expr (g_call F_z_first C (by omega) (ga_cons (gv 1) (ga_cons (gv 2) (ga_cons (gv 4) (ga_nil))))))
          · exact gs_nil
        exact gs_one (g_expr (g_call F_z_effect C (by omega) (ga_cons (gv 1) (ga_cons (gv 2) (ga_cons (gv 4) (ga_nil))))))
    exact gs_one (g_expr (g_bm PySem.F.plainAttrs_list PySem.F.slot_list_append PySem.F.type_list_append mt_append s_append (gv 2) (ga_cons (gv 4) (ga_nil))))
  delta m_z_layout_r4
  exact gs_one (g_ret (gv 2))
abbrev N_law : List Str := ["_law_script", "_law_draws", "_law_row_here", "_law_passed", "_law_due", "_law_actual", "_law_again"]
theorem sc_law : FnScope N_law ["_law_script"] (defScope s_law) := ⟨rfl, rfl, rfl, by decide +kernel, rfl, by decide +kernel, by decide +kernel⟩
theorem ok_law {f : Addr} {fd : FuncData} (F : Fun K "law" "law" s_law f fd) (T : Txt K w mg cs) (F_z_stream : FD P w K mg base 2 "_law_stream" 2 (f_z_stream cs)) (F_z_row : FD P w K mg base 3 "_law_row" 2 (f_z_row cs)) (F_z_layout : FD P w K mg base 4 "_law_layout" 1 (f_z_layout cs)) (F_layout : FD P w K mg base 5 "layout" 1 (f_layout cs)) : FnOk P w K mg base (L2.CX P w) 6 f fd ["_law_script"] (spF K 1 (f_law cs)) := by
  show FnOk P w K mg base (L2.CX P w) (5 + 1) f fd ["_law_script"] (spF K (List.length ["_law_script"]) (runB (List.length N_law) (m_law cs)))
  refine fn_ok F sc_law fun cdv A outer s H E C => ?_
  refine gs_cons (g_asg (g_call F_z_stream C (by omega) (ga_cons (gv 0) (ga_cons (g_int) (ga_nil)))) (gg_name C.nd)) ?_
  refine gs_cons (g_asg (g_call F_z_row C (by omega) (ga_cons (gv 1) (ga_cons (g_callB (call_min2 C.calm) s_min2 T.b_min (by decide +kernel) (ga_cons (g_int) (ga_cons (g_op op_fdivW s_fdiv (g_callB o_len s_len T.b_len (by decide +kernel) (ga_cons (g_ix (o_ix C.u1) s_ix (gv 1) (g_str)) (ga_nil))) (g_int)) (ga_nil)))) (ga_nil)))) (gg_name C.nd)) ?_
  refine gs_cons (g_asg (g_callTy (o_list C.calm) s_list T.b_list (by decide +kernel) (ga_cons (gv 2) (ga_nil))) (gg_name C.nd)) ?_
  refine gs_cons (g_asg (g_call F_z_layout C (by omega) (ga_cons (gv 2) (ga_nil))) (gg_name C.nd)) ?_
  refine gs_cons (g_asg (g_call F_layout C (by omega) (ga_cons (gv 3) (ga_nil))) (gg_name C.nd)) ?_
  refine gs_cons ?_ ?_
  · refine g_ifS (gt_w (gw_or (gt_not (gt_val (g_callB call_isi (s_isi T.isi) T.b_isinstance (by decide +kernel) (ga_cons (gv 5) (ga_cons (g_tyName T.b_list (by decide +kernel)) (ga_nil)))))) (gw_or (gt_cmp (o_ne C.u64) s_ne (gv 5) (gv 4)) (gw_or1 (gt_cmp (o_ne C.u64) s_ne (gv 3) (gv 2)))))) ?_ ?_
    · exact gs_one (g_ret (g_bl))
    · exact gs_nil
  refine gs_cons (g_asg (g_call F_layout C (by omega) (ga_cons (gv 3) (ga_nil))) (gg_name C.nd)) ?_
  refine gs_cons (g_expr (g_bm PySem.F.plainAttrs_list PySem.F.slot_list_append PySem.F.type_list_append mt_append s_append (gv 5) (ga_cons (g_str) (ga_nil)))) ?_
  exact gs_one (g_ret (g_and (g_cmp (o_eq C.u64) s_eq (gv 6) (gv 4)) (g_one (g_cmp (o_eq C.u64) s_eq (g_call F_layout C (by omega) (ga_cons (g_lst (ga_cons (g_tup (ga_cons (g_str) (ga_cons (g_str) (ga_cons (g_int) (ga_cons (g_int) (ga_nil)))))) (ga_nil))) (ga_nil))) (g_lst (ga_cons (g_tup (ga_cons (g_str) (ga_cons (g_str) (ga_cons (g_int) (ga_cons (g_int) (ga_nil)))))) (ga_cons (g_tup (ga_cons (g_str) (ga_cons (g_str) (ga_cons (g_int) (ga_cons (g_int) (ga_nil)))))) (ga_cons (g_tup (ga_cons (g_str) (ga_cons (g_str) (ga_cons (g_int) (ga_cons (g_int) (ga_nil)))))) (ga_nil)))))))))
end
end K02

set_option Elab.async false
set_option linter.all false
set_option maxRecDepth 100000
set_option maxHeartbeats 1000000
namespace K02
open PySem PySem.Spec PyProof.Rows L2 FL
/-! ### the model -/
structure Tk where
  k : Str
  x : Str
  r : Int
  c : Int
def tkD (t : Tk) : D := .tup [.str t.k, .str t.x, .int t.r, .int t.c]
def sg (x : Str) (t : Tk) : Tk := ⟨"sign", x, t.r, t.c⟩
inductive El where
  | col (n : Int)
  | mark (x : Str)
def elD : El → D
  | .col n => .int n
  | .mark x => .str x
def isCol : El → Bool
  | .col _ => true
  | .mark _ => false
def stD (st : List El) : List D := st.reverse.map elD
def topCol : List El → Bool
  | .col _ :: _ => true
  | _ => false
def marker : List El → Str
  | [] => ""
  | .mark x :: _ => x
  | .col _ :: r => marker r
def inner : List El → Int
  | [] => 0
  | .col n :: _ => n
  | .mark _ :: r => inner r
def closeM (t : Tk) : List El → List Tk → List El × List Tk
  | .col _ :: st, fd => closeM t st (fd ++ [sg "}" t])
  | st, fd => (st, fd)
def firstM (t : Tk) : List El → List Tk → List El × List Tk
  | .col n :: st, fd => if t.c < n then firstM t st (fd ++ [sg "}" t]) else (.col n :: st, fd)
  | st, fd => (st, fd)
def endM (t : Tk) : List El → List Tk → List Tk
  | .col _ :: st, fd => endM t st (fd ++ [sg "}" t])
  | .mark _ :: st, fd => endM t st fd
  | [], fd => fd
def opensM (t : Tk) (st : List El) (fd : List Tk) : Bool × List El × List Tk :=
  if t.k = "sign" ∧ t.x = "{" then (false, st, fd)
  else if t.k ≠ "end" ∧ inner st < t.c then (true, .col t.c :: st, fd ++ [sg "{" t])
  else (false, st, (fd ++ [sg "{" t]) ++ [sg "}" t])
def topIs (c : Int) : List El → Bool
  | .col n :: _ => decide (n = c)
  | _ => false
def rowM (t : Tk) (st : List El) (fd : List Tk) : List El × List Tk :=
  if topIs t.c (firstM t st fd).1 = true then ((firstM t st fd).1, (firstM t st fd).2 ++ [sg ";" t]) else firstM t st fd
def cbL : List (Str × Str) := [(")", "("), ("]", "["), ("}", "{"), ("in", "let"), ("of", "case"), ("then", "if"), ("else", "then")]
def cb (x : Str) : Option Str := (cbL.find? fun p => decide (p.1 = x)).map (·.2)
def eff1 (t : Tk) (p : List El × List Tk) : List El × List Tk := if t.x = "," ∧ ("(" = marker p.1 ∨ "[" = marker p.1) then closeM t p.1 p.2 else p
def eff2 (t : Tk) (p : List El × List Tk) : List El × List Tk := match cb t.x with
  | none => p
  | some m => if marker p.1 = m then
      (if t.x = "then" then (.mark "then" :: (closeM t p.1 p.2).1.tail, (closeM t p.1 p.2).2) else ((closeM t p.1 p.2).1.tail, (closeM t p.1 p.2).2)) else p
def mks : List Str := ["(", "[", "{", "let", "case", "if"]
def eff3 (t : Tk) (p : List El × List Tk) : List El × List Tk := if t.x ∈ mks then (.mark t.x :: p.1, p.2) else p
def effM (t : Tk) (p : List El × List Tk) : List El × List Tk := eff3 t (eff2 t (eff1 t p))
def ops : List Str := ["where", "let", "of"]
def isEx (t : Tk) : Bool := decide (t.k = "keyword") && decide (t.x ∈ ops)
def openM (ex : Bool) (t : Tk) (st : List El) (fd : List Tk) : Bool × List El × List Tk := if ex = true then opensM t st fd else (false, st, fd)
def rowP (lr : Int) (t : Tk) (q : Bool × List El × List Tk) : List El × List Tk := if lr < t.r ∧ q.1 = false then rowM t q.2.1 q.2.2 else q.2
def layM (ex : Bool) (lr : Int) (st : List El) (fd : List Tk) : List Tk → List Tk
  | [] => fd
  | t :: r => if t.k = "end" then layM (isEx t) t.r [] (endM t (openM ex t st fd).2.1 (openM ex t st fd).2.2 ++ [t]) r
    else layM (isEx t) t.r (effM t (rowP lr t (openM ex t st fd))).1 ((effM t (rowP lr t (openM ex t st fd))).2 ++ [t]) r
/-! ### sizes -/
abbrev sz (p : List El × List Tk) : Nat := p.1.length + p.2.length
theorem closeM_sz (t : Tk) : ∀ (st : List El) (fd : List Tk), sz (closeM t st fd) = st.length + fd.length
  | .col n :: st, fd => by
    rw [closeM, closeM_sz t st]
    simp only [List.length_append, List.length_cons, List.length_nil]
    omega
  | .mark x :: st, fd => by rw [closeM]; intro _ _ h; cases h
  | [], fd => by rw [closeM]; intro _ _ h; cases h
theorem firstM_sz (t : Tk) : ∀ (st : List El) (fd : List Tk), sz (firstM t st fd) = st.length + fd.length
  | .col n :: st, fd => by
    rw [firstM]
    split
    · rw [firstM_sz t st]
      simp only [List.length_append, List.length_cons, List.length_nil]
      omega
    · rfl
  | .mark x :: st, fd => by rw [firstM]; intro _ _ h; cases h
  | [], fd => by rw [firstM]; intro _ _ h; cases h
theorem endM_sz (t : Tk) : ∀ (st : List El) (fd : List Tk), (endM t st fd).length ≤ st.length + fd.length
  | .col n :: st, fd => by
    rw [endM]
    have := endM_sz t st (fd ++ [sg "}" t])
    simp only [List.length_append, List.length_cons, List.length_nil] at this ⊢
    omega
  | .mark x :: st, fd => by
    rw [endM]
    have := endM_sz t st fd
    simp only [List.length_cons] at this ⊢
    omega
  | [], fd => by rw [endM]; simp
theorem openM_sz (ex : Bool) (t : Tk) (st : List El) (fd : List Tk) : sz (openM ex t st fd).2 ≤ st.length + fd.length + 2 := by
  unfold openM opensM sz
  split
  · split
    · simp only; omega
    · split
      · simp only [List.length_append, List.length_cons, List.length_nil]; omega
      · simp only [List.length_append, List.length_cons, List.length_nil]; omega
  · simp only; omega
theorem rowM_sz (t : Tk) (st : List El) (fd : List Tk) : sz (rowM t st fd) ≤ st.length + fd.length + 1 := by
  have h := firstM_sz t st fd
  unfold rowM sz at *
  split
  · simp only [List.length_append, List.length_cons, List.length_nil]; omega
  · omega
theorem rowP_sz (lr : Int) (t : Tk) (q : Bool × List El × List Tk) : sz (rowP lr t q) ≤ sz q.2 + 1 := by
  unfold rowP
  split
  · exact rowM_sz t _ _
  · exact Nat.le_succ _
theorem eff1_sz (t : Tk) (p : List El × List Tk) : sz (eff1 t p) = sz p := by
  unfold eff1
  split
  · exact closeM_sz t _ _
  · rfl
theorem eff2_sz (t : Tk) (p : List El × List Tk) : sz (eff2 t p) ≤ sz p + 1 := by
  unfold eff2
  split
  · exact Nat.le_succ _
  · split
    · have h := closeM_sz t p.1 p.2
      unfold sz at *
      split
      · simp only [List.length_cons, List.length_tail]; omega
      · simp only [List.length_tail]; omega
    · exact Nat.le_succ _
theorem eff3_sz (t : Tk) (p : List El × List Tk) : sz (eff3 t p) ≤ sz p + 1 := by
  unfold eff3
  split
  · unfold sz; simp only [List.length_cons]; omega
  · exact Nat.le_succ _
theorem effM_sz (t : Tk) (p : List El × List Tk) : sz (effM t p) ≤ sz p + 2 := by
  have h1 := eff1_sz t p
  have h2 := eff2_sz t (eff1 t p)
  have h3 := eff3_sz t (eff2 t (eff1 t p))
  unfold effM
  omega
/-! ### the heap -/
structure G (sp fp : Nat) (st : List El) (fd : List Tk) (h : HS) : Prop where
  ne : sp ≠ fp
  s : h[sp]? = some (.lst (stD st))
  f : h[fp]? = some (.lst (fd.map tkD))
def Fr (sp fp : Nat) (h h' : HS) : Prop := ∀ (i : Nat) (o : MO), i ≠ sp → i ≠ fp → h[i]? = some o → h'[i]? = some o
section
variable {sp fp : Nat} {st st' : List El} {fd fd' : List Tk} {h h' h2 l : HS}
theorem Fr.refl : Fr sp fp h h := fun _ _ _ _ e => e
theorem Fr.trans (a : Fr sp fp h h') (b : Fr sp fp h' h2) : Fr sp fp h h2 := fun i o n1 n2 e => b i o n1 n2 (a i o n1 n2 e)
theorem Fr.push : Fr sp fp h (h ++ l) := fun _ _ _ _ e => get_push e
theorem G.push (g : G sp fp st fd h) : G sp fp st fd (h ++ l) := ⟨g.ne, get_push g.s, get_push g.f⟩
theorem G.setS (g : G sp fp st fd h) : G sp fp st' fd (h.set sp (.lst (stD st'))) := ⟨g.ne, get_set g.s, get_other g.ne g.f⟩
theorem Fr.setS {o : MO} : Fr sp fp h (h.set sp o) := fun _ _ n1 _ e => get_other (Ne.symm n1) e
theorem G.setF (g : G sp fp st fd h) : G sp fp st fd' (h.set fp (.lst (fd'.map tkD))) := ⟨g.ne, get_other (Ne.symm g.ne) g.s, get_set g.f⟩
theorem Fr.setF {o : MO} : Fr sp fp h (h.set fp o) := fun _ _ _ n2 e => get_other (Ne.symm n2) e
theorem stD_cons (e : El) (st : List El) : stD (e :: st) = stD st ++ [elD e] := by simp [stD]
theorem stD_len (st : List El) : (stD st).length = st.length := by simp [stD]
theorem isI (e : El) (h : HS) : dIsi isiTab [elD e, .ty "int"] h = .ok (.bl (isCol e)) h := by cases e <;> rfl
theorem isS (e : El) (h : HS) : dIsi isiTab [elD e, .ty "str"] h = .ok (.bl (!isCol e)) h := by cases e <;> rfl
theorem big {n : Nat} (h : n < 100000) : n < sizeLine := Nat.lt_trans h (by decide)
theorem ev_pop {p : Nat} {ds : List D} {d : D} (hp : h[p]? = some (.lst (ds ++ [d]))) : dPop0 (.ref p) [] h = .ok d (h.set p (.lst ds)) := by
  have e : (ds ++ [d])[(ds ++ [d]).length - 1]? = some d := by simp
  simp only [dPop0, lstAt, hp, e, List.dropLast_concat]
theorem popS {e : El} (g : G sp fp (e :: st) fd h) : dPop0 (.ref sp) [] h = .ok (elD e) (h.set sp (.lst (stD st))) := ev_pop (by rw [g.s, stD_cons])
theorem pushS {d : D} {e : El} (g : G sp fp st fd h) (hd : d = elD e) (hl : st.length < 100000) : dAppend (.ref sp) [d] h = .ok .non (h.set sp (.lst (stD (e :: st)))) := by
  rw [ev_app g.s (by rw [stD_len]; exact big hl), stD_cons, hd]
theorem pushF {d : D} {t : Tk} (g : G sp fp st fd h) (hd : d = tkD t) (hl : fd.length < 100000) : dAppend (.ref fp) [d] h = .ok .non (h.set fp (.lst ((fd ++ [t]).map tkD))) := by
  rw [ev_app g.f (by rw [List.length_map]; exact big hl), List.map_append, hd]
  rfl
theorem topS_ix {e : El} (g : G sp fp (e :: st) fd h) : dIx (.ref sp) (.int (-1)) h = .ok (elD e) h := ev_ixL (by rw [g.s, stD_cons]) (atI_last _ _)
end
theorem any_str (xs : List Str) (x : Str) : ((xs.map D.str).any fun y => fEq y (.str x)) = decide (x ∈ xs) := by
  rw [Bool.eq_iff_iff, List.any_eq_true, decide_eq_true_eq]
  constructor
  · rintro ⟨d, hd, e⟩
    obtain ⟨y, hy, rfl⟩ := List.mem_map.mp hd
    have : y = x := by simpa [fEq] using e
    exact this ▸ hy
  · intro hx
    exact ⟨_, List.mem_map.mpr ⟨x, hx, rfl⟩, by simp [fEq]⟩
theorem all_str (xs : List Str) : (xs.map D.str).all flatD = true := by
  rw [List.all_eq_true]
  intro d hd
  obtain ⟨y, _, rfl⟩ := List.mem_map.mp hd
  rfl
theorem inTs {h : HS} {x : Str} {xs : List Str} : dIn (.str x) (.tup (xs.map .str)) h = .ok (.bl (decide (x ∈ xs))) h := by
  have e : itemsD h (.tup (xs.map .str)) = some (xs.map .str) := rfl
  unfold dIn inB
  rw [e]
  simp only [show flatD (.str x) = true from rfl, all_str, Bool.and_self, if_true, any_str]
theorem inMks {h : HS} {x : Str} : dIn (.str x) (.tup [.str "(", .str "[", .str "{", .str "let", .str "case", .str "if"]) h = .ok (.bl (decide (x ∈ mks))) h := inTs (xs := mks)
theorem inOps {h : HS} {x : Str} : dIn (.str x) (.tup [.str "where", .str "let", .str "of"]) h = .ok (.bl (decide (x ∈ ops))) h := inTs (xs := ops)
theorem tab_eq (x : Str) : tabGet tab_CLOSED_BY x = (cb x).map D.str := by
  have gen : ∀ l : List (Str × Str), tabGet (l.map fun p => (p.1, D.str p.2)) x = ((l.find? fun p => decide (p.1 = x)).map (·.2)).map D.str := by
    intro l
    induction l with
    | nil => rfl
    | cons p l ih =>
      by_cases c : p.1 = x
      · simp [tabGet, c]
      · simp only [tabGet, List.map_cons, List.find?_cons, c, decide_false] at ih ⊢
        exact ih
  exact gen cbL
section
variable {cs : Nat → Addr} {o sp fp : Nat} {st : List El} {fd : List Tk} {h : HS} {t : Tk} {P : D → HS → Prop} {X : XP}
/-! ### the program's own way -/
def obF (sp fp : Nat) : List (Str × D) := [("stack", .ref sp), ("found", .ref fp)]
theorem lkS : (obF sp fp).lookup ("stack" : Str) = some (.ref sp) := rfl
theorem lkF : (obF sp fp).lookup ("found" : Str) = some (.ref fp) := rfl
structure Ob (cs : Nat → Addr) (o sp fp : Nat) (h : HS) : Prop where
  a : o ≠ sp
  b : o ≠ fp
  e : h[o]? = some (.ins (cs 0) (obF sp fp))
theorem Ob.fr {h' : HS} (ob : Ob cs o sp fp h) (f : Fr sp fp h h') : Ob cs o sp fp h' := ⟨ob.a, ob.b, f _ _ ob.a ob.b ob.e⟩
theorem Ob.i (ob : Ob cs o sp fp h) : insD [cs 0] h (.ref o) = some (o, cs 0, obF sp fp) := insD_at ob.e (List.mem_singleton.mpr rfl)
theorem nm {m : Str} (h1 : m ≠ "stack") (h2 : m ≠ "found") : ((obF sp fp).lookup m).isNone = true := by
  simp [obF, List.lookup, beq_eq_false_iff_ne.mpr h1, beq_eq_false_iff_ne.mpr h2]
theorem nm_add : ((obF sp fp).lookup ("add" : Str)).isNone = true := nm (by decide) (by decide)
theorem nm_onb : ((obF sp fp).lookup ("on_block" : Str)).isNone = true := nm (by decide) (by decide)
theorem nm_col : ((obF sp fp).lookup ("column" : Str)).isNone = true := nm (by decide) (by decide)
theorem nm_mar : ((obF sp fp).lookup ("marker" : Str)).isNone = true := nm (by decide) (by decide)
theorem nm_clb : ((obF sp fp).lookup ("close_blocks" : Str)).isNone = true := nm (by decide) (by decide)
theorem nm_clt : ((obF sp fp).lookup ("close_to" : Str)).isNone = true := nm (by decide) (by decide)
theorem nm_opb : ((obF sp fp).lookup ("open_block" : Str)).isNone = true := nm (by decide) (by decide)
theorem nm_ber : ((obF sp fp).lookup ("begin_row" : Str)).isNone = true := nm (by decide) (by decide)
theorem nm_tak : ((obF sp fp).lookup ("take" : Str)).isNone = true := nm (by decide) (by decide)
theorem add_ok {x : Str} (ob : Ob cs o sp fp h) (g : G sp fp st fd h) (hl : fd.length < 100000)
    (k : ∀ h', G sp fp st (fd ++ [sg x t]) h' → Fr sp fp h h' → P .non h') : wpR (f_Contexts_add cs [.ref o, .str x, tkD t] h) P X := by
  unfold f_Contexts_add m_Contexts_add
  simp only [tkD]
  simp only [↓wp_seq, ↓wp_skip, ↓wp_drop, ↓wp_ret, ↓wp_retN, ↓wp_brk, ↓wp_cnt, ↓wp_if, ↓wp_asg, ↓wp_to, ↓wp_tos, ↓wp_toIx, ↓wp_aug, ↓wp_augK, ↓wp_fldSet, ↓wp_fldAug, ↓wp_var, ↓wp_c, ↓wp_op, ↓wp_un, ↓wp_nil, ↓wp_cons, ↓wp_tup, ↓wp_lst, ↓wp_dict0, ↓wp_dict, ↓wp_pairs0, ↓wp_pairs, ↓wp_call, ↓wp_callF, ↓wp_tru, ↓wp_bl, ↓wp_and, ↓wp_or, ↓wp_not, ↓wp_andV, ↓wp_orV, ↓wp_notV, ↓wp_part, ↓wp_noPart, ↓wp_sl, ↓wp_bm, ↓wp_ifE, ↓wp_fld, ↓wp_meth, ↓wp_make, ↓wp_lockE, ↓wp_rng1, ↓wp_rng2, ↓wp_seqI, ↓wpR_ok, ↓wpS_nx, ↓wpS_rt, List.getElem?_cons_zero, List.getElem?_cons_succ, List.set_cons_zero, List.set_cons_succ, List.length_cons, List.length_nil, ↓reduceIte, decide_eq_true_eq, ev_add, ev_iadd, ev_sub, ev_mod, ev_neg, ev_lt, ev_le, ev_gt, ev_ge, ev_eqI, ev_neI, ev_eqS, ev_neS, ev_isN, ev_int, ev_abs, ev_max, ev_min, ev_lenT, ev_lenC, ev_tupT, Int.reduceLT, Int.reduceLE, Int.reduceNeg, Int.reduceAdd, Int.reduceSub, Int.reduceEq, Nat.reduceAdd, Nat.reduceSub, and_self, ↓List.map_cons, ↓List.map_nil, ↓List.cons_append, ↓List.nil_append, List.replicate, ixT0, ixT1, ixT2, ixT3, ixTm1, ixTm2, ixTm3, onH_get, onH_set, onH_push, onH_len, mkB_get, mkB_set, mkB_push, mkB_len, mkB_next, Option.getD_some, Option.getD_none, sz0, sz1, sz2, sz3, sz4, sz5, sz6, sz7, sz8, sz9, ev_keyI, ev_keyS, ev_eqB, ev_neB, wp_one, wp_yes, wp_valsI, wp_keysI, wp_lcE, ↓wp_runB, ob.i, lkF]
  rw [if_pos (ev_tyL g.f), pushF (d := .tup [.str "sign", .str x, .int t.r, .int t.c]) (t := sg x t) g rfl hl, wpR_ok]
  exact k _ g.setF Fr.setF
theorem onb_ok (ob : Ob cs o sp fp h) (g : G sp fp st fd h) (k : P (.bl (topCol st)) h) : wpR (f_Contexts_on_block cs [.ref o] h) P X := by
  unfold f_Contexts_on_block m_Contexts_on_block
  simp only [↓wp_seq, ↓wp_skip, ↓wp_drop, ↓wp_ret, ↓wp_retN, ↓wp_brk, ↓wp_cnt, ↓wp_if, ↓wp_asg, ↓wp_to, ↓wp_tos, ↓wp_toIx, ↓wp_aug, ↓wp_augK, ↓wp_fldSet, ↓wp_fldAug, ↓wp_var, ↓wp_c, ↓wp_op, ↓wp_un, ↓wp_nil, ↓wp_cons, ↓wp_tup, ↓wp_lst, ↓wp_dict0, ↓wp_dict, ↓wp_pairs0, ↓wp_pairs, ↓wp_call, ↓wp_callF, ↓wp_tru, ↓wp_bl, ↓wp_and, ↓wp_or, ↓wp_not, ↓wp_andV, ↓wp_orV, ↓wp_notV, ↓wp_part, ↓wp_noPart, ↓wp_sl, ↓wp_bm, ↓wp_ifE, ↓wp_fld, ↓wp_meth, ↓wp_make, ↓wp_lockE, ↓wp_rng1, ↓wp_rng2, ↓wp_seqI, ↓wpR_ok, ↓wpS_nx, ↓wpS_rt, List.getElem?_cons_zero, List.getElem?_cons_succ, List.set_cons_zero, List.set_cons_succ, List.length_cons, List.length_nil, ↓reduceIte, decide_eq_true_eq, ev_add, ev_iadd, ev_sub, ev_mod, ev_neg, ev_lt, ev_le, ev_gt, ev_ge, ev_eqI, ev_neI, ev_eqS, ev_neS, ev_isN, ev_int, ev_abs, ev_max, ev_min, ev_lenT, ev_lenC, ev_tupT, Int.reduceLT, Int.reduceLE, Int.reduceNeg, Int.reduceAdd, Int.reduceSub, Int.reduceEq, Nat.reduceAdd, Nat.reduceSub, and_self, ↓List.map_cons, ↓List.map_nil, ↓List.cons_append, ↓List.nil_append, List.replicate, ixT0, ixT1, ixT2, ixT3, ixTm1, ixTm2, ixTm3, onH_get, onH_set, onH_push, onH_len, mkB_get, mkB_set, mkB_push, mkB_len, mkB_next, Option.getD_some, Option.getD_none, sz0, sz1, sz2, sz3, sz4, sz5, sz6, sz7, sz8, sz9, ev_keyI, ev_keyS, ev_eqB, ev_neB, wp_one, wp_yes, wp_valsI, wp_keysI, wp_lcE, ↓wp_runB, ob.i, lkS, ev_lenL g.s, stD_len]
  cases st with
  | nil =>
    rw [if_neg (by decide)]
    exact k
  | cons e st =>
    rw [if_pos (by simp), topS_ix g, wpR_ok, isI, wpR_ok]
    cases e <;> exact k
/-- a loop from the top of the stack down -/
theorem wp_forTop {σ : Sl} {g : FG} {u : FS} {N : Sl → HS → Prop} {T : Tl} {p : Nat} (hp : h[p]? = some (.lst (stD st))) (I : Nat → Sl → HS → Prop) (h0 : I 0 σ h) (keep : ∀ j σ h, I j σ h → h[p]? = some (.lst (stD st)))
    (step : ∀ (j : Nat) (hj : j < st.length) (σ : Sl) (h : HS), I j σ h → wpR (g (elD st[j]) σ h) (fun σ h => wpS (u σ h) (I (j + 1)) { T with ct := I (j + 1), bk := N }) (fun x h => T.ex x σ h))
    (fin : ∀ σ h, I st.length σ h → N σ h) : wpR (itRev (.ref p) h) (fun J h => wpS (forL g u J J.n 0 σ h) N T) X := by
  have e : lstAt h p = some (stD st) := by simp only [lstAt, hp]
  simp only [itRev, e, wpR_ok]
  refine wp_forL _ I h0 (fun j σ h i hj => ⟨elD (st[j]'(by rw [← stD_len]; exact hj)), ?_, step j (by rw [← stD_len]; exact hj) σ h i⟩) fun σ h i => ⟨rfl, fin σ h (by rw [← stD_len]; exact i)⟩
  have hj2 : j < st.length := by rw [← stD_len]; exact hj
  have e2 : lstAt h p = some (stD st) := by simp only [lstAt, keep j σ h i]
  simp only [e2, Option.bind]
  rw [List.getElem?_eq_getElem (by rw [stD_len]; omega)]
  simp [stD]
  congr 2
  omega
theorem wp_revI {σ : Sl} {e : FE} {Q : ItD → HS → Prop} : wpR (mRevI e σ h) Q X ↔ wpR (e σ h) (fun d h => wpR (itRev d h) Q X) X := wpR_bind
theorem marker_drop {st : List El} {j : Nat} (hj : j < st.length) : marker (st.drop j) = match st[j] with
    | .mark x => x
    | .col _ => marker (st.drop (j + 1)) := by
  rw [List.drop_eq_getElem_cons hj]
  cases st[j] <;> rfl
theorem inner_drop {st : List El} {j : Nat} (hj : j < st.length) : inner (st.drop j) = match st[j] with
    | .mark x => inner (st.drop (j + 1))
    | .col n => n := by
  rw [List.drop_eq_getElem_cons hj]
  cases st[j] <;> rfl
theorem marker_ok (ob : Ob cs o sp fp h) (g : G sp fp st fd h) (k : P (.str (marker st)) h) : wpR (f_Contexts_marker cs [.ref o] h) P X := by
  unfold f_Contexts_marker m_Contexts_marker
  simp only [↓wp_seq, ↓wp_skip, ↓wp_drop, ↓wp_ret, ↓wp_retN, ↓wp_brk, ↓wp_cnt, ↓wp_if, ↓wp_asg, ↓wp_to, ↓wp_tos, ↓wp_toIx, ↓wp_aug, ↓wp_augK, ↓wp_fldSet, ↓wp_fldAug, ↓wp_var, ↓wp_c, ↓wp_op, ↓wp_un, ↓wp_nil, ↓wp_cons, ↓wp_tup, ↓wp_lst, ↓wp_dict0, ↓wp_dict, ↓wp_pairs0, ↓wp_pairs, ↓wp_call, ↓wp_callF, ↓wp_tru, ↓wp_bl, ↓wp_and, ↓wp_or, ↓wp_not, ↓wp_andV, ↓wp_orV, ↓wp_notV, ↓wp_part, ↓wp_noPart, ↓wp_sl, ↓wp_bm, ↓wp_ifE, ↓wp_fld, ↓wp_meth, ↓wp_make, ↓wp_lockE, ↓wp_rng1, ↓wp_rng2, ↓wp_seqI, ↓wpR_ok, ↓wpS_nx, ↓wpS_rt, List.getElem?_cons_zero, List.getElem?_cons_succ, List.set_cons_zero, List.set_cons_succ, List.length_cons, List.length_nil, ↓reduceIte, decide_eq_true_eq, ev_add, ev_iadd, ev_sub, ev_mod, ev_neg, ev_lt, ev_le, ev_gt, ev_ge, ev_eqI, ev_neI, ev_eqS, ev_neS, ev_isN, ev_int, ev_abs, ev_max, ev_min, ev_lenT, ev_lenC, ev_tupT, Int.reduceLT, Int.reduceLE, Int.reduceNeg, Int.reduceAdd, Int.reduceSub, Int.reduceEq, Nat.reduceAdd, Nat.reduceSub, and_self, ↓List.map_cons, ↓List.map_nil, ↓List.cons_append, ↓List.nil_append, List.replicate, ixT0, ixT1, ixT2, ixT3, ixTm1, ixTm2, ixTm3, onH_get, onH_set, onH_push, onH_len, mkB_get, mkB_set, mkB_push, mkB_len, mkB_next, Option.getD_some, Option.getD_none, sz0, sz1, sz2, sz3, sz4, sz5, sz6, sz7, sz8, sz9, ev_keyI, ev_keyS, ev_eqB, ev_neB, wp_one, wp_yes, wp_valsI, wp_keysI, wp_lcE, ↓wp_runB, ↓wp_forE, ↓wp_revI, ob.i, lkS]
  refine wp_forTop g.s (fun j σ h' => ∃ s1 : Option D, σ = [some (.ref o), s1] ∧ h' = h ∧ marker st = marker (st.drop j)) ⟨_, rfl, rfl, rfl⟩ ?_ ?_ ?_
  · rintro j σ h' ⟨_, _, rfl, _⟩
    exact g.s
  · rintro j hj σ h' ⟨s1, rfl, rfl, e⟩
    rw [marker_drop hj] at e
    unfold m_Contexts_marker_b1
    simp only [↓wp_seq, ↓wp_skip, ↓wp_drop, ↓wp_ret, ↓wp_retN, ↓wp_brk, ↓wp_cnt, ↓wp_if, ↓wp_asg, ↓wp_to, ↓wp_tos, ↓wp_toIx, ↓wp_aug, ↓wp_augK, ↓wp_fldSet, ↓wp_fldAug, ↓wp_var, ↓wp_c, ↓wp_op, ↓wp_un, ↓wp_nil, ↓wp_cons, ↓wp_tup, ↓wp_lst, ↓wp_dict0, ↓wp_dict, ↓wp_pairs0, ↓wp_pairs, ↓wp_call, ↓wp_callF, ↓wp_tru, ↓wp_bl, ↓wp_and, ↓wp_or, ↓wp_not, ↓wp_andV, ↓wp_orV, ↓wp_notV, ↓wp_part, ↓wp_noPart, ↓wp_sl, ↓wp_bm, ↓wp_ifE, ↓wp_fld, ↓wp_meth, ↓wp_make, ↓wp_lockE, ↓wp_rng1, ↓wp_rng2, ↓wp_seqI, ↓wpR_ok, ↓wpS_nx, ↓wpS_rt, List.getElem?_cons_zero, List.getElem?_cons_succ, List.set_cons_zero, List.set_cons_succ, List.length_cons, List.length_nil, ↓reduceIte, decide_eq_true_eq, ev_add, ev_iadd, ev_sub, ev_mod, ev_neg, ev_lt, ev_le, ev_gt, ev_ge, ev_eqI, ev_neI, ev_eqS, ev_neS, ev_isN, ev_int, ev_abs, ev_max, ev_min, ev_lenT, ev_lenC, ev_tupT, Int.reduceLT, Int.reduceLE, Int.reduceNeg, Int.reduceAdd, Int.reduceSub, Int.reduceEq, Nat.reduceAdd, Nat.reduceSub, and_self, ↓List.map_cons, ↓List.map_nil, ↓List.cons_append, ↓List.nil_append, List.replicate, ixT0, ixT1, ixT2, ixT3, ixTm1, ixTm2, ixTm3, onH_get, onH_set, onH_push, onH_len, mkB_get, mkB_set, mkB_push, mkB_len, mkB_next, Option.getD_some, Option.getD_none, sz0, sz1, sz2, sz3, sz4, sz5, sz6, sz7, sz8, sz9, ev_keyI, ev_keyS, ev_eqB, ev_neB, wp_one, wp_yes, wp_valsI, wp_keysI, wp_lcE, isI]
    cases q : st[j] with
    | col n =>
      rw [q] at e
      simp only [↓wp_seq, ↓wp_skip, ↓wp_drop, ↓wp_ret, ↓wp_retN, ↓wp_brk, ↓wp_cnt, ↓wp_if, ↓wp_asg, ↓wp_to, ↓wp_tos, ↓wp_toIx, ↓wp_aug, ↓wp_augK, ↓wp_fldSet, ↓wp_fldAug, ↓wp_var, ↓wp_c, ↓wp_op, ↓wp_un, ↓wp_nil, ↓wp_cons, ↓wp_tup, ↓wp_lst, ↓wp_dict0, ↓wp_dict, ↓wp_pairs0, ↓wp_pairs, ↓wp_call, ↓wp_callF, ↓wp_tru, ↓wp_bl, ↓wp_and, ↓wp_or, ↓wp_not, ↓wp_andV, ↓wp_orV, ↓wp_notV, ↓wp_part, ↓wp_noPart, ↓wp_sl, ↓wp_bm, ↓wp_ifE, ↓wp_fld, ↓wp_meth, ↓wp_make, ↓wp_lockE, ↓wp_rng1, ↓wp_rng2, ↓wp_seqI, ↓wpR_ok, ↓wpS_nx, ↓wpS_rt, List.getElem?_cons_zero, List.getElem?_cons_succ, List.set_cons_zero, List.set_cons_succ, List.length_cons, List.length_nil, ↓reduceIte, decide_eq_true_eq, ev_add, ev_iadd, ev_sub, ev_mod, ev_neg, ev_lt, ev_le, ev_gt, ev_ge, ev_eqI, ev_neI, ev_eqS, ev_neS, ev_isN, ev_int, ev_abs, ev_max, ev_min, ev_lenT, ev_lenC, ev_tupT, Int.reduceLT, Int.reduceLE, Int.reduceNeg, Int.reduceAdd, Int.reduceSub, Int.reduceEq, Nat.reduceAdd, Nat.reduceSub, and_self, ↓List.map_cons, ↓List.map_nil, ↓List.cons_append, ↓List.nil_append, List.replicate, ixT0, ixT1, ixT2, ixT3, ixTm1, ixTm2, ixTm3, onH_get, onH_set, onH_push, onH_len, mkB_get, mkB_set, mkB_push, mkB_len, mkB_next, Option.getD_some, Option.getD_none, sz0, sz1, sz2, sz3, sz4, sz5, sz6, sz7, sz8, sz9, ev_keyI, ev_keyS, ev_eqB, ev_neB, wp_one, wp_yes, wp_valsI, wp_keysI, wp_lcE, truB, isCol, Bool.not_true, Bool.false_eq_true]
      exact ⟨_, by trivial, by trivial, e⟩
    | mark x =>
      rw [q] at e
      simp only [↓wp_seq, ↓wp_skip, ↓wp_drop, ↓wp_ret, ↓wp_retN, ↓wp_brk, ↓wp_cnt, ↓wp_if, ↓wp_asg, ↓wp_to, ↓wp_tos, ↓wp_toIx, ↓wp_aug, ↓wp_augK, ↓wp_fldSet, ↓wp_fldAug, ↓wp_var, ↓wp_c, ↓wp_op, ↓wp_un, ↓wp_nil, ↓wp_cons, ↓wp_tup, ↓wp_lst, ↓wp_dict0, ↓wp_dict, ↓wp_pairs0, ↓wp_pairs, ↓wp_call, ↓wp_callF, ↓wp_tru, ↓wp_bl, ↓wp_and, ↓wp_or, ↓wp_not, ↓wp_andV, ↓wp_orV, ↓wp_notV, ↓wp_part, ↓wp_noPart, ↓wp_sl, ↓wp_bm, ↓wp_ifE, ↓wp_fld, ↓wp_meth, ↓wp_make, ↓wp_lockE, ↓wp_rng1, ↓wp_rng2, ↓wp_seqI, ↓wpR_ok, ↓wpS_nx, ↓wpS_rt, List.getElem?_cons_zero, List.getElem?_cons_succ, List.set_cons_zero, List.set_cons_succ, List.length_cons, List.length_nil, ↓reduceIte, decide_eq_true_eq, ev_add, ev_iadd, ev_sub, ev_mod, ev_neg, ev_lt, ev_le, ev_gt, ev_ge, ev_eqI, ev_neI, ev_eqS, ev_neS, ev_isN, ev_int, ev_abs, ev_max, ev_min, ev_lenT, ev_lenC, ev_tupT, Int.reduceLT, Int.reduceLE, Int.reduceNeg, Int.reduceAdd, Int.reduceSub, Int.reduceEq, Nat.reduceAdd, Nat.reduceSub, and_self, ↓List.map_cons, ↓List.map_nil, ↓List.cons_append, ↓List.nil_append, List.replicate, ixT0, ixT1, ixT2, ixT3, ixTm1, ixTm2, ixTm3, onH_get, onH_set, onH_push, onH_len, mkB_get, mkB_set, mkB_push, mkB_len, mkB_next, Option.getD_some, Option.getD_none, sz0, sz1, sz2, sz3, sz4, sz5, sz6, sz7, sz8, sz9, ev_keyI, ev_keyS, ev_eqB, ev_neB, wp_one, wp_yes, wp_valsI, wp_keysI, wp_lcE, truB, isCol, Bool.not_false]
      rw [e] at k
      exact k
  · rintro σ h' ⟨s1, rfl, rfl, e⟩
    rw [List.drop_length] at e
    unfold m_Contexts_marker_r2
    simp only [↓wp_seq, ↓wp_skip, ↓wp_drop, ↓wp_ret, ↓wp_retN, ↓wp_brk, ↓wp_cnt, ↓wp_if, ↓wp_asg, ↓wp_to, ↓wp_tos, ↓wp_toIx, ↓wp_aug, ↓wp_augK, ↓wp_fldSet, ↓wp_fldAug, ↓wp_var, ↓wp_c, ↓wp_op, ↓wp_un, ↓wp_nil, ↓wp_cons, ↓wp_tup, ↓wp_lst, ↓wp_dict0, ↓wp_dict, ↓wp_pairs0, ↓wp_pairs, ↓wp_call, ↓wp_callF, ↓wp_tru, ↓wp_bl, ↓wp_and, ↓wp_or, ↓wp_not, ↓wp_andV, ↓wp_orV, ↓wp_notV, ↓wp_part, ↓wp_noPart, ↓wp_sl, ↓wp_bm, ↓wp_ifE, ↓wp_fld, ↓wp_meth, ↓wp_make, ↓wp_lockE, ↓wp_rng1, ↓wp_rng2, ↓wp_seqI, ↓wpR_ok, ↓wpS_nx, ↓wpS_rt, List.getElem?_cons_zero, List.getElem?_cons_succ, List.set_cons_zero, List.set_cons_succ, List.length_cons, List.length_nil, ↓reduceIte, decide_eq_true_eq, ev_add, ev_iadd, ev_sub, ev_mod, ev_neg, ev_lt, ev_le, ev_gt, ev_ge, ev_eqI, ev_neI, ev_eqS, ev_neS, ev_isN, ev_int, ev_abs, ev_max, ev_min, ev_lenT, ev_lenC, ev_tupT, Int.reduceLT, Int.reduceLE, Int.reduceNeg, Int.reduceAdd, Int.reduceSub, Int.reduceEq, Nat.reduceAdd, Nat.reduceSub, and_self, ↓List.map_cons, ↓List.map_nil, ↓List.cons_append, ↓List.nil_append, List.replicate, ixT0, ixT1, ixT2, ixT3, ixTm1, ixTm2, ixTm3, onH_get, onH_set, onH_push, onH_len, mkB_get, mkB_set, mkB_push, mkB_len, mkB_next, Option.getD_some, Option.getD_none, sz0, sz1, sz2, sz3, sz4, sz5, sz6, sz7, sz8, sz9, ev_keyI, ev_keyS, ev_eqB, ev_neB, wp_one, wp_yes, wp_valsI, wp_keysI, wp_lcE]
    rw [e] at k
    exact k
theorem column_ok (ob : Ob cs o sp fp h) (g : G sp fp st fd h) (k : P (.int (inner st)) h) : wpR (f_Contexts_column cs [.ref o] h) P X := by
  unfold f_Contexts_column m_Contexts_column
  simp only [↓wp_seq, ↓wp_skip, ↓wp_drop, ↓wp_ret, ↓wp_retN, ↓wp_brk, ↓wp_cnt, ↓wp_if, ↓wp_asg, ↓wp_to, ↓wp_tos, ↓wp_toIx, ↓wp_aug, ↓wp_augK, ↓wp_fldSet, ↓wp_fldAug, ↓wp_var, ↓wp_c, ↓wp_op, ↓wp_un, ↓wp_nil, ↓wp_cons, ↓wp_tup, ↓wp_lst, ↓wp_dict0, ↓wp_dict, ↓wp_pairs0, ↓wp_pairs, ↓wp_call, ↓wp_callF, ↓wp_tru, ↓wp_bl, ↓wp_and, ↓wp_or, ↓wp_not, ↓wp_andV, ↓wp_orV, ↓wp_notV, ↓wp_part, ↓wp_noPart, ↓wp_sl, ↓wp_bm, ↓wp_ifE, ↓wp_fld, ↓wp_meth, ↓wp_make, ↓wp_lockE, ↓wp_rng1, ↓wp_rng2, ↓wp_seqI, ↓wpR_ok, ↓wpS_nx, ↓wpS_rt, List.getElem?_cons_zero, List.getElem?_cons_succ, List.set_cons_zero, List.set_cons_succ, List.length_cons, List.length_nil, ↓reduceIte, decide_eq_true_eq, ev_add, ev_iadd, ev_sub, ev_mod, ev_neg, ev_lt, ev_le, ev_gt, ev_ge, ev_eqI, ev_neI, ev_eqS, ev_neS, ev_isN, ev_int, ev_abs, ev_max, ev_min, ev_lenT, ev_lenC, ev_tupT, Int.reduceLT, Int.reduceLE, Int.reduceNeg, Int.reduceAdd, Int.reduceSub, Int.reduceEq, Nat.reduceAdd, Nat.reduceSub, and_self, ↓List.map_cons, ↓List.map_nil, ↓List.cons_append, ↓List.nil_append, List.replicate, ixT0, ixT1, ixT2, ixT3, ixTm1, ixTm2, ixTm3, onH_get, onH_set, onH_push, onH_len, mkB_get, mkB_set, mkB_push, mkB_len, mkB_next, Option.getD_some, Option.getD_none, sz0, sz1, sz2, sz3, sz4, sz5, sz6, sz7, sz8, sz9, ev_keyI, ev_keyS, ev_eqB, ev_neB, wp_one, wp_yes, wp_valsI, wp_keysI, wp_lcE, ↓wp_runB, ↓wp_forE, ↓wp_revI, ob.i, lkS]
  refine wp_forTop g.s (fun j σ h' => ∃ s1 : Option D, σ = [some (.ref o), s1] ∧ h' = h ∧ inner st = inner (st.drop j)) ⟨_, rfl, rfl, rfl⟩ ?_ ?_ ?_
  · rintro j σ h' ⟨_, _, rfl, _⟩
    exact g.s
  · rintro j hj σ h' ⟨s1, rfl, rfl, e⟩
    rw [inner_drop hj] at e
    unfold m_Contexts_column_b1
    simp only [↓wp_seq, ↓wp_skip, ↓wp_drop, ↓wp_ret, ↓wp_retN, ↓wp_brk, ↓wp_cnt, ↓wp_if, ↓wp_asg, ↓wp_to, ↓wp_tos, ↓wp_toIx, ↓wp_aug, ↓wp_augK, ↓wp_fldSet, ↓wp_fldAug, ↓wp_var, ↓wp_c, ↓wp_op, ↓wp_un, ↓wp_nil, ↓wp_cons, ↓wp_tup, ↓wp_lst, ↓wp_dict0, ↓wp_dict, ↓wp_pairs0, ↓wp_pairs, ↓wp_call, ↓wp_callF, ↓wp_tru, ↓wp_bl, ↓wp_and, ↓wp_or, ↓wp_not, ↓wp_andV, ↓wp_orV, ↓wp_notV, ↓wp_part, ↓wp_noPart, ↓wp_sl, ↓wp_bm, ↓wp_ifE, ↓wp_fld, ↓wp_meth, ↓wp_make, ↓wp_lockE, ↓wp_rng1, ↓wp_rng2, ↓wp_seqI, ↓wpR_ok, ↓wpS_nx, ↓wpS_rt, List.getElem?_cons_zero, List.getElem?_cons_succ, List.set_cons_zero, List.set_cons_succ, List.length_cons, List.length_nil, ↓reduceIte, decide_eq_true_eq, ev_add, ev_iadd, ev_sub, ev_mod, ev_neg, ev_lt, ev_le, ev_gt, ev_ge, ev_eqI, ev_neI, ev_eqS, ev_neS, ev_isN, ev_int, ev_abs, ev_max, ev_min, ev_lenT, ev_lenC, ev_tupT, Int.reduceLT, Int.reduceLE, Int.reduceNeg, Int.reduceAdd, Int.reduceSub, Int.reduceEq, Nat.reduceAdd, Nat.reduceSub, and_self, ↓List.map_cons, ↓List.map_nil, ↓List.cons_append, ↓List.nil_append, List.replicate, ixT0, ixT1, ixT2, ixT3, ixTm1, ixTm2, ixTm3, onH_get, onH_set, onH_push, onH_len, mkB_get, mkB_set, mkB_push, mkB_len, mkB_next, Option.getD_some, Option.getD_none, sz0, sz1, sz2, sz3, sz4, sz5, sz6, sz7, sz8, sz9, ev_keyI, ev_keyS, ev_eqB, ev_neB, wp_one, wp_yes, wp_valsI, wp_keysI, wp_lcE, isI]
    cases q : st[j] with
    | mark n =>
      rw [q] at e
      simp only [↓wp_seq, ↓wp_skip, ↓wp_drop, ↓wp_ret, ↓wp_retN, ↓wp_brk, ↓wp_cnt, ↓wp_if, ↓wp_asg, ↓wp_to, ↓wp_tos, ↓wp_toIx, ↓wp_aug, ↓wp_augK, ↓wp_fldSet, ↓wp_fldAug, ↓wp_var, ↓wp_c, ↓wp_op, ↓wp_un, ↓wp_nil, ↓wp_cons, ↓wp_tup, ↓wp_lst, ↓wp_dict0, ↓wp_dict, ↓wp_pairs0, ↓wp_pairs, ↓wp_call, ↓wp_callF, ↓wp_tru, ↓wp_bl, ↓wp_and, ↓wp_or, ↓wp_not, ↓wp_andV, ↓wp_orV, ↓wp_notV, ↓wp_part, ↓wp_noPart, ↓wp_sl, ↓wp_bm, ↓wp_ifE, ↓wp_fld, ↓wp_meth, ↓wp_make, ↓wp_lockE, ↓wp_rng1, ↓wp_rng2, ↓wp_seqI, ↓wpR_ok, ↓wpS_nx, ↓wpS_rt, List.getElem?_cons_zero, List.getElem?_cons_succ, List.set_cons_zero, List.set_cons_succ, List.length_cons, List.length_nil, ↓reduceIte, decide_eq_true_eq, ev_add, ev_iadd, ev_sub, ev_mod, ev_neg, ev_lt, ev_le, ev_gt, ev_ge, ev_eqI, ev_neI, ev_eqS, ev_neS, ev_isN, ev_int, ev_abs, ev_max, ev_min, ev_lenT, ev_lenC, ev_tupT, Int.reduceLT, Int.reduceLE, Int.reduceNeg, Int.reduceAdd, Int.reduceSub, Int.reduceEq, Nat.reduceAdd, Nat.reduceSub, and_self, ↓List.map_cons, ↓List.map_nil, ↓List.cons_append, ↓List.nil_append, List.replicate, ixT0, ixT1, ixT2, ixT3, ixTm1, ixTm2, ixTm3, onH_get, onH_set, onH_push, onH_len, mkB_get, mkB_set, mkB_push, mkB_len, mkB_next, Option.getD_some, Option.getD_none, sz0, sz1, sz2, sz3, sz4, sz5, sz6, sz7, sz8, sz9, ev_keyI, ev_keyS, ev_eqB, ev_neB, wp_one, wp_yes, wp_valsI, wp_keysI, wp_lcE, truB, isCol, Bool.false_eq_true]
      exact ⟨_, by trivial, by trivial, e⟩
    | col x =>
      rw [q] at e
      simp only [↓wp_seq, ↓wp_skip, ↓wp_drop, ↓wp_ret, ↓wp_retN, ↓wp_brk, ↓wp_cnt, ↓wp_if, ↓wp_asg, ↓wp_to, ↓wp_tos, ↓wp_toIx, ↓wp_aug, ↓wp_augK, ↓wp_fldSet, ↓wp_fldAug, ↓wp_var, ↓wp_c, ↓wp_op, ↓wp_un, ↓wp_nil, ↓wp_cons, ↓wp_tup, ↓wp_lst, ↓wp_dict0, ↓wp_dict, ↓wp_pairs0, ↓wp_pairs, ↓wp_call, ↓wp_callF, ↓wp_tru, ↓wp_bl, ↓wp_and, ↓wp_or, ↓wp_not, ↓wp_andV, ↓wp_orV, ↓wp_notV, ↓wp_part, ↓wp_noPart, ↓wp_sl, ↓wp_bm, ↓wp_ifE, ↓wp_fld, ↓wp_meth, ↓wp_make, ↓wp_lockE, ↓wp_rng1, ↓wp_rng2, ↓wp_seqI, ↓wpR_ok, ↓wpS_nx, ↓wpS_rt, List.getElem?_cons_zero, List.getElem?_cons_succ, List.set_cons_zero, List.set_cons_succ, List.length_cons, List.length_nil, ↓reduceIte, decide_eq_true_eq, ev_add, ev_iadd, ev_sub, ev_mod, ev_neg, ev_lt, ev_le, ev_gt, ev_ge, ev_eqI, ev_neI, ev_eqS, ev_neS, ev_isN, ev_int, ev_abs, ev_max, ev_min, ev_lenT, ev_lenC, ev_tupT, Int.reduceLT, Int.reduceLE, Int.reduceNeg, Int.reduceAdd, Int.reduceSub, Int.reduceEq, Nat.reduceAdd, Nat.reduceSub, and_self, ↓List.map_cons, ↓List.map_nil, ↓List.cons_append, ↓List.nil_append, List.replicate, ixT0, ixT1, ixT2, ixT3, ixTm1, ixTm2, ixTm3, onH_get, onH_set, onH_push, onH_len, mkB_get, mkB_set, mkB_push, mkB_len, mkB_next, Option.getD_some, Option.getD_none, sz0, sz1, sz2, sz3, sz4, sz5, sz6, sz7, sz8, sz9, ev_keyI, ev_keyS, ev_eqB, ev_neB, wp_one, wp_yes, wp_valsI, wp_keysI, wp_lcE, truB, isCol]
      rw [e] at k
      exact k
  · rintro σ h' ⟨s1, rfl, rfl, e⟩
    rw [List.drop_length] at e
    unfold m_Contexts_column_r2
    simp only [↓wp_seq, ↓wp_skip, ↓wp_drop, ↓wp_ret, ↓wp_retN, ↓wp_brk, ↓wp_cnt, ↓wp_if, ↓wp_asg, ↓wp_to, ↓wp_tos, ↓wp_toIx, ↓wp_aug, ↓wp_augK, ↓wp_fldSet, ↓wp_fldAug, ↓wp_var, ↓wp_c, ↓wp_op, ↓wp_un, ↓wp_nil, ↓wp_cons, ↓wp_tup, ↓wp_lst, ↓wp_dict0, ↓wp_dict, ↓wp_pairs0, ↓wp_pairs, ↓wp_call, ↓wp_callF, ↓wp_tru, ↓wp_bl, ↓wp_and, ↓wp_or, ↓wp_not, ↓wp_andV, ↓wp_orV, ↓wp_notV, ↓wp_part, ↓wp_noPart, ↓wp_sl, ↓wp_bm, ↓wp_ifE, ↓wp_fld, ↓wp_meth, ↓wp_make, ↓wp_lockE, ↓wp_rng1, ↓wp_rng2, ↓wp_seqI, ↓wpR_ok, ↓wpS_nx, ↓wpS_rt, List.getElem?_cons_zero, List.getElem?_cons_succ, List.set_cons_zero, List.set_cons_succ, List.length_cons, List.length_nil, ↓reduceIte, decide_eq_true_eq, ev_add, ev_iadd, ev_sub, ev_mod, ev_neg, ev_lt, ev_le, ev_gt, ev_ge, ev_eqI, ev_neI, ev_eqS, ev_neS, ev_isN, ev_int, ev_abs, ev_max, ev_min, ev_lenT, ev_lenC, ev_tupT, Int.reduceLT, Int.reduceLE, Int.reduceNeg, Int.reduceAdd, Int.reduceSub, Int.reduceEq, Nat.reduceAdd, Nat.reduceSub, and_self, ↓List.map_cons, ↓List.map_nil, ↓List.cons_append, ↓List.nil_append, List.replicate, ixT0, ixT1, ixT2, ixT3, ixTm1, ixTm2, ixTm3, onH_get, onH_set, onH_push, onH_len, mkB_get, mkB_set, mkB_push, mkB_len, mkB_next, Option.getD_some, Option.getD_none, sz0, sz1, sz2, sz3, sz4, sz5, sz6, sz7, sz8, sz9, ev_keyI, ev_keyS, ev_eqB, ev_neB, wp_one, wp_yes, wp_valsI, wp_keysI, wp_lcE]
    rw [e] at k
    exact k
/-- how long the stack is -/
def hgt (sp : Nat) (h : HS) : Nat := match h[sp]? with
  | some (.lst ds) => ds.length
  | _ => 0
theorem hgt_of (g : G sp fp st fd h) : hgt sp h = st.length := by
  unfold hgt
  rw [g.s]
  exact stD_len st
theorem Ob.set {h' : HS} (ob : Ob cs o sp fp h) (f : Fr sp fp h h') : Ob cs o sp fp h' := ob.fr f
theorem closeM_stop (hc : topCol st = false) : closeM t st fd = (st, fd) := by
  cases st with
  | nil => rfl
  | cons e st => cases e with
    | col n => cases hc
    | mark x => rfl
theorem topCol_cons (hc : topCol st = true) : ∃ n r, st = .col n :: r := by
  cases st with
  | nil => cases hc
  | cons e st => cases e with
    | col n => exact ⟨n, st, rfl⟩
    | mark x => cases hc
theorem closeb_ok (ob : Ob cs o sp fp h) (g : G sp fp st fd h) (hl : st.length + fd.length < 100000)
    (k : ∀ h', G sp fp (closeM t st fd).1 (closeM t st fd).2 h' → Fr sp fp h h' → P .non h') : wpR (f_Contexts_close_blocks cs [.ref o, tkD t] h) P X := by
  unfold f_Contexts_close_blocks m_Contexts_close_blocks
  simp only [↓wp_seq, ↓wp_skip, ↓wp_drop, ↓wp_ret, ↓wp_retN, ↓wp_brk, ↓wp_cnt, ↓wp_if, ↓wp_asg, ↓wp_to, ↓wp_tos, ↓wp_toIx, ↓wp_aug, ↓wp_augK, ↓wp_fldSet, ↓wp_fldAug, ↓wp_var, ↓wp_c, ↓wp_op, ↓wp_un, ↓wp_nil, ↓wp_cons, ↓wp_tup, ↓wp_lst, ↓wp_dict0, ↓wp_dict, ↓wp_pairs0, ↓wp_pairs, ↓wp_call, ↓wp_callF, ↓wp_tru, ↓wp_bl, ↓wp_and, ↓wp_or, ↓wp_not, ↓wp_andV, ↓wp_orV, ↓wp_notV, ↓wp_part, ↓wp_noPart, ↓wp_sl, ↓wp_bm, ↓wp_ifE, ↓wp_fld, ↓wp_meth, ↓wp_make, ↓wp_lockE, ↓wp_rng1, ↓wp_rng2, ↓wp_seqI, ↓wpR_ok, ↓wpS_nx, ↓wpS_rt, List.getElem?_cons_zero, List.getElem?_cons_succ, List.set_cons_zero, List.set_cons_succ, List.length_cons, List.length_nil, ↓reduceIte, decide_eq_true_eq, ev_add, ev_iadd, ev_sub, ev_mod, ev_neg, ev_lt, ev_le, ev_gt, ev_ge, ev_eqI, ev_neI, ev_eqS, ev_neS, ev_isN, ev_int, ev_abs, ev_max, ev_min, ev_lenT, ev_lenC, ev_tupT, Int.reduceLT, Int.reduceLE, Int.reduceNeg, Int.reduceAdd, Int.reduceSub, Int.reduceEq, Nat.reduceAdd, Nat.reduceSub, and_self, ↓List.map_cons, ↓List.map_nil, ↓List.cons_append, ↓List.nil_append, List.replicate, ixT0, ixT1, ixT2, ixT3, ixTm1, ixTm2, ixTm3, onH_get, onH_set, onH_push, onH_len, mkB_get, mkB_set, mkB_push, mkB_len, mkB_next, Option.getD_some, Option.getD_none, sz0, sz1, sz2, sz3, sz4, sz5, sz6, sz7, sz8, sz9, ev_keyI, ev_keyS, ev_eqB, ev_neB, wp_one, wp_yes, wp_valsI, wp_keysI, wp_lcE, ↓wp_runB]
  refine wp_while (fun σ h' => σ = [some (.ref o), some (tkD t)] ∧ Fr sp fp h h' ∧ ∃ st' fd', G sp fp st' fd' h' ∧ closeM t st' fd' = closeM t st fd ∧ st'.length + fd'.length = st.length + fd.length) (fun _ h' => hgt sp h') ⟨rfl, Fr.refl, st, fd, g, rfl, rfl⟩ ?_
  rintro σ h' ⟨rfl, fr, st', fd', g', ec, el⟩
  have ob' := ob.fr fr
  simp only [↓wp_seq, ↓wp_skip, ↓wp_drop, ↓wp_ret, ↓wp_retN, ↓wp_brk, ↓wp_cnt, ↓wp_if, ↓wp_asg, ↓wp_to, ↓wp_tos, ↓wp_toIx, ↓wp_aug, ↓wp_augK, ↓wp_fldSet, ↓wp_fldAug, ↓wp_var, ↓wp_c, ↓wp_op, ↓wp_un, ↓wp_nil, ↓wp_cons, ↓wp_tup, ↓wp_lst, ↓wp_dict0, ↓wp_dict, ↓wp_pairs0, ↓wp_pairs, ↓wp_call, ↓wp_callF, ↓wp_tru, ↓wp_bl, ↓wp_and, ↓wp_or, ↓wp_not, ↓wp_andV, ↓wp_orV, ↓wp_notV, ↓wp_part, ↓wp_noPart, ↓wp_sl, ↓wp_bm, ↓wp_ifE, ↓wp_fld, ↓wp_meth, ↓wp_make, ↓wp_lockE, ↓wp_rng1, ↓wp_rng2, ↓wp_seqI, ↓wpR_ok, ↓wpS_nx, ↓wpS_rt, List.getElem?_cons_zero, List.getElem?_cons_succ, List.set_cons_zero, List.set_cons_succ, List.length_cons, List.length_nil, ↓reduceIte, decide_eq_true_eq, ev_add, ev_iadd, ev_sub, ev_mod, ev_neg, ev_lt, ev_le, ev_gt, ev_ge, ev_eqI, ev_neI, ev_eqS, ev_neS, ev_isN, ev_int, ev_abs, ev_max, ev_min, ev_lenT, ev_lenC, ev_tupT, Int.reduceLT, Int.reduceLE, Int.reduceNeg, Int.reduceAdd, Int.reduceSub, Int.reduceEq, Nat.reduceAdd, Nat.reduceSub, and_self, ↓List.map_cons, ↓List.map_nil, ↓List.cons_append, ↓List.nil_append, List.replicate, ixT0, ixT1, ixT2, ixT3, ixTm1, ixTm2, ixTm3, onH_get, onH_set, onH_push, onH_len, mkB_get, mkB_set, mkB_push, mkB_len, mkB_next, Option.getD_some, Option.getD_none, sz0, sz1, sz2, sz3, sz4, sz5, sz6, sz7, sz8, sz9, ev_keyI, ev_keyS, ev_eqB, ev_neB, wp_one, wp_yes, wp_valsI, wp_keysI, wp_lcE, ob'.i, nm_onb]
  refine onb_ok ob' g' ?_
  cases hc : topCol st' with
  | false =>
    simp only [↓wp_seq, ↓wp_skip, ↓wp_drop, ↓wp_ret, ↓wp_retN, ↓wp_brk, ↓wp_cnt, ↓wp_if, ↓wp_asg, ↓wp_to, ↓wp_tos, ↓wp_toIx, ↓wp_aug, ↓wp_augK, ↓wp_fldSet, ↓wp_fldAug, ↓wp_var, ↓wp_c, ↓wp_op, ↓wp_un, ↓wp_nil, ↓wp_cons, ↓wp_tup, ↓wp_lst, ↓wp_dict0, ↓wp_dict, ↓wp_pairs0, ↓wp_pairs, ↓wp_call, ↓wp_callF, ↓wp_tru, ↓wp_bl, ↓wp_and, ↓wp_or, ↓wp_not, ↓wp_andV, ↓wp_orV, ↓wp_notV, ↓wp_part, ↓wp_noPart, ↓wp_sl, ↓wp_bm, ↓wp_ifE, ↓wp_fld, ↓wp_meth, ↓wp_make, ↓wp_lockE, ↓wp_rng1, ↓wp_rng2, ↓wp_seqI, ↓wpR_ok, ↓wpS_nx, ↓wpS_rt, List.getElem?_cons_zero, List.getElem?_cons_succ, List.set_cons_zero, List.set_cons_succ, List.length_cons, List.length_nil, ↓reduceIte, decide_eq_true_eq, ev_add, ev_iadd, ev_sub, ev_mod, ev_neg, ev_lt, ev_le, ev_gt, ev_ge, ev_eqI, ev_neI, ev_eqS, ev_neS, ev_isN, ev_int, ev_abs, ev_max, ev_min, ev_lenT, ev_lenC, ev_tupT, Int.reduceLT, Int.reduceLE, Int.reduceNeg, Int.reduceAdd, Int.reduceSub, Int.reduceEq, Nat.reduceAdd, Nat.reduceSub, and_self, ↓List.map_cons, ↓List.map_nil, ↓List.cons_append, ↓List.nil_append, List.replicate, ixT0, ixT1, ixT2, ixT3, ixTm1, ixTm2, ixTm3, onH_get, onH_set, onH_push, onH_len, mkB_get, mkB_set, mkB_push, mkB_len, mkB_next, Option.getD_some, Option.getD_none, sz0, sz1, sz2, sz3, sz4, sz5, sz6, sz7, sz8, sz9, ev_keyI, ev_keyS, ev_eqB, ev_neB, wp_one, wp_yes, wp_valsI, wp_keysI, wp_lcE, truB, Bool.false_eq_true]
    rw [closeM_stop hc] at ec
    refine k _ ?_ fr
    rw [← ec]
    exact g'
  | true =>
    obtain ⟨n, r, rfl⟩ := topCol_cons hc
    unfold m_Contexts_close_blocks_b1
    simp only [↓wp_seq, ↓wp_skip, ↓wp_drop, ↓wp_ret, ↓wp_retN, ↓wp_brk, ↓wp_cnt, ↓wp_if, ↓wp_asg, ↓wp_to, ↓wp_tos, ↓wp_toIx, ↓wp_aug, ↓wp_augK, ↓wp_fldSet, ↓wp_fldAug, ↓wp_var, ↓wp_c, ↓wp_op, ↓wp_un, ↓wp_nil, ↓wp_cons, ↓wp_tup, ↓wp_lst, ↓wp_dict0, ↓wp_dict, ↓wp_pairs0, ↓wp_pairs, ↓wp_call, ↓wp_callF, ↓wp_tru, ↓wp_bl, ↓wp_and, ↓wp_or, ↓wp_not, ↓wp_andV, ↓wp_orV, ↓wp_notV, ↓wp_part, ↓wp_noPart, ↓wp_sl, ↓wp_bm, ↓wp_ifE, ↓wp_fld, ↓wp_meth, ↓wp_make, ↓wp_lockE, ↓wp_rng1, ↓wp_rng2, ↓wp_seqI, ↓wpR_ok, ↓wpS_nx, ↓wpS_rt, List.getElem?_cons_zero, List.getElem?_cons_succ, List.set_cons_zero, List.set_cons_succ, List.length_cons, List.length_nil, ↓reduceIte, decide_eq_true_eq, ev_add, ev_iadd, ev_sub, ev_mod, ev_neg, ev_lt, ev_le, ev_gt, ev_ge, ev_eqI, ev_neI, ev_eqS, ev_neS, ev_isN, ev_int, ev_abs, ev_max, ev_min, ev_lenT, ev_lenC, ev_tupT, Int.reduceLT, Int.reduceLE, Int.reduceNeg, Int.reduceAdd, Int.reduceSub, Int.reduceEq, Nat.reduceAdd, Nat.reduceSub, and_self, ↓List.map_cons, ↓List.map_nil, ↓List.cons_append, ↓List.nil_append, List.replicate, ixT0, ixT1, ixT2, ixT3, ixTm1, ixTm2, ixTm3, onH_get, onH_set, onH_push, onH_len, mkB_get, mkB_set, mkB_push, mkB_len, mkB_next, Option.getD_some, Option.getD_none, sz0, sz1, sz2, sz3, sz4, sz5, sz6, sz7, sz8, sz9, ev_keyI, ev_keyS, ev_eqB, ev_neB, wp_one, wp_yes, wp_valsI, wp_keysI, wp_lcE, truB, ob'.i, lkS]
    rw [if_pos (ev_tyL g'.s), popS g', wpR_ok]
    have g2 : G sp fp r fd' (h'.set sp (.lst (stD r))) := g'.setS
    have fr2 : Fr sp fp h (h'.set sp (.lst (stD r))) := fr.trans Fr.setS
    have ob2 := ob.fr fr2
    simp only [↓wp_seq, ↓wp_skip, ↓wp_drop, ↓wp_ret, ↓wp_retN, ↓wp_brk, ↓wp_cnt, ↓wp_if, ↓wp_asg, ↓wp_to, ↓wp_tos, ↓wp_toIx, ↓wp_aug, ↓wp_augK, ↓wp_fldSet, ↓wp_fldAug, ↓wp_var, ↓wp_c, ↓wp_op, ↓wp_un, ↓wp_nil, ↓wp_cons, ↓wp_tup, ↓wp_lst, ↓wp_dict0, ↓wp_dict, ↓wp_pairs0, ↓wp_pairs, ↓wp_call, ↓wp_callF, ↓wp_tru, ↓wp_bl, ↓wp_and, ↓wp_or, ↓wp_not, ↓wp_andV, ↓wp_orV, ↓wp_notV, ↓wp_part, ↓wp_noPart, ↓wp_sl, ↓wp_bm, ↓wp_ifE, ↓wp_fld, ↓wp_meth, ↓wp_make, ↓wp_lockE, ↓wp_rng1, ↓wp_rng2, ↓wp_seqI, ↓wpR_ok, ↓wpS_nx, ↓wpS_rt, List.getElem?_cons_zero, List.getElem?_cons_succ, List.set_cons_zero, List.set_cons_succ, List.length_cons, List.length_nil, ↓reduceIte, decide_eq_true_eq, ev_add, ev_iadd, ev_sub, ev_mod, ev_neg, ev_lt, ev_le, ev_gt, ev_ge, ev_eqI, ev_neI, ev_eqS, ev_neS, ev_isN, ev_int, ev_abs, ev_max, ev_min, ev_lenT, ev_lenC, ev_tupT, Int.reduceLT, Int.reduceLE, Int.reduceNeg, Int.reduceAdd, Int.reduceSub, Int.reduceEq, Nat.reduceAdd, Nat.reduceSub, and_self, ↓List.map_cons, ↓List.map_nil, ↓List.cons_append, ↓List.nil_append, List.replicate, ixT0, ixT1, ixT2, ixT3, ixTm1, ixTm2, ixTm3, onH_get, onH_set, onH_push, onH_len, mkB_get, mkB_set, mkB_push, mkB_len, mkB_next, Option.getD_some, Option.getD_none, sz0, sz1, sz2, sz3, sz4, sz5, sz6, sz7, sz8, sz9, ev_keyI, ev_keyS, ev_eqB, ev_neB, wp_one, wp_yes, wp_valsI, wp_keysI, wp_lcE, ob2.i, nm_add]
    simp only [List.length_cons] at el
    refine add_ok ob2 g2 (by omega) fun h3 g3 fr3 => ?_
    refine ⟨⟨by trivial, fr2.trans fr3, r, _, g3, ec, by rw [List.length_append, List.length_cons, List.length_nil]; omega⟩, ?_⟩
    rw [hgt_of g3, hgt_of g', List.length_cons]
    exact Nat.lt_succ_self _
theorem opb_ok (ob : Ob cs o sp fp h) (g : G sp fp st fd h) (hl : st.length + fd.length < 90000)
    (k : ∀ h', G sp fp (opensM t st fd).2.1 (opensM t st fd).2.2 h' → Fr sp fp h h' → P (.bl (opensM t st fd).1) h') : wpR (f_Contexts_open_block cs [.ref o, tkD t] h) P X := by
  unfold f_Contexts_open_block m_Contexts_open_block
  have et : tkD t = .tup [.str t.k, .str t.x, .int t.r, .int t.c] := rfl
  rw [et]
  simp only [↓wp_seq, ↓wp_skip, ↓wp_drop, ↓wp_ret, ↓wp_retN, ↓wp_brk, ↓wp_cnt, ↓wp_if, ↓wp_asg, ↓wp_to, ↓wp_tos, ↓wp_toIx, ↓wp_aug, ↓wp_augK, ↓wp_fldSet, ↓wp_fldAug, ↓wp_var, ↓wp_c, ↓wp_op, ↓wp_un, ↓wp_nil, ↓wp_cons, ↓wp_tup, ↓wp_lst, ↓wp_dict0, ↓wp_dict, ↓wp_pairs0, ↓wp_pairs, ↓wp_call, ↓wp_callF, ↓wp_tru, ↓wp_bl, ↓wp_and, ↓wp_or, ↓wp_not, ↓wp_andV, ↓wp_orV, ↓wp_notV, ↓wp_part, ↓wp_noPart, ↓wp_sl, ↓wp_bm, ↓wp_ifE, ↓wp_fld, ↓wp_meth, ↓wp_make, ↓wp_lockE, ↓wp_rng1, ↓wp_rng2, ↓wp_seqI, ↓wpR_ok, ↓wpS_nx, ↓wpS_rt, List.getElem?_cons_zero, List.getElem?_cons_succ, List.set_cons_zero, List.set_cons_succ, List.length_cons, List.length_nil, ↓reduceIte, decide_eq_true_eq, ev_add, ev_iadd, ev_sub, ev_mod, ev_neg, ev_lt, ev_le, ev_gt, ev_ge, ev_eqI, ev_neI, ev_eqS, ev_neS, ev_isN, ev_int, ev_abs, ev_max, ev_min, ev_lenT, ev_lenC, ev_tupT, Int.reduceLT, Int.reduceLE, Int.reduceNeg, Int.reduceAdd, Int.reduceSub, Int.reduceEq, Nat.reduceAdd, Nat.reduceSub, and_self, ↓List.map_cons, ↓List.map_nil, ↓List.cons_append, ↓List.nil_append, List.replicate, ixT0, ixT1, ixT2, ixT3, ixTm1, ixTm2, ixTm3, onH_get, onH_set, onH_push, onH_len, mkB_get, mkB_set, mkB_push, mkB_len, mkB_next, Option.getD_some, Option.getD_none, sz0, sz1, sz2, sz3, sz4, sz5, sz6, sz7, sz8, sz9, ev_keyI, ev_keyS, ev_eqB, ev_neB, wp_one, wp_yes, wp_valsI, wp_keysI, wp_lcE, Bool.false_eq_true, Bool.not_eq_true', decide_eq_false_iff_not, Bool.not_true, Bool.not_false, ite_and2, ite_or2, ite_tand, not_true_eq_false, not_false_eq_true, ↓wp_runB, ob.i, nm_add]
  unfold opensM at k
  refine ite2 (fun c => ?_) (fun c => ?_)
  · rw [if_pos c] at k
    exact k _ g Fr.refl
  · rw [if_neg c] at k
    rw [← et]
    refine add_ok ob g (by omega) fun h2 g2 f2 => ?_
    have ob2 := ob.fr f2
    simp only [↓wp_seq, ↓wp_skip, ↓wp_drop, ↓wp_ret, ↓wp_retN, ↓wp_brk, ↓wp_cnt, ↓wp_if, ↓wp_asg, ↓wp_to, ↓wp_tos, ↓wp_toIx, ↓wp_aug, ↓wp_augK, ↓wp_fldSet, ↓wp_fldAug, ↓wp_var, ↓wp_c, ↓wp_op, ↓wp_un, ↓wp_nil, ↓wp_cons, ↓wp_tup, ↓wp_lst, ↓wp_dict0, ↓wp_dict, ↓wp_pairs0, ↓wp_pairs, ↓wp_call, ↓wp_callF, ↓wp_tru, ↓wp_bl, ↓wp_and, ↓wp_or, ↓wp_not, ↓wp_andV, ↓wp_orV, ↓wp_notV, ↓wp_part, ↓wp_noPart, ↓wp_sl, ↓wp_bm, ↓wp_ifE, ↓wp_fld, ↓wp_meth, ↓wp_make, ↓wp_lockE, ↓wp_rng1, ↓wp_rng2, ↓wp_seqI, ↓wpR_ok, ↓wpS_nx, ↓wpS_rt, List.getElem?_cons_zero, List.getElem?_cons_succ, List.set_cons_zero, List.set_cons_succ, List.length_cons, List.length_nil, ↓reduceIte, decide_eq_true_eq, ev_add, ev_iadd, ev_sub, ev_mod, ev_neg, ev_lt, ev_le, ev_gt, ev_ge, ev_eqI, ev_neI, ev_eqS, ev_neS, ev_isN, ev_int, ev_abs, ev_max, ev_min, ev_lenT, ev_lenC, ev_tupT, Int.reduceLT, Int.reduceLE, Int.reduceNeg, Int.reduceAdd, Int.reduceSub, Int.reduceEq, Nat.reduceAdd, Nat.reduceSub, and_self, ↓List.map_cons, ↓List.map_nil, ↓List.cons_append, ↓List.nil_append, List.replicate, ixT0, ixT1, ixT2, ixT3, ixTm1, ixTm2, ixTm3, onH_get, onH_set, onH_push, onH_len, mkB_get, mkB_set, mkB_push, mkB_len, mkB_next, Option.getD_some, Option.getD_none, sz0, sz1, sz2, sz3, sz4, sz5, sz6, sz7, sz8, sz9, ev_keyI, ev_keyS, ev_eqB, ev_neB, wp_one, wp_yes, wp_valsI, wp_keysI, wp_lcE, Bool.false_eq_true, Bool.not_eq_true', decide_eq_false_iff_not, Bool.not_true, Bool.not_false, ite_and2, ite_or2, ite_tand, not_true_eq_false, not_false_eq_true, ob2.i, nm_col, nm_add, lkS]
    have no : ¬(t.k ≠ "end" ∧ inner st < t.c) → ∀ h2, Ob cs o sp fp h2 → G sp fp st (fd ++ [sg "{" t]) h2 → Fr sp fp h h2 → wpR (f_Contexts_add cs [.ref o, .str "}", tkD t] h2) (fun _ h => P (.bl false) h) X := fun c2 h2 ob2 g2 f2 => by
      rw [if_neg c2] at k
      refine add_ok ob2 g2 (by rw [List.length_append, List.length_cons, List.length_nil]; omega) fun h3 g3 f3 => k h3 g3 (f2.trans f3)
    refine ite2 (fun c2 => ?_) (fun c2 => no (fun z => c2 z.1) h2 ob2 g2 f2)
    refine column_ok ob2 g2 ?_
    simp only [↓wp_seq, ↓wp_skip, ↓wp_drop, ↓wp_ret, ↓wp_retN, ↓wp_brk, ↓wp_cnt, ↓wp_if, ↓wp_asg, ↓wp_to, ↓wp_tos, ↓wp_toIx, ↓wp_aug, ↓wp_augK, ↓wp_fldSet, ↓wp_fldAug, ↓wp_var, ↓wp_c, ↓wp_op, ↓wp_un, ↓wp_nil, ↓wp_cons, ↓wp_tup, ↓wp_lst, ↓wp_dict0, ↓wp_dict, ↓wp_pairs0, ↓wp_pairs, ↓wp_call, ↓wp_callF, ↓wp_tru, ↓wp_bl, ↓wp_and, ↓wp_or, ↓wp_not, ↓wp_andV, ↓wp_orV, ↓wp_notV, ↓wp_part, ↓wp_noPart, ↓wp_sl, ↓wp_bm, ↓wp_ifE, ↓wp_fld, ↓wp_meth, ↓wp_make, ↓wp_lockE, ↓wp_rng1, ↓wp_rng2, ↓wp_seqI, ↓wpR_ok, ↓wpS_nx, ↓wpS_rt, List.getElem?_cons_zero, List.getElem?_cons_succ, List.set_cons_zero, List.set_cons_succ, List.length_cons, List.length_nil, ↓reduceIte, decide_eq_true_eq, ev_add, ev_iadd, ev_sub, ev_mod, ev_neg, ev_lt, ev_le, ev_gt, ev_ge, ev_eqI, ev_neI, ev_eqS, ev_neS, ev_isN, ev_int, ev_abs, ev_max, ev_min, ev_lenT, ev_lenC, ev_tupT, Int.reduceLT, Int.reduceLE, Int.reduceNeg, Int.reduceAdd, Int.reduceSub, Int.reduceEq, Nat.reduceAdd, Nat.reduceSub, and_self, ↓List.map_cons, ↓List.map_nil, ↓List.cons_append, ↓List.nil_append, List.replicate, ixT0, ixT1, ixT2, ixT3, ixTm1, ixTm2, ixTm3, onH_get, onH_set, onH_push, onH_len, mkB_get, mkB_set, mkB_push, mkB_len, mkB_next, Option.getD_some, Option.getD_none, sz0, sz1, sz2, sz3, sz4, sz5, sz6, sz7, sz8, sz9, ev_keyI, ev_keyS, ev_eqB, ev_neB, wp_one, wp_yes, wp_valsI, wp_keysI, wp_lcE, Bool.false_eq_true, Bool.not_eq_true', decide_eq_false_iff_not, Bool.not_true, Bool.not_false, ite_and2, ite_or2, ite_tand, not_true_eq_false, not_false_eq_true, ob2.i, nm_add, lkS]
    refine ite2 (fun c3 => ?_) (fun c3 => no (fun z => c3 z.2) h2 ob2 g2 f2)
    rw [if_pos ⟨c2, c3⟩] at k
    rw [if_pos (ev_tyL g2.s), pushS (e := .col t.c) (d := .int t.c) g2 rfl (by omega), wpR_ok]
    exact k _ g2.setS (f2.trans Fr.setS)
theorem firstM_stop (hc : topCol st = false) : firstM t st fd = (st, fd) := by
  cases st with
  | nil => rfl
  | cons e st => cases e with
    | col n => cases hc
    | mark x => rfl
theorem topIs_no {c : Int} (hc : topCol st = false) : topIs c st = false := by
  cases st with
  | nil => rfl
  | cons e st => cases e with
    | col n => cases hc
    | mark x => rfl
theorem begin_ok (ob : Ob cs o sp fp h) (g : G sp fp st fd h) (hl : st.length + fd.length < 90000)
    (k : ∀ h', G sp fp (rowM t st fd).1 (rowM t st fd).2 h' → Fr sp fp h h' → P .non h') : wpR (f_Contexts_begin_row cs [.ref o, tkD t] h) P X := by
  unfold f_Contexts_begin_row m_Contexts_begin_row
  have et : tkD t = .tup [.str t.k, .str t.x, .int t.r, .int t.c] := rfl
  simp only [↓wp_seq, ↓wp_skip, ↓wp_drop, ↓wp_ret, ↓wp_retN, ↓wp_brk, ↓wp_cnt, ↓wp_if, ↓wp_asg, ↓wp_to, ↓wp_tos, ↓wp_toIx, ↓wp_aug, ↓wp_augK, ↓wp_fldSet, ↓wp_fldAug, ↓wp_var, ↓wp_c, ↓wp_op, ↓wp_un, ↓wp_nil, ↓wp_cons, ↓wp_tup, ↓wp_lst, ↓wp_dict0, ↓wp_dict, ↓wp_pairs0, ↓wp_pairs, ↓wp_call, ↓wp_callF, ↓wp_tru, ↓wp_bl, ↓wp_and, ↓wp_or, ↓wp_not, ↓wp_andV, ↓wp_orV, ↓wp_notV, ↓wp_part, ↓wp_noPart, ↓wp_sl, ↓wp_bm, ↓wp_ifE, ↓wp_fld, ↓wp_meth, ↓wp_make, ↓wp_lockE, ↓wp_rng1, ↓wp_rng2, ↓wp_seqI, ↓wpR_ok, ↓wpS_nx, ↓wpS_rt, List.getElem?_cons_zero, List.getElem?_cons_succ, List.set_cons_zero, List.set_cons_succ, List.length_cons, List.length_nil, ↓reduceIte, decide_eq_true_eq, ev_add, ev_iadd, ev_sub, ev_mod, ev_neg, ev_lt, ev_le, ev_gt, ev_ge, ev_eqI, ev_neI, ev_eqS, ev_neS, ev_isN, ev_int, ev_abs, ev_max, ev_min, ev_lenT, ev_lenC, ev_tupT, Int.reduceLT, Int.reduceLE, Int.reduceNeg, Int.reduceAdd, Int.reduceSub, Int.reduceEq, Nat.reduceAdd, Nat.reduceSub, and_self, ↓List.map_cons, ↓List.map_nil, ↓List.cons_append, ↓List.nil_append, List.replicate, ixT0, ixT1, ixT2, ixT3, ixTm1, ixTm2, ixTm3, onH_get, onH_set, onH_push, onH_len, mkB_get, mkB_set, mkB_push, mkB_len, mkB_next, Option.getD_some, Option.getD_none, sz0, sz1, sz2, sz3, sz4, sz5, sz6, sz7, sz8, sz9, ev_keyI, ev_keyS, ev_eqB, ev_neB, wp_one, wp_yes, wp_valsI, wp_keysI, wp_lcE, Bool.false_eq_true, Bool.not_eq_true', decide_eq_false_iff_not, Bool.not_true, Bool.not_false, ite_and2, ite_or2, ite_tand, not_true_eq_false, not_false_eq_true, ↓wp_runB]
  have fin : ∀ h', Fr sp fp h h' → G sp fp (firstM t st fd).1 (firstM t st fd).2 h' → wpS (m_Contexts_begin_row_r2 cs [some (.ref o), some (tkD t)] h') (fun _ h => P .non h) (Tl.ret P X) := fun h' fr g' => by
    have ob' := ob.fr fr
    have hs := firstM_sz t st fd
    unfold sz at hs
    unfold rowM at k
    unfold m_Contexts_begin_row_r2
    simp only [↓wp_seq, ↓wp_skip, ↓wp_drop, ↓wp_ret, ↓wp_retN, ↓wp_brk, ↓wp_cnt, ↓wp_if, ↓wp_asg, ↓wp_to, ↓wp_tos, ↓wp_toIx, ↓wp_aug, ↓wp_augK, ↓wp_fldSet, ↓wp_fldAug, ↓wp_var, ↓wp_c, ↓wp_op, ↓wp_un, ↓wp_nil, ↓wp_cons, ↓wp_tup, ↓wp_lst, ↓wp_dict0, ↓wp_dict, ↓wp_pairs0, ↓wp_pairs, ↓wp_call, ↓wp_callF, ↓wp_tru, ↓wp_bl, ↓wp_and, ↓wp_or, ↓wp_not, ↓wp_andV, ↓wp_orV, ↓wp_notV, ↓wp_part, ↓wp_noPart, ↓wp_sl, ↓wp_bm, ↓wp_ifE, ↓wp_fld, ↓wp_meth, ↓wp_make, ↓wp_lockE, ↓wp_rng1, ↓wp_rng2, ↓wp_seqI, ↓wpR_ok, ↓wpS_nx, ↓wpS_rt, List.getElem?_cons_zero, List.getElem?_cons_succ, List.set_cons_zero, List.set_cons_succ, List.length_cons, List.length_nil, ↓reduceIte, decide_eq_true_eq, ev_add, ev_iadd, ev_sub, ev_mod, ev_neg, ev_lt, ev_le, ev_gt, ev_ge, ev_eqI, ev_neI, ev_eqS, ev_neS, ev_isN, ev_int, ev_abs, ev_max, ev_min, ev_lenT, ev_lenC, ev_tupT, Int.reduceLT, Int.reduceLE, Int.reduceNeg, Int.reduceAdd, Int.reduceSub, Int.reduceEq, Nat.reduceAdd, Nat.reduceSub, and_self, ↓List.map_cons, ↓List.map_nil, ↓List.cons_append, ↓List.nil_append, List.replicate, ixT0, ixT1, ixT2, ixT3, ixTm1, ixTm2, ixTm3, onH_get, onH_set, onH_push, onH_len, mkB_get, mkB_set, mkB_push, mkB_len, mkB_next, Option.getD_some, Option.getD_none, sz0, sz1, sz2, sz3, sz4, sz5, sz6, sz7, sz8, sz9, ev_keyI, ev_keyS, ev_eqB, ev_neB, wp_one, wp_yes, wp_valsI, wp_keysI, wp_lcE, Bool.false_eq_true, Bool.not_eq_true', decide_eq_false_iff_not, Bool.not_true, Bool.not_false, ite_and2, ite_or2, ite_tand, not_true_eq_false, not_false_eq_true, ob'.i, nm_onb]
    refine onb_ok ob' g' ?_
    cases hc : topCol (firstM t st fd).1 with
    | false =>
      rw [topIs_no hc, if_neg (by decide)] at k
      simp only [↓wp_seq, ↓wp_skip, ↓wp_drop, ↓wp_ret, ↓wp_retN, ↓wp_brk, ↓wp_cnt, ↓wp_if, ↓wp_asg, ↓wp_to, ↓wp_tos, ↓wp_toIx, ↓wp_aug, ↓wp_augK, ↓wp_fldSet, ↓wp_fldAug, ↓wp_var, ↓wp_c, ↓wp_op, ↓wp_un, ↓wp_nil, ↓wp_cons, ↓wp_tup, ↓wp_lst, ↓wp_dict0, ↓wp_dict, ↓wp_pairs0, ↓wp_pairs, ↓wp_call, ↓wp_callF, ↓wp_tru, ↓wp_bl, ↓wp_and, ↓wp_or, ↓wp_not, ↓wp_andV, ↓wp_orV, ↓wp_notV, ↓wp_part, ↓wp_noPart, ↓wp_sl, ↓wp_bm, ↓wp_ifE, ↓wp_fld, ↓wp_meth, ↓wp_make, ↓wp_lockE, ↓wp_rng1, ↓wp_rng2, ↓wp_seqI, ↓wpR_ok, ↓wpS_nx, ↓wpS_rt, List.getElem?_cons_zero, List.getElem?_cons_succ, List.set_cons_zero, List.set_cons_succ, List.length_cons, List.length_nil, ↓reduceIte, decide_eq_true_eq, ev_add, ev_iadd, ev_sub, ev_mod, ev_neg, ev_lt, ev_le, ev_gt, ev_ge, ev_eqI, ev_neI, ev_eqS, ev_neS, ev_isN, ev_int, ev_abs, ev_max, ev_min, ev_lenT, ev_lenC, ev_tupT, Int.reduceLT, Int.reduceLE, Int.reduceNeg, Int.reduceAdd, Int.reduceSub, Int.reduceEq, Nat.reduceAdd, Nat.reduceSub, and_self, ↓List.map_cons, ↓List.map_nil, ↓List.cons_append, ↓List.nil_append, List.replicate, ixT0, ixT1, ixT2, ixT3, ixTm1, ixTm2, ixTm3, onH_get, onH_set, onH_push, onH_len, mkB_get, mkB_set, mkB_push, mkB_len, mkB_next, Option.getD_some, Option.getD_none, sz0, sz1, sz2, sz3, sz4, sz5, sz6, sz7, sz8, sz9, ev_keyI, ev_keyS, ev_eqB, ev_neB, wp_one, wp_yes, wp_valsI, wp_keysI, wp_lcE, Bool.false_eq_true, Bool.not_eq_true', decide_eq_false_iff_not, Bool.not_true, Bool.not_false, ite_and2, ite_or2, ite_tand, not_true_eq_false, not_false_eq_true, truB]
      exact k _ g' fr
    | true =>
      obtain ⟨n, r, er⟩ := topCol_cons hc
      rw [er] at g' k hs
      rw [et]
      simp only [↓wp_seq, ↓wp_skip, ↓wp_drop, ↓wp_ret, ↓wp_retN, ↓wp_brk, ↓wp_cnt, ↓wp_if, ↓wp_asg, ↓wp_to, ↓wp_tos, ↓wp_toIx, ↓wp_aug, ↓wp_augK, ↓wp_fldSet, ↓wp_fldAug, ↓wp_var, ↓wp_c, ↓wp_op, ↓wp_un, ↓wp_nil, ↓wp_cons, ↓wp_tup, ↓wp_lst, ↓wp_dict0, ↓wp_dict, ↓wp_pairs0, ↓wp_pairs, ↓wp_call, ↓wp_callF, ↓wp_tru, ↓wp_bl, ↓wp_and, ↓wp_or, ↓wp_not, ↓wp_andV, ↓wp_orV, ↓wp_notV, ↓wp_part, ↓wp_noPart, ↓wp_sl, ↓wp_bm, ↓wp_ifE, ↓wp_fld, ↓wp_meth, ↓wp_make, ↓wp_lockE, ↓wp_rng1, ↓wp_rng2, ↓wp_seqI, ↓wpR_ok, ↓wpS_nx, ↓wpS_rt, List.getElem?_cons_zero, List.getElem?_cons_succ, List.set_cons_zero, List.set_cons_succ, List.length_cons, List.length_nil, ↓reduceIte, decide_eq_true_eq, ev_add, ev_iadd, ev_sub, ev_mod, ev_neg, ev_lt, ev_le, ev_gt, ev_ge, ev_eqI, ev_neI, ev_eqS, ev_neS, ev_isN, ev_int, ev_abs, ev_max, ev_min, ev_lenT, ev_lenC, ev_tupT, Int.reduceLT, Int.reduceLE, Int.reduceNeg, Int.reduceAdd, Int.reduceSub, Int.reduceEq, Nat.reduceAdd, Nat.reduceSub, and_self, ↓List.map_cons, ↓List.map_nil, ↓List.cons_append, ↓List.nil_append, List.replicate, ixT0, ixT1, ixT2, ixT3, ixTm1, ixTm2, ixTm3, onH_get, onH_set, onH_push, onH_len, mkB_get, mkB_set, mkB_push, mkB_len, mkB_next, Option.getD_some, Option.getD_none, sz0, sz1, sz2, sz3, sz4, sz5, sz6, sz7, sz8, sz9, ev_keyI, ev_keyS, ev_eqB, ev_neB, wp_one, wp_yes, wp_valsI, wp_keysI, wp_lcE, Bool.false_eq_true, Bool.not_eq_true', decide_eq_false_iff_not, Bool.not_true, Bool.not_false, ite_and2, ite_or2, ite_tand, not_true_eq_false, not_false_eq_true, truB, ob'.i, lkS, nm_add]
      rw [topS_ix g', wpR_ok]
      simp only [↓wp_seq, ↓wp_skip, ↓wp_drop, ↓wp_ret, ↓wp_retN, ↓wp_brk, ↓wp_cnt, ↓wp_if, ↓wp_asg, ↓wp_to, ↓wp_tos, ↓wp_toIx, ↓wp_aug, ↓wp_augK, ↓wp_fldSet, ↓wp_fldAug, ↓wp_var, ↓wp_c, ↓wp_op, ↓wp_un, ↓wp_nil, ↓wp_cons, ↓wp_tup, ↓wp_lst, ↓wp_dict0, ↓wp_dict, ↓wp_pairs0, ↓wp_pairs, ↓wp_call, ↓wp_callF, ↓wp_tru, ↓wp_bl, ↓wp_and, ↓wp_or, ↓wp_not, ↓wp_andV, ↓wp_orV, ↓wp_notV, ↓wp_part, ↓wp_noPart, ↓wp_sl, ↓wp_bm, ↓wp_ifE, ↓wp_fld, ↓wp_meth, ↓wp_make, ↓wp_lockE, ↓wp_rng1, ↓wp_rng2, ↓wp_seqI, ↓wpR_ok, ↓wpS_nx, ↓wpS_rt, List.getElem?_cons_zero, List.getElem?_cons_succ, List.set_cons_zero, List.set_cons_succ, List.length_cons, List.length_nil, ↓reduceIte, decide_eq_true_eq, ev_add, ev_iadd, ev_sub, ev_mod, ev_neg, ev_lt, ev_le, ev_gt, ev_ge, ev_eqI, ev_neI, ev_eqS, ev_neS, ev_isN, ev_int, ev_abs, ev_max, ev_min, ev_lenT, ev_lenC, ev_tupT, Int.reduceLT, Int.reduceLE, Int.reduceNeg, Int.reduceAdd, Int.reduceSub, Int.reduceEq, Nat.reduceAdd, Nat.reduceSub, and_self, ↓List.map_cons, ↓List.map_nil, ↓List.cons_append, ↓List.nil_append, List.replicate, ixT0, ixT1, ixT2, ixT3, ixTm1, ixTm2, ixTm3, onH_get, onH_set, onH_push, onH_len, mkB_get, mkB_set, mkB_push, mkB_len, mkB_next, Option.getD_some, Option.getD_none, sz0, sz1, sz2, sz3, sz4, sz5, sz6, sz7, sz8, sz9, ev_keyI, ev_keyS, ev_eqB, ev_neB, wp_one, wp_yes, wp_valsI, wp_keysI, wp_lcE, Bool.false_eq_true, Bool.not_eq_true', decide_eq_false_iff_not, Bool.not_true, Bool.not_false, ite_and2, ite_or2, ite_tand, not_true_eq_false, not_false_eq_true, elD, ob'.i, nm_add]
      refine ite2 (fun c => ?_) (fun c => ?_)
      · rw [topIs, decide_eq_true c, if_pos rfl] at k
        rw [← et]
        simp only [List.length_cons] at hs
        refine add_ok ob' g' (by omega) fun h3 g3 f3 => k h3 g3 (fr.trans f3)
      · rw [topIs, decide_eq_false c, if_neg (by decide), er] at k
        exact k _ g' fr
  refine wp_while (fun σ h' => σ = [some (.ref o), some (tkD t)] ∧ Fr sp fp h h' ∧ ∃ st' fd', G sp fp st' fd' h' ∧ firstM t st' fd' = firstM t st fd ∧ st'.length + fd'.length = st.length + fd.length) (fun _ h' => hgt sp h') ⟨by trivial, Fr.refl, st, fd, g, rfl, rfl⟩ ?_
  rintro σ h' ⟨rfl, fr, st', fd', g', ec, el⟩
  have ob' := ob.fr fr
  simp only [↓wp_seq, ↓wp_skip, ↓wp_drop, ↓wp_ret, ↓wp_retN, ↓wp_brk, ↓wp_cnt, ↓wp_if, ↓wp_asg, ↓wp_to, ↓wp_tos, ↓wp_toIx, ↓wp_aug, ↓wp_augK, ↓wp_fldSet, ↓wp_fldAug, ↓wp_var, ↓wp_c, ↓wp_op, ↓wp_un, ↓wp_nil, ↓wp_cons, ↓wp_tup, ↓wp_lst, ↓wp_dict0, ↓wp_dict, ↓wp_pairs0, ↓wp_pairs, ↓wp_call, ↓wp_callF, ↓wp_tru, ↓wp_bl, ↓wp_and, ↓wp_or, ↓wp_not, ↓wp_andV, ↓wp_orV, ↓wp_notV, ↓wp_part, ↓wp_noPart, ↓wp_sl, ↓wp_bm, ↓wp_ifE, ↓wp_fld, ↓wp_meth, ↓wp_make, ↓wp_lockE, ↓wp_rng1, ↓wp_rng2, ↓wp_seqI, ↓wpR_ok, ↓wpS_nx, ↓wpS_rt, List.getElem?_cons_zero, List.getElem?_cons_succ, List.set_cons_zero, List.set_cons_succ, List.length_cons, List.length_nil, ↓reduceIte, decide_eq_true_eq, ev_add, ev_iadd, ev_sub, ev_mod, ev_neg, ev_lt, ev_le, ev_gt, ev_ge, ev_eqI, ev_neI, ev_eqS, ev_neS, ev_isN, ev_int, ev_abs, ev_max, ev_min, ev_lenT, ev_lenC, ev_tupT, Int.reduceLT, Int.reduceLE, Int.reduceNeg, Int.reduceAdd, Int.reduceSub, Int.reduceEq, Nat.reduceAdd, Nat.reduceSub, and_self, ↓List.map_cons, ↓List.map_nil, ↓List.cons_append, ↓List.nil_append, List.replicate, ixT0, ixT1, ixT2, ixT3, ixTm1, ixTm2, ixTm3, onH_get, onH_set, onH_push, onH_len, mkB_get, mkB_set, mkB_push, mkB_len, mkB_next, Option.getD_some, Option.getD_none, sz0, sz1, sz2, sz3, sz4, sz5, sz6, sz7, sz8, sz9, ev_keyI, ev_keyS, ev_eqB, ev_neB, wp_one, wp_yes, wp_valsI, wp_keysI, wp_lcE, Bool.false_eq_true, Bool.not_eq_true', decide_eq_false_iff_not, Bool.not_true, Bool.not_false, ite_and2, ite_or2, ite_tand, not_true_eq_false, not_false_eq_true, ob'.i, nm_onb]
  refine onb_ok ob' g' ?_
  cases hc : topCol st' with
  | false =>
    simp only [↓wp_seq, ↓wp_skip, ↓wp_drop, ↓wp_ret, ↓wp_retN, ↓wp_brk, ↓wp_cnt, ↓wp_if, ↓wp_asg, ↓wp_to, ↓wp_tos, ↓wp_toIx, ↓wp_aug, ↓wp_augK, ↓wp_fldSet, ↓wp_fldAug, ↓wp_var, ↓wp_c, ↓wp_op, ↓wp_un, ↓wp_nil, ↓wp_cons, ↓wp_tup, ↓wp_lst, ↓wp_dict0, ↓wp_dict, ↓wp_pairs0, ↓wp_pairs, ↓wp_call, ↓wp_callF, ↓wp_tru, ↓wp_bl, ↓wp_and, ↓wp_or, ↓wp_not, ↓wp_andV, ↓wp_orV, ↓wp_notV, ↓wp_part, ↓wp_noPart, ↓wp_sl, ↓wp_bm, ↓wp_ifE, ↓wp_fld, ↓wp_meth, ↓wp_make, ↓wp_lockE, ↓wp_rng1, ↓wp_rng2, ↓wp_seqI, ↓wpR_ok, ↓wpS_nx, ↓wpS_rt, List.getElem?_cons_zero, List.getElem?_cons_succ, List.set_cons_zero, List.set_cons_succ, List.length_cons, List.length_nil, ↓reduceIte, decide_eq_true_eq, ev_add, ev_iadd, ev_sub, ev_mod, ev_neg, ev_lt, ev_le, ev_gt, ev_ge, ev_eqI, ev_neI, ev_eqS, ev_neS, ev_isN, ev_int, ev_abs, ev_max, ev_min, ev_lenT, ev_lenC, ev_tupT, Int.reduceLT, Int.reduceLE, Int.reduceNeg, Int.reduceAdd, Int.reduceSub, Int.reduceEq, Nat.reduceAdd, Nat.reduceSub, and_self, ↓List.map_cons, ↓List.map_nil, ↓List.cons_append, ↓List.nil_append, List.replicate, ixT0, ixT1, ixT2, ixT3, ixTm1, ixTm2, ixTm3, onH_get, onH_set, onH_push, onH_len, mkB_get, mkB_set, mkB_push, mkB_len, mkB_next, Option.getD_some, Option.getD_none, sz0, sz1, sz2, sz3, sz4, sz5, sz6, sz7, sz8, sz9, ev_keyI, ev_keyS, ev_eqB, ev_neB, wp_one, wp_yes, wp_valsI, wp_keysI, wp_lcE, Bool.false_eq_true, Bool.not_eq_true', decide_eq_false_iff_not, Bool.not_true, Bool.not_false, ite_and2, ite_or2, ite_tand, not_true_eq_false, not_false_eq_true, truB]
    rw [firstM_stop hc] at ec
    refine fin _ fr ?_
    rw [← ec]
    exact g'
  | true =>
    obtain ⟨n, r, rfl⟩ := topCol_cons hc
    have et2 : ∀ h, dIx (tkD t) (.int 3) h = .ok (.int t.c) h := fun h => by rw [et, ixT3]
    simp only [↓wp_seq, ↓wp_skip, ↓wp_drop, ↓wp_ret, ↓wp_retN, ↓wp_brk, ↓wp_cnt, ↓wp_if, ↓wp_asg, ↓wp_to, ↓wp_tos, ↓wp_toIx, ↓wp_aug, ↓wp_augK, ↓wp_fldSet, ↓wp_fldAug, ↓wp_var, ↓wp_c, ↓wp_op, ↓wp_un, ↓wp_nil, ↓wp_cons, ↓wp_tup, ↓wp_lst, ↓wp_dict0, ↓wp_dict, ↓wp_pairs0, ↓wp_pairs, ↓wp_call, ↓wp_callF, ↓wp_tru, ↓wp_bl, ↓wp_and, ↓wp_or, ↓wp_not, ↓wp_andV, ↓wp_orV, ↓wp_notV, ↓wp_part, ↓wp_noPart, ↓wp_sl, ↓wp_bm, ↓wp_ifE, ↓wp_fld, ↓wp_meth, ↓wp_make, ↓wp_lockE, ↓wp_rng1, ↓wp_rng2, ↓wp_seqI, ↓wpR_ok, ↓wpS_nx, ↓wpS_rt, List.getElem?_cons_zero, List.getElem?_cons_succ, List.set_cons_zero, List.set_cons_succ, List.length_cons, List.length_nil, ↓reduceIte, decide_eq_true_eq, ev_add, ev_iadd, ev_sub, ev_mod, ev_neg, ev_lt, ev_le, ev_gt, ev_ge, ev_eqI, ev_neI, ev_eqS, ev_neS, ev_isN, ev_int, ev_abs, ev_max, ev_min, ev_lenT, ev_lenC, ev_tupT, Int.reduceLT, Int.reduceLE, Int.reduceNeg, Int.reduceAdd, Int.reduceSub, Int.reduceEq, Nat.reduceAdd, Nat.reduceSub, and_self, ↓List.map_cons, ↓List.map_nil, ↓List.cons_append, ↓List.nil_append, List.replicate, ixT0, ixT1, ixT2, ixT3, ixTm1, ixTm2, ixTm3, onH_get, onH_set, onH_push, onH_len, mkB_get, mkB_set, mkB_push, mkB_len, mkB_next, Option.getD_some, Option.getD_none, sz0, sz1, sz2, sz3, sz4, sz5, sz6, sz7, sz8, sz9, ev_keyI, ev_keyS, ev_eqB, ev_neB, wp_one, wp_yes, wp_valsI, wp_keysI, wp_lcE, Bool.false_eq_true, Bool.not_eq_true', decide_eq_false_iff_not, Bool.not_true, Bool.not_false, ite_and2, ite_or2, ite_tand, not_true_eq_false, not_false_eq_true, truB, ob'.i, lkS, et2]
    rw [topS_ix g', wpR_ok]
    simp only [↓wp_seq, ↓wp_skip, ↓wp_drop, ↓wp_ret, ↓wp_retN, ↓wp_brk, ↓wp_cnt, ↓wp_if, ↓wp_asg, ↓wp_to, ↓wp_tos, ↓wp_toIx, ↓wp_aug, ↓wp_augK, ↓wp_fldSet, ↓wp_fldAug, ↓wp_var, ↓wp_c, ↓wp_op, ↓wp_un, ↓wp_nil, ↓wp_cons, ↓wp_tup, ↓wp_lst, ↓wp_dict0, ↓wp_dict, ↓wp_pairs0, ↓wp_pairs, ↓wp_call, ↓wp_callF, ↓wp_tru, ↓wp_bl, ↓wp_and, ↓wp_or, ↓wp_not, ↓wp_andV, ↓wp_orV, ↓wp_notV, ↓wp_part, ↓wp_noPart, ↓wp_sl, ↓wp_bm, ↓wp_ifE, ↓wp_fld, ↓wp_meth, ↓wp_make, ↓wp_lockE, ↓wp_rng1, ↓wp_rng2, ↓wp_seqI, ↓wpR_ok, ↓wpS_nx, ↓wpS_rt, List.getElem?_cons_zero, List.getElem?_cons_succ, List.set_cons_zero, List.set_cons_succ, List.length_cons, List.length_nil, ↓reduceIte, decide_eq_true_eq, ev_add, ev_iadd, ev_sub, ev_mod, ev_neg, ev_lt, ev_le, ev_gt, ev_ge, ev_eqI, ev_neI, ev_eqS, ev_neS, ev_isN, ev_int, ev_abs, ev_max, ev_min, ev_lenT, ev_lenC, ev_tupT, Int.reduceLT, Int.reduceLE, Int.reduceNeg, Int.reduceAdd, Int.reduceSub, Int.reduceEq, Nat.reduceAdd, Nat.reduceSub, and_self, ↓List.map_cons, ↓List.map_nil, ↓List.cons_append, ↓List.nil_append, List.replicate, ixT0, ixT1, ixT2, ixT3, ixTm1, ixTm2, ixTm3, onH_get, onH_set, onH_push, onH_len, mkB_get, mkB_set, mkB_push, mkB_len, mkB_next, Option.getD_some, Option.getD_none, sz0, sz1, sz2, sz3, sz4, sz5, sz6, sz7, sz8, sz9, ev_keyI, ev_keyS, ev_eqB, ev_neB, wp_one, wp_yes, wp_valsI, wp_keysI, wp_lcE, Bool.false_eq_true, Bool.not_eq_true', decide_eq_false_iff_not, Bool.not_true, Bool.not_false, ite_and2, ite_or2, ite_tand, not_true_eq_false, not_false_eq_true, elD]
    refine ite2 (fun c => ?_) (fun c => ?_)
    · rw [firstM, if_pos c] at ec
      unfold m_Contexts_begin_row_b1
      simp only [↓wp_seq, ↓wp_skip, ↓wp_drop, ↓wp_ret, ↓wp_retN, ↓wp_brk, ↓wp_cnt, ↓wp_if, ↓wp_asg, ↓wp_to, ↓wp_tos, ↓wp_toIx, ↓wp_aug, ↓wp_augK, ↓wp_fldSet, ↓wp_fldAug, ↓wp_var, ↓wp_c, ↓wp_op, ↓wp_un, ↓wp_nil, ↓wp_cons, ↓wp_tup, ↓wp_lst, ↓wp_dict0, ↓wp_dict, ↓wp_pairs0, ↓wp_pairs, ↓wp_call, ↓wp_callF, ↓wp_tru, ↓wp_bl, ↓wp_and, ↓wp_or, ↓wp_not, ↓wp_andV, ↓wp_orV, ↓wp_notV, ↓wp_part, ↓wp_noPart, ↓wp_sl, ↓wp_bm, ↓wp_ifE, ↓wp_fld, ↓wp_meth, ↓wp_make, ↓wp_lockE, ↓wp_rng1, ↓wp_rng2, ↓wp_seqI, ↓wpR_ok, ↓wpS_nx, ↓wpS_rt, List.getElem?_cons_zero, List.getElem?_cons_succ, List.set_cons_zero, List.set_cons_succ, List.length_cons, List.length_nil, ↓reduceIte, decide_eq_true_eq, ev_add, ev_iadd, ev_sub, ev_mod, ev_neg, ev_lt, ev_le, ev_gt, ev_ge, ev_eqI, ev_neI, ev_eqS, ev_neS, ev_isN, ev_int, ev_abs, ev_max, ev_min, ev_lenT, ev_lenC, ev_tupT, Int.reduceLT, Int.reduceLE, Int.reduceNeg, Int.reduceAdd, Int.reduceSub, Int.reduceEq, Nat.reduceAdd, Nat.reduceSub, and_self, ↓List.map_cons, ↓List.map_nil, ↓List.cons_append, ↓List.nil_append, List.replicate, ixT0, ixT1, ixT2, ixT3, ixTm1, ixTm2, ixTm3, onH_get, onH_set, onH_push, onH_len, mkB_get, mkB_set, mkB_push, mkB_len, mkB_next, Option.getD_some, Option.getD_none, sz0, sz1, sz2, sz3, sz4, sz5, sz6, sz7, sz8, sz9, ev_keyI, ev_keyS, ev_eqB, ev_neB, wp_one, wp_yes, wp_valsI, wp_keysI, wp_lcE, Bool.false_eq_true, Bool.not_eq_true', decide_eq_false_iff_not, Bool.not_true, Bool.not_false, ite_and2, ite_or2, ite_tand, not_true_eq_false, not_false_eq_true, ob'.i, lkS]
      rw [if_pos (ev_tyL g'.s), popS g', wpR_ok]
      have g2 : G sp fp r fd' (h'.set sp (.lst (stD r))) := g'.setS
      have fr2 : Fr sp fp h (h'.set sp (.lst (stD r))) := fr.trans Fr.setS
      have ob2 := ob.fr fr2
      simp only [↓wp_seq, ↓wp_skip, ↓wp_drop, ↓wp_ret, ↓wp_retN, ↓wp_brk, ↓wp_cnt, ↓wp_if, ↓wp_asg, ↓wp_to, ↓wp_tos, ↓wp_toIx, ↓wp_aug, ↓wp_augK, ↓wp_fldSet, ↓wp_fldAug, ↓wp_var, ↓wp_c, ↓wp_op, ↓wp_un, ↓wp_nil, ↓wp_cons, ↓wp_tup, ↓wp_lst, ↓wp_dict0, ↓wp_dict, ↓wp_pairs0, ↓wp_pairs, ↓wp_call, ↓wp_callF, ↓wp_tru, ↓wp_bl, ↓wp_and, ↓wp_or, ↓wp_not, ↓wp_andV, ↓wp_orV, ↓wp_notV, ↓wp_part, ↓wp_noPart, ↓wp_sl, ↓wp_bm, ↓wp_ifE, ↓wp_fld, ↓wp_meth, ↓wp_make, ↓wp_lockE, ↓wp_rng1, ↓wp_rng2, ↓wp_seqI, ↓wpR_ok, ↓wpS_nx, ↓wpS_rt, List.getElem?_cons_zero, List.getElem?_cons_succ, List.set_cons_zero, List.set_cons_succ, List.length_cons, List.length_nil, ↓reduceIte, decide_eq_true_eq, ev_add, ev_iadd, ev_sub, ev_mod, ev_neg, ev_lt, ev_le, ev_gt, ev_ge, ev_eqI, ev_neI, ev_eqS, ev_neS, ev_isN, ev_int, ev_abs, ev_max, ev_min, ev_lenT, ev_lenC, ev_tupT, Int.reduceLT, Int.reduceLE, Int.reduceNeg, Int.reduceAdd, Int.reduceSub, Int.reduceEq, Nat.reduceAdd, Nat.reduceSub, and_self, ↓List.map_cons, ↓List.map_nil, ↓List.cons_append, ↓List.nil_append, List.replicate, ixT0, ixT1, ixT2, ixT3, ixTm1, ixTm2, ixTm3, onH_get, onH_set, onH_push, onH_len, mkB_get, mkB_set, mkB_push, mkB_len, mkB_next, Option.getD_some, Option.getD_none, sz0, sz1, sz2, sz3, sz4, sz5, sz6, sz7, sz8, sz9, ev_keyI, ev_keyS, ev_eqB, ev_neB, wp_one, wp_yes, wp_valsI, wp_keysI, wp_lcE, Bool.false_eq_true, Bool.not_eq_true', decide_eq_false_iff_not, Bool.not_true, Bool.not_false, ite_and2, ite_or2, ite_tand, not_true_eq_false, not_false_eq_true, ob2.i, nm_add]
      simp only [List.length_cons] at el
      refine add_ok ob2 g2 (by omega) fun h3 g3 fr3 => ?_
      refine ⟨⟨by trivial, fr2.trans fr3, r, _, g3, ec, by rw [List.length_append, List.length_cons, List.length_nil]; omega⟩, ?_⟩
      rw [hgt_of g3, hgt_of g', List.length_cons]
      exact Nat.lt_succ_self _
    · rw [firstM, if_neg c] at ec
      refine fin _ fr ?_
      rw [← ec]
      exact g'
theorem closeM_marker : ∀ (st : List El) (fd : List Tk), (∃ x r, (closeM t st fd).1 = .mark x :: r ∧ marker st = x) ∨ ((closeM t st fd).1 = [] ∧ marker st = "")
  | .col n :: st, fd => closeM_marker st _
  | .mark x :: st, fd => .inl ⟨x, st, rfl, rfl⟩
  | [], fd => .inr ⟨rfl, rfl⟩
theorem closeto_ok {m : Str} (ob : Ob cs o sp fp h) (g : G sp fp st fd h) (hl : st.length + fd.length < 90000) (hm : m ≠ "")
    (k1 : marker st = m → ∀ h', G sp fp (closeM t st fd).1.tail (closeM t st fd).2 h' → Fr sp fp h h' → P (.bl true) h') (k2 : marker st ≠ m → P (.bl false) h) :
    wpR (f_Contexts_close_to cs [.ref o, .str m, tkD t] h) P X := by
  unfold f_Contexts_close_to m_Contexts_close_to
  simp only [↓wp_seq, ↓wp_skip, ↓wp_drop, ↓wp_ret, ↓wp_retN, ↓wp_brk, ↓wp_cnt, ↓wp_if, ↓wp_asg, ↓wp_to, ↓wp_tos, ↓wp_toIx, ↓wp_aug, ↓wp_augK, ↓wp_fldSet, ↓wp_fldAug, ↓wp_var, ↓wp_c, ↓wp_op, ↓wp_un, ↓wp_nil, ↓wp_cons, ↓wp_tup, ↓wp_lst, ↓wp_dict0, ↓wp_dict, ↓wp_pairs0, ↓wp_pairs, ↓wp_call, ↓wp_callF, ↓wp_tru, ↓wp_bl, ↓wp_and, ↓wp_or, ↓wp_not, ↓wp_andV, ↓wp_orV, ↓wp_notV, ↓wp_part, ↓wp_noPart, ↓wp_sl, ↓wp_bm, ↓wp_ifE, ↓wp_fld, ↓wp_meth, ↓wp_make, ↓wp_lockE, ↓wp_rng1, ↓wp_rng2, ↓wp_seqI, ↓wpR_ok, ↓wpS_nx, ↓wpS_rt, List.getElem?_cons_zero, List.getElem?_cons_succ, List.set_cons_zero, List.set_cons_succ, List.length_cons, List.length_nil, ↓reduceIte, decide_eq_true_eq, ev_add, ev_iadd, ev_sub, ev_mod, ev_neg, ev_lt, ev_le, ev_gt, ev_ge, ev_eqI, ev_neI, ev_eqS, ev_neS, ev_isN, ev_int, ev_abs, ev_max, ev_min, ev_lenT, ev_lenC, ev_tupT, Int.reduceLT, Int.reduceLE, Int.reduceNeg, Int.reduceAdd, Int.reduceSub, Int.reduceEq, Nat.reduceAdd, Nat.reduceSub, and_self, ↓List.map_cons, ↓List.map_nil, ↓List.cons_append, ↓List.nil_append, List.replicate, ixT0, ixT1, ixT2, ixT3, ixTm1, ixTm2, ixTm3, onH_get, onH_set, onH_push, onH_len, mkB_get, mkB_set, mkB_push, mkB_len, mkB_next, Option.getD_some, Option.getD_none, sz0, sz1, sz2, sz3, sz4, sz5, sz6, sz7, sz8, sz9, ev_keyI, ev_keyS, ev_eqB, ev_neB, wp_one, wp_yes, wp_valsI, wp_keysI, wp_lcE, Bool.false_eq_true, Bool.not_eq_true', decide_eq_false_iff_not, Bool.not_true, Bool.not_false, ite_and2, ite_or2, ite_tand, not_true_eq_false, not_false_eq_true, ↓wp_runB, ob.i, nm_mar]
  refine marker_ok ob g ?_
  simp only [↓wp_seq, ↓wp_skip, ↓wp_drop, ↓wp_ret, ↓wp_retN, ↓wp_brk, ↓wp_cnt, ↓wp_if, ↓wp_asg, ↓wp_to, ↓wp_tos, ↓wp_toIx, ↓wp_aug, ↓wp_augK, ↓wp_fldSet, ↓wp_fldAug, ↓wp_var, ↓wp_c, ↓wp_op, ↓wp_un, ↓wp_nil, ↓wp_cons, ↓wp_tup, ↓wp_lst, ↓wp_dict0, ↓wp_dict, ↓wp_pairs0, ↓wp_pairs, ↓wp_call, ↓wp_callF, ↓wp_tru, ↓wp_bl, ↓wp_and, ↓wp_or, ↓wp_not, ↓wp_andV, ↓wp_orV, ↓wp_notV, ↓wp_part, ↓wp_noPart, ↓wp_sl, ↓wp_bm, ↓wp_ifE, ↓wp_fld, ↓wp_meth, ↓wp_make, ↓wp_lockE, ↓wp_rng1, ↓wp_rng2, ↓wp_seqI, ↓wpR_ok, ↓wpS_nx, ↓wpS_rt, List.getElem?_cons_zero, List.getElem?_cons_succ, List.set_cons_zero, List.set_cons_succ, List.length_cons, List.length_nil, ↓reduceIte, decide_eq_true_eq, ev_add, ev_iadd, ev_sub, ev_mod, ev_neg, ev_lt, ev_le, ev_gt, ev_ge, ev_eqI, ev_neI, ev_eqS, ev_neS, ev_isN, ev_int, ev_abs, ev_max, ev_min, ev_lenT, ev_lenC, ev_tupT, Int.reduceLT, Int.reduceLE, Int.reduceNeg, Int.reduceAdd, Int.reduceSub, Int.reduceEq, Nat.reduceAdd, Nat.reduceSub, and_self, ↓List.map_cons, ↓List.map_nil, ↓List.cons_append, ↓List.nil_append, List.replicate, ixT0, ixT1, ixT2, ixT3, ixTm1, ixTm2, ixTm3, onH_get, onH_set, onH_push, onH_len, mkB_get, mkB_set, mkB_push, mkB_len, mkB_next, Option.getD_some, Option.getD_none, sz0, sz1, sz2, sz3, sz4, sz5, sz6, sz7, sz8, sz9, ev_keyI, ev_keyS, ev_eqB, ev_neB, wp_one, wp_yes, wp_valsI, wp_keysI, wp_lcE, Bool.false_eq_true, Bool.not_eq_true', decide_eq_false_iff_not, Bool.not_true, Bool.not_false, ite_and2, ite_or2, ite_tand, not_true_eq_false, not_false_eq_true, ob.i, nm_clb]
  refine ite2 (fun c => k2 c) (fun c => ?_)
  have c : marker st = m := Decidable.of_not_not c
  refine closeb_ok ob g (by omega) fun h2 g2 f2 => ?_
  have ob2 := ob.fr f2
  simp only [↓wp_seq, ↓wp_skip, ↓wp_drop, ↓wp_ret, ↓wp_retN, ↓wp_brk, ↓wp_cnt, ↓wp_if, ↓wp_asg, ↓wp_to, ↓wp_tos, ↓wp_toIx, ↓wp_aug, ↓wp_augK, ↓wp_fldSet, ↓wp_fldAug, ↓wp_var, ↓wp_c, ↓wp_op, ↓wp_un, ↓wp_nil, ↓wp_cons, ↓wp_tup, ↓wp_lst, ↓wp_dict0, ↓wp_dict, ↓wp_pairs0, ↓wp_pairs, ↓wp_call, ↓wp_callF, ↓wp_tru, ↓wp_bl, ↓wp_and, ↓wp_or, ↓wp_not, ↓wp_andV, ↓wp_orV, ↓wp_notV, ↓wp_part, ↓wp_noPart, ↓wp_sl, ↓wp_bm, ↓wp_ifE, ↓wp_fld, ↓wp_meth, ↓wp_make, ↓wp_lockE, ↓wp_rng1, ↓wp_rng2, ↓wp_seqI, ↓wpR_ok, ↓wpS_nx, ↓wpS_rt, List.getElem?_cons_zero, List.getElem?_cons_succ, List.set_cons_zero, List.set_cons_succ, List.length_cons, List.length_nil, ↓reduceIte, decide_eq_true_eq, ev_add, ev_iadd, ev_sub, ev_mod, ev_neg, ev_lt, ev_le, ev_gt, ev_ge, ev_eqI, ev_neI, ev_eqS, ev_neS, ev_isN, ev_int, ev_abs, ev_max, ev_min, ev_lenT, ev_lenC, ev_tupT, Int.reduceLT, Int.reduceLE, Int.reduceNeg, Int.reduceAdd, Int.reduceSub, Int.reduceEq, Nat.reduceAdd, Nat.reduceSub, and_self, ↓List.map_cons, ↓List.map_nil, ↓List.cons_append, ↓List.nil_append, List.replicate, ixT0, ixT1, ixT2, ixT3, ixTm1, ixTm2, ixTm3, onH_get, onH_set, onH_push, onH_len, mkB_get, mkB_set, mkB_push, mkB_len, mkB_next, Option.getD_some, Option.getD_none, sz0, sz1, sz2, sz3, sz4, sz5, sz6, sz7, sz8, sz9, ev_keyI, ev_keyS, ev_eqB, ev_neB, wp_one, wp_yes, wp_valsI, wp_keysI, wp_lcE, Bool.false_eq_true, Bool.not_eq_true', decide_eq_false_iff_not, Bool.not_true, Bool.not_false, ite_and2, ite_or2, ite_tand, not_true_eq_false, not_false_eq_true, ob2.i, lkS]
  rw [if_pos (ev_tyL g2.s)]
  rcases closeM_marker (t := t) st fd with ⟨x, r, e1, e2⟩ | ⟨e1, e2⟩
  · have k1 := k1 c
    rw [e1] at g2 k1
    rw [popS g2, wpR_ok]
    exact k1 _ g2.setS (f2.trans Fr.setS)
  · exact absurd (c.symm.trans e2) hm
theorem cb_ne {x m : Str} (e : cb x = some m) : m ≠ "" := by
  unfold cb at e
  obtain ⟨p, e1, e2⟩ := Option.map_eq_some_iff.mp e
  have hp := List.mem_of_find?_eq_some e1
  subst e2
  simp only [cbL, List.mem_cons, List.not_mem_nil, or_false] at hp
  rcases hp with rfl | rfl | rfl | rfl | rfl | rfl | rfl <;> decide
theorem r1_ok {N : Sl → HS → Prop} {T : Tl} {p : List El × List Tk} (ob : Ob cs o sp fp h) (g : G sp fp p.1 p.2 h) (hl : p.1.length < 90000)
    (k : ∀ h', G sp fp (eff3 t p).1 (eff3 t p).2 h' → Fr sp fp h h' → N [some (.ref o), some (tkD t), some (.str t.x)] h') :
    wpS (m_Contexts_take_r1 cs [some (.ref o), some (tkD t), some (.str t.x)] h) N T := by
  unfold m_Contexts_take_r1
  unfold eff3 at k
  simp only [↓wp_seq, ↓wp_skip, ↓wp_drop, ↓wp_ret, ↓wp_retN, ↓wp_brk, ↓wp_cnt, ↓wp_if, ↓wp_asg, ↓wp_to, ↓wp_tos, ↓wp_toIx, ↓wp_aug, ↓wp_augK, ↓wp_fldSet, ↓wp_fldAug, ↓wp_var, ↓wp_c, ↓wp_op, ↓wp_un, ↓wp_nil, ↓wp_cons, ↓wp_tup, ↓wp_lst, ↓wp_dict0, ↓wp_dict, ↓wp_pairs0, ↓wp_pairs, ↓wp_call, ↓wp_callF, ↓wp_tru, ↓wp_bl, ↓wp_and, ↓wp_or, ↓wp_not, ↓wp_andV, ↓wp_orV, ↓wp_notV, ↓wp_part, ↓wp_noPart, ↓wp_sl, ↓wp_bm, ↓wp_ifE, ↓wp_fld, ↓wp_meth, ↓wp_make, ↓wp_lockE, ↓wp_rng1, ↓wp_rng2, ↓wp_seqI, ↓wpR_ok, ↓wpS_nx, ↓wpS_rt, List.getElem?_cons_zero, List.getElem?_cons_succ, List.set_cons_zero, List.set_cons_succ, List.length_cons, List.length_nil, ↓reduceIte, decide_eq_true_eq, ev_add, ev_iadd, ev_sub, ev_mod, ev_neg, ev_lt, ev_le, ev_gt, ev_ge, ev_eqI, ev_neI, ev_eqS, ev_neS, ev_isN, ev_int, ev_abs, ev_max, ev_min, ev_lenT, ev_lenC, ev_tupT, Int.reduceLT, Int.reduceLE, Int.reduceNeg, Int.reduceAdd, Int.reduceSub, Int.reduceEq, Nat.reduceAdd, Nat.reduceSub, and_self, ↓List.map_cons, ↓List.map_nil, ↓List.cons_append, ↓List.nil_append, List.replicate, ixT0, ixT1, ixT2, ixT3, ixTm1, ixTm2, ixTm3, onH_get, onH_set, onH_push, onH_len, mkB_get, mkB_set, mkB_push, mkB_len, mkB_next, Option.getD_some, Option.getD_none, sz0, sz1, sz2, sz3, sz4, sz5, sz6, sz7, sz8, sz9, ev_keyI, ev_keyS, ev_eqB, ev_neB, wp_one, wp_yes, wp_valsI, wp_keysI, wp_lcE, Bool.false_eq_true, Bool.not_eq_true', decide_eq_false_iff_not, Bool.not_true, Bool.not_false, ite_and2, ite_or2, ite_tand, not_true_eq_false, not_false_eq_true, inMks, ob.i, lkS]
  refine ite2 (fun c => ?_) (fun c => ?_)
  · rw [if_pos c] at k
    rw [if_pos (ev_tyL g.s), pushS (e := .mark t.x) (d := .str t.x) g rfl (by omega), wpR_ok]
    exact k _ g.setS Fr.setS
  · rw [if_neg c] at k
    exact k _ g Fr.refl
theorem r2_ok {N : Sl → HS → Prop} {T : Tl} {p : List El × List Tk} (ob : Ob cs o sp fp h) (g : G sp fp p.1 p.2 h) (hl : p.1.length + p.2.length < 80000)
    (k : ∀ h', G sp fp (eff3 t (eff2 t p)).1 (eff3 t (eff2 t p)).2 h' → Fr sp fp h h' → N [some (.ref o), some (tkD t), some (.str t.x)] h') :
    wpS (m_Contexts_take_r2 cs [some (.ref o), some (tkD t), some (.str t.x)] h) N T := by
  unfold m_Contexts_take_r2
  have hs := eff2_sz t p
  have fin : ∀ h', G sp fp (eff2 t p).1 (eff2 t p).2 h' → Fr sp fp h h' → wpS (m_Contexts_take_r1 cs [some (.ref o), some (tkD t), some (.str t.x)] h') N T := fun h' g' f' =>
    r1_ok (ob.fr f') g' (by unfold sz at hs; omega) fun h3 g3 f3 => k h3 g3 (f'.trans f3)
  have e1 : ∀ h, dKIn tab_CLOSED_BY (.str t.x) h = .ok (.bl (cb t.x).isSome) h := fun h => by
    show R.ok (D.bl (tabGet tab_CLOSED_BY t.x).isSome) h = _
    rw [tab_eq, Option.isSome_map]
  simp only [↓wp_seq, ↓wp_skip, ↓wp_drop, ↓wp_ret, ↓wp_retN, ↓wp_brk, ↓wp_cnt, ↓wp_if, ↓wp_asg, ↓wp_to, ↓wp_tos, ↓wp_toIx, ↓wp_aug, ↓wp_augK, ↓wp_fldSet, ↓wp_fldAug, ↓wp_var, ↓wp_c, ↓wp_op, ↓wp_un, ↓wp_nil, ↓wp_cons, ↓wp_tup, ↓wp_lst, ↓wp_dict0, ↓wp_dict, ↓wp_pairs0, ↓wp_pairs, ↓wp_call, ↓wp_callF, ↓wp_tru, ↓wp_bl, ↓wp_and, ↓wp_or, ↓wp_not, ↓wp_andV, ↓wp_orV, ↓wp_notV, ↓wp_part, ↓wp_noPart, ↓wp_sl, ↓wp_bm, ↓wp_ifE, ↓wp_fld, ↓wp_meth, ↓wp_make, ↓wp_lockE, ↓wp_rng1, ↓wp_rng2, ↓wp_seqI, ↓wpR_ok, ↓wpS_nx, ↓wpS_rt, List.getElem?_cons_zero, List.getElem?_cons_succ, List.set_cons_zero, List.set_cons_succ, List.length_cons, List.length_nil, ↓reduceIte, decide_eq_true_eq, ev_add, ev_iadd, ev_sub, ev_mod, ev_neg, ev_lt, ev_le, ev_gt, ev_ge, ev_eqI, ev_neI, ev_eqS, ev_neS, ev_isN, ev_int, ev_abs, ev_max, ev_min, ev_lenT, ev_lenC, ev_tupT, Int.reduceLT, Int.reduceLE, Int.reduceNeg, Int.reduceAdd, Int.reduceSub, Int.reduceEq, Nat.reduceAdd, Nat.reduceSub, and_self, ↓List.map_cons, ↓List.map_nil, ↓List.cons_append, ↓List.nil_append, List.replicate, ixT0, ixT1, ixT2, ixT3, ixTm1, ixTm2, ixTm3, onH_get, onH_set, onH_push, onH_len, mkB_get, mkB_set, mkB_push, mkB_len, mkB_next, Option.getD_some, Option.getD_none, sz0, sz1, sz2, sz3, sz4, sz5, sz6, sz7, sz8, sz9, ev_keyI, ev_keyS, ev_eqB, ev_neB, wp_one, wp_yes, wp_valsI, wp_keysI, wp_lcE, Bool.false_eq_true, Bool.not_eq_true', decide_eq_false_iff_not, Bool.not_true, Bool.not_false, ite_and2, ite_or2, ite_tand, not_true_eq_false, not_false_eq_true, e1]
  unfold eff2 at fin
  cases q : cb t.x with
  | none =>
    rw [q] at fin
    simp only [↓wp_seq, ↓wp_skip, ↓wp_drop, ↓wp_ret, ↓wp_retN, ↓wp_brk, ↓wp_cnt, ↓wp_if, ↓wp_asg, ↓wp_to, ↓wp_tos, ↓wp_toIx, ↓wp_aug, ↓wp_augK, ↓wp_fldSet, ↓wp_fldAug, ↓wp_var, ↓wp_c, ↓wp_op, ↓wp_un, ↓wp_nil, ↓wp_cons, ↓wp_tup, ↓wp_lst, ↓wp_dict0, ↓wp_dict, ↓wp_pairs0, ↓wp_pairs, ↓wp_call, ↓wp_callF, ↓wp_tru, ↓wp_bl, ↓wp_and, ↓wp_or, ↓wp_not, ↓wp_andV, ↓wp_orV, ↓wp_notV, ↓wp_part, ↓wp_noPart, ↓wp_sl, ↓wp_bm, ↓wp_ifE, ↓wp_fld, ↓wp_meth, ↓wp_make, ↓wp_lockE, ↓wp_rng1, ↓wp_rng2, ↓wp_seqI, ↓wpR_ok, ↓wpS_nx, ↓wpS_rt, List.getElem?_cons_zero, List.getElem?_cons_succ, List.set_cons_zero, List.set_cons_succ, List.length_cons, List.length_nil, ↓reduceIte, decide_eq_true_eq, ev_add, ev_iadd, ev_sub, ev_mod, ev_neg, ev_lt, ev_le, ev_gt, ev_ge, ev_eqI, ev_neI, ev_eqS, ev_neS, ev_isN, ev_int, ev_abs, ev_max, ev_min, ev_lenT, ev_lenC, ev_tupT, Int.reduceLT, Int.reduceLE, Int.reduceNeg, Int.reduceAdd, Int.reduceSub, Int.reduceEq, Nat.reduceAdd, Nat.reduceSub, and_self, ↓List.map_cons, ↓List.map_nil, ↓List.cons_append, ↓List.nil_append, List.replicate, ixT0, ixT1, ixT2, ixT3, ixTm1, ixTm2, ixTm3, onH_get, onH_set, onH_push, onH_len, mkB_get, mkB_set, mkB_push, mkB_len, mkB_next, Option.getD_some, Option.getD_none, sz0, sz1, sz2, sz3, sz4, sz5, sz6, sz7, sz8, sz9, ev_keyI, ev_keyS, ev_eqB, ev_neB, wp_one, wp_yes, wp_valsI, wp_keysI, wp_lcE, Bool.false_eq_true, Bool.not_eq_true', decide_eq_false_iff_not, Bool.not_true, Bool.not_false, ite_and2, ite_or2, ite_tand, not_true_eq_false, not_false_eq_true, Option.isSome]
    exact fin _ g Fr.refl
  | some m =>
    rw [q] at fin
    have e2 : ∀ h, dKGet tab_CLOSED_BY (.str t.x) h = .ok (.str m) h := fun h => by
      simp only [dKGet, tab_eq, q, Option.map]
    simp only [↓wp_seq, ↓wp_skip, ↓wp_drop, ↓wp_ret, ↓wp_retN, ↓wp_brk, ↓wp_cnt, ↓wp_if, ↓wp_asg, ↓wp_to, ↓wp_tos, ↓wp_toIx, ↓wp_aug, ↓wp_augK, ↓wp_fldSet, ↓wp_fldAug, ↓wp_var, ↓wp_c, ↓wp_op, ↓wp_un, ↓wp_nil, ↓wp_cons, ↓wp_tup, ↓wp_lst, ↓wp_dict0, ↓wp_dict, ↓wp_pairs0, ↓wp_pairs, ↓wp_call, ↓wp_callF, ↓wp_tru, ↓wp_bl, ↓wp_and, ↓wp_or, ↓wp_not, ↓wp_andV, ↓wp_orV, ↓wp_notV, ↓wp_part, ↓wp_noPart, ↓wp_sl, ↓wp_bm, ↓wp_ifE, ↓wp_fld, ↓wp_meth, ↓wp_make, ↓wp_lockE, ↓wp_rng1, ↓wp_rng2, ↓wp_seqI, ↓wpR_ok, ↓wpS_nx, ↓wpS_rt, List.getElem?_cons_zero, List.getElem?_cons_succ, List.set_cons_zero, List.set_cons_succ, List.length_cons, List.length_nil, ↓reduceIte, decide_eq_true_eq, ev_add, ev_iadd, ev_sub, ev_mod, ev_neg, ev_lt, ev_le, ev_gt, ev_ge, ev_eqI, ev_neI, ev_eqS, ev_neS, ev_isN, ev_int, ev_abs, ev_max, ev_min, ev_lenT, ev_lenC, ev_tupT, Int.reduceLT, Int.reduceLE, Int.reduceNeg, Int.reduceAdd, Int.reduceSub, Int.reduceEq, Nat.reduceAdd, Nat.reduceSub, and_self, ↓List.map_cons, ↓List.map_nil, ↓List.cons_append, ↓List.nil_append, List.replicate, ixT0, ixT1, ixT2, ixT3, ixTm1, ixTm2, ixTm3, onH_get, onH_set, onH_push, onH_len, mkB_get, mkB_set, mkB_push, mkB_len, mkB_next, Option.getD_some, Option.getD_none, sz0, sz1, sz2, sz3, sz4, sz5, sz6, sz7, sz8, sz9, ev_keyI, ev_keyS, ev_eqB, ev_neB, wp_one, wp_yes, wp_valsI, wp_keysI, wp_lcE, Bool.false_eq_true, Bool.not_eq_true', decide_eq_false_iff_not, Bool.not_true, Bool.not_false, ite_and2, ite_or2, ite_tand, not_true_eq_false, not_false_eq_true, Option.isSome, e2, ob.i, nm_clt]
    refine closeto_ok ob g (by omega) (cb_ne q) (fun c h2 g2 f2 => ?_) (fun c => ?_)
    · simp only [if_pos c] at fin
      have ob2 := ob.fr f2
      have hs2 := closeM_sz t p.1 p.2
      unfold sz at hs2
      simp only [↓wp_seq, ↓wp_skip, ↓wp_drop, ↓wp_ret, ↓wp_retN, ↓wp_brk, ↓wp_cnt, ↓wp_if, ↓wp_asg, ↓wp_to, ↓wp_tos, ↓wp_toIx, ↓wp_aug, ↓wp_augK, ↓wp_fldSet, ↓wp_fldAug, ↓wp_var, ↓wp_c, ↓wp_op, ↓wp_un, ↓wp_nil, ↓wp_cons, ↓wp_tup, ↓wp_lst, ↓wp_dict0, ↓wp_dict, ↓wp_pairs0, ↓wp_pairs, ↓wp_call, ↓wp_callF, ↓wp_tru, ↓wp_bl, ↓wp_and, ↓wp_or, ↓wp_not, ↓wp_andV, ↓wp_orV, ↓wp_notV, ↓wp_part, ↓wp_noPart, ↓wp_sl, ↓wp_bm, ↓wp_ifE, ↓wp_fld, ↓wp_meth, ↓wp_make, ↓wp_lockE, ↓wp_rng1, ↓wp_rng2, ↓wp_seqI, ↓wpR_ok, ↓wpS_nx, ↓wpS_rt, List.getElem?_cons_zero, List.getElem?_cons_succ, List.set_cons_zero, List.set_cons_succ, List.length_cons, List.length_nil, ↓reduceIte, decide_eq_true_eq, ev_add, ev_iadd, ev_sub, ev_mod, ev_neg, ev_lt, ev_le, ev_gt, ev_ge, ev_eqI, ev_neI, ev_eqS, ev_neS, ev_isN, ev_int, ev_abs, ev_max, ev_min, ev_lenT, ev_lenC, ev_tupT, Int.reduceLT, Int.reduceLE, Int.reduceNeg, Int.reduceAdd, Int.reduceSub, Int.reduceEq, Nat.reduceAdd, Nat.reduceSub, and_self, ↓List.map_cons, ↓List.map_nil, ↓List.cons_append, ↓List.nil_append, List.replicate, ixT0, ixT1, ixT2, ixT3, ixTm1, ixTm2, ixTm3, onH_get, onH_set, onH_push, onH_len, mkB_get, mkB_set, mkB_push, mkB_len, mkB_next, Option.getD_some, Option.getD_none, sz0, sz1, sz2, sz3, sz4, sz5, sz6, sz7, sz8, sz9, ev_keyI, ev_keyS, ev_eqB, ev_neB, wp_one, wp_yes, wp_valsI, wp_keysI, wp_lcE, Bool.false_eq_true, Bool.not_eq_true', decide_eq_false_iff_not, Bool.not_true, Bool.not_false, ite_and2, ite_or2, ite_tand, not_true_eq_false, not_false_eq_true, truB, ob2.i, lkS]
      refine ite2 (fun c2 => ?_) (fun c2 => ?_)
      · rw [if_pos c2] at fin
        rw [if_pos (ev_tyL g2.s), pushS (e := .mark "then") (d := .str "then") g2 rfl (by rw [List.length_tail]; omega), wpR_ok]
        exact fin _ g2.setS (f2.trans Fr.setS)
      · rw [if_neg c2] at fin
        exact fin _ g2 f2
    · simp only [if_neg c] at fin
      simp only [↓wp_seq, ↓wp_skip, ↓wp_drop, ↓wp_ret, ↓wp_retN, ↓wp_brk, ↓wp_cnt, ↓wp_if, ↓wp_asg, ↓wp_to, ↓wp_tos, ↓wp_toIx, ↓wp_aug, ↓wp_augK, ↓wp_fldSet, ↓wp_fldAug, ↓wp_var, ↓wp_c, ↓wp_op, ↓wp_un, ↓wp_nil, ↓wp_cons, ↓wp_tup, ↓wp_lst, ↓wp_dict0, ↓wp_dict, ↓wp_pairs0, ↓wp_pairs, ↓wp_call, ↓wp_callF, ↓wp_tru, ↓wp_bl, ↓wp_and, ↓wp_or, ↓wp_not, ↓wp_andV, ↓wp_orV, ↓wp_notV, ↓wp_part, ↓wp_noPart, ↓wp_sl, ↓wp_bm, ↓wp_ifE, ↓wp_fld, ↓wp_meth, ↓wp_make, ↓wp_lockE, ↓wp_rng1, ↓wp_rng2, ↓wp_seqI, ↓wpR_ok, ↓wpS_nx, ↓wpS_rt, List.getElem?_cons_zero, List.getElem?_cons_succ, List.set_cons_zero, List.set_cons_succ, List.length_cons, List.length_nil, ↓reduceIte, decide_eq_true_eq, ev_add, ev_iadd, ev_sub, ev_mod, ev_neg, ev_lt, ev_le, ev_gt, ev_ge, ev_eqI, ev_neI, ev_eqS, ev_neS, ev_isN, ev_int, ev_abs, ev_max, ev_min, ev_lenT, ev_lenC, ev_tupT, Int.reduceLT, Int.reduceLE, Int.reduceNeg, Int.reduceAdd, Int.reduceSub, Int.reduceEq, Nat.reduceAdd, Nat.reduceSub, and_self, ↓List.map_cons, ↓List.map_nil, ↓List.cons_append, ↓List.nil_append, List.replicate, ixT0, ixT1, ixT2, ixT3, ixTm1, ixTm2, ixTm3, onH_get, onH_set, onH_push, onH_len, mkB_get, mkB_set, mkB_push, mkB_len, mkB_next, Option.getD_some, Option.getD_none, sz0, sz1, sz2, sz3, sz4, sz5, sz6, sz7, sz8, sz9, ev_keyI, ev_keyS, ev_eqB, ev_neB, wp_one, wp_yes, wp_valsI, wp_keysI, wp_lcE, Bool.false_eq_true, Bool.not_eq_true', decide_eq_false_iff_not, Bool.not_true, Bool.not_false, ite_and2, ite_or2, ite_tand, not_true_eq_false, not_false_eq_true, truB]
      exact fin _ g Fr.refl
/-- a token whose kind lets it have an effect, or that has none -/
def Kd (t : Tk) : Prop := (t.k = "sign" ∨ t.k = "keyword") ∨ ∀ p, effM t p = p
theorem take_ok (ob : Ob cs o sp fp h) (g : G sp fp st fd h) (hl : st.length + fd.length < 70000) (hk : Kd t)
    (k : ∀ h', G sp fp (effM t (st, fd)).1 ((effM t (st, fd)).2 ++ [t]) h' → Fr sp fp h h' → P .non h') : wpR (f_Contexts_take cs [.ref o, tkD t] h) P X := by
  unfold f_Contexts_take m_Contexts_take
  have et : tkD t = .tup [.str t.k, .str t.x, .int t.r, .int t.c] := rfl
  have et0 : ∀ h, dIx (tkD t) (.int 0) h = .ok (.str t.k) h := fun h => by rw [et, ixT0]
  have et1 : ∀ h, dIx (tkD t) (.int 1) h = .ok (.str t.x) h := fun h => by rw [et, ixT1]
  have hs := effM_sz t (st, fd)
  unfold sz at hs
  have fin : ∀ h', G sp fp (effM t (st, fd)).1 (effM t (st, fd)).2 h' → Fr sp fp h h' → wpS (mDrop (mBM "list" dAppend (mFld [cs 0] "found" (mVar 0)) (mCons (mVar 1) (mNil))) [some (.ref o), some (tkD t), some (.str t.x)] h') (fun _ h => P .non h) (Tl.ret P X) := fun h' g' f' => by
    have ob' := ob.fr f'
    simp only [↓wp_seq, ↓wp_skip, ↓wp_drop, ↓wp_ret, ↓wp_retN, ↓wp_brk, ↓wp_cnt, ↓wp_if, ↓wp_asg, ↓wp_to, ↓wp_tos, ↓wp_toIx, ↓wp_aug, ↓wp_augK, ↓wp_fldSet, ↓wp_fldAug, ↓wp_var, ↓wp_c, ↓wp_op, ↓wp_un, ↓wp_nil, ↓wp_cons, ↓wp_tup, ↓wp_lst, ↓wp_dict0, ↓wp_dict, ↓wp_pairs0, ↓wp_pairs, ↓wp_call, ↓wp_callF, ↓wp_tru, ↓wp_bl, ↓wp_and, ↓wp_or, ↓wp_not, ↓wp_andV, ↓wp_orV, ↓wp_notV, ↓wp_part, ↓wp_noPart, ↓wp_sl, ↓wp_bm, ↓wp_ifE, ↓wp_fld, ↓wp_meth, ↓wp_make, ↓wp_lockE, ↓wp_rng1, ↓wp_rng2, ↓wp_seqI, ↓wpR_ok, ↓wpS_nx, ↓wpS_rt, List.getElem?_cons_zero, List.getElem?_cons_succ, List.set_cons_zero, List.set_cons_succ, List.length_cons, List.length_nil, ↓reduceIte, decide_eq_true_eq, ev_add, ev_iadd, ev_sub, ev_mod, ev_neg, ev_lt, ev_le, ev_gt, ev_ge, ev_eqI, ev_neI, ev_eqS, ev_neS, ev_isN, ev_int, ev_abs, ev_max, ev_min, ev_lenT, ev_lenC, ev_tupT, Int.reduceLT, Int.reduceLE, Int.reduceNeg, Int.reduceAdd, Int.reduceSub, Int.reduceEq, Nat.reduceAdd, Nat.reduceSub, and_self, ↓List.map_cons, ↓List.map_nil, ↓List.cons_append, ↓List.nil_append, List.replicate, ixT0, ixT1, ixT2, ixT3, ixTm1, ixTm2, ixTm3, onH_get, onH_set, onH_push, onH_len, mkB_get, mkB_set, mkB_push, mkB_len, mkB_next, Option.getD_some, Option.getD_none, sz0, sz1, sz2, sz3, sz4, sz5, sz6, sz7, sz8, sz9, ev_keyI, ev_keyS, ev_eqB, ev_neB, wp_one, wp_yes, wp_valsI, wp_keysI, wp_lcE, Bool.false_eq_true, Bool.not_eq_true', decide_eq_false_iff_not, Bool.not_true, Bool.not_false, ite_and2, ite_or2, ite_tand, not_true_eq_false, not_false_eq_true, ob'.i, lkF]
    rw [if_pos (ev_tyL g'.f), pushF (t := t) (d := tkD t) g' rfl (by simp only at hs; omega), wpR_ok]
    exact k _ g'.setF (f'.trans Fr.setF)
  rw [wp_runB, wp_seq]
  simp only [↓wp_skip, ↓wp_drop, ↓wp_ret, ↓wp_retN, ↓wp_brk, ↓wp_cnt, ↓wp_if, ↓wp_asg, ↓wp_to, ↓wp_tos, ↓wp_toIx, ↓wp_aug, ↓wp_augK, ↓wp_fldSet, ↓wp_fldAug, ↓wp_var, ↓wp_c, ↓wp_op, ↓wp_un, ↓wp_nil, ↓wp_cons, ↓wp_tup, ↓wp_lst, ↓wp_dict0, ↓wp_dict, ↓wp_pairs0, ↓wp_pairs, ↓wp_call, ↓wp_callF, ↓wp_tru, ↓wp_bl, ↓wp_and, ↓wp_or, ↓wp_not, ↓wp_andV, ↓wp_orV, ↓wp_notV, ↓wp_part, ↓wp_noPart, ↓wp_sl, ↓wp_bm, ↓wp_ifE, ↓wp_fld, ↓wp_meth, ↓wp_make, ↓wp_lockE, ↓wp_rng1, ↓wp_rng2, ↓wp_seqI, ↓wpR_ok, ↓wpS_nx, ↓wpS_rt, List.getElem?_cons_zero, List.getElem?_cons_succ, List.set_cons_zero, List.set_cons_succ, List.length_cons, List.length_nil, ↓reduceIte, decide_eq_true_eq, ev_add, ev_iadd, ev_sub, ev_mod, ev_neg, ev_lt, ev_le, ev_gt, ev_ge, ev_eqI, ev_neI, ev_eqS, ev_neS, ev_isN, ev_int, ev_abs, ev_max, ev_min, ev_lenT, ev_lenC, ev_tupT, Int.reduceLT, Int.reduceLE, Int.reduceNeg, Int.reduceAdd, Int.reduceSub, Int.reduceEq, Nat.reduceAdd, Nat.reduceSub, and_self, ↓List.map_cons, ↓List.map_nil, ↓List.cons_append, ↓List.nil_append, List.replicate, ixT0, ixT1, ixT2, ixT3, ixTm1, ixTm2, ixTm3, onH_get, onH_set, onH_push, onH_len, mkB_get, mkB_set, mkB_push, mkB_len, mkB_next, Option.getD_some, Option.getD_none, sz0, sz1, sz2, sz3, sz4, sz5, sz6, sz7, sz8, sz9, ev_keyI, ev_keyS, ev_eqB, ev_neB, wp_one, wp_yes, wp_valsI, wp_keysI, wp_lcE, Bool.false_eq_true, Bool.not_eq_true', decide_eq_false_iff_not, Bool.not_true, Bool.not_false, ite_and2, ite_or2, ite_tand, not_true_eq_false, not_false_eq_true, et1]
  rw [wp_seq]
  refine wpS_mono (N := fun σ h' => σ = [some (.ref o), some (tkD t), some (.str t.x)] ∧ G sp fp (effM t (st, fd)).1 (effM t (st, fd)).2 h' ∧ Fr sp fp h h') ?_ (by rintro _ h' ⟨rfl, g', f'⟩; exact fin h' g' f')
  simp only [↓wp_skip, ↓wp_drop, ↓wp_ret, ↓wp_retN, ↓wp_brk, ↓wp_cnt, ↓wp_if, ↓wp_asg, ↓wp_to, ↓wp_tos, ↓wp_toIx, ↓wp_aug, ↓wp_augK, ↓wp_fldSet, ↓wp_fldAug, ↓wp_var, ↓wp_c, ↓wp_op, ↓wp_un, ↓wp_nil, ↓wp_cons, ↓wp_tup, ↓wp_lst, ↓wp_dict0, ↓wp_dict, ↓wp_pairs0, ↓wp_pairs, ↓wp_call, ↓wp_callF, ↓wp_tru, ↓wp_bl, ↓wp_and, ↓wp_or, ↓wp_not, ↓wp_andV, ↓wp_orV, ↓wp_notV, ↓wp_part, ↓wp_noPart, ↓wp_sl, ↓wp_bm, ↓wp_ifE, ↓wp_fld, ↓wp_meth, ↓wp_make, ↓wp_lockE, ↓wp_rng1, ↓wp_rng2, ↓wp_seqI, ↓wpR_ok, ↓wpS_nx, ↓wpS_rt, List.getElem?_cons_zero, List.getElem?_cons_succ, List.set_cons_zero, List.set_cons_succ, List.length_cons, List.length_nil, ↓reduceIte, decide_eq_true_eq, ev_add, ev_iadd, ev_sub, ev_mod, ev_neg, ev_lt, ev_le, ev_gt, ev_ge, ev_eqI, ev_neI, ev_eqS, ev_neS, ev_isN, ev_int, ev_abs, ev_max, ev_min, ev_lenT, ev_lenC, ev_tupT, Int.reduceLT, Int.reduceLE, Int.reduceNeg, Int.reduceAdd, Int.reduceSub, Int.reduceEq, Nat.reduceAdd, Nat.reduceSub, and_self, ↓List.map_cons, ↓List.map_nil, ↓List.cons_append, ↓List.nil_append, List.replicate, ixT0, ixT1, ixT2, ixT3, ixTm1, ixTm2, ixTm3, onH_get, onH_set, onH_push, onH_len, mkB_get, mkB_set, mkB_push, mkB_len, mkB_next, Option.getD_some, Option.getD_none, sz0, sz1, sz2, sz3, sz4, sz5, sz6, sz7, sz8, sz9, ev_keyI, ev_keyS, ev_eqB, ev_neB, wp_one, wp_yes, wp_valsI, wp_keysI, wp_lcE, Bool.false_eq_true, Bool.not_eq_true', decide_eq_false_iff_not, Bool.not_true, Bool.not_false, ite_and2, ite_or2, ite_tand, not_true_eq_false, not_false_eq_true, et0, in2]
  refine ite2 (fun c => ?_) (fun c => ?_)
  · have mid : ∀ h', G sp fp (eff1 t (st, fd)).1 (eff1 t (st, fd)).2 h' → Fr sp fp h h' → wpS (m_Contexts_take_r2 cs [some (.ref o), some (tkD t), some (.str t.x)] h') (fun σ h' => σ = [some (.ref o), some (tkD t), some (.str t.x)] ∧ G sp fp (effM t (st, fd)).1 (effM t (st, fd)).2 h' ∧ Fr sp fp h h') (Tl.ret P X) := fun h' g' f' => by
      have hs2 := eff1_sz t (st, fd)
      unfold sz at hs2
      exact r2_ok (ob.fr f') g' (by simp only at hs2; omega) fun h3 g3 f3 => ⟨rfl, g3, f'.trans f3⟩
    unfold eff1 at mid
    simp only [↓wp_seq, ↓wp_skip, ↓wp_drop, ↓wp_ret, ↓wp_retN, ↓wp_brk, ↓wp_cnt, ↓wp_if, ↓wp_asg, ↓wp_to, ↓wp_tos, ↓wp_toIx, ↓wp_aug, ↓wp_augK, ↓wp_fldSet, ↓wp_fldAug, ↓wp_var, ↓wp_c, ↓wp_op, ↓wp_un, ↓wp_nil, ↓wp_cons, ↓wp_tup, ↓wp_lst, ↓wp_dict0, ↓wp_dict, ↓wp_pairs0, ↓wp_pairs, ↓wp_call, ↓wp_callF, ↓wp_tru, ↓wp_bl, ↓wp_and, ↓wp_or, ↓wp_not, ↓wp_andV, ↓wp_orV, ↓wp_notV, ↓wp_part, ↓wp_noPart, ↓wp_sl, ↓wp_bm, ↓wp_ifE, ↓wp_fld, ↓wp_meth, ↓wp_make, ↓wp_lockE, ↓wp_rng1, ↓wp_rng2, ↓wp_seqI, ↓wpR_ok, ↓wpS_nx, ↓wpS_rt, List.getElem?_cons_zero, List.getElem?_cons_succ, List.set_cons_zero, List.set_cons_succ, List.length_cons, List.length_nil, ↓reduceIte, decide_eq_true_eq, ev_add, ev_iadd, ev_sub, ev_mod, ev_neg, ev_lt, ev_le, ev_gt, ev_ge, ev_eqI, ev_neI, ev_eqS, ev_neS, ev_isN, ev_int, ev_abs, ev_max, ev_min, ev_lenT, ev_lenC, ev_tupT, Int.reduceLT, Int.reduceLE, Int.reduceNeg, Int.reduceAdd, Int.reduceSub, Int.reduceEq, Nat.reduceAdd, Nat.reduceSub, and_self, ↓List.map_cons, ↓List.map_nil, ↓List.cons_append, ↓List.nil_append, List.replicate, ixT0, ixT1, ixT2, ixT3, ixTm1, ixTm2, ixTm3, onH_get, onH_set, onH_push, onH_len, mkB_get, mkB_set, mkB_push, mkB_len, mkB_next, Option.getD_some, Option.getD_none, sz0, sz1, sz2, sz3, sz4, sz5, sz6, sz7, sz8, sz9, ev_keyI, ev_keyS, ev_eqB, ev_neB, wp_one, wp_yes, wp_valsI, wp_keysI, wp_lcE, Bool.false_eq_true, Bool.not_eq_true', decide_eq_false_iff_not, Bool.not_true, Bool.not_false, ite_and2, ite_or2, ite_tand, not_true_eq_false, not_false_eq_true, ob.i, nm_mar, nm_clb]
    refine ite2 (fun c1 => ?_) (fun c1 => ?_)
    · refine marker_ok ob g ?_
      simp only [↓wp_seq, ↓wp_skip, ↓wp_drop, ↓wp_ret, ↓wp_retN, ↓wp_brk, ↓wp_cnt, ↓wp_if, ↓wp_asg, ↓wp_to, ↓wp_tos, ↓wp_toIx, ↓wp_aug, ↓wp_augK, ↓wp_fldSet, ↓wp_fldAug, ↓wp_var, ↓wp_c, ↓wp_op, ↓wp_un, ↓wp_nil, ↓wp_cons, ↓wp_tup, ↓wp_lst, ↓wp_dict0, ↓wp_dict, ↓wp_pairs0, ↓wp_pairs, ↓wp_call, ↓wp_callF, ↓wp_tru, ↓wp_bl, ↓wp_and, ↓wp_or, ↓wp_not, ↓wp_andV, ↓wp_orV, ↓wp_notV, ↓wp_part, ↓wp_noPart, ↓wp_sl, ↓wp_bm, ↓wp_ifE, ↓wp_fld, ↓wp_meth, ↓wp_make, ↓wp_lockE, ↓wp_rng1, ↓wp_rng2, ↓wp_seqI, ↓wpR_ok, ↓wpS_nx, ↓wpS_rt, List.getElem?_cons_zero, List.getElem?_cons_succ, List.set_cons_zero, List.set_cons_succ, List.length_cons, List.length_nil, ↓reduceIte, decide_eq_true_eq, ev_add, ev_iadd, ev_sub, ev_mod, ev_neg, ev_lt, ev_le, ev_gt, ev_ge, ev_eqI, ev_neI, ev_eqS, ev_neS, ev_isN, ev_int, ev_abs, ev_max, ev_min, ev_lenT, ev_lenC, ev_tupT, Int.reduceLT, Int.reduceLE, Int.reduceNeg, Int.reduceAdd, Int.reduceSub, Int.reduceEq, Nat.reduceAdd, Nat.reduceSub, and_self, ↓List.map_cons, ↓List.map_nil, ↓List.cons_append, ↓List.nil_append, List.replicate, ixT0, ixT1, ixT2, ixT3, ixTm1, ixTm2, ixTm3, onH_get, onH_set, onH_push, onH_len, mkB_get, mkB_set, mkB_push, mkB_len, mkB_next, Option.getD_some, Option.getD_none, sz0, sz1, sz2, sz3, sz4, sz5, sz6, sz7, sz8, sz9, ev_keyI, ev_keyS, ev_eqB, ev_neB, wp_one, wp_yes, wp_valsI, wp_keysI, wp_lcE, Bool.false_eq_true, Bool.not_eq_true', decide_eq_false_iff_not, Bool.not_true, Bool.not_false, ite_and2, ite_or2, ite_tand, not_true_eq_false, not_false_eq_true, in2, ob.i, nm_clb]
      refine ite2 (fun c2 => ?_) (fun c2 => ?_)
      · rw [if_pos ⟨c1, c2⟩] at mid
        exact closeb_ok ob g (by omega) fun h2 g2 f2 => mid h2 g2 f2
      · rw [if_neg fun z => c2 z.2] at mid
        exact mid h g Fr.refl
    · rw [if_neg fun z => c1 z.1] at mid
      exact mid h g Fr.refl
  · rcases hk with q | q
    · exact absurd (q.imp Eq.symm Eq.symm) c
    · rw [q]
      exact ⟨by trivial, g, Fr.refl⟩
/-! ### the whole row -/
structure Good (toks : List Tk) : Prop where
  kd : ∀ t ∈ toks, Kd t
  few : toks.length ≤ 200
theorem end_loop {s2 s3 s5 d0 : Option D} {N : Sl → HS → Prop} {T : Tl} (ob : Ob cs o sp fp h) (g : G sp fp st fd h) (hl : st.length + fd.length < 70000)
    (k : ∀ h', G sp fp [] (endM t st fd) h' → Fr sp fp h h' → N [d0, some (.ref o), s2, s3, some (tkD t), s5] h') :
    wpS (mWhile (mBl (mOp dGt (mCall (dLen) (mCons (mFld [cs 0] "stack" (mVar 1)) (mNil))) (mC (.int 0)))) (m_layout_b1 cs) [d0, some (.ref o), s2, s3, some (tkD t), s5] h) N T := by
  refine wp_while (fun σ h' => σ = [d0, some (.ref o), s2, s3, some (tkD t), s5] ∧ Fr sp fp h h' ∧ ∃ st' fd', G sp fp st' fd' h' ∧ endM t st' fd' = endM t st fd ∧ st'.length + fd'.length ≤ st.length + fd.length) (fun _ h' => hgt sp h') ⟨by trivial, Fr.refl, st, fd, g, rfl, Nat.le_refl _⟩ ?_
  rintro σ h' ⟨rfl, fr, st', fd', g', ec, el⟩
  have ob' := ob.fr fr
  simp only [↓wp_seq, ↓wp_skip, ↓wp_drop, ↓wp_ret, ↓wp_retN, ↓wp_brk, ↓wp_cnt, ↓wp_if, ↓wp_asg, ↓wp_to, ↓wp_tos, ↓wp_toIx, ↓wp_aug, ↓wp_augK, ↓wp_fldSet, ↓wp_fldAug, ↓wp_var, ↓wp_c, ↓wp_op, ↓wp_un, ↓wp_nil, ↓wp_cons, ↓wp_tup, ↓wp_lst, ↓wp_dict0, ↓wp_dict, ↓wp_pairs0, ↓wp_pairs, ↓wp_call, ↓wp_callF, ↓wp_tru, ↓wp_bl, ↓wp_and, ↓wp_or, ↓wp_not, ↓wp_andV, ↓wp_orV, ↓wp_notV, ↓wp_part, ↓wp_noPart, ↓wp_sl, ↓wp_bm, ↓wp_ifE, ↓wp_fld, ↓wp_meth, ↓wp_make, ↓wp_lockE, ↓wp_rng1, ↓wp_rng2, ↓wp_seqI, ↓wpR_ok, ↓wpS_nx, ↓wpS_rt, List.getElem?_cons_zero, List.getElem?_cons_succ, List.set_cons_zero, List.set_cons_succ, List.length_cons, List.length_nil, ↓reduceIte, decide_eq_true_eq, ev_add, ev_iadd, ev_sub, ev_mod, ev_neg, ev_lt, ev_le, ev_gt, ev_ge, ev_eqI, ev_neI, ev_eqS, ev_neS, ev_isN, ev_int, ev_abs, ev_max, ev_min, ev_lenT, ev_lenC, ev_tupT, Int.reduceLT, Int.reduceLE, Int.reduceNeg, Int.reduceAdd, Int.reduceSub, Int.reduceEq, Nat.reduceAdd, Nat.reduceSub, and_self, ↓List.map_cons, ↓List.map_nil, ↓List.cons_append, ↓List.nil_append, List.replicate, ixT0, ixT1, ixT2, ixT3, ixTm1, ixTm2, ixTm3, onH_get, onH_set, onH_push, onH_len, mkB_get, mkB_set, mkB_push, mkB_len, mkB_next, Option.getD_some, Option.getD_none, sz0, sz1, sz2, sz3, sz4, sz5, sz6, sz7, sz8, sz9, ev_keyI, ev_keyS, ev_eqB, ev_neB, wp_one, wp_yes, wp_valsI, wp_keysI, wp_lcE, Bool.false_eq_true, Bool.not_eq_true', decide_eq_false_iff_not, Bool.not_true, Bool.not_false, ite_and2, ite_or2, ite_tand, not_true_eq_false, not_false_eq_true, ob'.i, lkS, ev_lenL g'.s, stD_len]
  cases st' with
  | nil =>
    rw [if_neg (by decide)]
    rw [endM] at ec
    refine k _ ?_ fr
    rw [← ec]
    exact g'
  | cons e r =>
    rw [if_pos (by simp)]
    unfold m_layout_b1
    simp only [List.length_cons] at el
    simp only [↓wp_seq, ↓wp_skip, ↓wp_drop, ↓wp_ret, ↓wp_retN, ↓wp_brk, ↓wp_cnt, ↓wp_if, ↓wp_asg, ↓wp_to, ↓wp_tos, ↓wp_toIx, ↓wp_aug, ↓wp_augK, ↓wp_fldSet, ↓wp_fldAug, ↓wp_var, ↓wp_c, ↓wp_op, ↓wp_un, ↓wp_nil, ↓wp_cons, ↓wp_tup, ↓wp_lst, ↓wp_dict0, ↓wp_dict, ↓wp_pairs0, ↓wp_pairs, ↓wp_call, ↓wp_callF, ↓wp_tru, ↓wp_bl, ↓wp_and, ↓wp_or, ↓wp_not, ↓wp_andV, ↓wp_orV, ↓wp_notV, ↓wp_part, ↓wp_noPart, ↓wp_sl, ↓wp_bm, ↓wp_ifE, ↓wp_fld, ↓wp_meth, ↓wp_make, ↓wp_lockE, ↓wp_rng1, ↓wp_rng2, ↓wp_seqI, ↓wpR_ok, ↓wpS_nx, ↓wpS_rt, List.getElem?_cons_zero, List.getElem?_cons_succ, List.set_cons_zero, List.set_cons_succ, List.length_cons, List.length_nil, ↓reduceIte, decide_eq_true_eq, ev_add, ev_iadd, ev_sub, ev_mod, ev_neg, ev_lt, ev_le, ev_gt, ev_ge, ev_eqI, ev_neI, ev_eqS, ev_neS, ev_isN, ev_int, ev_abs, ev_max, ev_min, ev_lenT, ev_lenC, ev_tupT, Int.reduceLT, Int.reduceLE, Int.reduceNeg, Int.reduceAdd, Int.reduceSub, Int.reduceEq, Nat.reduceAdd, Nat.reduceSub, and_self, ↓List.map_cons, ↓List.map_nil, ↓List.cons_append, ↓List.nil_append, List.replicate, ixT0, ixT1, ixT2, ixT3, ixTm1, ixTm2, ixTm3, onH_get, onH_set, onH_push, onH_len, mkB_get, mkB_set, mkB_push, mkB_len, mkB_next, Option.getD_some, Option.getD_none, sz0, sz1, sz2, sz3, sz4, sz5, sz6, sz7, sz8, sz9, ev_keyI, ev_keyS, ev_eqB, ev_neB, wp_one, wp_yes, wp_valsI, wp_keysI, wp_lcE, Bool.false_eq_true, Bool.not_eq_true', decide_eq_false_iff_not, Bool.not_true, Bool.not_false, ite_and2, ite_or2, ite_tand, not_true_eq_false, not_false_eq_true, ob'.i, nm_onb]
    refine onb_ok ob' g' ?_
    cases e with
    | col n =>
      rw [endM] at ec
      simp only [↓wp_seq, ↓wp_skip, ↓wp_drop, ↓wp_ret, ↓wp_retN, ↓wp_brk, ↓wp_cnt, ↓wp_if, ↓wp_asg, ↓wp_to, ↓wp_tos, ↓wp_toIx, ↓wp_aug, ↓wp_augK, ↓wp_fldSet, ↓wp_fldAug, ↓wp_var, ↓wp_c, ↓wp_op, ↓wp_un, ↓wp_nil, ↓wp_cons, ↓wp_tup, ↓wp_lst, ↓wp_dict0, ↓wp_dict, ↓wp_pairs0, ↓wp_pairs, ↓wp_call, ↓wp_callF, ↓wp_tru, ↓wp_bl, ↓wp_and, ↓wp_or, ↓wp_not, ↓wp_andV, ↓wp_orV, ↓wp_notV, ↓wp_part, ↓wp_noPart, ↓wp_sl, ↓wp_bm, ↓wp_ifE, ↓wp_fld, ↓wp_meth, ↓wp_make, ↓wp_lockE, ↓wp_rng1, ↓wp_rng2, ↓wp_seqI, ↓wpR_ok, ↓wpS_nx, ↓wpS_rt, List.getElem?_cons_zero, List.getElem?_cons_succ, List.set_cons_zero, List.set_cons_succ, List.length_cons, List.length_nil, ↓reduceIte, decide_eq_true_eq, ev_add, ev_iadd, ev_sub, ev_mod, ev_neg, ev_lt, ev_le, ev_gt, ev_ge, ev_eqI, ev_neI, ev_eqS, ev_neS, ev_isN, ev_int, ev_abs, ev_max, ev_min, ev_lenT, ev_lenC, ev_tupT, Int.reduceLT, Int.reduceLE, Int.reduceNeg, Int.reduceAdd, Int.reduceSub, Int.reduceEq, Nat.reduceAdd, Nat.reduceSub, and_self, ↓List.map_cons, ↓List.map_nil, ↓List.cons_append, ↓List.nil_append, List.replicate, ixT0, ixT1, ixT2, ixT3, ixTm1, ixTm2, ixTm3, onH_get, onH_set, onH_push, onH_len, mkB_get, mkB_set, mkB_push, mkB_len, mkB_next, Option.getD_some, Option.getD_none, sz0, sz1, sz2, sz3, sz4, sz5, sz6, sz7, sz8, sz9, ev_keyI, ev_keyS, ev_eqB, ev_neB, wp_one, wp_yes, wp_valsI, wp_keysI, wp_lcE, Bool.false_eq_true, Bool.not_eq_true', decide_eq_false_iff_not, Bool.not_true, Bool.not_false, ite_and2, ite_or2, ite_tand, not_true_eq_false, not_false_eq_true, truB, topCol, ob'.i, nm_add]
      refine add_ok ob' g' (by omega) fun h3 g3 f3 => ?_
      have ob3 := ob'.fr f3
      simp only [↓wp_seq, ↓wp_skip, ↓wp_drop, ↓wp_ret, ↓wp_retN, ↓wp_brk, ↓wp_cnt, ↓wp_if, ↓wp_asg, ↓wp_to, ↓wp_tos, ↓wp_toIx, ↓wp_aug, ↓wp_augK, ↓wp_fldSet, ↓wp_fldAug, ↓wp_var, ↓wp_c, ↓wp_op, ↓wp_un, ↓wp_nil, ↓wp_cons, ↓wp_tup, ↓wp_lst, ↓wp_dict0, ↓wp_dict, ↓wp_pairs0, ↓wp_pairs, ↓wp_call, ↓wp_callF, ↓wp_tru, ↓wp_bl, ↓wp_and, ↓wp_or, ↓wp_not, ↓wp_andV, ↓wp_orV, ↓wp_notV, ↓wp_part, ↓wp_noPart, ↓wp_sl, ↓wp_bm, ↓wp_ifE, ↓wp_fld, ↓wp_meth, ↓wp_make, ↓wp_lockE, ↓wp_rng1, ↓wp_rng2, ↓wp_seqI, ↓wpR_ok, ↓wpS_nx, ↓wpS_rt, List.getElem?_cons_zero, List.getElem?_cons_succ, List.set_cons_zero, List.set_cons_succ, List.length_cons, List.length_nil, ↓reduceIte, decide_eq_true_eq, ev_add, ev_iadd, ev_sub, ev_mod, ev_neg, ev_lt, ev_le, ev_gt, ev_ge, ev_eqI, ev_neI, ev_eqS, ev_neS, ev_isN, ev_int, ev_abs, ev_max, ev_min, ev_lenT, ev_lenC, ev_tupT, Int.reduceLT, Int.reduceLE, Int.reduceNeg, Int.reduceAdd, Int.reduceSub, Int.reduceEq, Nat.reduceAdd, Nat.reduceSub, and_self, ↓List.map_cons, ↓List.map_nil, ↓List.cons_append, ↓List.nil_append, List.replicate, ixT0, ixT1, ixT2, ixT3, ixTm1, ixTm2, ixTm3, onH_get, onH_set, onH_push, onH_len, mkB_get, mkB_set, mkB_push, mkB_len, mkB_next, Option.getD_some, Option.getD_none, sz0, sz1, sz2, sz3, sz4, sz5, sz6, sz7, sz8, sz9, ev_keyI, ev_keyS, ev_eqB, ev_neB, wp_one, wp_yes, wp_valsI, wp_keysI, wp_lcE, Bool.false_eq_true, Bool.not_eq_true', decide_eq_false_iff_not, Bool.not_true, Bool.not_false, ite_and2, ite_or2, ite_tand, not_true_eq_false, not_false_eq_true, ob3.i, lkS]
      rw [if_pos (ev_tyL g3.s), popS g3, wpR_ok]
      have g4 : G sp fp r (fd' ++ [sg "}" t]) (h3.set sp (.lst (stD r))) := g3.setS
      refine ⟨⟨by trivial, (fr.trans f3).trans Fr.setS, r, _, g4, ec, by rw [List.length_append, List.length_cons, List.length_nil]; omega⟩, ?_⟩
      rw [hgt_of g4, hgt_of g', List.length_cons]
      exact Nat.lt_succ_self _
    | mark x =>
      rw [endM] at ec
      simp only [↓wp_seq, ↓wp_skip, ↓wp_drop, ↓wp_ret, ↓wp_retN, ↓wp_brk, ↓wp_cnt, ↓wp_if, ↓wp_asg, ↓wp_to, ↓wp_tos, ↓wp_toIx, ↓wp_aug, ↓wp_augK, ↓wp_fldSet, ↓wp_fldAug, ↓wp_var, ↓wp_c, ↓wp_op, ↓wp_un, ↓wp_nil, ↓wp_cons, ↓wp_tup, ↓wp_lst, ↓wp_dict0, ↓wp_dict, ↓wp_pairs0, ↓wp_pairs, ↓wp_call, ↓wp_callF, ↓wp_tru, ↓wp_bl, ↓wp_and, ↓wp_or, ↓wp_not, ↓wp_andV, ↓wp_orV, ↓wp_notV, ↓wp_part, ↓wp_noPart, ↓wp_sl, ↓wp_bm, ↓wp_ifE, ↓wp_fld, ↓wp_meth, ↓wp_make, ↓wp_lockE, ↓wp_rng1, ↓wp_rng2, ↓wp_seqI, ↓wpR_ok, ↓wpS_nx, ↓wpS_rt, List.getElem?_cons_zero, List.getElem?_cons_succ, List.set_cons_zero, List.set_cons_succ, List.length_cons, List.length_nil, ↓reduceIte, decide_eq_true_eq, ev_add, ev_iadd, ev_sub, ev_mod, ev_neg, ev_lt, ev_le, ev_gt, ev_ge, ev_eqI, ev_neI, ev_eqS, ev_neS, ev_isN, ev_int, ev_abs, ev_max, ev_min, ev_lenT, ev_lenC, ev_tupT, Int.reduceLT, Int.reduceLE, Int.reduceNeg, Int.reduceAdd, Int.reduceSub, Int.reduceEq, Nat.reduceAdd, Nat.reduceSub, and_self, ↓List.map_cons, ↓List.map_nil, ↓List.cons_append, ↓List.nil_append, List.replicate, ixT0, ixT1, ixT2, ixT3, ixTm1, ixTm2, ixTm3, onH_get, onH_set, onH_push, onH_len, mkB_get, mkB_set, mkB_push, mkB_len, mkB_next, Option.getD_some, Option.getD_none, sz0, sz1, sz2, sz3, sz4, sz5, sz6, sz7, sz8, sz9, ev_keyI, ev_keyS, ev_eqB, ev_neB, wp_one, wp_yes, wp_valsI, wp_keysI, wp_lcE, Bool.false_eq_true, Bool.not_eq_true', decide_eq_false_iff_not, Bool.not_true, Bool.not_false, ite_and2, ite_or2, ite_tand, not_true_eq_false, not_false_eq_true, truB, topCol, ob'.i, lkS]
      rw [if_pos (ev_tyL g'.s), popS g', wpR_ok]
      have g4 : G sp fp r fd' (h'.set sp (.lst (stD r))) := g'.setS
      refine ⟨⟨by trivial, fr.trans Fr.setS, r, _, g4, ec, by omega⟩, ?_⟩
      rw [hgt_of g4, hgt_of g', List.length_cons]
      exact Nat.lt_succ_self _
theorem lb4_ok {rp : D} {a5 : Option D} {ex : Bool} {lr : Int} {N : Sl → HS → Prop} {T : Tl} (ob : Ob cs o sp fp h) (g : G sp fp st fd h) (hl : st.length + fd.length < 60000) (hk : Kd t)
    (k : ∀ (h' : HS) (st' : List El) (fd' : List Tk) (a5 : Option D), (∀ r, layM ex lr st fd (t :: r) = layM (isEx t) t.r st' fd' r) → st'.length + fd'.length ≤ st.length + fd.length + 6 → G sp fp st' fd' h' → Fr sp fp h h' →
      N [some rp, some (.ref o), some (.bl (isEx t)), some (.int t.r), some (tkD t), a5] h') :
    wpS (m_layout_b4 cs [some rp, some (.ref o), some (.bl ex), some (.int lr), some (tkD t), a5] h) N T := by
  unfold m_layout_b4
  have et : tkD t = .tup [.str t.k, .str t.x, .int t.r, .int t.c] := rfl
  have et0 : ∀ h, dIx (tkD t) (.int 0) h = .ok (.str t.k) h := fun h => by rw [et, ixT0]
  have et1 : ∀ h, dIx (tkD t) (.int 1) h = .ok (.str t.x) h := fun h => by rw [et, ixT1]
  have et2 : ∀ h, dIx (tkD t) (.int 2) h = .ok (.int t.r) h := fun h => by rw [et, ixT2]
  have fin : ∀ (h' : HS) (st' : List El) (fd' : List Tk) (a5 : Option D), (∀ r, layM ex lr st fd (t :: r) = layM (isEx t) t.r st' fd' r) → st'.length + fd'.length ≤ st.length + fd.length + 6 → G sp fp st' fd' h' → Fr sp fp h h' →
      wpS (m_layout_r3 cs [some rp, some (.ref o), some (.bl ex), some (.int lr), some (tkD t), a5] h') N T := fun h' st' fd' a5 e1 e2 g' f' => by
    have q := k h' st' fd' a5 e1 e2 g' f'
    unfold m_layout_r3
    simp only [↓wp_seq, ↓wp_skip, ↓wp_drop, ↓wp_ret, ↓wp_retN, ↓wp_brk, ↓wp_cnt, ↓wp_if, ↓wp_asg, ↓wp_to, ↓wp_tos, ↓wp_toIx, ↓wp_aug, ↓wp_augK, ↓wp_fldSet, ↓wp_fldAug, ↓wp_var, ↓wp_c, ↓wp_op, ↓wp_un, ↓wp_nil, ↓wp_cons, ↓wp_tup, ↓wp_lst, ↓wp_dict0, ↓wp_dict, ↓wp_pairs0, ↓wp_pairs, ↓wp_call, ↓wp_callF, ↓wp_tru, ↓wp_bl, ↓wp_and, ↓wp_or, ↓wp_not, ↓wp_andV, ↓wp_orV, ↓wp_notV, ↓wp_part, ↓wp_noPart, ↓wp_sl, ↓wp_bm, ↓wp_ifE, ↓wp_fld, ↓wp_meth, ↓wp_make, ↓wp_lockE, ↓wp_rng1, ↓wp_rng2, ↓wp_seqI, ↓wpR_ok, ↓wpS_nx, ↓wpS_rt, List.getElem?_cons_zero, List.getElem?_cons_succ, List.set_cons_zero, List.set_cons_succ, List.length_cons, List.length_nil, ↓reduceIte, decide_eq_true_eq, ev_add, ev_iadd, ev_sub, ev_mod, ev_neg, ev_lt, ev_le, ev_gt, ev_ge, ev_eqI, ev_neI, ev_eqS, ev_neS, ev_isN, ev_int, ev_abs, ev_max, ev_min, ev_lenT, ev_lenC, ev_tupT, Int.reduceLT, Int.reduceLE, Int.reduceNeg, Int.reduceAdd, Int.reduceSub, Int.reduceEq, Nat.reduceAdd, Nat.reduceSub, and_self, ↓List.map_cons, ↓List.map_nil, ↓List.cons_append, ↓List.nil_append, List.replicate, ixT0, ixT1, ixT2, ixT3, ixTm1, ixTm2, ixTm3, onH_get, onH_set, onH_push, onH_len, mkB_get, mkB_set, mkB_push, mkB_len, mkB_next, Option.getD_some, Option.getD_none, sz0, sz1, sz2, sz3, sz4, sz5, sz6, sz7, sz8, sz9, ev_keyI, ev_keyS, ev_eqB, ev_neB, wp_one, wp_yes, wp_valsI, wp_keysI, wp_lcE, Bool.false_eq_true, Bool.not_eq_true', decide_eq_false_iff_not, Bool.not_true, Bool.not_false, ite_and2, ite_or2, ite_tand, not_true_eq_false, not_false_eq_true, et0, et1, et2, inOps]
    unfold isEx at q
    by_cases c : t.k = "keyword"
    · rw [if_pos c]
      rw [decide_eq_true c, Bool.true_and] at q
      exact q
    · rw [if_neg c]
      rw [decide_eq_false c, Bool.false_and] at q
      exact q
  have hs := openM_sz ex t st fd
  have mid : ∀ h', G sp fp (openM ex t st fd).2.1 (openM ex t st fd).2.2 h' → Fr sp fp h h' → wpS (mSeq (mIfS (mBl (mOp dEq (mOp dIx (mVar 4) (mC (.int 0))) (mC (.str "end"))))
    (mSeq (mWhile (mBl (mOp dGt (mCall (dLen) (mCons (mFld [cs 0] "stack" (mVar 1)) (mNil))) (mC (.int 0))))
    (m_layout_b1 cs))
    (m_layout_r2 cs))
    (mSeq (mIfS (mAnd (mBl (mOp dGt (mOp dIx (mVar 4) (mC (.int 2))) (mVar 3))) (mNot (mTru (mVar 5))))
    (mDrop (mMeth (cs 0) "begin_row" 2 (f_Contexts_begin_row cs) (mVar 1) (mCons (mVar 4) (mNil))))
    (mSkip))
    (mDrop (mMeth (cs 0) "take" 2 (f_Contexts_take cs) (mVar 1) (mCons (mVar 4) (mNil))))))
    (m_layout_r3 cs) [some rp, some (.ref o), some (.bl ex), some (.int lr), some (tkD t), some (.bl (openM ex t st fd).1)] h') N T := fun h' g' f' => by
    have ob' := ob.fr f'
    unfold sz at hs
    rw [wp_seq, wp_if]
    simp only [↓wp_skip, ↓wp_drop, ↓wp_ret, ↓wp_retN, ↓wp_brk, ↓wp_cnt, ↓wp_if, ↓wp_asg, ↓wp_to, ↓wp_tos, ↓wp_toIx, ↓wp_aug, ↓wp_augK, ↓wp_fldSet, ↓wp_fldAug, ↓wp_var, ↓wp_c, ↓wp_op, ↓wp_un, ↓wp_nil, ↓wp_cons, ↓wp_tup, ↓wp_lst, ↓wp_dict0, ↓wp_dict, ↓wp_pairs0, ↓wp_pairs, ↓wp_call, ↓wp_callF, ↓wp_tru, ↓wp_bl, ↓wp_and, ↓wp_or, ↓wp_not, ↓wp_andV, ↓wp_orV, ↓wp_notV, ↓wp_part, ↓wp_noPart, ↓wp_sl, ↓wp_bm, ↓wp_ifE, ↓wp_fld, ↓wp_meth, ↓wp_make, ↓wp_lockE, ↓wp_rng1, ↓wp_rng2, ↓wp_seqI, ↓wpR_ok, ↓wpS_nx, ↓wpS_rt, List.getElem?_cons_zero, List.getElem?_cons_succ, List.set_cons_zero, List.set_cons_succ, List.length_cons, List.length_nil, ↓reduceIte, decide_eq_true_eq, ev_add, ev_iadd, ev_sub, ev_mod, ev_neg, ev_lt, ev_le, ev_gt, ev_ge, ev_eqI, ev_neI, ev_eqS, ev_neS, ev_isN, ev_int, ev_abs, ev_max, ev_min, ev_lenT, ev_lenC, ev_tupT, Int.reduceLT, Int.reduceLE, Int.reduceNeg, Int.reduceAdd, Int.reduceSub, Int.reduceEq, Nat.reduceAdd, Nat.reduceSub, and_self, ↓List.map_cons, ↓List.map_nil, ↓List.cons_append, ↓List.nil_append, List.replicate, ixT0, ixT1, ixT2, ixT3, ixTm1, ixTm2, ixTm3, onH_get, onH_set, onH_push, onH_len, mkB_get, mkB_set, mkB_push, mkB_len, mkB_next, Option.getD_some, Option.getD_none, sz0, sz1, sz2, sz3, sz4, sz5, sz6, sz7, sz8, sz9, ev_keyI, ev_keyS, ev_eqB, ev_neB, wp_one, wp_yes, wp_valsI, wp_keysI, wp_lcE, Bool.false_eq_true, Bool.not_eq_true', decide_eq_false_iff_not, Bool.not_true, Bool.not_false, ite_and2, ite_or2, ite_tand, not_true_eq_false, not_false_eq_true, et0]
    refine ite2 (fun c => ?_) (fun c => ?_)
    · rw [wp_seq]
      refine end_loop ob' g' (by omega) fun h2 g2 f2 => ?_
      have ob2 := ob'.fr f2
      have hs2 := endM_sz t (openM ex t st fd).2.1 (openM ex t st fd).2.2
      unfold m_layout_r2
      simp only [↓wp_seq, ↓wp_skip, ↓wp_drop, ↓wp_ret, ↓wp_retN, ↓wp_brk, ↓wp_cnt, ↓wp_if, ↓wp_asg, ↓wp_to, ↓wp_tos, ↓wp_toIx, ↓wp_aug, ↓wp_augK, ↓wp_fldSet, ↓wp_fldAug, ↓wp_var, ↓wp_c, ↓wp_op, ↓wp_un, ↓wp_nil, ↓wp_cons, ↓wp_tup, ↓wp_lst, ↓wp_dict0, ↓wp_dict, ↓wp_pairs0, ↓wp_pairs, ↓wp_call, ↓wp_callF, ↓wp_tru, ↓wp_bl, ↓wp_and, ↓wp_or, ↓wp_not, ↓wp_andV, ↓wp_orV, ↓wp_notV, ↓wp_part, ↓wp_noPart, ↓wp_sl, ↓wp_bm, ↓wp_ifE, ↓wp_fld, ↓wp_meth, ↓wp_make, ↓wp_lockE, ↓wp_rng1, ↓wp_rng2, ↓wp_seqI, ↓wpR_ok, ↓wpS_nx, ↓wpS_rt, List.getElem?_cons_zero, List.getElem?_cons_succ, List.set_cons_zero, List.set_cons_succ, List.length_cons, List.length_nil, ↓reduceIte, decide_eq_true_eq, ev_add, ev_iadd, ev_sub, ev_mod, ev_neg, ev_lt, ev_le, ev_gt, ev_ge, ev_eqI, ev_neI, ev_eqS, ev_neS, ev_isN, ev_int, ev_abs, ev_max, ev_min, ev_lenT, ev_lenC, ev_tupT, Int.reduceLT, Int.reduceLE, Int.reduceNeg, Int.reduceAdd, Int.reduceSub, Int.reduceEq, Nat.reduceAdd, Nat.reduceSub, and_self, ↓List.map_cons, ↓List.map_nil, ↓List.cons_append, ↓List.nil_append, List.replicate, ixT0, ixT1, ixT2, ixT3, ixTm1, ixTm2, ixTm3, onH_get, onH_set, onH_push, onH_len, mkB_get, mkB_set, mkB_push, mkB_len, mkB_next, Option.getD_some, Option.getD_none, sz0, sz1, sz2, sz3, sz4, sz5, sz6, sz7, sz8, sz9, ev_keyI, ev_keyS, ev_eqB, ev_neB, wp_one, wp_yes, wp_valsI, wp_keysI, wp_lcE, Bool.false_eq_true, Bool.not_eq_true', decide_eq_false_iff_not, Bool.not_true, Bool.not_false, ite_and2, ite_or2, ite_tand, not_true_eq_false, not_false_eq_true, ob2.i, lkF]
      rw [if_pos (ev_tyL g2.f), pushF (t := t) (d := tkD t) g2 rfl (by omega), wpR_ok]
      refine fin _ _ _ _ (fun r => ?_) ?_ g2.setF ((f'.trans f2).trans Fr.setF)
      · rw [layM, if_pos c]
      · simp only [List.length_append, List.length_cons, List.length_nil]; omega
    · rw [wp_seq]
      have hs2 := rowP_sz lr t (openM ex t st fd)
      unfold sz at hs2
      have tk : ∀ h' X', G sp fp (rowP lr t (openM ex t st fd)).1 (rowP lr t (openM ex t st fd)).2 h' → Fr sp fp h h' →
          wpR (f_Contexts_take cs [.ref o, tkD t] h') (fun _ h => wpS (m_layout_r3 cs [some rp, some (.ref o), some (.bl ex), some (.int lr), some (tkD t), some (.bl (openM ex t st fd).1)] h) N T) X' := fun h' X' g' f' => by
        have ob' := ob.fr f'
        have hs3 := effM_sz t ((rowP lr t (openM ex t st fd)).1, (rowP lr t (openM ex t st fd)).2)
        unfold sz at hs3
        simp only at hs3
        refine take_ok ob' g' (by omega) hk fun h3 g3 f3 => ?_
        refine fin _ _ _ _ (fun r => ?_) ?_ g3 (f'.trans f3)
        · rw [layM, if_neg c]
        · simp only [List.length_append, List.length_cons, List.length_nil]; omega
      unfold rowP at tk
      rw [wp_if]
      simp only [↓wp_skip, ↓wp_drop, ↓wp_ret, ↓wp_retN, ↓wp_brk, ↓wp_cnt, ↓wp_if, ↓wp_asg, ↓wp_to, ↓wp_tos, ↓wp_toIx, ↓wp_aug, ↓wp_augK, ↓wp_fldSet, ↓wp_fldAug, ↓wp_var, ↓wp_c, ↓wp_op, ↓wp_un, ↓wp_nil, ↓wp_cons, ↓wp_tup, ↓wp_lst, ↓wp_dict0, ↓wp_dict, ↓wp_pairs0, ↓wp_pairs, ↓wp_call, ↓wp_callF, ↓wp_tru, ↓wp_bl, ↓wp_and, ↓wp_or, ↓wp_not, ↓wp_andV, ↓wp_orV, ↓wp_notV, ↓wp_part, ↓wp_noPart, ↓wp_sl, ↓wp_bm, ↓wp_ifE, ↓wp_fld, ↓wp_meth, ↓wp_make, ↓wp_lockE, ↓wp_rng1, ↓wp_rng2, ↓wp_seqI, ↓wpR_ok, ↓wpS_nx, ↓wpS_rt, List.getElem?_cons_zero, List.getElem?_cons_succ, List.set_cons_zero, List.set_cons_succ, List.length_cons, List.length_nil, ↓reduceIte, decide_eq_true_eq, ev_add, ev_iadd, ev_sub, ev_mod, ev_neg, ev_lt, ev_le, ev_gt, ev_ge, ev_eqI, ev_neI, ev_eqS, ev_neS, ev_isN, ev_int, ev_abs, ev_max, ev_min, ev_lenT, ev_lenC, ev_tupT, Int.reduceLT, Int.reduceLE, Int.reduceNeg, Int.reduceAdd, Int.reduceSub, Int.reduceEq, Nat.reduceAdd, Nat.reduceSub, and_self, ↓List.map_cons, ↓List.map_nil, ↓List.cons_append, ↓List.nil_append, List.replicate, ixT0, ixT1, ixT2, ixT3, ixTm1, ixTm2, ixTm3, onH_get, onH_set, onH_push, onH_len, mkB_get, mkB_set, mkB_push, mkB_len, mkB_next, Option.getD_some, Option.getD_none, sz0, sz1, sz2, sz3, sz4, sz5, sz6, sz7, sz8, sz9, ev_keyI, ev_keyS, ev_eqB, ev_neB, wp_one, wp_yes, wp_valsI, wp_keysI, wp_lcE, Bool.false_eq_true, Bool.not_eq_true', decide_eq_false_iff_not, Bool.not_true, Bool.not_false, ite_and2, ite_or2, ite_tand, not_true_eq_false, not_false_eq_true, et2, truB, ob'.i, nm_ber, nm_tak]
      refine ite2 (fun c2 => ?_) (fun c2 => ?_)
      · rw [if_pos c2] at tk
        refine begin_ok ob' g' (by omega) fun h3 g3 f3 => ?_
        have ob3 := ob'.fr f3
        simp only [↓wp_skip, ↓wp_drop, ↓wp_ret, ↓wp_retN, ↓wp_brk, ↓wp_cnt, ↓wp_if, ↓wp_asg, ↓wp_to, ↓wp_tos, ↓wp_toIx, ↓wp_aug, ↓wp_augK, ↓wp_fldSet, ↓wp_fldAug, ↓wp_var, ↓wp_c, ↓wp_op, ↓wp_un, ↓wp_nil, ↓wp_cons, ↓wp_tup, ↓wp_lst, ↓wp_dict0, ↓wp_dict, ↓wp_pairs0, ↓wp_pairs, ↓wp_call, ↓wp_callF, ↓wp_tru, ↓wp_bl, ↓wp_and, ↓wp_or, ↓wp_not, ↓wp_andV, ↓wp_orV, ↓wp_notV, ↓wp_part, ↓wp_noPart, ↓wp_sl, ↓wp_bm, ↓wp_ifE, ↓wp_fld, ↓wp_meth, ↓wp_make, ↓wp_lockE, ↓wp_rng1, ↓wp_rng2, ↓wp_seqI, ↓wpR_ok, ↓wpS_nx, ↓wpS_rt, List.getElem?_cons_zero, List.getElem?_cons_succ, List.set_cons_zero, List.set_cons_succ, List.length_cons, List.length_nil, ↓reduceIte, decide_eq_true_eq, ev_add, ev_iadd, ev_sub, ev_mod, ev_neg, ev_lt, ev_le, ev_gt, ev_ge, ev_eqI, ev_neI, ev_eqS, ev_neS, ev_isN, ev_int, ev_abs, ev_max, ev_min, ev_lenT, ev_lenC, ev_tupT, Int.reduceLT, Int.reduceLE, Int.reduceNeg, Int.reduceAdd, Int.reduceSub, Int.reduceEq, Nat.reduceAdd, Nat.reduceSub, and_self, ↓List.map_cons, ↓List.map_nil, ↓List.cons_append, ↓List.nil_append, List.replicate, ixT0, ixT1, ixT2, ixT3, ixTm1, ixTm2, ixTm3, onH_get, onH_set, onH_push, onH_len, mkB_get, mkB_set, mkB_push, mkB_len, mkB_next, Option.getD_some, Option.getD_none, sz0, sz1, sz2, sz3, sz4, sz5, sz6, sz7, sz8, sz9, ev_keyI, ev_keyS, ev_eqB, ev_neB, wp_one, wp_yes, wp_valsI, wp_keysI, wp_lcE, Bool.false_eq_true, Bool.not_eq_true', decide_eq_false_iff_not, Bool.not_true, Bool.not_false, ite_and2, ite_or2, ite_tand, not_true_eq_false, not_false_eq_true, ob3.i, nm_tak]
        exact tk _ _ g3 (f'.trans f3)
      · rw [if_neg c2] at tk
        exact tk _ _ g' f'
  rw [wp_seq]
  cases ex with
  | false =>
    simp only [↓wp_skip, ↓wp_drop, ↓wp_ret, ↓wp_retN, ↓wp_brk, ↓wp_cnt, ↓wp_if, ↓wp_asg, ↓wp_to, ↓wp_tos, ↓wp_toIx, ↓wp_aug, ↓wp_augK, ↓wp_fldSet, ↓wp_fldAug, ↓wp_var, ↓wp_c, ↓wp_op, ↓wp_un, ↓wp_nil, ↓wp_cons, ↓wp_tup, ↓wp_lst, ↓wp_dict0, ↓wp_dict, ↓wp_pairs0, ↓wp_pairs, ↓wp_call, ↓wp_callF, ↓wp_tru, ↓wp_bl, ↓wp_and, ↓wp_or, ↓wp_not, ↓wp_andV, ↓wp_orV, ↓wp_notV, ↓wp_part, ↓wp_noPart, ↓wp_sl, ↓wp_bm, ↓wp_ifE, ↓wp_fld, ↓wp_meth, ↓wp_make, ↓wp_lockE, ↓wp_rng1, ↓wp_rng2, ↓wp_seqI, ↓wpR_ok, ↓wpS_nx, ↓wpS_rt, List.getElem?_cons_zero, List.getElem?_cons_succ, List.set_cons_zero, List.set_cons_succ, List.length_cons, List.length_nil, ↓reduceIte, decide_eq_true_eq, ev_add, ev_iadd, ev_sub, ev_mod, ev_neg, ev_lt, ev_le, ev_gt, ev_ge, ev_eqI, ev_neI, ev_eqS, ev_neS, ev_isN, ev_int, ev_abs, ev_max, ev_min, ev_lenT, ev_lenC, ev_tupT, Int.reduceLT, Int.reduceLE, Int.reduceNeg, Int.reduceAdd, Int.reduceSub, Int.reduceEq, Nat.reduceAdd, Nat.reduceSub, and_self, ↓List.map_cons, ↓List.map_nil, ↓List.cons_append, ↓List.nil_append, List.replicate, ixT0, ixT1, ixT2, ixT3, ixTm1, ixTm2, ixTm3, onH_get, onH_set, onH_push, onH_len, mkB_get, mkB_set, mkB_push, mkB_len, mkB_next, Option.getD_some, Option.getD_none, sz0, sz1, sz2, sz3, sz4, sz5, sz6, sz7, sz8, sz9, ev_keyI, ev_keyS, ev_eqB, ev_neB, wp_one, wp_yes, wp_valsI, wp_keysI, wp_lcE, Bool.false_eq_true, Bool.not_eq_true', decide_eq_false_iff_not, Bool.not_true, Bool.not_false, ite_and2, ite_or2, ite_tand, not_true_eq_false, not_false_eq_true]
    exact mid h g Fr.refl
  | true =>
    simp only [↓wp_skip, ↓wp_drop, ↓wp_ret, ↓wp_retN, ↓wp_brk, ↓wp_cnt, ↓wp_if, ↓wp_asg, ↓wp_to, ↓wp_tos, ↓wp_toIx, ↓wp_aug, ↓wp_augK, ↓wp_fldSet, ↓wp_fldAug, ↓wp_var, ↓wp_c, ↓wp_op, ↓wp_un, ↓wp_nil, ↓wp_cons, ↓wp_tup, ↓wp_lst, ↓wp_dict0, ↓wp_dict, ↓wp_pairs0, ↓wp_pairs, ↓wp_call, ↓wp_callF, ↓wp_tru, ↓wp_bl, ↓wp_and, ↓wp_or, ↓wp_not, ↓wp_andV, ↓wp_orV, ↓wp_notV, ↓wp_part, ↓wp_noPart, ↓wp_sl, ↓wp_bm, ↓wp_ifE, ↓wp_fld, ↓wp_meth, ↓wp_make, ↓wp_lockE, ↓wp_rng1, ↓wp_rng2, ↓wp_seqI, ↓wpR_ok, ↓wpS_nx, ↓wpS_rt, List.getElem?_cons_zero, List.getElem?_cons_succ, List.set_cons_zero, List.set_cons_succ, List.length_cons, List.length_nil, ↓reduceIte, decide_eq_true_eq, ev_add, ev_iadd, ev_sub, ev_mod, ev_neg, ev_lt, ev_le, ev_gt, ev_ge, ev_eqI, ev_neI, ev_eqS, ev_neS, ev_isN, ev_int, ev_abs, ev_max, ev_min, ev_lenT, ev_lenC, ev_tupT, Int.reduceLT, Int.reduceLE, Int.reduceNeg, Int.reduceAdd, Int.reduceSub, Int.reduceEq, Nat.reduceAdd, Nat.reduceSub, and_self, ↓List.map_cons, ↓List.map_nil, ↓List.cons_append, ↓List.nil_append, List.replicate, ixT0, ixT1, ixT2, ixT3, ixTm1, ixTm2, ixTm3, onH_get, onH_set, onH_push, onH_len, mkB_get, mkB_set, mkB_push, mkB_len, mkB_next, Option.getD_some, Option.getD_none, sz0, sz1, sz2, sz3, sz4, sz5, sz6, sz7, sz8, sz9, ev_keyI, ev_keyS, ev_eqB, ev_neB, wp_one, wp_yes, wp_valsI, wp_keysI, wp_lcE, Bool.false_eq_true, Bool.not_eq_true', decide_eq_false_iff_not, Bool.not_true, Bool.not_false, ite_and2, ite_or2, ite_tand, not_true_eq_false, not_false_eq_true, ob.i, nm_opb]
    refine opb_ok ob g (by omega) fun h2 g2 f2 => ?_
    exact mid h2 g2 f2
theorem layM_nil {ex : Bool} {lr : Int} : layM ex lr st fd [] = fd := by rw [layM]
theorem drop_cons {toks : List Tk} {j : Nat} (hj : j < toks.length) : toks.drop j = toks[j] :: toks.drop (j + 1) := List.drop_eq_getElem_cons hj
theorem set0 {a b : MO} {l : HS} : (h ++ a :: l).set h.length b = h ++ b :: l := by simp
theorem len1 {a : MO} : (h ++ [a]).length = h.length + 1 := by simp
theorem len2 {a b : MO} : (h ++ [a, b]).length = h.length + 2 := by simp
theorem app1 {a b : MO} : h ++ [a] ++ [b] = h ++ [a, b] := by simp
theorem app2 {a b c : MO} : h ++ [a, b] ++ [c] = h ++ [a, b, c] := by simp
theorem init_ok (k : P .non (h ++ [.ins (cs 0) (obF (h.length + 1) (h.length + 2)), .lst [], .lst []])) : wpR (f_Contexts_init cs [.ref h.length] (h ++ [.ins (cs 0) []])) P X := by
  unfold f_Contexts_init m_Contexts_init
  have hc : cs 0 ∈ [cs 0] := List.mem_singleton.mpr rfl
  have i0 : ∀ (x : HS) (fs : List (Str × D)), insD [cs 0] (h ++ (.ins (cs 0) fs :: x)) (.ref h.length) = some (h.length, cs 0, fs) := fun x fs => insD_at (by simp) hc
  simp only [↓wp_seq, ↓wp_skip, ↓wp_drop, ↓wp_ret, ↓wp_retN, ↓wp_brk, ↓wp_cnt, ↓wp_if, ↓wp_asg, ↓wp_to, ↓wp_tos, ↓wp_toIx, ↓wp_aug, ↓wp_augK, ↓wp_fldSet, ↓wp_fldAug, ↓wp_var, ↓wp_c, ↓wp_op, ↓wp_un, ↓wp_nil, ↓wp_cons, ↓wp_tup, ↓wp_lst, ↓wp_dict0, ↓wp_dict, ↓wp_pairs0, ↓wp_pairs, ↓wp_call, ↓wp_callF, ↓wp_tru, ↓wp_bl, ↓wp_and, ↓wp_or, ↓wp_not, ↓wp_andV, ↓wp_orV, ↓wp_notV, ↓wp_part, ↓wp_noPart, ↓wp_sl, ↓wp_bm, ↓wp_ifE, ↓wp_fld, ↓wp_meth, ↓wp_make, ↓wp_lockE, ↓wp_rng1, ↓wp_rng2, ↓wp_seqI, ↓wpR_ok, ↓wpS_nx, ↓wpS_rt, List.getElem?_cons_zero, List.getElem?_cons_succ, List.set_cons_zero, List.set_cons_succ, List.length_cons, List.length_nil, ↓reduceIte, decide_eq_true_eq, ev_add, ev_iadd, ev_sub, ev_mod, ev_neg, ev_lt, ev_le, ev_gt, ev_ge, ev_eqI, ev_neI, ev_eqS, ev_neS, ev_isN, ev_int, ev_abs, ev_max, ev_min, ev_lenT, ev_lenC, ev_tupT, Int.reduceLT, Int.reduceLE, Int.reduceNeg, Int.reduceAdd, Int.reduceSub, Int.reduceEq, Nat.reduceAdd, Nat.reduceSub, and_self, ↓List.map_cons, ↓List.map_nil, ↓List.cons_append, ↓List.nil_append, List.replicate, ixT0, ixT1, ixT2, ixT3, ixTm1, ixTm2, ixTm3, onH_get, onH_set, onH_push, onH_len, mkB_get, mkB_set, mkB_push, mkB_len, mkB_next, Option.getD_some, Option.getD_none, sz0, sz1, sz2, sz3, sz4, sz5, sz6, sz7, sz8, sz9, ev_keyI, ev_keyS, ev_eqB, ev_neB, wp_one, wp_yes, wp_valsI, wp_keysI, wp_lcE, Bool.false_eq_true, Bool.not_eq_true', decide_eq_false_iff_not, Bool.not_true, Bool.not_false, ite_and2, ite_or2, ite_tand, not_true_eq_false, not_false_eq_true, ↓wp_runB, app1, app2, i0, set0, len1, len2]
  rw [if_pos ⟨by decide, show 1 < 1000 by decide⟩]
  exact k
/-- what the program's layout answers -/
theorem layout_ok {toks : List Tk} {rp : Nat} (hr : h[rp]? = some (.lst (toks.map tkD))) (gd : Good toks)
    (k : ∀ (h' : HS) (q : Nat), (∀ (i : Nat) (o : MO), h[i]? = some o → h'[i]? = some o) → h.length ≤ q → h'[q]? = some (.lst ((layM true 0 [] [] toks).map tkD)) → P (.ref q) h') : wpR (f_layout cs [.ref rp] h) P X := by
  unfold f_layout m_layout
  simp only [↓wp_seq, ↓wp_skip, ↓wp_drop, ↓wp_ret, ↓wp_retN, ↓wp_brk, ↓wp_cnt, ↓wp_if, ↓wp_asg, ↓wp_to, ↓wp_tos, ↓wp_toIx, ↓wp_aug, ↓wp_augK, ↓wp_fldSet, ↓wp_fldAug, ↓wp_var, ↓wp_c, ↓wp_op, ↓wp_un, ↓wp_nil, ↓wp_cons, ↓wp_tup, ↓wp_lst, ↓wp_dict0, ↓wp_dict, ↓wp_pairs0, ↓wp_pairs, ↓wp_call, ↓wp_callF, ↓wp_tru, ↓wp_bl, ↓wp_and, ↓wp_or, ↓wp_not, ↓wp_andV, ↓wp_orV, ↓wp_notV, ↓wp_part, ↓wp_noPart, ↓wp_sl, ↓wp_bm, ↓wp_ifE, ↓wp_fld, ↓wp_meth, ↓wp_make, ↓wp_lockE, ↓wp_rng1, ↓wp_rng2, ↓wp_seqI, ↓wpR_ok, ↓wpS_nx, ↓wpS_rt, List.getElem?_cons_zero, List.getElem?_cons_succ, List.set_cons_zero, List.set_cons_succ, List.length_cons, List.length_nil, ↓reduceIte, decide_eq_true_eq, ev_add, ev_iadd, ev_sub, ev_mod, ev_neg, ev_lt, ev_le, ev_gt, ev_ge, ev_eqI, ev_neI, ev_eqS, ev_neS, ev_isN, ev_int, ev_abs, ev_max, ev_min, ev_lenT, ev_lenC, ev_tupT, Int.reduceLT, Int.reduceLE, Int.reduceNeg, Int.reduceAdd, Int.reduceSub, Int.reduceEq, Nat.reduceAdd, Nat.reduceSub, and_self, ↓List.map_cons, ↓List.map_nil, ↓List.cons_append, ↓List.nil_append, List.replicate, ixT0, ixT1, ixT2, ixT3, ixTm1, ixTm2, ixTm3, onH_get, onH_set, onH_push, onH_len, mkB_get, mkB_set, mkB_push, mkB_len, mkB_next, Option.getD_some, Option.getD_none, sz0, sz1, sz2, sz3, sz4, sz5, sz6, sz7, sz8, sz9, ev_keyI, ev_keyS, ev_eqB, ev_neB, wp_one, wp_yes, wp_valsI, wp_keysI, wp_lcE, Bool.false_eq_true, Bool.not_eq_true', decide_eq_false_iff_not, Bool.not_true, Bool.not_false, ite_and2, ite_or2, ite_tand, not_true_eq_false, not_false_eq_true, ↓wp_runB, ↓wp_forE]
  refine init_ok ?_
  simp only [↓wp_seq, ↓wp_skip, ↓wp_drop, ↓wp_ret, ↓wp_retN, ↓wp_brk, ↓wp_cnt, ↓wp_if, ↓wp_asg, ↓wp_to, ↓wp_tos, ↓wp_toIx, ↓wp_aug, ↓wp_augK, ↓wp_fldSet, ↓wp_fldAug, ↓wp_var, ↓wp_c, ↓wp_op, ↓wp_un, ↓wp_nil, ↓wp_cons, ↓wp_tup, ↓wp_lst, ↓wp_dict0, ↓wp_dict, ↓wp_pairs0, ↓wp_pairs, ↓wp_call, ↓wp_callF, ↓wp_tru, ↓wp_bl, ↓wp_and, ↓wp_or, ↓wp_not, ↓wp_andV, ↓wp_orV, ↓wp_notV, ↓wp_part, ↓wp_noPart, ↓wp_sl, ↓wp_bm, ↓wp_ifE, ↓wp_fld, ↓wp_meth, ↓wp_make, ↓wp_lockE, ↓wp_rng1, ↓wp_rng2, ↓wp_seqI, ↓wpR_ok, ↓wpS_nx, ↓wpS_rt, List.getElem?_cons_zero, List.getElem?_cons_succ, List.set_cons_zero, List.set_cons_succ, List.length_cons, List.length_nil, ↓reduceIte, decide_eq_true_eq, ev_add, ev_iadd, ev_sub, ev_mod, ev_neg, ev_lt, ev_le, ev_gt, ev_ge, ev_eqI, ev_neI, ev_eqS, ev_neS, ev_isN, ev_int, ev_abs, ev_max, ev_min, ev_lenT, ev_lenC, ev_tupT, Int.reduceLT, Int.reduceLE, Int.reduceNeg, Int.reduceAdd, Int.reduceSub, Int.reduceEq, Nat.reduceAdd, Nat.reduceSub, and_self, ↓List.map_cons, ↓List.map_nil, ↓List.cons_append, ↓List.nil_append, List.replicate, ixT0, ixT1, ixT2, ixT3, ixTm1, ixTm2, ixTm3, onH_get, onH_set, onH_push, onH_len, mkB_get, mkB_set, mkB_push, mkB_len, mkB_next, Option.getD_some, Option.getD_none, sz0, sz1, sz2, sz3, sz4, sz5, sz6, sz7, sz8, sz9, ev_keyI, ev_keyS, ev_eqB, ev_neB, wp_one, wp_yes, wp_valsI, wp_keysI, wp_lcE, Bool.false_eq_true, Bool.not_eq_true', decide_eq_false_iff_not, Bool.not_true, Bool.not_false, ite_and2, ite_or2, ite_tand, not_true_eq_false, not_false_eq_true]
  have hp := (List.getElem?_eq_some_iff.mp hr).1
  have hlen := gd.few
  have ob0 : Ob cs h.length (h.length + 1) (h.length + 2) (h ++ [.ins (cs 0) (obF (h.length + 1) (h.length + 2)), .lst [], .lst []]) := ⟨by omega, by omega, by simp⟩
  have g0 : G (h.length + 1) (h.length + 2) [] [] (h ++ [.ins (cs 0) (obF (h.length + 1) (h.length + 2)), .lst [], .lst []]) := ⟨by omega, by simp [stD], by simp⟩
  refine wp_forS (get_push hr) (fun j σ h' => ∃ (a4 a5 : Option D) (ex : Bool) (lr : Int) (st : List El) (fd : List Tk), σ = [some (.ref rp), some (.ref h.length), some (.bl ex), some (.int lr), a4, a5] ∧
    layM ex lr st fd (toks.drop j) = layM true 0 [] [] toks ∧ st.length + fd.length ≤ 6 * j ∧ G (h.length + 1) (h.length + 2) st fd h' ∧
    Fr (h.length + 1) (h.length + 2) (h ++ [.ins (cs 0) (obF (h.length + 1) (h.length + 2)), .lst [], .lst []]) h') ⟨_, _, true, 0, [], [], rfl, rfl, Nat.le_refl _, g0, Fr.refl⟩ ?_ ?_ ?_
  · rintro j σ h' ⟨_, _, _, _, _, _, _, _, _, _, fr⟩
    exact fr _ _ (by omega) (by omega) (get_push hr)
  · rintro j hj0 σ h' ⟨a4, a5, ex, lr, st, fd, rfl, e, hl, g, fr⟩
    have hj : j < toks.length := by rw [List.length_map] at hj0; exact hj0
    have eg : (toks.map tkD)[j] = tkD toks[j] := List.getElem_map _
    rw [eg]
    simp only [↓wp_seq, ↓wp_skip, ↓wp_drop, ↓wp_ret, ↓wp_retN, ↓wp_brk, ↓wp_cnt, ↓wp_if, ↓wp_asg, ↓wp_to, ↓wp_tos, ↓wp_toIx, ↓wp_aug, ↓wp_augK, ↓wp_fldSet, ↓wp_fldAug, ↓wp_var, ↓wp_c, ↓wp_op, ↓wp_un, ↓wp_nil, ↓wp_cons, ↓wp_tup, ↓wp_lst, ↓wp_dict0, ↓wp_dict, ↓wp_pairs0, ↓wp_pairs, ↓wp_call, ↓wp_callF, ↓wp_tru, ↓wp_bl, ↓wp_and, ↓wp_or, ↓wp_not, ↓wp_andV, ↓wp_orV, ↓wp_notV, ↓wp_part, ↓wp_noPart, ↓wp_sl, ↓wp_bm, ↓wp_ifE, ↓wp_fld, ↓wp_meth, ↓wp_make, ↓wp_lockE, ↓wp_rng1, ↓wp_rng2, ↓wp_seqI, ↓wpR_ok, ↓wpS_nx, ↓wpS_rt, List.getElem?_cons_zero, List.getElem?_cons_succ, List.set_cons_zero, List.set_cons_succ, List.length_cons, List.length_nil, ↓reduceIte, decide_eq_true_eq, ev_add, ev_iadd, ev_sub, ev_mod, ev_neg, ev_lt, ev_le, ev_gt, ev_ge, ev_eqI, ev_neI, ev_eqS, ev_neS, ev_isN, ev_int, ev_abs, ev_max, ev_min, ev_lenT, ev_lenC, ev_tupT, Int.reduceLT, Int.reduceLE, Int.reduceNeg, Int.reduceAdd, Int.reduceSub, Int.reduceEq, Nat.reduceAdd, Nat.reduceSub, and_self, ↓List.map_cons, ↓List.map_nil, ↓List.cons_append, ↓List.nil_append, List.replicate, ixT0, ixT1, ixT2, ixT3, ixTm1, ixTm2, ixTm3, onH_get, onH_set, onH_push, onH_len, mkB_get, mkB_set, mkB_push, mkB_len, mkB_next, Option.getD_some, Option.getD_none, sz0, sz1, sz2, sz3, sz4, sz5, sz6, sz7, sz8, sz9, ev_keyI, ev_keyS, ev_eqB, ev_neB, wp_one, wp_yes, wp_valsI, wp_keysI, wp_lcE, Bool.false_eq_true, Bool.not_eq_true', decide_eq_false_iff_not, Bool.not_true, Bool.not_false, ite_and2, ite_or2, ite_tand, not_true_eq_false, not_false_eq_true]
    refine lb4_ok (ob0.fr fr) g (by omega) (gd.kd _ (List.getElem_mem hj)) fun h2 st2 fd2 b5 e2 hl2 g2 f2 => ?_
    refine ⟨_, _, _, _, st2, fd2, rfl, ?_, by omega, g2, fr.trans f2⟩
    rw [drop_cons hj, e2] at e
    exact e
  · rintro σ h' ⟨a4, a5, ex, lr, st, fd, rfl, e, hl, g, fr⟩
    rw [List.length_map, List.drop_length, layM_nil] at e
    unfold m_layout_r5
    simp only [↓wp_seq, ↓wp_skip, ↓wp_drop, ↓wp_ret, ↓wp_retN, ↓wp_brk, ↓wp_cnt, ↓wp_if, ↓wp_asg, ↓wp_to, ↓wp_tos, ↓wp_toIx, ↓wp_aug, ↓wp_augK, ↓wp_fldSet, ↓wp_fldAug, ↓wp_var, ↓wp_c, ↓wp_op, ↓wp_un, ↓wp_nil, ↓wp_cons, ↓wp_tup, ↓wp_lst, ↓wp_dict0, ↓wp_dict, ↓wp_pairs0, ↓wp_pairs, ↓wp_call, ↓wp_callF, ↓wp_tru, ↓wp_bl, ↓wp_and, ↓wp_or, ↓wp_not, ↓wp_andV, ↓wp_orV, ↓wp_notV, ↓wp_part, ↓wp_noPart, ↓wp_sl, ↓wp_bm, ↓wp_ifE, ↓wp_fld, ↓wp_meth, ↓wp_make, ↓wp_lockE, ↓wp_rng1, ↓wp_rng2, ↓wp_seqI, ↓wpR_ok, ↓wpS_nx, ↓wpS_rt, List.getElem?_cons_zero, List.getElem?_cons_succ, List.set_cons_zero, List.set_cons_succ, List.length_cons, List.length_nil, ↓reduceIte, decide_eq_true_eq, ev_add, ev_iadd, ev_sub, ev_mod, ev_neg, ev_lt, ev_le, ev_gt, ev_ge, ev_eqI, ev_neI, ev_eqS, ev_neS, ev_isN, ev_int, ev_abs, ev_max, ev_min, ev_lenT, ev_lenC, ev_tupT, Int.reduceLT, Int.reduceLE, Int.reduceNeg, Int.reduceAdd, Int.reduceSub, Int.reduceEq, Nat.reduceAdd, Nat.reduceSub, and_self, ↓List.map_cons, ↓List.map_nil, ↓List.cons_append, ↓List.nil_append, List.replicate, ixT0, ixT1, ixT2, ixT3, ixTm1, ixTm2, ixTm3, onH_get, onH_set, onH_push, onH_len, mkB_get, mkB_set, mkB_push, mkB_len, mkB_next, Option.getD_some, Option.getD_none, sz0, sz1, sz2, sz3, sz4, sz5, sz6, sz7, sz8, sz9, ev_keyI, ev_keyS, ev_eqB, ev_neB, wp_one, wp_yes, wp_valsI, wp_keysI, wp_lcE, Bool.false_eq_true, Bool.not_eq_true', decide_eq_false_iff_not, Bool.not_true, Bool.not_false, ite_and2, ite_or2, ite_tand, not_true_eq_false, not_false_eq_true, (ob0.fr fr).i, lkF]
    refine k h' _ (fun i o ei => ?_) (by omega) (by rw [g.f, e])
    have hi := (List.getElem?_eq_some_iff.mp ei).1
    exact fr _ _ (by omega) (by omega) (get_push ei)
end
/-! ### the law's own way -/
section
variable {cs : Nat → Addr} {sp fp tp : Nat} {st : List El} {fd : List Tk} {h : HS} {t : Tk} {P : D → HS → Prop} {X : XP}
theorem wp_forUp {σ : Sl} {g : FG} {u : FS} {N : Sl → HS → Prop} {T : Tl} (I : Nat → Sl → HS → Prop) (h0 : I 0 σ h)
    (step : ∀ (j : Nat) (hj : j < st.length) (σ : Sl) (h : HS), I j σ h → wpR (g (.int (0 + (j : Int))) σ h) (fun σ h => wpS (u σ h) (I (j + 1)) { T with ct := I (j + 1), bk := N }) (fun x h => T.ex x σ h))
    (fin : ∀ σ h, I st.length σ h → N σ h) : wpS (forL g u (itRange 0 (st.length : Int).toNat) (itRange 0 (st.length : Int).toNat).n 0 σ h) N T := by
  rw [show (st.length : Int).toNat = st.length from rfl]
  exact wp_forR I h0 (fun j σ h i hj => step j hj σ h i) fin
theorem st_ix {j : Nat} (g : h[sp]? = some (.lst (stD st))) (hj : j < st.length) : dIx (.ref sp) (.int ((st.length : Int) - 1 - (0 + (j : Int)))) h = .ok (elD st[j]) h := by
  refine ev_ixL g ?_
  have e : (st.length : Int) - 1 - (0 + (j : Int)) = ((st.length - 1 - j : Nat) : Int) := by omega
  rw [e]
  refine atI_nat ?_
  rw [List.getElem?_eq_getElem (by rw [stD_len]; omega)]
  simp [stD]
  congr 2
  omega
theorem zmarker_ok (g : h[sp]? = some (.lst (stD st))) (hl : st.length < 100000) (k : P (.str (marker st)) h) : wpR (f_z_marker cs [.ref sp] h) P X := by
  unfold f_z_marker m_z_marker
  simp only [↓wp_seq, ↓wp_skip, ↓wp_drop, ↓wp_ret, ↓wp_retN, ↓wp_brk, ↓wp_cnt, ↓wp_if, ↓wp_asg, ↓wp_to, ↓wp_tos, ↓wp_toIx, ↓wp_aug, ↓wp_augK, ↓wp_fldSet, ↓wp_fldAug, ↓wp_var, ↓wp_c, ↓wp_op, ↓wp_un, ↓wp_nil, ↓wp_cons, ↓wp_tup, ↓wp_lst, ↓wp_dict0, ↓wp_dict, ↓wp_pairs0, ↓wp_pairs, ↓wp_call, ↓wp_callF, ↓wp_tru, ↓wp_bl, ↓wp_and, ↓wp_or, ↓wp_not, ↓wp_andV, ↓wp_orV, ↓wp_notV, ↓wp_part, ↓wp_noPart, ↓wp_sl, ↓wp_bm, ↓wp_ifE, ↓wp_fld, ↓wp_meth, ↓wp_make, ↓wp_lockE, ↓wp_rng1, ↓wp_rng2, ↓wp_seqI, ↓wpR_ok, ↓wpS_nx, ↓wpS_rt, List.getElem?_cons_zero, List.getElem?_cons_succ, List.set_cons_zero, List.set_cons_succ, List.length_cons, List.length_nil, ↓reduceIte, decide_eq_true_eq, ev_add, ev_iadd, ev_sub, ev_mod, ev_neg, ev_lt, ev_le, ev_gt, ev_ge, ev_eqI, ev_neI, ev_eqS, ev_neS, ev_isN, ev_int, ev_abs, ev_max, ev_min, ev_lenT, ev_lenC, ev_tupT, Int.reduceLT, Int.reduceLE, Int.reduceNeg, Int.reduceAdd, Int.reduceSub, Int.reduceEq, Nat.reduceAdd, Nat.reduceSub, and_self, ↓List.map_cons, ↓List.map_nil, ↓List.cons_append, ↓List.nil_append, List.replicate, ixT0, ixT1, ixT2, ixT3, ixTm1, ixTm2, ixTm3, onH_get, onH_set, onH_push, onH_len, mkB_get, mkB_set, mkB_push, mkB_len, mkB_next, Option.getD_some, Option.getD_none, sz0, sz1, sz2, sz3, sz4, sz5, sz6, sz7, sz8, sz9, ev_keyI, ev_keyS, ev_eqB, ev_neB, wp_one, wp_yes, wp_valsI, wp_keysI, wp_lcE, Bool.false_eq_true, Bool.not_eq_true', decide_eq_false_iff_not, Bool.not_true, Bool.not_false, ite_and2, ite_or2, ite_tand, not_true_eq_false, not_false_eq_true, ↓wp_runB, ↓wp_forE, ev_lenL g, stD_len]
  rw [if_pos (by omega)]
  refine wp_forUp (fun j σ h' => ∃ s1 s2 : Option D, σ = [some (.ref sp), s1, s2] ∧ h' = h ∧ marker st = marker (st.drop j)) ⟨_, _, rfl, rfl, rfl⟩ ?_ ?_
  · rintro j hj σ h' ⟨s1, s2, rfl, rfl, e⟩
    rw [marker_drop hj] at e
    unfold m_z_marker_b1
    simp only [↓wp_seq, ↓wp_skip, ↓wp_drop, ↓wp_ret, ↓wp_retN, ↓wp_brk, ↓wp_cnt, ↓wp_if, ↓wp_asg, ↓wp_to, ↓wp_tos, ↓wp_toIx, ↓wp_aug, ↓wp_augK, ↓wp_fldSet, ↓wp_fldAug, ↓wp_var, ↓wp_c, ↓wp_op, ↓wp_un, ↓wp_nil, ↓wp_cons, ↓wp_tup, ↓wp_lst, ↓wp_dict0, ↓wp_dict, ↓wp_pairs0, ↓wp_pairs, ↓wp_call, ↓wp_callF, ↓wp_tru, ↓wp_bl, ↓wp_and, ↓wp_or, ↓wp_not, ↓wp_andV, ↓wp_orV, ↓wp_notV, ↓wp_part, ↓wp_noPart, ↓wp_sl, ↓wp_bm, ↓wp_ifE, ↓wp_fld, ↓wp_meth, ↓wp_make, ↓wp_lockE, ↓wp_rng1, ↓wp_rng2, ↓wp_seqI, ↓wpR_ok, ↓wpS_nx, ↓wpS_rt, List.getElem?_cons_zero, List.getElem?_cons_succ, List.set_cons_zero, List.set_cons_succ, List.length_cons, List.length_nil, ↓reduceIte, decide_eq_true_eq, ev_add, ev_iadd, ev_sub, ev_mod, ev_neg, ev_lt, ev_le, ev_gt, ev_ge, ev_eqI, ev_neI, ev_eqS, ev_neS, ev_isN, ev_int, ev_abs, ev_max, ev_min, ev_lenT, ev_lenC, ev_tupT, Int.reduceLT, Int.reduceLE, Int.reduceNeg, Int.reduceAdd, Int.reduceSub, Int.reduceEq, Nat.reduceAdd, Nat.reduceSub, and_self, ↓List.map_cons, ↓List.map_nil, ↓List.cons_append, ↓List.nil_append, List.replicate, ixT0, ixT1, ixT2, ixT3, ixTm1, ixTm2, ixTm3, onH_get, onH_set, onH_push, onH_len, mkB_get, mkB_set, mkB_push, mkB_len, mkB_next, Option.getD_some, Option.getD_none, sz0, sz1, sz2, sz3, sz4, sz5, sz6, sz7, sz8, sz9, ev_keyI, ev_keyS, ev_eqB, ev_neB, wp_one, wp_yes, wp_valsI, wp_keysI, wp_lcE, Bool.false_eq_true, Bool.not_eq_true', decide_eq_false_iff_not, Bool.not_true, Bool.not_false, ite_and2, ite_or2, ite_tand, not_true_eq_false, not_false_eq_true, ev_lenL g, stD_len, st_ix g hj, isS]
    cases q : st[j] with
    | col n =>
      rw [q] at e
      simp only [↓wp_seq, ↓wp_skip, ↓wp_drop, ↓wp_ret, ↓wp_retN, ↓wp_brk, ↓wp_cnt, ↓wp_if, ↓wp_asg, ↓wp_to, ↓wp_tos, ↓wp_toIx, ↓wp_aug, ↓wp_augK, ↓wp_fldSet, ↓wp_fldAug, ↓wp_var, ↓wp_c, ↓wp_op, ↓wp_un, ↓wp_nil, ↓wp_cons, ↓wp_tup, ↓wp_lst, ↓wp_dict0, ↓wp_dict, ↓wp_pairs0, ↓wp_pairs, ↓wp_call, ↓wp_callF, ↓wp_tru, ↓wp_bl, ↓wp_and, ↓wp_or, ↓wp_not, ↓wp_andV, ↓wp_orV, ↓wp_notV, ↓wp_part, ↓wp_noPart, ↓wp_sl, ↓wp_bm, ↓wp_ifE, ↓wp_fld, ↓wp_meth, ↓wp_make, ↓wp_lockE, ↓wp_rng1, ↓wp_rng2, ↓wp_seqI, ↓wpR_ok, ↓wpS_nx, ↓wpS_rt, List.getElem?_cons_zero, List.getElem?_cons_succ, List.set_cons_zero, List.set_cons_succ, List.length_cons, List.length_nil, ↓reduceIte, decide_eq_true_eq, ev_add, ev_iadd, ev_sub, ev_mod, ev_neg, ev_lt, ev_le, ev_gt, ev_ge, ev_eqI, ev_neI, ev_eqS, ev_neS, ev_isN, ev_int, ev_abs, ev_max, ev_min, ev_lenT, ev_lenC, ev_tupT, Int.reduceLT, Int.reduceLE, Int.reduceNeg, Int.reduceAdd, Int.reduceSub, Int.reduceEq, Nat.reduceAdd, Nat.reduceSub, and_self, ↓List.map_cons, ↓List.map_nil, ↓List.cons_append, ↓List.nil_append, List.replicate, ixT0, ixT1, ixT2, ixT3, ixTm1, ixTm2, ixTm3, onH_get, onH_set, onH_push, onH_len, mkB_get, mkB_set, mkB_push, mkB_len, mkB_next, Option.getD_some, Option.getD_none, sz0, sz1, sz2, sz3, sz4, sz5, sz6, sz7, sz8, sz9, ev_keyI, ev_keyS, ev_eqB, ev_neB, wp_one, wp_yes, wp_valsI, wp_keysI, wp_lcE, Bool.false_eq_true, Bool.not_eq_true', decide_eq_false_iff_not, Bool.not_true, Bool.not_false, ite_and2, ite_or2, ite_tand, not_true_eq_false, not_false_eq_true, truB, isCol]
      exact ⟨_, _, by trivial, by trivial, e⟩
    | mark x =>
      rw [q] at e
      simp only [↓wp_seq, ↓wp_skip, ↓wp_drop, ↓wp_ret, ↓wp_retN, ↓wp_brk, ↓wp_cnt, ↓wp_if, ↓wp_asg, ↓wp_to, ↓wp_tos, ↓wp_toIx, ↓wp_aug, ↓wp_augK, ↓wp_fldSet, ↓wp_fldAug, ↓wp_var, ↓wp_c, ↓wp_op, ↓wp_un, ↓wp_nil, ↓wp_cons, ↓wp_tup, ↓wp_lst, ↓wp_dict0, ↓wp_dict, ↓wp_pairs0, ↓wp_pairs, ↓wp_call, ↓wp_callF, ↓wp_tru, ↓wp_bl, ↓wp_and, ↓wp_or, ↓wp_not, ↓wp_andV, ↓wp_orV, ↓wp_notV, ↓wp_part, ↓wp_noPart, ↓wp_sl, ↓wp_bm, ↓wp_ifE, ↓wp_fld, ↓wp_meth, ↓wp_make, ↓wp_lockE, ↓wp_rng1, ↓wp_rng2, ↓wp_seqI, ↓wpR_ok, ↓wpS_nx, ↓wpS_rt, List.getElem?_cons_zero, List.getElem?_cons_succ, List.set_cons_zero, List.set_cons_succ, List.length_cons, List.length_nil, ↓reduceIte, decide_eq_true_eq, ev_add, ev_iadd, ev_sub, ev_mod, ev_neg, ev_lt, ev_le, ev_gt, ev_ge, ev_eqI, ev_neI, ev_eqS, ev_neS, ev_isN, ev_int, ev_abs, ev_max, ev_min, ev_lenT, ev_lenC, ev_tupT, Int.reduceLT, Int.reduceLE, Int.reduceNeg, Int.reduceAdd, Int.reduceSub, Int.reduceEq, Nat.reduceAdd, Nat.reduceSub, and_self, ↓List.map_cons, ↓List.map_nil, ↓List.cons_append, ↓List.nil_append, List.replicate, ixT0, ixT1, ixT2, ixT3, ixTm1, ixTm2, ixTm3, onH_get, onH_set, onH_push, onH_len, mkB_get, mkB_set, mkB_push, mkB_len, mkB_next, Option.getD_some, Option.getD_none, sz0, sz1, sz2, sz3, sz4, sz5, sz6, sz7, sz8, sz9, ev_keyI, ev_keyS, ev_eqB, ev_neB, wp_one, wp_yes, wp_valsI, wp_keysI, wp_lcE, Bool.false_eq_true, Bool.not_eq_true', decide_eq_false_iff_not, Bool.not_true, Bool.not_false, ite_and2, ite_or2, ite_tand, not_true_eq_false, not_false_eq_true, truB, isCol]
      rw [e] at k
      exact k
  · rintro σ h' ⟨s1, s2, rfl, rfl, e⟩
    rw [List.drop_length] at e
    unfold m_z_marker_r2
    simp only [↓wp_seq, ↓wp_skip, ↓wp_drop, ↓wp_ret, ↓wp_retN, ↓wp_brk, ↓wp_cnt, ↓wp_if, ↓wp_asg, ↓wp_to, ↓wp_tos, ↓wp_toIx, ↓wp_aug, ↓wp_augK, ↓wp_fldSet, ↓wp_fldAug, ↓wp_var, ↓wp_c, ↓wp_op, ↓wp_un, ↓wp_nil, ↓wp_cons, ↓wp_tup, ↓wp_lst, ↓wp_dict0, ↓wp_dict, ↓wp_pairs0, ↓wp_pairs, ↓wp_call, ↓wp_callF, ↓wp_tru, ↓wp_bl, ↓wp_and, ↓wp_or, ↓wp_not, ↓wp_andV, ↓wp_orV, ↓wp_notV, ↓wp_part, ↓wp_noPart, ↓wp_sl, ↓wp_bm, ↓wp_ifE, ↓wp_fld, ↓wp_meth, ↓wp_make, ↓wp_lockE, ↓wp_rng1, ↓wp_rng2, ↓wp_seqI, ↓wpR_ok, ↓wpS_nx, ↓wpS_rt, List.getElem?_cons_zero, List.getElem?_cons_succ, List.set_cons_zero, List.set_cons_succ, List.length_cons, List.length_nil, ↓reduceIte, decide_eq_true_eq, ev_add, ev_iadd, ev_sub, ev_mod, ev_neg, ev_lt, ev_le, ev_gt, ev_ge, ev_eqI, ev_neI, ev_eqS, ev_neS, ev_isN, ev_int, ev_abs, ev_max, ev_min, ev_lenT, ev_lenC, ev_tupT, Int.reduceLT, Int.reduceLE, Int.reduceNeg, Int.reduceAdd, Int.reduceSub, Int.reduceEq, Nat.reduceAdd, Nat.reduceSub, and_self, ↓List.map_cons, ↓List.map_nil, ↓List.cons_append, ↓List.nil_append, List.replicate, ixT0, ixT1, ixT2, ixT3, ixTm1, ixTm2, ixTm3, onH_get, onH_set, onH_push, onH_len, mkB_get, mkB_set, mkB_push, mkB_len, mkB_next, Option.getD_some, Option.getD_none, sz0, sz1, sz2, sz3, sz4, sz5, sz6, sz7, sz8, sz9, ev_keyI, ev_keyS, ev_eqB, ev_neB, wp_one, wp_yes, wp_valsI, wp_keysI, wp_lcE, Bool.false_eq_true, Bool.not_eq_true', decide_eq_false_iff_not, Bool.not_true, Bool.not_false, ite_and2, ite_or2, ite_tand, not_true_eq_false, not_false_eq_true]
    rw [e] at k
    exact k
theorem zinner_ok (g : h[sp]? = some (.lst (stD st))) (hl : st.length < 100000) (k : P (.int (inner st)) h) : wpR (f_z_inner cs [.ref sp] h) P X := by
  unfold f_z_inner m_z_inner
  simp only [↓wp_seq, ↓wp_skip, ↓wp_drop, ↓wp_ret, ↓wp_retN, ↓wp_brk, ↓wp_cnt, ↓wp_if, ↓wp_asg, ↓wp_to, ↓wp_tos, ↓wp_toIx, ↓wp_aug, ↓wp_augK, ↓wp_fldSet, ↓wp_fldAug, ↓wp_var, ↓wp_c, ↓wp_op, ↓wp_un, ↓wp_nil, ↓wp_cons, ↓wp_tup, ↓wp_lst, ↓wp_dict0, ↓wp_dict, ↓wp_pairs0, ↓wp_pairs, ↓wp_call, ↓wp_callF, ↓wp_tru, ↓wp_bl, ↓wp_and, ↓wp_or, ↓wp_not, ↓wp_andV, ↓wp_orV, ↓wp_notV, ↓wp_part, ↓wp_noPart, ↓wp_sl, ↓wp_bm, ↓wp_ifE, ↓wp_fld, ↓wp_meth, ↓wp_make, ↓wp_lockE, ↓wp_rng1, ↓wp_rng2, ↓wp_seqI, ↓wpR_ok, ↓wpS_nx, ↓wpS_rt, List.getElem?_cons_zero, List.getElem?_cons_succ, List.set_cons_zero, List.set_cons_succ, List.length_cons, List.length_nil, ↓reduceIte, decide_eq_true_eq, ev_add, ev_iadd, ev_sub, ev_mod, ev_neg, ev_lt, ev_le, ev_gt, ev_ge, ev_eqI, ev_neI, ev_eqS, ev_neS, ev_isN, ev_int, ev_abs, ev_max, ev_min, ev_lenT, ev_lenC, ev_tupT, Int.reduceLT, Int.reduceLE, Int.reduceNeg, Int.reduceAdd, Int.reduceSub, Int.reduceEq, Nat.reduceAdd, Nat.reduceSub, and_self, ↓List.map_cons, ↓List.map_nil, ↓List.cons_append, ↓List.nil_append, List.replicate, ixT0, ixT1, ixT2, ixT3, ixTm1, ixTm2, ixTm3, onH_get, onH_set, onH_push, onH_len, mkB_get, mkB_set, mkB_push, mkB_len, mkB_next, Option.getD_some, Option.getD_none, sz0, sz1, sz2, sz3, sz4, sz5, sz6, sz7, sz8, sz9, ev_keyI, ev_keyS, ev_eqB, ev_neB, wp_one, wp_yes, wp_valsI, wp_keysI, wp_lcE, Bool.false_eq_true, Bool.not_eq_true', decide_eq_false_iff_not, Bool.not_true, Bool.not_false, ite_and2, ite_or2, ite_tand, not_true_eq_false, not_false_eq_true, ↓wp_runB, ↓wp_forE, ev_lenL g, stD_len]
  rw [if_pos (by omega)]
  refine wp_forUp (fun j σ h' => ∃ s1 s2 : Option D, σ = [some (.ref sp), s1, s2] ∧ h' = h ∧ inner st = inner (st.drop j)) ⟨_, _, rfl, rfl, rfl⟩ ?_ ?_
  · rintro j hj σ h' ⟨s1, s2, rfl, rfl, e⟩
    rw [inner_drop hj] at e
    unfold m_z_inner_b1
    simp only [↓wp_seq, ↓wp_skip, ↓wp_drop, ↓wp_ret, ↓wp_retN, ↓wp_brk, ↓wp_cnt, ↓wp_if, ↓wp_asg, ↓wp_to, ↓wp_tos, ↓wp_toIx, ↓wp_aug, ↓wp_augK, ↓wp_fldSet, ↓wp_fldAug, ↓wp_var, ↓wp_c, ↓wp_op, ↓wp_un, ↓wp_nil, ↓wp_cons, ↓wp_tup, ↓wp_lst, ↓wp_dict0, ↓wp_dict, ↓wp_pairs0, ↓wp_pairs, ↓wp_call, ↓wp_callF, ↓wp_tru, ↓wp_bl, ↓wp_and, ↓wp_or, ↓wp_not, ↓wp_andV, ↓wp_orV, ↓wp_notV, ↓wp_part, ↓wp_noPart, ↓wp_sl, ↓wp_bm, ↓wp_ifE, ↓wp_fld, ↓wp_meth, ↓wp_make, ↓wp_lockE, ↓wp_rng1, ↓wp_rng2, ↓wp_seqI, ↓wpR_ok, ↓wpS_nx, ↓wpS_rt, List.getElem?_cons_zero, List.getElem?_cons_succ, List.set_cons_zero, List.set_cons_succ, List.length_cons, List.length_nil, ↓reduceIte, decide_eq_true_eq, ev_add, ev_iadd, ev_sub, ev_mod, ev_neg, ev_lt, ev_le, ev_gt, ev_ge, ev_eqI, ev_neI, ev_eqS, ev_neS, ev_isN, ev_int, ev_abs, ev_max, ev_min, ev_lenT, ev_lenC, ev_tupT, Int.reduceLT, Int.reduceLE, Int.reduceNeg, Int.reduceAdd, Int.reduceSub, Int.reduceEq, Nat.reduceAdd, Nat.reduceSub, and_self, ↓List.map_cons, ↓List.map_nil, ↓List.cons_append, ↓List.nil_append, List.replicate, ixT0, ixT1, ixT2, ixT3, ixTm1, ixTm2, ixTm3, onH_get, onH_set, onH_push, onH_len, mkB_get, mkB_set, mkB_push, mkB_len, mkB_next, Option.getD_some, Option.getD_none, sz0, sz1, sz2, sz3, sz4, sz5, sz6, sz7, sz8, sz9, ev_keyI, ev_keyS, ev_eqB, ev_neB, wp_one, wp_yes, wp_valsI, wp_keysI, wp_lcE, Bool.false_eq_true, Bool.not_eq_true', decide_eq_false_iff_not, Bool.not_true, Bool.not_false, ite_and2, ite_or2, ite_tand, not_true_eq_false, not_false_eq_true, ev_lenL g, stD_len, st_ix g hj, isI]
    cases q : st[j] with
    | mark n =>
      rw [q] at e
      simp only [↓wp_seq, ↓wp_skip, ↓wp_drop, ↓wp_ret, ↓wp_retN, ↓wp_brk, ↓wp_cnt, ↓wp_if, ↓wp_asg, ↓wp_to, ↓wp_tos, ↓wp_toIx, ↓wp_aug, ↓wp_augK, ↓wp_fldSet, ↓wp_fldAug, ↓wp_var, ↓wp_c, ↓wp_op, ↓wp_un, ↓wp_nil, ↓wp_cons, ↓wp_tup, ↓wp_lst, ↓wp_dict0, ↓wp_dict, ↓wp_pairs0, ↓wp_pairs, ↓wp_call, ↓wp_callF, ↓wp_tru, ↓wp_bl, ↓wp_and, ↓wp_or, ↓wp_not, ↓wp_andV, ↓wp_orV, ↓wp_notV, ↓wp_part, ↓wp_noPart, ↓wp_sl, ↓wp_bm, ↓wp_ifE, ↓wp_fld, ↓wp_meth, ↓wp_make, ↓wp_lockE, ↓wp_rng1, ↓wp_rng2, ↓wp_seqI, ↓wpR_ok, ↓wpS_nx, ↓wpS_rt, List.getElem?_cons_zero, List.getElem?_cons_succ, List.set_cons_zero, List.set_cons_succ, List.length_cons, List.length_nil, ↓reduceIte, decide_eq_true_eq, ev_add, ev_iadd, ev_sub, ev_mod, ev_neg, ev_lt, ev_le, ev_gt, ev_ge, ev_eqI, ev_neI, ev_eqS, ev_neS, ev_isN, ev_int, ev_abs, ev_max, ev_min, ev_lenT, ev_lenC, ev_tupT, Int.reduceLT, Int.reduceLE, Int.reduceNeg, Int.reduceAdd, Int.reduceSub, Int.reduceEq, Nat.reduceAdd, Nat.reduceSub, and_self, ↓List.map_cons, ↓List.map_nil, ↓List.cons_append, ↓List.nil_append, List.replicate, ixT0, ixT1, ixT2, ixT3, ixTm1, ixTm2, ixTm3, onH_get, onH_set, onH_push, onH_len, mkB_get, mkB_set, mkB_push, mkB_len, mkB_next, Option.getD_some, Option.getD_none, sz0, sz1, sz2, sz3, sz4, sz5, sz6, sz7, sz8, sz9, ev_keyI, ev_keyS, ev_eqB, ev_neB, wp_one, wp_yes, wp_valsI, wp_keysI, wp_lcE, Bool.false_eq_true, Bool.not_eq_true', decide_eq_false_iff_not, Bool.not_true, Bool.not_false, ite_and2, ite_or2, ite_tand, not_true_eq_false, not_false_eq_true, truB, isCol]
      exact ⟨_, _, by trivial, by trivial, e⟩
    | col x =>
      rw [q] at e
      simp only [↓wp_seq, ↓wp_skip, ↓wp_drop, ↓wp_ret, ↓wp_retN, ↓wp_brk, ↓wp_cnt, ↓wp_if, ↓wp_asg, ↓wp_to, ↓wp_tos, ↓wp_toIx, ↓wp_aug, ↓wp_augK, ↓wp_fldSet, ↓wp_fldAug, ↓wp_var, ↓wp_c, ↓wp_op, ↓wp_un, ↓wp_nil, ↓wp_cons, ↓wp_tup, ↓wp_lst, ↓wp_dict0, ↓wp_dict, ↓wp_pairs0, ↓wp_pairs, ↓wp_call, ↓wp_callF, ↓wp_tru, ↓wp_bl, ↓wp_and, ↓wp_or, ↓wp_not, ↓wp_andV, ↓wp_orV, ↓wp_notV, ↓wp_part, ↓wp_noPart, ↓wp_sl, ↓wp_bm, ↓wp_ifE, ↓wp_fld, ↓wp_meth, ↓wp_make, ↓wp_lockE, ↓wp_rng1, ↓wp_rng2, ↓wp_seqI, ↓wpR_ok, ↓wpS_nx, ↓wpS_rt, List.getElem?_cons_zero, List.getElem?_cons_succ, List.set_cons_zero, List.set_cons_succ, List.length_cons, List.length_nil, ↓reduceIte, decide_eq_true_eq, ev_add, ev_iadd, ev_sub, ev_mod, ev_neg, ev_lt, ev_le, ev_gt, ev_ge, ev_eqI, ev_neI, ev_eqS, ev_neS, ev_isN, ev_int, ev_abs, ev_max, ev_min, ev_lenT, ev_lenC, ev_tupT, Int.reduceLT, Int.reduceLE, Int.reduceNeg, Int.reduceAdd, Int.reduceSub, Int.reduceEq, Nat.reduceAdd, Nat.reduceSub, and_self, ↓List.map_cons, ↓List.map_nil, ↓List.cons_append, ↓List.nil_append, List.replicate, ixT0, ixT1, ixT2, ixT3, ixTm1, ixTm2, ixTm3, onH_get, onH_set, onH_push, onH_len, mkB_get, mkB_set, mkB_push, mkB_len, mkB_next, Option.getD_some, Option.getD_none, sz0, sz1, sz2, sz3, sz4, sz5, sz6, sz7, sz8, sz9, ev_keyI, ev_keyS, ev_eqB, ev_neB, wp_one, wp_yes, wp_valsI, wp_keysI, wp_lcE, Bool.false_eq_true, Bool.not_eq_true', decide_eq_false_iff_not, Bool.not_true, Bool.not_false, ite_and2, ite_or2, ite_tand, not_true_eq_false, not_false_eq_true, truB, isCol]
      rw [e] at k
      exact k
  · rintro σ h' ⟨s1, s2, rfl, rfl, e⟩
    rw [List.drop_length] at e
    unfold m_z_inner_r2
    simp only [↓wp_seq, ↓wp_skip, ↓wp_drop, ↓wp_ret, ↓wp_retN, ↓wp_brk, ↓wp_cnt, ↓wp_if, ↓wp_asg, ↓wp_to, ↓wp_tos, ↓wp_toIx, ↓wp_aug, ↓wp_augK, ↓wp_fldSet, ↓wp_fldAug, ↓wp_var, ↓wp_c, ↓wp_op, ↓wp_un, ↓wp_nil, ↓wp_cons, ↓wp_tup, ↓wp_lst, ↓wp_dict0, ↓wp_dict, ↓wp_pairs0, ↓wp_pairs, ↓wp_call, ↓wp_callF, ↓wp_tru, ↓wp_bl, ↓wp_and, ↓wp_or, ↓wp_not, ↓wp_andV, ↓wp_orV, ↓wp_notV, ↓wp_part, ↓wp_noPart, ↓wp_sl, ↓wp_bm, ↓wp_ifE, ↓wp_fld, ↓wp_meth, ↓wp_make, ↓wp_lockE, ↓wp_rng1, ↓wp_rng2, ↓wp_seqI, ↓wpR_ok, ↓wpS_nx, ↓wpS_rt, List.getElem?_cons_zero, List.getElem?_cons_succ, List.set_cons_zero, List.set_cons_succ, List.length_cons, List.length_nil, ↓reduceIte, decide_eq_true_eq, ev_add, ev_iadd, ev_sub, ev_mod, ev_neg, ev_lt, ev_le, ev_gt, ev_ge, ev_eqI, ev_neI, ev_eqS, ev_neS, ev_isN, ev_int, ev_abs, ev_max, ev_min, ev_lenT, ev_lenC, ev_tupT, Int.reduceLT, Int.reduceLE, Int.reduceNeg, Int.reduceAdd, Int.reduceSub, Int.reduceEq, Nat.reduceAdd, Nat.reduceSub, and_self, ↓List.map_cons, ↓List.map_nil, ↓List.cons_append, ↓List.nil_append, List.replicate, ixT0, ixT1, ixT2, ixT3, ixTm1, ixTm2, ixTm3, onH_get, onH_set, onH_push, onH_len, mkB_get, mkB_set, mkB_push, mkB_len, mkB_next, Option.getD_some, Option.getD_none, sz0, sz1, sz2, sz3, sz4, sz5, sz6, sz7, sz8, sz9, ev_keyI, ev_keyS, ev_eqB, ev_neB, wp_one, wp_yes, wp_valsI, wp_keysI, wp_lcE, Bool.false_eq_true, Bool.not_eq_true', decide_eq_false_iff_not, Bool.not_true, Bool.not_false, ite_and2, ite_or2, ite_tand, not_true_eq_false, not_false_eq_true]
    rw [e] at k
    exact k
theorem zsign_ok {x : Str} (k : P (tkD (sg x t)) h) : wpR (f_z_sign cs [.str x, tkD t] h) P X := by
  unfold f_z_sign m_z_sign
  simp only [tkD]
  simp only [↓wp_seq, ↓wp_skip, ↓wp_drop, ↓wp_ret, ↓wp_retN, ↓wp_brk, ↓wp_cnt, ↓wp_if, ↓wp_asg, ↓wp_to, ↓wp_tos, ↓wp_toIx, ↓wp_aug, ↓wp_augK, ↓wp_fldSet, ↓wp_fldAug, ↓wp_var, ↓wp_c, ↓wp_op, ↓wp_un, ↓wp_nil, ↓wp_cons, ↓wp_tup, ↓wp_lst, ↓wp_dict0, ↓wp_dict, ↓wp_pairs0, ↓wp_pairs, ↓wp_call, ↓wp_callF, ↓wp_tru, ↓wp_bl, ↓wp_and, ↓wp_or, ↓wp_not, ↓wp_andV, ↓wp_orV, ↓wp_notV, ↓wp_part, ↓wp_noPart, ↓wp_sl, ↓wp_bm, ↓wp_ifE, ↓wp_fld, ↓wp_meth, ↓wp_make, ↓wp_lockE, ↓wp_rng1, ↓wp_rng2, ↓wp_seqI, ↓wpR_ok, ↓wpS_nx, ↓wpS_rt, List.getElem?_cons_zero, List.getElem?_cons_succ, List.set_cons_zero, List.set_cons_succ, List.length_cons, List.length_nil, ↓reduceIte, decide_eq_true_eq, ev_add, ev_iadd, ev_sub, ev_mod, ev_neg, ev_lt, ev_le, ev_gt, ev_ge, ev_eqI, ev_neI, ev_eqS, ev_neS, ev_isN, ev_int, ev_abs, ev_max, ev_min, ev_lenT, ev_lenC, ev_tupT, Int.reduceLT, Int.reduceLE, Int.reduceNeg, Int.reduceAdd, Int.reduceSub, Int.reduceEq, Nat.reduceAdd, Nat.reduceSub, and_self, ↓List.map_cons, ↓List.map_nil, ↓List.cons_append, ↓List.nil_append, List.replicate, ixT0, ixT1, ixT2, ixT3, ixTm1, ixTm2, ixTm3, onH_get, onH_set, onH_push, onH_len, mkB_get, mkB_set, mkB_push, mkB_len, mkB_next, Option.getD_some, Option.getD_none, sz0, sz1, sz2, sz3, sz4, sz5, sz6, sz7, sz8, sz9, ev_keyI, ev_keyS, ev_eqB, ev_neB, wp_one, wp_yes, wp_valsI, wp_keysI, wp_lcE, Bool.false_eq_true, Bool.not_eq_true', decide_eq_false_iff_not, Bool.not_true, Bool.not_false, ite_and2, ite_or2, ite_tand, not_true_eq_false, not_false_eq_true, ↓wp_runB]
  exact k
end
end K02

set_option Elab.async false
set_option linter.all false
set_option maxRecDepth 100000
set_option maxHeartbeats 1000000
namespace K02
open PySem PySem.Spec PyProof.Rows L2 FL
section
variable {cs : Nat → Addr} {sp fp tp : Nat} {st : List El} {fd : List Tk} {h : HS} {t : Tk} {P : D → HS → Prop} {X : XP}
theorem tru_st (g : G sp fp st fd h) : truB h (.ref sp) = some (!st.isEmpty) := by
  simp only [truB, g.s]
  cases st with
  | nil => rfl
  | cons e st => rw [stD_cons]; simp
theorem zclose_ok (g : G sp fp st fd h) (hl : st.length + fd.length < 100000)
    (k : ∀ h', G sp fp (closeM t st fd).1 (closeM t st fd).2 h' → Fr sp fp h h' → P .non h') : wpR (f_z_close cs [.ref sp, .ref fp, tkD t] h) P X := by
  unfold f_z_close m_z_close
  simp only [↓wp_seq, ↓wp_skip, ↓wp_drop, ↓wp_ret, ↓wp_retN, ↓wp_brk, ↓wp_cnt, ↓wp_if, ↓wp_asg, ↓wp_to, ↓wp_tos, ↓wp_toIx, ↓wp_aug, ↓wp_augK, ↓wp_fldSet, ↓wp_fldAug, ↓wp_var, ↓wp_c, ↓wp_op, ↓wp_un, ↓wp_nil, ↓wp_cons, ↓wp_tup, ↓wp_lst, ↓wp_dict0, ↓wp_dict, ↓wp_pairs0, ↓wp_pairs, ↓wp_call, ↓wp_callF, ↓wp_tru, ↓wp_bl, ↓wp_and, ↓wp_or, ↓wp_not, ↓wp_andV, ↓wp_orV, ↓wp_notV, ↓wp_part, ↓wp_noPart, ↓wp_sl, ↓wp_bm, ↓wp_ifE, ↓wp_fld, ↓wp_meth, ↓wp_make, ↓wp_lockE, ↓wp_rng1, ↓wp_rng2, ↓wp_seqI, ↓wpR_ok, ↓wpS_nx, ↓wpS_rt, List.getElem?_cons_zero, List.getElem?_cons_succ, List.set_cons_zero, List.set_cons_succ, List.length_cons, List.length_nil, ↓reduceIte, decide_eq_true_eq, ev_add, ev_iadd, ev_sub, ev_mod, ev_neg, ev_lt, ev_le, ev_gt, ev_ge, ev_eqI, ev_neI, ev_eqS, ev_neS, ev_isN, ev_int, ev_abs, ev_max, ev_min, ev_lenT, ev_lenC, ev_tupT, Int.reduceLT, Int.reduceLE, Int.reduceNeg, Int.reduceAdd, Int.reduceSub, Int.reduceEq, Nat.reduceAdd, Nat.reduceSub, and_self, ↓List.map_cons, ↓List.map_nil, ↓List.cons_append, ↓List.nil_append, List.replicate, ixT0, ixT1, ixT2, ixT3, ixTm1, ixTm2, ixTm3, onH_get, onH_set, onH_push, onH_len, mkB_get, mkB_set, mkB_push, mkB_len, mkB_next, Option.getD_some, Option.getD_none, sz0, sz1, sz2, sz3, sz4, sz5, sz6, sz7, sz8, sz9, ev_keyI, ev_keyS, ev_eqB, ev_neB, wp_one, wp_yes, wp_valsI, wp_keysI, wp_lcE, Bool.false_eq_true, Bool.not_eq_true', decide_eq_false_iff_not, Bool.not_true, Bool.not_false, ite_and2, ite_or2, ite_tand, not_true_eq_false, not_false_eq_true, ↓wp_runB]
  refine wp_while (fun σ h' => σ = [some (.ref sp), some (.ref fp), some (tkD t)] ∧ Fr sp fp h h' ∧ ∃ st' fd', G sp fp st' fd' h' ∧ closeM t st' fd' = closeM t st fd ∧ st'.length + fd'.length = st.length + fd.length) (fun _ h' => hgt sp h') ⟨by trivial, Fr.refl, st, fd, g, rfl, rfl⟩ ?_
  rintro σ h' ⟨rfl, fr, st', fd', g', ec, el⟩
  have no : topCol st' = false → P .non h' := fun hc => by
    rw [closeM_stop hc] at ec
    refine k _ ?_ fr
    rw [← ec]
    exact g'
  simp only [↓wp_seq, ↓wp_skip, ↓wp_drop, ↓wp_ret, ↓wp_retN, ↓wp_brk, ↓wp_cnt, ↓wp_if, ↓wp_asg, ↓wp_to, ↓wp_tos, ↓wp_toIx, ↓wp_aug, ↓wp_augK, ↓wp_fldSet, ↓wp_fldAug, ↓wp_var, ↓wp_c, ↓wp_op, ↓wp_un, ↓wp_nil, ↓wp_cons, ↓wp_tup, ↓wp_lst, ↓wp_dict0, ↓wp_dict, ↓wp_pairs0, ↓wp_pairs, ↓wp_call, ↓wp_callF, ↓wp_tru, ↓wp_bl, ↓wp_and, ↓wp_or, ↓wp_not, ↓wp_andV, ↓wp_orV, ↓wp_notV, ↓wp_part, ↓wp_noPart, ↓wp_sl, ↓wp_bm, ↓wp_ifE, ↓wp_fld, ↓wp_meth, ↓wp_make, ↓wp_lockE, ↓wp_rng1, ↓wp_rng2, ↓wp_seqI, ↓wpR_ok, ↓wpS_nx, ↓wpS_rt, List.getElem?_cons_zero, List.getElem?_cons_succ, List.set_cons_zero, List.set_cons_succ, List.length_cons, List.length_nil, ↓reduceIte, decide_eq_true_eq, ev_add, ev_iadd, ev_sub, ev_mod, ev_neg, ev_lt, ev_le, ev_gt, ev_ge, ev_eqI, ev_neI, ev_eqS, ev_neS, ev_isN, ev_int, ev_abs, ev_max, ev_min, ev_lenT, ev_lenC, ev_tupT, Int.reduceLT, Int.reduceLE, Int.reduceNeg, Int.reduceAdd, Int.reduceSub, Int.reduceEq, Nat.reduceAdd, Nat.reduceSub, and_self, ↓List.map_cons, ↓List.map_nil, ↓List.cons_append, ↓List.nil_append, List.replicate, ixT0, ixT1, ixT2, ixT3, ixTm1, ixTm2, ixTm3, onH_get, onH_set, onH_push, onH_len, mkB_get, mkB_set, mkB_push, mkB_len, mkB_next, Option.getD_some, Option.getD_none, sz0, sz1, sz2, sz3, sz4, sz5, sz6, sz7, sz8, sz9, ev_keyI, ev_keyS, ev_eqB, ev_neB, wp_one, wp_yes, wp_valsI, wp_keysI, wp_lcE, Bool.false_eq_true, Bool.not_eq_true', decide_eq_false_iff_not, Bool.not_true, Bool.not_false, ite_and2, ite_or2, ite_tand, not_true_eq_false, not_false_eq_true, tru_st g']
  cases st' with
  | nil => exact no rfl
  | cons e r =>
    simp only [↓wp_seq, ↓wp_skip, ↓wp_drop, ↓wp_ret, ↓wp_retN, ↓wp_brk, ↓wp_cnt, ↓wp_if, ↓wp_asg, ↓wp_to, ↓wp_tos, ↓wp_toIx, ↓wp_aug, ↓wp_augK, ↓wp_fldSet, ↓wp_fldAug, ↓wp_var, ↓wp_c, ↓wp_op, ↓wp_un, ↓wp_nil, ↓wp_cons, ↓wp_tup, ↓wp_lst, ↓wp_dict0, ↓wp_dict, ↓wp_pairs0, ↓wp_pairs, ↓wp_call, ↓wp_callF, ↓wp_tru, ↓wp_bl, ↓wp_and, ↓wp_or, ↓wp_not, ↓wp_andV, ↓wp_orV, ↓wp_notV, ↓wp_part, ↓wp_noPart, ↓wp_sl, ↓wp_bm, ↓wp_ifE, ↓wp_fld, ↓wp_meth, ↓wp_make, ↓wp_lockE, ↓wp_rng1, ↓wp_rng2, ↓wp_seqI, ↓wpR_ok, ↓wpS_nx, ↓wpS_rt, List.getElem?_cons_zero, List.getElem?_cons_succ, List.set_cons_zero, List.set_cons_succ, List.length_cons, List.length_nil, ↓reduceIte, decide_eq_true_eq, ev_add, ev_iadd, ev_sub, ev_mod, ev_neg, ev_lt, ev_le, ev_gt, ev_ge, ev_eqI, ev_neI, ev_eqS, ev_neS, ev_isN, ev_int, ev_abs, ev_max, ev_min, ev_lenT, ev_lenC, ev_tupT, Int.reduceLT, Int.reduceLE, Int.reduceNeg, Int.reduceAdd, Int.reduceSub, Int.reduceEq, Nat.reduceAdd, Nat.reduceSub, and_self, ↓List.map_cons, ↓List.map_nil, ↓List.cons_append, ↓List.nil_append, List.replicate, ixT0, ixT1, ixT2, ixT3, ixTm1, ixTm2, ixTm3, onH_get, onH_set, onH_push, onH_len, mkB_get, mkB_set, mkB_push, mkB_len, mkB_next, Option.getD_some, Option.getD_none, sz0, sz1, sz2, sz3, sz4, sz5, sz6, sz7, sz8, sz9, ev_keyI, ev_keyS, ev_eqB, ev_neB, wp_one, wp_yes, wp_valsI, wp_keysI, wp_lcE, Bool.false_eq_true, Bool.not_eq_true', decide_eq_false_iff_not, Bool.not_true, Bool.not_false, ite_and2, ite_or2, ite_tand, not_true_eq_false, not_false_eq_true, List.isEmpty]
    rw [topS_ix g', wpR_ok, isI, wpR_ok]
    cases e with
    | mark x =>
      simp only [↓wp_seq, ↓wp_skip, ↓wp_drop, ↓wp_ret, ↓wp_retN, ↓wp_brk, ↓wp_cnt, ↓wp_if, ↓wp_asg, ↓wp_to, ↓wp_tos, ↓wp_toIx, ↓wp_aug, ↓wp_augK, ↓wp_fldSet, ↓wp_fldAug, ↓wp_var, ↓wp_c, ↓wp_op, ↓wp_un, ↓wp_nil, ↓wp_cons, ↓wp_tup, ↓wp_lst, ↓wp_dict0, ↓wp_dict, ↓wp_pairs0, ↓wp_pairs, ↓wp_call, ↓wp_callF, ↓wp_tru, ↓wp_bl, ↓wp_and, ↓wp_or, ↓wp_not, ↓wp_andV, ↓wp_orV, ↓wp_notV, ↓wp_part, ↓wp_noPart, ↓wp_sl, ↓wp_bm, ↓wp_ifE, ↓wp_fld, ↓wp_meth, ↓wp_make, ↓wp_lockE, ↓wp_rng1, ↓wp_rng2, ↓wp_seqI, ↓wpR_ok, ↓wpS_nx, ↓wpS_rt, List.getElem?_cons_zero, List.getElem?_cons_succ, List.set_cons_zero, List.set_cons_succ, List.length_cons, List.length_nil, ↓reduceIte, decide_eq_true_eq, ev_add, ev_iadd, ev_sub, ev_mod, ev_neg, ev_lt, ev_le, ev_gt, ev_ge, ev_eqI, ev_neI, ev_eqS, ev_neS, ev_isN, ev_int, ev_abs, ev_max, ev_min, ev_lenT, ev_lenC, ev_tupT, Int.reduceLT, Int.reduceLE, Int.reduceNeg, Int.reduceAdd, Int.reduceSub, Int.reduceEq, Nat.reduceAdd, Nat.reduceSub, and_self, ↓List.map_cons, ↓List.map_nil, ↓List.cons_append, ↓List.nil_append, List.replicate, ixT0, ixT1, ixT2, ixT3, ixTm1, ixTm2, ixTm3, onH_get, onH_set, onH_push, onH_len, mkB_get, mkB_set, mkB_push, mkB_len, mkB_next, Option.getD_some, Option.getD_none, sz0, sz1, sz2, sz3, sz4, sz5, sz6, sz7, sz8, sz9, ev_keyI, ev_keyS, ev_eqB, ev_neB, wp_one, wp_yes, wp_valsI, wp_keysI, wp_lcE, Bool.false_eq_true, Bool.not_eq_true', decide_eq_false_iff_not, Bool.not_true, Bool.not_false, ite_and2, ite_or2, ite_tand, not_true_eq_false, not_false_eq_true, isCol, truB]
      exact no rfl
    | col n =>
      unfold m_z_close_b1
      simp only [↓wp_seq, ↓wp_skip, ↓wp_drop, ↓wp_ret, ↓wp_retN, ↓wp_brk, ↓wp_cnt, ↓wp_if, ↓wp_asg, ↓wp_to, ↓wp_tos, ↓wp_toIx, ↓wp_aug, ↓wp_augK, ↓wp_fldSet, ↓wp_fldAug, ↓wp_var, ↓wp_c, ↓wp_op, ↓wp_un, ↓wp_nil, ↓wp_cons, ↓wp_tup, ↓wp_lst, ↓wp_dict0, ↓wp_dict, ↓wp_pairs0, ↓wp_pairs, ↓wp_call, ↓wp_callF, ↓wp_tru, ↓wp_bl, ↓wp_and, ↓wp_or, ↓wp_not, ↓wp_andV, ↓wp_orV, ↓wp_notV, ↓wp_part, ↓wp_noPart, ↓wp_sl, ↓wp_bm, ↓wp_ifE, ↓wp_fld, ↓wp_meth, ↓wp_make, ↓wp_lockE, ↓wp_rng1, ↓wp_rng2, ↓wp_seqI, ↓wpR_ok, ↓wpS_nx, ↓wpS_rt, List.getElem?_cons_zero, List.getElem?_cons_succ, List.set_cons_zero, List.set_cons_succ, List.length_cons, List.length_nil, ↓reduceIte, decide_eq_true_eq, ev_add, ev_iadd, ev_sub, ev_mod, ev_neg, ev_lt, ev_le, ev_gt, ev_ge, ev_eqI, ev_neI, ev_eqS, ev_neS, ev_isN, ev_int, ev_abs, ev_max, ev_min, ev_lenT, ev_lenC, ev_tupT, Int.reduceLT, Int.reduceLE, Int.reduceNeg, Int.reduceAdd, Int.reduceSub, Int.reduceEq, Nat.reduceAdd, Nat.reduceSub, and_self, ↓List.map_cons, ↓List.map_nil, ↓List.cons_append, ↓List.nil_append, List.replicate, ixT0, ixT1, ixT2, ixT3, ixTm1, ixTm2, ixTm3, onH_get, onH_set, onH_push, onH_len, mkB_get, mkB_set, mkB_push, mkB_len, mkB_next, Option.getD_some, Option.getD_none, sz0, sz1, sz2, sz3, sz4, sz5, sz6, sz7, sz8, sz9, ev_keyI, ev_keyS, ev_eqB, ev_neB, wp_one, wp_yes, wp_valsI, wp_keysI, wp_lcE, Bool.false_eq_true, Bool.not_eq_true', decide_eq_false_iff_not, Bool.not_true, Bool.not_false, ite_and2, ite_or2, ite_tand, not_true_eq_false, not_false_eq_true, isCol, truB]
      rw [if_pos (ev_tyL g'.s), popS g', wpR_ok]
      have g2 : G sp fp r fd' (h'.set sp (.lst (stD r))) := g'.setS
      rw [if_pos (ev_tyL g2.f)]
      refine zsign_ok ?_
      simp only [List.length_cons] at el
      rw [pushF (t := sg "}" t) (d := tkD (sg "}" t)) g2 rfl (by omega), wpR_ok]
      refine ⟨⟨by trivial, (fr.trans Fr.setS).trans Fr.setF, r, _, g2.setF, ec, by rw [List.length_append, List.length_cons, List.length_nil]; omega⟩, ?_⟩
      rw [hgt_of (g2.setF (fd' := fd' ++ [sg "}" t])), hgt_of g', List.length_cons]
      exact Nat.lt_succ_self _
theorem eq_top {e : El} {c : Int} : dEq (elD e) (.int c) h = .ok (.bl (match e with | .col n => decide (n = c) | .mark _ => false)) h := by
  cases e with
  | col n => exact ev_eqI
  | mark x => rfl
theorem zfirst_ok (g : G sp fp st fd h) (hl : st.length + fd.length < 90000)
    (k : ∀ h', G sp fp (rowM t st fd).1 (rowM t st fd).2 h' → Fr sp fp h h' → P .non h') : wpR (f_z_first cs [.ref sp, .ref fp, tkD t] h) P X := by
  unfold f_z_first m_z_first
  have et : tkD t = .tup [.str t.k, .str t.x, .int t.r, .int t.c] := rfl
  have et2 : ∀ h, dIx (tkD t) (.int 3) h = .ok (.int t.c) h := fun h => by rw [et, ixT3]
  simp only [↓wp_seq, ↓wp_skip, ↓wp_drop, ↓wp_ret, ↓wp_retN, ↓wp_brk, ↓wp_cnt, ↓wp_if, ↓wp_asg, ↓wp_to, ↓wp_tos, ↓wp_toIx, ↓wp_aug, ↓wp_augK, ↓wp_fldSet, ↓wp_fldAug, ↓wp_var, ↓wp_c, ↓wp_op, ↓wp_un, ↓wp_nil, ↓wp_cons, ↓wp_tup, ↓wp_lst, ↓wp_dict0, ↓wp_dict, ↓wp_pairs0, ↓wp_pairs, ↓wp_call, ↓wp_callF, ↓wp_tru, ↓wp_bl, ↓wp_and, ↓wp_or, ↓wp_not, ↓wp_andV, ↓wp_orV, ↓wp_notV, ↓wp_part, ↓wp_noPart, ↓wp_sl, ↓wp_bm, ↓wp_ifE, ↓wp_fld, ↓wp_meth, ↓wp_make, ↓wp_lockE, ↓wp_rng1, ↓wp_rng2, ↓wp_seqI, ↓wpR_ok, ↓wpS_nx, ↓wpS_rt, List.getElem?_cons_zero, List.getElem?_cons_succ, List.set_cons_zero, List.set_cons_succ, List.length_cons, List.length_nil, ↓reduceIte, decide_eq_true_eq, ev_add, ev_iadd, ev_sub, ev_mod, ev_neg, ev_lt, ev_le, ev_gt, ev_ge, ev_eqI, ev_neI, ev_eqS, ev_neS, ev_isN, ev_int, ev_abs, ev_max, ev_min, ev_lenT, ev_lenC, ev_tupT, Int.reduceLT, Int.reduceLE, Int.reduceNeg, Int.reduceAdd, Int.reduceSub, Int.reduceEq, Nat.reduceAdd, Nat.reduceSub, and_self, ↓List.map_cons, ↓List.map_nil, ↓List.cons_append, ↓List.nil_append, List.replicate, ixT0, ixT1, ixT2, ixT3, ixTm1, ixTm2, ixTm3, onH_get, onH_set, onH_push, onH_len, mkB_get, mkB_set, mkB_push, mkB_len, mkB_next, Option.getD_some, Option.getD_none, sz0, sz1, sz2, sz3, sz4, sz5, sz6, sz7, sz8, sz9, ev_keyI, ev_keyS, ev_eqB, ev_neB, wp_one, wp_yes, wp_valsI, wp_keysI, wp_lcE, Bool.false_eq_true, Bool.not_eq_true', decide_eq_false_iff_not, Bool.not_true, Bool.not_false, ite_and2, ite_or2, ite_tand, not_true_eq_false, not_false_eq_true, ↓wp_runB]
  have fin : ∀ h', Fr sp fp h h' → G sp fp (firstM t st fd).1 (firstM t st fd).2 h' → wpS (m_z_first_r2 cs [some (.ref sp), some (.ref fp), some (tkD t)] h') (fun _ h => P .non h) (Tl.ret P X) := fun h' fr g' => by
    have hs := firstM_sz t st fd
    unfold sz at hs
    unfold rowM at k
    unfold m_z_first_r2
    simp only [↓wp_seq, ↓wp_skip, ↓wp_drop, ↓wp_ret, ↓wp_retN, ↓wp_brk, ↓wp_cnt, ↓wp_if, ↓wp_asg, ↓wp_to, ↓wp_tos, ↓wp_toIx, ↓wp_aug, ↓wp_augK, ↓wp_fldSet, ↓wp_fldAug, ↓wp_var, ↓wp_c, ↓wp_op, ↓wp_un, ↓wp_nil, ↓wp_cons, ↓wp_tup, ↓wp_lst, ↓wp_dict0, ↓wp_dict, ↓wp_pairs0, ↓wp_pairs, ↓wp_call, ↓wp_callF, ↓wp_tru, ↓wp_bl, ↓wp_and, ↓wp_or, ↓wp_not, ↓wp_andV, ↓wp_orV, ↓wp_notV, ↓wp_part, ↓wp_noPart, ↓wp_sl, ↓wp_bm, ↓wp_ifE, ↓wp_fld, ↓wp_meth, ↓wp_make, ↓wp_lockE, ↓wp_rng1, ↓wp_rng2, ↓wp_seqI, ↓wpR_ok, ↓wpS_nx, ↓wpS_rt, List.getElem?_cons_zero, List.getElem?_cons_succ, List.set_cons_zero, List.set_cons_succ, List.length_cons, List.length_nil, ↓reduceIte, decide_eq_true_eq, ev_add, ev_iadd, ev_sub, ev_mod, ev_neg, ev_lt, ev_le, ev_gt, ev_ge, ev_eqI, ev_neI, ev_eqS, ev_neS, ev_isN, ev_int, ev_abs, ev_max, ev_min, ev_lenT, ev_lenC, ev_tupT, Int.reduceLT, Int.reduceLE, Int.reduceNeg, Int.reduceAdd, Int.reduceSub, Int.reduceEq, Nat.reduceAdd, Nat.reduceSub, and_self, ↓List.map_cons, ↓List.map_nil, ↓List.cons_append, ↓List.nil_append, List.replicate, ixT0, ixT1, ixT2, ixT3, ixTm1, ixTm2, ixTm3, onH_get, onH_set, onH_push, onH_len, mkB_get, mkB_set, mkB_push, mkB_len, mkB_next, Option.getD_some, Option.getD_none, sz0, sz1, sz2, sz3, sz4, sz5, sz6, sz7, sz8, sz9, ev_keyI, ev_keyS, ev_eqB, ev_neB, wp_one, wp_yes, wp_valsI, wp_keysI, wp_lcE, Bool.false_eq_true, Bool.not_eq_true', decide_eq_false_iff_not, Bool.not_true, Bool.not_false, ite_and2, ite_or2, ite_tand, not_true_eq_false, not_false_eq_true, tru_st g']
    cases hc : (firstM t st fd).1 with
    | nil =>
      rw [hc] at k
      simp only [↓wp_seq, ↓wp_skip, ↓wp_drop, ↓wp_ret, ↓wp_retN, ↓wp_brk, ↓wp_cnt, ↓wp_if, ↓wp_asg, ↓wp_to, ↓wp_tos, ↓wp_toIx, ↓wp_aug, ↓wp_augK, ↓wp_fldSet, ↓wp_fldAug, ↓wp_var, ↓wp_c, ↓wp_op, ↓wp_un, ↓wp_nil, ↓wp_cons, ↓wp_tup, ↓wp_lst, ↓wp_dict0, ↓wp_dict, ↓wp_pairs0, ↓wp_pairs, ↓wp_call, ↓wp_callF, ↓wp_tru, ↓wp_bl, ↓wp_and, ↓wp_or, ↓wp_not, ↓wp_andV, ↓wp_orV, ↓wp_notV, ↓wp_part, ↓wp_noPart, ↓wp_sl, ↓wp_bm, ↓wp_ifE, ↓wp_fld, ↓wp_meth, ↓wp_make, ↓wp_lockE, ↓wp_rng1, ↓wp_rng2, ↓wp_seqI, ↓wpR_ok, ↓wpS_nx, ↓wpS_rt, List.getElem?_cons_zero, List.getElem?_cons_succ, List.set_cons_zero, List.set_cons_succ, List.length_cons, List.length_nil, ↓reduceIte, decide_eq_true_eq, ev_add, ev_iadd, ev_sub, ev_mod, ev_neg, ev_lt, ev_le, ev_gt, ev_ge, ev_eqI, ev_neI, ev_eqS, ev_neS, ev_isN, ev_int, ev_abs, ev_max, ev_min, ev_lenT, ev_lenC, ev_tupT, Int.reduceLT, Int.reduceLE, Int.reduceNeg, Int.reduceAdd, Int.reduceSub, Int.reduceEq, Nat.reduceAdd, Nat.reduceSub, and_self, ↓List.map_cons, ↓List.map_nil, ↓List.cons_append, ↓List.nil_append, List.replicate, ixT0, ixT1, ixT2, ixT3, ixTm1, ixTm2, ixTm3, onH_get, onH_set, onH_push, onH_len, mkB_get, mkB_set, mkB_push, mkB_len, mkB_next, Option.getD_some, Option.getD_none, sz0, sz1, sz2, sz3, sz4, sz5, sz6, sz7, sz8, sz9, ev_keyI, ev_keyS, ev_eqB, ev_neB, wp_one, wp_yes, wp_valsI, wp_keysI, wp_lcE, Bool.false_eq_true, Bool.not_eq_true', decide_eq_false_iff_not, Bool.not_true, Bool.not_false, ite_and2, ite_or2, ite_tand, not_true_eq_false, not_false_eq_true, List.isEmpty]
      rw [show topIs t.c [] = false from rfl, if_neg (by decide)] at k
      exact k _ g' fr
    | cons e r =>
      rw [hc] at g' k hs
      simp only [↓wp_seq, ↓wp_skip, ↓wp_drop, ↓wp_ret, ↓wp_retN, ↓wp_brk, ↓wp_cnt, ↓wp_if, ↓wp_asg, ↓wp_to, ↓wp_tos, ↓wp_toIx, ↓wp_aug, ↓wp_augK, ↓wp_fldSet, ↓wp_fldAug, ↓wp_var, ↓wp_c, ↓wp_op, ↓wp_un, ↓wp_nil, ↓wp_cons, ↓wp_tup, ↓wp_lst, ↓wp_dict0, ↓wp_dict, ↓wp_pairs0, ↓wp_pairs, ↓wp_call, ↓wp_callF, ↓wp_tru, ↓wp_bl, ↓wp_and, ↓wp_or, ↓wp_not, ↓wp_andV, ↓wp_orV, ↓wp_notV, ↓wp_part, ↓wp_noPart, ↓wp_sl, ↓wp_bm, ↓wp_ifE, ↓wp_fld, ↓wp_meth, ↓wp_make, ↓wp_lockE, ↓wp_rng1, ↓wp_rng2, ↓wp_seqI, ↓wpR_ok, ↓wpS_nx, ↓wpS_rt, List.getElem?_cons_zero, List.getElem?_cons_succ, List.set_cons_zero, List.set_cons_succ, List.length_cons, List.length_nil, ↓reduceIte, decide_eq_true_eq, ev_add, ev_iadd, ev_sub, ev_mod, ev_neg, ev_lt, ev_le, ev_gt, ev_ge, ev_eqI, ev_neI, ev_eqS, ev_neS, ev_isN, ev_int, ev_abs, ev_max, ev_min, ev_lenT, ev_lenC, ev_tupT, Int.reduceLT, Int.reduceLE, Int.reduceNeg, Int.reduceAdd, Int.reduceSub, Int.reduceEq, Nat.reduceAdd, Nat.reduceSub, and_self, ↓List.map_cons, ↓List.map_nil, ↓List.cons_append, ↓List.nil_append, List.replicate, ixT0, ixT1, ixT2, ixT3, ixTm1, ixTm2, ixTm3, onH_get, onH_set, onH_push, onH_len, mkB_get, mkB_set, mkB_push, mkB_len, mkB_next, Option.getD_some, Option.getD_none, sz0, sz1, sz2, sz3, sz4, sz5, sz6, sz7, sz8, sz9, ev_keyI, ev_keyS, ev_eqB, ev_neB, wp_one, wp_yes, wp_valsI, wp_keysI, wp_lcE, Bool.false_eq_true, Bool.not_eq_true', decide_eq_false_iff_not, Bool.not_true, Bool.not_false, ite_and2, ite_or2, ite_tand, not_true_eq_false, not_false_eq_true, List.isEmpty, et2]
      rw [topS_ix g', wpR_ok, eq_top, wpR_ok]
      cases e with
      | mark x =>
        simp only [↓wp_seq, ↓wp_skip, ↓wp_drop, ↓wp_ret, ↓wp_retN, ↓wp_brk, ↓wp_cnt, ↓wp_if, ↓wp_asg, ↓wp_to, ↓wp_tos, ↓wp_toIx, ↓wp_aug, ↓wp_augK, ↓wp_fldSet, ↓wp_fldAug, ↓wp_var, ↓wp_c, ↓wp_op, ↓wp_un, ↓wp_nil, ↓wp_cons, ↓wp_tup, ↓wp_lst, ↓wp_dict0, ↓wp_dict, ↓wp_pairs0, ↓wp_pairs, ↓wp_call, ↓wp_callF, ↓wp_tru, ↓wp_bl, ↓wp_and, ↓wp_or, ↓wp_not, ↓wp_andV, ↓wp_orV, ↓wp_notV, ↓wp_part, ↓wp_noPart, ↓wp_sl, ↓wp_bm, ↓wp_ifE, ↓wp_fld, ↓wp_meth, ↓wp_make, ↓wp_lockE, ↓wp_rng1, ↓wp_rng2, ↓wp_seqI, ↓wpR_ok, ↓wpS_nx, ↓wpS_rt, List.getElem?_cons_zero, List.getElem?_cons_succ, List.set_cons_zero, List.set_cons_succ, List.length_cons, List.length_nil, ↓reduceIte, decide_eq_true_eq, ev_add, ev_iadd, ev_sub, ev_mod, ev_neg, ev_lt, ev_le, ev_gt, ev_ge, ev_eqI, ev_neI, ev_eqS, ev_neS, ev_isN, ev_int, ev_abs, ev_max, ev_min, ev_lenT, ev_lenC, ev_tupT, Int.reduceLT, Int.reduceLE, Int.reduceNeg, Int.reduceAdd, Int.reduceSub, Int.reduceEq, Nat.reduceAdd, Nat.reduceSub, and_self, ↓List.map_cons, ↓List.map_nil, ↓List.cons_append, ↓List.nil_append, List.replicate, ixT0, ixT1, ixT2, ixT3, ixTm1, ixTm2, ixTm3, onH_get, onH_set, onH_push, onH_len, mkB_get, mkB_set, mkB_push, mkB_len, mkB_next, Option.getD_some, Option.getD_none, sz0, sz1, sz2, sz3, sz4, sz5, sz6, sz7, sz8, sz9, ev_keyI, ev_keyS, ev_eqB, ev_neB, wp_one, wp_yes, wp_valsI, wp_keysI, wp_lcE, Bool.false_eq_true, Bool.not_eq_true', decide_eq_false_iff_not, Bool.not_true, Bool.not_false, ite_and2, ite_or2, ite_tand, not_true_eq_false, not_false_eq_true]
        rw [show topIs t.c (.mark x :: r) = false from rfl, if_neg (by decide)] at k
        refine k _ ?_ fr
        rw [hc]
        exact g'
      | col n =>
        simp only [↓wp_seq, ↓wp_skip, ↓wp_drop, ↓wp_ret, ↓wp_retN, ↓wp_brk, ↓wp_cnt, ↓wp_if, ↓wp_asg, ↓wp_to, ↓wp_tos, ↓wp_toIx, ↓wp_aug, ↓wp_augK, ↓wp_fldSet, ↓wp_fldAug, ↓wp_var, ↓wp_c, ↓wp_op, ↓wp_un, ↓wp_nil, ↓wp_cons, ↓wp_tup, ↓wp_lst, ↓wp_dict0, ↓wp_dict, ↓wp_pairs0, ↓wp_pairs, ↓wp_call, ↓wp_callF, ↓wp_tru, ↓wp_bl, ↓wp_and, ↓wp_or, ↓wp_not, ↓wp_andV, ↓wp_orV, ↓wp_notV, ↓wp_part, ↓wp_noPart, ↓wp_sl, ↓wp_bm, ↓wp_ifE, ↓wp_fld, ↓wp_meth, ↓wp_make, ↓wp_lockE, ↓wp_rng1, ↓wp_rng2, ↓wp_seqI, ↓wpR_ok, ↓wpS_nx, ↓wpS_rt, List.getElem?_cons_zero, List.getElem?_cons_succ, List.set_cons_zero, List.set_cons_succ, List.length_cons, List.length_nil, ↓reduceIte, decide_eq_true_eq, ev_add, ev_iadd, ev_sub, ev_mod, ev_neg, ev_lt, ev_le, ev_gt, ev_ge, ev_eqI, ev_neI, ev_eqS, ev_neS, ev_isN, ev_int, ev_abs, ev_max, ev_min, ev_lenT, ev_lenC, ev_tupT, Int.reduceLT, Int.reduceLE, Int.reduceNeg, Int.reduceAdd, Int.reduceSub, Int.reduceEq, Nat.reduceAdd, Nat.reduceSub, and_self, ↓List.map_cons, ↓List.map_nil, ↓List.cons_append, ↓List.nil_append, List.replicate, ixT0, ixT1, ixT2, ixT3, ixTm1, ixTm2, ixTm3, onH_get, onH_set, onH_push, onH_len, mkB_get, mkB_set, mkB_push, mkB_len, mkB_next, Option.getD_some, Option.getD_none, sz0, sz1, sz2, sz3, sz4, sz5, sz6, sz7, sz8, sz9, ev_keyI, ev_keyS, ev_eqB, ev_neB, wp_one, wp_yes, wp_valsI, wp_keysI, wp_lcE, Bool.false_eq_true, Bool.not_eq_true', decide_eq_false_iff_not, Bool.not_true, Bool.not_false, ite_and2, ite_or2, ite_tand, not_true_eq_false, not_false_eq_true]
        refine ite2 (fun c => ?_) (fun c => ?_)
        · rw [topIs, decide_eq_true c, if_pos rfl] at k
          rw [if_pos (ev_tyL g'.f)]
          refine zsign_ok ?_
          simp only [List.length_cons] at hs
          rw [pushF (t := sg ";" t) (d := tkD (sg ";" t)) g' rfl (by omega), wpR_ok]
          exact k _ g'.setF (fr.trans Fr.setF)
        · rw [topIs, decide_eq_false c, if_neg (by decide), hc] at k
          exact k _ g' fr
  refine wp_while (fun σ h' => σ = [some (.ref sp), some (.ref fp), some (tkD t)] ∧ Fr sp fp h h' ∧ ∃ st' fd', G sp fp st' fd' h' ∧ firstM t st' fd' = firstM t st fd ∧ st'.length + fd'.length = st.length + fd.length) (fun _ h' => hgt sp h') ⟨by trivial, Fr.refl, st, fd, g, rfl, rfl⟩ ?_
  rintro σ h' ⟨rfl, fr, st', fd', g', ec, el⟩
  have no : topCol st' = false → wpS (m_z_first_r2 cs [some (.ref sp), some (.ref fp), some (tkD t)] h') (fun _ h => P .non h) (Tl.ret P X) := fun hc => by
    rw [firstM_stop hc] at ec
    refine fin _ fr ?_
    rw [← ec]
    exact g'
  simp only [↓wp_seq, ↓wp_skip, ↓wp_drop, ↓wp_ret, ↓wp_retN, ↓wp_brk, ↓wp_cnt, ↓wp_if, ↓wp_asg, ↓wp_to, ↓wp_tos, ↓wp_toIx, ↓wp_aug, ↓wp_augK, ↓wp_fldSet, ↓wp_fldAug, ↓wp_var, ↓wp_c, ↓wp_op, ↓wp_un, ↓wp_nil, ↓wp_cons, ↓wp_tup, ↓wp_lst, ↓wp_dict0, ↓wp_dict, ↓wp_pairs0, ↓wp_pairs, ↓wp_call, ↓wp_callF, ↓wp_tru, ↓wp_bl, ↓wp_and, ↓wp_or, ↓wp_not, ↓wp_andV, ↓wp_orV, ↓wp_notV, ↓wp_part, ↓wp_noPart, ↓wp_sl, ↓wp_bm, ↓wp_ifE, ↓wp_fld, ↓wp_meth, ↓wp_make, ↓wp_lockE, ↓wp_rng1, ↓wp_rng2, ↓wp_seqI, ↓wpR_ok, ↓wpS_nx, ↓wpS_rt, List.getElem?_cons_zero, List.getElem?_cons_succ, List.set_cons_zero, List.set_cons_succ, List.length_cons, List.length_nil, ↓reduceIte, decide_eq_true_eq, ev_add, ev_iadd, ev_sub, ev_mod, ev_neg, ev_lt, ev_le, ev_gt, ev_ge, ev_eqI, ev_neI, ev_eqS, ev_neS, ev_isN, ev_int, ev_abs, ev_max, ev_min, ev_lenT, ev_lenC, ev_tupT, Int.reduceLT, Int.reduceLE, Int.reduceNeg, Int.reduceAdd, Int.reduceSub, Int.reduceEq, Nat.reduceAdd, Nat.reduceSub, and_self, ↓List.map_cons, ↓List.map_nil, ↓List.cons_append, ↓List.nil_append, List.replicate, ixT0, ixT1, ixT2, ixT3, ixTm1, ixTm2, ixTm3, onH_get, onH_set, onH_push, onH_len, mkB_get, mkB_set, mkB_push, mkB_len, mkB_next, Option.getD_some, Option.getD_none, sz0, sz1, sz2, sz3, sz4, sz5, sz6, sz7, sz8, sz9, ev_keyI, ev_keyS, ev_eqB, ev_neB, wp_one, wp_yes, wp_valsI, wp_keysI, wp_lcE, Bool.false_eq_true, Bool.not_eq_true', decide_eq_false_iff_not, Bool.not_true, Bool.not_false, ite_and2, ite_or2, ite_tand, not_true_eq_false, not_false_eq_true, tru_st g']
  cases st' with
  | nil => exact no rfl
  | cons e r =>
    simp only [↓wp_seq, ↓wp_skip, ↓wp_drop, ↓wp_ret, ↓wp_retN, ↓wp_brk, ↓wp_cnt, ↓wp_if, ↓wp_asg, ↓wp_to, ↓wp_tos, ↓wp_toIx, ↓wp_aug, ↓wp_augK, ↓wp_fldSet, ↓wp_fldAug, ↓wp_var, ↓wp_c, ↓wp_op, ↓wp_un, ↓wp_nil, ↓wp_cons, ↓wp_tup, ↓wp_lst, ↓wp_dict0, ↓wp_dict, ↓wp_pairs0, ↓wp_pairs, ↓wp_call, ↓wp_callF, ↓wp_tru, ↓wp_bl, ↓wp_and, ↓wp_or, ↓wp_not, ↓wp_andV, ↓wp_orV, ↓wp_notV, ↓wp_part, ↓wp_noPart, ↓wp_sl, ↓wp_bm, ↓wp_ifE, ↓wp_fld, ↓wp_meth, ↓wp_make, ↓wp_lockE, ↓wp_rng1, ↓wp_rng2, ↓wp_seqI, ↓wpR_ok, ↓wpS_nx, ↓wpS_rt, List.getElem?_cons_zero, List.getElem?_cons_succ, List.set_cons_zero, List.set_cons_succ, List.length_cons, List.length_nil, ↓reduceIte, decide_eq_true_eq, ev_add, ev_iadd, ev_sub, ev_mod, ev_neg, ev_lt, ev_le, ev_gt, ev_ge, ev_eqI, ev_neI, ev_eqS, ev_neS, ev_isN, ev_int, ev_abs, ev_max, ev_min, ev_lenT, ev_lenC, ev_tupT, Int.reduceLT, Int.reduceLE, Int.reduceNeg, Int.reduceAdd, Int.reduceSub, Int.reduceEq, Nat.reduceAdd, Nat.reduceSub, and_self, ↓List.map_cons, ↓List.map_nil, ↓List.cons_append, ↓List.nil_append, List.replicate, ixT0, ixT1, ixT2, ixT3, ixTm1, ixTm2, ixTm3, onH_get, onH_set, onH_push, onH_len, mkB_get, mkB_set, mkB_push, mkB_len, mkB_next, Option.getD_some, Option.getD_none, sz0, sz1, sz2, sz3, sz4, sz5, sz6, sz7, sz8, sz9, ev_keyI, ev_keyS, ev_eqB, ev_neB, wp_one, wp_yes, wp_valsI, wp_keysI, wp_lcE, Bool.false_eq_true, Bool.not_eq_true', decide_eq_false_iff_not, Bool.not_true, Bool.not_false, ite_and2, ite_or2, ite_tand, not_true_eq_false, not_false_eq_true, List.isEmpty]
    rw [topS_ix g', wpR_ok, isI, wpR_ok]
    cases e with
    | mark x =>
      simp only [↓wp_seq, ↓wp_skip, ↓wp_drop, ↓wp_ret, ↓wp_retN, ↓wp_brk, ↓wp_cnt, ↓wp_if, ↓wp_asg, ↓wp_to, ↓wp_tos, ↓wp_toIx, ↓wp_aug, ↓wp_augK, ↓wp_fldSet, ↓wp_fldAug, ↓wp_var, ↓wp_c, ↓wp_op, ↓wp_un, ↓wp_nil, ↓wp_cons, ↓wp_tup, ↓wp_lst, ↓wp_dict0, ↓wp_dict, ↓wp_pairs0, ↓wp_pairs, ↓wp_call, ↓wp_callF, ↓wp_tru, ↓wp_bl, ↓wp_and, ↓wp_or, ↓wp_not, ↓wp_andV, ↓wp_orV, ↓wp_notV, ↓wp_part, ↓wp_noPart, ↓wp_sl, ↓wp_bm, ↓wp_ifE, ↓wp_fld, ↓wp_meth, ↓wp_make, ↓wp_lockE, ↓wp_rng1, ↓wp_rng2, ↓wp_seqI, ↓wpR_ok, ↓wpS_nx, ↓wpS_rt, List.getElem?_cons_zero, List.getElem?_cons_succ, List.set_cons_zero, List.set_cons_succ, List.length_cons, List.length_nil, ↓reduceIte, decide_eq_true_eq, ev_add, ev_iadd, ev_sub, ev_mod, ev_neg, ev_lt, ev_le, ev_gt, ev_ge, ev_eqI, ev_neI, ev_eqS, ev_neS, ev_isN, ev_int, ev_abs, ev_max, ev_min, ev_lenT, ev_lenC, ev_tupT, Int.reduceLT, Int.reduceLE, Int.reduceNeg, Int.reduceAdd, Int.reduceSub, Int.reduceEq, Nat.reduceAdd, Nat.reduceSub, and_self, ↓List.map_cons, ↓List.map_nil, ↓List.cons_append, ↓List.nil_append, List.replicate, ixT0, ixT1, ixT2, ixT3, ixTm1, ixTm2, ixTm3, onH_get, onH_set, onH_push, onH_len, mkB_get, mkB_set, mkB_push, mkB_len, mkB_next, Option.getD_some, Option.getD_none, sz0, sz1, sz2, sz3, sz4, sz5, sz6, sz7, sz8, sz9, ev_keyI, ev_keyS, ev_eqB, ev_neB, wp_one, wp_yes, wp_valsI, wp_keysI, wp_lcE, Bool.false_eq_true, Bool.not_eq_true', decide_eq_false_iff_not, Bool.not_true, Bool.not_false, ite_and2, ite_or2, ite_tand, not_true_eq_false, not_false_eq_true, isCol, truB]
      exact no rfl
    | col n =>
      simp only [↓wp_seq, ↓wp_skip, ↓wp_drop, ↓wp_ret, ↓wp_retN, ↓wp_brk, ↓wp_cnt, ↓wp_if, ↓wp_asg, ↓wp_to, ↓wp_tos, ↓wp_toIx, ↓wp_aug, ↓wp_augK, ↓wp_fldSet, ↓wp_fldAug, ↓wp_var, ↓wp_c, ↓wp_op, ↓wp_un, ↓wp_nil, ↓wp_cons, ↓wp_tup, ↓wp_lst, ↓wp_dict0, ↓wp_dict, ↓wp_pairs0, ↓wp_pairs, ↓wp_call, ↓wp_callF, ↓wp_tru, ↓wp_bl, ↓wp_and, ↓wp_or, ↓wp_not, ↓wp_andV, ↓wp_orV, ↓wp_notV, ↓wp_part, ↓wp_noPart, ↓wp_sl, ↓wp_bm, ↓wp_ifE, ↓wp_fld, ↓wp_meth, ↓wp_make, ↓wp_lockE, ↓wp_rng1, ↓wp_rng2, ↓wp_seqI, ↓wpR_ok, ↓wpS_nx, ↓wpS_rt, List.getElem?_cons_zero, List.getElem?_cons_succ, List.set_cons_zero, List.set_cons_succ, List.length_cons, List.length_nil, ↓reduceIte, decide_eq_true_eq, ev_add, ev_iadd, ev_sub, ev_mod, ev_neg, ev_lt, ev_le, ev_gt, ev_ge, ev_eqI, ev_neI, ev_eqS, ev_neS, ev_isN, ev_int, ev_abs, ev_max, ev_min, ev_lenT, ev_lenC, ev_tupT, Int.reduceLT, Int.reduceLE, Int.reduceNeg, Int.reduceAdd, Int.reduceSub, Int.reduceEq, Nat.reduceAdd, Nat.reduceSub, and_self, ↓List.map_cons, ↓List.map_nil, ↓List.cons_append, ↓List.nil_append, List.replicate, ixT0, ixT1, ixT2, ixT3, ixTm1, ixTm2, ixTm3, onH_get, onH_set, onH_push, onH_len, mkB_get, mkB_set, mkB_push, mkB_len, mkB_next, Option.getD_some, Option.getD_none, sz0, sz1, sz2, sz3, sz4, sz5, sz6, sz7, sz8, sz9, ev_keyI, ev_keyS, ev_eqB, ev_neB, wp_one, wp_yes, wp_valsI, wp_keysI, wp_lcE, Bool.false_eq_true, Bool.not_eq_true', decide_eq_false_iff_not, Bool.not_true, Bool.not_false, ite_and2, ite_or2, ite_tand, not_true_eq_false, not_false_eq_true, isCol, truB, et2]
      rw [topS_ix g', wpR_ok]
      simp only [↓wp_seq, ↓wp_skip, ↓wp_drop, ↓wp_ret, ↓wp_retN, ↓wp_brk, ↓wp_cnt, ↓wp_if, ↓wp_asg, ↓wp_to, ↓wp_tos, ↓wp_toIx, ↓wp_aug, ↓wp_augK, ↓wp_fldSet, ↓wp_fldAug, ↓wp_var, ↓wp_c, ↓wp_op, ↓wp_un, ↓wp_nil, ↓wp_cons, ↓wp_tup, ↓wp_lst, ↓wp_dict0, ↓wp_dict, ↓wp_pairs0, ↓wp_pairs, ↓wp_call, ↓wp_callF, ↓wp_tru, ↓wp_bl, ↓wp_and, ↓wp_or, ↓wp_not, ↓wp_andV, ↓wp_orV, ↓wp_notV, ↓wp_part, ↓wp_noPart, ↓wp_sl, ↓wp_bm, ↓wp_ifE, ↓wp_fld, ↓wp_meth, ↓wp_make, ↓wp_lockE, ↓wp_rng1, ↓wp_rng2, ↓wp_seqI, ↓wpR_ok, ↓wpS_nx, ↓wpS_rt, List.getElem?_cons_zero, List.getElem?_cons_succ, List.set_cons_zero, List.set_cons_succ, List.length_cons, List.length_nil, ↓reduceIte, decide_eq_true_eq, ev_add, ev_iadd, ev_sub, ev_mod, ev_neg, ev_lt, ev_le, ev_gt, ev_ge, ev_eqI, ev_neI, ev_eqS, ev_neS, ev_isN, ev_int, ev_abs, ev_max, ev_min, ev_lenT, ev_lenC, ev_tupT, Int.reduceLT, Int.reduceLE, Int.reduceNeg, Int.reduceAdd, Int.reduceSub, Int.reduceEq, Nat.reduceAdd, Nat.reduceSub, and_self, ↓List.map_cons, ↓List.map_nil, ↓List.cons_append, ↓List.nil_append, List.replicate, ixT0, ixT1, ixT2, ixT3, ixTm1, ixTm2, ixTm3, onH_get, onH_set, onH_push, onH_len, mkB_get, mkB_set, mkB_push, mkB_len, mkB_next, Option.getD_some, Option.getD_none, sz0, sz1, sz2, sz3, sz4, sz5, sz6, sz7, sz8, sz9, ev_keyI, ev_keyS, ev_eqB, ev_neB, wp_one, wp_yes, wp_valsI, wp_keysI, wp_lcE, Bool.false_eq_true, Bool.not_eq_true', decide_eq_false_iff_not, Bool.not_true, Bool.not_false, ite_and2, ite_or2, ite_tand, not_true_eq_false, not_false_eq_true, elD]
      refine ite2 (fun c => ?_) (fun c => ?_)
      · rw [firstM, if_pos c] at ec
        unfold m_z_first_b1
        simp only [↓wp_seq, ↓wp_skip, ↓wp_drop, ↓wp_ret, ↓wp_retN, ↓wp_brk, ↓wp_cnt, ↓wp_if, ↓wp_asg, ↓wp_to, ↓wp_tos, ↓wp_toIx, ↓wp_aug, ↓wp_augK, ↓wp_fldSet, ↓wp_fldAug, ↓wp_var, ↓wp_c, ↓wp_op, ↓wp_un, ↓wp_nil, ↓wp_cons, ↓wp_tup, ↓wp_lst, ↓wp_dict0, ↓wp_dict, ↓wp_pairs0, ↓wp_pairs, ↓wp_call, ↓wp_callF, ↓wp_tru, ↓wp_bl, ↓wp_and, ↓wp_or, ↓wp_not, ↓wp_andV, ↓wp_orV, ↓wp_notV, ↓wp_part, ↓wp_noPart, ↓wp_sl, ↓wp_bm, ↓wp_ifE, ↓wp_fld, ↓wp_meth, ↓wp_make, ↓wp_lockE, ↓wp_rng1, ↓wp_rng2, ↓wp_seqI, ↓wpR_ok, ↓wpS_nx, ↓wpS_rt, List.getElem?_cons_zero, List.getElem?_cons_succ, List.set_cons_zero, List.set_cons_succ, List.length_cons, List.length_nil, ↓reduceIte, decide_eq_true_eq, ev_add, ev_iadd, ev_sub, ev_mod, ev_neg, ev_lt, ev_le, ev_gt, ev_ge, ev_eqI, ev_neI, ev_eqS, ev_neS, ev_isN, ev_int, ev_abs, ev_max, ev_min, ev_lenT, ev_lenC, ev_tupT, Int.reduceLT, Int.reduceLE, Int.reduceNeg, Int.reduceAdd, Int.reduceSub, Int.reduceEq, Nat.reduceAdd, Nat.reduceSub, and_self, ↓List.map_cons, ↓List.map_nil, ↓List.cons_append, ↓List.nil_append, List.replicate, ixT0, ixT1, ixT2, ixT3, ixTm1, ixTm2, ixTm3, onH_get, onH_set, onH_push, onH_len, mkB_get, mkB_set, mkB_push, mkB_len, mkB_next, Option.getD_some, Option.getD_none, sz0, sz1, sz2, sz3, sz4, sz5, sz6, sz7, sz8, sz9, ev_keyI, ev_keyS, ev_eqB, ev_neB, wp_one, wp_yes, wp_valsI, wp_keysI, wp_lcE, Bool.false_eq_true, Bool.not_eq_true', decide_eq_false_iff_not, Bool.not_true, Bool.not_false, ite_and2, ite_or2, ite_tand, not_true_eq_false, not_false_eq_true]
        rw [if_pos (ev_tyL g'.s), popS g', wpR_ok]
        have g2 : G sp fp r fd' (h'.set sp (.lst (stD r))) := g'.setS
        rw [if_pos (ev_tyL g2.f)]
        refine zsign_ok ?_
        simp only [List.length_cons] at el
        rw [pushF (t := sg "}" t) (d := tkD (sg "}" t)) g2 rfl (by omega), wpR_ok]
        refine ⟨⟨by trivial, (fr.trans Fr.setS).trans Fr.setF, r, _, g2.setF, ec, by rw [List.length_append, List.length_cons, List.length_nil]; omega⟩, ?_⟩
        rw [hgt_of (g2.setF (fd' := fd' ++ [sg "}" t])), hgt_of g', List.length_cons]
        exact Nat.lt_succ_self _
      · rw [firstM, if_neg c] at ec
        refine fin _ fr ?_
        rw [← ec]
        exact g'
theorem zopens_ok (g : G sp fp st fd h) (hl : st.length + fd.length < 90000)
    (k : ∀ h', G sp fp (opensM t st fd).2.1 (opensM t st fd).2.2 h' → Fr sp fp h h' → P (.bl (opensM t st fd).1) h') : wpR (f_z_opens cs [.ref sp, .ref fp, tkD t] h) P X := by
  unfold f_z_opens m_z_opens
  have et : tkD t = .tup [.str t.k, .str t.x, .int t.r, .int t.c] := rfl
  have et0 : ∀ h, dIx (tkD t) (.int 0) h = .ok (.str t.k) h := fun h => by rw [et, ixT0]
  have et1 : ∀ h, dIx (tkD t) (.int 1) h = .ok (.str t.x) h := fun h => by rw [et, ixT1]
  have et2 : ∀ h, dIx (tkD t) (.int 3) h = .ok (.int t.c) h := fun h => by rw [et, ixT3]
  simp only [↓wp_seq, ↓wp_skip, ↓wp_drop, ↓wp_ret, ↓wp_retN, ↓wp_brk, ↓wp_cnt, ↓wp_if, ↓wp_asg, ↓wp_to, ↓wp_tos, ↓wp_toIx, ↓wp_aug, ↓wp_augK, ↓wp_fldSet, ↓wp_fldAug, ↓wp_var, ↓wp_c, ↓wp_op, ↓wp_un, ↓wp_nil, ↓wp_cons, ↓wp_tup, ↓wp_lst, ↓wp_dict0, ↓wp_dict, ↓wp_pairs0, ↓wp_pairs, ↓wp_call, ↓wp_callF, ↓wp_tru, ↓wp_bl, ↓wp_and, ↓wp_or, ↓wp_not, ↓wp_andV, ↓wp_orV, ↓wp_notV, ↓wp_part, ↓wp_noPart, ↓wp_sl, ↓wp_bm, ↓wp_ifE, ↓wp_fld, ↓wp_meth, ↓wp_make, ↓wp_lockE, ↓wp_rng1, ↓wp_rng2, ↓wp_seqI, ↓wpR_ok, ↓wpS_nx, ↓wpS_rt, List.getElem?_cons_zero, List.getElem?_cons_succ, List.set_cons_zero, List.set_cons_succ, List.length_cons, List.length_nil, ↓reduceIte, decide_eq_true_eq, ev_add, ev_iadd, ev_sub, ev_mod, ev_neg, ev_lt, ev_le, ev_gt, ev_ge, ev_eqI, ev_neI, ev_eqS, ev_neS, ev_isN, ev_int, ev_abs, ev_max, ev_min, ev_lenT, ev_lenC, ev_tupT, Int.reduceLT, Int.reduceLE, Int.reduceNeg, Int.reduceAdd, Int.reduceSub, Int.reduceEq, Nat.reduceAdd, Nat.reduceSub, and_self, ↓List.map_cons, ↓List.map_nil, ↓List.cons_append, ↓List.nil_append, List.replicate, ixT0, ixT1, ixT2, ixT3, ixTm1, ixTm2, ixTm3, onH_get, onH_set, onH_push, onH_len, mkB_get, mkB_set, mkB_push, mkB_len, mkB_next, Option.getD_some, Option.getD_none, sz0, sz1, sz2, sz3, sz4, sz5, sz6, sz7, sz8, sz9, ev_keyI, ev_keyS, ev_eqB, ev_neB, wp_one, wp_yes, wp_valsI, wp_keysI, wp_lcE, Bool.false_eq_true, Bool.not_eq_true', decide_eq_false_iff_not, Bool.not_true, Bool.not_false, ite_and2, ite_or2, ite_tand, not_true_eq_false, not_false_eq_true, ↓wp_runB, et0, et1, et2]
  unfold opensM at k
  refine ite2 (fun c => ?_) (fun c => ?_)
  · rw [if_pos c.symm] at k
    exact k _ g Fr.refl
  · rw [if_neg fun z => c z.symm] at k
    rw [if_pos (ev_tyL g.f)]
    refine zsign_ok ?_
    rw [pushF (t := sg "{" t) (d := tkD (sg "{" t)) g rfl (by omega), wpR_ok]
    have g2 : G sp fp st (fd ++ [sg "{" t]) (h.set fp (.lst ((fd ++ [sg "{" t]).map tkD))) := g.setF
    have f2 : Fr sp fp h (h.set fp (.lst ((fd ++ [sg "{" t]).map tkD))) := Fr.setF
    generalize (h.set fp (.lst ((fd ++ [sg "{" t]).map tkD))) = h2 at g2 f2 ⊢
    have no : ¬(t.k ≠ "end" ∧ inner st < t.c) → (if tyMD "list" h2 (.ref fp) = true then wpR (f_z_sign cs [.str "}", tkD t] h2) (fun x h => wpR (dAppend (.ref fp) [x] h) (fun _ h => P (.bl false) h) X) X else False) := fun c2 => by
      rw [if_neg c2] at k
      rw [if_pos (ev_tyL g2.f)]
      refine zsign_ok ?_
      rw [pushF (t := sg "}" t) (d := tkD (sg "}" t)) g2 rfl (by rw [List.length_append, List.length_cons, List.length_nil]; omega), wpR_ok]
      exact k _ g2.setF (f2.trans Fr.setF)
    refine ite2 (fun c2 => no (fun z => z.1 c2)) (fun c2 => ?_)
    refine zinner_ok g2.s (by omega) ?_
    simp only [↓wp_seq, ↓wp_skip, ↓wp_drop, ↓wp_ret, ↓wp_retN, ↓wp_brk, ↓wp_cnt, ↓wp_if, ↓wp_asg, ↓wp_to, ↓wp_tos, ↓wp_toIx, ↓wp_aug, ↓wp_augK, ↓wp_fldSet, ↓wp_fldAug, ↓wp_var, ↓wp_c, ↓wp_op, ↓wp_un, ↓wp_nil, ↓wp_cons, ↓wp_tup, ↓wp_lst, ↓wp_dict0, ↓wp_dict, ↓wp_pairs0, ↓wp_pairs, ↓wp_call, ↓wp_callF, ↓wp_tru, ↓wp_bl, ↓wp_and, ↓wp_or, ↓wp_not, ↓wp_andV, ↓wp_orV, ↓wp_notV, ↓wp_part, ↓wp_noPart, ↓wp_sl, ↓wp_bm, ↓wp_ifE, ↓wp_fld, ↓wp_meth, ↓wp_make, ↓wp_lockE, ↓wp_rng1, ↓wp_rng2, ↓wp_seqI, ↓wpR_ok, ↓wpS_nx, ↓wpS_rt, List.getElem?_cons_zero, List.getElem?_cons_succ, List.set_cons_zero, List.set_cons_succ, List.length_cons, List.length_nil, ↓reduceIte, decide_eq_true_eq, ev_add, ev_iadd, ev_sub, ev_mod, ev_neg, ev_lt, ev_le, ev_gt, ev_ge, ev_eqI, ev_neI, ev_eqS, ev_neS, ev_isN, ev_int, ev_abs, ev_max, ev_min, ev_lenT, ev_lenC, ev_tupT, Int.reduceLT, Int.reduceLE, Int.reduceNeg, Int.reduceAdd, Int.reduceSub, Int.reduceEq, Nat.reduceAdd, Nat.reduceSub, and_self, ↓List.map_cons, ↓List.map_nil, ↓List.cons_append, ↓List.nil_append, List.replicate, ixT0, ixT1, ixT2, ixT3, ixTm1, ixTm2, ixTm3, onH_get, onH_set, onH_push, onH_len, mkB_get, mkB_set, mkB_push, mkB_len, mkB_next, Option.getD_some, Option.getD_none, sz0, sz1, sz2, sz3, sz4, sz5, sz6, sz7, sz8, sz9, ev_keyI, ev_keyS, ev_eqB, ev_neB, wp_one, wp_yes, wp_valsI, wp_keysI, wp_lcE, Bool.false_eq_true, Bool.not_eq_true', decide_eq_false_iff_not, Bool.not_true, Bool.not_false, ite_and2, ite_or2, ite_tand, not_true_eq_false, not_false_eq_true]
    refine ite2 (fun c3 => no (fun z => by have := z.2; omega)) (fun c3 => ?_)
    rw [if_pos ⟨c2, by omega⟩] at k
    rw [if_pos (ev_tyL g2.s), pushS (e := .col t.c) (d := .int t.c) g2 rfl (by omega), wpR_ok]
    exact k _ g2.setS (f2.trans Fr.setS)
theorem closeM_marker_eq : ∀ (st : List El) (fd : List Tk), marker (closeM t st fd).1 = marker st
  | .col n :: st, fd => closeM_marker_eq st _
  | .mark x :: st, fd => rfl
  | [], fd => rfl
def cbK : List (Key × D) := cbL.map fun p => (.inr p.1, .str p.2)
theorem cbK_get (x : Str) : getK cbK (.inr x) = (cb x).map D.str := by
  have gen : ∀ l : List (Str × Str), getK (l.map fun p => ((.inr p.1 : Key), D.str p.2)) (.inr x) = ((l.find? fun p => decide (p.1 = x)).map (·.2)).map D.str := by
    intro l
    induction l with
    | nil => rfl
    | cons p l ih =>
      by_cases c : p.1 = x
      · simp [getK, c]
      · simp only [getK, List.map_cons, List.find?_cons, Sum.inr.injEq, c, decide_false] at ih ⊢
        exact ih
  exact gen cbL
theorem in_cbK {q : Nat} {x : Str} (hq : h[q]? = some (.dK cbK)) : dIn (.str x) (.ref q) h = .ok (.bl (cb x).isSome) h := by
  have e1 : itemsD h (.ref q) = none := by simp only [itemsD, hq]
  have e2 : dictD h (.ref q) = some cbK := by simp only [dictD, hq]
  unfold dIn inB
  rw [e1]
  simp only [e2, keyD, Option.map, cbK_get]
  cases cb x <;> rfl
theorem ix_cbK {q : Nat} {x m : Str} (hq : h[q]? = some (.dK cbK)) (hx : cb x = some m) : dIx (.ref q) (.str x) h = .ok (.str m) h := by
  simp only [dIx, hq, ixKD, keyD, cbK_get, hx, Option.map]
theorem zr1_ok {N : Sl → HS → Prop} {T : Tl} {a2 a4 a5 : Option D} {p : List El × List Tk} (g : G sp fp p.1 p.2 h) (hl : p.1.length < 90000)
    (k : ∀ h', G sp fp (eff3 t p).1 (eff3 t p).2 h' → Fr sp fp h h' → N [some (.ref sp), some (.ref fp), a2, some (.str t.x), a4, a5] h') :
    wpS (m_z_effect_r1 cs [some (.ref sp), some (.ref fp), a2, some (.str t.x), a4, a5] h) N T := by
  unfold m_z_effect_r1
  unfold eff3 at k
  simp only [↓wp_seq, ↓wp_skip, ↓wp_drop, ↓wp_ret, ↓wp_retN, ↓wp_brk, ↓wp_cnt, ↓wp_if, ↓wp_asg, ↓wp_to, ↓wp_tos, ↓wp_toIx, ↓wp_aug, ↓wp_augK, ↓wp_fldSet, ↓wp_fldAug, ↓wp_var, ↓wp_c, ↓wp_op, ↓wp_un, ↓wp_nil, ↓wp_cons, ↓wp_tup, ↓wp_lst, ↓wp_dict0, ↓wp_dict, ↓wp_pairs0, ↓wp_pairs, ↓wp_call, ↓wp_callF, ↓wp_tru, ↓wp_bl, ↓wp_and, ↓wp_or, ↓wp_not, ↓wp_andV, ↓wp_orV, ↓wp_notV, ↓wp_part, ↓wp_noPart, ↓wp_sl, ↓wp_bm, ↓wp_ifE, ↓wp_fld, ↓wp_meth, ↓wp_make, ↓wp_lockE, ↓wp_rng1, ↓wp_rng2, ↓wp_seqI, ↓wpR_ok, ↓wpS_nx, ↓wpS_rt, List.getElem?_cons_zero, List.getElem?_cons_succ, List.set_cons_zero, List.set_cons_succ, List.length_cons, List.length_nil, ↓reduceIte, decide_eq_true_eq, ev_add, ev_iadd, ev_sub, ev_mod, ev_neg, ev_lt, ev_le, ev_gt, ev_ge, ev_eqI, ev_neI, ev_eqS, ev_neS, ev_isN, ev_int, ev_abs, ev_max, ev_min, ev_lenT, ev_lenC, ev_tupT, Int.reduceLT, Int.reduceLE, Int.reduceNeg, Int.reduceAdd, Int.reduceSub, Int.reduceEq, Nat.reduceAdd, Nat.reduceSub, and_self, ↓List.map_cons, ↓List.map_nil, ↓List.cons_append, ↓List.nil_append, List.replicate, ixT0, ixT1, ixT2, ixT3, ixTm1, ixTm2, ixTm3, onH_get, onH_set, onH_push, onH_len, mkB_get, mkB_set, mkB_push, mkB_len, mkB_next, Option.getD_some, Option.getD_none, sz0, sz1, sz2, sz3, sz4, sz5, sz6, sz7, sz8, sz9, ev_keyI, ev_keyS, ev_eqB, ev_neB, wp_one, wp_yes, wp_valsI, wp_keysI, wp_lcE, Bool.false_eq_true, Bool.not_eq_true', decide_eq_false_iff_not, Bool.not_true, Bool.not_false, ite_and2, ite_or2, ite_tand, not_true_eq_false, not_false_eq_true, inMks]
  refine ite2 (fun c => ?_) (fun c => ?_)
  · rw [if_pos c] at k
    rw [if_pos (ev_tyL g.s), pushS (e := .mark t.x) (d := .str t.x) g rfl (by omega), wpR_ok]
    exact k _ g.setS Fr.setS
  · rw [if_neg c] at k
    exact k _ g Fr.refl
theorem zeffect_ok (g : G sp fp st fd h) (hl : st.length + fd.length < 70000)
    (k : ∀ h', G sp fp (effM t (st, fd)).1 (effM t (st, fd)).2 h' → Fr sp fp h h' → P .non h') : wpR (f_z_effect cs [.ref sp, .ref fp, tkD t] h) P X := by
  unfold f_z_effect m_z_effect
  have et : tkD t = .tup [.str t.k, .str t.x, .int t.r, .int t.c] := rfl
  have et1 : ∀ h, dIx (tkD t) (.int 1) h = .ok (.str t.x) h := fun h => by rw [et, ixT1]
  have hs := effM_sz t (st, fd)
  have hs1 := eff1_sz t (st, fd)
  have hs2 := eff2_sz t (eff1 t (st, fd))
  unfold sz at hs hs1 hs2
  have mid : ∀ h', G sp fp (eff1 t (st, fd)).1 (eff1 t (st, fd)).2 h' → Fr sp fp h h' → marker (eff1 t (st, fd)).1 = marker st →
      wpS (m_z_effect_r2 cs [some (.ref sp), some (.ref fp), some (tkD t), some (.str t.x), some (.str (marker st)), none] h') (fun _ h => P .non h) (Tl.ret P X) := fun h' g' f' em => by
    unfold m_z_effect_r2
    simp only [↓wp_seq, ↓wp_skip, ↓wp_drop, ↓wp_ret, ↓wp_retN, ↓wp_brk, ↓wp_cnt, ↓wp_if, ↓wp_asg, ↓wp_to, ↓wp_tos, ↓wp_toIx, ↓wp_aug, ↓wp_augK, ↓wp_fldSet, ↓wp_fldAug, ↓wp_var, ↓wp_c, ↓wp_op, ↓wp_un, ↓wp_nil, ↓wp_cons, ↓wp_tup, ↓wp_lst, ↓wp_dict0, ↓wp_dict, ↓wp_pairs0, ↓wp_pairs, ↓wp_call, ↓wp_callF, ↓wp_tru, ↓wp_bl, ↓wp_and, ↓wp_or, ↓wp_not, ↓wp_andV, ↓wp_orV, ↓wp_notV, ↓wp_part, ↓wp_noPart, ↓wp_sl, ↓wp_bm, ↓wp_ifE, ↓wp_fld, ↓wp_meth, ↓wp_make, ↓wp_lockE, ↓wp_rng1, ↓wp_rng2, ↓wp_seqI, ↓wpR_ok, ↓wpS_nx, ↓wpS_rt, List.getElem?_cons_zero, List.getElem?_cons_succ, List.set_cons_zero, List.set_cons_succ, List.length_cons, List.length_nil, ↓reduceIte, decide_eq_true_eq, ev_add, ev_iadd, ev_sub, ev_mod, ev_neg, ev_lt, ev_le, ev_gt, ev_ge, ev_eqI, ev_neI, ev_eqS, ev_neS, ev_isN, ev_int, ev_abs, ev_max, ev_min, ev_lenT, ev_lenC, ev_tupT, Int.reduceLT, Int.reduceLE, Int.reduceNeg, Int.reduceAdd, Int.reduceSub, Int.reduceEq, Nat.reduceAdd, Nat.reduceSub, and_self, ↓List.map_cons, ↓List.map_nil, ↓List.cons_append, ↓List.nil_append, List.replicate, ixT0, ixT1, ixT2, ixT3, ixTm1, ixTm2, ixTm3, onH_get, onH_set, onH_push, onH_len, mkB_get, mkB_set, mkB_push, mkB_len, mkB_next, Option.getD_some, Option.getD_none, sz0, sz1, sz2, sz3, sz4, sz5, sz6, sz7, sz8, sz9, ev_keyI, ev_keyS, ev_eqB, ev_neB, wp_one, wp_yes, wp_valsI, wp_keysI, wp_lcE, Bool.false_eq_true, Bool.not_eq_true', decide_eq_false_iff_not, Bool.not_true, Bool.not_false, ite_and2, ite_or2, ite_tand, not_true_eq_false, not_false_eq_true]
    rw [if_pos (by decide)]
    have ed : mergeD [] [((.inr ")" : Key), D.str "("), (.inr "]", .str "["), (.inr "}", .str "{"), (.inr "in", .str "let"), (.inr "of", .str "case"), (.inr "then", .str "if"), (.inr "else", .str "then")] = cbK := by rfl
    rw [ed]
    have g2 : G sp fp (eff1 t (st, fd)).1 (eff1 t (st, fd)).2 (h' ++ [.dK cbK]) := g'.push
    have f2 : Fr sp fp h (h' ++ [.dK cbK]) := f'.trans Fr.push
    have hq : (h' ++ [.dK cbK])[h'.length]? = some (.dK cbK) := by simp
    generalize (h' ++ [.dK cbK]) = h2 at g2 f2 hq ⊢
    have fin : ∀ h', G sp fp (eff2 t (eff1 t (st, fd))).1 (eff2 t (eff1 t (st, fd))).2 h' → Fr sp fp h h' → ∀ a5, wpS (m_z_effect_r1 cs [some (.ref sp), some (.ref fp), some (tkD t), some (.str t.x), some (.str (marker st)), a5] h') (fun _ h => P .non h) (Tl.ret P X) := fun h' g' f' a5 =>
      zr1_ok g' (by simp only at hs1; omega) fun h3 g3 f3 => k h3 g3 (f'.trans f3)
    rw [in_cbK hq, wpR_ok]
    simp only [↓wp_seq, ↓wp_skip, ↓wp_drop, ↓wp_ret, ↓wp_retN, ↓wp_brk, ↓wp_cnt, ↓wp_if, ↓wp_asg, ↓wp_to, ↓wp_tos, ↓wp_toIx, ↓wp_aug, ↓wp_augK, ↓wp_fldSet, ↓wp_fldAug, ↓wp_var, ↓wp_c, ↓wp_op, ↓wp_un, ↓wp_nil, ↓wp_cons, ↓wp_tup, ↓wp_lst, ↓wp_dict0, ↓wp_dict, ↓wp_pairs0, ↓wp_pairs, ↓wp_call, ↓wp_callF, ↓wp_tru, ↓wp_bl, ↓wp_and, ↓wp_or, ↓wp_not, ↓wp_andV, ↓wp_orV, ↓wp_notV, ↓wp_part, ↓wp_noPart, ↓wp_sl, ↓wp_bm, ↓wp_ifE, ↓wp_fld, ↓wp_meth, ↓wp_make, ↓wp_lockE, ↓wp_rng1, ↓wp_rng2, ↓wp_seqI, ↓wpR_ok, ↓wpS_nx, ↓wpS_rt, List.getElem?_cons_zero, List.getElem?_cons_succ, List.set_cons_zero, List.set_cons_succ, List.length_cons, List.length_nil, ↓reduceIte, decide_eq_true_eq, ev_add, ev_iadd, ev_sub, ev_mod, ev_neg, ev_lt, ev_le, ev_gt, ev_ge, ev_eqI, ev_neI, ev_eqS, ev_neS, ev_isN, ev_int, ev_abs, ev_max, ev_min, ev_lenT, ev_lenC, ev_tupT, Int.reduceLT, Int.reduceLE, Int.reduceNeg, Int.reduceAdd, Int.reduceSub, Int.reduceEq, Nat.reduceAdd, Nat.reduceSub, and_self, ↓List.map_cons, ↓List.map_nil, ↓List.cons_append, ↓List.nil_append, List.replicate, ixT0, ixT1, ixT2, ixT3, ixTm1, ixTm2, ixTm3, onH_get, onH_set, onH_push, onH_len, mkB_get, mkB_set, mkB_push, mkB_len, mkB_next, Option.getD_some, Option.getD_none, sz0, sz1, sz2, sz3, sz4, sz5, sz6, sz7, sz8, sz9, ev_keyI, ev_keyS, ev_eqB, ev_neB, wp_one, wp_yes, wp_valsI, wp_keysI, wp_lcE, Bool.false_eq_true, Bool.not_eq_true', decide_eq_false_iff_not, Bool.not_true, Bool.not_false, ite_and2, ite_or2, ite_tand, not_true_eq_false, not_false_eq_true]
    unfold eff2 at fin
    cases q : cb t.x with
    | none =>
      rw [q] at fin
      simp only [↓wp_seq, ↓wp_skip, ↓wp_drop, ↓wp_ret, ↓wp_retN, ↓wp_brk, ↓wp_cnt, ↓wp_if, ↓wp_asg, ↓wp_to, ↓wp_tos, ↓wp_toIx, ↓wp_aug, ↓wp_augK, ↓wp_fldSet, ↓wp_fldAug, ↓wp_var, ↓wp_c, ↓wp_op, ↓wp_un, ↓wp_nil, ↓wp_cons, ↓wp_tup, ↓wp_lst, ↓wp_dict0, ↓wp_dict, ↓wp_pairs0, ↓wp_pairs, ↓wp_call, ↓wp_callF, ↓wp_tru, ↓wp_bl, ↓wp_and, ↓wp_or, ↓wp_not, ↓wp_andV, ↓wp_orV, ↓wp_notV, ↓wp_part, ↓wp_noPart, ↓wp_sl, ↓wp_bm, ↓wp_ifE, ↓wp_fld, ↓wp_meth, ↓wp_make, ↓wp_lockE, ↓wp_rng1, ↓wp_rng2, ↓wp_seqI, ↓wpR_ok, ↓wpS_nx, ↓wpS_rt, List.getElem?_cons_zero, List.getElem?_cons_succ, List.set_cons_zero, List.set_cons_succ, List.length_cons, List.length_nil, ↓reduceIte, decide_eq_true_eq, ev_add, ev_iadd, ev_sub, ev_mod, ev_neg, ev_lt, ev_le, ev_gt, ev_ge, ev_eqI, ev_neI, ev_eqS, ev_neS, ev_isN, ev_int, ev_abs, ev_max, ev_min, ev_lenT, ev_lenC, ev_tupT, Int.reduceLT, Int.reduceLE, Int.reduceNeg, Int.reduceAdd, Int.reduceSub, Int.reduceEq, Nat.reduceAdd, Nat.reduceSub, and_self, ↓List.map_cons, ↓List.map_nil, ↓List.cons_append, ↓List.nil_append, List.replicate, ixT0, ixT1, ixT2, ixT3, ixTm1, ixTm2, ixTm3, onH_get, onH_set, onH_push, onH_len, mkB_get, mkB_set, mkB_push, mkB_len, mkB_next, Option.getD_some, Option.getD_none, sz0, sz1, sz2, sz3, sz4, sz5, sz6, sz7, sz8, sz9, ev_keyI, ev_keyS, ev_eqB, ev_neB, wp_one, wp_yes, wp_valsI, wp_keysI, wp_lcE, Bool.false_eq_true, Bool.not_eq_true', decide_eq_false_iff_not, Bool.not_true, Bool.not_false, ite_and2, ite_or2, ite_tand, not_true_eq_false, not_false_eq_true, Option.isSome]
      exact fin _ g2 f2 _
    | some m =>
      rw [q] at fin
      simp only [↓wp_seq, ↓wp_skip, ↓wp_drop, ↓wp_ret, ↓wp_retN, ↓wp_brk, ↓wp_cnt, ↓wp_if, ↓wp_asg, ↓wp_to, ↓wp_tos, ↓wp_toIx, ↓wp_aug, ↓wp_augK, ↓wp_fldSet, ↓wp_fldAug, ↓wp_var, ↓wp_c, ↓wp_op, ↓wp_un, ↓wp_nil, ↓wp_cons, ↓wp_tup, ↓wp_lst, ↓wp_dict0, ↓wp_dict, ↓wp_pairs0, ↓wp_pairs, ↓wp_call, ↓wp_callF, ↓wp_tru, ↓wp_bl, ↓wp_and, ↓wp_or, ↓wp_not, ↓wp_andV, ↓wp_orV, ↓wp_notV, ↓wp_part, ↓wp_noPart, ↓wp_sl, ↓wp_bm, ↓wp_ifE, ↓wp_fld, ↓wp_meth, ↓wp_make, ↓wp_lockE, ↓wp_rng1, ↓wp_rng2, ↓wp_seqI, ↓wpR_ok, ↓wpS_nx, ↓wpS_rt, List.getElem?_cons_zero, List.getElem?_cons_succ, List.set_cons_zero, List.set_cons_succ, List.length_cons, List.length_nil, ↓reduceIte, decide_eq_true_eq, ev_add, ev_iadd, ev_sub, ev_mod, ev_neg, ev_lt, ev_le, ev_gt, ev_ge, ev_eqI, ev_neI, ev_eqS, ev_neS, ev_isN, ev_int, ev_abs, ev_max, ev_min, ev_lenT, ev_lenC, ev_tupT, Int.reduceLT, Int.reduceLE, Int.reduceNeg, Int.reduceAdd, Int.reduceSub, Int.reduceEq, Nat.reduceAdd, Nat.reduceSub, and_self, ↓List.map_cons, ↓List.map_nil, ↓List.cons_append, ↓List.nil_append, List.replicate, ixT0, ixT1, ixT2, ixT3, ixTm1, ixTm2, ixTm3, onH_get, onH_set, onH_push, onH_len, mkB_get, mkB_set, mkB_push, mkB_len, mkB_next, Option.getD_some, Option.getD_none, sz0, sz1, sz2, sz3, sz4, sz5, sz6, sz7, sz8, sz9, ev_keyI, ev_keyS, ev_eqB, ev_neB, wp_one, wp_yes, wp_valsI, wp_keysI, wp_lcE, Bool.false_eq_true, Bool.not_eq_true', decide_eq_false_iff_not, Bool.not_true, Bool.not_false, ite_and2, ite_or2, ite_tand, not_true_eq_false, not_false_eq_true, Option.isSome]
      rw [ix_cbK hq q, wpR_ok]
      simp only [↓wp_seq, ↓wp_skip, ↓wp_drop, ↓wp_ret, ↓wp_retN, ↓wp_brk, ↓wp_cnt, ↓wp_if, ↓wp_asg, ↓wp_to, ↓wp_tos, ↓wp_toIx, ↓wp_aug, ↓wp_augK, ↓wp_fldSet, ↓wp_fldAug, ↓wp_var, ↓wp_c, ↓wp_op, ↓wp_un, ↓wp_nil, ↓wp_cons, ↓wp_tup, ↓wp_lst, ↓wp_dict0, ↓wp_dict, ↓wp_pairs0, ↓wp_pairs, ↓wp_call, ↓wp_callF, ↓wp_tru, ↓wp_bl, ↓wp_and, ↓wp_or, ↓wp_not, ↓wp_andV, ↓wp_orV, ↓wp_notV, ↓wp_part, ↓wp_noPart, ↓wp_sl, ↓wp_bm, ↓wp_ifE, ↓wp_fld, ↓wp_meth, ↓wp_make, ↓wp_lockE, ↓wp_rng1, ↓wp_rng2, ↓wp_seqI, ↓wpR_ok, ↓wpS_nx, ↓wpS_rt, List.getElem?_cons_zero, List.getElem?_cons_succ, List.set_cons_zero, List.set_cons_succ, List.length_cons, List.length_nil, ↓reduceIte, decide_eq_true_eq, ev_add, ev_iadd, ev_sub, ev_mod, ev_neg, ev_lt, ev_le, ev_gt, ev_ge, ev_eqI, ev_neI, ev_eqS, ev_neS, ev_isN, ev_int, ev_abs, ev_max, ev_min, ev_lenT, ev_lenC, ev_tupT, Int.reduceLT, Int.reduceLE, Int.reduceNeg, Int.reduceAdd, Int.reduceSub, Int.reduceEq, Nat.reduceAdd, Nat.reduceSub, and_self, ↓List.map_cons, ↓List.map_nil, ↓List.cons_append, ↓List.nil_append, List.replicate, ixT0, ixT1, ixT2, ixT3, ixTm1, ixTm2, ixTm3, onH_get, onH_set, onH_push, onH_len, mkB_get, mkB_set, mkB_push, mkB_len, mkB_next, Option.getD_some, Option.getD_none, sz0, sz1, sz2, sz3, sz4, sz5, sz6, sz7, sz8, sz9, ev_keyI, ev_keyS, ev_eqB, ev_neB, wp_one, wp_yes, wp_valsI, wp_keysI, wp_lcE, Bool.false_eq_true, Bool.not_eq_true', decide_eq_false_iff_not, Bool.not_true, Bool.not_false, ite_and2, ite_or2, ite_tand, not_true_eq_false, not_false_eq_true]
      refine ite2 (fun c => ?_) (fun c => ?_)
      · simp only [em, if_pos c] at fin
        refine zclose_ok g2 (by simp only at hs1; omega) fun h3 g3 f3 => ?_
        have hs3 := closeM_sz t (eff1 t (st, fd)).1 (eff1 t (st, fd)).2
        unfold sz at hs3
        rw [if_pos (ev_tyL g3.s)]
        rcases closeM_marker (t := t) (eff1 t (st, fd)).1 (eff1 t (st, fd)).2 with ⟨x, r, e1, e2⟩ | ⟨e1, e2⟩
        · rw [e1] at g3 fin hs3
          rw [popS g3, wpR_ok]
          have g4 : G sp fp r (closeM t (eff1 t (st, fd)).1 (eff1 t (st, fd)).2).2 (h3.set sp (.lst (stD r))) := g3.setS
          have f4 := f2.trans (f3.trans (Fr.setS (o := .lst (stD r))))
          simp only [List.tail_cons, List.length_cons] at fin hs3
          refine ite2 (fun c2 => ?_) (fun c2 => ?_)
          · rw [if_pos c2] at fin
            rw [if_pos (ev_tyL g4.s), pushS (e := .mark "then") (d := .str "then") g4 rfl (by simp only at hs1; omega), wpR_ok]
            exact fin _ g4.setS (f4.trans Fr.setS) _
          · rw [if_neg c2] at fin
            exact fin _ g4 f4 _
        · exact absurd (c.symm.trans (em.symm.trans e2)) (cb_ne q)
      · simp only [em, if_neg c] at fin
        exact fin _ g2 f2 _
  simp only [↓wp_seq, ↓wp_skip, ↓wp_drop, ↓wp_ret, ↓wp_retN, ↓wp_brk, ↓wp_cnt, ↓wp_if, ↓wp_asg, ↓wp_to, ↓wp_tos, ↓wp_toIx, ↓wp_aug, ↓wp_augK, ↓wp_fldSet, ↓wp_fldAug, ↓wp_var, ↓wp_c, ↓wp_op, ↓wp_un, ↓wp_nil, ↓wp_cons, ↓wp_tup, ↓wp_lst, ↓wp_dict0, ↓wp_dict, ↓wp_pairs0, ↓wp_pairs, ↓wp_call, ↓wp_callF, ↓wp_tru, ↓wp_bl, ↓wp_and, ↓wp_or, ↓wp_not, ↓wp_andV, ↓wp_orV, ↓wp_notV, ↓wp_part, ↓wp_noPart, ↓wp_sl, ↓wp_bm, ↓wp_ifE, ↓wp_fld, ↓wp_meth, ↓wp_make, ↓wp_lockE, ↓wp_rng1, ↓wp_rng2, ↓wp_seqI, ↓wpR_ok, ↓wpS_nx, ↓wpS_rt, List.getElem?_cons_zero, List.getElem?_cons_succ, List.set_cons_zero, List.set_cons_succ, List.length_cons, List.length_nil, ↓reduceIte, decide_eq_true_eq, ev_add, ev_iadd, ev_sub, ev_mod, ev_neg, ev_lt, ev_le, ev_gt, ev_ge, ev_eqI, ev_neI, ev_eqS, ev_neS, ev_isN, ev_int, ev_abs, ev_max, ev_min, ev_lenT, ev_lenC, ev_tupT, Int.reduceLT, Int.reduceLE, Int.reduceNeg, Int.reduceAdd, Int.reduceSub, Int.reduceEq, Nat.reduceAdd, Nat.reduceSub, and_self, ↓List.map_cons, ↓List.map_nil, ↓List.cons_append, ↓List.nil_append, List.replicate, ixT0, ixT1, ixT2, ixT3, ixTm1, ixTm2, ixTm3, onH_get, onH_set, onH_push, onH_len, mkB_get, mkB_set, mkB_push, mkB_len, mkB_next, Option.getD_some, Option.getD_none, sz0, sz1, sz2, sz3, sz4, sz5, sz6, sz7, sz8, sz9, ev_keyI, ev_keyS, ev_eqB, ev_neB, wp_one, wp_yes, wp_valsI, wp_keysI, wp_lcE, Bool.false_eq_true, Bool.not_eq_true', decide_eq_false_iff_not, Bool.not_true, Bool.not_false, ite_and2, ite_or2, ite_tand, not_true_eq_false, not_false_eq_true, ↓wp_runB, et1]
  refine zmarker_ok g.s (by omega) ?_
  simp only [↓wp_seq, ↓wp_skip, ↓wp_drop, ↓wp_ret, ↓wp_retN, ↓wp_brk, ↓wp_cnt, ↓wp_if, ↓wp_asg, ↓wp_to, ↓wp_tos, ↓wp_toIx, ↓wp_aug, ↓wp_augK, ↓wp_fldSet, ↓wp_fldAug, ↓wp_var, ↓wp_c, ↓wp_op, ↓wp_un, ↓wp_nil, ↓wp_cons, ↓wp_tup, ↓wp_lst, ↓wp_dict0, ↓wp_dict, ↓wp_pairs0, ↓wp_pairs, ↓wp_call, ↓wp_callF, ↓wp_tru, ↓wp_bl, ↓wp_and, ↓wp_or, ↓wp_not, ↓wp_andV, ↓wp_orV, ↓wp_notV, ↓wp_part, ↓wp_noPart, ↓wp_sl, ↓wp_bm, ↓wp_ifE, ↓wp_fld, ↓wp_meth, ↓wp_make, ↓wp_lockE, ↓wp_rng1, ↓wp_rng2, ↓wp_seqI, ↓wpR_ok, ↓wpS_nx, ↓wpS_rt, List.getElem?_cons_zero, List.getElem?_cons_succ, List.set_cons_zero, List.set_cons_succ, List.length_cons, List.length_nil, ↓reduceIte, decide_eq_true_eq, ev_add, ev_iadd, ev_sub, ev_mod, ev_neg, ev_lt, ev_le, ev_gt, ev_ge, ev_eqI, ev_neI, ev_eqS, ev_neS, ev_isN, ev_int, ev_abs, ev_max, ev_min, ev_lenT, ev_lenC, ev_tupT, Int.reduceLT, Int.reduceLE, Int.reduceNeg, Int.reduceAdd, Int.reduceSub, Int.reduceEq, Nat.reduceAdd, Nat.reduceSub, and_self, ↓List.map_cons, ↓List.map_nil, ↓List.cons_append, ↓List.nil_append, List.replicate, ixT0, ixT1, ixT2, ixT3, ixTm1, ixTm2, ixTm3, onH_get, onH_set, onH_push, onH_len, mkB_get, mkB_set, mkB_push, mkB_len, mkB_next, Option.getD_some, Option.getD_none, sz0, sz1, sz2, sz3, sz4, sz5, sz6, sz7, sz8, sz9, ev_keyI, ev_keyS, ev_eqB, ev_neB, wp_one, wp_yes, wp_valsI, wp_keysI, wp_lcE, Bool.false_eq_true, Bool.not_eq_true', decide_eq_false_iff_not, Bool.not_true, Bool.not_false, ite_and2, ite_or2, ite_tand, not_true_eq_false, not_false_eq_true, in2]
  unfold eff1 at mid
  refine ite2 (fun c => ?_) (fun c => ?_)
  · rw [if_pos c] at mid
    exact zclose_ok g (by omega) fun h2 g2 f2 => mid h2 g2 f2 (closeM_marker_eq _ _)
  · rw [if_neg c] at mid
    exact mid h g Fr.refl rfl
/-! ### the whole row, the law's way -/
structure Good2 (toks : List Tk) : Prop where
  op : ∀ t ∈ toks, t.x ∈ ops → t.k = "keyword"
  row : ∀ t ∈ toks, 1 ≤ t.r
  last : ∀ (j : Nat) (hj : j < toks.length), toks[j].k = "end" → j + 1 = toks.length
  few : toks.length ≤ 200
def exL (toks : List Tk) (j : Nat) : Bool := match j with
  | 0 => true
  | i + 1 => match toks[i]? with
    | some u => decide (u.x ∈ ops)
    | none => false
def lrL (toks : List Tk) (j : Nat) : Int := match j with
  | 0 => 0
  | i + 1 => match toks[i]? with
    | some u => u.r
    | none => 0
theorem isEx_eq {toks : List Tk} (gd : Good2 toks) {u : Tk} (hu : u ∈ toks) : isEx u = decide (u.x ∈ ops) := by
  unfold isEx
  by_cases c : u.x ∈ ops
  · rw [gd.op u hu c]; simp
  · rw [decide_eq_false c, Bool.and_false]
theorem zend_ok {d0 d3 d5 d6 : Option D} {N : Sl → HS → Prop} {T : Tl} (g : G sp fp st fd h) (hl : st.length + fd.length < 70000)
    (k : ∀ h' d6, G sp fp st (endM t st fd) h' → Fr sp fp h h' → N [d0, some (.ref sp), some (.ref fp), d3, some (tkD t), d5, d6] h') :
    wpR (itRev (.ref sp) h) (fun J h => wpS (forL (mTo 6) (m_z_layout_b1 cs) J J.n 0 [d0, some (.ref sp), some (.ref fp), d3, some (tkD t), d5, d6] h) N T) X := by
  refine wp_forTop g.s (fun j σ h' => ∃ d6 fd', σ = [d0, some (.ref sp), some (.ref fp), d3, some (tkD t), d5, d6] ∧ G sp fp st fd' h' ∧ Fr sp fp h h' ∧ endM t (st.drop j) fd' = endM t st fd ∧ fd'.length ≤ fd.length + j) ⟨_, _, rfl, g, Fr.refl, rfl, Nat.le_refl _⟩ ?_ ?_ ?_
  · rintro j σ h' ⟨_, _, _, g', _⟩
    exact g'.s
  · rintro j hj σ h' ⟨d6, fd', rfl, g', f', e, hn⟩
    rw [List.drop_eq_getElem_cons hj] at e
    unfold m_z_layout_b1
    simp only [↓wp_seq, ↓wp_skip, ↓wp_drop, ↓wp_ret, ↓wp_retN, ↓wp_brk, ↓wp_cnt, ↓wp_if, ↓wp_asg, ↓wp_to, ↓wp_tos, ↓wp_toIx, ↓wp_aug, ↓wp_augK, ↓wp_fldSet, ↓wp_fldAug, ↓wp_var, ↓wp_c, ↓wp_op, ↓wp_un, ↓wp_nil, ↓wp_cons, ↓wp_tup, ↓wp_lst, ↓wp_dict0, ↓wp_dict, ↓wp_pairs0, ↓wp_pairs, ↓wp_call, ↓wp_callF, ↓wp_tru, ↓wp_bl, ↓wp_and, ↓wp_or, ↓wp_not, ↓wp_andV, ↓wp_orV, ↓wp_notV, ↓wp_part, ↓wp_noPart, ↓wp_sl, ↓wp_bm, ↓wp_ifE, ↓wp_fld, ↓wp_meth, ↓wp_make, ↓wp_lockE, ↓wp_rng1, ↓wp_rng2, ↓wp_seqI, ↓wpR_ok, ↓wpS_nx, ↓wpS_rt, List.getElem?_cons_zero, List.getElem?_cons_succ, List.set_cons_zero, List.set_cons_succ, List.length_cons, List.length_nil, ↓reduceIte, decide_eq_true_eq, ev_add, ev_iadd, ev_sub, ev_mod, ev_neg, ev_lt, ev_le, ev_gt, ev_ge, ev_eqI, ev_neI, ev_eqS, ev_neS, ev_isN, ev_int, ev_abs, ev_max, ev_min, ev_lenT, ev_lenC, ev_tupT, Int.reduceLT, Int.reduceLE, Int.reduceNeg, Int.reduceAdd, Int.reduceSub, Int.reduceEq, Nat.reduceAdd, Nat.reduceSub, and_self, ↓List.map_cons, ↓List.map_nil, ↓List.cons_append, ↓List.nil_append, List.replicate, ixT0, ixT1, ixT2, ixT3, ixTm1, ixTm2, ixTm3, onH_get, onH_set, onH_push, onH_len, mkB_get, mkB_set, mkB_push, mkB_len, mkB_next, Option.getD_some, Option.getD_none, sz0, sz1, sz2, sz3, sz4, sz5, sz6, sz7, sz8, sz9, ev_keyI, ev_keyS, ev_eqB, ev_neB, wp_one, wp_yes, wp_valsI, wp_keysI, wp_lcE, Bool.false_eq_true, Bool.not_eq_true', decide_eq_false_iff_not, Bool.not_true, Bool.not_false, ite_and2, ite_or2, ite_tand, not_true_eq_false, not_false_eq_true, isI]
    cases q : st[j] with
    | mark x =>
      rw [q, endM] at e
      simp only [↓wp_seq, ↓wp_skip, ↓wp_drop, ↓wp_ret, ↓wp_retN, ↓wp_brk, ↓wp_cnt, ↓wp_if, ↓wp_asg, ↓wp_to, ↓wp_tos, ↓wp_toIx, ↓wp_aug, ↓wp_augK, ↓wp_fldSet, ↓wp_fldAug, ↓wp_var, ↓wp_c, ↓wp_op, ↓wp_un, ↓wp_nil, ↓wp_cons, ↓wp_tup, ↓wp_lst, ↓wp_dict0, ↓wp_dict, ↓wp_pairs0, ↓wp_pairs, ↓wp_call, ↓wp_callF, ↓wp_tru, ↓wp_bl, ↓wp_and, ↓wp_or, ↓wp_not, ↓wp_andV, ↓wp_orV, ↓wp_notV, ↓wp_part, ↓wp_noPart, ↓wp_sl, ↓wp_bm, ↓wp_ifE, ↓wp_fld, ↓wp_meth, ↓wp_make, ↓wp_lockE, ↓wp_rng1, ↓wp_rng2, ↓wp_seqI, ↓wpR_ok, ↓wpS_nx, ↓wpS_rt, List.getElem?_cons_zero, List.getElem?_cons_succ, List.set_cons_zero, List.set_cons_succ, List.length_cons, List.length_nil, ↓reduceIte, decide_eq_true_eq, ev_add, ev_iadd, ev_sub, ev_mod, ev_neg, ev_lt, ev_le, ev_gt, ev_ge, ev_eqI, ev_neI, ev_eqS, ev_neS, ev_isN, ev_int, ev_abs, ev_max, ev_min, ev_lenT, ev_lenC, ev_tupT, Int.reduceLT, Int.reduceLE, Int.reduceNeg, Int.reduceAdd, Int.reduceSub, Int.reduceEq, Nat.reduceAdd, Nat.reduceSub, and_self, ↓List.map_cons, ↓List.map_nil, ↓List.cons_append, ↓List.nil_append, List.replicate, ixT0, ixT1, ixT2, ixT3, ixTm1, ixTm2, ixTm3, onH_get, onH_set, onH_push, onH_len, mkB_get, mkB_set, mkB_push, mkB_len, mkB_next, Option.getD_some, Option.getD_none, sz0, sz1, sz2, sz3, sz4, sz5, sz6, sz7, sz8, sz9, ev_keyI, ev_keyS, ev_eqB, ev_neB, wp_one, wp_yes, wp_valsI, wp_keysI, wp_lcE, Bool.false_eq_true, Bool.not_eq_true', decide_eq_false_iff_not, Bool.not_true, Bool.not_false, ite_and2, ite_or2, ite_tand, not_true_eq_false, not_false_eq_true, truB, isCol]
      exact ⟨_, _, by trivial, g', f', e, by omega⟩
    | col x =>
      rw [q, endM] at e
      simp only [↓wp_seq, ↓wp_skip, ↓wp_drop, ↓wp_ret, ↓wp_retN, ↓wp_brk, ↓wp_cnt, ↓wp_if, ↓wp_asg, ↓wp_to, ↓wp_tos, ↓wp_toIx, ↓wp_aug, ↓wp_augK, ↓wp_fldSet, ↓wp_fldAug, ↓wp_var, ↓wp_c, ↓wp_op, ↓wp_un, ↓wp_nil, ↓wp_cons, ↓wp_tup, ↓wp_lst, ↓wp_dict0, ↓wp_dict, ↓wp_pairs0, ↓wp_pairs, ↓wp_call, ↓wp_callF, ↓wp_tru, ↓wp_bl, ↓wp_and, ↓wp_or, ↓wp_not, ↓wp_andV, ↓wp_orV, ↓wp_notV, ↓wp_part, ↓wp_noPart, ↓wp_sl, ↓wp_bm, ↓wp_ifE, ↓wp_fld, ↓wp_meth, ↓wp_make, ↓wp_lockE, ↓wp_rng1, ↓wp_rng2, ↓wp_seqI, ↓wpR_ok, ↓wpS_nx, ↓wpS_rt, List.getElem?_cons_zero, List.getElem?_cons_succ, List.set_cons_zero, List.set_cons_succ, List.length_cons, List.length_nil, ↓reduceIte, decide_eq_true_eq, ev_add, ev_iadd, ev_sub, ev_mod, ev_neg, ev_lt, ev_le, ev_gt, ev_ge, ev_eqI, ev_neI, ev_eqS, ev_neS, ev_isN, ev_int, ev_abs, ev_max, ev_min, ev_lenT, ev_lenC, ev_tupT, Int.reduceLT, Int.reduceLE, Int.reduceNeg, Int.reduceAdd, Int.reduceSub, Int.reduceEq, Nat.reduceAdd, Nat.reduceSub, and_self, ↓List.map_cons, ↓List.map_nil, ↓List.cons_append, ↓List.nil_append, List.replicate, ixT0, ixT1, ixT2, ixT3, ixTm1, ixTm2, ixTm3, onH_get, onH_set, onH_push, onH_len, mkB_get, mkB_set, mkB_push, mkB_len, mkB_next, Option.getD_some, Option.getD_none, sz0, sz1, sz2, sz3, sz4, sz5, sz6, sz7, sz8, sz9, ev_keyI, ev_keyS, ev_eqB, ev_neB, wp_one, wp_yes, wp_valsI, wp_keysI, wp_lcE, Bool.false_eq_true, Bool.not_eq_true', decide_eq_false_iff_not, Bool.not_true, Bool.not_false, ite_and2, ite_or2, ite_tand, not_true_eq_false, not_false_eq_true, truB, isCol]
      rw [if_pos (ev_tyL g'.f)]
      refine zsign_ok ?_
      rw [pushF (t := sg "}" t) (d := tkD (sg "}" t)) g' rfl (by omega), wpR_ok]
      exact ⟨_, _, by trivial, g'.setF, f'.trans Fr.setF, e, by rw [List.length_append, List.length_cons, List.length_nil]; omega⟩
  · rintro σ h' ⟨d6, fd', rfl, g', f', e, hn⟩
    rw [List.drop_length, endM] at e
    rw [e] at g'
    exact k _ _ g' f'
theorem zb3_ok {toks : List Tk} {rp j : Nat} {a4 a5 a6 : Option D} {N : Sl → HS → Prop} {T : Tl} (hj : j < toks.length) (hr : h[rp]? = some (.lst (toks.map tkD))) (gd : Good2 toks) (n1 : rp ≠ sp) (n2 : rp ≠ fp) (g : G sp fp st fd h) (hl : st.length + fd.length < 60000)
    (k : ∀ (h' : HS) (a4 a5 a6 : Option D) (st' : List El) (fd' : List Tk), layM (exL toks (j + 1)) (lrL toks (j + 1)) st' fd' (toks.drop (j + 1)) = layM (exL toks j) (lrL toks j) st fd (toks.drop j) → (j + 1 = toks.length ∨ st'.length + fd'.length ≤ st.length + fd.length + 6) → G sp fp st' fd' h' → Fr sp fp h h' →
      N [some (.ref rp), some (.ref sp), some (.ref fp), some (.int j), a4, a5, a6] h') :
    wpS (m_z_layout_b3 cs [some (.ref rp), some (.ref sp), some (.ref fp), some (.int j), a4, a5, a6] h) N T := by
  have ix : ∀ {h : HS} {j : Nat} (hj : j < toks.length), h[rp]? = some (.lst (toks.map tkD)) → dIx (.ref rp) (.int j) h = .ok (tkD toks[j]) h := fun {h} {j} hj hr => ev_ixL hr (atI_nat (by rw [List.getElem?_map, List.getElem?_eq_getElem hj]; rfl))
  have ix0 := fun (h : HS) (hr : h[rp]? = some (.lst (toks.map tkD))) => ix hj hr
  have hmem := List.getElem_mem hj
  have hlast := gd.last j hj
  have hex : exL toks (j + 1) = isEx toks[j] := by
    rw [isEx_eq gd hmem]
    simp only [exL, List.getElem?_eq_getElem hj]
  have hlr : lrL toks (j + 1) = (toks[j]).r := by simp only [lrL, List.getElem?_eq_getElem hj]
  have hrow := gd.row _ hmem
  rw [drop_cons hj, hex, hlr] at k
  generalize toks[j] = t at *
  have et : tkD t = .tup [.str t.k, .str t.x, .int t.r, .int t.c] := rfl
  have et0 : ∀ h, dIx (tkD t) (.int 0) h = .ok (.str t.k) h := fun h => by rw [et, ixT0]
  have et1 : ∀ h, dIx (tkD t) (.int 1) h = .ok (.str t.x) h := fun h => by rw [et, ixT1]
  have et2 : ∀ h, dIx (tkD t) (.int 2) h = .ok (.int t.r) h := fun h => by rw [et, ixT2]
  have hs := openM_sz (exL toks j) t st fd
  unfold sz at hs
  have mid : ∀ h', G sp fp (openM (exL toks j) t st fd).2.1 (openM (exL toks j) t st fd).2.2 h' → Fr sp fp h h' → ∀ a6,
      wpS (m_z_layout_r2 cs [some (.ref rp), some (.ref sp), some (.ref fp), some (.int j), some (tkD t), some (.bl (openM (exL toks j) t st fd).1), a6] h') N T := fun h' g' f' a6 => by
    have hr' := f' _ _ n1 n2 hr
    have psh : ∀ {h2 : HS} {st2 : List El} {fd2 : List Tk} (a6 : Option D), G sp fp st2 fd2 h2 → Fr sp fp h h2 → st2.length + fd2.length ≤ st.length + fd.length + 5 →
        layM (isEx t) t.r st2 (fd2 ++ [t]) (toks.drop (j + 1)) = layM (exL toks j) (lrL toks j) st fd (t :: toks.drop (j + 1)) →
        (if tyMD "list" h2 (.ref fp) = true then wpR (dAppend (.ref fp) [tkD t] h2) (fun _ h => N [some (.ref rp), some (.ref sp), some (.ref fp), some (.int j), some (tkD t), some (.bl (openM (exL toks j) t st fd).1), a6] h) (fun x h => T.ex x [some (.ref rp), some (.ref sp), some (.ref fp), some (.int j), some (tkD t), some (.bl (openM (exL toks j) t st fd).1), a6] h) else False) := fun {h2 st2 fd2} a6 g2 f2 hn e => by
      rw [if_pos (ev_tyL g2.f), pushF (t := t) (d := tkD t) g2 rfl (by omega), wpR_ok]
      exact k _ _ _ _ _ _ e (.inr (by rw [List.length_append, List.length_cons, List.length_nil]; omega)) g2.setF (f2.trans Fr.setF)
    unfold m_z_layout_r2
    rw [wp_seq, wp_if]
    simp only [↓wp_skip, ↓wp_drop, ↓wp_ret, ↓wp_retN, ↓wp_brk, ↓wp_cnt, ↓wp_if, ↓wp_asg, ↓wp_to, ↓wp_tos, ↓wp_toIx, ↓wp_aug, ↓wp_augK, ↓wp_fldSet, ↓wp_fldAug, ↓wp_var, ↓wp_c, ↓wp_op, ↓wp_un, ↓wp_nil, ↓wp_cons, ↓wp_tup, ↓wp_lst, ↓wp_dict0, ↓wp_dict, ↓wp_pairs0, ↓wp_pairs, ↓wp_call, ↓wp_callF, ↓wp_tru, ↓wp_bl, ↓wp_and, ↓wp_or, ↓wp_not, ↓wp_andV, ↓wp_orV, ↓wp_notV, ↓wp_part, ↓wp_noPart, ↓wp_sl, ↓wp_bm, ↓wp_ifE, ↓wp_fld, ↓wp_meth, ↓wp_make, ↓wp_lockE, ↓wp_rng1, ↓wp_rng2, ↓wp_seqI, ↓wpR_ok, ↓wpS_nx, ↓wpS_rt, List.getElem?_cons_zero, List.getElem?_cons_succ, List.set_cons_zero, List.set_cons_succ, List.length_cons, List.length_nil, ↓reduceIte, decide_eq_true_eq, ev_add, ev_iadd, ev_sub, ev_mod, ev_neg, ev_lt, ev_le, ev_gt, ev_ge, ev_eqI, ev_neI, ev_eqS, ev_neS, ev_isN, ev_int, ev_abs, ev_max, ev_min, ev_lenT, ev_lenC, ev_tupT, Int.reduceLT, Int.reduceLE, Int.reduceNeg, Int.reduceAdd, Int.reduceSub, Int.reduceEq, Nat.reduceAdd, Nat.reduceSub, and_self, ↓List.map_cons, ↓List.map_nil, ↓List.cons_append, ↓List.nil_append, List.replicate, ixT0, ixT1, ixT2, ixT3, ixTm1, ixTm2, ixTm3, onH_get, onH_set, onH_push, onH_len, mkB_get, mkB_set, mkB_push, mkB_len, mkB_next, Option.getD_some, Option.getD_none, sz0, sz1, sz2, sz3, sz4, sz5, sz6, sz7, sz8, sz9, ev_keyI, ev_keyS, ev_eqB, ev_neB, wp_one, wp_yes, wp_valsI, wp_keysI, wp_lcE, Bool.false_eq_true, Bool.not_eq_true', decide_eq_false_iff_not, Bool.not_true, Bool.not_false, ite_and2, ite_or2, ite_tand, not_true_eq_false, not_false_eq_true, et0]
    refine ite2 (fun c => ?_) (fun c => ?_)
    · rw [wp_forE]
      simp only [↓wp_skip, ↓wp_drop, ↓wp_ret, ↓wp_retN, ↓wp_brk, ↓wp_cnt, ↓wp_if, ↓wp_asg, ↓wp_to, ↓wp_tos, ↓wp_toIx, ↓wp_aug, ↓wp_augK, ↓wp_fldSet, ↓wp_fldAug, ↓wp_var, ↓wp_c, ↓wp_op, ↓wp_un, ↓wp_nil, ↓wp_cons, ↓wp_tup, ↓wp_lst, ↓wp_dict0, ↓wp_dict, ↓wp_pairs0, ↓wp_pairs, ↓wp_call, ↓wp_callF, ↓wp_tru, ↓wp_bl, ↓wp_and, ↓wp_or, ↓wp_not, ↓wp_andV, ↓wp_orV, ↓wp_notV, ↓wp_part, ↓wp_noPart, ↓wp_sl, ↓wp_bm, ↓wp_ifE, ↓wp_fld, ↓wp_meth, ↓wp_make, ↓wp_lockE, ↓wp_rng1, ↓wp_rng2, ↓wp_seqI, ↓wpR_ok, ↓wpS_nx, ↓wpS_rt, List.getElem?_cons_zero, List.getElem?_cons_succ, List.set_cons_zero, List.set_cons_succ, List.length_cons, List.length_nil, ↓reduceIte, decide_eq_true_eq, ev_add, ev_iadd, ev_sub, ev_mod, ev_neg, ev_lt, ev_le, ev_gt, ev_ge, ev_eqI, ev_neI, ev_eqS, ev_neS, ev_isN, ev_int, ev_abs, ev_max, ev_min, ev_lenT, ev_lenC, ev_tupT, Int.reduceLT, Int.reduceLE, Int.reduceNeg, Int.reduceAdd, Int.reduceSub, Int.reduceEq, Nat.reduceAdd, Nat.reduceSub, and_self, ↓List.map_cons, ↓List.map_nil, ↓List.cons_append, ↓List.nil_append, List.replicate, ixT0, ixT1, ixT2, ixT3, ixTm1, ixTm2, ixTm3, onH_get, onH_set, onH_push, onH_len, mkB_get, mkB_set, mkB_push, mkB_len, mkB_next, Option.getD_some, Option.getD_none, sz0, sz1, sz2, sz3, sz4, sz5, sz6, sz7, sz8, sz9, ev_keyI, ev_keyS, ev_eqB, ev_neB, wp_one, wp_yes, wp_valsI, wp_keysI, wp_lcE, Bool.false_eq_true, Bool.not_eq_true', decide_eq_false_iff_not, Bool.not_true, Bool.not_false, ite_and2, ite_or2, ite_tand, not_true_eq_false, not_false_eq_true, ↓wp_revI]
      refine zend_ok g' (by omega) fun h3 d6 g3 f3 => ?_
      have hs2 := endM_sz t (openM (exL toks j) t st fd).2.1 (openM (exL toks j) t st fd).2.2
      have hd : toks.drop (j + 1) = [] := by rw [hlast c, List.drop_length]
      simp only [↓wp_seq, ↓wp_skip, ↓wp_drop, ↓wp_ret, ↓wp_retN, ↓wp_brk, ↓wp_cnt, ↓wp_if, ↓wp_asg, ↓wp_to, ↓wp_tos, ↓wp_toIx, ↓wp_aug, ↓wp_augK, ↓wp_fldSet, ↓wp_fldAug, ↓wp_var, ↓wp_c, ↓wp_op, ↓wp_un, ↓wp_nil, ↓wp_cons, ↓wp_tup, ↓wp_lst, ↓wp_dict0, ↓wp_dict, ↓wp_pairs0, ↓wp_pairs, ↓wp_call, ↓wp_callF, ↓wp_tru, ↓wp_bl, ↓wp_and, ↓wp_or, ↓wp_not, ↓wp_andV, ↓wp_orV, ↓wp_notV, ↓wp_part, ↓wp_noPart, ↓wp_sl, ↓wp_bm, ↓wp_ifE, ↓wp_fld, ↓wp_meth, ↓wp_make, ↓wp_lockE, ↓wp_rng1, ↓wp_rng2, ↓wp_seqI, ↓wpR_ok, ↓wpS_nx, ↓wpS_rt, List.getElem?_cons_zero, List.getElem?_cons_succ, List.set_cons_zero, List.set_cons_succ, List.length_cons, List.length_nil, ↓reduceIte, decide_eq_true_eq, ev_add, ev_iadd, ev_sub, ev_mod, ev_neg, ev_lt, ev_le, ev_gt, ev_ge, ev_eqI, ev_neI, ev_eqS, ev_neS, ev_isN, ev_int, ev_abs, ev_max, ev_min, ev_lenT, ev_lenC, ev_tupT, Int.reduceLT, Int.reduceLE, Int.reduceNeg, Int.reduceAdd, Int.reduceSub, Int.reduceEq, Nat.reduceAdd, Nat.reduceSub, and_self, ↓List.map_cons, ↓List.map_nil, ↓List.cons_append, ↓List.nil_append, List.replicate, ixT0, ixT1, ixT2, ixT3, ixTm1, ixTm2, ixTm3, onH_get, onH_set, onH_push, onH_len, mkB_get, mkB_set, mkB_push, mkB_len, mkB_next, Option.getD_some, Option.getD_none, sz0, sz1, sz2, sz3, sz4, sz5, sz6, sz7, sz8, sz9, ev_keyI, ev_keyS, ev_eqB, ev_neB, wp_one, wp_yes, wp_valsI, wp_keysI, wp_lcE, Bool.false_eq_true, Bool.not_eq_true', decide_eq_false_iff_not, Bool.not_true, Bool.not_false, ite_and2, ite_or2, ite_tand, not_true_eq_false, not_false_eq_true]
      rw [if_pos (ev_tyL g3.f), pushF (t := t) (d := tkD t) g3 rfl (by omega), wpR_ok]
      refine k _ _ _ _ _ _ ?_ (.inl (hlast c)) g3.setF ((f'.trans f3).trans Fr.setF)
      rw [hd, layM_nil, layM, if_pos c, layM_nil]
    · have hs2 := rowP_sz (lrL toks j) t (openM (exL toks j) t st fd)
      unfold sz at hs2
      have tk : ∀ h' X' a6, G sp fp (rowP (lrL toks j) t (openM (exL toks j) t st fd)).1 (rowP (lrL toks j) t (openM (exL toks j) t st fd)).2 h' → Fr sp fp h h' →
          wpR (f_z_effect cs [.ref sp, .ref fp, tkD t] h') (fun _ h2 => if tyMD "list" h2 (.ref fp) = true then wpR (dAppend (.ref fp) [tkD t] h2) (fun _ h => N [some (.ref rp), some (.ref sp), some (.ref fp), some (.int j), some (tkD t), some (.bl (openM (exL toks j) t st fd).1), a6] h) (fun x h => T.ex x [some (.ref rp), some (.ref sp), some (.ref fp), some (.int j), some (tkD t), some (.bl (openM (exL toks j) t st fd).1), a6] h) else False) X' := fun h' X' a6 g' f' => by
        have hs3 := effM_sz t ((rowP (lrL toks j) t (openM (exL toks j) t st fd)).1, (rowP (lrL toks j) t (openM (exL toks j) t st fd)).2)
        unfold sz at hs3
        simp only at hs3
        refine zeffect_ok g' (by omega) fun h3 g3 f3 => ?_
        refine psh a6 g3 (f'.trans f3) (by omega) ?_
        rw [layM, if_neg c]
      unfold rowP at tk
      simp only [↓wp_seq, ↓wp_skip, ↓wp_drop, ↓wp_ret, ↓wp_retN, ↓wp_brk, ↓wp_cnt, ↓wp_if, ↓wp_asg, ↓wp_to, ↓wp_tos, ↓wp_toIx, ↓wp_aug, ↓wp_augK, ↓wp_fldSet, ↓wp_fldAug, ↓wp_var, ↓wp_c, ↓wp_op, ↓wp_un, ↓wp_nil, ↓wp_cons, ↓wp_tup, ↓wp_lst, ↓wp_dict0, ↓wp_dict, ↓wp_pairs0, ↓wp_pairs, ↓wp_call, ↓wp_callF, ↓wp_tru, ↓wp_bl, ↓wp_and, ↓wp_or, ↓wp_not, ↓wp_andV, ↓wp_orV, ↓wp_notV, ↓wp_part, ↓wp_noPart, ↓wp_sl, ↓wp_bm, ↓wp_ifE, ↓wp_fld, ↓wp_meth, ↓wp_make, ↓wp_lockE, ↓wp_rng1, ↓wp_rng2, ↓wp_seqI, ↓wpR_ok, ↓wpS_nx, ↓wpS_rt, List.getElem?_cons_zero, List.getElem?_cons_succ, List.set_cons_zero, List.set_cons_succ, List.length_cons, List.length_nil, ↓reduceIte, decide_eq_true_eq, ev_add, ev_iadd, ev_sub, ev_mod, ev_neg, ev_lt, ev_le, ev_gt, ev_ge, ev_eqI, ev_neI, ev_eqS, ev_neS, ev_isN, ev_int, ev_abs, ev_max, ev_min, ev_lenT, ev_lenC, ev_tupT, Int.reduceLT, Int.reduceLE, Int.reduceNeg, Int.reduceAdd, Int.reduceSub, Int.reduceEq, Nat.reduceAdd, Nat.reduceSub, and_self, ↓List.map_cons, ↓List.map_nil, ↓List.cons_append, ↓List.nil_append, List.replicate, ixT0, ixT1, ixT2, ixT3, ixTm1, ixTm2, ixTm3, onH_get, onH_set, onH_push, onH_len, mkB_get, mkB_set, mkB_push, mkB_len, mkB_next, Option.getD_some, Option.getD_none, sz0, sz1, sz2, sz3, sz4, sz5, sz6, sz7, sz8, sz9, ev_keyI, ev_keyS, ev_eqB, ev_neB, wp_one, wp_yes, wp_valsI, wp_keysI, wp_lcE, Bool.false_eq_true, Bool.not_eq_true', decide_eq_false_iff_not, Bool.not_true, Bool.not_false, ite_and2, ite_or2, ite_tand, not_true_eq_false, not_false_eq_true, truB, et2]
      have frs : lrL toks j < t.r → (openM (exL toks j) t st fd).1 = false → ∀ X' Q, (∀ h3, G sp fp (rowM t (openM (exL toks j) t st fd).2.1 (openM (exL toks j) t st fd).2.2).1 (rowM t (openM (exL toks j) t st fd).2.1 (openM (exL toks j) t st fd).2.2).2 h3 → Fr sp fp h h3 → Q .non h3) → wpR (f_z_first cs [.ref sp, .ref fp, tkD t] h') Q X' := fun _ _ X' Q q =>
        zfirst_ok g' (by omega) fun h3 g3 f3 => q h3 g3 (f'.trans f3)
      refine ite2 (fun c2 => ?_) (fun c2 => ?_)
      · rcases Nat.eq_zero_or_pos j with z | z
        · have hlt : lrL toks j < t.r := by rw [z]; exact hrow
          rw [if_pos ⟨hlt, c2⟩] at tk
          rw [if_pos (by omega)]
          exact frs hlt c2 _ _ fun h3 g3 f3 => tk _ _ _ g3 f3
        · have hj1 : j - 1 < toks.length := by omega
          have ej : ((j : Int) - 1) = ((j - 1 : Nat) : Int) := by omega
          rw [if_neg (by omega), ej, ix hj1 hr', wpR_ok]
          have er : lrL toks j = (toks[j - 1]).r := by
            obtain ⟨i, rfl⟩ : ∃ i, j = i + 1 := ⟨j - 1, by omega⟩
            simp only [lrL, Nat.add_sub_cancel, List.getElem?_eq_getElem (show i < toks.length by omega)]
          have eu : ∀ h, dIx (tkD toks[j - 1]) (.int 2) h = .ok (.int (toks[j - 1]).r) h := fun h => by rw [tkD, ixT2]
          rw [er] at tk frs
          simp only [↓wp_seq, ↓wp_skip, ↓wp_drop, ↓wp_ret, ↓wp_retN, ↓wp_brk, ↓wp_cnt, ↓wp_if, ↓wp_asg, ↓wp_to, ↓wp_tos, ↓wp_toIx, ↓wp_aug, ↓wp_augK, ↓wp_fldSet, ↓wp_fldAug, ↓wp_var, ↓wp_c, ↓wp_op, ↓wp_un, ↓wp_nil, ↓wp_cons, ↓wp_tup, ↓wp_lst, ↓wp_dict0, ↓wp_dict, ↓wp_pairs0, ↓wp_pairs, ↓wp_call, ↓wp_callF, ↓wp_tru, ↓wp_bl, ↓wp_and, ↓wp_or, ↓wp_not, ↓wp_andV, ↓wp_orV, ↓wp_notV, ↓wp_part, ↓wp_noPart, ↓wp_sl, ↓wp_bm, ↓wp_ifE, ↓wp_fld, ↓wp_meth, ↓wp_make, ↓wp_lockE, ↓wp_rng1, ↓wp_rng2, ↓wp_seqI, ↓wpR_ok, ↓wpS_nx, ↓wpS_rt, List.getElem?_cons_zero, List.getElem?_cons_succ, List.set_cons_zero, List.set_cons_succ, List.length_cons, List.length_nil, ↓reduceIte, decide_eq_true_eq, ev_add, ev_iadd, ev_sub, ev_mod, ev_neg, ev_lt, ev_le, ev_gt, ev_ge, ev_eqI, ev_neI, ev_eqS, ev_neS, ev_isN, ev_int, ev_abs, ev_max, ev_min, ev_lenT, ev_lenC, ev_tupT, Int.reduceLT, Int.reduceLE, Int.reduceNeg, Int.reduceAdd, Int.reduceSub, Int.reduceEq, Nat.reduceAdd, Nat.reduceSub, and_self, ↓List.map_cons, ↓List.map_nil, ↓List.cons_append, ↓List.nil_append, List.replicate, ixT0, ixT1, ixT2, ixT3, ixTm1, ixTm2, ixTm3, onH_get, onH_set, onH_push, onH_len, mkB_get, mkB_set, mkB_push, mkB_len, mkB_next, Option.getD_some, Option.getD_none, sz0, sz1, sz2, sz3, sz4, sz5, sz6, sz7, sz8, sz9, ev_keyI, ev_keyS, ev_eqB, ev_neB, wp_one, wp_yes, wp_valsI, wp_keysI, wp_lcE, Bool.false_eq_true, Bool.not_eq_true', decide_eq_false_iff_not, Bool.not_true, Bool.not_false, ite_and2, ite_or2, ite_tand, not_true_eq_false, not_false_eq_true, eu]
          refine ite2 (fun c3 => ?_) (fun c3 => ?_)
          · rw [if_pos ⟨c3, c2⟩] at tk
            exact frs c3 c2 _ _ fun h3 g3 f3 => tk _ _ _ g3 f3
          · rw [if_neg fun z => c3 z.1] at tk
            exact tk _ _ _ g' f'
      · rw [if_neg fun z => c2 z.2] at tk
        exact tk _ _ _ g' f'
  unfold m_z_layout_b3
  rw [wp_seq, wp_asg, wp_op, wp_var]
  simp only [List.getElem?_cons_zero]
  rw [wp_var]
  simp only [List.getElem?_cons_zero, List.getElem?_cons_succ]
  rw [ix0 h hr, wpR_ok]
  have opn : exL toks j = true → ∀ X' Q, (∀ h3, G sp fp (openM (exL toks j) t st fd).2.1 (openM (exL toks j) t st fd).2.2 h3 → Fr sp fp h h3 → Q (.bl (openM (exL toks j) t st fd).1) h3) → wpR (f_z_opens cs [.ref sp, .ref fp, tkD t] h) Q X' := fun c X' Q q => by
    rw [openM, if_pos c] at q
    exact zopens_ok g (by omega) q
  simp only [↓wp_seq, ↓wp_skip, ↓wp_drop, ↓wp_ret, ↓wp_retN, ↓wp_brk, ↓wp_cnt, ↓wp_if, ↓wp_asg, ↓wp_to, ↓wp_tos, ↓wp_toIx, ↓wp_aug, ↓wp_augK, ↓wp_fldSet, ↓wp_fldAug, ↓wp_var, ↓wp_c, ↓wp_op, ↓wp_un, ↓wp_nil, ↓wp_cons, ↓wp_tup, ↓wp_lst, ↓wp_dict0, ↓wp_dict, ↓wp_pairs0, ↓wp_pairs, ↓wp_call, ↓wp_callF, ↓wp_tru, ↓wp_bl, ↓wp_and, ↓wp_or, ↓wp_not, ↓wp_andV, ↓wp_orV, ↓wp_notV, ↓wp_part, ↓wp_noPart, ↓wp_sl, ↓wp_bm, ↓wp_ifE, ↓wp_fld, ↓wp_meth, ↓wp_make, ↓wp_lockE, ↓wp_rng1, ↓wp_rng2, ↓wp_seqI, ↓wpR_ok, ↓wpS_nx, ↓wpS_rt, List.getElem?_cons_zero, List.getElem?_cons_succ, List.set_cons_zero, List.set_cons_succ, List.length_cons, List.length_nil, ↓reduceIte, decide_eq_true_eq, ev_add, ev_iadd, ev_sub, ev_mod, ev_neg, ev_lt, ev_le, ev_gt, ev_ge, ev_eqI, ev_neI, ev_eqS, ev_neS, ev_isN, ev_int, ev_abs, ev_max, ev_min, ev_lenT, ev_lenC, ev_tupT, Int.reduceLT, Int.reduceLE, Int.reduceNeg, Int.reduceAdd, Int.reduceSub, Int.reduceEq, Nat.reduceAdd, Nat.reduceSub, and_self, ↓List.map_cons, ↓List.map_nil, ↓List.cons_append, ↓List.nil_append, List.replicate, ixT0, ixT1, ixT2, ixT3, ixTm1, ixTm2, ixTm3, onH_get, onH_set, onH_push, onH_len, mkB_get, mkB_set, mkB_push, mkB_len, mkB_next, Option.getD_some, Option.getD_none, sz0, sz1, sz2, sz3, sz4, sz5, sz6, sz7, sz8, sz9, ev_keyI, ev_keyS, ev_eqB, ev_neB, wp_one, wp_yes, wp_valsI, wp_keysI, wp_lcE, Bool.false_eq_true, Bool.not_eq_true', decide_eq_false_iff_not, Bool.not_true, Bool.not_false, ite_and2, ite_or2, ite_tand, not_true_eq_false, not_false_eq_true]
  rcases Nat.eq_zero_or_pos j with z | z
  · rw [if_pos (by omega)]
    exact opn (by rw [z]; rfl) _ _ fun h3 g3 f3 => mid h3 g3 f3 _
  · have hj1 : j - 1 < toks.length := by omega
    have ej : ((j : Int) - 1) = ((j - 1 : Nat) : Int) := by omega
    rw [if_neg (by omega), ej, ix hj1 hr, wpR_ok]
    have er : exL toks j = decide ((toks[j - 1]).x ∈ ops) := by
      obtain ⟨i, rfl⟩ : ∃ i, j = i + 1 := ⟨j - 1, by omega⟩
      simp only [exL, Nat.add_sub_cancel, List.getElem?_eq_getElem (show i < toks.length by omega)]
    have eu : ∀ h, dIx (tkD toks[j - 1]) (.int 1) h = .ok (.str (toks[j - 1]).x) h := fun h => by rw [tkD, ixT1]
    simp only [↓wp_seq, ↓wp_skip, ↓wp_drop, ↓wp_ret, ↓wp_retN, ↓wp_brk, ↓wp_cnt, ↓wp_if, ↓wp_asg, ↓wp_to, ↓wp_tos, ↓wp_toIx, ↓wp_aug, ↓wp_augK, ↓wp_fldSet, ↓wp_fldAug, ↓wp_var, ↓wp_c, ↓wp_op, ↓wp_un, ↓wp_nil, ↓wp_cons, ↓wp_tup, ↓wp_lst, ↓wp_dict0, ↓wp_dict, ↓wp_pairs0, ↓wp_pairs, ↓wp_call, ↓wp_callF, ↓wp_tru, ↓wp_bl, ↓wp_and, ↓wp_or, ↓wp_not, ↓wp_andV, ↓wp_orV, ↓wp_notV, ↓wp_part, ↓wp_noPart, ↓wp_sl, ↓wp_bm, ↓wp_ifE, ↓wp_fld, ↓wp_meth, ↓wp_make, ↓wp_lockE, ↓wp_rng1, ↓wp_rng2, ↓wp_seqI, ↓wpR_ok, ↓wpS_nx, ↓wpS_rt, List.getElem?_cons_zero, List.getElem?_cons_succ, List.set_cons_zero, List.set_cons_succ, List.length_cons, List.length_nil, ↓reduceIte, decide_eq_true_eq, ev_add, ev_iadd, ev_sub, ev_mod, ev_neg, ev_lt, ev_le, ev_gt, ev_ge, ev_eqI, ev_neI, ev_eqS, ev_neS, ev_isN, ev_int, ev_abs, ev_max, ev_min, ev_lenT, ev_lenC, ev_tupT, Int.reduceLT, Int.reduceLE, Int.reduceNeg, Int.reduceAdd, Int.reduceSub, Int.reduceEq, Nat.reduceAdd, Nat.reduceSub, and_self, ↓List.map_cons, ↓List.map_nil, ↓List.cons_append, ↓List.nil_append, List.replicate, ixT0, ixT1, ixT2, ixT3, ixTm1, ixTm2, ixTm3, onH_get, onH_set, onH_push, onH_len, mkB_get, mkB_set, mkB_push, mkB_len, mkB_next, Option.getD_some, Option.getD_none, sz0, sz1, sz2, sz3, sz4, sz5, sz6, sz7, sz8, sz9, ev_keyI, ev_keyS, ev_eqB, ev_neB, wp_one, wp_yes, wp_valsI, wp_keysI, wp_lcE, Bool.false_eq_true, Bool.not_eq_true', decide_eq_false_iff_not, Bool.not_true, Bool.not_false, ite_and2, ite_or2, ite_tand, not_true_eq_false, not_false_eq_true, eu, inOps]
    refine ite2 (fun c => ?_) (fun c => ?_)
    · exact opn (by rw [er, decide_eq_true c]) _ _ fun h3 g3 f3 => mid h3 g3 f3 _
    · rw [show openM (exL toks j) t st fd = (false, st, fd) by rw [er, decide_eq_false c]; rfl] at mid
      exact mid h g Fr.refl _
theorem zlayout_ok {toks : List Tk} {rp : Nat} (hr : h[rp]? = some (.lst (toks.map tkD))) (gd : Good2 toks)
    (k : ∀ (h' : HS) (q : Nat), (∀ (i : Nat) (o : MO), h[i]? = some o → h'[i]? = some o) → h.length ≤ q → h'[q]? = some (.lst ((layM true 0 [] [] toks).map tkD)) → P (.ref q) h') : wpR (f_z_layout cs [.ref rp] h) P X := by
  unfold f_z_layout m_z_layout
  have hp := (List.getElem?_eq_some_iff.mp hr).1
  have hlen := gd.few
  simp only [↓wp_seq, ↓wp_skip, ↓wp_drop, ↓wp_ret, ↓wp_retN, ↓wp_brk, ↓wp_cnt, ↓wp_if, ↓wp_asg, ↓wp_to, ↓wp_tos, ↓wp_toIx, ↓wp_aug, ↓wp_augK, ↓wp_fldSet, ↓wp_fldAug, ↓wp_var, ↓wp_c, ↓wp_op, ↓wp_un, ↓wp_nil, ↓wp_cons, ↓wp_tup, ↓wp_lst, ↓wp_dict0, ↓wp_dict, ↓wp_pairs0, ↓wp_pairs, ↓wp_call, ↓wp_callF, ↓wp_tru, ↓wp_bl, ↓wp_and, ↓wp_or, ↓wp_not, ↓wp_andV, ↓wp_orV, ↓wp_notV, ↓wp_part, ↓wp_noPart, ↓wp_sl, ↓wp_bm, ↓wp_ifE, ↓wp_fld, ↓wp_meth, ↓wp_make, ↓wp_lockE, ↓wp_rng1, ↓wp_rng2, ↓wp_seqI, ↓wpR_ok, ↓wpS_nx, ↓wpS_rt, List.getElem?_cons_zero, List.getElem?_cons_succ, List.set_cons_zero, List.set_cons_succ, List.length_cons, List.length_nil, ↓reduceIte, decide_eq_true_eq, ev_add, ev_iadd, ev_sub, ev_mod, ev_neg, ev_lt, ev_le, ev_gt, ev_ge, ev_eqI, ev_neI, ev_eqS, ev_neS, ev_isN, ev_int, ev_abs, ev_max, ev_min, ev_lenT, ev_lenC, ev_tupT, Int.reduceLT, Int.reduceLE, Int.reduceNeg, Int.reduceAdd, Int.reduceSub, Int.reduceEq, Nat.reduceAdd, Nat.reduceSub, and_self, ↓List.map_cons, ↓List.map_nil, ↓List.cons_append, ↓List.nil_append, List.replicate, ixT0, ixT1, ixT2, ixT3, ixTm1, ixTm2, ixTm3, onH_get, onH_set, onH_push, onH_len, mkB_get, mkB_set, mkB_push, mkB_len, mkB_next, Option.getD_some, Option.getD_none, sz0, sz1, sz2, sz3, sz4, sz5, sz6, sz7, sz8, sz9, ev_keyI, ev_keyS, ev_eqB, ev_neB, wp_one, wp_yes, wp_valsI, wp_keysI, wp_lcE, Bool.false_eq_true, Bool.not_eq_true', decide_eq_false_iff_not, Bool.not_true, Bool.not_false, ite_and2, ite_or2, ite_tand, not_true_eq_false, not_false_eq_true, ↓wp_runB, ↓wp_forE, app1, len1]
  rw [ev_lenL (get_push hr), wpR_ok, List.length_map]
  simp only []
  rw [if_pos (by omega), show (toks.length : Int).toNat = toks.length from rfl]
  have g0 : G h.length (h.length + 1) [] [] (h ++ [.lst [], .lst []]) := ⟨by omega, by simp [stD], by simp⟩
  refine wp_forR (fun j σ h' => ∃ (a3 a4 a5 a6 : Option D) (st : List El) (fd : List Tk), σ = [some (.ref rp), some (.ref h.length), some (.ref (h.length + 1)), a3, a4, a5, a6] ∧
    layM (exL toks j) (lrL toks j) st fd (toks.drop j) = layM true 0 [] [] toks ∧ (j = toks.length ∨ st.length + fd.length ≤ 6 * j) ∧ G h.length (h.length + 1) st fd h' ∧
    Fr h.length (h.length + 1) (h ++ [.lst [], .lst []]) h') ⟨_, _, _, _, [], [], rfl, rfl, .inr (Nat.le_refl _), g0, Fr.refl⟩ ?_ ?_
  · rintro j σ h' ⟨a3, a4, a5, a6, st, fd, rfl, e, hl, g, fr⟩ hj
    simp only [↓wp_seq, ↓wp_skip, ↓wp_drop, ↓wp_ret, ↓wp_retN, ↓wp_brk, ↓wp_cnt, ↓wp_if, ↓wp_asg, ↓wp_to, ↓wp_tos, ↓wp_toIx, ↓wp_aug, ↓wp_augK, ↓wp_fldSet, ↓wp_fldAug, ↓wp_var, ↓wp_c, ↓wp_op, ↓wp_un, ↓wp_nil, ↓wp_cons, ↓wp_tup, ↓wp_lst, ↓wp_dict0, ↓wp_dict, ↓wp_pairs0, ↓wp_pairs, ↓wp_call, ↓wp_callF, ↓wp_tru, ↓wp_bl, ↓wp_and, ↓wp_or, ↓wp_not, ↓wp_andV, ↓wp_orV, ↓wp_notV, ↓wp_part, ↓wp_noPart, ↓wp_sl, ↓wp_bm, ↓wp_ifE, ↓wp_fld, ↓wp_meth, ↓wp_make, ↓wp_lockE, ↓wp_rng1, ↓wp_rng2, ↓wp_seqI, ↓wpR_ok, ↓wpS_nx, ↓wpS_rt, List.getElem?_cons_zero, List.getElem?_cons_succ, List.set_cons_zero, List.set_cons_succ, List.length_cons, List.length_nil, ↓reduceIte, decide_eq_true_eq, ev_add, ev_iadd, ev_sub, ev_mod, ev_neg, ev_lt, ev_le, ev_gt, ev_ge, ev_eqI, ev_neI, ev_eqS, ev_neS, ev_isN, ev_int, ev_abs, ev_max, ev_min, ev_lenT, ev_lenC, ev_tupT, Int.reduceLT, Int.reduceLE, Int.reduceNeg, Int.reduceAdd, Int.reduceSub, Int.reduceEq, Nat.reduceAdd, Nat.reduceSub, and_self, ↓List.map_cons, ↓List.map_nil, ↓List.cons_append, ↓List.nil_append, List.replicate, ixT0, ixT1, ixT2, ixT3, ixTm1, ixTm2, ixTm3, onH_get, onH_set, onH_push, onH_len, mkB_get, mkB_set, mkB_push, mkB_len, mkB_next, Option.getD_some, Option.getD_none, sz0, sz1, sz2, sz3, sz4, sz5, sz6, sz7, sz8, sz9, ev_keyI, ev_keyS, ev_eqB, ev_neB, wp_one, wp_yes, wp_valsI, wp_keysI, wp_lcE, Bool.false_eq_true, Bool.not_eq_true', decide_eq_false_iff_not, Bool.not_true, Bool.not_false, ite_and2, ite_or2, ite_tand, not_true_eq_false, not_false_eq_true]
    rw [show (0 : Int) + (j : Int) = (j : Int) from by omega]
    refine zb3_ok hj (fr _ _ (by omega) (by omega) (get_push hr)) gd (by omega) (by omega) g (by omega) fun h2 a4 a5 a6 st2 fd2 e2 hl2 g2 f2 => ?_
    exact ⟨_, _, _, _, st2, fd2, rfl, e2.trans e, by omega, g2, fr.trans f2⟩
  · rintro σ h' ⟨a3, a4, a5, a6, st, fd, rfl, e, hl, g, fr⟩
    rw [List.drop_length, layM_nil] at e
    unfold m_z_layout_r4
    simp only [↓wp_seq, ↓wp_skip, ↓wp_drop, ↓wp_ret, ↓wp_retN, ↓wp_brk, ↓wp_cnt, ↓wp_if, ↓wp_asg, ↓wp_to, ↓wp_tos, ↓wp_toIx, ↓wp_aug, ↓wp_augK, ↓wp_fldSet, ↓wp_fldAug, ↓wp_var, ↓wp_c, ↓wp_op, ↓wp_un, ↓wp_nil, ↓wp_cons, ↓wp_tup, ↓wp_lst, ↓wp_dict0, ↓wp_dict, ↓wp_pairs0, ↓wp_pairs, ↓wp_call, ↓wp_callF, ↓wp_tru, ↓wp_bl, ↓wp_and, ↓wp_or, ↓wp_not, ↓wp_andV, ↓wp_orV, ↓wp_notV, ↓wp_part, ↓wp_noPart, ↓wp_sl, ↓wp_bm, ↓wp_ifE, ↓wp_fld, ↓wp_meth, ↓wp_make, ↓wp_lockE, ↓wp_rng1, ↓wp_rng2, ↓wp_seqI, ↓wpR_ok, ↓wpS_nx, ↓wpS_rt, List.getElem?_cons_zero, List.getElem?_cons_succ, List.set_cons_zero, List.set_cons_succ, List.length_cons, List.length_nil, ↓reduceIte, decide_eq_true_eq, ev_add, ev_iadd, ev_sub, ev_mod, ev_neg, ev_lt, ev_le, ev_gt, ev_ge, ev_eqI, ev_neI, ev_eqS, ev_neS, ev_isN, ev_int, ev_abs, ev_max, ev_min, ev_lenT, ev_lenC, ev_tupT, Int.reduceLT, Int.reduceLE, Int.reduceNeg, Int.reduceAdd, Int.reduceSub, Int.reduceEq, Nat.reduceAdd, Nat.reduceSub, and_self, ↓List.map_cons, ↓List.map_nil, ↓List.cons_append, ↓List.nil_append, List.replicate, ixT0, ixT1, ixT2, ixT3, ixTm1, ixTm2, ixTm3, onH_get, onH_set, onH_push, onH_len, mkB_get, mkB_set, mkB_push, mkB_len, mkB_next, Option.getD_some, Option.getD_none, sz0, sz1, sz2, sz3, sz4, sz5, sz6, sz7, sz8, sz9, ev_keyI, ev_keyS, ev_eqB, ev_neB, wp_one, wp_yes, wp_valsI, wp_keysI, wp_lcE, Bool.false_eq_true, Bool.not_eq_true', decide_eq_false_iff_not, Bool.not_true, Bool.not_false, ite_and2, ite_or2, ite_tand, not_true_eq_false, not_false_eq_true]
    refine k h' _ (fun i o ei => ?_) (by omega) (by rw [g.f, e])
    have hi := (List.getElem?_eq_some_iff.mp ei).1
    exact fr _ _ (by omega) (by omega) (get_push ei)
end
end K02

set_option Elab.async false
set_option linter.all false
set_option maxRecDepth 100000
set_option maxHeartbeats 1000000
namespace K02
open PySem PySem.Spec PyProof.Rows L2 FL
/-! ### which tokens come out -/
def Sub (t : Tk) (fd fd' : List Tk) : Prop := ∀ u ∈ fd', u ∈ fd ∨ ∃ x : Str, (x = "}" ∨ x = ";" ∨ x = "{") ∧ u = sg x t
theorem Sub.refl {t : Tk} {fd : List Tk} : Sub t fd fd := fun _ h => .inl h
theorem Sub.trans {t : Tk} {a b c : List Tk} (x : Sub t a b) (y : Sub t b c) : Sub t a c := fun u hu => by
  rcases y u hu with q | q
  · exact x u q
  · exact .inr q
theorem Sub.snoc {t : Tk} {fd : List Tk} {x : Str} (h : x = "}" ∨ x = ";" ∨ x = "{") : Sub t fd (fd ++ [sg x t]) := fun u hu => by
  rcases List.mem_append.mp hu with q | q
  · exact .inl q
  · exact .inr ⟨x, h, List.mem_singleton.mp q⟩
theorem closeM_sub (t : Tk) : ∀ (st : List El) (fd : List Tk), Sub t fd (closeM t st fd).2
  | .col _ :: st, fd => (Sub.snoc (.inl rfl)).trans (closeM_sub t st _)
  | .mark _ :: _, _ => Sub.refl
  | [], _ => Sub.refl
theorem firstM_sub (t : Tk) : ∀ (st : List El) (fd : List Tk), Sub t fd (firstM t st fd).2
  | .col n :: st, fd => by
    rw [firstM]
    split
    · exact (Sub.snoc (.inl rfl)).trans (firstM_sub t st _)
    · exact Sub.refl
  | .mark _ :: _, _ => Sub.refl
  | [], _ => Sub.refl
theorem endM_sub (t : Tk) : ∀ (st : List El) (fd : List Tk), Sub t fd (endM t st fd)
  | .col _ :: st, fd => (Sub.snoc (.inl rfl)).trans (endM_sub t st _)
  | .mark _ :: st, fd => endM_sub t st fd
  | [], _ => Sub.refl
theorem openM_sub (ex : Bool) (t : Tk) (st : List El) (fd : List Tk) : Sub t fd (openM ex t st fd).2.2 := by
  unfold openM opensM
  split
  · split
    · exact Sub.refl
    · split
      · exact Sub.snoc (.inr (.inr rfl))
      · exact (Sub.snoc (.inr (.inr rfl))).trans (Sub.snoc (.inl rfl))
  · exact Sub.refl
theorem rowP_sub (lr : Int) (t : Tk) (q : Bool × List El × List Tk) : Sub t q.2.2 (rowP lr t q).2 := by
  unfold rowP rowM
  split
  · split
    · exact (firstM_sub t _ _).trans (Sub.snoc (.inr (.inl rfl)))
    · exact firstM_sub t _ _
  · exact Sub.refl
theorem effM_sub (t : Tk) (p : List El × List Tk) : Sub t p.2 (effM t p).2 := by
  have h1 : Sub t p.2 (eff1 t p).2 := by
    unfold eff1
    split
    · exact closeM_sub t _ _
    · exact Sub.refl
  have h2 : ∀ p, Sub t p.2 (eff2 t p).2 := fun p => by
    unfold eff2
    split
    · exact Sub.refl
    · split
      · split
        · exact closeM_sub t _ _
        · exact closeM_sub t _ _
      · exact Sub.refl
  have h3 : ∀ p, Sub t p.2 (eff3 t p).2 := fun p => by
    unfold eff3
    split <;> exact Sub.refl
  exact (h1.trans (h2 _)).trans (h3 _)
def Ok (t : Tk) : Prop := PyData.strOk t.k = true ∧ PyData.strOk t.x = true
theorem Sub.ok {t : Tk} {a b : List Tk} (s : Sub t a b) (h : ∀ u ∈ a, Ok u) : ∀ u ∈ b, Ok u := fun u hu => by
  rcases s u hu with q | ⟨x, hx, rfl⟩
  · exact h u q
  · refine ⟨show PyData.strOk ("sign" : Str) = true by decide +kernel, ?_⟩
    show PyData.strOk x = true
    rcases hx with rfl | rfl | rfl <;> decide +kernel
theorem snoc_ok {t : Tk} {a : List Tk} (ht : Ok t) (h : ∀ u ∈ a, Ok u) : ∀ u ∈ a ++ [t], Ok u := fun u hu => by
  rcases List.mem_append.mp hu with q | q
  · exact h u q
  · rw [List.mem_singleton.mp q]; exact ht
theorem layM_ok : ∀ (toks : List Tk) (ex : Bool) (lr : Int) (st : List El) (fd : List Tk), (∀ u ∈ fd, Ok u) → (∀ u ∈ toks, Ok u) → ∀ u ∈ layM ex lr st fd toks, Ok u
  | [], ex, lr, st, fd, h1, h2 => by rw [layM]; exact h1
  | t :: r, ex, lr, st, fd, h1, h2 => by
    have ht := h2 t List.mem_cons_self
    have hr : ∀ u ∈ r, Ok u := fun u hu => h2 u (List.mem_cons_of_mem _ hu)
    have ho := (openM_sub ex t st fd).ok h1
    rw [layM]
    split
    · exact layM_ok r _ _ _ _ (snoc_ok ht ((endM_sub t _ _).ok ho)) hr
    · exact layM_ok r _ _ _ _ (snoc_ok ht ((effM_sub t _).ok ((rowP_sub lr t _).ok ho))) hr
theorem toks_okD {l : List Tk} (h : ∀ u ∈ l, Ok u) : (l.map tkD).all (okD 3) = true := by
  rw [List.all_eq_true]
  intro d hd
  obtain ⟨u, hu, rfl⟩ := List.mem_map.mp hd
  obtain ⟨a, b⟩ := h u hu
  simp [tkD, okD, a, b]
/-! ### the drawn row -/
def wordsS : List Str := ["where", "let", "of", "case", "if", "then", "else", "in", "(", ")", "[", "]", "{", "}", ",", "f", "x", "="]
def kindS (x : Str) : Str := if x = "f" ∨ x = "x" then "name" else if x.length = 1 then "sign" else "keyword"
def Fine (t : Tk) : Prop := t.x ∈ wordsS ∧ t.k = kindS t.x ∧ 1 ≤ t.r
theorem mem18 {x : Str} (h : x ∈ wordsS) : x = "where" ∨ x = "let" ∨ x = "of" ∨ x = "case" ∨ x = "if" ∨ x = "then" ∨ x = "else" ∨ x = "in" ∨ x = "(" ∨ x = ")" ∨ x = "[" ∨ x = "]" ∨ x = "{" ∨ x = "}" ∨ x = "," ∨ x = "f" ∨ x = "x" ∨ x = "=" := by
  simpa only [wordsS, List.mem_cons, List.not_mem_nil, or_false] using h
theorem words_ok : ∀ x ∈ wordsS, PyData.strOk x = true ∧ PyData.strOk (kindS x) = true ∧ x.length ≤ 10 ∧ kindS x ≠ "end" ∧ (x ∈ ops → kindS x = "keyword") := by
  intro x hx
  rcases mem18 hx with rfl | rfl | rfl | rfl | rfl | rfl | rfl | rfl | rfl | rfl | rfl | rfl | rfl | rfl | rfl | rfl | rfl | rfl <;> decide +kernel
theorem fine_kd {t : Tk} (h : Fine t) : Kd t := by
  obtain ⟨k, x, r, c⟩ := t
  obtain ⟨h1, h2, _⟩ := h
  simp only at h1 h2
  subst h2
  by_cases c1 : x = "f" ∨ x = "x"
  · refine .inr fun p => ?_
    rcases c1 with rfl | rfl
    · rfl
    · rfl
  · refine .inl ?_
    show kindS x = "sign" ∨ kindS x = "keyword"
    unfold kindS
    rw [if_neg c1]
    split
    · exact .inl rfl
    · exact .inr rfl
def endT (r c : Int) : Tk := ⟨"end", "", r, c⟩
theorem end_kd {r c : Int} : Kd (endT r c) := .inr fun p => rfl
theorem good_of {l : List Tk} {r c : Int} (h : ∀ t ∈ l, Fine t) (hr : 1 ≤ r) (hl : l.length ≤ 150) : Good (l ++ [endT r c]) ∧ Good2 (l ++ [endT r c]) ∧ ∀ t ∈ l ++ [endT r c], Ok t := by
  have hm : ∀ {t : Tk}, t ∈ l ++ [endT r c] → t ∈ l ∨ t = endT r c := fun {t} ht => (List.mem_append.mp ht).imp id List.mem_singleton.mp
  refine ⟨⟨fun t ht => ?_, ?_⟩, ⟨fun t ht => ?_, fun t ht => ?_, fun j hj he => ?_, ?_⟩, fun t ht => ?_⟩
  · rcases hm ht with q | rfl
    · exact fine_kd (h t q)
    · exact end_kd
  · simp; omega
  · rcases hm ht with q | rfl
    · obtain ⟨h1, h2, _⟩ := h t q
      rw [h2]
      exact (words_ok _ h1).2.2.2.2
    · intro z
      exact absurd (show ("" : Str) ∈ ops from z) (by decide +kernel)
  · rcases hm ht with q | rfl
    · exact (h t q).2.2
    · exact hr
  · by_cases c : j < l.length
    · rw [List.getElem_append_left c] at he
      obtain ⟨h1, h2, _⟩ := h _ (List.getElem_mem c)
      rw [h2] at he
      exact absurd he (words_ok _ h1).2.2.2.1
    · simp at hj ⊢
      omega
  · simp; omega
  · rcases hm ht with q | rfl
    · obtain ⟨h1, h2, _⟩ := h t q
      exact ⟨by rw [h2]; exact (words_ok _ h1).2.1, (words_ok _ h1).1⟩
    · exact ⟨show PyData.strOk ("end" : Str) = true by decide +kernel, show PyData.strOk ("" : Str) = true by decide +kernel⟩
section
variable {cs : Nat → Addr} {ds : List Int} {s : Int} {a : Nat} {fd : List Tk} {P : D → HS → Prop} {X : XP}
def H4 (ds : List Int) (s : Int) (a : Nat) (fd : List Tk) : HS := [.lst (ds.map .int), bagA a s, .lst (wordsS.map .str), .lst (fd.map tkD)]
theorem pick4 {m : Int} (hm : 0 < m) (k : ∀ v : Int, 0 ≤ v → v < m → P (.int v) (H4 ds s (a + 1) fd)) : wpR (f_z_pick cs [.ref 1, .int m] (H4 ds s a fd)) P X := by
  have e : f_z_pick cs [.ref 1, .int m] (H4 ds s a fd) = f_pickK [.ref 1, .int m] (H4 ds s a fd) := rfl
  rw [e, pickK_eq (ds := ds) (a := a) (s := s) rfl rfl hm, wpR_ok]
  exact k _ (Int.emod_nonneg _ (by omega)) (Int.emod_lt_of_pos _ hm)
theorem len_str {x : Str} {h : HS} (hx : x.length ≤ 10) : dLen [.str x] h = .ok (.int x.length) h := by
  simp only [dLen, lenD, if_pos (Nat.le_trans hx (show 10 ≤ sizeLine by decide))]
theorem row_b3 {many : Int} {row col : Int} {a6 a7 a8 : Option D} {N : Sl → HS → Prop} {T : Tl} (hr : 1 ≤ row) (hf : fd.length < 1000)
    (k : ∀ (a' : Nat) (t : Tk) (row' col' : Int) (a7 a8 : Option D), Fine t → 1 ≤ row' → N [some (.ref 1), some (.int many), some (.ref 2), some (.ref 3), some (.int row'), some (.int col'), a6, a7, a8] (H4 ds s a' (fd ++ [t]))) :
    wpS (m_z_row_b3 cs [some (.ref 1), some (.int many), some (.ref 2), some (.ref 3), some (.int row), some (.int col), a6, a7, a8] (H4 ds s a fd)) N T := by
  have r2 : ∀ (row col : Int) (a : Nat), 1 ≤ row → wpS (m_z_row_r2 cs [some (.ref 1), some (.int many), some (.ref 2), some (.ref 3), some (.int row), some (.int col), a6, a7, a8] (H4 ds s a fd)) N T := fun row col a hr => by
    unfold m_z_row_r2
    simp only [↓wp_seq, ↓wp_skip, ↓wp_drop, ↓wp_ret, ↓wp_retN, ↓wp_brk, ↓wp_cnt, ↓wp_if, ↓wp_asg, ↓wp_to, ↓wp_tos, ↓wp_toIx, ↓wp_aug, ↓wp_augK, ↓wp_fldSet, ↓wp_fldAug, ↓wp_var, ↓wp_c, ↓wp_op, ↓wp_un, ↓wp_nil, ↓wp_cons, ↓wp_tup, ↓wp_lst, ↓wp_dict0, ↓wp_dict, ↓wp_pairs0, ↓wp_pairs, ↓wp_call, ↓wp_callF, ↓wp_tru, ↓wp_bl, ↓wp_and, ↓wp_or, ↓wp_not, ↓wp_andV, ↓wp_orV, ↓wp_notV, ↓wp_part, ↓wp_noPart, ↓wp_sl, ↓wp_bm, ↓wp_ifE, ↓wp_fld, ↓wp_meth, ↓wp_make, ↓wp_lockE, ↓wp_rng1, ↓wp_rng2, ↓wp_seqI, ↓wpR_ok, ↓wpS_nx, ↓wpS_rt, List.getElem?_cons_zero, List.getElem?_cons_succ, List.set_cons_zero, List.set_cons_succ, List.length_cons, List.length_nil, ↓reduceIte, decide_eq_true_eq, ev_add, ev_iadd, ev_sub, ev_mod, ev_neg, ev_lt, ev_le, ev_gt, ev_ge, ev_eqI, ev_neI, ev_eqS, ev_neS, ev_isN, ev_int, ev_abs, ev_max, ev_min, ev_lenT, ev_lenC, ev_tupT, Int.reduceLT, Int.reduceLE, Int.reduceNeg, Int.reduceAdd, Int.reduceSub, Int.reduceEq, Nat.reduceAdd, Nat.reduceSub, and_self, ↓List.map_cons, ↓List.map_nil, ↓List.cons_append, ↓List.nil_append, List.replicate, ixT0, ixT1, ixT2, ixT3, ixTm1, ixTm2, ixTm3, onH_get, onH_set, onH_push, onH_len, mkB_get, mkB_set, mkB_push, mkB_len, mkB_next, Option.getD_some, Option.getD_none, sz0, sz1, sz2, sz3, sz4, sz5, sz6, sz7, sz8, sz9, ev_keyI, ev_keyS, ev_eqB, ev_neB, wp_one, wp_yes, wp_valsI, wp_keysI, wp_lcE, Bool.false_eq_true, Bool.not_eq_true', decide_eq_false_iff_not, Bool.not_true, Bool.not_false, ite_and2, ite_or2, ite_tand, not_true_eq_false, not_false_eq_true]
    refine pick4 (by decide) fun v v0 v1 => ?_
    obtain ⟨n, rfl⟩ : ∃ n : Nat, v = n := ⟨v.toNat, by omega⟩
    have hv : n < wordsS.length := by show n < 18; omega
    have hi : atI (wordsS.map D.str) (n : Int) = some (.str (wordsS[n])) := by
      refine atI_nat ?_
      rw [List.getElem?_map, List.getElem?_eq_getElem hv]
      rfl
    rw [ev_ixL (ds := wordsS.map D.str) rfl hi, wpR_ok]
    have hw := List.getElem_mem hv
    generalize wordsS[n] = x at hw
    have hx := words_ok x hw
    have r1 : ∀ (kd : Str), kd = kindS x → wpS (m_z_row_r1 cs [some (.ref 1), some (.int many), some (.ref 2), some (.ref 3), some (.int row), some (.int col), a6, some (.str x), some (.str kd)] (H4 ds s (a + 1) fd)) N T := fun kd ek => by
      unfold m_z_row_r1
      simp only [↓wp_seq, ↓wp_skip, ↓wp_drop, ↓wp_ret, ↓wp_retN, ↓wp_brk, ↓wp_cnt, ↓wp_if, ↓wp_asg, ↓wp_to, ↓wp_tos, ↓wp_toIx, ↓wp_aug, ↓wp_augK, ↓wp_fldSet, ↓wp_fldAug, ↓wp_var, ↓wp_c, ↓wp_op, ↓wp_un, ↓wp_nil, ↓wp_cons, ↓wp_tup, ↓wp_lst, ↓wp_dict0, ↓wp_dict, ↓wp_pairs0, ↓wp_pairs, ↓wp_call, ↓wp_callF, ↓wp_tru, ↓wp_bl, ↓wp_and, ↓wp_or, ↓wp_not, ↓wp_andV, ↓wp_orV, ↓wp_notV, ↓wp_part, ↓wp_noPart, ↓wp_sl, ↓wp_bm, ↓wp_ifE, ↓wp_fld, ↓wp_meth, ↓wp_make, ↓wp_lockE, ↓wp_rng1, ↓wp_rng2, ↓wp_seqI, ↓wpR_ok, ↓wpS_nx, ↓wpS_rt, List.getElem?_cons_zero, List.getElem?_cons_succ, List.set_cons_zero, List.set_cons_succ, List.length_cons, List.length_nil, ↓reduceIte, decide_eq_true_eq, ev_add, ev_iadd, ev_sub, ev_mod, ev_neg, ev_lt, ev_le, ev_gt, ev_ge, ev_eqI, ev_neI, ev_eqS, ev_neS, ev_isN, ev_int, ev_abs, ev_max, ev_min, ev_lenT, ev_lenC, ev_tupT, Int.reduceLT, Int.reduceLE, Int.reduceNeg, Int.reduceAdd, Int.reduceSub, Int.reduceEq, Nat.reduceAdd, Nat.reduceSub, and_self, ↓List.map_cons, ↓List.map_nil, ↓List.cons_append, ↓List.nil_append, List.replicate, ixT0, ixT1, ixT2, ixT3, ixTm1, ixTm2, ixTm3, onH_get, onH_set, onH_push, onH_len, mkB_get, mkB_set, mkB_push, mkB_len, mkB_next, Option.getD_some, Option.getD_none, sz0, sz1, sz2, sz3, sz4, sz5, sz6, sz7, sz8, sz9, ev_keyI, ev_keyS, ev_eqB, ev_neB, wp_one, wp_yes, wp_valsI, wp_keysI, wp_lcE, Bool.false_eq_true, Bool.not_eq_true', decide_eq_false_iff_not, Bool.not_true, Bool.not_false, ite_and2, ite_or2, ite_tand, not_true_eq_false, not_false_eq_true]
      rw [if_pos (ev_tyL (ds := fd.map tkD) rfl), ev_app (ds := fd.map tkD) rfl (by rw [List.length_map]; exact big (by omega)), wpR_ok]
      have eh : (H4 ds s (a + 1) fd).set 3 (.lst (fd.map tkD ++ [.tup [.str kd, .str x, .int row, .int col]])) = H4 ds s (a + 1) (fd ++ [⟨kd, x, row, col⟩]) := by
        simp [H4, tkD]
      rw [eh, len_str hx.2.2.1]
      simp only [↓wp_seq, ↓wp_skip, ↓wp_drop, ↓wp_ret, ↓wp_retN, ↓wp_brk, ↓wp_cnt, ↓wp_if, ↓wp_asg, ↓wp_to, ↓wp_tos, ↓wp_toIx, ↓wp_aug, ↓wp_augK, ↓wp_fldSet, ↓wp_fldAug, ↓wp_var, ↓wp_c, ↓wp_op, ↓wp_un, ↓wp_nil, ↓wp_cons, ↓wp_tup, ↓wp_lst, ↓wp_dict0, ↓wp_dict, ↓wp_pairs0, ↓wp_pairs, ↓wp_call, ↓wp_callF, ↓wp_tru, ↓wp_bl, ↓wp_and, ↓wp_or, ↓wp_not, ↓wp_andV, ↓wp_orV, ↓wp_notV, ↓wp_part, ↓wp_noPart, ↓wp_sl, ↓wp_bm, ↓wp_ifE, ↓wp_fld, ↓wp_meth, ↓wp_make, ↓wp_lockE, ↓wp_rng1, ↓wp_rng2, ↓wp_seqI, ↓wpR_ok, ↓wpS_nx, ↓wpS_rt, List.getElem?_cons_zero, List.getElem?_cons_succ, List.set_cons_zero, List.set_cons_succ, List.length_cons, List.length_nil, ↓reduceIte, decide_eq_true_eq, ev_add, ev_iadd, ev_sub, ev_mod, ev_neg, ev_lt, ev_le, ev_gt, ev_ge, ev_eqI, ev_neI, ev_eqS, ev_neS, ev_isN, ev_int, ev_abs, ev_max, ev_min, ev_lenT, ev_lenC, ev_tupT, Int.reduceLT, Int.reduceLE, Int.reduceNeg, Int.reduceAdd, Int.reduceSub, Int.reduceEq, Nat.reduceAdd, Nat.reduceSub, and_self, ↓List.map_cons, ↓List.map_nil, ↓List.cons_append, ↓List.nil_append, List.replicate, ixT0, ixT1, ixT2, ixT3, ixTm1, ixTm2, ixTm3, onH_get, onH_set, onH_push, onH_len, mkB_get, mkB_set, mkB_push, mkB_len, mkB_next, Option.getD_some, Option.getD_none, sz0, sz1, sz2, sz3, sz4, sz5, sz6, sz7, sz8, sz9, ev_keyI, ev_keyS, ev_eqB, ev_neB, wp_one, wp_yes, wp_valsI, wp_keysI, wp_lcE, Bool.false_eq_true, Bool.not_eq_true', decide_eq_false_iff_not, Bool.not_true, Bool.not_false, ite_and2, ite_or2, ite_tand, not_true_eq_false, not_false_eq_true]
      refine pick4 (by decide) fun v v0 v1 => ?_
      simp only [↓wp_seq, ↓wp_skip, ↓wp_drop, ↓wp_ret, ↓wp_retN, ↓wp_brk, ↓wp_cnt, ↓wp_if, ↓wp_asg, ↓wp_to, ↓wp_tos, ↓wp_toIx, ↓wp_aug, ↓wp_augK, ↓wp_fldSet, ↓wp_fldAug, ↓wp_var, ↓wp_c, ↓wp_op, ↓wp_un, ↓wp_nil, ↓wp_cons, ↓wp_tup, ↓wp_lst, ↓wp_dict0, ↓wp_dict, ↓wp_pairs0, ↓wp_pairs, ↓wp_call, ↓wp_callF, ↓wp_tru, ↓wp_bl, ↓wp_and, ↓wp_or, ↓wp_not, ↓wp_andV, ↓wp_orV, ↓wp_notV, ↓wp_part, ↓wp_noPart, ↓wp_sl, ↓wp_bm, ↓wp_ifE, ↓wp_fld, ↓wp_meth, ↓wp_make, ↓wp_lockE, ↓wp_rng1, ↓wp_rng2, ↓wp_seqI, ↓wpR_ok, ↓wpS_nx, ↓wpS_rt, List.getElem?_cons_zero, List.getElem?_cons_succ, List.set_cons_zero, List.set_cons_succ, List.length_cons, List.length_nil, ↓reduceIte, decide_eq_true_eq, ev_add, ev_iadd, ev_sub, ev_mod, ev_neg, ev_lt, ev_le, ev_gt, ev_ge, ev_eqI, ev_neI, ev_eqS, ev_neS, ev_isN, ev_int, ev_abs, ev_max, ev_min, ev_lenT, ev_lenC, ev_tupT, Int.reduceLT, Int.reduceLE, Int.reduceNeg, Int.reduceAdd, Int.reduceSub, Int.reduceEq, Nat.reduceAdd, Nat.reduceSub, and_self, ↓List.map_cons, ↓List.map_nil, ↓List.cons_append, ↓List.nil_append, List.replicate, ixT0, ixT1, ixT2, ixT3, ixTm1, ixTm2, ixTm3, onH_get, onH_set, onH_push, onH_len, mkB_get, mkB_set, mkB_push, mkB_len, mkB_next, Option.getD_some, Option.getD_none, sz0, sz1, sz2, sz3, sz4, sz5, sz6, sz7, sz8, sz9, ev_keyI, ev_keyS, ev_eqB, ev_neB, wp_one, wp_yes, wp_valsI, wp_keysI, wp_lcE, Bool.false_eq_true, Bool.not_eq_true', decide_eq_false_iff_not, Bool.not_true, Bool.not_false, ite_and2, ite_or2, ite_tand, not_true_eq_false, not_false_eq_true]
      exact k _ _ _ _ _ _ ⟨hw, ek, hr⟩ hr
    simp only [↓wp_seq, ↓wp_skip, ↓wp_drop, ↓wp_ret, ↓wp_retN, ↓wp_brk, ↓wp_cnt, ↓wp_if, ↓wp_asg, ↓wp_to, ↓wp_tos, ↓wp_toIx, ↓wp_aug, ↓wp_augK, ↓wp_fldSet, ↓wp_fldAug, ↓wp_var, ↓wp_c, ↓wp_op, ↓wp_un, ↓wp_nil, ↓wp_cons, ↓wp_tup, ↓wp_lst, ↓wp_dict0, ↓wp_dict, ↓wp_pairs0, ↓wp_pairs, ↓wp_call, ↓wp_callF, ↓wp_tru, ↓wp_bl, ↓wp_and, ↓wp_or, ↓wp_not, ↓wp_andV, ↓wp_orV, ↓wp_notV, ↓wp_part, ↓wp_noPart, ↓wp_sl, ↓wp_bm, ↓wp_ifE, ↓wp_fld, ↓wp_meth, ↓wp_make, ↓wp_lockE, ↓wp_rng1, ↓wp_rng2, ↓wp_seqI, ↓wpR_ok, ↓wpS_nx, ↓wpS_rt, List.getElem?_cons_zero, List.getElem?_cons_succ, List.set_cons_zero, List.set_cons_succ, List.length_cons, List.length_nil, ↓reduceIte, decide_eq_true_eq, ev_add, ev_iadd, ev_sub, ev_mod, ev_neg, ev_lt, ev_le, ev_gt, ev_ge, ev_eqI, ev_neI, ev_eqS, ev_neS, ev_isN, ev_int, ev_abs, ev_max, ev_min, ev_lenT, ev_lenC, ev_tupT, Int.reduceLT, Int.reduceLE, Int.reduceNeg, Int.reduceAdd, Int.reduceSub, Int.reduceEq, Nat.reduceAdd, Nat.reduceSub, and_self, ↓List.map_cons, ↓List.map_nil, ↓List.cons_append, ↓List.nil_append, List.replicate, ixT0, ixT1, ixT2, ixT3, ixTm1, ixTm2, ixTm3, onH_get, onH_set, onH_push, onH_len, mkB_get, mkB_set, mkB_push, mkB_len, mkB_next, Option.getD_some, Option.getD_none, sz0, sz1, sz2, sz3, sz4, sz5, sz6, sz7, sz8, sz9, ev_keyI, ev_keyS, ev_eqB, ev_neB, wp_one, wp_yes, wp_valsI, wp_keysI, wp_lcE, Bool.false_eq_true, Bool.not_eq_true', decide_eq_false_iff_not, Bool.not_true, Bool.not_false, ite_and2, ite_or2, ite_tand, not_true_eq_false, not_false_eq_true, in2]
    refine ite2 (fun c => ?_) (fun c => ?_)
    · exact r1 _ (by unfold kindS; rw [if_pos (c.imp Eq.symm Eq.symm)])
    · rw [len_str hx.2.2.1]
      simp only [↓wp_seq, ↓wp_skip, ↓wp_drop, ↓wp_ret, ↓wp_retN, ↓wp_brk, ↓wp_cnt, ↓wp_if, ↓wp_asg, ↓wp_to, ↓wp_tos, ↓wp_toIx, ↓wp_aug, ↓wp_augK, ↓wp_fldSet, ↓wp_fldAug, ↓wp_var, ↓wp_c, ↓wp_op, ↓wp_un, ↓wp_nil, ↓wp_cons, ↓wp_tup, ↓wp_lst, ↓wp_dict0, ↓wp_dict, ↓wp_pairs0, ↓wp_pairs, ↓wp_call, ↓wp_callF, ↓wp_tru, ↓wp_bl, ↓wp_and, ↓wp_or, ↓wp_not, ↓wp_andV, ↓wp_orV, ↓wp_notV, ↓wp_part, ↓wp_noPart, ↓wp_sl, ↓wp_bm, ↓wp_ifE, ↓wp_fld, ↓wp_meth, ↓wp_make, ↓wp_lockE, ↓wp_rng1, ↓wp_rng2, ↓wp_seqI, ↓wpR_ok, ↓wpS_nx, ↓wpS_rt, List.getElem?_cons_zero, List.getElem?_cons_succ, List.set_cons_zero, List.set_cons_succ, List.length_cons, List.length_nil, ↓reduceIte, decide_eq_true_eq, ev_add, ev_iadd, ev_sub, ev_mod, ev_neg, ev_lt, ev_le, ev_gt, ev_ge, ev_eqI, ev_neI, ev_eqS, ev_neS, ev_isN, ev_int, ev_abs, ev_max, ev_min, ev_lenT, ev_lenC, ev_tupT, Int.reduceLT, Int.reduceLE, Int.reduceNeg, Int.reduceAdd, Int.reduceSub, Int.reduceEq, Nat.reduceAdd, Nat.reduceSub, and_self, ↓List.map_cons, ↓List.map_nil, ↓List.cons_append, ↓List.nil_append, List.replicate, ixT0, ixT1, ixT2, ixT3, ixTm1, ixTm2, ixTm3, onH_get, onH_set, onH_push, onH_len, mkB_get, mkB_set, mkB_push, mkB_len, mkB_next, Option.getD_some, Option.getD_none, sz0, sz1, sz2, sz3, sz4, sz5, sz6, sz7, sz8, sz9, ev_keyI, ev_keyS, ev_eqB, ev_neB, wp_one, wp_yes, wp_valsI, wp_keysI, wp_lcE, Bool.false_eq_true, Bool.not_eq_true', decide_eq_false_iff_not, Bool.not_true, Bool.not_false, ite_and2, ite_or2, ite_tand, not_true_eq_false, not_false_eq_true]
      refine ite2 (fun c2 => ?_) (fun c2 => ?_)
      · exact r1 _ (by unfold kindS; rw [if_neg fun z => c (z.imp Eq.symm Eq.symm), if_pos (by omega)])
      · exact r1 _ (by unfold kindS; rw [if_neg fun z => c (z.imp Eq.symm Eq.symm), if_neg (by omega)])
  unfold m_z_row_b3
  simp only [↓wp_seq, ↓wp_skip, ↓wp_drop, ↓wp_ret, ↓wp_retN, ↓wp_brk, ↓wp_cnt, ↓wp_if, ↓wp_asg, ↓wp_to, ↓wp_tos, ↓wp_toIx, ↓wp_aug, ↓wp_augK, ↓wp_fldSet, ↓wp_fldAug, ↓wp_var, ↓wp_c, ↓wp_op, ↓wp_un, ↓wp_nil, ↓wp_cons, ↓wp_tup, ↓wp_lst, ↓wp_dict0, ↓wp_dict, ↓wp_pairs0, ↓wp_pairs, ↓wp_call, ↓wp_callF, ↓wp_tru, ↓wp_bl, ↓wp_and, ↓wp_or, ↓wp_not, ↓wp_andV, ↓wp_orV, ↓wp_notV, ↓wp_part, ↓wp_noPart, ↓wp_sl, ↓wp_bm, ↓wp_ifE, ↓wp_fld, ↓wp_meth, ↓wp_make, ↓wp_lockE, ↓wp_rng1, ↓wp_rng2, ↓wp_seqI, ↓wpR_ok, ↓wpS_nx, ↓wpS_rt, List.getElem?_cons_zero, List.getElem?_cons_succ, List.set_cons_zero, List.set_cons_succ, List.length_cons, List.length_nil, ↓reduceIte, decide_eq_true_eq, ev_add, ev_iadd, ev_sub, ev_mod, ev_neg, ev_lt, ev_le, ev_gt, ev_ge, ev_eqI, ev_neI, ev_eqS, ev_neS, ev_isN, ev_int, ev_abs, ev_max, ev_min, ev_lenT, ev_lenC, ev_tupT, Int.reduceLT, Int.reduceLE, Int.reduceNeg, Int.reduceAdd, Int.reduceSub, Int.reduceEq, Nat.reduceAdd, Nat.reduceSub, and_self, ↓List.map_cons, ↓List.map_nil, ↓List.cons_append, ↓List.nil_append, List.replicate, ixT0, ixT1, ixT2, ixT3, ixTm1, ixTm2, ixTm3, onH_get, onH_set, onH_push, onH_len, mkB_get, mkB_set, mkB_push, mkB_len, mkB_next, Option.getD_some, Option.getD_none, sz0, sz1, sz2, sz3, sz4, sz5, sz6, sz7, sz8, sz9, ev_keyI, ev_keyS, ev_eqB, ev_neB, wp_one, wp_yes, wp_valsI, wp_keysI, wp_lcE, Bool.false_eq_true, Bool.not_eq_true', decide_eq_false_iff_not, Bool.not_true, Bool.not_false, ite_and2, ite_or2, ite_tand, not_true_eq_false, not_false_eq_true]
  refine pick4 (by decide) fun v v0 v1 => ?_
  simp only [↓wp_seq, ↓wp_skip, ↓wp_drop, ↓wp_ret, ↓wp_retN, ↓wp_brk, ↓wp_cnt, ↓wp_if, ↓wp_asg, ↓wp_to, ↓wp_tos, ↓wp_toIx, ↓wp_aug, ↓wp_augK, ↓wp_fldSet, ↓wp_fldAug, ↓wp_var, ↓wp_c, ↓wp_op, ↓wp_un, ↓wp_nil, ↓wp_cons, ↓wp_tup, ↓wp_lst, ↓wp_dict0, ↓wp_dict, ↓wp_pairs0, ↓wp_pairs, ↓wp_call, ↓wp_callF, ↓wp_tru, ↓wp_bl, ↓wp_and, ↓wp_or, ↓wp_not, ↓wp_andV, ↓wp_orV, ↓wp_notV, ↓wp_part, ↓wp_noPart, ↓wp_sl, ↓wp_bm, ↓wp_ifE, ↓wp_fld, ↓wp_meth, ↓wp_make, ↓wp_lockE, ↓wp_rng1, ↓wp_rng2, ↓wp_seqI, ↓wpR_ok, ↓wpS_nx, ↓wpS_rt, List.getElem?_cons_zero, List.getElem?_cons_succ, List.set_cons_zero, List.set_cons_succ, List.length_cons, List.length_nil, ↓reduceIte, decide_eq_true_eq, ev_add, ev_iadd, ev_sub, ev_mod, ev_neg, ev_lt, ev_le, ev_gt, ev_ge, ev_eqI, ev_neI, ev_eqS, ev_neS, ev_isN, ev_int, ev_abs, ev_max, ev_min, ev_lenT, ev_lenC, ev_tupT, Int.reduceLT, Int.reduceLE, Int.reduceNeg, Int.reduceAdd, Int.reduceSub, Int.reduceEq, Nat.reduceAdd, Nat.reduceSub, and_self, ↓List.map_cons, ↓List.map_nil, ↓List.cons_append, ↓List.nil_append, List.replicate, ixT0, ixT1, ixT2, ixT3, ixTm1, ixTm2, ixTm3, onH_get, onH_set, onH_push, onH_len, mkB_get, mkB_set, mkB_push, mkB_len, mkB_next, Option.getD_some, Option.getD_none, sz0, sz1, sz2, sz3, sz4, sz5, sz6, sz7, sz8, sz9, ev_keyI, ev_keyS, ev_eqB, ev_neB, wp_one, wp_yes, wp_valsI, wp_keysI, wp_lcE, Bool.false_eq_true, Bool.not_eq_true', decide_eq_false_iff_not, Bool.not_true, Bool.not_false, ite_and2, ite_or2, ite_tand, not_true_eq_false, not_false_eq_true]
  refine ite2 (fun c => ?_) (fun c => ?_)
  · refine pick4 (by decide) fun v v0 v1 => ?_
    simp only [↓wp_seq, ↓wp_skip, ↓wp_drop, ↓wp_ret, ↓wp_retN, ↓wp_brk, ↓wp_cnt, ↓wp_if, ↓wp_asg, ↓wp_to, ↓wp_tos, ↓wp_toIx, ↓wp_aug, ↓wp_augK, ↓wp_fldSet, ↓wp_fldAug, ↓wp_var, ↓wp_c, ↓wp_op, ↓wp_un, ↓wp_nil, ↓wp_cons, ↓wp_tup, ↓wp_lst, ↓wp_dict0, ↓wp_dict, ↓wp_pairs0, ↓wp_pairs, ↓wp_call, ↓wp_callF, ↓wp_tru, ↓wp_bl, ↓wp_and, ↓wp_or, ↓wp_not, ↓wp_andV, ↓wp_orV, ↓wp_notV, ↓wp_part, ↓wp_noPart, ↓wp_sl, ↓wp_bm, ↓wp_ifE, ↓wp_fld, ↓wp_meth, ↓wp_make, ↓wp_lockE, ↓wp_rng1, ↓wp_rng2, ↓wp_seqI, ↓wpR_ok, ↓wpS_nx, ↓wpS_rt, List.getElem?_cons_zero, List.getElem?_cons_succ, List.set_cons_zero, List.set_cons_succ, List.length_cons, List.length_nil, ↓reduceIte, decide_eq_true_eq, ev_add, ev_iadd, ev_sub, ev_mod, ev_neg, ev_lt, ev_le, ev_gt, ev_ge, ev_eqI, ev_neI, ev_eqS, ev_neS, ev_isN, ev_int, ev_abs, ev_max, ev_min, ev_lenT, ev_lenC, ev_tupT, Int.reduceLT, Int.reduceLE, Int.reduceNeg, Int.reduceAdd, Int.reduceSub, Int.reduceEq, Nat.reduceAdd, Nat.reduceSub, and_self, ↓List.map_cons, ↓List.map_nil, ↓List.cons_append, ↓List.nil_append, List.replicate, ixT0, ixT1, ixT2, ixT3, ixTm1, ixTm2, ixTm3, onH_get, onH_set, onH_push, onH_len, mkB_get, mkB_set, mkB_push, mkB_len, mkB_next, Option.getD_some, Option.getD_none, sz0, sz1, sz2, sz3, sz4, sz5, sz6, sz7, sz8, sz9, ev_keyI, ev_keyS, ev_eqB, ev_neB, wp_one, wp_yes, wp_valsI, wp_keysI, wp_lcE, Bool.false_eq_true, Bool.not_eq_true', decide_eq_false_iff_not, Bool.not_true, Bool.not_false, ite_and2, ite_or2, ite_tand, not_true_eq_false, not_false_eq_true]
    refine pick4 (by decide) fun u u0 u1 => ?_
    simp only [↓wp_seq, ↓wp_skip, ↓wp_drop, ↓wp_ret, ↓wp_retN, ↓wp_brk, ↓wp_cnt, ↓wp_if, ↓wp_asg, ↓wp_to, ↓wp_tos, ↓wp_toIx, ↓wp_aug, ↓wp_augK, ↓wp_fldSet, ↓wp_fldAug, ↓wp_var, ↓wp_c, ↓wp_op, ↓wp_un, ↓wp_nil, ↓wp_cons, ↓wp_tup, ↓wp_lst, ↓wp_dict0, ↓wp_dict, ↓wp_pairs0, ↓wp_pairs, ↓wp_call, ↓wp_callF, ↓wp_tru, ↓wp_bl, ↓wp_and, ↓wp_or, ↓wp_not, ↓wp_andV, ↓wp_orV, ↓wp_notV, ↓wp_part, ↓wp_noPart, ↓wp_sl, ↓wp_bm, ↓wp_ifE, ↓wp_fld, ↓wp_meth, ↓wp_make, ↓wp_lockE, ↓wp_rng1, ↓wp_rng2, ↓wp_seqI, ↓wpR_ok, ↓wpS_nx, ↓wpS_rt, List.getElem?_cons_zero, List.getElem?_cons_succ, List.set_cons_zero, List.set_cons_succ, List.length_cons, List.length_nil, ↓reduceIte, decide_eq_true_eq, ev_add, ev_iadd, ev_sub, ev_mod, ev_neg, ev_lt, ev_le, ev_gt, ev_ge, ev_eqI, ev_neI, ev_eqS, ev_neS, ev_isN, ev_int, ev_abs, ev_max, ev_min, ev_lenT, ev_lenC, ev_tupT, Int.reduceLT, Int.reduceLE, Int.reduceNeg, Int.reduceAdd, Int.reduceSub, Int.reduceEq, Nat.reduceAdd, Nat.reduceSub, and_self, ↓List.map_cons, ↓List.map_nil, ↓List.cons_append, ↓List.nil_append, List.replicate, ixT0, ixT1, ixT2, ixT3, ixTm1, ixTm2, ixTm3, onH_get, onH_set, onH_push, onH_len, mkB_get, mkB_set, mkB_push, mkB_len, mkB_next, Option.getD_some, Option.getD_none, sz0, sz1, sz2, sz3, sz4, sz5, sz6, sz7, sz8, sz9, ev_keyI, ev_keyS, ev_eqB, ev_neB, wp_one, wp_yes, wp_valsI, wp_keysI, wp_lcE, Bool.false_eq_true, Bool.not_eq_true', decide_eq_false_iff_not, Bool.not_true, Bool.not_false, ite_and2, ite_or2, ite_tand, not_true_eq_false, not_false_eq_true]
    exact r2 _ _ _ (by omega)
  · exact r2 _ _ _ hr
theorem row_ok {many : Int} (hm : 0 ≤ many) (hm2 : many ≤ 100) (k : ∀ (a' : Nat) (l : List Tk) (r c : Int), (∀ t ∈ l, Fine t) → 1 ≤ r → l.length ≤ 100 → P (.ref 3) (H4 ds s a' (l ++ [endT r c]))) :
    wpR (f_z_row cs [.ref 1, .int many] [.lst (ds.map .int), bagA a s]) P X := by
  unfold f_z_row m_z_row
  simp only [↓wp_seq, ↓wp_skip, ↓wp_drop, ↓wp_ret, ↓wp_retN, ↓wp_brk, ↓wp_cnt, ↓wp_if, ↓wp_asg, ↓wp_to, ↓wp_tos, ↓wp_toIx, ↓wp_aug, ↓wp_augK, ↓wp_fldSet, ↓wp_fldAug, ↓wp_var, ↓wp_c, ↓wp_op, ↓wp_un, ↓wp_nil, ↓wp_cons, ↓wp_tup, ↓wp_lst, ↓wp_dict0, ↓wp_dict, ↓wp_pairs0, ↓wp_pairs, ↓wp_call, ↓wp_callF, ↓wp_tru, ↓wp_bl, ↓wp_and, ↓wp_or, ↓wp_not, ↓wp_andV, ↓wp_orV, ↓wp_notV, ↓wp_part, ↓wp_noPart, ↓wp_sl, ↓wp_bm, ↓wp_ifE, ↓wp_fld, ↓wp_meth, ↓wp_make, ↓wp_lockE, ↓wp_rng1, ↓wp_rng2, ↓wp_seqI, ↓wpR_ok, ↓wpS_nx, ↓wpS_rt, List.getElem?_cons_zero, List.getElem?_cons_succ, List.set_cons_zero, List.set_cons_succ, List.length_cons, List.length_nil, ↓reduceIte, decide_eq_true_eq, ev_add, ev_iadd, ev_sub, ev_mod, ev_neg, ev_lt, ev_le, ev_gt, ev_ge, ev_eqI, ev_neI, ev_eqS, ev_neS, ev_isN, ev_int, ev_abs, ev_max, ev_min, ev_lenT, ev_lenC, ev_tupT, Int.reduceLT, Int.reduceLE, Int.reduceNeg, Int.reduceAdd, Int.reduceSub, Int.reduceEq, Nat.reduceAdd, Nat.reduceSub, and_self, ↓List.map_cons, ↓List.map_nil, ↓List.cons_append, ↓List.nil_append, List.replicate, ixT0, ixT1, ixT2, ixT3, ixTm1, ixTm2, ixTm3, onH_get, onH_set, onH_push, onH_len, mkB_get, mkB_set, mkB_push, mkB_len, mkB_next, Option.getD_some, Option.getD_none, sz0, sz1, sz2, sz3, sz4, sz5, sz6, sz7, sz8, sz9, ev_keyI, ev_keyS, ev_eqB, ev_neB, wp_one, wp_yes, wp_valsI, wp_keysI, wp_lcE, Bool.false_eq_true, Bool.not_eq_true', decide_eq_false_iff_not, Bool.not_true, Bool.not_false, ite_and2, ite_or2, ite_tand, not_true_eq_false, not_false_eq_true, ↓wp_runB, ↓wp_forE]
  rw [if_pos ⟨by decide, by omega, by omega⟩]
  refine wp_forR (fun j σ h' => ∃ (a' : Nat) (l : List Tk) (row col : Int) (a6 a7 a8 : Option D), σ = [some (.ref 1), some (.int many), some (.ref 2), some (.ref 3), some (.int row), some (.int col), a6, a7, a8] ∧ h' = H4 ds s a' l ∧ (∀ t ∈ l, Fine t) ∧ 1 ≤ row ∧ l.length = j)
    ⟨a, [], 1, 1, _, _, _, rfl, rfl, by simp, by omega, rfl⟩ ?_ ?_
  · rintro j σ h' ⟨a', l, row, col, a6, a7, a8, rfl, rfl, hf, hr, hn⟩ hj
    simp only [↓wp_seq, ↓wp_skip, ↓wp_drop, ↓wp_ret, ↓wp_retN, ↓wp_brk, ↓wp_cnt, ↓wp_if, ↓wp_asg, ↓wp_to, ↓wp_tos, ↓wp_toIx, ↓wp_aug, ↓wp_augK, ↓wp_fldSet, ↓wp_fldAug, ↓wp_var, ↓wp_c, ↓wp_op, ↓wp_un, ↓wp_nil, ↓wp_cons, ↓wp_tup, ↓wp_lst, ↓wp_dict0, ↓wp_dict, ↓wp_pairs0, ↓wp_pairs, ↓wp_call, ↓wp_callF, ↓wp_tru, ↓wp_bl, ↓wp_and, ↓wp_or, ↓wp_not, ↓wp_andV, ↓wp_orV, ↓wp_notV, ↓wp_part, ↓wp_noPart, ↓wp_sl, ↓wp_bm, ↓wp_ifE, ↓wp_fld, ↓wp_meth, ↓wp_make, ↓wp_lockE, ↓wp_rng1, ↓wp_rng2, ↓wp_seqI, ↓wpR_ok, ↓wpS_nx, ↓wpS_rt, List.getElem?_cons_zero, List.getElem?_cons_succ, List.set_cons_zero, List.set_cons_succ, List.length_cons, List.length_nil, ↓reduceIte, decide_eq_true_eq, ev_add, ev_iadd, ev_sub, ev_mod, ev_neg, ev_lt, ev_le, ev_gt, ev_ge, ev_eqI, ev_neI, ev_eqS, ev_neS, ev_isN, ev_int, ev_abs, ev_max, ev_min, ev_lenT, ev_lenC, ev_tupT, Int.reduceLT, Int.reduceLE, Int.reduceNeg, Int.reduceAdd, Int.reduceSub, Int.reduceEq, Nat.reduceAdd, Nat.reduceSub, and_self, ↓List.map_cons, ↓List.map_nil, ↓List.cons_append, ↓List.nil_append, List.replicate, ixT0, ixT1, ixT2, ixT3, ixTm1, ixTm2, ixTm3, onH_get, onH_set, onH_push, onH_len, mkB_get, mkB_set, mkB_push, mkB_len, mkB_next, Option.getD_some, Option.getD_none, sz0, sz1, sz2, sz3, sz4, sz5, sz6, sz7, sz8, sz9, ev_keyI, ev_keyS, ev_eqB, ev_neB, wp_one, wp_yes, wp_valsI, wp_keysI, wp_lcE, Bool.false_eq_true, Bool.not_eq_true', decide_eq_false_iff_not, Bool.not_true, Bool.not_false, ite_and2, ite_or2, ite_tand, not_true_eq_false, not_false_eq_true]
    refine row_b3 hr (by omega) fun a2 t row' col' b7 b8 ht hr' => ?_
    exact ⟨_, _, _, _, _, _, _, rfl, rfl, fun u hu => (List.mem_append.mp hu).elim (hf u) fun q => List.mem_singleton.mp q ▸ ht, hr', by simp [hn]⟩
  · rintro σ h' ⟨a', l, row, col, a6, a7, a8, rfl, rfl, hf, hr, hn⟩
    unfold m_z_row_r4
    have hn2 : l.length ≤ 100 := by omega
    simp only [↓wp_seq, ↓wp_skip, ↓wp_drop, ↓wp_ret, ↓wp_retN, ↓wp_brk, ↓wp_cnt, ↓wp_if, ↓wp_asg, ↓wp_to, ↓wp_tos, ↓wp_toIx, ↓wp_aug, ↓wp_augK, ↓wp_fldSet, ↓wp_fldAug, ↓wp_var, ↓wp_c, ↓wp_op, ↓wp_un, ↓wp_nil, ↓wp_cons, ↓wp_tup, ↓wp_lst, ↓wp_dict0, ↓wp_dict, ↓wp_pairs0, ↓wp_pairs, ↓wp_call, ↓wp_callF, ↓wp_tru, ↓wp_bl, ↓wp_and, ↓wp_or, ↓wp_not, ↓wp_andV, ↓wp_orV, ↓wp_notV, ↓wp_part, ↓wp_noPart, ↓wp_sl, ↓wp_bm, ↓wp_ifE, ↓wp_fld, ↓wp_meth, ↓wp_make, ↓wp_lockE, ↓wp_rng1, ↓wp_rng2, ↓wp_seqI, ↓wpR_ok, ↓wpS_nx, ↓wpS_rt, List.getElem?_cons_zero, List.getElem?_cons_succ, List.set_cons_zero, List.set_cons_succ, List.length_cons, List.length_nil, ↓reduceIte, decide_eq_true_eq, ev_add, ev_iadd, ev_sub, ev_mod, ev_neg, ev_lt, ev_le, ev_gt, ev_ge, ev_eqI, ev_neI, ev_eqS, ev_neS, ev_isN, ev_int, ev_abs, ev_max, ev_min, ev_lenT, ev_lenC, ev_tupT, Int.reduceLT, Int.reduceLE, Int.reduceNeg, Int.reduceAdd, Int.reduceSub, Int.reduceEq, Nat.reduceAdd, Nat.reduceSub, and_self, ↓List.map_cons, ↓List.map_nil, ↓List.cons_append, ↓List.nil_append, List.replicate, ixT0, ixT1, ixT2, ixT3, ixTm1, ixTm2, ixTm3, onH_get, onH_set, onH_push, onH_len, mkB_get, mkB_set, mkB_push, mkB_len, mkB_next, Option.getD_some, Option.getD_none, sz0, sz1, sz2, sz3, sz4, sz5, sz6, sz7, sz8, sz9, ev_keyI, ev_keyS, ev_eqB, ev_neB, wp_one, wp_yes, wp_valsI, wp_keysI, wp_lcE, Bool.false_eq_true, Bool.not_eq_true', decide_eq_false_iff_not, Bool.not_true, Bool.not_false, ite_and2, ite_or2, ite_tand, not_true_eq_false, not_false_eq_true]
    rw [if_pos (ev_tyL (ds := l.map tkD) rfl)]
    refine pick4 (by decide) fun v v0 v1 => ?_
    simp only [↓wp_seq, ↓wp_skip, ↓wp_drop, ↓wp_ret, ↓wp_retN, ↓wp_brk, ↓wp_cnt, ↓wp_if, ↓wp_asg, ↓wp_to, ↓wp_tos, ↓wp_toIx, ↓wp_aug, ↓wp_augK, ↓wp_fldSet, ↓wp_fldAug, ↓wp_var, ↓wp_c, ↓wp_op, ↓wp_un, ↓wp_nil, ↓wp_cons, ↓wp_tup, ↓wp_lst, ↓wp_dict0, ↓wp_dict, ↓wp_pairs0, ↓wp_pairs, ↓wp_call, ↓wp_callF, ↓wp_tru, ↓wp_bl, ↓wp_and, ↓wp_or, ↓wp_not, ↓wp_andV, ↓wp_orV, ↓wp_notV, ↓wp_part, ↓wp_noPart, ↓wp_sl, ↓wp_bm, ↓wp_ifE, ↓wp_fld, ↓wp_meth, ↓wp_make, ↓wp_lockE, ↓wp_rng1, ↓wp_rng2, ↓wp_seqI, ↓wpR_ok, ↓wpS_nx, ↓wpS_rt, List.getElem?_cons_zero, List.getElem?_cons_succ, List.set_cons_zero, List.set_cons_succ, List.length_cons, List.length_nil, ↓reduceIte, decide_eq_true_eq, ev_add, ev_iadd, ev_sub, ev_mod, ev_neg, ev_lt, ev_le, ev_gt, ev_ge, ev_eqI, ev_neI, ev_eqS, ev_neS, ev_isN, ev_int, ev_abs, ev_max, ev_min, ev_lenT, ev_lenC, ev_tupT, Int.reduceLT, Int.reduceLE, Int.reduceNeg, Int.reduceAdd, Int.reduceSub, Int.reduceEq, Nat.reduceAdd, Nat.reduceSub, and_self, ↓List.map_cons, ↓List.map_nil, ↓List.cons_append, ↓List.nil_append, List.replicate, ixT0, ixT1, ixT2, ixT3, ixTm1, ixTm2, ixTm3, onH_get, onH_set, onH_push, onH_len, mkB_get, mkB_set, mkB_push, mkB_len, mkB_next, Option.getD_some, Option.getD_none, sz0, sz1, sz2, sz3, sz4, sz5, sz6, sz7, sz8, sz9, ev_keyI, ev_keyS, ev_eqB, ev_neB, wp_one, wp_yes, wp_valsI, wp_keysI, wp_lcE, Bool.false_eq_true, Bool.not_eq_true', decide_eq_false_iff_not, Bool.not_true, Bool.not_false, ite_and2, ite_or2, ite_tand, not_true_eq_false, not_false_eq_true]
    rw [ev_app (ds := l.map tkD) rfl (by rw [List.length_map]; exact big (by omega)), wpR_ok]
    have eh : (H4 ds s (a' + 1) l).set 3 (.lst (l.map tkD ++ [.tup [.str "end", .str "", .int (row + v), .int col]])) = H4 ds s (a' + 1) (l ++ [endT (row + v) col]) := by
      simp [H4, tkD, endT]
    rw [eh]
    exact k _ _ _ _ hf (by omega) hn2
theorem get_last0 {h : HS} {o : MO} : (h ++ [o])[h.length]? = some o := by simp
theorem layM_len : ∀ (toks : List Tk) (ex : Bool) (lr : Int) (st : List El) (fd : List Tk), (layM ex lr st fd toks).length ≤ st.length + fd.length + 6 * toks.length
  | [], ex, lr, st, fd => by rw [layM]; simp
  | t :: r, ex, lr, st, fd => by
    have h1 := openM_sz ex t st fd
    have h2 := endM_sz t (openM ex t st fd).2.1 (openM ex t st fd).2.2
    have h3 := rowP_sz lr t (openM ex t st fd)
    have h4 := effM_sz t (rowP lr t (openM ex t st fd))
    unfold sz at h1 h3 h4
    rw [layM]
    split
    · have := layM_len r (isEx t) t.r [] (endM t (openM ex t st fd).2.1 (openM ex t st fd).2.2 ++ [t])
      simp only [List.length_append, List.length_cons, List.length_nil] at this ⊢
      omega
    · have := layM_len r (isEx t) t.r (effM t (rowP lr t (openM ex t st fd))).1 ((effM t (rowP lr t (openM ex t st fd))).2 ++ [t])
      simp only [List.length_append, List.length_cons, List.length_nil] at this ⊢
      omega
theorem law_true (cs : Nat → Addr) (ns : List Int) (hl : ns.length ≤ 63) (hb : ∀ z ∈ ns, Builtin.Int.intBits z ≤ 1048576) : ∃ h', f_law cs [.cst (ns.map D.int)] [] = .ok (.bl true) h' := by
  have key : wpR (f_law cs [.cst (ns.map D.int)] []) (fun d _ => d = .bl true) X0 := by
    unfold f_law m_law
    obtain ⟨ds, e⟩ := streamK_ok (m := 300) hl
    have e1 : f_z_stream cs [.cst (ns.map .int), .int 300] [] = .ok (.ref 1) [.lst (ds.map .int), bagA 0 ds.length] := e
    have e2 : dIx (.ref 1) (.str "row") [.lst (ds.map .int), bagA 0 ds.length] = .ok (.ref 0) [.lst (ds.map .int), bagA 0 ds.length] := rfl
    have e3 : dLen [.ref 0] [.lst (ds.map D.int), bagA 0 ds.length] = .ok (.int ds.length) [.lst (ds.map .int), bagA 0 ds.length] := by
      have := ev_lenL (h := [.lst (ds.map D.int), bagA 0 ds.length]) (n := 0) (ds := ds.map D.int) rfl
      rw [List.length_map] at this
      exact this
    have c1 : ∀ x : Int, CDivW x 2 := fun x => ⟨by decide, by decide⟩
    simp only [↓wp_seq, ↓wp_skip, ↓wp_drop, ↓wp_ret, ↓wp_retN, ↓wp_brk, ↓wp_cnt, ↓wp_if, ↓wp_asg, ↓wp_to, ↓wp_tos, ↓wp_toIx, ↓wp_aug, ↓wp_augK, ↓wp_fldSet, ↓wp_fldAug, ↓wp_var, ↓wp_c, ↓wp_op, ↓wp_un, ↓wp_nil, ↓wp_cons, ↓wp_tup, ↓wp_lst, ↓wp_dict0, ↓wp_dict, ↓wp_pairs0, ↓wp_pairs, ↓wp_call, ↓wp_callF, ↓wp_tru, ↓wp_bl, ↓wp_and, ↓wp_or, ↓wp_not, ↓wp_andV, ↓wp_orV, ↓wp_notV, ↓wp_part, ↓wp_noPart, ↓wp_sl, ↓wp_bm, ↓wp_ifE, ↓wp_fld, ↓wp_meth, ↓wp_make, ↓wp_lockE, ↓wp_rng1, ↓wp_rng2, ↓wp_seqI, ↓wpR_ok, ↓wpS_nx, ↓wpS_rt, List.getElem?_cons_zero, List.getElem?_cons_succ, List.set_cons_zero, List.set_cons_succ, List.length_cons, List.length_nil, ↓reduceIte, decide_eq_true_eq, ev_add, ev_iadd, ev_sub, ev_mod, ev_neg, ev_lt, ev_le, ev_gt, ev_ge, ev_eqI, ev_neI, ev_eqS, ev_neS, ev_isN, ev_int, ev_abs, ev_max, ev_min, ev_lenT, ev_lenC, ev_tupT, Int.reduceLT, Int.reduceLE, Int.reduceNeg, Int.reduceAdd, Int.reduceSub, Int.reduceEq, Nat.reduceAdd, Nat.reduceSub, and_self, ↓List.map_cons, ↓List.map_nil, ↓List.cons_append, ↓List.nil_append, List.replicate, ixT0, ixT1, ixT2, ixT3, ixTm1, ixTm2, ixTm3, onH_get, onH_set, onH_push, onH_len, mkB_get, mkB_set, mkB_push, mkB_len, mkB_next, Option.getD_some, Option.getD_none, sz0, sz1, sz2, sz3, sz4, sz5, sz6, sz7, sz8, sz9, ev_keyI, ev_keyS, ev_eqB, ev_neB, wp_one, wp_yes, wp_valsI, wp_keysI, wp_lcE, Bool.false_eq_true, Bool.not_eq_true', decide_eq_false_iff_not, Bool.not_true, Bool.not_false, ite_and2, ite_or2, ite_tand, not_true_eq_false, not_false_eq_true, ↓wp_runB, e1, e2, e3, ev_fdiv (c1 _)]
    refine row_ok (by split <;> omega) (by split <;> omega) fun a l r c hf hr hn => ?_
    obtain ⟨gd, gd2, ok⟩ := good_of (c := c) hf hr (by omega)
    generalize l ++ [endT r c] = toks at gd gd2 ok
    have d1 : dList [.ref 3] (H4 ds ds.length a toks) = .ok (.ref 4) (H4 ds ds.length a toks ++ [.lst (toks.map tkD)]) := rfl
    have g3 : (H4 ds ds.length a toks ++ [.lst (toks.map tkD)])[3]? = some (.lst (toks.map tkD)) := rfl
    have g4 : (H4 ds ds.length a toks ++ [.lst (toks.map tkD)])[4]? = some (.lst (toks.map tkD)) := rfl
    have okl : (toks.map tkD).all (okD 3) = true := toks_okD ok
    have okd : ((layM true 0 [] [] toks).map tkD).all (okD 3) = true := toks_okD (layM_ok _ _ _ _ _ (by simp) ok)
    simp only [↓wp_seq, ↓wp_skip, ↓wp_drop, ↓wp_ret, ↓wp_retN, ↓wp_brk, ↓wp_cnt, ↓wp_if, ↓wp_asg, ↓wp_to, ↓wp_tos, ↓wp_toIx, ↓wp_aug, ↓wp_augK, ↓wp_fldSet, ↓wp_fldAug, ↓wp_var, ↓wp_c, ↓wp_op, ↓wp_un, ↓wp_nil, ↓wp_cons, ↓wp_tup, ↓wp_lst, ↓wp_dict0, ↓wp_dict, ↓wp_pairs0, ↓wp_pairs, ↓wp_call, ↓wp_callF, ↓wp_tru, ↓wp_bl, ↓wp_and, ↓wp_or, ↓wp_not, ↓wp_andV, ↓wp_orV, ↓wp_notV, ↓wp_part, ↓wp_noPart, ↓wp_sl, ↓wp_bm, ↓wp_ifE, ↓wp_fld, ↓wp_meth, ↓wp_make, ↓wp_lockE, ↓wp_rng1, ↓wp_rng2, ↓wp_seqI, ↓wpR_ok, ↓wpS_nx, ↓wpS_rt, List.getElem?_cons_zero, List.getElem?_cons_succ, List.set_cons_zero, List.set_cons_succ, List.length_cons, List.length_nil, ↓reduceIte, decide_eq_true_eq, ev_add, ev_iadd, ev_sub, ev_mod, ev_neg, ev_lt, ev_le, ev_gt, ev_ge, ev_eqI, ev_neI, ev_eqS, ev_neS, ev_isN, ev_int, ev_abs, ev_max, ev_min, ev_lenT, ev_lenC, ev_tupT, Int.reduceLT, Int.reduceLE, Int.reduceNeg, Int.reduceAdd, Int.reduceSub, Int.reduceEq, Nat.reduceAdd, Nat.reduceSub, and_self, ↓List.map_cons, ↓List.map_nil, ↓List.cons_append, ↓List.nil_append, List.replicate, ixT0, ixT1, ixT2, ixT3, ixTm1, ixTm2, ixTm3, onH_get, onH_set, onH_push, onH_len, mkB_get, mkB_set, mkB_push, mkB_len, mkB_next, Option.getD_some, Option.getD_none, sz0, sz1, sz2, sz3, sz4, sz5, sz6, sz7, sz8, sz9, ev_keyI, ev_keyS, ev_eqB, ev_neB, wp_one, wp_yes, wp_valsI, wp_keysI, wp_lcE, Bool.false_eq_true, Bool.not_eq_true', decide_eq_false_iff_not, Bool.not_true, Bool.not_false, ite_and2, ite_or2, ite_tand, not_true_eq_false, not_false_eq_true, d1]
    refine zlayout_ok g3 gd2 fun h1 q1 f1 l1 hq1 => ?_
    refine layout_ok (f1 _ _ g4) gd fun h2 q2 f2 l2 hq2 => ?_
    have hq1' := f2 _ _ hq1
    have hlt : q1 < q2 := Nat.lt_of_lt_of_le (List.getElem?_eq_some_iff.mp hq1).1 l2
    have i1 : dIsi isiTab [.ref q2, .ty "list"] h2 = .ok (.bl true) h2 := by simp only [dIsi, tyOfD, hq2, if_true]
    simp only [↓wp_seq, ↓wp_skip, ↓wp_drop, ↓wp_ret, ↓wp_retN, ↓wp_brk, ↓wp_cnt, ↓wp_if, ↓wp_asg, ↓wp_to, ↓wp_tos, ↓wp_toIx, ↓wp_aug, ↓wp_augK, ↓wp_fldSet, ↓wp_fldAug, ↓wp_var, ↓wp_c, ↓wp_op, ↓wp_un, ↓wp_nil, ↓wp_cons, ↓wp_tup, ↓wp_lst, ↓wp_dict0, ↓wp_dict, ↓wp_pairs0, ↓wp_pairs, ↓wp_call, ↓wp_callF, ↓wp_tru, ↓wp_bl, ↓wp_and, ↓wp_or, ↓wp_not, ↓wp_andV, ↓wp_orV, ↓wp_notV, ↓wp_part, ↓wp_noPart, ↓wp_sl, ↓wp_bm, ↓wp_ifE, ↓wp_fld, ↓wp_meth, ↓wp_make, ↓wp_lockE, ↓wp_rng1, ↓wp_rng2, ↓wp_seqI, ↓wpR_ok, ↓wpS_nx, ↓wpS_rt, List.getElem?_cons_zero, List.getElem?_cons_succ, List.set_cons_zero, List.set_cons_succ, List.length_cons, List.length_nil, ↓reduceIte, decide_eq_true_eq, ev_add, ev_iadd, ev_sub, ev_mod, ev_neg, ev_lt, ev_le, ev_gt, ev_ge, ev_eqI, ev_neI, ev_eqS, ev_neS, ev_isN, ev_int, ev_abs, ev_max, ev_min, ev_lenT, ev_lenC, ev_tupT, Int.reduceLT, Int.reduceLE, Int.reduceNeg, Int.reduceAdd, Int.reduceSub, Int.reduceEq, Nat.reduceAdd, Nat.reduceSub, and_self, ↓List.map_cons, ↓List.map_nil, ↓List.cons_append, ↓List.nil_append, List.replicate, ixT0, ixT1, ixT2, ixT3, ixTm1, ixTm2, ixTm3, onH_get, onH_set, onH_push, onH_len, mkB_get, mkB_set, mkB_push, mkB_len, mkB_next, Option.getD_some, Option.getD_none, sz0, sz1, sz2, sz3, sz4, sz5, sz6, sz7, sz8, sz9, ev_keyI, ev_keyS, ev_eqB, ev_neB, wp_one, wp_yes, wp_valsI, wp_keysI, wp_lcE, Bool.false_eq_true, Bool.not_eq_true', decide_eq_false_iff_not, Bool.not_true, Bool.not_false, ite_and2, ite_or2, ite_tand, not_true_eq_false, not_false_eq_true, i1, truB]
    rw [dNe_lst hq2 hq1' okd (by decide), wpR_ok]
    simp only [↓wp_seq, ↓wp_skip, ↓wp_drop, ↓wp_ret, ↓wp_retN, ↓wp_brk, ↓wp_cnt, ↓wp_if, ↓wp_asg, ↓wp_to, ↓wp_tos, ↓wp_toIx, ↓wp_aug, ↓wp_augK, ↓wp_fldSet, ↓wp_fldAug, ↓wp_var, ↓wp_c, ↓wp_op, ↓wp_un, ↓wp_nil, ↓wp_cons, ↓wp_tup, ↓wp_lst, ↓wp_dict0, ↓wp_dict, ↓wp_pairs0, ↓wp_pairs, ↓wp_call, ↓wp_callF, ↓wp_tru, ↓wp_bl, ↓wp_and, ↓wp_or, ↓wp_not, ↓wp_andV, ↓wp_orV, ↓wp_notV, ↓wp_part, ↓wp_noPart, ↓wp_sl, ↓wp_bm, ↓wp_ifE, ↓wp_fld, ↓wp_meth, ↓wp_make, ↓wp_lockE, ↓wp_rng1, ↓wp_rng2, ↓wp_seqI, ↓wpR_ok, ↓wpS_nx, ↓wpS_rt, List.getElem?_cons_zero, List.getElem?_cons_succ, List.set_cons_zero, List.set_cons_succ, List.length_cons, List.length_nil, ↓reduceIte, decide_eq_true_eq, ev_add, ev_iadd, ev_sub, ev_mod, ev_neg, ev_lt, ev_le, ev_gt, ev_ge, ev_eqI, ev_neI, ev_eqS, ev_neS, ev_isN, ev_int, ev_abs, ev_max, ev_min, ev_lenT, ev_lenC, ev_tupT, Int.reduceLT, Int.reduceLE, Int.reduceNeg, Int.reduceAdd, Int.reduceSub, Int.reduceEq, Nat.reduceAdd, Nat.reduceSub, and_self, ↓List.map_cons, ↓List.map_nil, ↓List.cons_append, ↓List.nil_append, List.replicate, ixT0, ixT1, ixT2, ixT3, ixTm1, ixTm2, ixTm3, onH_get, onH_set, onH_push, onH_len, mkB_get, mkB_set, mkB_push, mkB_len, mkB_next, Option.getD_some, Option.getD_none, sz0, sz1, sz2, sz3, sz4, sz5, sz6, sz7, sz8, sz9, ev_keyI, ev_keyS, ev_eqB, ev_neB, wp_one, wp_yes, wp_valsI, wp_keysI, wp_lcE, Bool.false_eq_true, Bool.not_eq_true', decide_eq_false_iff_not, Bool.not_true, Bool.not_false, ite_and2, ite_or2, ite_tand, not_true_eq_false, not_false_eq_true]
    rw [dNe_lst (f2 _ _ (f1 _ _ g4)) (f2 _ _ (f1 _ _ g3)) okl (by decide), wpR_ok]
    rw [if_neg (by decide)]
    refine layout_ok (f2 _ _ (f1 _ _ g4)) gd fun h3 q3 f3 l3 hq3 => ?_
    have hq2' := f3 _ _ hq2
    have hq1'' := f3 _ _ hq1'
    have hlt3 : q2 < q3 := Nat.lt_of_lt_of_le (List.getElem?_eq_some_iff.mp hq2).1 l3
    have hbig : ((layM true 0 [] [] toks).map tkD).length < sizeLine := by
      rw [List.length_map]
      exact big (Nat.lt_of_le_of_lt (layM_len _ _ _ _ _) (by have := gd.few; simp; omega))
    rw [if_pos (ev_tyL hq2'), ev_app hq2' hbig, wpR_ok]
    rw [dEq_lst (get_other (by omega) hq3) (get_other (by omega) hq1'') okd (by decide), wpR_ok]
    simp only [↓wp_seq, ↓wp_skip, ↓wp_drop, ↓wp_ret, ↓wp_retN, ↓wp_brk, ↓wp_cnt, ↓wp_if, ↓wp_asg, ↓wp_to, ↓wp_tos, ↓wp_toIx, ↓wp_aug, ↓wp_augK, ↓wp_fldSet, ↓wp_fldAug, ↓wp_var, ↓wp_c, ↓wp_op, ↓wp_un, ↓wp_nil, ↓wp_cons, ↓wp_tup, ↓wp_lst, ↓wp_dict0, ↓wp_dict, ↓wp_pairs0, ↓wp_pairs, ↓wp_call, ↓wp_callF, ↓wp_tru, ↓wp_bl, ↓wp_and, ↓wp_or, ↓wp_not, ↓wp_andV, ↓wp_orV, ↓wp_notV, ↓wp_part, ↓wp_noPart, ↓wp_sl, ↓wp_bm, ↓wp_ifE, ↓wp_fld, ↓wp_meth, ↓wp_make, ↓wp_lockE, ↓wp_rng1, ↓wp_rng2, ↓wp_seqI, ↓wpR_ok, ↓wpS_nx, ↓wpS_rt, List.getElem?_cons_zero, List.getElem?_cons_succ, List.set_cons_zero, List.set_cons_succ, List.length_cons, List.length_nil, ↓reduceIte, decide_eq_true_eq, ev_add, ev_iadd, ev_sub, ev_mod, ev_neg, ev_lt, ev_le, ev_gt, ev_ge, ev_eqI, ev_neI, ev_eqS, ev_neS, ev_isN, ev_int, ev_abs, ev_max, ev_min, ev_lenT, ev_lenC, ev_tupT, Int.reduceLT, Int.reduceLE, Int.reduceNeg, Int.reduceAdd, Int.reduceSub, Int.reduceEq, Nat.reduceAdd, Nat.reduceSub, and_self, ↓List.map_cons, ↓List.map_nil, ↓List.cons_append, ↓List.nil_append, List.replicate, ixT0, ixT1, ixT2, ixT3, ixTm1, ixTm2, ixTm3, onH_get, onH_set, onH_push, onH_len, mkB_get, mkB_set, mkB_push, mkB_len, mkB_next, Option.getD_some, Option.getD_none, sz0, sz1, sz2, sz3, sz4, sz5, sz6, sz7, sz8, sz9, ev_keyI, ev_keyS, ev_eqB, ev_neB, wp_one, wp_yes, wp_valsI, wp_keysI, wp_lcE, Bool.false_eq_true, Bool.not_eq_true', decide_eq_false_iff_not, Bool.not_true, Bool.not_false, ite_and2, ite_or2, ite_tand, not_true_eq_false, not_false_eq_true]
    have gl := good_of (l := []) (r := 1) (c := 1) (by simp) (by decide) (by decide)
    rw [List.nil_append] at gl
    refine layout_ok (toks := [endT 1 1]) get_last0 gl.1 fun h4 q4 f4 l4 hq4 => ?_
    have e5 : (layM true 0 [] [] [endT 1 1]).map tkD = [D.tup [.str "sign", .str "{", .int 1, .int 1], .tup [.str "sign", .str "}", .int 1, .int 1], .tup [.str "end", .str "", .int 1, .int 1]] := by rfl
    have ok5 : ((layM true 0 [] [] [endT 1 1]).map tkD).all (okD 3) = true := toks_okD (layM_ok _ _ _ _ _ (by simp) gl.2.2)
    rw [e5] at hq4 ok5
    rw [dEq_lst (get_push hq4) get_last0 ok5 (by decide), wpR_ok]
  obtain ⟨d, h', e, rfl⟩ := wpR_elim key
  exact ⟨h', e⟩
end
end K02

namespace K02
open PySem PySem.Spec PyProof.Rows L2 FL
def csOf (C : List Addr) : Nat → Addr := fun i => C.getD i 0
def spLaw (K : PySem.W.Frag) : Sp := fun vs H Q E => ∀ cs, spF K 1 (f_law cs) vs H Q E
theorem all_mk {l : PySem.W.OpenLaw} {w : World} {K : PySem.W.Frag} {h : Heap} {mg : Str → Option Value} {fa : Addr} {C0 : Addr} (X : K.In h) (G : h.Ns mainGlobals mg) (hfa : mg "law" = some (.ref fa))
    {f0 : Addr} {od0 an0 : Option Addr} {sl0 : Array (Option Value)} {oc0 kV0 dc0 pm0 cd0 ct0 : Value}
    {f1 : Addr} {od1 an1 : Option Addr} {sl1 : Array (Option Value)} {oc1 kV1 dc1 pm1 cd1 ct1 : Value}
    {f2 : Addr} {od2 an2 : Option Addr} {sl2 : Array (Option Value)} {oc2 kV2 dc2 pm2 cd2 ct2 : Value}
    {f3 : Addr} {od3 an3 : Option Addr} {sl3 : Array (Option Value)} {oc3 kV3 dc3 pm3 cd3 ct3 : Value}
    {f4 : Addr} {od4 an4 : Option Addr} {sl4 : Array (Option Value)} {oc4 kV4 dc4 pm4 cd4 ct4 : Value}
    {f5 : Addr} {od5 an5 : Option Addr} {sl5 : Array (Option Value)} {oc5 kV5 dc5 pm5 cd5 ct5 : Value}
    {f6 : Addr} {od6 an6 : Option Addr} {sl6 : Array (Option Value)} {oc6 kV6 dc6 pm6 cd6 ct6 : Value}
    {f7 : Addr} {od7 an7 : Option Addr} {sl7 : Array (Option Value)} {oc7 kV7 dc7 pm7 cd7 ct7 : Value}
    {f8 : Addr} {od8 an8 : Option Addr} {sl8 : Array (Option Value)} {oc8 kV8 dc8 pm8 cd8 ct8 : Value}
    {f9 : Addr} {od9 an9 : Option Addr} {sl9 : Array (Option Value)} {oc9 kV9 dc9 pm9 cd9 ct9 : Value}
    {f10 : Addr} {od10 an10 : Option Addr} {sl10 : Array (Option Value)} {oc10 kV10 dc10 pm10 cd10 ct10 : Value}
    {f11 : Addr} {od11 an11 : Option Addr} {sl11 : Array (Option Value)} {oc11 kV11 dc11 pm11 cd11 ct11 : Value}
    {f12 : Addr} {od12 an12 : Option Addr} {sl12 : Array (Option Value)} {oc12 kV12 dc12 pm12 cd12 ct12 : Value}
    {f13 : Addr} {od13 an13 : Option Addr} {sl13 : Array (Option Value)} {oc13 kV13 dc13 pm13 cd13 ct13 : Value}
    {f14 : Addr} {od14 an14 : Option Addr} {sl14 : Array (Option Value)} {oc14 kV14 dc14 pm14 cd14 ct14 : Value}
    {f15 : Addr} {od15 an15 : Option Addr} {sl15 : Array (Option Value)} {oc15 kV15 dc15 pm15 cd15 ct15 : Value}
    {f16 : Addr} {od16 an16 : Option Addr} {sl16 : Array (Option Value)} {oc16 kV16 dc16 pm16 cd16 ct16 : Value}
    {f17 : Addr} {od17 an17 : Option Addr} {sl17 : Array (Option Value)} {oc17 kV17 dc17 pm17 cd17 ct17 : Value}
    {f18 : Addr} {od18 an18 : Option Addr} {sl18 : Array (Option Value)} {oc18 kV18 dc18 pm18 cd18 ct18 : Value}
    {f19 : Addr} {od19 an19 : Option Addr} {sl19 : Array (Option Value)} {oc19 kV19 dc19 pm19 cd19 ct19 : Value}
    {f20 : Addr} {od20 an20 : Option Addr} {sl20 : Array (Option Value)} {oc20 kV20 dc20 pm20 cd20 ct20 : Value}
    {f21 : Addr} {od21 an21 : Option Addr} {sl21 : Array (Option Value)} {oc21 kV21 dc21 pm21 cd21 ct21 : Value}
    {f22 : Addr} {od22 an22 : Option Addr} {sl22 : Array (Option Value)} {oc22 kV22 dc22 pm22 cd22 ct22 : Value}
    {f23 : Addr} {od23 an23 : Option Addr} {sl23 : Array (Option Value)} {oc23 kV23 dc23 pm23 cd23 ct23 : Value}
    {ak1 : Addr} {ok1 : Option Addr} {nk1 : Nat} {sk1 : Array (Option Value)}
    {tk2 : Tok}
    {tk3 : Tok}
    {tk4 : Tok}
    {tk5 : Tok}
    {tk6 : Tok}
    {tk7 : Tok}
    {ak8 : Addr} {ok8 : Option Addr} {nk8 : Nat} {sk8 : Array (Option Value)}
    {tk9 : Tok}
    {tk10 : Tok}
    {tk11 : Tok}
    {tk13 : Tok}
    {he12 : Int} {te12 : Tok}
    {tk15 : Tok}
    {he14 : Int} {te14 : Tok}
    {tk17 : Tok}
    {he16 : Int} {te16 : Tok}
    {tk19 : Tok}
    {he18 : Int} {te18 : Tok}
    {tk21 : Tok}
    {he20 : Int} {te20 : Tok}
    {tk23 : Tok}
    {he22 : Int} {te22 : Tok}
    {tk25 : Tok}
    {he24 : Int} {te24 : Tok}
    {ad_CLOSED_BY : Addr} {nd_CLOSED_BY : Nat}
    (aC0 : PySem.W.nsIn K mainGlobals "Contexts" = some (some (.ref C0)))
    (a0 : PySem.W.findIn K (.ref C0) "__init__" = some (some (.ref f0)))
    (i0 : PySem.W.isFn K (.ref f0) = true)
    (l0 : K.lookup f0 = some ⟨oc0, od0, .func (PySem.W.fnOf "__init__" "Contexts.__init__" (defArgs s_Contexts_init) (defBody s_Contexts_init) (defScope s_Contexts_init) .none kV0 dc0 pm0 an0 cd0 ct0), sl0⟩)
    (c0 : PySem.W.codeIn K cd0 "Contexts.__init__" = true)
    (k0 : PySem.W.keepIn K (.ref f0) = true)
    (a1 : PySem.W.findIn K (.ref C0) "add" = some (some (.ref f1)))
    (i1 : PySem.W.isFn K (.ref f1) = true)
    (l1 : K.lookup f1 = some ⟨oc1, od1, .func (PySem.W.fnOf "add" "Contexts.add" (defArgs s_Contexts_add) (defBody s_Contexts_add) (defScope s_Contexts_add) .none kV1 dc1 pm1 an1 cd1 ct1), sl1⟩)
    (c1 : PySem.W.codeIn K cd1 "Contexts.add" = true)
    (k1 : PySem.W.keepIn K (.ref f1) = true)
    (a2 : PySem.W.findIn K (.ref C0) "column" = some (some (.ref f2)))
    (i2 : PySem.W.isFn K (.ref f2) = true)
    (l2 : K.lookup f2 = some ⟨oc2, od2, .func (PySem.W.fnOf "column" "Contexts.column" (defArgs s_Contexts_column) (defBody s_Contexts_column) (defScope s_Contexts_column) .none kV2 dc2 pm2 an2 cd2 ct2), sl2⟩)
    (c2 : PySem.W.codeIn K cd2 "Contexts.column" = true)
    (k2 : PySem.W.keepIn K (.ref f2) = true)
    (a3 : PySem.W.findIn K (.ref C0) "open_block" = some (some (.ref f3)))
    (i3 : PySem.W.isFn K (.ref f3) = true)
    (l3 : K.lookup f3 = some ⟨oc3, od3, .func (PySem.W.fnOf "open_block" "Contexts.open_block" (defArgs s_Contexts_open_block) (defBody s_Contexts_open_block) (defScope s_Contexts_open_block) .none kV3 dc3 pm3 an3 cd3 ct3), sl3⟩)
    (c3 : PySem.W.codeIn K cd3 "Contexts.open_block" = true)
    (k3 : PySem.W.keepIn K (.ref f3) = true)
    (a4 : PySem.W.findIn K (.ref C0) "on_block" = some (some (.ref f4)))
    (i4 : PySem.W.isFn K (.ref f4) = true)
    (l4 : K.lookup f4 = some ⟨oc4, od4, .func (PySem.W.fnOf "on_block" "Contexts.on_block" (defArgs s_Contexts_on_block) (defBody s_Contexts_on_block) (defScope s_Contexts_on_block) .none kV4 dc4 pm4 an4 cd4 ct4), sl4⟩)
    (c4 : PySem.W.codeIn K cd4 "Contexts.on_block" = true)
    (k4 : PySem.W.keepIn K (.ref f4) = true)
    (a5 : PySem.W.findIn K (.ref C0) "close_blocks" = some (some (.ref f5)))
    (i5 : PySem.W.isFn K (.ref f5) = true)
    (l5 : K.lookup f5 = some ⟨oc5, od5, .func (PySem.W.fnOf "close_blocks" "Contexts.close_blocks" (defArgs s_Contexts_close_blocks) (defBody s_Contexts_close_blocks) (defScope s_Contexts_close_blocks) .none kV5 dc5 pm5 an5 cd5 ct5), sl5⟩)
    (c5 : PySem.W.codeIn K cd5 "Contexts.close_blocks" = true)
    (k5 : PySem.W.keepIn K (.ref f5) = true)
    (a6 : PySem.W.findIn K (.ref C0) "marker" = some (some (.ref f6)))
    (i6 : PySem.W.isFn K (.ref f6) = true)
    (l6 : K.lookup f6 = some ⟨oc6, od6, .func (PySem.W.fnOf "marker" "Contexts.marker" (defArgs s_Contexts_marker) (defBody s_Contexts_marker) (defScope s_Contexts_marker) .none kV6 dc6 pm6 an6 cd6 ct6), sl6⟩)
    (c6 : PySem.W.codeIn K cd6 "Contexts.marker" = true)
    (k6 : PySem.W.keepIn K (.ref f6) = true)
    (a7 : PySem.W.findIn K (.ref C0) "close_to" = some (some (.ref f7)))
    (i7 : PySem.W.isFn K (.ref f7) = true)
    (l7 : K.lookup f7 = some ⟨oc7, od7, .func (PySem.W.fnOf "close_to" "Contexts.close_to" (defArgs s_Contexts_close_to) (defBody s_Contexts_close_to) (defScope s_Contexts_close_to) .none kV7 dc7 pm7 an7 cd7 ct7), sl7⟩)
    (c7 : PySem.W.codeIn K cd7 "Contexts.close_to" = true)
    (k7 : PySem.W.keepIn K (.ref f7) = true)
    (a8 : PySem.W.findIn K (.ref C0) "take" = some (some (.ref f8)))
    (i8 : PySem.W.isFn K (.ref f8) = true)
    (l8 : K.lookup f8 = some ⟨oc8, od8, .func (PySem.W.fnOf "take" "Contexts.take" (defArgs s_Contexts_take) (defBody s_Contexts_take) (defScope s_Contexts_take) .none kV8 dc8 pm8 an8 cd8 ct8), sl8⟩)
    (c8 : PySem.W.codeIn K cd8 "Contexts.take" = true)
    (k8 : PySem.W.keepIn K (.ref f8) = true)
    (a9 : PySem.W.findIn K (.ref C0) "begin_row" = some (some (.ref f9)))
    (i9 : PySem.W.isFn K (.ref f9) = true)
    (l9 : K.lookup f9 = some ⟨oc9, od9, .func (PySem.W.fnOf "begin_row" "Contexts.begin_row" (defArgs s_Contexts_begin_row) (defBody s_Contexts_begin_row) (defScope s_Contexts_begin_row) .none kV9 dc9 pm9 an9 cd9 ct9), sl9⟩)
    (c9 : PySem.W.codeIn K cd9 "Contexts.begin_row" = true)
    (k9 : PySem.W.keepIn K (.ref f9) = true)
    (a10 : PySem.W.nsIn K mainGlobals "layout" = some (some (.ref f10)))
    (l10 : K.lookup f10 = some ⟨oc10, od10, .func (PySem.W.fnOf "layout" "layout" (defArgs s_layout) (defBody s_layout) (defScope s_layout) .none kV10 dc10 pm10 an10 cd10 ct10), sl10⟩)
    (c10 : PySem.W.codeIn K cd10 "layout" = true)
    (k10 : PySem.W.keepIn K (.ref f10) = true)
    (a11 : PySem.W.nsIn K mainGlobals "_law_mix" = some (some (.ref f11)))
    (l11 : K.lookup f11 = some ⟨oc11, od11, .func (PySem.W.fnOf "_law_mix" "_law_mix" (defArgs s_z_mix) (defBody s_z_mix) (defScope s_z_mix) .none kV11 dc11 pm11 an11 cd11 ct11), sl11⟩)
    (c11 : PySem.W.codeIn K cd11 "_law_mix" = true)
    (k11 : PySem.W.keepIn K (.ref f11) = true)
    (a12 : PySem.W.nsIn K mainGlobals "_law_stream" = some (some (.ref f12)))
    (l12 : K.lookup f12 = some ⟨oc12, od12, .func (PySem.W.fnOf "_law_stream" "_law_stream" (defArgs s_z_stream) (defBody s_z_stream) (defScope s_z_stream) .none kV12 dc12 pm12 an12 cd12 ct12), sl12⟩)
    (c12 : PySem.W.codeIn K cd12 "_law_stream" = true)
    (k12 : PySem.W.keepIn K (.ref f12) = true)
    (a13 : PySem.W.nsIn K mainGlobals "_law_pick" = some (some (.ref f13)))
    (l13 : K.lookup f13 = some ⟨oc13, od13, .func (PySem.W.fnOf "_law_pick" "_law_pick" (defArgs s_z_pick) (defBody s_z_pick) (defScope s_z_pick) .none kV13 dc13 pm13 an13 cd13 ct13), sl13⟩)
    (c13 : PySem.W.codeIn K cd13 "_law_pick" = true)
    (k13 : PySem.W.keepIn K (.ref f13) = true)
    (a14 : PySem.W.nsIn K mainGlobals "_law_row" = some (some (.ref f14)))
    (l14 : K.lookup f14 = some ⟨oc14, od14, .func (PySem.W.fnOf "_law_row" "_law_row" (defArgs s_z_row) (defBody s_z_row) (defScope s_z_row) .none kV14 dc14 pm14 an14 cd14 ct14), sl14⟩)
    (c14 : PySem.W.codeIn K cd14 "_law_row" = true)
    (k14 : PySem.W.keepIn K (.ref f14) = true)
    (a15 : PySem.W.nsIn K mainGlobals "_law_marker" = some (some (.ref f15)))
    (l15 : K.lookup f15 = some ⟨oc15, od15, .func (PySem.W.fnOf "_law_marker" "_law_marker" (defArgs s_z_marker) (defBody s_z_marker) (defScope s_z_marker) .none kV15 dc15 pm15 an15 cd15 ct15), sl15⟩)
    (c15 : PySem.W.codeIn K cd15 "_law_marker" = true)
    (k15 : PySem.W.keepIn K (.ref f15) = true)
    (a16 : PySem.W.nsIn K mainGlobals "_law_inner" = some (some (.ref f16)))
    (l16 : K.lookup f16 = some ⟨oc16, od16, .func (PySem.W.fnOf "_law_inner" "_law_inner" (defArgs s_z_inner) (defBody s_z_inner) (defScope s_z_inner) .none kV16 dc16 pm16 an16 cd16 ct16), sl16⟩)
    (c16 : PySem.W.codeIn K cd16 "_law_inner" = true)
    (k16 : PySem.W.keepIn K (.ref f16) = true)
    (a17 : PySem.W.nsIn K mainGlobals "_law_sign" = some (some (.ref f17)))
    (l17 : K.lookup f17 = some ⟨oc17, od17, .func (PySem.W.fnOf "_law_sign" "_law_sign" (defArgs s_z_sign) (defBody s_z_sign) (defScope s_z_sign) .none kV17 dc17 pm17 an17 cd17 ct17), sl17⟩)
    (c17 : PySem.W.codeIn K cd17 "_law_sign" = true)
    (k17 : PySem.W.keepIn K (.ref f17) = true)
    (a18 : PySem.W.nsIn K mainGlobals "_law_close" = some (some (.ref f18)))
    (l18 : K.lookup f18 = some ⟨oc18, od18, .func (PySem.W.fnOf "_law_close" "_law_close" (defArgs s_z_close) (defBody s_z_close) (defScope s_z_close) .none kV18 dc18 pm18 an18 cd18 ct18), sl18⟩)
    (c18 : PySem.W.codeIn K cd18 "_law_close" = true)
    (k18 : PySem.W.keepIn K (.ref f18) = true)
    (a19 : PySem.W.nsIn K mainGlobals "_law_effect" = some (some (.ref f19)))
    (l19 : K.lookup f19 = some ⟨oc19, od19, .func (PySem.W.fnOf "_law_effect" "_law_effect" (defArgs s_z_effect) (defBody s_z_effect) (defScope s_z_effect) .none kV19 dc19 pm19 an19 cd19 ct19), sl19⟩)
    (c19 : PySem.W.codeIn K cd19 "_law_effect" = true)
    (k19 : PySem.W.keepIn K (.ref f19) = true)
    (a20 : PySem.W.nsIn K mainGlobals "_law_first" = some (some (.ref f20)))
    (l20 : K.lookup f20 = some ⟨oc20, od20, .func (PySem.W.fnOf "_law_first" "_law_first" (defArgs s_z_first) (defBody s_z_first) (defScope s_z_first) .none kV20 dc20 pm20 an20 cd20 ct20), sl20⟩)
    (c20 : PySem.W.codeIn K cd20 "_law_first" = true)
    (k20 : PySem.W.keepIn K (.ref f20) = true)
    (a21 : PySem.W.nsIn K mainGlobals "_law_opens" = some (some (.ref f21)))
    (l21 : K.lookup f21 = some ⟨oc21, od21, .func (PySem.W.fnOf "_law_opens" "_law_opens" (defArgs s_z_opens) (defBody s_z_opens) (defScope s_z_opens) .none kV21 dc21 pm21 an21 cd21 ct21), sl21⟩)
    (c21 : PySem.W.codeIn K cd21 "_law_opens" = true)
    (k21 : PySem.W.keepIn K (.ref f21) = true)
    (a22 : PySem.W.nsIn K mainGlobals "_law_layout" = some (some (.ref f22)))
    (l22 : K.lookup f22 = some ⟨oc22, od22, .func (PySem.W.fnOf "_law_layout" "_law_layout" (defArgs s_z_layout) (defBody s_z_layout) (defScope s_z_layout) .none kV22 dc22 pm22 an22 cd22 ct22), sl22⟩)
    (c22 : PySem.W.codeIn K cd22 "_law_layout" = true)
    (k22 : PySem.W.keepIn K (.ref f22) = true)
    (a23 : PySem.W.nsIn K mainGlobals "law" = some (some (.ref f23)))
    (l23 : K.lookup f23 = some ⟨oc23, od23, .func (PySem.W.fnOf "law" "law" (defArgs s_law) (defBody s_law) (defScope s_law) .none kV23 dc23 pm23 an23 cd23 ct23), sl23⟩)
    (c23 : PySem.W.codeIn K cd23 "law" = true)
    (k23 : PySem.W.keepIn K (.ref f23) = true)
    (pg0 : PySem.W.plainGet K C0 Str.empty = true)
    (hd0 : PySem.W.hasDictIn K C0 = true)
    (po0 : PySem.W.plainOver K C0 = true)
    (sa0 : PySem.W.findIn K (.ref C0) "__setattr__" = some (some (.builtin "object.__setattr__")))
    (mk0 : PySem.W.makesIn K C0 = true)
    (kc0 : PySem.W.keepIn K (.ref C0) = true)
    (n0_found : PySem.W.findIn K (.ref C0) "found" = some none)
    (n0_stack : PySem.W.findIn K (.ref C0) "stack" = some none)
    (z_int : PySem.W.nsIn K mainGlobals "int" = some none)
    (z_isinstance : PySem.W.nsIn K mainGlobals "isinstance" = some none)
    (z_len : PySem.W.nsIn K mainGlobals "len" = some none)
    (z_list : PySem.W.nsIn K mainGlobals "list" = some none)
    (z_min : PySem.W.nsIn K mainGlobals "min" = some none)
    (z_range : PySem.W.nsIn K mainGlobals "range" = some none)
    (z_reversed : PySem.W.nsIn K mainGlobals "reversed" = some none)
    (z_str : PySem.W.nsIn K mainGlobals "str" = some none)
    (gk_MARKERS : PySem.W.nsIn K mainGlobals "MARKERS" = some (some (.ref ak1)))
    (lk1 : K.lookup ak1 = some ⟨.type "tuple", ok1, .seq (List.toArray [.str "(" tk2, .str "[" tk3, .str "{" tk4, .str "let" tk5, .str "case" tk6, .str "if" tk7]) nk1, sk1⟩)
    (gk_OPENERS : PySem.W.nsIn K mainGlobals "OPENERS" = some (some (.ref ak8)))
    (lk8 : K.lookup ak8 = some ⟨.type "tuple", ok8, .seq (List.toArray [.str "where" tk9, .str "let" tk10, .str "of" tk11]) nk8, sk8⟩)
    (gk_CLOSED_BY : PySem.W.nsIn K mainGlobals "CLOSED_BY" = some (some (.ref ad_CLOSED_BY)))
    (ld_CLOSED_BY : K.lookup ad_CLOSED_BY = some ⟨.type "dict", none, .dict (List.toArray [⟨he12, .str ")" te12, .str "(" tk13⟩, ⟨he14, .str "]" te14, .str "[" tk15⟩, ⟨he16, .str "}" te16, .str "{" tk17⟩, ⟨he18, .str "in" te18, .str "let" tk19⟩, ⟨he20, .str "of" te20, .str "case" tk21⟩, ⟨he22, .str "then" te22, .str "if" tk23⟩, ⟨he24, .str "else" te24, .str "then" tk25⟩]) nd_CLOSED_BY, #[]⟩)
    (sd_CLOSED_BY : (ad_CLOSED_BY == sysModules) = false)
    (hd12_CLOSED_BY : he12 = PyData.keyHash w.params ")")
    (hd14_CLOSED_BY : he14 = PyData.keyHash w.params "]")
    (hd16_CLOSED_BY : he16 = PyData.keyHash w.params "}")
    (hd18_CLOSED_BY : he18 = PyData.keyHash w.params "in")
    (hd20_CLOSED_BY : he20 = PyData.keyHash w.params "of")
    (hd22_CLOSED_BY : he22 = PyData.keyHash w.params "then")
    (hd24_CLOSED_BY : he24 = PyData.keyHash w.params "else")
    : ∃ fd : FuncData, (∀ (s : Shared) (v : Value), BindsTo s fd ⟨[v], []⟩ [("_law_script", v)]) ∧ ∀ base : Heap, K.In base → base.Ns mainGlobals mg → FnOk l.prog w K mg base (L2.CX l.prog w) 6 fa fd ["_law_script"] (spLaw K) := by
  have e := hfa.symm.trans (PySem.W.mg_of X G a23)
  cases e
  refine ⟨PySem.W.fnOf "law" "law" (defArgs s_law) (defBody s_law) (defScope s_law) .none kV23 dc23 pm23 an23 cd23 ct23, fun s v => .of_eq rfl, fun base _ _ => ?_⟩
  have X0 : Cls K C0 := ⟨pg0, hd0, po0, sa0⟩
  have T : Txt K w mg (csOf [C0]) := by
    constructor
    · exact PySem.W.mg_none_of X G z_int
    · exact PySem.W.mg_none_of X G z_isinstance
    · exact PySem.W.mg_none_of X G z_len
    · exact PySem.W.mg_none_of X G z_list
    · exact PySem.W.mg_none_of X G z_min
    · exact PySem.W.mg_none_of X G z_range
    · exact PySem.W.mg_none_of X G z_reversed
    · exact PySem.W.mg_none_of X G z_str
    · intro p hp
      simp only [isiTab, List.mem_cons, List.not_mem_nil, or_false] at hp
      rcases hp with rfl | rfl | rfl | rfl | rfl | rfl | rfl | rfl | rfl | rfl | rfl | rfl | rfl | rfl | rfl | rfl | rfl | rfl
      · exact kit_ty (by rfl)
      · exact kit_ty (by rfl)
      · exact kit_ty (by rfl)
      · exact kit_ty (by rfl)
      · exact kit_ty (by rfl)
      · exact kit_ty (by rfl)
      · exact kit_ty (by rfl)
      · exact kit_ty (by rfl)
      · exact kit_ty (by rfl)
      · exact kit_ty (by rfl)
      · exact kit_ty (by rfl)
      · exact kit_ty (by rfl)
      · exact kit_ty (by rfl)
      · exact kit_ty (by rfl)
      · exact kit_ty (by rfl)
      · exact kit_ty (by rfl)
      · exact kit_ty (by rfl)
      · exact kit_ty (by rfl)
    · exact ⟨_, PySem.W.mg_of X G gk_MARKERS, .tup lk1 (by simp [sizeLine]) (.cons (.str _ _) (.cons (.str _ _) (.cons (.str _ _) (.cons (.str _ _) (.cons (.str _ _) (.cons (.str _ _) (.nil)))))))⟩
    · exact ⟨_, PySem.W.mg_of X G gk_OPENERS, .tup lk8 (by simp [sizeLine]) (.cons (.str _ _) (.cons (.str _ _) (.cons (.str _ _) (.nil))))⟩
    · exact ⟨_, _, _, PySem.W.mg_of X G gk_CLOSED_BY, ⟨ld_CLOSED_BY, ⟨⟨_, _, rfl, hd12_CLOSED_BY⟩, ⟨⟨_, _, rfl, hd14_CLOSED_BY⟩, ⟨⟨_, _, rfl, hd16_CLOSED_BY⟩, ⟨⟨_, _, rfl, hd18_CLOSED_BY⟩, ⟨⟨_, _, rfl, hd20_CLOSED_BY⟩, ⟨⟨_, _, rfl, hd22_CLOSED_BY⟩, ⟨⟨_, _, rfl, hd24_CLOSED_BY⟩, trivial⟩⟩⟩⟩⟩⟩⟩, sd_CLOSED_BY⟩, .cons rfl (.str _ _) (.cons rfl (.str _ _) (.cons rfl (.str _ _) (.cons rfl (.str _ _) (.cons rfl (.str _ _) (.cons rfl (.str _ _) (.cons rfl (.str _ _) (.nil)))))))⟩
    · intro C hC
      simp only [List.mem_cons, List.not_mem_nil, or_false] at hC
      rcases hC with rfl
      · exact ⟨X0, n0_found⟩
    · intro C hC
      simp only [List.mem_cons, List.not_mem_nil, or_false] at hC
      rcases hC with rfl
      · exact ⟨X0, n0_stack⟩
  have F0 := fun_mk (st := s_Contexts_init) l0 c0 k0
  have b0 := F0.binds (ps := ["self"]) fun _ _ _ _ _ _ us hl => match us, hl with | [_], _ => rfl
  have O0 := ok_Contexts_init (P := l.prog) (w := w) (base := base) F0 T 
  have D0 : CD l.prog w K mg base 1 "Contexts" C0 1 (f_Contexts_init (csOf [C0])) := ⟨PySem.W.mg_of X G aC0, ⟨_, _, _, O0, ⟨mk0, a0, i0, kc0⟩, b0⟩⟩
  have F1 := fun_mk (st := s_Contexts_add) l1 c1 k1
  have b1 := F1.binds (ps := ["self", "text", "token"]) fun _ _ _ _ _ _ us hl => match us, hl with | [_, _, _], _ => rfl
  have O1 := ok_Contexts_add (P := l.prog) (w := w) (base := base) F1 T 
  have D1 : MD l.prog w K mg base 1 C0 "add" 3 (f_Contexts_add (csOf [C0])) := ⟨X0, ⟨_, _, _, O1, ⟨a1, i1, k1⟩, b1⟩⟩
  have F2 := fun_mk (st := s_Contexts_column) l2 c2 k2
  have b2 := F2.binds (ps := ["self"]) fun _ _ _ _ _ _ us hl => match us, hl with | [_], _ => rfl
  have O2 := ok_Contexts_column (P := l.prog) (w := w) (base := base) F2 T 
  have D2 : MD l.prog w K mg base 1 C0 "column" 1 (f_Contexts_column (csOf [C0])) := ⟨X0, ⟨_, _, _, O2, ⟨a2, i2, k2⟩, b2⟩⟩
  have F3 := fun_mk (st := s_Contexts_open_block) l3 c3 k3
  have b3 := F3.binds (ps := ["self", "token"]) fun _ _ _ _ _ _ us hl => match us, hl with | [_, _], _ => rfl
  have O3 := ok_Contexts_open_block (P := l.prog) (w := w) (base := base) F3 T D1 D2
  have D3 : MD l.prog w K mg base 2 C0 "open_block" 2 (f_Contexts_open_block (csOf [C0])) := ⟨X0, ⟨_, _, _, O3, ⟨a3, i3, k3⟩, b3⟩⟩
  have F4 := fun_mk (st := s_Contexts_on_block) l4 c4 k4
  have b4 := F4.binds (ps := ["self"]) fun _ _ _ _ _ _ us hl => match us, hl with | [_], _ => rfl
  have O4 := ok_Contexts_on_block (P := l.prog) (w := w) (base := base) F4 T 
  have D4 : MD l.prog w K mg base 1 C0 "on_block" 1 (f_Contexts_on_block (csOf [C0])) := ⟨X0, ⟨_, _, _, O4, ⟨a4, i4, k4⟩, b4⟩⟩
  have F5 := fun_mk (st := s_Contexts_close_blocks) l5 c5 k5
  have b5 := F5.binds (ps := ["self", "token"]) fun _ _ _ _ _ _ us hl => match us, hl with | [_, _], _ => rfl
  have O5 := ok_Contexts_close_blocks (P := l.prog) (w := w) (base := base) F5 T D4 D1
  have D5 : MD l.prog w K mg base 2 C0 "close_blocks" 2 (f_Contexts_close_blocks (csOf [C0])) := ⟨X0, ⟨_, _, _, O5, ⟨a5, i5, k5⟩, b5⟩⟩
  have F6 := fun_mk (st := s_Contexts_marker) l6 c6 k6
  have b6 := F6.binds (ps := ["self"]) fun _ _ _ _ _ _ us hl => match us, hl with | [_], _ => rfl
  have O6 := ok_Contexts_marker (P := l.prog) (w := w) (base := base) F6 T 
  have D6 : MD l.prog w K mg base 1 C0 "marker" 1 (f_Contexts_marker (csOf [C0])) := ⟨X0, ⟨_, _, _, O6, ⟨a6, i6, k6⟩, b6⟩⟩
  have F7 := fun_mk (st := s_Contexts_close_to) l7 c7 k7
  have b7 := F7.binds (ps := ["self", "marker", "token"]) fun _ _ _ _ _ _ us hl => match us, hl with | [_, _, _], _ => rfl
  have O7 := ok_Contexts_close_to (P := l.prog) (w := w) (base := base) F7 T D5 D6
  have D7 : MD l.prog w K mg base 3 C0 "close_to" 3 (f_Contexts_close_to (csOf [C0])) := ⟨X0, ⟨_, _, _, O7, ⟨a7, i7, k7⟩, b7⟩⟩
  have F8 := fun_mk (st := s_Contexts_take) l8 c8 k8
  have b8 := F8.binds (ps := ["self", "token"]) fun _ _ _ _ _ _ us hl => match us, hl with | [_, _], _ => rfl
  have O8 := ok_Contexts_take (P := l.prog) (w := w) (base := base) F8 T D5 D7 D6
  have D8 : MD l.prog w K mg base 4 C0 "take" 2 (f_Contexts_take (csOf [C0])) := ⟨X0, ⟨_, _, _, O8, ⟨a8, i8, k8⟩, b8⟩⟩
  have F9 := fun_mk (st := s_Contexts_begin_row) l9 c9 k9
  have b9 := F9.binds (ps := ["self", "token"]) fun _ _ _ _ _ _ us hl => match us, hl with | [_, _], _ => rfl
  have O9 := ok_Contexts_begin_row (P := l.prog) (w := w) (base := base) F9 T D4 D1
  have D9 : MD l.prog w K mg base 2 C0 "begin_row" 2 (f_Contexts_begin_row (csOf [C0])) := ⟨X0, ⟨_, _, _, O9, ⟨a9, i9, k9⟩, b9⟩⟩
  have F10 := fun_mk (st := s_layout) l10 c10 k10
  have b10 := F10.binds (ps := ["row"]) fun _ _ _ _ _ _ us hl => match us, hl with | [_], _ => rfl
  have O10 := ok_layout (P := l.prog) (w := w) (base := base) F10 T D0 D3 D8 D4 D9 D1
  have D10 : FD l.prog w K mg base 5 "layout" 1 (f_layout (csOf [C0])) := ⟨⟨_, _, _, O10, PySem.W.mg_of X G a10, k10, b10⟩⟩
  have F11 := fun_mk (st := s_z_mix) l11 c11 k11
  have b11 := F11.binds (ps := ["_law_cell", "_law_k"]) fun _ _ _ _ _ _ us hl => match us, hl with | [_, _], _ => rfl
  have O11 := ok_z_mix (P := l.prog) (w := w) (base := base) F11 T 
  have D11 : FD l.prog w K mg base 1 "_law_mix" 2 (f_z_mix (csOf [C0])) := ⟨⟨_, _, _, O11, PySem.W.mg_of X G a11, k11, b11⟩⟩
  have F12 := fun_mk (st := s_z_stream) l12 c12 k12
  have b12 := F12.binds (ps := ["_law_script", "_law_most"]) fun _ _ _ _ _ _ us hl => match us, hl with | [_, _], _ => rfl
  have O12 := ok_z_stream (P := l.prog) (w := w) (base := base) F12 T D11
  have D12 : FD l.prog w K mg base 2 "_law_stream" 2 (f_z_stream (csOf [C0])) := ⟨⟨_, _, _, O12, PySem.W.mg_of X G a12, k12, b12⟩⟩
  have F13 := fun_mk (st := s_z_pick) l13 c13 k13
  have b13 := F13.binds (ps := ["_law_draws", "_law_many"]) fun _ _ _ _ _ _ us hl => match us, hl with | [_, _], _ => rfl
  have O13 := ok_z_pick (P := l.prog) (w := w) (base := base) F13 T D11
  have D13 : FD l.prog w K mg base 2 "_law_pick" 2 (f_z_pick (csOf [C0])) := ⟨⟨_, _, _, O13, PySem.W.mg_of X G a13, k13, b13⟩⟩
  have F14 := fun_mk (st := s_z_row) l14 c14 k14
  have b14 := F14.binds (ps := ["_law_draws", "_law_many"]) fun _ _ _ _ _ _ us hl => match us, hl with | [_, _], _ => rfl
  have O14 := ok_z_row (P := l.prog) (w := w) (base := base) F14 T D13
  have D14 : FD l.prog w K mg base 3 "_law_row" 2 (f_z_row (csOf [C0])) := ⟨⟨_, _, _, O14, PySem.W.mg_of X G a14, k14, b14⟩⟩
  have F15 := fun_mk (st := s_z_marker) l15 c15 k15
  have b15 := F15.binds (ps := ["_law_stack"]) fun _ _ _ _ _ _ us hl => match us, hl with | [_], _ => rfl
  have O15 := ok_z_marker (P := l.prog) (w := w) (base := base) F15 T 
  have D15 : FD l.prog w K mg base 1 "_law_marker" 1 (f_z_marker (csOf [C0])) := ⟨⟨_, _, _, O15, PySem.W.mg_of X G a15, k15, b15⟩⟩
  have F16 := fun_mk (st := s_z_inner) l16 c16 k16
  have b16 := F16.binds (ps := ["_law_stack"]) fun _ _ _ _ _ _ us hl => match us, hl with | [_], _ => rfl
  have O16 := ok_z_inner (P := l.prog) (w := w) (base := base) F16 T 
  have D16 : FD l.prog w K mg base 1 "_law_inner" 1 (f_z_inner (csOf [C0])) := ⟨⟨_, _, _, O16, PySem.W.mg_of X G a16, k16, b16⟩⟩
  have F17 := fun_mk (st := s_z_sign) l17 c17 k17
  have b17 := F17.binds (ps := ["_law_text", "_law_token"]) fun _ _ _ _ _ _ us hl => match us, hl with | [_, _], _ => rfl
  have O17 := ok_z_sign (P := l.prog) (w := w) (base := base) F17 T 
  have D17 : FD l.prog w K mg base 1 "_law_sign" 2 (f_z_sign (csOf [C0])) := ⟨⟨_, _, _, O17, PySem.W.mg_of X G a17, k17, b17⟩⟩
  have F18 := fun_mk (st := s_z_close) l18 c18 k18
  have b18 := F18.binds (ps := ["_law_stack", "_law_found", "_law_token"]) fun _ _ _ _ _ _ us hl => match us, hl with | [_, _, _], _ => rfl
  have O18 := ok_z_close (P := l.prog) (w := w) (base := base) F18 T D17
  have D18 : FD l.prog w K mg base 2 "_law_close" 3 (f_z_close (csOf [C0])) := ⟨⟨_, _, _, O18, PySem.W.mg_of X G a18, k18, b18⟩⟩
  have F19 := fun_mk (st := s_z_effect) l19 c19 k19
  have b19 := F19.binds (ps := ["_law_stack", "_law_found", "_law_token"]) fun _ _ _ _ _ _ us hl => match us, hl with | [_, _, _], _ => rfl
  have O19 := ok_z_effect (P := l.prog) (w := w) (base := base) F19 T D15 D18
  have D19 : FD l.prog w K mg base 3 "_law_effect" 3 (f_z_effect (csOf [C0])) := ⟨⟨_, _, _, O19, PySem.W.mg_of X G a19, k19, b19⟩⟩
  have F20 := fun_mk (st := s_z_first) l20 c20 k20
  have b20 := F20.binds (ps := ["_law_stack", "_law_found", "_law_token"]) fun _ _ _ _ _ _ us hl => match us, hl with | [_, _, _], _ => rfl
  have O20 := ok_z_first (P := l.prog) (w := w) (base := base) F20 T D17
  have D20 : FD l.prog w K mg base 2 "_law_first" 3 (f_z_first (csOf [C0])) := ⟨⟨_, _, _, O20, PySem.W.mg_of X G a20, k20, b20⟩⟩
  have F21 := fun_mk (st := s_z_opens) l21 c21 k21
  have b21 := F21.binds (ps := ["_law_stack", "_law_found", "_law_token"]) fun _ _ _ _ _ _ us hl => match us, hl with | [_, _, _], _ => rfl
  have O21 := ok_z_opens (P := l.prog) (w := w) (base := base) F21 T D17 D16
  have D21 : FD l.prog w K mg base 2 "_law_opens" 3 (f_z_opens (csOf [C0])) := ⟨⟨_, _, _, O21, PySem.W.mg_of X G a21, k21, b21⟩⟩
  have F22 := fun_mk (st := s_z_layout) l22 c22 k22
  have b22 := F22.binds (ps := ["_law_row_here"]) fun _ _ _ _ _ _ us hl => match us, hl with | [_], _ => rfl
  have O22 := ok_z_layout (P := l.prog) (w := w) (base := base) F22 T D21 D19 D20 D17
  have D22 : FD l.prog w K mg base 4 "_law_layout" 1 (f_z_layout (csOf [C0])) := ⟨⟨_, _, _, O22, PySem.W.mg_of X G a22, k22, b22⟩⟩
  have F23 := fun_mk (st := s_law) l23 c23 k23
  have b23 := F23.binds (ps := ["_law_script"]) fun _ _ _ _ _ _ us hl => match us, hl with | [_], _ => rfl
  have O23 := ok_law (P := l.prog) (w := w) (base := base) F23 T D12 D14 D22 D10
  exact O23.imp fun vs H Q E q => q _
theorem walk {l : PySem.W.OpenLaw} {q : Program} {loose : List Str} {XP : (Str → Option Value) → Heap → Prop} {YP : World → Heap → Prop} {d : DefRec} {K : Params → PySem.W.Frag} (hn : l.most = some 63) (hdf : d.params.defaults = [])
    (hY : ∀ (w : World) (h : Heap), YP w h → (K w.params).In h)
    (F : ∀ (w : World) (mg : Str → Option Value) (fa : Addr) (h : Heap), (K w.params).In h → h.Ns mainGlobals mg → mg d.name = some (.ref fa) →
      ∃ fd : FuncData, (∀ (s : Shared) (u : Value), BindsTo s fd ⟨[u], []⟩ [("_law_script", u)]) ∧ ∀ base : Heap, (K w.params).In base → base.Ns mainGlobals mg → FnOk l.prog w (K w.params) mg base (L2.CX l.prog w) 6 fa fd ["_law_script"] (spLaw (K w.params))) :
    PySem.W.WalkO q loose XP YP l.row.toRowW d [] (fun f vs => PySem.call f vs) :=
  L2.walk_ofB (n := 63) (k := 6) (x := "_law_script") (CX := fun w => L2.CX l.prog w) (sp := fun w => spLaw (K w.params)) hn (by decide) hdf ⟨rfl, by decide, by decide⟩ hY F (fun w H a ns hl hb hO hS => fun cs => FL.law_hsp (P := fun ns => ns.length ≤ 63 ∧ ∀ z ∈ ns, Builtin.Int.intBits z ≤ 1048576) (fun ns hp => law_true cs ns hp.1 hp.2) H a ns ⟨hl, hb⟩ hO hS) fun _ _ _ _ _ h => FL.law_CX h
end K02
open PySem PySem.W PyProof.Rows
set_option maxRecDepth 100000 in
set_option maxHeartbeats 0 in
theorem PySem.Challenge.cw_needonce_k02_layout_by_its_rules_holds : PySem.Challenge.rw_needonce_k02_layout_by_its_rules.Holds := by
  w_on; o_law; k_head; (case hw => w_witness2)
  k_fill
  refine K02.walk (l := PySem.Challenge.rw_needonce_k02_layout_by_its_rules) rfl rfl (fun w h Y => PySem.W.kIn_of Y) ?F
  case F =>
    intro w mg fa h KX G hmg
    refine' K02.all_mk KX G hmg ?aC0 ?a0 ?i0 ?l0 ?c0 ?k0 ?a1 ?i1 ?l1 ?c1 ?k1 ?a2 ?i2 ?l2 ?c2 ?k2 ?a3 ?i3 ?l3 ?c3 ?k3 ?a4 ?i4 ?l4 ?c4 ?k4 ?a5 ?i5 ?l5 ?c5 ?k5 ?a6 ?i6 ?l6 ?c6 ?k6 ?a7 ?i7 ?l7 ?c7 ?k7 ?a8 ?i8 ?l8 ?c8 ?k8 ?a9 ?i9 ?l9 ?c9 ?k9 ?a10 ?l10 ?c10 ?k10 ?a11 ?l11 ?c11 ?k11 ?a12 ?l12 ?c12 ?k12 ?a13 ?l13 ?c13 ?k13 ?a14 ?l14 ?c14 ?k14 ?a15 ?l15 ?c15 ?k15 ?a16 ?l16 ?c16 ?k16 ?a17 ?l17 ?c17 ?k17 ?a18 ?l18 ?c18 ?k18 ?a19 ?l19 ?c19 ?k19 ?a20 ?l20 ?c20 ?k20 ?a21 ?l21 ?c21 ?k21 ?a22 ?l22 ?c22 ?k22 ?a23 ?l23 ?c23 ?k23 ?pg0 ?hd0 ?po0 ?sa0 ?mk0 ?kc0 ?n0_found ?n0_stack ?z_int ?z_isinstance ?z_len ?z_list ?z_min ?z_range ?z_reversed ?z_str ?gk_MARKERS ?lk1 ?gk_OPENERS ?lk8 ?gk_CLOSED_BY ?ld_CLOSED_BY ?sd_CLOSED_BY ?hd12_CLOSED_BY ?hd14_CLOSED_BY ?hd16_CLOSED_BY ?hd18_CLOSED_BY ?hd20_CLOSED_BY ?hd22_CLOSED_BY ?hd24_CLOSED_BY
    (case aC0 => k_is)
    (case a0 => k_is)
    (case i0 => k_is)
    (case l0 => k_is)
    (case c0 => k_is)
    (case k0 => k_is)
    (case a1 => k_is)
    (case i1 => k_is)
    (case l1 => k_is)
    (case c1 => k_is)
    (case k1 => k_is)
    (case a2 => k_is)
    (case i2 => k_is)
    (case l2 => k_is)
    (case c2 => k_is)
    (case k2 => k_is)
    (case a3 => k_is)
    (case i3 => k_is)
    (case l3 => k_is)
    (case c3 => k_is)
    (case k3 => k_is)
    (case a4 => k_is)
    (case i4 => k_is)
    (case l4 => k_is)
    (case c4 => k_is)
    (case k4 => k_is)
    (case a5 => k_is)
    (case i5 => k_is)
    (case l5 => k_is)
    (case c5 => k_is)
    (case k5 => k_is)
    (case a6 => k_is)
    (case i6 => k_is)
    (case l6 => k_is)
    (case c6 => k_is)
    (case k6 => k_is)
    (case a7 => k_is)
    (case i7 => k_is)
    (case l7 => k_is)
    (case c7 => k_is)
    (case k7 => k_is)
    (case a8 => k_is)
    (case i8 => k_is)
    (case l8 => k_is)
    (case c8 => k_is)
    (case k8 => k_is)
    (case a9 => k_is)
    (case i9 => k_is)
    (case l9 => k_is)
    (case c9 => k_is)
    (case k9 => k_is)
    (case a10 => k_is)
    (case l10 => k_is)
    (case c10 => k_is)
    (case k10 => k_is)
    (case a11 => k_is)
    (case l11 => k_is)
    (case c11 => k_is)
    (case k11 => k_is)
    (case a12 => k_is)
    (case l12 => k_is)
    (case c12 => k_is)
    (case k12 => k_is)
    (case a13 => k_is)
    (case l13 => k_is)
    (case c13 => k_is)
    (case k13 => k_is)
    (case a14 => k_is)
    (case l14 => k_is)
    (case c14 => k_is)
    (case k14 => k_is)
    (case a15 => k_is)
    (case l15 => k_is)
    (case c15 => k_is)
    (case k15 => k_is)
    (case a16 => k_is)
    (case l16 => k_is)
    (case c16 => k_is)
    (case k16 => k_is)
    (case a17 => k_is)
    (case l17 => k_is)
    (case c17 => k_is)
    (case k17 => k_is)
    (case a18 => k_is)
    (case l18 => k_is)
    (case c18 => k_is)
    (case k18 => k_is)
    (case a19 => k_is)
    (case l19 => k_is)
    (case c19 => k_is)
    (case k19 => k_is)
    (case a20 => k_is)
    (case l20 => k_is)
    (case c20 => k_is)
    (case k20 => k_is)
    (case a21 => k_is)
    (case l21 => k_is)
    (case c21 => k_is)
    (case k21 => k_is)
    (case a22 => k_is)
    (case l22 => k_is)
    (case c22 => k_is)
    (case k22 => k_is)
    (case a23 => k_is)
    (case l23 => k_is)
    (case c23 => k_is)
    (case k23 => k_is)
    (case pg0 => k_is)
    (case hd0 => k_is)
    (case po0 => k_is)
    (case sa0 => k_is)
    (case mk0 => k_is)
    (case kc0 => k_is)
    (case n0_found => k_is)
    (case n0_stack => k_is)
    (case z_int => k_is)
    (case z_isinstance => k_is)
    (case z_len => k_is)
    (case z_list => k_is)
    (case z_min => k_is)
    (case z_range => k_is)
    (case z_reversed => k_is)
    (case z_str => k_is)
    (case gk_MARKERS => k_is)
    (case lk1 => k_is)
    (case gk_OPENERS => k_is)
    (case lk8 => k_is)
    (case gk_CLOSED_BY => k_is)
    (case ld_CLOSED_BY => k_is)
    (case sd_CLOSED_BY => exact rfl)
    (case hd12_CLOSED_BY => exact rfl)
    (case hd14_CLOSED_BY => exact rfl)
    (case hd16_CLOSED_BY => exact rfl)
    (case hd18_CLOSED_BY => exact rfl)
    (case hd20_CLOSED_BY => exact rfl)
    (case hd22_CLOSED_BY => exact rfl)
    (case hd24_CLOSED_BY => exact rfl)

