import PyProof.Rows.All
import Wide.All
import OpenK.AllK
import Wide.FinOn
import HandS.ForMost
import HandS.ForExc
import HandS.Wide
import HandS.TupAny
import HandS.Small
import HandS.IsInst
import HandS.SortInts
import HandS.More
import HandS.Rev
import HandS.Zip
import HandS.EndBits
import HandS.Style
import PyProof.EqLayable
import PyProof.P3Eq
import PySem.Challenge.RW_needonce_k65_heap_by_model
set_option Elab.async false
set_option linter.all false
set_option maxRecDepth 100000
/-! FL: a functional layer over HandS. Values as data (tuples without addresses), a heap of numbered mutable objects, each def a function of data and heap. -/
namespace FL
open PySem PySem.Spec PyProof.Rows L2

inductive D where
  | non | bl (b : Bool) | int (i : Int) | str (x : Str) | ty (n : String) | ref (i : Nat) | tup (ds : List D) | cst (ds : List D)

inductive MO where
  | lst (ds : List D)
  | dK (kvs : List (Key × D))
  | fdK (kvs : List (Key × D))
  | ins (C : Addr) (fs : List (Str × D))

abbrev HS := List MO
abbrev Sl := List (Option D)

/-- an exception: its class, its own attributes -/
structure XV where
  cls : Addr
  fs : Option (List (Str × D))

inductive R (α : Type) where
  | bad | ok (a : α) (h : HS) | ex (x : XV) (h : HS)

def R.bind {α β : Type} (m : R α) (f : α → HS → R β) : R β := match m with
  | .bad => .bad
  | .ok a h => f a h
  | .ex x h => .ex x h

/-- a list that no code of ours writes: locked, or of the module -/
def CsL (K : PySem.W.Frag) (H : Hp) (a : Addr) (vs : List V) : Prop :=
  (∃ o, H a = some (.frz o (.lst vs))) ∨
    ∃ (o : Obj) (its : Array Value) (n : Nat), K.lookup a = some o ∧ o.cls = .type "list" ∧ o.dict = none ∧ o.data = .seq its n ∧ its.size ≤ sizeLine ∧ Vals vs its.toList
theorem CsL.sq {K : PySem.W.Frag} {H : Hp} {a : Addr} {vs : List V} (h : CsL K H a vs) : SqL K H a vs := by
  rcases h with ⟨o, h⟩ | h
  · exact .inl (.inr ⟨o, h⟩)
  · exact .inr h

mutual
inductive DV (K : PySem.W.Frag) (ρ : List Addr) (H : Hp) : D → V → Prop where
  | non : DV K ρ H .non .non
  | bl (b : Bool) : DV K ρ H (.bl b) (.bl b)
  | int (i : Int) : DV K ρ H (.int i) (.int i)
  | str (x : Str) : DV K ρ H (.str x) (.str x)
  | ty (n : String) : DV K ρ H (.ty n) (.ty n)
  | ref {i : Nat} {a : Addr} : ρ[i]? = some a → DV K ρ H (.ref i) (.ref a)
  | tup {a : Addr} {vs : List V} {ds : List D} : SqT K H a vs → DVs K ρ H ds vs → DV K ρ H (.tup ds) (.ref a)
  | cst {a : Addr} {vs : List V} {ds : List D} : CsL K H a vs → DVs K ρ H ds vs → DV K ρ H (.cst ds) (.ref a)
inductive DVs (K : PySem.W.Frag) (ρ : List Addr) (H : Hp) : List D → List V → Prop where
  | nil : DVs K ρ H [] []
  | cons {d : D} {v : V} {ds : List D} {vs : List V} : DV K ρ H d v → DVs K ρ H ds vs → DVs K ρ H (d :: ds) (v :: vs)
end

abbrev KDs (κ : Type) (K : PySem.W.Frag) (ρ : List Addr) (H : Hp) : List (κ × D) → List (κ × V) → Prop := Paired fun p q => p.1 = q.1 ∧ DV K ρ H p.2 q.2

def RepO (K : PySem.W.Frag) (ρ : List Addr) (H : Hp) (a : Addr) : MO → Prop
  | .lst ds => ∃ vs, H a = some (.lst vs) ∧ DVs K ρ H ds vs
  | .dK kvs => ∃ vk, H a = some (.dK vk) ∧ KDs Key K ρ H kvs vk
  | .fdK kvs => ∃ o vk, H a = some (.frz o (.dK vk)) ∧ KDs Key K ρ H kvs vk
  | .ins C fs => ∃ dx vf, H a = some (.ins C dx vf) ∧ KDs Str K ρ H fs vf

structure Rep (K : PySem.W.Frag) (ρ : List Addr) (h : HS) (H : Hp) : Prop where
  len : ρ.length = h.length
  nd : ρ.Nodup
  obj : ∀ (i : Nat) (o : MO) (a : Addr), h[i]? = some o → ρ[i]? = some a → RepO K ρ H a o

structure Ext (ρ : List Addr) (H : Hp) (ρ' : List Addr) (H' : Hp) : Prop where
  pre : ∃ e, ρ' = ρ ++ e ∧ ∀ a ∈ e, H a = none
  keep : ∀ a o, H a = some o → a ∉ ρ → H' a = some o
  frz : ∀ a o u, H a = some (.frz o u) → H' a = some (.frz o u)
def isFz : HO → Bool
  | .frz _ _ => true
  | _ => false

section
variable {K : PySem.W.Frag} {ρ ρ1 ρ2 ρ' : List Addr} {h h' h1 : HS} {H H1 H2 H' : Hp}
theorem Ext.refl : Ext ρ H ρ H := ⟨⟨[], by simp, by simp⟩, fun _ _ e _ => e, fun _ _ _ e => e⟩
theorem Ext.trans (e1 : Ext ρ H ρ1 H1) (e2 : Ext ρ1 H1 ρ2 H2) (nd : ρ2.Nodup) : Ext ρ H ρ2 H2 := by
  obtain ⟨x, rfl, hx⟩ := e1.pre
  obtain ⟨y, rfl, hy⟩ := e2.pre
  rw [List.append_assoc] at nd
  have key : ∀ a o, H a = some o → a ∉ ρ → a ∉ ρ ++ x := fun a o e n z => by
    rcases List.mem_append.mp z with z | z
    · exact n z
    · rw [hx a z] at e; cases e
  refine ⟨⟨x ++ y, List.append_assoc .., fun a ha => ?_⟩, fun a o e n => e2.keep a o (e1.keep a o e n) (key a o e n), fun a o u e => e2.frz a o u (e1.frz a o u e)⟩
  rcases List.mem_append.mp ha with z | z
  · exact hx a z
  · cases q : H a with
    | none => rfl
    | some o =>
      have n : a ∉ ρ := fun z2 => (List.nodup_append.mp nd).2.2 a z2 a (List.mem_append_right x z) rfl
      have := e1.keep a o q n
      rw [hy a z] at this; cases this
theorem Ext.ix (e : Ext ρ H ρ' H') {i : Nat} {a : Addr} (q : ρ[i]? = some a) : ρ'[i]? = some a := by
  obtain ⟨x, rfl, _⟩ := e.pre
  rw [List.getElem?_append_left (List.getElem?_eq_some_iff.mp q).1]
  exact q
theorem Rep.mem (r : Rep K ρ h H) {a : Addr} (ha : a ∈ ρ) : ∃ (i : Nat) (o : MO), h[i]? = some o ∧ ρ[i]? = some a ∧ RepO K ρ H a o := by
  obtain ⟨i, hi, e⟩ := List.mem_iff_getElem.mp ha
  have hi' : i < h.length := by rw [← r.len]; exact hi
  have e1 : ρ[i]? = some a := by rw [List.getElem?_eq_getElem hi, e]
  have e2 : h[i]? = some h[i] := List.getElem?_eq_getElem hi'
  exact ⟨i, h[i], e2, e1, r.obj i _ a e2 e1⟩
theorem RepO.some {a : Addr} {o : MO} (r : RepO K ρ H a o) : ∃ u, H a = some u ∧ (∀ xs, u ≠ .tup xs) ∧ ∀ ob xs, u ≠ .frz ob (.lst xs) ∧ u ≠ .frz ob (.tup xs) := by
  cases o with
  | lst ds => obtain ⟨vs, e, _⟩ := r; exact ⟨_, e, (fun _ z => by cases z), fun _ _ => ⟨(fun z => by cases z), (fun z => by cases z)⟩⟩
  | dK ds => obtain ⟨vs, e, _⟩ := r; exact ⟨_, e, (fun _ z => by cases z), fun _ _ => ⟨(fun z => by cases z), (fun z => by cases z)⟩⟩
  | fdK ds => obtain ⟨ob, vs, e, _⟩ := r; exact ⟨_, e, (fun _ z => by cases z), fun _ _ => ⟨(fun z => by cases z), (fun z => by cases z)⟩⟩
  | ins C fs => obtain ⟨dx, vs, e, _⟩ := r; exact ⟨_, e, (fun _ z => by cases z), fun _ _ => ⟨(fun z => by cases z), (fun z => by cases z)⟩⟩
theorem Rep.tupNo (r : Rep K ρ h H) {a : Addr} {xs : List V} (e : Rd H a (.tup xs)) : a ∉ ρ := fun ha => by
  obtain ⟨i, o, _, _, q⟩ := r.mem ha
  obtain ⟨u, e1, n1, n2⟩ := q.some
  rcases e with e | ⟨ob, e⟩
  · rw [e] at e1; cases e1; exact n1 _ rfl
  · rw [e] at e1; cases e1; exact (n2 _ _).2 rfl
theorem Rep.cstNo (r : Rep K ρ h H) {a : Addr} {ob : Obj} {xs : List V} (e : H a = some (.frz ob (.lst xs))) : a ∉ ρ := fun ha => by
  obtain ⟨i, o, _, _, q⟩ := r.mem ha
  obtain ⟨u, e1, n1, n2⟩ := q.some
  rw [e] at e1; cases e1; exact (n2 _ _).1 rfl
/-- what keeps the data readable: numbers keep their addresses, tuples and locked things stay -/
structure Kp (ρ : List Addr) (H : Hp) (ρ' : List Addr) (H' : Hp) : Prop where
  ix : ∀ (i : Nat) (a : Addr), ρ[i]? = some a → ρ'[i]? = some a
  tup : ∀ a xs, H a = some (.tup xs) → H' a = some (.tup xs)
  frt : ∀ a o xs, H a = some (.frz o (.tup xs)) → H' a = some (.frz o (.tup xs))
  frl : ∀ a o xs, H a = some (.frz o (.lst xs)) → H' a = some (.frz o (.lst xs))
theorem Kp.of (r : Rep K ρ h H) (e : Ext ρ H ρ' H') : Kp ρ H ρ' H' :=
  ⟨fun _ _ q => e.ix q, fun a xs q => e.keep a _ q (r.tupNo (.inl q)), fun a o xs q => e.frz a o _ q, fun a o xs q => e.frz a o _ q⟩
/-- a thing that is no tuple and no locked row is changed -/
theorem Kp.upd1 {ρ : List Addr} {H : Hp} {a : Addr} {o u : HO} (e : H a = some u) (h1 : ∀ xs, u ≠ .tup xs) (h2 : ∀ ob xs, u ≠ .frz ob (.tup xs)) (h3 : ∀ ob xs, u ≠ .frz ob (.lst xs)) : Kp ρ H ρ (upd H a o) := by
  refine ⟨fun _ _ q => q, fun b ys q => ?_, fun b ob ys q => ?_, fun b ob ys q => ?_⟩
  · have hb : b ≠ a := fun z => by subst z; rw [e] at q; exact h1 _ (Option.some.inj q)
    rw [upd_ne hb]; exact q
  · have hb : b ≠ a := fun z => by subst z; rw [e] at q; exact h2 _ _ (Option.some.inj q)
    rw [upd_ne hb]; exact q
  · have hb : b ≠ a := fun z => by subst z; rw [e] at q; exact h3 _ _ (Option.some.inj q)
    rw [upd_ne hb]; exact q
theorem sqT_kp (e : Kp ρ H ρ' H') {a : Addr} {vs : List V} (q : SqT K H a vs) : SqT K H' a vs := by
  rcases q with (q | ⟨o, q⟩) | q
  · exact .inl (.inl (e.tup _ _ q))
  · exact .inl (.inr ⟨o, e.frt _ _ _ q⟩)
  · exact .inr q
theorem csL_kp (e : Kp ρ H ρ' H') {a : Addr} {vs : List V} (q : CsL K H a vs) : CsL K H' a vs := by
  rcases q with ⟨o, q⟩ | q
  · exact .inl ⟨o, e.frl _ _ _ q⟩
  · exact .inr q
mutual
theorem DV.kp (e : Kp ρ H ρ' H') : ∀ {d : D} {v : V}, DV K ρ H d v → DV K ρ' H' d v
  | _, _, .non => .non
  | _, _, .bl b => .bl b
  | _, _, .int i => .int i
  | _, _, .str x => .str x
  | _, _, .ty n => .ty n
  | _, _, .ref q => .ref (e.ix _ _ q)
  | _, _, .tup q s => .tup (sqT_kp e q) (DVs.kp e s)
  | _, _, .cst q s => .cst (csL_kp e q) (DVs.kp e s)
theorem DVs.kp (e : Kp ρ H ρ' H') : ∀ {d : List D} {v : List V}, DVs K ρ H d v → DVs K ρ' H' d v
  | _, _, .nil => .nil
  | _, _, .cons q s => .cons (DV.kp e q) (DVs.kp e s)
end
theorem KDs.kp {κ : Type} (e : Kp ρ H ρ' H') {ks : List (κ × D)} {vs : List (κ × V)} (q : KDs κ K ρ H ks vs) : KDs κ K ρ' H' ks vs :=
  Paired.mapP q fun _ _ z => ⟨z.1, z.2.kp e⟩
theorem RepO.kp (e : Kp ρ H ρ' H') {a : Addr} {o : MO} (s : H' a = H a) (q : RepO K ρ H a o) : RepO K ρ' H' a o := by
  cases o with
  | lst ds => obtain ⟨vs, e1, d⟩ := q; exact ⟨vs, s.trans e1, d.kp e⟩
  | dK ds => obtain ⟨vs, e1, d⟩ := q; exact ⟨vs, s.trans e1, KDs.kp e d⟩
  | fdK ds => obtain ⟨ob, vs, e1, d⟩ := q; exact ⟨ob, vs, s.trans e1, KDs.kp e d⟩
  | ins C fs => obtain ⟨dx, vs, e1, d⟩ := q; exact ⟨dx, vs, s.trans e1, KDs.kp e d⟩
theorem DV.mono (r : Rep K ρ h H) (e : Ext ρ H ρ' H') {d : D} {v : V} (q : DV K ρ H d v) : DV K ρ' H' d v := q.kp (.of r e)
theorem DVs.mono (r : Rep K ρ h H) (e : Ext ρ H ρ' H') {d : List D} {v : List V} (q : DVs K ρ H d v) : DVs K ρ' H' d v := q.kp (.of r e)
theorem KDs.mono {κ : Type} (r : Rep K ρ h H) (e : Ext ρ H ρ' H') {ks : List (κ × D)} {vs : List (κ × V)} (q : KDs κ K ρ H ks vs) : KDs κ K ρ' H' ks vs := KDs.kp (.of r e) q
theorem RepO.mono (r : Rep K ρ h H) (e : Ext ρ H ρ' H') {a : Addr} {o : MO} (s : H' a = H a) (q : RepO K ρ H a o) : RepO K ρ' H' a o := q.kp (.of r e) s

theorem DVs.length : ∀ {ds : List D} {vs : List V}, DVs K ρ H ds vs → ds.length = vs.length
  | _, _, .nil => rfl
  | _, _, .cons _ s => by rw [List.length_cons, List.length_cons, s.length]
theorem DVs.get : ∀ {ds : List D} {vs : List V} {i : Nat} {d : D}, DVs K ρ H ds vs → ds[i]? = some d → ∃ v, vs[i]? = some v ∧ DV K ρ H d v
  | _, _, _, _, .nil, e => by simp at e
  | _, _, 0, _, .cons q _, e => by simp at e; subst e; exact ⟨_, rfl, q⟩
  | _, _, i + 1, d, .cons _ s, e => by
    obtain ⟨v, e1, q⟩ := DVs.get (i := i) (d := d) s (by simpa using e)
    exact ⟨v, by simpa using e1, q⟩
theorem DVs.append : ∀ {ds : List D} {vs : List V} {es : List D} {ws : List V}, DVs K ρ H ds vs → DVs K ρ H es ws → DVs K ρ H (ds ++ es) (vs ++ ws)
  | _, _, _, _, .nil, t => t
  | _, _, _, _, .cons q s, t => .cons q (s.append t)
theorem DVs.take : ∀ {ds : List D} {vs : List V} (n : Nat), DVs K ρ H ds vs → DVs K ρ H (ds.take n) (vs.take n)
  | _, _, 0, _ => .nil
  | _, _, _ + 1, .nil => .nil
  | _, _, n + 1, .cons q s => .cons q (s.take n)
theorem DVs.drop : ∀ {ds : List D} {vs : List V} (n : Nat), DVs K ρ H ds vs → DVs K ρ H (ds.drop n) (vs.drop n)
  | _, _, 0, s => s
  | _, _, _ + 1, .nil => .nil
  | _, _, n + 1, .cons _ s => s.drop n
theorem DVs.set {d : D} {v : V} (q : DV K ρ H d v) : ∀ {ds : List D} {vs : List V} (n : Nat), DVs K ρ H ds vs → DVs K ρ H (ds.set n d) (vs.set n v)
  | _, _, _, .nil => .nil
  | _, _, 0, .cons _ s => .cons q s
  | _, _, n + 1, .cons p s => .cons p (s.set q n)
theorem DVs.rev : ∀ {ds : List D} {vs : List V}, DVs K ρ H ds vs → DVs K ρ H ds.reverse vs.reverse
  | _, _, .nil => .nil
  | _, _, .cons q s => by rw [List.reverse_cons, List.reverse_cons]; exact s.rev.append (.cons q .nil)
theorem DVs.ints : ∀ (ns : List Int), DVs K ρ H (ns.map D.int) (ns.map V.int)
  | [] => .nil
  | n :: r => .cons (.int n) (DVs.ints r)
theorem DVs.toInts : ∀ {ns : List Int} {vs : List V}, DVs K ρ H (ns.map D.int) vs → vs = ns.map V.int
  | [], _, .nil => rfl
  | n :: r, _, .cons q s => by cases q; rw [DVs.toInts s]; rfl
theorem DVs.strs : ∀ (ns : List Str), DVs K ρ H (ns.map D.str) (ns.map V.str)
  | [] => .nil
  | n :: r => .cons (.str n) (DVs.strs r)
theorem DVs.toStrs : ∀ {ns : List Str} {vs : List V}, DVs K ρ H (ns.map D.str) vs → vs = ns.map V.str
  | [], _, .nil => rfl
  | n :: r, _, .cons q s => by cases q; rw [DVs.toStrs s]; rfl

/-! ### heaps -/
/-- a thing that is not a numbered object is laid -/
theorem Ext.laid {p : Addr} {o : HO} (n : H p = none) : Ext ρ H ρ (upd H p o) := ⟨⟨[], by simp, by simp⟩, (fun a u e _ => by rw [upd_ne (ne_of_none e n)]; exact e), (fun a o u e => by rw [upd_ne (ne_of_none e n)]; exact e)⟩
theorem Rep.laid {p : Addr} {o : HO} (r : Rep K ρ h H) (n : H p = none) : Rep K ρ h (upd H p o) :=
  ⟨r.len, r.nd, fun i u a e1 e2 => by
    have q := r.obj i u a e1 e2
    obtain ⟨w, ew, _⟩ := q.some
    exact q.mono r (Ext.laid n) (upd_ne (ne_of_none ew n))⟩
/-- a new numbered object -/
theorem Ext.push {p : Addr} {o : HO} (n : H p = none) : Ext ρ H (ρ ++ [p]) (upd H p o) := ⟨⟨[p], rfl, fun a ha => by rw [List.mem_singleton.mp ha]; exact n⟩, (fun a u e _ => by rw [upd_ne (ne_of_none e n)]; exact e), (fun a o u e => by rw [upd_ne (ne_of_none e n)]; exact e)⟩
theorem Rep.push {p : Addr} {o : HO} {m : MO} (r : Rep K ρ h H) (n : H p = none) (q : RepO K (ρ ++ [p]) (upd H p o) p m) : Rep K (ρ ++ [p]) (h ++ [m]) (upd H p o) := by
  have np : p ∉ ρ := fun hp => by
    obtain ⟨_, _, _, _, z⟩ := r.mem hp
    obtain ⟨u, e, _⟩ := z.some
    rw [n] at e; cases e
  refine ⟨by simp [r.len], List.nodup_append.mpr ⟨r.nd, by simp, fun a ha b hb => by rw [List.mem_singleton.mp hb]; rintro rfl; exact np ha⟩, fun i u a e1 e2 => ?_⟩
  by_cases hi : i < h.length
  · rw [List.getElem?_append_left hi] at e1
    rw [List.getElem?_append_left (by rw [r.len]; exact hi)] at e2
    have z := r.obj i u a e1 e2
    obtain ⟨w, ew, _⟩ := z.some
    exact z.mono r (Ext.push n) (upd_ne (ne_of_none ew n))
  · have hl : i < (h ++ [m]).length := (List.getElem?_eq_some_iff.mp e1).1
    have ei : i = h.length := by rw [List.length_append] at hl; simp at hl; omega
    subst ei
    rw [List.getElem?_append_right (Nat.le_refl _), Nat.sub_self] at e1
    rw [← r.len, List.getElem?_append_right (Nat.le_refl _), Nat.sub_self] at e2
    simp at e1 e2
    subst e1; subst e2
    exact q
/-- an object is written -/
theorem Ext.wrote {i : Nat} {a : Addr} {o u0 : HO} (e : ρ[i]? = some a) (hv : H a = some u0) (nf : isFz u0 = false := by rfl) : Ext ρ H ρ (upd H a o) := ⟨⟨[], by simp, by simp⟩, (fun b u eb n => by
  have hb : b ≠ a := fun z => n (by rw [z]; exact List.mem_of_getElem? e)
  rw [upd_ne hb]; exact eb), (fun b ob u eb => by
  have hb : b ≠ a := fun z => by subst z; rw [hv] at eb; cases eb; cases nf
  rw [upd_ne hb]; exact eb)⟩
theorem Rep.wrote {i : Nat} {a : Addr} {o u0 : HO} {m : MO} (r : Rep K ρ h H) (e : ρ[i]? = some a) (hv : H a = some u0) (nf : isFz u0 = false) (q : RepO K ρ (upd H a o) a m) : Rep K ρ (h.set i m) (upd H a o) := by
  refine ⟨by rw [List.length_set]; exact r.len, r.nd, fun j u b e1 e2 => ?_⟩
  by_cases hj : j = i
  · subst hj
    rw [e] at e2; cases e2
    have hl : j < h.length := by
      have := (List.getElem?_eq_some_iff.mp e).1
      rw [← r.len]; exact this
    rw [List.getElem?_set_self hl] at e1
    cases e1
    exact q
  · rw [List.getElem?_set_ne (Ne.symm hj)] at e1
    have hb : b ≠ a := fun z => hj (by subst z; exact (List.getElem?_inj (List.getElem?_eq_some_iff.mp e2).1 r.nd).mp (e2.trans e.symm))
    exact (r.obj j u b e1 e2).mono r (Ext.wrote e hv nf) (upd_ne hb)
theorem Rep.look (r : Rep K ρ h H) {i : Nat} {o : MO} (e : h[i]? = some o) : ∃ a, ρ[i]? = some a ∧ RepO K ρ H a o := by
  have hi : i < ρ.length := by rw [r.len]; exact (List.getElem?_eq_some_iff.mp e).1
  exact ⟨ρ[i], List.getElem?_eq_getElem hi, r.obj i o _ e (List.getElem?_eq_getElem hi)⟩

/-! ### slots -/
def RepS (K : PySem.W.Frag) (ρ : List Addr) (H : Hp) (σh : Sl) (σ : L2.St) : Prop := σ.length = σh.length ∧ ∀ (i : Nat) (d : D), σh[i]? = some (some d) → ∃ v : V, σ[i]? = some (some v) ∧ DV K ρ H d v
theorem RepS.mono {σh : Sl} {σ : L2.St} (r : Rep K ρ h H) (e : Ext ρ H ρ' H') (s : RepS K ρ H σh σ) : RepS K ρ' H' σh σ :=
  ⟨s.1, fun i d q => let ⟨v, e1, z⟩ := s.2 i d q; ⟨v, e1, z.mono r e⟩⟩
theorem RepS.set {σh : Sl} {σ : L2.St} {d : D} {v : V} (s : RepS K ρ H σh σ) (i : Nat) (q : DV K ρ H d v) : RepS K ρ H (σh.set i (some d)) (σ.set i (some v)) := by
  refine ⟨by rw [List.length_set, List.length_set]; exact s.1, fun j e hj => ?_⟩
  by_cases hji : i = j
  · subst hji
    have hl : i < σh.length := by
      have := (List.getElem?_eq_some_iff.mp hj).1
      rw [List.length_set] at this; exact this
    rw [List.getElem?_set_self hl] at hj
    cases hj
    exact ⟨v, List.getElem?_set_self (by rw [s.1]; exact hl), q⟩
  · rw [List.getElem?_set_ne hji] at hj
    rw [List.getElem?_set_ne hji]
    exact s.2 j e hj

/-- an exception as it lies -/
def XRep (K : PySem.W.Frag) (ρ : List Addr) (H : Hp) (x : XV) (dx : Option Addr) : Prop := match x.fs with
  | none => dx = none
  | some fs => ∃ dd vf, dx = some dd ∧ H dd = some (.xd vf) ∧ KDs Str K ρ H fs vf

def Post {α β : Type} (K : PySem.W.Frag) (ρ : List Addr) (H : Hp) (rel : List Addr → Hp → α → β → Prop) (W : XK) (Q : β → Hp → Prop) : R α → Prop
  | .bad => False
  | .ok d h' => ∀ ρ' v H', Ext ρ H ρ' H' → Rep K ρ' h' H' → rel ρ' H' d v → Q v H'
  | .ex x h' => ∀ ρ' dx H', Ext ρ H ρ' H' → Rep K ρ' h' H' → XRep K ρ' H' x dx → W (.ref x.cls) dx H'

section
variable {α β γ δ : Type} {rel : List Addr → Hp → α → β → Prop} {rel2 : List Addr → Hp → γ → δ → Prop} {W W' : XK} {Q Q' : β → Hp → Prop} {Q2 : δ → Hp → Prop}
theorem Post.ext (e : Ext ρ H ρ1 H1) {m : R α} (p : Post K ρ H rel W Q m) : Post K ρ1 H1 rel W Q m := by
  cases m with
  | bad => exact p
  | ok d h' => exact fun ρ' v H' e2 r q => p ρ' v H' (e.trans e2 r.nd) r q
  | ex x h' => exact fun ρ' v H' e2 r q => p ρ' v H' (e.trans e2 r.nd) r q
theorem Post.mono {m : R α} (p : Post K ρ H rel W Q m) (k : ∀ v H', Q v H' → Q' v H') (kx : ∀ c d H', W c d H' → W' c d H') : Post K ρ H rel W' Q' m := by
  cases m with
  | bad => exact p
  | ok d h' => exact fun ρ' v H' e2 r q => k _ _ (p ρ' v H' e2 r q)
  | ex x h' => exact fun ρ' v H' e2 r q => kx _ _ _ (p ρ' v H' e2 r q)
/-- a first part, then the rest -/
theorem Post.of_bind {m : R α} {f : α → HS → R γ} (p : Post K ρ H rel2 W Q2 (m.bind f))
    (k : ∀ d h1 ρ1 v H1, Ext ρ H ρ1 H1 → Rep K ρ1 h1 H1 → rel ρ1 H1 d v → Post K ρ1 H1 rel2 W Q2 (f d h1) → Q v H1) : Post K ρ H rel W Q m := by
  cases m with
  | bad => exact p
  | ok d h' => exact fun ρ' v H' e r q => k d h' ρ' v H' e r q (Post.ext e p)
  | ex x h' => exact p
theorem Post.use {d : α} {v : β} (p : Post K ρ H rel W Q (.ok d h)) (r : Rep K ρ h H) (q : rel ρ H d v) : Q v H := p ρ v H .refl r q
end
end

/-! ### expressions -/
abbrev FE := Sl → HS → R D
abbrev FT := Sl → HS → R Bool
abbrev FA := Sl → HS → R (List D)
def bEq {α : Type} : List Addr → Hp → α → α → Prop := fun _ _ b c => b = c
def lE (K : PySem.W.Frag) (W : WX) (m : FE) : TE := fun σ H Q => ∃ ρ σh h, Rep K ρ h H ∧ RepS K ρ H σh σ ∧ Post K ρ H (DV K) (fun c d H' => W c d σ H') Q (m σh h)
def lT (K : PySem.W.Frag) (W : WX) (m : FT) : TT := fun σ H Q => ∃ ρ σh h, Rep K ρ h H ∧ RepS K ρ H σh σ ∧ Post K ρ H bEq (fun c d H' => W c d σ H') Q (m σh h)
def lA (K : PySem.W.Frag) (W : WX) (m : FA) : TA := fun σ H Q => ∃ ρ σh h, Rep K ρ h H ∧ RepS K ρ H σh σ ∧ Post K ρ H (DVs K) (fun c d H' => W c d σ H') Q (m σh h)
def GE (X : Cx) (W : WX) (e : Expr) (m : FE) : Prop := PE X e (lE X.K W m)
def GT (X : Cx) (W : WX) (e : Expr) (m : FT) : Prop := PT X e (lT X.K W m)
def GW (X : Cx) (W : WX) (e : Expr) (m : FT) : Prop := PW X e (lT X.K W m)
def GA (X : Cx) (W : WX) (es : List Expr) (m : FA) : Prop := PA X es (lA X.K W m)
theorem pe_mono {X : Cx} {e : Expr} {t t' : TE} (p : PE X e t) (k : ∀ σ H Q, t' σ H Q → t σ H Q) : PE X e t' := ⟨fun pins s σ H Q I q => p.run pins s σ H Q I (k σ H Q q)⟩
theorem pt_mono {X : Cx} {e : Expr} {t t' : TT} (p : PT X e t) (k : ∀ σ H Q, t' σ H Q → t σ H Q) : PT X e t' := ⟨fun pins s σ H Q I q => p.run pins s σ H Q I (k σ H Q q)⟩
theorem pw_mono {X : Cx} {e : Expr} {t t' : TT} (p : PW X e t) (k : ∀ σ H Q, t' σ H Q → t σ H Q) : PW X e t' := ⟨fun wh pins s σ H Q I q => p.run wh pins s σ H Q I (k σ H Q q)⟩
theorem pa_mono {X : Cx} {e : List Expr} {t t' : TA} (p : PA X e t) (k : ∀ σ H Q, t' σ H Q → t σ H Q) : PA X e t' := ⟨fun pos pins s σ H Q I q => p.run pos pins s σ H Q I (k σ H Q q)⟩
theorem ps_mono {X : Cx} {e : Stmt} {t t' : TS} (p : PS X e t) (k : ∀ D σ H, t' D σ H → t D σ H) : PS X e t' := ⟨fun pins s σ H D I q => p.run pins s σ H D I (k D σ H q)⟩
theorem pss_mono {X : Cx} {e : List Stmt} {t t' : TS} (p : PSs X e t) (k : ∀ D σ H, t' D σ H → t D σ H) : PSs X e t' := ⟨fun pins s σ H D I q => p.run pins s σ H D I (k D σ H q)⟩
theorem pg_mono {X : Cx} {e : Expr} {t t' : TG} (p : PG X e t) (k : ∀ v σ H Q, t' v σ H Q → t v σ H Q) : PG X e t' := ⟨fun pins s σ H v u Q I r q => p.run pins s σ H v u Q I r (k v σ H Q q)⟩
theorem pgs_mono {X : Cx} {e : List Expr} {t t' : TGs} (p : PGs X e t) (k : ∀ v σ H Q, t' v σ H Q → t v σ H Q) : PGs X e t' := ⟨fun pins s σ H v u Q I r q => p.run pins s σ H v u Q I r (k v σ H Q q)⟩
theorem pi_mono {X : Cx} {tg e : Expr} {t t' : TI} (p : PI X tg e t) (k : ∀ σ H Q, t' σ H Q → t σ H Q) : PI X tg e t' := ⟨fun pins s σ H Q I q => p.run pins s σ H Q I (k σ H Q q)⟩

section
variable {X : Cx} {W : WX} {pos : Pos} {e a b : Expr} {es : List Expr} {m ma mb : FE}
/-! names, constants -/
def mVar (i : Nat) : FE := fun σ h => match σ[i]? with
  | some (some d) => .ok d h
  | _ => .bad
def mC (d : D) : FE := fun _ h => .ok d h
theorem gv (i : Nat) {x : Str} {pos : Pos} (hN : X.N[i]? = some x := by rfl) (hv : Vis X.env.scope x := by first | exact Or.inl rfl | exact Or.inr (Or.inl rfl) | exact Or.inr (Or.inr rfl)) (hd : (x == ("__debug__" : Str)) = false := by decide)
    (hcd : (x == ("__classdict__" : Str)) = false := by decide) : GE X W (.Name x pos) (mVar i) := by
  refine pe_mono (pv i hN hv hd hcd) fun σ H Q ⟨ρ, σh, h, r, s, p⟩ => ?_
  cases q : σh[i]? with
  | none => simp only [mVar, q] at p; exact p.elim
  | some o =>
    cases o with
    | none => simp only [mVar, q] at p; exact p.elim
    | some d =>
      simp only [mVar, q] at p
      obtain ⟨v, e1, z⟩ := s.2 i d q
      exact ⟨v, e1, p.use r z⟩
theorem gC {d : D} {v : V} (h : PE X e (tC v)) (z : ∀ ρ H, DV X.K ρ H d v) : GE X W e (mC d) := pe_mono h fun σ H Q ⟨ρ, σh, h, r, s, p⟩ => p.use r (z _ _)
theorem g_int {i j pos} : GE X W (.Constant (.int i) j pos) (mC (.int i)) := gC pe_int fun _ _ => .int i
theorem g_bl {i j pos} : GE X W (.Constant (.bool i) j pos) (mC (.bl i)) := gC pe_bl fun _ _ => .bl i
theorem g_str {i j pos} : GE X W (.Constant (.str i) j pos) (mC (.str i)) := gC pe_str fun _ _ => .str i
theorem g_non {j pos} : GE X W (.Constant .none j pos) (mC .non) := gC pe_non fun _ _ => .non

/-! two values -/
def mOp (f : D → D → HS → R D) (ma mb : FE) : FE := fun σ h => (ma σ h).bind fun x h1 => (mb σ h1).bind fun y h2 => f x y h2
def mUn (f : D → HS → R D) (ma : FE) : FE := fun σ h => (ma σ h).bind f
def OpS (K : PySem.W.Frag) (f : D → D → HS → R D) (r : R2) : Prop := ∀ (ρ : List Addr) (h : HS) (H : Hp) (d1 d2 : D) (x y : V) (W : XK) (Q : VK),
  Rep K ρ h H → DV K ρ H d1 x → DV K ρ H d2 y → Post K ρ H (DV K) W Q (f d1 d2 h) → r x y H Q
def UnS (K : PySem.W.Frag) (f : D → HS → R D) (r : V → Hp → VK → Prop) : Prop := ∀ (ρ : List Addr) (h : HS) (H : Hp) (d : D) (x : V) (W : XK) (Q : VK),
  Rep K ρ h H → DV K ρ H d x → Post K ρ H (DV K) W Q (f d h) → r x H Q
theorem lOp {f : D → D → HS → R D} {r : R2} (hf : OpS X.K f r) (σ : L2.St) (H : Hp) (Q : VK) (q : lE X.K W (mOp f ma mb) σ H Q) : tOp r (lE X.K W ma) (lE X.K W mb) σ H Q := by
  obtain ⟨ρ, σh, h, rr, s, p⟩ := q
  refine ⟨ρ, σh, h, rr, s, Post.of_bind p fun d1 h1 ρ1 x H1 e1 r1 z1 p1 => ?_⟩
  refine ⟨ρ1, σh, h1, r1, s.mono rr e1, Post.of_bind p1 fun d2 h2 ρ2 y H2 e2 r2 z2 p2 => ?_⟩
  exact hf ρ2 h2 H2 d1 d2 x y _ Q r2 (z1.mono r1 e2) z2 p2
theorem g_op {op : Operator} {f : D → D → HS → R D} {r : R2} (ho : OpR X (binaryOp op) r) (hf : OpS X.K f r) (ha : GE X W a ma) (hb : GE X W b mb) : GE X W (.BinOp a op b pos) (mOp f ma mb) :=
  pe_mono (pe_op ho ha hb) (lOp hf)
theorem g_cmp {op : CmpOp} {f : D → D → HS → R D} {r : R2} (ho : OpR X (compareOp op) r) (hf : OpS X.K f r) (ha : GE X W a ma) (hb : GE X W b mb) (hm : behindInMarks op b = false := by rfl) :
    GE X W (.Compare a [op] [b] pos) (mOp f ma mb) := pe_mono (pe_cmpR ho ha hb hm) (lOp hf)
theorem g_ix {f : D → D → HS → R D} {r : R2} (ho : IxR X r) (hf : OpS X.K f r) (ha : GE X W a ma) (hb : GE X W b mb) (hm : PlainIx b := by exact fun _ _ => rfl) :
    GE X W (.Subscript a b pos) (mOp f ma mb) := pe_mono (pe_ix ho ha hb hm) (lOp hf)
theorem g_un {op : UnaryOp} {f : D → HS → R D} {r : V → Hp → VK → Prop} (ho : UnR X (unaryOp op) r) (hf : UnS X.K f r) (ha : GE X W a ma) : GE X W (.UnaryOp op a pos) (mUn f ma) :=
  pe_mono (pe_un ho ha) fun σ H Q ⟨ρ, σh, h, rr, s, p⟩ => ⟨ρ, σh, h, rr, s, Post.of_bind p fun d1 h1 ρ1 x H1 e1 r1 z1 p1 => hf ρ1 h1 H1 d1 x _ Q r1 z1 p1⟩
/-- two ways -/
theorem OpS.or {K : PySem.W.Frag} {f : D → D → HS → R D} {r r' : R2} (h : ∀ (ρ : List Addr) (h : HS) (H : Hp) (d1 d2 : D) (x y : V) (W : XK) (Q : VK),
  Rep K ρ h H → DV K ρ H d1 x → DV K ρ H d2 y → Post K ρ H (DV K) W Q (f d1 d2 h) → r x y H Q ∨ r' x y H Q) : OpS K f (fun x y H Q => r x y H Q ∨ r' x y H Q) := h

/-! lists of values -/
def mNil : FA := fun _ h => .ok [] h
def mCons (ma : FE) (mr : FA) : FA := fun σ h => (ma σ h).bind fun x h1 => (mr σ h1).bind fun xs h2 => .ok (x :: xs) h2
theorem ga_nil : GA X W [] mNil := pa_mono pa_nil fun σ H Q ⟨ρ, σh, h, r, s, p⟩ => p.use r DVs.nil
theorem ga_cons {mr : FA} (ha : GE X W e ma) (hr : GA X W es mr) (hs : starEach (e :: es) X.env = (false, eval e X.env) :: starEach es X.env := by rfl) : GA X W (e :: es) (mCons ma mr) :=
  pa_mono (pa_cons ha hr hs) fun σ H Q ⟨ρ, σh, h, r, s, p⟩ => ⟨ρ, σh, h, r, s, Post.of_bind p fun d1 h1 ρ1 x H1 e1 r1 z1 p1 =>
    ⟨ρ1, σh, h1, r1, s.mono r e1, Post.of_bind p1 fun d2 h2 ρ2 y H2 e2 r2 z2 p2 => p2.use r2 (.cons (z1.mono r1 e2) z2)⟩⟩
def mTup (ma : FA) : FE := fun σ h => (ma σ h).bind fun xs h1 => if xs.length ≤ sizeLine then .ok (.tup xs) h1 else .bad
def mLst (ma : FA) : FE := fun σ h => (ma σ h).bind fun xs h1 => if xs.length ≤ sizeLine then .ok (.ref h1.length) (h1 ++ [.lst xs]) else .bad
/-- a new tuple is handed on -/
theorem post_tup {K : PySem.W.Frag} {ρ : List Addr} {h : HS} {H : Hp} {ds : List D} {vs : List V} {W : XK} {Q : VK} (r : Rep K ρ h H) (z : DVs K ρ H ds vs) (p : Post K ρ H (DV K) W Q (.ok (.tup ds) h)) :
    ∀ a, H a = none → Q (.ref a) (upd H a (.tup vs)) := fun a n => p ρ _ _ (Ext.laid n) (r.laid n) (.tup (SqT.of upd_same) (z.mono r (Ext.laid n)))
/-- a new list is handed on -/
theorem post_lst {K : PySem.W.Frag} {ρ : List Addr} {h : HS} {H : Hp} {ds : List D} {vs : List V} {W : XK} {Q : VK} (r : Rep K ρ h H) (z : DVs K ρ H ds vs) (p : Post K ρ H (DV K) W Q (.ok (.ref h.length) (h ++ [.lst ds]))) :
    ∀ a, H a = none → Q (.ref a) (upd H a (.lst vs)) := fun a n => p (ρ ++ [a]) _ _ (Ext.push n) (r.push n ⟨vs, upd_same, z.mono r (Ext.push n)⟩) (.ref (by rw [← r.len]; simp))
theorem post_dK {K : PySem.W.Frag} {ρ : List Addr} {h : HS} {H : Hp} {ds : List (Key × D)} {vs : List (Key × V)} {W : XK} {Q : VK} (r : Rep K ρ h H) (z : KDs Key K ρ H ds vs) (p : Post K ρ H (DV K) W Q (.ok (.ref h.length) (h ++ [.dK ds]))) :
    ∀ a, H a = none → Q (.ref a) (upd H a (.dK vs)) := fun a n => p (ρ ++ [a]) _ _ (Ext.push n) (r.push n ⟨vs, upd_same, KDs.mono r (Ext.push n) z⟩) (.ref (by rw [← r.len]; simp))
theorem g_tup {x1} {mr : FA} (hr : GA X W es mr) : GE X W (.Tuple es x1 pos) (mTup mr) :=
  pe_mono (pe_tup hr) fun σ H Q ⟨ρ, σh, h, r, s, p⟩ => ⟨ρ, σh, h, r, s, Post.of_bind p fun ds h1 ρ1 vs H1 e1 r1 z1 p1 => by
    by_cases hl : ds.length ≤ sizeLine
    · rw [if_pos hl] at p1
      exact ⟨by rw [← z1.length]; exact hl, post_tup r1 z1 p1⟩
    · rw [if_neg hl] at p1; exact p1.elim⟩
theorem g_lst {mr : FA} (hr : GA X W es mr) : GE X W (.List es pos) (mLst mr) :=
  pe_mono (pe_lst hr) fun σ H Q ⟨ρ, σh, h, r, s, p⟩ => ⟨ρ, σh, h, r, s, Post.of_bind p fun ds h1 ρ1 vs H1 e1 r1 z1 p1 => by
    by_cases hl : ds.length ≤ sizeLine
    · rw [if_pos hl] at p1
      exact ⟨by rw [← z1.length]; exact hl, post_lst r1 z1 p1⟩
    · rw [if_neg hl] at p1; exact p1.elim⟩
end
end FL

set_option Elab.async false
set_option linter.all false
set_option maxRecDepth 100000
/-! FL, part b: the operations on data. -/
namespace FL
open PySem PySem.Spec PyProof.Rows L2

/-! ### arithmetic -/
def dInt2 (C : Int → Int → Bool) (g : Int → Int → D) : D → D → HS → R D
  | .int i, .int j, h => if C i j then .ok (g i j) h else .bad
  | _, _, _ => .bad
instance (i j : Int) : Decidable (CMul i j) := by unfold CMul; infer_instance
instance (i j : Int) : Decidable (CDivW i j) := by unfold CDivW; infer_instance
instance (i j : Int) : Decidable (CPow i j) := by unfold CPow; infer_instance
def dSub : D → D → HS → R D
  | .int i, .int j, h => .ok (.int (i - j)) h
  | _, _, _ => .bad
def dMul : D → D → HS → R D
  | .int i, .int j, h => if CMul i j then .ok (.int (i * j)) h else .bad
  | _, _, _ => .bad
def dFdiv : D → D → HS → R D
  | .int i, .int j, h => if CDivW i j then .ok (.int (i / j)) h else .bad
  | _, _, _ => .bad
def dMod : D → D → HS → R D
  | .int i, .int j, h => if 0 < j then .ok (.int (i % j)) h else .bad
  | _, _, _ => .bad
def dPow : D → D → HS → R D
  | .int i, .int j, h => if CPow i j then .ok (.int (i ^ j.toNat)) h else .bad
  | _, _, _ => .bad
def dNeg : D → HS → R D
  | .int i, h => .ok (.int (-i)) h
  | _, _ => .bad
section
variable {K : PySem.W.Frag}
theorem s_sub : OpS K dSub (rI0 fun i j => .int (i - j)) := by
  intro ρ h H d1 d2 x y W Q r z1 z2 p
  cases z1 <;> cases z2 <;> first | exact p.elim | skip
  exact ⟨_, _, rfl, rfl, p.use r (.int _)⟩
theorem s_mul : OpS K dMul (rI CMul fun i j => .int (i * j)) := by
  intro ρ h H d1 d2 x y W Q r z1 z2 p
  cases z1 <;> cases z2 <;> first | exact p.elim | skip
  rename_i i j
  by_cases c : CMul i j
  · simp only [dMul, if_pos c] at p; exact ⟨_, _, rfl, rfl, c, p.use r (.int _)⟩
  · simp only [dMul, if_neg c] at p; exact p.elim
theorem s_fdiv : OpS K dFdiv (rI CDivW fun i j => .int (i / j)) := by
  intro ρ h H d1 d2 x y W Q r z1 z2 p
  cases z1 <;> cases z2 <;> first | exact p.elim | skip
  rename_i i j
  by_cases c : CDivW i j
  · simp only [dFdiv, if_pos c] at p; exact ⟨_, _, rfl, rfl, c, p.use r (.int _)⟩
  · simp only [dFdiv, if_neg c] at p; exact p.elim
theorem s_mod : OpS K dMod (rI (fun _ j => 0 < j) fun i j => .int (i % j)) := by
  intro ρ h H d1 d2 x y W Q r z1 z2 p
  cases z1 <;> cases z2 <;> first | exact p.elim | skip
  rename_i i j
  by_cases c : 0 < j
  · simp only [dMod, if_pos c] at p; exact ⟨_, _, rfl, rfl, c, p.use r (.int _)⟩
  · simp only [dMod, if_neg c] at p; exact p.elim
theorem s_pow : OpS K dPow (rI CPow fun i j => .int (i ^ j.toNat)) := by
  intro ρ h H d1 d2 x y W Q r z1 z2 p
  cases z1 <;> cases z2 <;> first | exact p.elim | skip
  rename_i i j
  by_cases c : CPow i j
  · simp only [dPow, if_pos c] at p; exact ⟨_, _, rfl, rfl, c, p.use r (.int _)⟩
  · simp only [dPow, if_neg c] at p; exact p.elim
theorem s_neg : UnS K dNeg (rU fun i => .int (-i)) := by
  intro ρ h H d x W Q r z p
  cases z <;> first | exact p.elim | skip
  exact ⟨_, rfl, p.use r (.int _)⟩
end

/-! ### + : ints, texts, tuples, lists -/
def dAdd : D → D → HS → R D
  | .int i, .int j, h => .ok (.int (i + j)) h
  | .str i, .str j, h => if i.length + j.length ≤ sizeLine then .ok (.str (i ++ j)) h else .bad
  | .tup a, .tup b, h => if a.length + b.length ≤ sizeLine then .ok (.tup (a ++ b)) h else .bad
  | .ref a, .ref b, h => match h[a]?, h[b]? with
    | some (.lst x), some (.lst y) => if x.length + y.length ≤ sizeLine then .ok (.ref h.length) (h ++ [.lst (x ++ y)]) else .bad
    | _, _ => .bad
  | _, _, _ => .bad
abbrev rAddI : R2 := rI0 fun i j => .int (i + j)
abbrev rAddS : R2 := fun x y H Q => ∃ i j, x = .str i ∧ y = .str j ∧ i.length + j.length ≤ sizeLine ∧ Q (.str (i ++ j)) H
def rAdd4 (K : PySem.W.Frag) : R2 := fun x y H Q => rAddI x y H Q ∨ (rAddS x y H Q ∨ (rCatA K x y H Q ∨ rCat x y H Q))
theorem o_add {X : Cx} : OpR X (binaryOp .Add) (rAdd4 X.K) := OpR.or op_add (OpR.or op_add_str (OpR.or op_catA op_cat))
theorem s_add {K : PySem.W.Frag} : OpS K dAdd (rAdd4 K) := by
  intro ρ h H d1 d2 x y W Q r z1 z2 p
  cases z1 <;> cases z2 <;> first | exact p.elim | skip
  · exact .inl ⟨_, _, rfl, rfl, p.use r (.int _)⟩
  · rename_i i j
    by_cases c : i.length + j.length ≤ sizeLine
    · simp only [dAdd, if_pos c] at p; exact .inr (.inl ⟨_, _, rfl, rfl, c, p.use r (.str _)⟩)
    · simp only [dAdd, if_neg c] at p; exact p.elim
  · rename_i i a e1 j b e2
    cases q1 : h[i]? with
    | none => simp only [dAdd, q1] at p; exact p.elim
    | some o1 =>
      cases o1 with
      | lst x =>
        cases q2 : h[j]? with
        | none => simp only [dAdd, q1, q2] at p; exact p.elim
        | some o2 =>
          cases o2 with
          | lst y =>
            simp only [dAdd, q1, q2] at p
            obtain ⟨a', ea, va, ha, za⟩ := r.look q1
            obtain ⟨b', eb, vb, hb, zb⟩ := r.look q2
            rw [e1] at ea; cases ea
            rw [e2] at eb; cases eb
            by_cases c : x.length + y.length ≤ sizeLine
            · rw [if_pos c] at p
              exact .inr (.inr (.inr ⟨_, _, va, vb, rfl, rfl, ha, hb, by rw [← za.length, ← zb.length]; exact c, post_lst r (za.append zb) p⟩))
            · rw [if_neg c] at p; exact p.elim
          | _ => simp only [dAdd, q1, q2] at p; exact p.elim
      | _ => simp only [dAdd, q1] at p; exact p.elim
  · rename_i a va da sa za b vb db sb zb
    by_cases c : da.length + db.length ≤ sizeLine
    · simp only [dAdd, if_pos c] at p
      refine .inr (.inr (.inl ⟨_, _, va, vb, rfl, rfl, sa, sb, by rw [← za.length, ← zb.length]; exact c, fun e => ?_, fun e1 e2 => ?_, fun e1 e2 => post_tup r (za.append zb) p⟩))
      · subst e
        cases za
        exact p.use r (.tup sb zb)
      · subst e2
        cases zb
        rw [List.append_nil] at p
        exact p.use r (.tup sa za)
    · simp only [dAdd, if_neg c] at p; exact p.elim

/-! ### == -/
/-- a scalar -/
def scD : D → Option V
  | .non => some .non | .bl b => some (.bl b) | .int i => some (.int i) | .str x => some (.str x)
  | _ => none
theorem scD_rel {K : PySem.W.Frag} {ρ : List Addr} {H : Hp} {d : D} {v u : V} (z : DV K ρ H d v) (e : scD d = some u) : v = u := by
  cases z <;> simp [scD] at e <;> exact e
def pyD : Nat → HS → D → Option PyData
  | 0, _, _ => none
  | n + 1, h, d => match d with
    | .non => some .none
    | .bl b => some (.bool b)
    | .int i => some (.int i)
    | .str x => some (.str x)
    | .tup ds => (ds.mapM (pyD n h)).map .tuple
    | .cst ds => (ds.mapM (pyD n h)).map .list
    | .ref i => match h[i]? with
      | some (.lst ds) => (ds.mapM (pyD n h)).map .list
      | _ => none
    | _ => none
theorem pyD_ok {K : PySem.W.Frag} {ρ : List Addr} {h : HS} {H : Hp} (r : Rep K ρ h H) : ∀ (n : Nat) (d : D) (v : V) (p : PyData), DV K ρ H d v → pyD n h d = some p → Dp K H v p
  | 0, _, _, _, _, e => by cases e
  | n + 1, d, v, p, z, e => by
    have all : ∀ (ds : List D) (vs : List V) (ps : List PyData), DVs K ρ H ds vs → ds.mapM (pyD n h) = some ps → DpAll K H vs ps := by
      intro ds
      induction ds with
      | nil => intro vs ps z e; cases z; simp at e; subst e; exact .nil
      | cons d ds ih =>
        intro vs ps z e
        cases z with
        | cons z1 z2 =>
          rw [List.mapM_cons] at e
          cases e1 : pyD n h d with
          | none => rw [e1] at e; simp at e
          | some p1 =>
            rw [e1] at e
            cases e2 : ds.mapM (pyD n h) with
            | none => rw [e2] at e; simp at e
            | some ps1 =>
              rw [e2] at e
              simp at e
              subst e
              exact .cons (pyD_ok r n d _ p1 z1 e1) (ih _ _ z2 e2)
    cases z with
    | non => cases e; exact .non
    | bl b => cases e; exact .bl b
    | int i => cases e; exact .int i
    | str x => cases e; exact .str x
    | ty n => cases e
    | ref q =>
      rename_i i a
      cases q1 : h[i]? with
      | none => simp only [pyD, q1] at e; cases e
      | some o =>
        cases o with
        | lst ds =>
          simp only [pyD, q1] at e
          obtain ⟨ps, e1, e2⟩ := Option.map_eq_some_iff.mp e
          subst e2
          obtain ⟨a', ea, va, ha, za⟩ := r.look q1
          rw [q] at ea; cases ea
          exact .lst (SqL.of ha) (all _ _ _ za e1)
        | _ => simp only [pyD, q1] at e; cases e
    | tup q z =>
      simp only [pyD] at e
      obtain ⟨ps, e1, e2⟩ := Option.map_eq_some_iff.mp e
      subst e2
      exact .tup q (all _ _ _ z e1)
    | cst q z =>
      simp only [pyD] at e
      obtain ⟨ps, e1, e2⟩ := Option.map_eq_some_iff.mp e
      subst e2
      exact .lst q.sq (all _ _ _ z e1)
def eqDeep (x y : D) (h : HS) : Option Bool := match pyD 66 h x, pyD 66 h y with
  | some p, some q => if SeqAt.shaped p && SeqAt.shaped q then some (PyData.eqv p q) else none
  | _, _ => none
def eqB (x y : D) (h : HS) : Option Bool := match scD x, scD y with
  | some a, some b => if scal a b then some (decide (a = b)) else none
  | _, _ => eqDeep x y h
def dEq (x y : D) (h : HS) : R D := match eqB x y h with
  | some b => .ok (.bl b) h
  | none => .bad
def dNe (x y : D) (h : HS) : R D := match eqB x y h with
  | some b => .ok (.bl !b) h
  | none => .bad
def rEq2 (K : PySem.W.Frag) : R2 := fun x y H Q => rEq x y H Q ∨ rEqD K x y H Q
def rNe2 (K : PySem.W.Frag) : R2 := fun x y H Q => rNe x y H Q ∨ rNeD K x y H Q
theorem o_eq {X : Cx} (hu : X.A.units + 64 < cLine) : OpR X (compareOp .Eq) (rEq2 X.K) := OpR.or op_eq (op_eqD hu)
theorem o_ne {X : Cx} (hu : X.A.units + 64 < cLine) : OpR X (compareOp .NotEq) (rNe2 X.K) := OpR.or op_ne (op_neD hu)
theorem eqDeep_ok {K : PySem.W.Frag} {ρ : List Addr} {h : HS} {H : Hp} (r : Rep K ρ h H) {d1 d2 : D} {x y : V} {b : Bool} (z1 : DV K ρ H d1 x) (z2 : DV K ρ H d2 y) (e : eqDeep d1 d2 h = some b) :
    ∃ p q, Dp K H x p ∧ Dp K H y q ∧ SeqAt.shaped p = true ∧ SeqAt.shaped q = true ∧ b = PyData.eqv p q := by
  unfold eqDeep at e
  cases e1 : pyD 66 h d1 with
  | none => rw [e1] at e; cases e
  | some p =>
    cases e2 : pyD 66 h d2 with
    | none => rw [e1, e2] at e; cases e
    | some q =>
      rw [e1, e2] at e
      simp only at e
      by_cases c : (SeqAt.shaped p && SeqAt.shaped q) = true
      · rw [if_pos c] at e
        rw [Bool.and_eq_true] at c
        exact ⟨p, q, pyD_ok r _ _ _ _ z1 e1, pyD_ok r _ _ _ _ z2 e2, c.1, c.2, (Option.some.inj e).symm⟩
      · rw [if_neg c] at e; cases e
theorem eqB_ok {K : PySem.W.Frag} {ρ : List Addr} {h : HS} {H : Hp} (r : Rep K ρ h H) {d1 d2 : D} {x y : V} {b : Bool} (z1 : DV K ρ H d1 x) (z2 : DV K ρ H d2 y) (e : eqB d1 d2 h = some b) :
    (scal x y = true ∧ b = decide (x = y)) ∨ ∃ p q, Dp K H x p ∧ Dp K H y q ∧ SeqAt.shaped p = true ∧ SeqAt.shaped q = true ∧ b = PyData.eqv p q := by
  unfold eqB at e
  cases e1 : scD d1 with
  | none => rw [e1] at e; exact .inr (eqDeep_ok r z1 z2 e)
  | some a =>
    cases e2 : scD d2 with
    | none => rw [e1, e2] at e; exact .inr (eqDeep_ok r z1 z2 e)
    | some a2 =>
      rw [e1, e2] at e
      simp only at e
      rw [scD_rel z1 e1, scD_rel z2 e2]
      by_cases c : scal a a2 = true
      · rw [if_pos c] at e; exact .inl ⟨c, (Option.some.inj e).symm⟩
      · rw [if_neg c] at e; cases e
theorem s_eq {K : PySem.W.Frag} : OpS K dEq (rEq2 K) := by
  intro ρ h H d1 d2 x y W Q r z1 z2 p
  unfold dEq at p
  cases e : eqB d1 d2 h with
  | none => rw [e] at p; exact p.elim
  | some b =>
    rw [e] at p
    have q := p.use r (.bl b)
    rcases eqB_ok r z1 z2 e with ⟨c, rfl⟩ | ⟨u, w, h1, h2, h3, h4, rfl⟩
    · exact .inl ⟨c, q⟩
    · exact .inr ⟨u, w, h1, h2, h3, h4, q⟩
theorem s_ne {K : PySem.W.Frag} : OpS K dNe (rNe2 K) := by
  intro ρ h H d1 d2 x y W Q r z1 z2 p
  unfold dNe at p
  cases e : eqB d1 d2 h with
  | none => rw [e] at p; exact p.elim
  | some b =>
    rw [e] at p
    have q := p.use r (.bl (!b))
    rcases eqB_ok r z1 z2 e with ⟨c, rfl⟩ | ⟨u, w, h1, h2, h3, h4, rfl⟩
    · exact .inl ⟨c, q⟩
    · exact .inr ⟨u, w, h1, h2, h3, h4, q⟩

/-! ### < and its like -/
def dLt : D → D → HS → R D
  | .int i, .int j, h => .ok (.bl (decide (i < j))) h
  | _, _, _ => .bad
def dLe : D → D → HS → R D
  | .int i, .int j, h => .ok (.bl (decide (i ≤ j))) h
  | _, _, _ => .bad
def dGt : D → D → HS → R D
  | .int i, .int j, h => .ok (.bl (decide (j < i))) h
  | _, _, _ => .bad
def dGe : D → D → HS → R D
  | .int i, .int j, h => .ok (.bl (decide (j ≤ i))) h
  | _, _, _ => .bad
def dIsN : D → D → HS → R D
  | .non, .non, h => .ok (.bl true) h
  | _, .non, h => .ok (.bl false) h
  | _, _, _ => .bad
def dNotN : D → D → HS → R D
  | .non, .non, h => .ok (.bl false) h
  | _, .non, h => .ok (.bl true) h
  | _, _, _ => .bad
section
variable {K : PySem.W.Frag}
theorem s_lt : OpS K dLt (rI0 fun i j => .bl (decide (i < j))) := by
  intro ρ h H d1 d2 x y W Q r z1 z2 p
  cases z1 <;> cases z2 <;> first | exact p.elim | exact ⟨_, _, rfl, rfl, p.use r (.bl _)⟩
theorem s_le : OpS K dLe (rI0 fun i j => .bl (decide (i ≤ j))) := by
  intro ρ h H d1 d2 x y W Q r z1 z2 p
  cases z1 <;> cases z2 <;> first | exact p.elim | exact ⟨_, _, rfl, rfl, p.use r (.bl _)⟩
theorem s_gt : OpS K dGt (rI0 fun i j => .bl (decide (j < i))) := by
  intro ρ h H d1 d2 x y W Q r z1 z2 p
  cases z1 <;> cases z2 <;> first | exact p.elim | exact ⟨_, _, rfl, rfl, p.use r (.bl _)⟩
theorem s_ge : OpS K dGe (rI0 fun i j => .bl (decide (j ≤ i))) := by
  intro ρ h H d1 d2 x y W Q r z1 z2 p
  cases z1 <;> cases z2 <;> first | exact p.elim | exact ⟨_, _, rfl, rfl, p.use r (.bl _)⟩
theorem s_isN : OpS K dIsN (fun x y H Q => y = .non ∧ Q (.bl (decide (x = .non))) H) := by
  intro ρ h H d1 d2 x y W Q r z1 z2 p
  cases z1 <;> cases z2 <;> first | exact p.elim | exact ⟨rfl, p.use r (.bl _)⟩
theorem s_notN : OpS K dNotN (fun x y H Q => y = .non ∧ Q (.bl (!decide (x = .non))) H) := by
  intro ρ h H d1 d2 x y W Q r z1 z2 p
  cases z1 <;> cases z2 <;> first | exact p.elim | exact ⟨rfl, p.use r (.bl _)⟩
end

/-! ### dicts: keys ints and texts -/
def keyD : D → Option Key
  | .int i => some (.inl i)
  | .str x => some (.inr x)
  | _ => none
theorem keyD_rel {K : PySem.W.Frag} {ρ : List Addr} {H : Hp} {d : D} {v : V} {k : Key} (z : DV K ρ H d v) (e : keyD d = some k) : v = kV k := by
  cases z <;> simp [keyD] at e <;> subst e <;> rfl
def getK {κ α : Type} [DecidableEq κ] (kvs : List (κ × α)) (k : κ) : Option α := (kvs.find? fun kv => decide (kv.1 = k)).map (·.2)
def setK {κ α : Type} [DecidableEq κ] (kvs : List (κ × α)) (k : κ) (v : α) : List (κ × α) :=
  if (kvs.any fun kv => decide (kv.1 = k)) = true then kvs.map (fun kv => if kv.1 = k then (kv.1, v) else kv) else kvs ++ [(k, v)]
section
variable {κ : Type} [DecidableEq κ] {K : PySem.W.Frag} {ρ : List Addr} {h : HS} {H : Hp}
theorem KDs.length {ks : List (κ × D)} {vs : List (κ × V)} (q : KDs κ K ρ H ks vs) : ks.length = vs.length := Paired.length q
theorem KDs.keys {ks : List (κ × D)} {vs : List (κ × V)} (q : KDs κ K ρ H ks vs) : vs.map (·.1) = ks.map (·.1) := by
  unfold KDs at q
  induction q with
  | nil => rfl
  | cons z _ ih => rw [List.map_cons, List.map_cons, ih, z.1]
theorem KDs.get {ks : List (κ × D)} {vs : List (κ × V)} (q : KDs κ K ρ H ks vs) (k : κ) : (∀ d, getK ks k = some d → ∃ v, valV vs k = some v ∧ DV K ρ H d v) ∧ (getK ks k = none → valV vs k = none) := by
  unfold KDs at q
  induction q with
  | nil => exact ⟨(fun d e => by cases e), fun _ => rfl⟩
  | @cons p q ps qs z _ ih =>
    by_cases e : p.1 = k
    · have e2 : q.1 = k := z.1.symm.trans e
      have g1 : getK (p :: ps) k = some p.2 := by simp [getK, List.find?_cons, e]
      have g2 : valV (q :: qs) k = some q.2 := valV_pos e2
      exact ⟨(fun d ed => by rw [g1] at ed; cases ed; exact ⟨_, g2, z.2⟩), (fun en => by rw [g1] at en; cases en)⟩
    · have e2 : ¬ q.1 = k := fun y => e (z.1.trans y)
      have g1 : getK (p :: ps) k = getK ps k := by simp [getK, List.find?_cons, e]
      have g2 : valV (q :: qs) k = valV qs k := valV_neg e2
      rw [g1, g2]
      exact ih
theorem KDs.put {ks : List (κ × D)} {vs : List (κ × V)} (q : KDs κ K ρ H ks vs) (k : κ) {d : D} {v : V} (z : DV K ρ H d v) : KDs κ K ρ H (setK ks k d) (putK vs k v) := by
  have any : ∀ {ks : List (κ × D)} {vs : List (κ × V)}, KDs κ K ρ H ks vs → (ks.any fun kv => decide (kv.1 = k)) = (vs.any fun kv => decide (kv.1 = k)) := by
    intro ks vs q
    unfold KDs at q
    induction q with
    | nil => rfl
    | cons z _ ih => rw [List.any_cons, List.any_cons, ih, z.1]
  unfold setK putK
  rw [any q]
  split
  · rename_i hh
    clear hh any
    unfold KDs at q ⊢
    induction q with
    | nil => exact .nil
    | @cons p q ps qs z1 _ ih =>
      rw [List.map_cons, List.map_cons]
      refine .cons ?_ ih
      by_cases e : p.1 = k
      · have e2 : q.1 = k := z1.1.symm.trans e
        rw [if_pos e, if_pos e2]
        exact ⟨z1.1, z⟩
      · have e2 : ¬ q.1 = k := fun y => e (z1.1.trans y)
        rw [if_neg e, if_neg e2]
        exact z1
  · rename_i hh
    clear hh any
    unfold KDs at q ⊢
    induction q with
    | nil => exact .cons ⟨rfl, z⟩ .nil
    | cons z1 _ ih => exact .cons z1 ih
end

/-! ### subscripts: lists, tuples, texts by an int; dicts -/
def rIxK : R2 := fun x y H Q => ∃ a k kvs v, x = .ref a ∧ y = kV k ∧ Rd H a (.dK kvs) ∧ valV kvs k = some v ∧ Q v H
theorem ix_dK {X : Cx} (hu : X.A.units + 1 < cLine) : IxR X rIxK := by
  intro value slice pins s σ H x y v u Q I rx ry h hs
  obtain ⟨a, k, kvs, d, rfl, rfl, hr, hv, q⟩ := h
  obtain rfl : v = Value.ref a := rx
  have g : DGet H a (kV k) (some d) := .inl ⟨kvs, k, hr, rfl, hv.symm⟩
  exact PyProof.Rows.tail_any (dict_typeIs I g) PySem.F.slot_dict_getitem.lookup (d_getItem hu I g ry fun w' s3 I3 rw' => ⟨d, H, I3, rw', q⟩) hs
def rIxA (K : PySem.W.Frag) : R2 := fun x y H Q => rIx K x y H Q ∨ rIxK x y H Q
theorem o_ix {X : Cx} (hu : X.A.units + 1 < cLine) : IxR X (rIxA X.K) := IxR.or ix_seq (ix_dK hu)
def ixL (ds : List D) (h : HS) (i : Int) : R D := match atI ds i with
  | some d => .ok d h
  | none => .bad
def ixKD (kvs : List (Key × D)) (h : HS) (y : D) : R D := match keyD y with
  | some k => match getK kvs k with
    | some d => .ok d h
    | none => .bad
  | none => .bad
def dIx : D → D → HS → R D
  | .tup ds, .int i, h => ixL ds h i
  | .cst ds, .int i, h => ixL ds h i
  | .str z, .int i, h => if z.length ≤ sizeLine then match atI z.cps.toList i with
      | some c => .ok (.str ⟨#[c]⟩) h
      | none => .bad
    else .bad
  | .ref a, y, h => match h[a]? with
    | some (.lst ds) => match y with
      | .int i => ixL ds h i
      | _ => .bad
    | some (.dK kvs) => ixKD kvs h y
    | some (.fdK kvs) => ixKD kvs h y
    | _ => .bad
  | _, _, _ => .bad
theorem DVs.atI {K : PySem.W.Frag} {ρ : List Addr} {H : Hp} {ds : List D} {vs : List V} {i : Int} {d : D} (z : DVs K ρ H ds vs) (e : atI ds i = some d) : ∃ v, L2.atI vs i = some v ∧ DV K ρ H d v := by
  unfold L2.atI at e ⊢
  rw [← z.length]
  cases q : ixN ds.length i with
  | none => rw [q] at e; cases e
  | some j =>
    rw [q] at e
    exact z.get e
theorem s_ixL {K : PySem.W.Frag} {ρ : List Addr} {h : HS} {H : Hp} {ds : List D} {vs : List V} {i : Int} {W : XK} {Q : VK} (r : Rep K ρ h H) (z : DVs K ρ H ds vs) (p : Post K ρ H (DV K) W Q (ixL ds h i)) : ∃ v, atI vs i = some v ∧ Q v H := by
  unfold ixL at p
  cases e : atI ds i with
  | none => rw [e] at p; exact p.elim
  | some d =>
    rw [e] at p
    obtain ⟨v, ev, zv⟩ := z.atI e
    exact ⟨v, ev, p.use r zv⟩
theorem s_ixKD {K : PySem.W.Frag} {ρ : List Addr} {h : HS} {H : Hp} {kvs : List (Key × D)} {vs : List (Key × V)} {d : D} {y : V} {W : XK} {Q : VK} (r : Rep K ρ h H) (z : KDs Key K ρ H kvs vs) (zy : DV K ρ H d y)
    (p : Post K ρ H (DV K) W Q (ixKD kvs h d)) : ∃ k v, y = kV k ∧ valV vs k = some v ∧ Q v H := by
  unfold ixKD at p
  cases e : keyD d with
  | none => rw [e] at p; exact p.elim
  | some k =>
    rw [e] at p
    simp only at p
    cases e2 : getK kvs k with
    | none => rw [e2] at p; exact p.elim
    | some g =>
      rw [e2] at p
      obtain ⟨v, ev, zv⟩ := (z.get k).1 g e2
      exact ⟨k, v, keyD_rel zy e, ev, p.use r zv⟩
theorem s_ix {K : PySem.W.Frag} : OpS K dIx (rIxA K) := by
  intro ρ h H d1 d2 x y W Q r z1 z2 p
  cases z1 with
  | tup q zs =>
    cases z2 <;> first | exact p.elim | skip
    obtain ⟨v, e, qv⟩ := s_ixL r zs p
    exact .inl (.inr (.inl ⟨_, _, _, v, rfl, rfl, q, e, qv⟩))
  | cst q zs =>
    cases z2 <;> first | exact p.elim | skip
    obtain ⟨v, e, qv⟩ := s_ixL r zs p
    exact .inl (.inl ⟨_, _, _, v, rfl, rfl, q.sq, e, qv⟩)
  | str z =>
    cases z2 <;> first | exact p.elim | skip
    rename_i i
    by_cases c : z.length ≤ sizeLine
    · simp only [dIx, if_pos c] at p
      cases e : atI z.cps.toList i with
      | none => rw [e] at p; exact p.elim
      | some k => rw [e] at p; exact .inl (.inr (.inr ⟨_, _, k, rfl, rfl, c, e, p.use r (.str _)⟩))
    · simp only [dIx, if_neg c] at p; exact p.elim
  | ref q =>
    rename_i a ad
    cases e : h[a]? with
    | none => simp only [dIx, e] at p; exact p.elim
    | some o =>
      obtain ⟨a', ea, z⟩ := r.look e
      rw [q] at ea; cases ea
      cases o with
      | lst ds =>
        simp only [dIx, e] at p
        obtain ⟨vs, hv, zs⟩ := z
        cases z2 <;> first | exact p.elim | skip
        obtain ⟨v, e, qv⟩ := s_ixL r zs p
        exact .inl (.inl ⟨_, _, _, v, rfl, rfl, SqL.of hv, e, qv⟩)
      | dK kvs =>
        simp only [dIx, e] at p
        obtain ⟨vs, hv, zs⟩ := z
        obtain ⟨k, v, ey, ev, qv⟩ := s_ixKD r zs z2 p
        exact .inr ⟨_, k, vs, v, rfl, ey, .inl hv, ev, qv⟩
      | fdK kvs =>
        simp only [dIx, e] at p
        obtain ⟨ob, vs, hv, zs⟩ := z
        obtain ⟨k, v, ey, ev, qv⟩ := s_ixKD r zs z2 p
        exact .inr ⟨_, k, vs, v, rfl, ey, .inr ⟨ob, hv⟩, ev, qv⟩
      | ins C fs => simp only [dIx, e] at p; exact p.elim
  | _ => exact p.elim

/-! ### in -/
def fEq : D → D → Bool
  | .non, .non => true
  | .bl a, .bl b => a == b
  | .bl a, .int b => (if a then 1 else 0) == b
  | .int a, .bl b => a == (if b then 1 else 0)
  | .int a, .int b => a == b
  | .str a, .str b => a == b
  | _, _ => false
def flatD (d : D) : Bool := (scD d).isSome
theorem fEq_rel {K : PySem.W.Frag} {ρ : List Addr} {H : Hp} {d e : D} {v u : V} (z : DV K ρ H d v) (w : DV K ρ H e u) (f : flatD d = true) (g : flatD e = true) : fEq d e = eqV v u ∧ flatV v = true ∧ flatV u = true := by
  cases z <;> cases w <;> first | exact ⟨rfl, rfl, rfl⟩ | (simp [flatD, scD] at f g)
theorem fIn_rel {K : PySem.W.Frag} {ρ : List Addr} {H : Hp} {d : D} {v : V} (z : DV K ρ H d v) (f : flatD d = true) : ∀ {ds : List D} {vs : List V}, DVs K ρ H ds vs → ds.all flatD = true →
    (ds.any fun y => fEq y d) = inV v vs ∧ flatV v = true ∧ vs.all flatV = true
  | _, _, .nil, _ => ⟨rfl, by cases z <;> first | rfl | (simp [flatD, scD] at f), rfl⟩
  | e :: ds, u :: vs, .cons w s, g => by
    rw [List.all_cons, Bool.and_eq_true] at g
    obtain ⟨h1, h2, h3⟩ := fIn_rel z f s g.2
    obtain ⟨k1, k2, k3⟩ := fEq_rel w z g.1 f
    refine ⟨?_, h2, by rw [List.all_cons, k2, h3]; rfl⟩
    show (fEq e d || ds.any fun y => fEq y d) = (eqV u v || inV v vs)
    rw [k1, h1]
def itemsD (h : HS) : D → Option (List D)
  | .tup ds => some ds
  | .cst ds => some ds
  | .ref i => match h[i]? with
    | some (.lst ds) => some ds
    | _ => none
  | _ => none
theorem itemsD_ok {K : PySem.W.Frag} {ρ : List Addr} {h : HS} {H : Hp} (r : Rep K ρ h H) {d : D} {v : V} {ds : List D} (z : DV K ρ H d v) (e : itemsD h d = some ds) : ∃ a vs, v = .ref a ∧ (SqL K H a vs ∨ SqT K H a vs) ∧ DVs K ρ H ds vs := by
  cases z <;> first | (simp [itemsD] at e; done) | skip
  · rename_i i a q
    cases q1 : h[i]? with
    | none => simp only [itemsD, q1] at e; cases e
    | some o =>
      cases o with
      | lst ds =>
        simp only [itemsD, q1] at e
        cases e
        obtain ⟨a', ea, va, ha, za⟩ := r.look q1
        rw [q] at ea; cases ea
        exact ⟨_, va, rfl, .inl (SqL.of ha), za⟩
      | _ => simp only [itemsD, q1] at e; cases e
  · rename_i q z; cases e; exact ⟨_, _, rfl, .inr q, z⟩
  · rename_i q z; cases e; exact ⟨_, _, rfl, .inl q.sq, z⟩
def dictD (h : HS) : D → Option (List (Key × D))
  | .ref i => match h[i]? with
    | some (.dK ds) => some ds
    | some (.fdK ds) => some ds
    | _ => none
  | _ => none
theorem dictD_ok {K : PySem.W.Frag} {ρ : List Addr} {h : HS} {H : Hp} (r : Rep K ρ h H) {d : D} {v : V} {ks : List (Key × D)} (z : DV K ρ H d v) (e : dictD h d = some ks) : ∃ a vs, v = .ref a ∧ Rd H a (.dK vs) ∧ KDs Key K ρ H ks vs := by
  cases z <;> first | (simp [dictD] at e; done) | skip
  rename_i i a q
  cases q1 : h[i]? with
  | none => simp only [dictD, q1] at e; cases e
  | some o =>
    obtain ⟨a', ea, z⟩ := r.look q1
    rw [q] at ea; cases ea
    cases o with
    | dK ds => simp only [dictD, q1] at e; cases e; obtain ⟨va, ha, za⟩ := z; exact ⟨_, va, rfl, .inl ha, za⟩
    | fdK ds => simp only [dictD, q1] at e; cases e; obtain ⟨ob, va, ha, za⟩ := z; exact ⟨_, va, rfl, .inr ⟨ob, ha⟩, za⟩
    | _ => simp only [dictD, q1] at e; cases e
/-- x in y, as a truth -/
def inB (x y : D) (h : HS) : Option Bool := match itemsD h y with
  | some ds => if flatD x && ds.all flatD then some (ds.any fun y => fEq y x) else none
  | none => match dictD h y with
    | some ks => (keyD x).map fun k => (getK ks k).isSome
    | none => match x, y with
      | .str a, .str b => if a.length = 1 then some (decide (a.cps.getD 0 0 ∈ b.cps.toList)) else some (!(Builtin.Str.occurrences b a 0 b.length 1).isEmpty)
      | _, _ => none
def dIn (x y : D) (h : HS) : R D := match inB x y h with
  | some b => .ok (.bl b) h
  | none => .bad
def dNotIn (x y : D) (h : HS) : R D := match inB x y h with
  | some b => .ok (.bl !b) h
  | none => .bad
def rInK : R2 := fun x y H Q => ∃ a o, y = .ref a ∧ DGet H a x o ∧ Q (.bl o.isSome) H
def rNotInK : R2 := fun x y H Q => ∃ a o, y = .ref a ∧ DGet H a x o ∧ Q (.bl (!o.isSome)) H
theorem op_inK {X : Cx} (hu : X.A.units + 1 < cLine) : OpR X (compareOp .In) rInK := by
  intro pins s σ H x y v u Q I rx ry h
  obtain ⟨a, o, rfl, g, q⟩ := h
  obtain rfl : u = Value.ref a := ry
  exact d_in hu I g rx fun s3 I3 => ⟨.bl o.isSome, H, I3, rfl, q⟩
theorem op_notInK {X : Cx} (hu : X.A.units + 1 < cLine) : OpR X (compareOp .NotIn) rNotInK := by
  intro pins s σ H x y v u Q I rx ry h
  obtain ⟨a, o, rfl, g, q⟩ := h
  obtain rfl : u = Value.ref a := ry
  exact d_notIn hu I g rx fun s3 I3 => ⟨.bl (!o.isSome), H, I3, rfl, q⟩
abbrev rInSg : R2 := fun x y H Q => ∃ (c : Nat) (z : Str), x = .str ⟨#[c]⟩ ∧ y = .str z ∧ Q (.bl (decide (c ∈ z.cps.toList))) H
abbrev rNotInSg : R2 := fun x y H Q => ∃ (c : Nat) (z : Str), x = .str ⟨#[c]⟩ ∧ y = .str z ∧ Q (.bl (!decide (c ∈ z.cps.toList))) H
abbrev rInSt : R2 := fun x y H Q => ∃ i j, x = .str i ∧ y = .str j ∧ Q (.bl (!(Builtin.Str.occurrences j i 0 j.length 1).isEmpty)) H
abbrev rNotInSt : R2 := fun x y H Q => ∃ i j, x = .str i ∧ y = .str j ∧ Q (.bl (!(!(Builtin.Str.occurrences j i 0 j.length 1).isEmpty))) H
def rInA (K : PySem.W.Frag) : R2 := fun x y H Q => rIn K false x y H Q ∨ (rInK x y H Q ∨ (rInSg x y H Q ∨ rInSt x y H Q))
def rNotInA (K : PySem.W.Frag) : R2 := fun x y H Q => rIn K true x y H Q ∨ (rNotInK x y H Q ∨ (rNotInSg x y H Q ∨ rNotInSt x y H Q))
theorem o_in {X : Cx} (hu : X.A.units + 1 < cLine) : OpR X (compareOp .In) (rInA X.K) := OpR.or op_in_seq (OpR.or (op_inK hu) (OpR.or op_in_sign op_in_str))
theorem o_notIn {X : Cx} (hu : X.A.units + 1 < cLine) : OpR X (compareOp .NotIn) (rNotInA X.K) := OpR.or op_notIn_seq (OpR.or (op_notInK hu) (OpR.or op_notIn_sign op_notin_str))
theorem str_one {a : Str} (h : a.length = 1) : a = ⟨#[a.cps.getD 0 0]⟩ := by
  obtain ⟨⟨l⟩⟩ := a
  match l, h with
  | [c], _ => rfl
theorem inB_ok {K : PySem.W.Frag} {ρ : List Addr} {h : HS} {H : Hp} (r : Rep K ρ h H) {d1 d2 : D} {x y : V} {b : Bool} (z1 : DV K ρ H d1 x) (z2 : DV K ρ H d2 y) (e : inB d1 d2 h = some b) :
    ∀ Q : VK, (Q (.bl b) H → rInA K x y H Q) ∧ (Q (.bl (!b)) H → rNotInA K x y H Q) := by
  unfold inB at e
  cases e1 : itemsD h d2 with
  | some ds =>
    rw [e1] at e
    simp only at e
    obtain ⟨a, vs, rfl, hq, zs⟩ := itemsD_ok r z2 e1
    by_cases c : (flatD d1 && ds.all flatD) = true
    · rw [if_pos c] at e
      rw [Bool.and_eq_true] at c
      obtain ⟨h1, h2, h3⟩ := fIn_rel z1 c.1 zs c.2
      rw [h1] at e
      cases e
      exact fun Q => ⟨fun q => .inl ⟨a, vs, rfl, hq, h2, h3, q⟩, fun q => .inl ⟨a, vs, rfl, hq, h2, h3, q⟩⟩
    · rw [if_neg c] at e; cases e
  | none =>
    rw [e1] at e
    simp only at e
    cases e2 : dictD h d2 with
    | some ks =>
      rw [e2] at e
      simp only at e
      obtain ⟨a, vs, rfl, hq, zs⟩ := dictD_ok r z2 e2
      obtain ⟨k, ek, eb⟩ := Option.map_eq_some_iff.mp e
      have ex := keyD_rel z1 ek
      subst ex
      have g : DGet H a (kV k) (valV vs k) := .inl ⟨vs, k, hq, rfl, rfl⟩
      have eo : (valV vs k).isSome = b := by
        rw [← eb]
        cases q : getK ks k with
        | none => rw [(zs.get k).2 q]; rfl
        | some d => obtain ⟨v, ev, _⟩ := (zs.get k).1 d q; rw [ev]; rfl
      exact fun Q => ⟨fun q => .inr (.inl ⟨a, _, rfl, g, by rw [eo]; exact q⟩), fun q => .inr (.inl ⟨a, _, rfl, g, by rw [eo]; exact q⟩)⟩
    | none =>
      rw [e2] at e
      cases z1 <;> cases z2 <;> first | (cases e; done) | skip
      rename_i a c
      simp only at e
      by_cases hl : a.length = 1
      · rw [if_pos hl] at e
        cases e
        exact fun Q => ⟨fun q => .inr (.inr (.inl ⟨_, _, congrArg V.str (str_one hl), rfl, q⟩)), fun q => .inr (.inr (.inl ⟨_, _, congrArg V.str (str_one hl), rfl, q⟩))⟩
      · rw [if_neg hl] at e
        cases e
        exact fun Q => ⟨fun q => .inr (.inr (.inr ⟨_, _, rfl, rfl, q⟩)), fun q => .inr (.inr (.inr ⟨_, _, rfl, rfl, q⟩))⟩
theorem s_in {K : PySem.W.Frag} : OpS K dIn (rInA K) := by
  intro ρ h H d1 d2 x y W Q r z1 z2 p
  unfold dIn at p
  cases e : inB d1 d2 h with
  | none => rw [e] at p; exact p.elim
  | some b => rw [e] at p; exact (inB_ok r z1 z2 e Q).1 (p.use r (.bl b))
theorem s_notIn {K : PySem.W.Frag} : OpS K dNotIn (rNotInA K) := by
  intro ρ h H d1 d2 x y W Q r z1 z2 p
  unfold dNotIn at p
  cases e : inB d1 d2 h with
  | none => rw [e] at p; exact p.elim
  | some b => rw [e] at p; exact (inB_ok r z1 z2 e Q).2 (p.use r (.bl (!b)))

/-! ### a value as a test -/
def truB (h : HS) : D → Option Bool
  | .non => some false
  | .bl b => some b
  | .int i => some (i != 0)
  | .str y => if y.length ≤ sizeLine then some ((y.length : Int) != 0) else none
  | .tup ds => some (!ds.isEmpty)
  | .cst ds => some (!ds.isEmpty)
  | .ref i => match h[i]? with
    | some (.lst ds) => some (!ds.isEmpty)
    | some (.dK ds) => some (!ds.isEmpty)
    | _ => none
  | _ => none
theorem isEmpty_len {α β : Type} {xs : List α} {ys : List β} (e : xs.length = ys.length) : xs.isEmpty = ys.isEmpty := by
  cases xs <;> cases ys <;> first | rfl | (simp at e)
theorem truB_ok {K : PySem.W.Frag} {ρ : List Addr} {h : HS} {H : Hp} (r : Rep K ρ h H) {d : D} {v : V} {b : Bool} (z : DV K ρ H d v) (e : truB h d = some b) : TruV K v H b := by
  cases z with
  | non => cases e; rfl
  | bl b => cases e; rfl
  | int i => cases e; rfl
  | str y =>
    simp only [truB] at e
    by_cases c : y.length ≤ sizeLine
    · rw [if_pos c] at e; cases e; exact ⟨c, rfl⟩
    · rw [if_neg c] at e; cases e
  | ty n => cases e
  | tup q zs => cases e; exact .inr (.inl ⟨_, q, by rw [isEmpty_len zs.length]⟩)
  | cst q zs => cases e; exact .inl ⟨_, q.sq, by rw [isEmpty_len zs.length]⟩
  | ref q =>
    rename_i i a
    cases q1 : h[i]? with
    | none => simp only [truB, q1] at e; cases e
    | some o =>
      obtain ⟨a', ea, z⟩ := r.look q1
      rw [q] at ea; cases ea
      cases o with
      | lst ds => simp only [truB, q1] at e; cases e; obtain ⟨va, ha, za⟩ := z; exact .inl ⟨_, SqL.of ha, by rw [isEmpty_len za.length]⟩
      | dK ds => simp only [truB, q1] at e; cases e; obtain ⟨va, ha, za⟩ := z; exact .inr (.inr ⟨_, ha, by rw [isEmpty_len za.length]⟩)
      | _ => simp only [truB, q1] at e; cases e
def mTru (m : FE) : FT := fun σ h => (m σ h).bind fun d h1 => match truB h1 d with
  | some b => .ok b h1
  | none => .bad
section
variable {X : Cx} {W : WX} {pos : Pos} {e a b : Expr} {es rest : List Expr} {m ma mb : FE} {ta tb : FT}
theorem gt_val (ha : GE X W a ma) (he : ∀ whole, isTrue a X.env whole = (do let v ← whole; standAt a.pos; holding [v] (truthy v)) := by intro _; rfl) : GT X W a (mTru ma) :=
  pt_mono (pt_truth ha he) fun σ H Q ⟨ρ, σh, h, rr, s, p⟩ => ⟨ρ, σh, h, rr, s, Post.of_bind p fun d h1 ρ1 v H1 e1 r1 z1 p1 => by
    cases e : truB h1 d with
    | none => rw [e] at p1; exact p1.elim
    | some b => rw [e] at p1; exact ⟨b, truB_ok r1 z1 e, p1.use r1 rfl⟩⟩
/-- a comparison as a test -/
def mBl (m : FE) : FT := fun σ h => (m σ h).bind fun d h1 => match d with
  | .bl b => .ok b h1
  | _ => .bad
theorem lBl {m : FE} {t : TE} (k : ∀ σ H Q, lE X.K W m σ H Q → t σ H Q) (σ : L2.St) (H : Hp) (Q : Bool → Hp → Prop) (q : lT X.K W (mBl m) σ H Q) : tTest t σ H Q := by
  obtain ⟨ρ, σh, h, rr, s, p⟩ := q
  refine k σ H _ ⟨ρ, σh, h, rr, s, Post.of_bind p fun d h1 ρ1 v H1 e1 r1 z1 p1 => ?_⟩
  cases z1 <;> first | exact p1.elim | exact ⟨_, rfl, p1.use r1 rfl⟩
theorem gt_cmp {op : CmpOp} {f : D → D → HS → R D} {r : R2} (ho : OpR X (compareOp op) r) (hf : OpS X.K f r) (ha : GE X W a ma) (hb : GE X W b mb) (hm : behindInMarks op b = false := by rfl) :
    GT X W (.Compare a [op] [b] pos) (mBl (mOp f ma mb)) := pt_mono (pt_cmpR ho ha hb hm) (lBl (lOp hf))
/-- and, or, not -/
def mAnd (ta tb : FT) : FT := fun σ h => (ta σ h).bind fun c h1 => if c = true then tb σ h1 else .ok false h1
def mOr (ta tb : FT) : FT := fun σ h => (ta σ h).bind fun c h1 => if c = true then .ok true h1 else tb σ h1
def mNot (ta : FT) : FT := fun σ h => (ta σ h).bind fun c h1 => .ok (!c) h1
theorem gw_and1 (ha : GT X W a ta) : GW X W (.BoolOp .And [a] pos) ta := pw_and1 ha
theorem gw_or1 (ha : GT X W a ta) : GW X W (.BoolOp .Or [a] pos) ta := pw_or1 ha
theorem gw_and (ha : GT X W a ta) (hb : GW X W (.BoolOp .And (b :: rest) pos) tb) : GW X W (.BoolOp .And (a :: b :: rest) pos) (mAnd ta tb) :=
  pw_mono (pw_and ha hb) fun σ H Q ⟨ρ, σh, h, rr, s, p⟩ => ⟨ρ, σh, h, rr, s, Post.of_bind p fun d h1 ρ1 v H1 e1 r1 z1 p1 => by
    cases z1
    cases d with
    | true => exact ⟨ρ1, σh, h1, r1, s.mono rr e1, p1⟩
    | false => exact p1.use r1 rfl⟩
theorem gw_or (ha : GT X W a ta) (hb : GW X W (.BoolOp .Or (b :: rest) pos) tb) : GW X W (.BoolOp .Or (a :: b :: rest) pos) (mOr ta tb) :=
  pw_mono (pw_or ha hb) fun σ H Q ⟨ρ, σh, h, rr, s, p⟩ => ⟨ρ, σh, h, rr, s, Post.of_bind p fun d h1 ρ1 v H1 e1 r1 z1 p1 => by
    cases z1
    cases d with
    | false => exact ⟨ρ1, σh, h1, r1, s.mono rr e1, p1⟩
    | true => exact p1.use r1 rfl⟩
theorem gt_w (h : GW X W e ta) : GT X W e ta := PW.pt h
theorem gt_not (ha : GT X W a ta) : GT X W (.UnaryOp .Not a pos) (mNot ta) :=
  pt_mono (pt_not ha) fun σ H Q ⟨ρ, σh, h, rr, s, p⟩ => ⟨ρ, σh, h, rr, s, Post.of_bind p fun d h1 ρ1 v H1 e1 r1 z1 p1 => by
    cases z1
    exact p1.use r1 rfl⟩
/-- the same as values: of truths -/
def mAndV (ma mb : FE) : FE := fun σ h => (ma σ h).bind fun d h1 => match d with
  | .bl true => mb σ h1
  | .bl false => .ok (.bl false) h1
  | _ => .bad
def mOrV (ma mb : FE) : FE := fun σ h => (ma σ h).bind fun d h1 => match d with
  | .bl false => mb σ h1
  | .bl true => .ok (.bl true) h1
  | _ => .bad
def mNotV (ma : FE) : FE := fun σ h => (ma σ h).bind fun d h1 => match d with
  | .bl b => .ok (.bl !b) h1
  | _ => .bad
theorem g_one {op} (h : GE X W a m) : GE X W (.BoolOp op [a] pos) m := pe_one h
theorem g_and (ha : GE X W a ma) (hb : GE X W (.BoolOp .And (b :: rest) pos) mb) : GE X W (.BoolOp .And (a :: b :: rest) pos) (mAndV ma mb) :=
  pe_mono (pe_and ha hb) fun σ H Q ⟨ρ, σh, h, rr, s, p⟩ => ⟨ρ, σh, h, rr, s, Post.of_bind p fun d h1 ρ1 v H1 e1 r1 z1 p1 => by
    cases z1 <;> first | exact p1.elim | skip
    rename_i c
    cases c with
    | true => exact ⟨true, rfl, ⟨ρ1, σh, h1, r1, s.mono rr e1, p1⟩⟩
    | false => exact ⟨false, rfl, p1.use r1 (.bl false)⟩⟩
theorem g_or (ha : GE X W a ma) (hb : GE X W (.BoolOp .Or (b :: rest) pos) mb) : GE X W (.BoolOp .Or (a :: b :: rest) pos) (mOrV ma mb) :=
  pe_mono (pe_or ha hb) fun σ H Q ⟨ρ, σh, h, rr, s, p⟩ => ⟨ρ, σh, h, rr, s, Post.of_bind p fun d h1 ρ1 v H1 e1 r1 z1 p1 => by
    cases z1 <;> first | exact p1.elim | skip
    rename_i c
    cases c with
    | false => exact ⟨false, rfl, ⟨ρ1, σh, h1, r1, s.mono rr e1, p1⟩⟩
    | true => exact ⟨true, rfl, p1.use r1 (.bl true)⟩⟩
theorem g_not (ha : GE X W a ma) : GE X W (.UnaryOp .Not a pos) (mNotV ma) :=
  pe_mono (pe_not ha) fun σ H Q ⟨ρ, σh, h, rr, s, p⟩ => ⟨ρ, σh, h, rr, s, Post.of_bind p fun d h1 ρ1 v H1 e1 r1 z1 p1 => by
    cases z1 <;> first | exact p1.elim | exact ⟨_, rfl, p1.use r1 (.bl _)⟩⟩
def mIf (t : FT) (ma mb : FE) : FE := fun σ h => (t σ h).bind fun c h1 => if c = true then ma σ h1 else mb σ h1
theorem g_if {c : Expr} (hc : GT X W c ta) (ha : GE X W a ma) (hb : GE X W b mb) : GE X W (.IfExp c a b pos) (mIf ta ma mb) :=
  pe_mono (pe_ifExp hc ha hb) fun σ H Q ⟨ρ, σh, h, rr, s, p⟩ => ⟨ρ, σh, h, rr, s, Post.of_bind p fun d h1 ρ1 v H1 e1 r1 z1 p1 => by
    cases z1
    cases d with
    | true => exact ⟨ρ1, σh, h1, r1, s.mono rr e1, p1⟩
    | false => exact ⟨ρ1, σh, h1, r1, s.mono rr e1, p1⟩⟩
end
end FL

set_option Elab.async false
set_option linter.all false
set_option maxRecDepth 100000
/-! FL, part c: statements, loops, comprehensions, calls. -/
namespace FL
open PySem PySem.Spec PyProof.Rows L2

inductive RS where
  | bad | nx (σ : Sl) (h : HS) | rt (d : D) (h : HS) | bk (σ : Sl) (h : HS) | ct (σ : Sl) (h : HS) | ex (x : XV) (σ : Sl) (h : HS)
abbrev FS := Sl → HS → RS
def R.on {α : Type} (m : R α) (σ : Sl) (k : α → HS → RS) : RS := match m with
  | .bad => .bad
  | .ok a h => k a h
  | .ex x h => .ex x σ h

def PostS (K : PySem.W.Frag) (ρ : List Addr) (H : Hp) (W : WX) (T : Ends) : RS → Prop
  | .bad => False
  | .nx σh h' => ∀ ρ' σ' H', Ext ρ H ρ' H' → Rep K ρ' h' H' → RepS K ρ' H' σh σ' → T.nx σ' H'
  | .bk σh h' => ∀ ρ' σ' H', Ext ρ H ρ' H' → Rep K ρ' h' H' → RepS K ρ' H' σh σ' → T.bk σ' H'
  | .ct σh h' => ∀ ρ' σ' H', Ext ρ H ρ' H' → Rep K ρ' h' H' → RepS K ρ' H' σh σ' → T.ct σ' H'
  | .rt d h' => ∀ ρ' v H', Ext ρ H ρ' H' → Rep K ρ' h' H' → DV K ρ' H' d v → T.rt v H'
  | .ex x σh h' => ∀ ρ' dx σ' H', Ext ρ H ρ' H' → Rep K ρ' h' H' → RepS K ρ' H' σh σ' → XRep K ρ' H' x dx → W (.ref x.cls) dx σ' H'
section
variable {K : PySem.W.Frag} {ρ ρ1 : List Addr} {h h1 : HS} {H H1 : Hp} {W : WX} {T T' : Ends}
theorem PostS.ext (e : Ext ρ H ρ1 H1) {m : RS} (p : PostS K ρ H W T m) : PostS K ρ1 H1 W T m := by
  cases m with
  | bad => exact p
  | nx => exact fun ρ' v H' e2 r q => p ρ' v H' (e.trans e2 r.nd) r q
  | bk => exact fun ρ' v H' e2 r q => p ρ' v H' (e.trans e2 r.nd) r q
  | ct => exact fun ρ' v H' e2 r q => p ρ' v H' (e.trans e2 r.nd) r q
  | rt => exact fun ρ' v H' e2 r q => p ρ' v H' (e.trans e2 r.nd) r q
  | ex => exact fun ρ' v σ' H' e2 r q => p ρ' v σ' H' (e.trans e2 r.nd) r q
theorem PostS.of_on {α β : Type} {rel : List Addr → Hp → α → β → Prop} {m : R α} {σh : Sl} {σ : L2.St} {k : α → HS → RS} {Q : β → Hp → Prop} (p : PostS K ρ H W T (m.on σh k)) (r : Rep K ρ h H) (s : RepS K ρ H σh σ)
    (q : ∀ d h1 ρ1 v H1, Ext ρ H ρ1 H1 → Rep K ρ1 h1 H1 → rel ρ1 H1 d v → PostS K ρ1 H1 W T (k d h1) → Q v H1) : Post K ρ H rel (fun c d H' => W c d σ H') Q m := by
  cases m with
  | bad => exact p
  | ok d h' => exact fun ρ' v H' e r' z => q d h' ρ' v H' e r' z (PostS.ext e p)
  | ex x h' => exact fun ρ' dx H' e r' z => p ρ' dx σ H' e r' (s.mono r e) z
theorem PostS.useN {σh : Sl} {σ : L2.St} (p : PostS K ρ H W T (.nx σh h)) (r : Rep K ρ h H) (s : RepS K ρ H σh σ) : T.nx σ H := p ρ σ H .refl r s
end
def lS (K : PySem.W.Frag) (W : WX) (m : FS) : TS := fun T σ H => ∃ ρ σh h, Rep K ρ h H ∧ RepS K ρ H σh σ ∧ PostS K ρ H W T (m σh h)
def GS (X : Cx) (W : WX) (st : Stmt) (m : FS) : Prop := PS X st (lS X.K W m)
def GSs (X : Cx) (W : WX) (st : List Stmt) (m : FS) : Prop := PSs X st (lS X.K W m)

/-- the context of a body -/
structure CK (X : Cx) (W : WX) (k : Nat) : Prop where
  calm : X.calm = true
  nd : X.N.Nodup
  tk : Takes X W
  po : PassesOwn (model X.prog X.w) X.A X.env X.xe
  hr : Room k X.A
abbrev W0 : WX := fun _ _ _ _ => False
theorem CK.u64 {X : Cx} {W : WX} {k : Nat} (c : CK X W k) : X.A.units + 64 < cLine := c.hr.units
theorem CK.u1 {X : Cx} {W : WX} {k : Nat} (c : CK X W k) : X.A.units + 1 < cLine := hu_of c.hr
theorem CK.blk {X : Cx} {W : WX} {k : Nat} (c : CK X W k) (s : Shared) (H : Hp) (scope : Scope) (env : Env) (fp : List Addr) : CK (X.blk s H scope env fp) W0 k :=
  ⟨c.calm, c.nd, takes0, PassesOwn.never, c.hr⟩

section
variable {X : Cx} {W : WX} {pos : Pos} {e a b : Expr} {es rest : List Expr} {st : Stmt} {sts : List Stmt} {m ma mb : FE} {ta tb : FT} {u v : FS}
/-! ### small statements, blocks -/
def mSkip : FS := fun σ h => .nx σ h
def mSeq (u v : FS) : FS := fun σ h => match u σ h with
  | .nx σ' h' => v σ' h'
  | r => r
theorem lSeq (T : Ends) (σ : L2.St) (H : Hp) (q : lS X.K W (mSeq u v) T σ H) : tSeq (lS X.K W u) (lS X.K W v) T σ H := by
  obtain ⟨ρ, σh, h, rr, s, p⟩ := q
  refine ⟨ρ, σh, h, rr, s, ?_⟩
  unfold mSeq at p
  cases c : u σh h with
  | nx σ1 h1 =>
    rw [c] at p
    exact fun ρ' σ' H' e r z => ⟨ρ', σ1, h1, r, z, PostS.ext e p⟩
  | bad => rw [c] at p; exact p
  | rt => rw [c] at p; exact p
  | bk => rw [c] at p; exact p
  | ct => rw [c] at p; exact p
  | ex => rw [c] at p; exact p
theorem gs_nil : GSs X W [] mSkip := pss_mono pss_nil fun T σ H ⟨ρ, σh, h, r, s, p⟩ => p.useN r s
theorem gs_cons (h1 : GS X W st u) (h2 : GSs X W sts v) : GSs X W (st :: sts) (mSeq u v) := pss_mono (pss_cons h1 h2) lSeq
theorem gs_one (h1 : GS X W st u) : GSs X W [st] u := pss_one h1
theorem g_pass : GS X W (.Pass pos) mSkip := ps_mono ps_pass fun T σ H ⟨ρ, σh, h, r, s, p⟩ => p.useN r s
def mBrk : FS := fun σ h => .bk σ h
def mCnt : FS := fun σ h => .ct σ h
theorem g_break : GS X W (.Break pos) mBrk := ps_mono ps_break fun T σ H ⟨ρ, σh, h, r, s, p⟩ => p ρ σ H .refl r s
theorem g_continue : GS X W (.Continue pos) mCnt := ps_mono ps_continue fun T σ H ⟨ρ, σh, h, r, s, p⟩ => p ρ σ H .refl r s
theorem g_doc {x j pos pos'} : GS X W (.Expr (.Constant (.str x) j pos) pos') mSkip := ps_mono ps_doc fun T σ H ⟨ρ, σh, h, r, s, p⟩ => p.useN r s
def mDrop (m : FE) : FS := fun σ h => (m σ h).on σ fun _ h1 => .nx σ h1
theorem g_expr (he : GE X W e m) (hs : swapsWith e none pos.line X.env = pure false := by rfl) : GS X W (.Expr e pos) (mDrop m) :=
  ps_mono (ps_expr he hs) fun T σ H ⟨ρ, σh, h, r, s, p⟩ => ⟨ρ, σh, h, r, s, PostS.of_on p r s fun d h1 ρ1 v H1 e1 r1 z1 p1 => p1.useN r1 (s.mono r e1)⟩
def mRet (m : FE) : FS := fun σ h => (m σ h).on σ fun d h1 => .rt d h1
theorem g_ret (he : GE X W e m) : GS X W (.Return (some e) pos) (mRet m) :=
  ps_mono (ps_ret he) fun T σ H ⟨ρ, σh, h, r, s, p⟩ => ⟨ρ, σh, h, r, s, PostS.of_on p r s fun d h1 ρ1 v H1 e1 r1 z1 p1 => p1 ρ1 v H1 .refl r1 z1⟩
def mRetN : FS := fun σ h => .rt .non h
theorem g_retN : GS X W (.Return none pos) mRetN := ps_mono ps_retN fun T σ H ⟨ρ, σh, h, r, s, p⟩ => p ρ _ H .refl r .non
def mIfS (t : FT) (u v : FS) : FS := fun σ h => (t σ h).on σ fun c h1 => if c = true then u σ h1 else v σ h1
theorem g_ifS {c : Expr} {as bs : List Stmt} (hc : GT X W c ta) (ha : GSs X W as u) (hb : GSs X W bs v) : GS X W (.If c as bs pos) (mIfS ta u v) :=
  ps_mono (ps_if hc ha hb) fun T σ H ⟨ρ, σh, h, r, s, p⟩ => ⟨ρ, σh, h, r, s, PostS.of_on p r s fun d h1 ρ1 v H1 e1 r1 z1 p1 => by
    cases z1
    cases d with
    | true => exact ⟨ρ1, σh, h1, r1, s.mono r e1, p1⟩
    | false => exact ⟨ρ1, σh, h1, r1, s.mono r e1, p1⟩⟩
def mNever : FS := fun _ _ => .bad
theorem g_never : GS X W st mNever := ps_mono ps_never fun T σ H ⟨ρ, σh, h, r, s, p⟩ => p.elim
theorem gs_never : GSs X W sts mNever := pss_mono pss_never fun T σ H ⟨ρ, σh, h, r, s, p⟩ => p.elim

/-! ### targets -/
abbrev FG := D → Sl → HS → R Sl
def lG (K : PySem.W.Frag) (W : WX) (m : FG) : TG := fun v σ H Q => ∃ ρ σh h d, Rep K ρ h H ∧ RepS K ρ H σh σ ∧ DV K ρ H d v ∧ Post K ρ H (RepS K) (fun c d H' => W c d σ H') Q (m d σh h)
def GG (X : Cx) (W : WX) (e : Expr) (m : FG) : Prop := PG X e (lG X.K W m)
def mTo (i : Nat) : FG := fun d σ h => .ok (σ.set i (some d)) h
theorem gg_name {i : Nat} {x : Str} (hN : X.N.Nodup) (hi : X.N[i]? = some x := by rfl) (hx : Loc X.env.scope x := by first | exact Or.inl rfl | exact Or.inr rfl) (hf : X.fn x = true ∨ X.env.scope.names.lookup x = some .local := by first | exact .inl rfl | exact .inr rfl) : GG X W (.Name x pos) (mTo i) :=
  pg_mono (pg_name hN hi hx hf) fun v σ H Q ⟨ρ, σh, h, d, r, s, z, p⟩ => p.use r (s.set i z)
/-- several names -/
def setAll : List Nat → List D → Sl → Option Sl
  | [], [], σ => some σ
  | i :: is, d :: ds, σ => setAll is ds (σ.set i (some d))
  | _, _, _ => none
def mTos (is : List Nat) : FG := fun d σ h => match d with
  | .tup ds => match setAll is ds σ with
    | some σ' => .ok σ' h
    | none => .bad
  | _ => .bad
def tNames : List Nat → TGs
  | [] => gNil
  | i :: is => gCons (gName i) (tNames is)
theorem setAll_len : ∀ {is : List Nat} {ds : List D} {σ σ' : Sl}, setAll is ds σ = some σ' → is.length = ds.length
  | [], [], _, _, _ => rfl
  | i :: is, d :: ds, _, _, e => by rw [List.length_cons, List.length_cons, setAll_len (is := is) (ds := ds) e]
  | [], _ :: _, _, _, e => by cases e
  | _ :: _, [], _, _, e => by cases e
theorem tNames_ok {K : PySem.W.Frag} {ρ : List Addr} {H : Hp} : ∀ {is : List Nat} {ds : List D} {vs : List V} {σh σh' : Sl} {σ : L2.St} {Q : L2.St → Hp → Prop}, DVs K ρ H ds vs → RepS K ρ H σh σ → setAll is ds σh = some σh' →
    (∀ σ', RepS K ρ H σh' σ' → (∀ js : List Nat, (∀ i ∈ is, i ∈ js) → wipe σ' js = wipe σ js) → Q σ' H) → tNames is vs σ H Q
  | [], [], _, _, _, _, _, z, s, e, q => by cases z; cases e; exact ⟨rfl, q _ s fun _ _ => rfl⟩
  | i :: is, d :: ds, _, _, _, _, _, z, s, e, q => by
    cases z with
    | cons z1 z2 =>
      refine ⟨_, _, rfl, tNames_ok (is := is) (ds := ds) z2 (s.set i z1) e fun σ' s' hw => q σ' s' fun js hj => ?_⟩
      rw [hw js fun k hk => hj k (List.mem_cons_of_mem _ hk)]
      have hi : i ∈ js := hj i List.mem_cons_self
      clear hj hw
      induction js with
      | nil => cases hi
      | cons j js ih =>
        unfold wipe
        by_cases hij : i ∈ js
        · rw [ih hij]
        · have : i = j := by
            rcases List.mem_cons.mp hi with z | z
            · exact z
            · exact absurd z hij
          subst this
          have comm : ∀ (js : List Nat) (σ : L2.St) (x : Option V), i ∉ js → wipe (σ.set i x) js = (wipe σ js).set i x := by
            intro js
            induction js with
            | nil => intro σ x _; rfl
            | cons k js ih2 =>
              intro σ x hn
              unfold wipe
              rw [ih2 σ x fun z => hn (List.mem_cons_of_mem _ z)]
              exact List.set_comm _ _ fun e => hn (by rw [e]; exact List.mem_cons_self)
          rw [comm js _ _ hij, List.set_set]
  | [], _ :: _, _, _, _, _, _, _, _, e, _ => by cases e
  | _ :: _, [], _, _, _, _, _, _, _, e, _ => by cases e
theorem gg_names {is : List Nat} {k : Nat} (hc : X.calm = true) (hp : PGs X es (tNames is)) (hn : (assignEach es X.env).length = is.length := by rfl) (hst : (assignEach es X.env).findIdx? (·.1) = none := by rfl) : GG X W (.Tuple es k pos) (mTos is) :=
  pg_mono (pg_tup hc hp hn hst) fun v σ H Q ⟨ρ, σh, h, d, r, s, z, p⟩ => by
    cases z with
    | tup q zs =>
      unfold mTos at p
      simp only at p
      rename_i a vs ds _
      cases e : setAll is ds σh with
      | none => rw [e] at p; exact p.elim
      | some σ' =>
        rw [e] at p
        exact ⟨_, vs, rfl, q, by rw [setAll_len e, zs.length], tNames_ok zs s e fun σ' s' _ => p.use r s'⟩
    | _ => exact p.elim
/-- o[i] = .. -/
def dSet (o i d : D) (h : HS) : Option HS := match o with
  | .ref a => match h[a]? with
    | some (.lst ds) => match i with
      | .int k => (ixN ds.length k).map fun j => h.set a (.lst (ds.set j d))
      | _ => none
    | some (.dK kvs) => match keyD i with
      | some k => if kvs.length < sizeLine then some (h.set a (.dK (setK kvs k d))) else none
      | none => none
    | _ => none
  | _ => none
def rSet2 : TSet := fun o i v H Q => rSetL o i v H Q ∨ rSetD o i v H Q
theorem p_set {k : Nat} (c : CK X W k) : PSet X rSet2 := by
  intro pins s σ H o i v ov iv u Q I ro ri rv h
  rcases h with h | h
  · exact set_list pins s σ H o i v ov iv u Q I ro ri rv h
  · exact set_dict c.u1 pins s σ H o i v ov iv u Q I ro ri rv h
theorem dSet_ok {K : PySem.W.Frag} {ρ : List Addr} {h h' : HS} {H : Hp} (r : Rep K ρ h H) {o i d : D} {x y v : V} {Q : Hp → Prop} (z1 : DV K ρ H o x) (z2 : DV K ρ H i y) (z3 : DV K ρ H d v) (e : dSet o i d h = some h')
    (q : ∀ H', Ext ρ H ρ H' → Rep K ρ h' H' → Q H') : rSet2 x y v H Q := by
  cases z1 <;> first | (cases e; done) | skip
  rename_i a ad qa
  unfold dSet at e
  simp only at e
  cases q1 : h[a]? with
  | none => rw [q1] at e; cases e
  | some ob =>
    obtain ⟨a', ea, z⟩ := r.look q1
    rw [qa] at ea; cases ea
    rw [q1] at e
    cases ob with
    | lst ds =>
      obtain ⟨vs, hv, zs⟩ := z
      cases z2 <;> first | (cases e; done) | skip
      rename_i k
      obtain ⟨j, ej, eh⟩ := Option.map_eq_some_iff.mp e
      subst eh
      refine .inl ⟨_, vs, k, j, rfl, rfl, hv, by rw [← zs.length]; exact ej, q _ (Ext.wrote qa hv) (r.wrote qa hv rfl ⟨_, upd_same, (zs.set z3 j).mono r (Ext.wrote qa hv)⟩)⟩
    | dK kvs =>
      obtain ⟨vs, hv, zs⟩ := z
      simp only at e
      cases ek : keyD i with
      | none => rw [ek] at e; cases e
      | some k =>
        rw [ek] at e
        simp only at e
        by_cases hl : kvs.length < sizeLine
        · rw [if_pos hl] at e
          cases e
          have ey := keyD_rel z2 ek
          subst ey
          exact .inr ⟨_, _, rfl, DPut.k hv (by rw [← zs.length]; exact hl), q _ (Ext.wrote qa hv) (r.wrote qa hv rfl ⟨_, upd_same, KDs.mono r (Ext.wrote qa hv) (zs.put k z3)⟩)⟩
        · rw [if_neg hl] at e; cases e
    | _ => cases e
def mToIx (mo mi : FE) : FG := fun d σ h => (mo σ h).bind fun o h1 => (mi σ h1).bind fun i h2 => match dSet o i d h2 with
  | some h3 => .ok σ h3
  | none => .bad
theorem gg_sub {k : Nat} (c : CK X W k) (ho : GE X W a ma) (hi : GE X W b mb)
    (hs : ∀ v, assign (.Subscript a b pos) X.env v = (do
      let ov ← holding [v] (eval a X.env)
      let iv ← holding [v, ov] (eval b X.env)
      standAt pos
      holding [v, ov, iv] (setItem ov iv v)
      release [v, ov, iv] []) := by intro _; rfl) : GG X W (.Subscript a b pos) (mToIx ma mb) :=
  pg_mono (pg_sub ho hi (p_set c) hs) fun v σ H Q ⟨ρ, σh, h, d, r, s, z, p⟩ => ⟨ρ, σh, h, r, s, Post.of_bind p fun o h1 ρ1 x H1 e1 r1 z1 p1 =>
    ⟨ρ1, σh, h1, r1, s.mono r e1, Post.of_bind p1 fun i h2 ρ2 y H2 e2 r2 z2 p2 => by
      cases e : dSet o i d h2 with
      | none => rw [e] at p2; exact p2.elim
      | some h3 =>
        rw [e] at p2
        exact dSet_ok r2 (z1.mono r1 e2) z2 ((z.mono r e1).mono r1 e2) e fun H' e3 r3 => p2 ρ2 σ H' e3 r3 (((s.mono r e1).mono r1 e2).mono r2 e3)⟩⟩
def mAsg (m : FE) (g : FG) : FS := fun σ h => (m σ h).on σ fun d h1 => (g d σ h1).on σ fun σ' h2 => .nx σ' h2
theorem lAsg {g : FG} (T : Ends) (σ : L2.St) (H : Hp) (q : lS X.K W (mAsg m g) T σ H) : tAsg (lE X.K W m) (lG X.K W g) T σ H := by
  obtain ⟨ρ, σh, h, r, s, p⟩ := q
  refine ⟨ρ, σh, h, r, s, PostS.of_on p r s fun d h1 ρ1 v H1 e1 r1 z1 p1 => ?_⟩
  exact ⟨ρ1, σh, h1, d, r1, s.mono r e1, z1, PostS.of_on p1 r1 (s.mono r e1) fun σ' h2 ρ2 σ2 H2 e2 r2 z2 p2 => p2.useN r2 z2⟩
theorem g_asg {tg : Expr} {g : FG} (he : GE X W e m) (hg : GG X W tg g) (hs : swapsWithSole [tg] e pos.line X.env = pure false := by rfl) (hw : swappedStores [tg] e X.env = pure none := by rfl)
    (h1 : (assignEach [tg] X.env).map (·.2) = [assign tg X.env] := by rfl) : GS X W (.Assign [tg] e pos) (mAsg m g) := ps_mono (ps_asg he hg hs hw h1) lAsg

/-! ### op= -/
def mAug (i : Nat) (f : D → D → HS → R D) (m : FE) : FS := fun σ h => match σ[i]? with
  | some (some d) => (m σ h).on σ fun e h1 => (f d e h1).on σ fun z h2 => .nx (σ.set i (some z)) h2
  | _ => .bad
theorem g_aug {i : Nat} {x : Str} {op : Operator} {f : D → D → HS → R D} {r : R2} {pos' : Pos} (hN : X.N.Nodup) (ho : OpR X (inplaceOp op) r) (hf : OpS X.K f r) (he : GE X W e m) (hi : X.N[i]? = some x := by rfl) (hx : Loc X.env.scope x := by first | exact Or.inl rfl | exact Or.inr rfl)
    (hfn : X.fn x = true ∨ X.env.scope.names.lookup x = some .local := by first | exact .inl rfl | exact .inr rfl) : GS X W (.AugAssign (.Name x pos') op e pos) (mAug i f m) :=
  ps_mono (ps_aug hN hi hx he ho hfn) fun T σ H ⟨ρ, σh, h, rr, s, p⟩ => by
    unfold mAug at p
    cases q : σh[i]? with
    | none => rw [q] at p; exact p.elim
    | some o =>
      cases o with
      | none => rw [q] at p; exact p.elim
      | some d =>
        rw [q] at p
        obtain ⟨v, e1, z⟩ := s.2 i d q
        refine ⟨v, e1, ρ, σh, h, rr, s, PostS.of_on p rr s fun d2 h1 ρ1 v2 H1 e1 r1 z1 p1 => ?_⟩
        refine hf ρ1 h1 H1 d d2 v v2 (fun c d H' => W c d σ H') _ r1 (z.mono rr e1) z1 (PostS.of_on p1 r1 (s.mono rr e1) fun d3 h2 ρ2 v3 H2 e2 r2 z2 p2 => ?_)
        exact p2.useN r2 (((s.mono rr e1).mono r1 e2).set i z2)
/-- d[k] op= e, d a dict -/
def dSetK (o i d : D) (h : HS) : Option HS := match o with
  | .ref a => match h[a]? with
    | some (.dK kvs) => match keyD i with
      | some k => if kvs.length < sizeLine then some (h.set a (.dK (setK kvs k d))) else none
      | none => none
    | _ => none
  | _ => none
theorem dSetK_ok {K : PySem.W.Frag} {ρ : List Addr} {h h' : HS} {H : Hp} (r : Rep K ρ h H) {o i d : D} {a : Addr} {y v : V} (z1 : DV K ρ H o (.ref a)) (z2 : DV K ρ H i y) (z3 : DV K ρ H d v) (e : dSetK o i d h = some h') :
    ∃ H', DPut H a y v H' ∧ Ext ρ H ρ H' ∧ Rep K ρ h' H' := by
  cases z1 <;> first | (cases e; done) | skip
  rename_i ai qa
  unfold dSetK at e
  simp only at e
  cases q1 : h[ai]? with
  | none => rw [q1] at e; cases e
  | some ob =>
    obtain ⟨a', ea, z⟩ := r.look q1
    rw [qa] at ea; cases ea
    rw [q1] at e
    cases ob with
    | dK kvs =>
      obtain ⟨vs, hv, zs⟩ := z
      simp only at e
      cases ek : keyD i with
      | none => rw [ek] at e; cases e
      | some k =>
        rw [ek] at e
        simp only at e
        by_cases hl : kvs.length < sizeLine
        · rw [if_pos hl] at e
          cases e
          have ey := keyD_rel z2 ek
          subst ey
          exact ⟨_, DPut.k hv (by rw [← zs.length]; exact hl), Ext.wrote qa hv, r.wrote qa hv rfl ⟨_, upd_same, KDs.mono r (Ext.wrote qa hv) (zs.put k z3)⟩⟩
        · rw [if_neg hl] at e; cases e
    | _ => cases e
def mAugK (mo mi : FE) (f : D → D → HS → R D) (m : FE) : FS := fun σ h => (mo σ h).on σ fun o h1 => (mi σ h1).on σ fun i h2 => match dictD h2 o, keyD i with
  | some kvs, some k => match getK kvs k with
    | some d => (m σ h2).on σ fun e h3 => (f d e h3).on σ fun z h4 => match dSetK o i z h4 with
      | some h5 => .nx σ h5
      | none => .bad
    | none => .bad
  | _, _ => .bad
theorem g_augK {k : Nat} {op : Operator} {f : D → D → HS → R D} {r : R2} {tpos : Pos} (c : CK X W k) (ho : OpR X (inplaceOp op) r) (hf : OpS X.K f r) (hd : GE X W a ma) (hi : GE X W b mb) (he : GE X W e m)
    (ha : ∀ ov iv new, augStore b ov iv new = (do holding [new, ov, iv] (setItem ov iv new); release [new, ov, iv] []; pure .next) := by intros; rfl) : GS X W (.AugAssign (.Subscript a b tpos) op e pos) (mAugK ma mb f m) :=
  ps_mono (ps_daug c.u1 hd hi he ho ha) fun T σ H ⟨ρ, σh, h, rr, s, p⟩ => ⟨ρ, σh, h, rr, s, PostS.of_on p rr s fun o h1 ρ1 x H1 e1 r1 z1 p1 =>
    ⟨ρ1, σh, h1, r1, s.mono rr e1, PostS.of_on p1 r1 (s.mono rr e1) fun i h2 ρ2 y H2 e2 r2 z2 p2 => by
      have s2 := (s.mono rr e1).mono r1 e2
      have z1' := z1.mono r1 e2
      cases q1 : dictD h2 o with
      | none => rw [q1] at p2; exact p2.elim
      | some kvs =>
        cases q2 : keyD i with
        | none => rw [q1, q2] at p2; exact p2.elim
        | some kk =>
          rw [q1, q2] at p2
          simp only at p2
          cases q3 : getK kvs kk with
          | none => rw [q3] at p2; exact p2.elim
          | some d =>
            rw [q3] at p2
            simp only at p2
            obtain ⟨ad, vs, ex, hv, zs⟩ := dictD_ok r2 z1' q1
            subst ex
            obtain ⟨v, ev, zv⟩ := (zs.get kk).1 d q3
            have ey := keyD_rel z2 q2
            refine ⟨ad, v, rfl, .inl ⟨vs, kk, hv, ey, ev.symm⟩, ρ2, σh, h2, r2, s2, PostS.of_on p2 r2 s2 fun d2 h3 ρ3 v2 H3 e3 r3 z3 p3 => ?_⟩
            have s3 := s2.mono r2 e3
            refine hf ρ3 h3 H3 d d2 v v2 (fun c d H' => W c d σ H') _ r3 (zv.mono r2 e3) z3 (PostS.of_on p3 r3 s3 fun d3 h4 ρ4 v3 H4 e4 r4 z4 p4 => ?_)
            have s4 := s3.mono r3 e4
            cases q4 : dSetK o i d3 h4 with
            | none => rw [q4] at p4; exact p4.elim
            | some h5 =>
              rw [q4] at p4
              obtain ⟨H5, g, e5, r5⟩ := dSetK_ok r4 ((z1'.mono r2 e3).mono r3 e4) ((z2.mono r2 e3).mono r3 e4) z4 q4
              exact ⟨H5, g, p4 ρ4 σ H5 e5 r5 (s4.mono r4 e5)⟩⟩⟩
end

/-! ### attributes of instances -/
def putA {α : Type} (f : Str) (v : α) : List (Str × α) → List (Str × α)
  | [] => [(f, v)]
  | (g, x) :: r => if g = f then (g, v) :: r else (g, x) :: putA f v r
section
variable {K : PySem.W.Frag} {ρ : List Addr} {H : Hp}
theorem FDs.look {fs : List (Str × D)} {vs : List (Str × V)} (q : KDs Str K ρ H fs vs) (f : Str) : (∀ d, fs.lookup f = some d → ∃ v, vs.lookup f = some v ∧ DV K ρ H d v) ∧ (fs.lookup f = none → vs.lookup f = none) := by
  unfold KDs at q
  induction q with
  | nil => exact ⟨(fun d e => by cases e), fun _ => rfl⟩
  | @cons p q ps qs z _ ih =>
    obtain ⟨g, d⟩ := p
    obtain ⟨g', v⟩ := q
    obtain ⟨e1, z⟩ := z
    have e1 : g = g' := e1
    subst e1
    rw [List.lookup_cons, List.lookup_cons]
    by_cases e : (f == g) = true
    · rw [e]; exact ⟨(fun d' e' => by cases e'; exact ⟨v, rfl, z⟩), (fun e' => by cases e')⟩
    · have e' : (f == g) = false := by simpa using e
      rw [e']; exact ih
theorem FDs.put {fs : List (Str × D)} {vs : List (Str × V)} (q : KDs Str K ρ H fs vs) (f : Str) {d : D} {v : V} (z : DV K ρ H d v) : KDs Str K ρ H (putA f d fs) (putF f v vs) := by
  unfold KDs at q
  induction q with
  | nil => exact .cons ⟨rfl, z⟩ .nil
  | @cons p q ps qs y t ih =>
    obtain ⟨g, d'⟩ := p
    obtain ⟨g', v'⟩ := q
    obtain ⟨e1, y⟩ := y
    have e1 : g = g' := e1
    subst e1
    show KDs Str K ρ H (if g = f then (g, d) :: ps else (g, d') :: putA f d ps) (if g = f then (g, v) :: qs else (g, v') :: putF f v qs)
    by_cases e : g = f
    · rw [if_pos e, if_pos e]; exact .cons ⟨rfl, z⟩ t
    · rw [if_neg e, if_neg e]; exact .cons ⟨rfl, y⟩ ih
end
/-- an instance of one of the classes -/
def insD (Cs : List Addr) (h : HS) : D → Option (Nat × Addr × List (Str × D))
  | .ref i => match h[i]? with
    | some (.ins C fs) => if C ∈ Cs then some (i, C, fs) else none
    | _ => none
  | _ => none
theorem insD_ok {K : PySem.W.Frag} {ρ : List Addr} {h : HS} {H : Hp} (r : Rep K ρ h H) {Cs : List Addr} {d : D} {v : V} {i : Nat} {C : Addr} {fs : List (Str × D)} (z : DV K ρ H d v) (e : insD Cs h d = some (i, C, fs)) :
    ∃ a dx vs, v = .ref a ∧ d = .ref i ∧ ρ[i]? = some a ∧ h[i]? = some (.ins C fs) ∧ C ∈ Cs ∧ H a = some (.ins C dx vs) ∧ KDs Str K ρ H fs vs := by
  cases z <;> first | (simp [insD] at e; done) | skip
  rename_i j a q
  cases q1 : h[j]? with
  | none => simp only [insD, q1] at e; cases e
  | some o =>
    obtain ⟨a', ea, z⟩ := r.look q1
    rw [q] at ea; cases ea
    cases o with
    | ins C' fs' =>
      simp only [insD, q1] at e
      by_cases hc : C' ∈ Cs
      · rw [if_pos hc] at e
        cases e
        obtain ⟨dx, va, ha, za⟩ := z
        exact ⟨a, dx, va, rfl, rfl, q, q1, hc, ha, za⟩
      · rw [if_neg hc] at e; cases e
    | _ => simp only [insD, q1] at e; cases e
section
variable {X : Cx} {W : WX} {pos : Pos} {e a b : Expr} {es rest : List Expr} {m ma mb : FE} {f : Str} {Cs : List Addr}
def HasF (K : PySem.W.Frag) (Cs : List Addr) (f : Str) : Prop := ∀ C ∈ Cs, Cls K C ∧ NoAttr K C f
def mFld (Cs : List Addr) (f : Str) (m : FE) : FE := fun σ h => (m σ h).bind fun d h1 => match insD Cs h1 d with
  | some (_, _, fs) => match fs.lookup f with
    | some v => .ok v h1
    | none => .bad
  | none => .bad
theorem g_fld (hC : HasF X.K Cs f) (ha : GE X W a ma) (hb : attributeBase a f X.env (eval a X.env) = eval a X.env := by rfl) : GE X W (.Attribute a f pos) (mFld Cs f ma) :=
  pe_mono (pe_fld ha hb) fun σ H Q ⟨ρ, σh, h, rr, s, p⟩ => ⟨ρ, σh, h, rr, s, Post.of_bind p fun d h1 ρ1 v H1 e1 r1 z1 p1 => by
    cases q : insD Cs h1 d with
    | none => rw [q] at p1; exact p1.elim
    | some t =>
      obtain ⟨i, C, fs⟩ := t
      rw [q] at p1
      simp only at p1
      obtain ⟨ad, dx, vs, rfl, rfl, _, _, hc, hv, zs⟩ := insD_ok r1 z1 q
      cases q2 : fs.lookup f with
      | none => rw [q2] at p1; exact p1.elim
      | some w =>
        rw [q2] at p1
        obtain ⟨u, eu, zu⟩ := (FDs.look zs f).1 w q2
        exact ⟨ad, C, dx, vs, u, rfl, hv, (hC C hc).1, (hC C hc).2, eu, p1.use r1 zu⟩⟩
def mFldSet (Cs : List Addr) (f : Str) (mo mv : FE) : FS := fun σ h => (mv σ h).on σ fun y h1 => (mo σ h1).on σ fun o h2 => match insD Cs h2 o with
  | some (i, C, fs) => if fs.length < 1000 then .nx σ (h2.set i (.ins C (putA f y fs))) else .bad
  | none => .bad
theorem g_fldSet (hC : HasF X.K Cs f) (ha : GE X W a ma) (hv : GE X W e m) {pos' : Pos} (hs : swapsWith e (some (.Attribute a f pos')) pos.line X.env = pure false := by rfl) : GS X W (.Assign [.Attribute a f pos'] e pos) (mFldSet Cs f ma m) :=
  ps_mono (ps_fld ha hv hs) fun T σ H ⟨ρ, σh, h, rr, s, p⟩ => ⟨ρ, σh, h, rr, s, PostS.of_on p rr s fun y h1 ρ1 x H1 e1 r1 z1 p1 =>
    ⟨ρ1, σh, h1, r1, s.mono rr e1, PostS.of_on p1 r1 (s.mono rr e1) fun o h2 ρ2 v H2 e2 r2 z2 p2 => by
      have s2 := (s.mono rr e1).mono r1 e2
      have zy := z1.mono r1 e2
      cases q : insD Cs h2 o with
      | none => rw [q] at p2; exact p2.elim
      | some t =>
        obtain ⟨i, C, fs⟩ := t
        rw [q] at p2
        simp only at p2
        obtain ⟨ad, dx, vs, rfl, rfl, qa, _, hc, hv, zs⟩ := insD_ok r2 z2 q
        by_cases hl : fs.length < 1000
        · rw [if_pos hl] at p2
          have ex := Ext.wrote (H := H2) (o := .ins C dx (putF f x vs)) qa hv
          exact ⟨ad, C, dx, vs, rfl, hv, (hC C hc).1, (hC C hc).2, by rw [← KDs.length zs]; exact hl, p2 ρ2 σ _ ex (r2.wrote qa hv rfl ⟨dx, _, upd_same, KDs.mono r2 ex (FDs.put zs f zy)⟩) (s2.mono r2 ex)⟩
        · rw [if_neg hl] at p2; exact p2.elim⟩⟩
def mFldAug (Cs : List Addr) (f : Str) (mo : FE) (g : D → D → HS → R D) (mv : FE) : FS := fun σ h => (mo σ h).on σ fun o h1 => match insD Cs h1 o with
  | some (i, C, fs) => match fs.lookup f with
    | some d => (mv σ h1).on σ fun y h2 => (g d y h2).on σ fun z h3 => match insD [C] h3 o with
      | some (_, _, fs') => if fs'.length < 1000 then .nx σ (h3.set i (.ins C (putA f z fs'))) else .bad
      | none => .bad
    | none => .bad
  | none => .bad
theorem g_fldAug {op : Operator} {g : D → D → HS → R D} {r : R2} (hC : HasF X.K Cs f) (ho : OpR X (inplaceOp op) r) (hf : OpS X.K g r) (ha : GE X W a ma) (hv : GE X W e m) {tpos : Pos} : GS X W (.AugAssign (.Attribute a f tpos) op e pos) (mFldAug Cs f ma g m) :=
  ps_mono (ps_fldaug ha hv ho) fun T σ H ⟨ρ, σh, h, rr, s, p⟩ => ⟨ρ, σh, h, rr, s, PostS.of_on p rr s fun o h1 ρ1 x H1 e1 r1 z1 p1 => by
    have s1 := s.mono rr e1
    cases q : insD Cs h1 o with
    | none => rw [q] at p1; exact p1.elim
    | some t =>
      obtain ⟨i, C, fs⟩ := t
      rw [q] at p1
      simp only at p1
      obtain ⟨ad, dx, vs, rfl, rfl, qa, _, hc, hv, zs⟩ := insD_ok r1 z1 q
      cases q2 : fs.lookup f with
      | none => rw [q2] at p1; exact p1.elim
      | some w =>
        rw [q2] at p1
        simp only at p1
        obtain ⟨u, eu, zu⟩ := (FDs.look zs f).1 w q2
        refine ⟨ad, C, dx, vs, u, rfl, hv, (hC C hc).1, (hC C hc).2, eu, ρ1, σh, h1, r1, s1, PostS.of_on p1 r1 s1 fun y h2 ρ2 v2 H2 e2 r2 z2 p2 => ?_⟩
        have s2 := s1.mono r1 e2
        refine hf ρ2 h2 H2 w y u v2 (fun c d H' => W c d σ H') _ r2 (zu.mono r1 e2) z2 (PostS.of_on p2 r2 s2 fun d3 h3 ρ3 v3 H3 e3 r3 z3 p3 => ?_)
        have s3 := s2.mono r2 e3
        cases q3 : insD [C] h3 (.ref i) with
        | none => rw [q3] at p3; exact p3.elim
        | some t =>
          obtain ⟨j, C', fs'⟩ := t
          rw [q3] at p3
          simp only at p3
          obtain ⟨ad', dx', vs', ea, ei, qa', _, hc', hv', zs'⟩ := insD_ok r3 ((z1.mono r1 e2).mono r2 e3) q3
          cases ea
          cases ei
          have ec : C' = C := by simpa using hc'
          subst ec
          by_cases hl : fs'.length < 1000
          · rw [if_pos hl] at p3
            have ex := Ext.wrote (H := H3) (o := .ins C' dx' (putF f v3 vs')) qa' hv'
            exact ⟨dx', vs', hv', by rw [← KDs.length zs']; exact hl, p3 ρ3 σ _ ex (r3.wrote qa' hv' rfl ⟨dx', _, upd_same, KDs.mono r3 ex (FDs.put zs' f z3)⟩) (s3.mono r3 ex)⟩
          · rw [if_neg hl] at p3; exact p3.elim⟩
end
end FL

set_option Elab.async false
set_option linter.all false
set_option maxRecDepth 100000
/-! FL, part d: slices, loops, comprehensions, calls. -/
namespace FL
open PySem PySem.Spec PyProof.Rows L2

/-! ### slices -/
abbrev FO := Sl → HS → R (Option Int)
def lO (K : PySem.W.Frag) (W : WX) (m : FO) : TO := fun σ H Q => ∃ ρ σh h, Rep K ρ h H ∧ RepS K ρ H σh σ ∧ Post K ρ H bEq (fun c d H' => W c d σ H') Q (m σh h)
def GO (X : Cx) (W : WX) (e : Option Expr) (m : FO) : Prop := PO X e (lO X.K W m)
theorem po_mono {X : Cx} {e : Option Expr} {t t' : TO} (p : PO X e t) (k : ∀ σ H Q, t' σ H Q → t σ H Q) : PO X e t' := ⟨fun pins s σ H Q I q => p.run pins s σ H Q I (k σ H Q q)⟩
def mNoPart : FO := fun _ h => .ok none h
def mPart (m : FE) : FO := fun σ h => (m σ h).bind fun d h1 => match d with
  | .int i => .ok (some i) h1
  | _ => .bad
section
variable {X : Cx} {W : WX} {pos p2 : Pos} {e a b : Expr} {lo hi : Option Expr} {m ma mb : FE} {ml mh : FO}
theorem go_none : GO X W none mNoPart := po_mono po_none fun σ H Q ⟨ρ, σh, h, r, s, p⟩ => p.use r rfl
theorem go_some (he : GE X W e m) : GO X W (some e) (mPart m) := po_mono (po_some he) fun σ H Q ⟨ρ, σh, h, r, s, p⟩ => ⟨ρ, σh, h, r, s, Post.of_bind p fun d h1 ρ1 v H1 e1 r1 z1 p1 => by
  cases z1 <;> first | exact p1.elim | exact ⟨_, rfl, p1.use r1 rfl⟩⟩
def cutD (xs : List D) (lo hi : Option Int) : List D := (xs.drop (HT.sIx xs.length 0 lo)).take (HT.sIx xs.length xs.length hi - HT.sIx xs.length 0 lo)
def dSl (x : D) (lo hi : Option Int) (h : HS) : R D := match x with
  | .tup ds => .ok (.tup (cutD ds lo hi)) h
  | .cst ds => .ok (.ref h.length) (h ++ [.lst (cutD ds lo hi)])
  | .str z => if z.length ≤ sizeLine then .ok (.str (cutS z lo hi)) h else .bad
  | .ref i => match h[i]? with
    | some (.lst ds) => .ok (.ref h.length) (h ++ [.lst (cutD ds lo hi)])
    | _ => .bad
  | _ => .bad
def rSl3 (K : PySem.W.Frag) : V → Option Int → Option Int → Hp → VK → Prop := fun x lo hi H Q => rSlL K x lo hi H Q ∨ (rSlS x lo hi H Q ∨ rSlA K x lo hi H Q)
theorem o_sl {X : Cx} : SlR X (rSl3 X.K) := SlR.or sl_list (SlR.or sl_str sl_tupA)
theorem DVs.cut {K : PySem.W.Frag} {ρ : List Addr} {H : Hp} {ds : List D} {vs : List V} (z : DVs K ρ H ds vs) (lo hi : Option Int) : DVs K ρ H (cutD ds lo hi) (cutV vs lo hi) := by
  unfold cutD cutV
  rw [← z.length]
  exact (z.drop _).take _
theorem s_sl {K : PySem.W.Frag} {ρ : List Addr} {h : HS} {H : Hp} {d : D} {v : V} {lo hi : Option Int} {W : XK} {Q : VK} (r : Rep K ρ h H) (z : DV K ρ H d v) (p : Post K ρ H (DV K) W Q (dSl d lo hi h)) : rSl3 K v lo hi H Q := by
  cases z with
  | tup q zs =>
    rename_i a vs ds
    refine .inr (.inr ⟨_, vs, rfl, q, fun e => ?_, fun e => post_tup r (zs.cut lo hi) p⟩)
    have ec : cutD ds lo hi = ds := by
      unfold cutD
      rw [zs.length, e.1, e.2]
      simp [← zs.length]
    have p' : Post K ρ H (DV K) W Q (.ok (.tup ds) h) := by
      rw [← ec]; exact p
    exact p'.use r (.tup q zs)
  | cst q zs => exact .inl ⟨_, _, rfl, q.sq, post_lst r (zs.cut lo hi) p⟩
  | str z =>
    by_cases c : z.length ≤ sizeLine
    · simp only [dSl, if_pos c] at p
      exact .inr (.inl ⟨z, rfl, c, p.use r (.str _)⟩)
    · simp only [dSl, if_neg c] at p; exact p.elim
  | ref q =>
    rename_i i a
    cases q1 : h[i]? with
    | none => simp only [dSl, q1] at p; exact p.elim
    | some o =>
      obtain ⟨a', ea, z⟩ := r.look q1
      rw [q] at ea; cases ea
      cases o with
      | lst ds =>
        simp only [dSl, q1] at p
        obtain ⟨vs, hv, zs⟩ := z
        exact .inl ⟨_, _, rfl, SqL.of hv, post_lst r (zs.cut lo hi) p⟩
      | _ => simp only [dSl, q1] at p; exact p.elim
  | _ => exact p.elim
def mSl (m : FE) (ml mh : FO) : FE := fun σ h => (m σ h).bind fun x h1 => (ml σ h1).bind fun l h2 => (mh σ h2).bind fun u h3 => dSl x l u h3
theorem g_slice (he : GE X W e m) (hl : GO X W lo ml) (hu : GO X W hi mh) : GE X W (.Subscript e (.Slice lo hi none p2) pos) (mSl m ml mh) :=
  pe_mono (pe_slice o_sl he hl hu) fun σ H Q ⟨ρ, σh, h, r, s, p⟩ => ⟨ρ, σh, h, r, s, Post.of_bind p fun x h1 ρ1 v H1 e1 r1 z1 p1 =>
    ⟨ρ1, σh, h1, r1, s.mono r e1, Post.of_bind p1 fun l h2 ρ2 l' H2 e2 r2 z2 p2 =>
      ⟨ρ2, σh, h2, r2, (s.mono r e1).mono r1 e2, Post.of_bind p2 fun u h3 ρ3 u' H3 e3 r3 z3 p3 => by
        cases z2
        cases z3
        exact s_sl r3 ((z1.mono r1 e2).mono r2 e3) p3⟩⟩⟩
end

/-! ### what a loop walks -/
structure ItD where
  n : Nat
  get : Nat → HS → Option D
  fin : HS → Bool
abbrev FI := Sl → HS → R ItD
def ItRel (K : PySem.W.Frag) (ρ0 : List Addr) (H0 : Hp) (Jh : ItD) (J : It) : Prop := ∀ (ρ : List Addr) (h : HS) (H : Hp), Rep K ρ h H → Ext ρ0 H0 ρ H →
  (∀ j d, j < Jh.n → Jh.get j h = some d → J.go j H ∧ ∀ x H', J.yld j H x H' → Ext ρ H ρ H' ∧ Rep K ρ h H' ∧ DV K ρ H' d x) ∧ (Jh.fin h = true → J.stop Jh.n H)
def lI (K : PySem.W.Frag) (W : WX) (m : FI) : TI := fun σ H Q => ∃ ρ σh h, Rep K ρ h H ∧ RepS K ρ H σh σ ∧ Post K ρ H (ItRel K) (fun c d H' => W c d σ H') Q (m σh h)
def GI (X : Cx) (W : WX) (tg e : Expr) (m : FI) : Prop := PI X tg e (lI X.K W m)

/-- a list, a tuple, a text -/
def iAny (K : PySem.W.Frag) (t : TE) : TI := fun σ H Q => t σ H fun x H1 => (∃ a, x = .ref a ∧ (∃ xs, SqL K H1 a xs) ∧ Q (Itl K a) H1) ∨ (∃ a, x = .ref a ∧ (∃ xs, SqT K H1 a xs) ∧ Q (Itt K a) H1) ∨ (∃ z, x = .str z ∧ Q (Its z) H1)
section
variable {X : Cx} {W : WX} {tg e : Expr} {t : TE} {m : FE}
theorem pi_any (he : PE X e t) : PI X tg e (iAny X.K t) := by
  refine ⟨fun pins s σ H R I h => ?_⟩
  refine thn (he.run pins s σ H _ I h) fun v s1 ⟨x, H1, I1, r1, q1⟩ => ?_
  rcases q1 with ⟨a, e, ⟨xs, hq⟩, q⟩ | ⟨a, e, ⟨xs, hq⟩, q⟩ | ⟨z, e, q⟩
  · subst e
    cases r1
    obtain ⟨its, rv, p, hz⟩ := I1.list hq
    refine wpAny_pyIter_list p.isList ?_
    refine ⟨s1.heap.objs.size, [s1.heap.objs.size], _, _, H1, rfl, I1.kept (t' := s1.toks) fun b o e => Heap.get?_push_of_some _ e, turn_list a _, ⟨_, Heap.get?_push_size _ rfl, rfl, rfl⟩, fun b hb => ?_, q⟩
    have e : b = s1.heap.objs.size := by simpa using hb
    subst e
    exact I1.fpOk (Nat.le_refl _) (I1.hok.fresh (Nat.le_refl _))
  · subst e
    cases r1
    obtain ⟨its, rv, p, hz⟩ := I1.tuple hq
    refine wpAny_pyIter_tuple (show s1.heap.IsTuple a its.toArray from p) ?_
    refine ⟨s1.heap.objs.size, [s1.heap.objs.size], _, _, H1, rfl, I1.kept (t' := s1.toks) fun b o e => Heap.get?_push_of_some _ e, turn_tuple a _, ⟨_, Heap.get?_push_size _ rfl, rfl, rfl⟩, fun b hb => ?_, q⟩
    have e : b = s1.heap.objs.size := by simpa using hb
    subst e
    exact I1.fpOk (Nat.le_refl _) (I1.hok.fresh (Nat.le_refl _))
  · subst e
    obtain ⟨t, rfl⟩ := r1
    cases ha : z.cps.all (· < 128)
    · exact wpAny_pyIter_wide ha (pi_one (tk := s1.toks) I1 _ (turn_str _ z t "str_iterator" (.inr rfl)) ⟨_, Heap.get?_push_size _ rfl, rfl, rfl⟩ q)
    · exact wpAny_pyIter_ascii ha (pi_one (tk := s1.toks) I1 _ (turn_str _ z t "str_ascii_iterator" (.inl rfl)) ⟨_, Heap.get?_push_size _ rfl, rfl, rfl⟩ q)
def lstAt (h : HS) (i : Nat) : Option (List D) := match h[i]? with
  | some (.lst ds) => some ds
  | _ => none
theorem lstAt_ok {K : PySem.W.Frag} {ρ : List Addr} {h : HS} {H : Hp} (r : Rep K ρ h H) {i : Nat} {a : Addr} {ds : List D} (q : ρ[i]? = some a) (e : lstAt h i = some ds) : ∃ vs, H a = some (.lst vs) ∧ DVs K ρ H ds vs := by
  unfold lstAt at e
  cases q1 : h[i]? with
  | none => rw [q1] at e; cases e
  | some o =>
    obtain ⟨a', ea, z⟩ := r.look q1
    rw [q] at ea; cases ea
    rw [q1] at e
    cases o with
    | lst ds => cases e; exact z
    | _ => cases e
theorem SqL.one {K : PySem.W.Frag} {H : Hp} {a : Addr} {vs ws : List V} (h : H a = some (.lst vs)) (s : ∀ xs, SqL K H a xs → xs[0]? = ws[0]?) : True := trivial
def itSeq (d : D) (h : HS) : R ItD := match d with
  | .tup ds => .ok ⟨ds.length, fun j _ => ds[j]?, fun _ => true⟩ h
  | .cst ds => .ok ⟨ds.length, fun j _ => ds[j]?, fun _ => true⟩ h
  | .str z => .ok ⟨z.cps.size, fun j _ => (z.cps[j]?).map fun c => .str ⟨#[c]⟩, fun _ => true⟩ h
  | .ref i => match lstAt h i with
    | some ds => .ok ⟨ds.length, fun j h' => (lstAt h' i).bind fun ds' => ds'[j]?, fun h' => (lstAt h' i).any fun ds' => ds'.length ≤ ds.length⟩ h
    | none => .bad
  | _ => .bad
def mSeqI (m : FE) : FI := fun σ h => (m σ h).bind itSeq
theorem gi_seq (he : GE X W e m) : GI X W tg e (mSeqI m) := pi_mono (pi_any he) fun σ H Q ⟨ρ, σh, h, r, s, p⟩ => ⟨ρ, σh, h, r, s, Post.of_bind p fun d h1 ρ1 v H1 e1 r1 z1 p1 => by
  cases z1 with
  | tup q zs =>
    rename_i a vs ds
    refine .inr (.inl ⟨_, rfl, ⟨vs, q⟩, p1.use r1 fun ρ h H r e => ?_⟩)
    have q' := sqT_kp (.of r1 e) q
    have zs' := zs.mono r1 e
    refine ⟨fun j d hj hd => ?_, fun _ => ⟨vs, q', by rw [zs.length]; exact Nat.le_refl _⟩⟩
    obtain ⟨v, ev, zv⟩ := zs'.get hd
    exact ⟨⟨vs, v, q', ev⟩, fun x H' ⟨eH, hx⟩ => by
      subst eH
      have := hx vs q'
      rw [ev] at this; cases this
      exact ⟨.refl, r, zv⟩⟩
  | cst q zs =>
    rename_i a vs ds
    refine .inl ⟨_, rfl, ⟨vs, q.sq⟩, p1.use r1 fun ρ h H r e => ?_⟩
    have q' := (csL_kp (.of r1 e) q).sq
    have zs' := zs.mono r1 e
    refine ⟨fun j d hj hd => ?_, fun _ => ⟨vs, q', by rw [zs.length]; exact Nat.le_refl _⟩⟩
    obtain ⟨v, ev, zv⟩ := zs'.get hd
    exact ⟨⟨vs, v, q', ev⟩, fun x H' ⟨eH, hx⟩ => by
      subst eH
      have := hx vs q'
      rw [ev] at this; cases this
      exact ⟨.refl, r, zv⟩⟩
  | str z =>
    refine .inr (.inr ⟨z, rfl, p1.use r1 fun ρ h H r e => ⟨fun j d hj hd => ⟨hj, fun x H' ⟨eH, c, ec, ex⟩ => ?_⟩, fun _ => Nat.le_refl _⟩⟩)
    subst eH
    simp only [ec, Option.map_some, Option.some.injEq] at hd
    subst hd
    subst ex
    exact ⟨.refl, r, .str _⟩
  | ref q =>
    rename_i i a
    unfold itSeq at p1
    simp only at p1
    cases q1 : lstAt h1 i with
    | none => rw [q1] at p1; exact p1.elim
    | some ds =>
      rw [q1] at p1
      obtain ⟨vs, hv, zs⟩ := lstAt_ok r1 q q1
      refine .inl ⟨_, rfl, ⟨vs, SqL.of hv⟩, p1.use r1 fun ρ h H r e => ?_⟩
      have q' := e.ix q
      refine ⟨fun j d hj hd => ?_, fun hf => ?_⟩
      · obtain ⟨ds', e2, e3⟩ := Option.bind_eq_some_iff.mp hd
        obtain ⟨vs', hv', zs'⟩ := lstAt_ok r q' e2
        obtain ⟨v, ev, zv⟩ := zs'.get e3
        exact ⟨⟨vs', v, SqL.of hv', ev⟩, fun x H' ⟨eH, hx⟩ => by
          subst eH
          have := hx vs' (SqL.of hv')
          rw [ev] at this; cases this
          exact ⟨.refl, r, zv⟩⟩
      · cases q2 : lstAt h i with
        | none => simp [q2] at hf
        | some ds' =>
          obtain ⟨vs', hv', zs'⟩ := lstAt_ok r q' q2
          simp [q2] at hf
          exact ⟨vs', SqL.of hv', by rw [← zs'.length]; exact hf⟩
  | _ => exact p1.elim⟩
/-- range -/
def itRange (lo : Int) (n : Nat) : ItD := ⟨n, fun j _ => some (.int (lo + j)), fun _ => true⟩
theorem itRange_rel {K : PySem.W.Frag} {ρ0 : List Addr} {H0 : Hp} {lo : Int} {n : Nat} : ItRel K ρ0 H0 (itRange lo n) (Itr lo n) := fun ρ h H r e =>
  ⟨fun j d hj hd => ⟨hj, fun x H' ⟨eH, ex⟩ => by subst eH; subst ex; cases hd; exact ⟨.refl, r, .int _⟩⟩, fun _ => Nat.le_refl _⟩
def mRange1 (ma : FA) : FI := fun σ h => (ma σ h).bind fun ds h1 => match ds with
  | [.int j] => if -(2 ^ 62) ≤ j ∧ j < 2 ^ 62 then .ok (itRange 0 j.toNat) h1 else .bad
  | _ => .bad
def mRange2 (ma : FA) : FI := fun σ h => (ma σ h).bind fun ds h1 => match ds with
  | [.int i, .int j] => if -(2 ^ 62) ≤ i ∧ i < 2 ^ 62 ∧ -(2 ^ 62) ≤ j ∧ j < 2 ^ 62 then .ok (itRange i (j - i).toNat) h1 else .bad
  | _ => .bad
theorem DVs.one {K : PySem.W.Frag} {ρ : List Addr} {H : Hp} {d : D} {vs : List V} (z : DVs K ρ H [d] vs) : ∃ v, vs = [v] ∧ DV K ρ H d v := by
  cases z with
  | cons a b => cases b; exact ⟨_, rfl, a⟩
theorem DVs.two {K : PySem.W.Frag} {ρ : List Addr} {H : Hp} {d e : D} {vs : List V} (z : DVs K ρ H [d, e] vs) : ∃ v w, vs = [v, w] ∧ DV K ρ H d v ∧ DV K ρ H e w := by
  cases z with
  | cons a b => obtain ⟨w, rfl, c⟩ := b.one; exact ⟨_, _, rfl, a, c⟩
variable {a b : Expr} {ma : FA} {p pos : Pos}
theorem gi_range1 (hm : X.mg "range" = none) (ha : GA X W [a] ma) (hg : Gl X "range" := by rfl) (hs : starEach [a] X.env = [(false, eval a X.env)] := by rfl) : GI X W tg (.Call (.Name "range" p) [a] [] pos) (mRange1 ma) :=
  pi_mono (pi_range1 hg hm ha hs) fun σ H Q ⟨ρ, σh, h, r, s, p⟩ => ⟨ρ, σh, h, r, s, Post.of_bind p fun ds h1 ρ1 vs H1 e1 r1 z1 p1 => by
    match ds, z1, p1 with
    | [.int j], z1, p1 =>
      obtain ⟨v, rfl, z⟩ := z1.one
      cases z
      simp only at p1
      by_cases c : -(2 ^ 62) ≤ j ∧ j < 2 ^ 62
      · rw [if_pos c] at p1
        exact ⟨j, rfl, c.1, c.2, p1.use r1 itRange_rel⟩
      · rw [if_neg c] at p1; exact p1.elim⟩
theorem gi_range2 (hm : X.mg "range" = none) (ha : GA X W [a, b] ma) (hg : Gl X "range" := by rfl) (hs : starEach [a, b] X.env = [(false, eval a X.env), (false, eval b X.env)] := by rfl) (hs2 : starEach [b] X.env = [(false, eval b X.env)] := by rfl) :
    GI X W tg (.Call (.Name "range" p) [a, b] [] pos) (mRange2 ma) :=
  pi_mono (pi_range2 hg hm ha hs hs2) fun σ H Q ⟨ρ, σh, h, r, s, p⟩ => ⟨ρ, σh, h, r, s, Post.of_bind p fun ds h1 ρ1 vs H1 e1 r1 z1 p1 => by
    match ds, z1, p1 with
    | [.int i, .int j], z1, p1 =>
      obtain ⟨v, w, rfl, za, zb⟩ := z1.two
      cases za
      cases zb
      simp only at p1
      by_cases c : -(2 ^ 62) ≤ i ∧ i < 2 ^ 62 ∧ -(2 ^ 62) ≤ j ∧ j < 2 ^ 62
      · rw [if_pos c] at p1
        exact ⟨i, j, rfl, c, p1.use r1 itRange_rel⟩
      · rw [if_neg c] at p1; exact p1.elim⟩
/-- the values of a dict that is locked -/
def fdAt (h : HS) (i : Nat) : Option (List (Key × D)) := match h[i]? with
  | some (.fdK ds) => some ds
  | _ => none
theorem fdAt_ok {K : PySem.W.Frag} {ρ : List Addr} {h : HS} {H : Hp} (r : Rep K ρ h H) {i : Nat} {a : Addr} {ds : List (Key × D)} (q : ρ[i]? = some a) (e : fdAt h i = some ds) : ∃ o vs, H a = some (.frz o (.dK vs)) ∧ KDs Key K ρ H ds vs := by
  unfold fdAt at e
  cases q1 : h[i]? with
  | none => rw [q1] at e; cases e
  | some o =>
    obtain ⟨a', ea, z⟩ := r.look q1
    rw [q] at ea; cases ea
    rw [q1] at e
    cases o with
    | fdK ds => cases e; exact z
    | _ => cases e
theorem KDs.getI {κ : Type} {K : PySem.W.Frag} {ρ : List Addr} {H : Hp} {ks : List (κ × D)} {vs : List (κ × V)} (q : KDs κ K ρ H ks vs) {i : Nat} {k : κ} {d : D} (e : ks[i]? = some (k, d)) : ∃ v, vs[i]? = some (k, v) ∧ DV K ρ H d v := by
  unfold KDs at q
  induction q generalizing i with
  | nil => simp at e
  | @cons p q ps qs z _ ih =>
    cases i with
    | zero =>
      simp at e
      subst e
      obtain ⟨g, v⟩ := q
      obtain ⟨e1, z⟩ := z
      have e1 : k = g := e1
      subst e1
      exact ⟨v, by simp, z⟩
    | succ i =>
      obtain ⟨v, e1, z⟩ := ih (i := i) (by simpa using e)
      exact ⟨v, by simpa using e1, z⟩
def itVals (d : D) (h : HS) : R ItD := match d with
  | .ref i => match fdAt h i with
    | some ds => .ok ⟨ds.length, fun j _ => (ds[j]?).map (·.2), fun _ => true⟩ h
    | none => .bad
  | _ => .bad
def dKey : Key → D
  | .inl i => .int i
  | .inr x => .str x
theorem dKey_rel {K : PySem.W.Frag} {ρ : List Addr} {H : Hp} (k : Key) : DV K ρ H (dKey k) (kV k) := by
  cases k
  · exact .int _
  · exact .str _
def itKeys (d : D) (h : HS) : R ItD := match d with
  | .ref i => match fdAt h i with
    | some ds => .ok ⟨ds.length, fun j _ => (ds[j]?).map fun kv => dKey kv.1, fun _ => true⟩ h
    | none => .bad
  | _ => .bad
theorem itVals_ok {K : PySem.W.Frag} {ρ : List Addr} {h : HS} {H : Hp} {d : D} {x : V} {W : XK} {Q : It → Hp → Prop} (r : Rep K ρ h H) (z : DV K ρ H d x) (p : Post K ρ H (ItRel K) W Q (itVals d h)) : ∃ a o kvs, x = .ref a ∧ H a = some (.frz o (.dK kvs)) ∧ Q (Itd a o kvs) H := by
  cases z <;> first | exact p.elim | skip
  rename_i i a q
  unfold itVals at p
  simp only at p
  cases q1 : fdAt h i with
  | none => rw [q1] at p; exact p.elim
  | some ds =>
    rw [q1] at p
    obtain ⟨o, vs, hv, zs⟩ := fdAt_ok r q q1
    refine ⟨a, o, vs, rfl, hv, p.use r fun ρ' h' H' r' e => ?_⟩
    have hv' := e.frz _ _ _ hv
    have zs' := KDs.mono r e zs
    refine ⟨fun j d hj hd => ⟨⟨hv', by rw [← KDs.length zs]; exact hj⟩, fun x H2 ⟨eH, k, ek⟩ => ?_⟩, fun _ => ⟨hv', by rw [← KDs.length zs]; exact Nat.le_refl _⟩⟩
    subst eH
    obtain ⟨⟨k', d'⟩, e1, e2⟩ := Option.map_eq_some_iff.mp hd
    simp only at e2
    subst e2
    obtain ⟨v, ev, zv⟩ := zs'.getI e1
    rw [ek] at ev
    cases ev
    exact ⟨.refl, r', zv⟩
theorem itKeys_ok {K : PySem.W.Frag} {ρ : List Addr} {h : HS} {H : Hp} {d : D} {x : V} {W : XK} {Q : It → Hp → Prop} (r : Rep K ρ h H) (z : DV K ρ H d x) (p : Post K ρ H (ItRel K) W Q (itKeys d h)) : ∃ a o kvs, x = .ref a ∧ H a = some (.frz o (.dK kvs)) ∧ Q (Itk a o kvs) H := by
  cases z <;> first | exact p.elim | skip
  rename_i i a q
  unfold itKeys at p
  simp only at p
  cases q1 : fdAt h i with
  | none => rw [q1] at p; exact p.elim
  | some ds =>
    rw [q1] at p
    obtain ⟨o, vs, hv, zs⟩ := fdAt_ok r q q1
    refine ⟨a, o, vs, rfl, hv, p.use r fun ρ' h' H' r' e => ?_⟩
    have hv' := e.frz _ _ _ hv
    have zs' := KDs.mono r e zs
    refine ⟨fun j d hj hd => ⟨⟨hv', by rw [← KDs.length zs]; exact hj⟩, fun x H2 ⟨eH, k, v, ek, ex⟩ => ?_⟩, fun _ => ⟨hv', by rw [← KDs.length zs]; exact Nat.le_refl _⟩⟩
    subst eH
    subst ex
    obtain ⟨⟨k', d'⟩, e1, e2⟩ := Option.map_eq_some_iff.mp hd
    simp only at e2
    subst e2
    obtain ⟨v', ev, zv⟩ := zs'.getI e1
    rw [ek] at ev
    cases ev
    exact ⟨.refl, r', dKey_rel _⟩
def mValsI (m : FE) : FI := fun σ h => (m σ h).bind itVals
def mKeysI (m : FE) : FI := fun σ h => (m σ h).bind itKeys
theorem gi_vals {apos : Pos} (he : GE X W e m) (hbase : attributeBase e "values" X.env (eval e X.env) = eval e X.env := by rfl) (hline : (apos.endLine == pos.line) = true := by rfl) : GI X W tg (.Call (.Attribute e "values" apos) [] [] pos) (mValsI m) :=
  pi_mono (pi_values he hbase hline) fun σ H Q ⟨ρ, σh, h, r, s, p⟩ => ⟨ρ, σh, h, r, s, Post.of_bind p fun d h1 ρ1 v H1 e1 r1 z1 p1 => itVals_ok r1 z1 p1⟩
theorem gi_keys (he : GE X W e m) : GI X W tg e (mKeysI m) :=
  pi_mono (pi_keys he) fun σ H Q ⟨ρ, σh, h, r, s, p⟩ => ⟨ρ, σh, h, r, s, Post.of_bind p fun d h1 ρ1 v H1 e1 r1 z1 p1 => by
    obtain ⟨a, o, kvs, e, hv, q⟩ := itKeys_ok r1 z1 p1
    exact ⟨a, o, e, .inl ⟨kvs, hv, q⟩⟩⟩
end

/-! ### for -/
def forL (g : FG) (body : FS) (J : ItD) : Nat → Nat → Sl → HS → RS
  | 0, _, σ, h => if J.fin h = true then .nx σ h else .bad
  | n + 1, j, σ, h => match J.get j h with
    | none => .bad
    | some d => (g d σ h).on σ fun σ1 h1 => match body σ1 h1 with
      | .nx σ2 h2 => forL g body J n (j + 1) σ2 h2
      | .ct σ2 h2 => forL g body J n (j + 1) σ2 h2
      | .bk σ2 h2 => .nx σ2 h2
      | r => r
def mFor (it : FI) (g : FG) (body : FS) : FS := fun σ h => (it σ h).on σ fun J h1 => forL g body J J.n 0 σ h1
section
variable {X : Cx} {W : WX} {pos : Pos} {tg iter c : Expr} {body : List Stmt} {it : FI} {g : FG} {mb : FS} {tc : FT}
theorem g_for {k : Nat} (C : CK X W k) (hi : GI X W tg iter it) (hg : GG X W tg g) (hb : GSs X W body mb) (hs : ∀ x, foldedSetIterable iter X.env x = pure x := by intro _; rfl) : GS X W (.For tg iter body [] pos) (mFor it g mb) :=
  ps_mono (ps_for C.po C.calm hi hg hb hs) fun T σ H ⟨ρ, σh, h, r, s, p⟩ => ⟨ρ, σh, h, r, s, PostS.of_on p r s fun J h1 ρ1 Ji H1 e1 r1 z1 p1 => by
    refine ⟨fun i m σ H => ∃ ρ σh h, Rep X.K ρ h H ∧ RepS X.K ρ H σh σ ∧ Ext ρ1 H1 ρ H ∧ i + m = J.n ∧ PostS X.K ρ H W T (forL g mb J m i σh h), ⟨J.n, ρ1, σh, h1, r1, s.mono r e1, .refl, by omega, p1⟩, ?_⟩
    rintro i m σ2 H2 ⟨ρ2, σh2, h2, r2, s2, e2, hm, p2⟩
    obtain ⟨z3, z4⟩ := z1 ρ2 h2 H2 r2 e2
    cases m with
    | zero =>
      unfold forL at p2
      by_cases hf : J.fin h2 = true
      · rw [if_pos hf] at p2
        have ei : i = J.n := by omega
        subst ei
        exact .inl ⟨z4 hf, p2.useN r2 s2⟩
      · rw [if_neg hf] at p2; exact p2.elim
    | succ m =>
      unfold forL at p2
      cases q : J.get i h2 with
      | none => rw [q] at p2; exact p2.elim
      | some d =>
        rw [q] at p2
        simp only at p2
        obtain ⟨hgo, hy⟩ := z3 i d (by omega) q
        refine .inr ⟨hgo, fun σ' H' => ∃ ρ σh h, Rep X.K ρ h H' ∧ RepS X.K ρ H' σh σ' ∧ Ext ρ1 H1 ρ H' ∧ i + 1 + m = J.n ∧ PostS X.K ρ H' W T (forL g mb J m (i + 1) σh h), fun σ' H' q => ⟨m, by omega, q⟩, fun x H3 hyl => ?_⟩
        obtain ⟨e3, r3, zd⟩ := hy x H3 hyl
        refine ⟨ρ2, σh2, h2, d, r3, s2.mono r2 e3, zd, PostS.of_on (PostS.ext e3 p2) r3 (s2.mono r2 e3) fun σ4 h4 ρ4 σ5 H4 e4 r4 s4 p4 => ?_⟩
        have e14 := (e2.trans e3 r3.nd).trans e4 r4.nd
        refine ⟨ρ4, σ4, h4, r4, s4, ?_⟩
        cases q5 : mb σ4 h4 with
        | bad => rw [q5] at p4; exact p4
        | nx σ6 h6 => rw [q5] at p4; exact fun ρ' σ' H' e r z => ⟨ρ', σ6, h6, r, z, e14.trans e r.nd, by omega, PostS.ext e p4⟩
        | ct σ6 h6 => rw [q5] at p4; exact fun ρ' σ' H' e r z => ⟨ρ', σ6, h6, r, z, e14.trans e r.nd, by omega, PostS.ext e p4⟩
        | bk σ6 h6 => rw [q5] at p4; exact p4
        | rt d h6 => rw [q5] at p4; exact p4
        | ex x σ6 h6 => rw [q5] at p4; exact p4⟩

/-! ### while -/
def whileF (c : FT) (b : FS) : Nat → Sl → HS → RS
  | 0, _, _ => .bad
  | n + 1, σ, h => (c σ h).on σ fun t h1 => if t = true then match b σ h1 with
      | .nx σ2 h2 => whileF c b n σ2 h2
      | .ct σ2 h2 => whileF c b n σ2 h2
      | .bk σ2 h2 => .nx σ2 h2
      | r => r
    else .nx σ h1
theorem whileF_up (c : FT) (b : FS) : ∀ (n : Nat) (σ : Sl) (h : HS), whileF c b n σ h ≠ .bad → whileF c b (n + 1) σ h = whileF c b n σ h
  | 0, _, _, hb => absurd rfl hb
  | n + 1, σ, h, hb => by
    unfold whileF at hb ⊢
    cases q : c σ h with
    | bad => rfl
    | ex => rfl
    | ok t h1 =>
      rw [q] at hb
      simp only [R.on] at hb ⊢
      cases t with
      | false => rfl
      | true =>
        simp only [if_true] at hb ⊢
        cases q2 : b σ h1 with
        | nx σ2 h2 => rw [q2] at hb; exact whileF_up c b n σ2 h2 hb
        | ct σ2 h2 => rw [q2] at hb; exact whileF_up c b n σ2 h2 hb
        | _ => rfl
theorem whileF_ge (c : FT) (b : FS) {n m : Nat} (hnm : n ≤ m) (σ : Sl) (h : HS) (hb : whileF c b n σ h ≠ .bad) : whileF c b m σ h = whileF c b n σ h := by
  induction hnm with
  | refl => rfl
  | step _ ih => rw [whileF_up c b _ σ h (by rw [ih]; exact hb), ih]
open Classical in
noncomputable def mWhile (c : FT) (b : FS) : FS := fun σ h => if H : ∃ n, whileF c b n σ h ≠ .bad then whileF c b (Classical.choose H) σ h else .bad
theorem mWhile_of {c : FT} {b : FS} {n : Nat} {σ : Sl} {h : HS} (hb : whileF c b n σ h ≠ .bad) : mWhile c b σ h = whileF c b n σ h := by
  have H : ∃ n, whileF c b n σ h ≠ .bad := ⟨n, hb⟩
  unfold mWhile
  rw [dif_pos H]
  have h2 := Classical.choose_spec H
  rcases Nat.le_total n (Classical.choose H) with l | l
  · exact whileF_ge c b l σ h hb
  · exact (whileF_ge c b l σ h h2).symm
theorem mWhile_bad {c : FT} {b : FS} {σ : Sl} {h : HS} (hb : mWhile c b σ h ≠ .bad) : ∃ n, whileF c b n σ h = mWhile c b σ h := by
  unfold mWhile at hb ⊢
  split
  · exact ⟨_, rfl⟩
  · rename_i H; rw [dif_neg H] at hb; exact absurd rfl hb
theorem mWhile_eq (c : FT) (b : FS) (σ : Sl) (h : HS) : mWhile c b σ h = (c σ h).on σ fun t h1 => if t = true then match b σ h1 with
      | .nx σ2 h2 => mWhile c b σ2 h2
      | .ct σ2 h2 => mWhile c b σ2 h2
      | .bk σ2 h2 => .nx σ2 h2
      | r => r
    else .nx σ h1 := by
  -- one turn more of the counted loop
  have turn : ∀ n, whileF c b (n + 1) σ h = (c σ h).on σ fun t h1 => if t = true then match b σ h1 with
      | .nx σ2 h2 => whileF c b n σ2 h2
      | .ct σ2 h2 => whileF c b n σ2 h2
      | .bk σ2 h2 => .nx σ2 h2
      | r => r
    else .nx σ h1 := fun n => rfl
  by_cases H : ∃ n, whileF c b n σ h ≠ .bad
  · obtain ⟨n, hn⟩ := H
    rw [mWhile_of hn]
    cases n with
    | zero => exact absurd rfl hn
    | succ n =>
      rw [turn n] at hn ⊢
      cases q : c σ h with
      | bad => rfl
      | ex => rfl
      | ok t h1 =>
        rw [q] at hn
        simp only [R.on] at hn ⊢
        cases t with
        | false => rfl
        | true =>
          simp only [if_true] at hn ⊢
          cases q2 : b σ h1 with
          | nx σ2 h2 => rw [q2] at hn; exact (mWhile_of hn).symm
          | ct σ2 h2 => rw [q2] at hn; exact (mWhile_of hn).symm
          | _ => rfl
  · have hb : mWhile c b σ h = .bad := by unfold mWhile; rw [dif_neg H]
    rw [hb]
    have all : ∀ n, whileF c b n σ h = .bad := fun n => Classical.byContradiction fun z => H ⟨n, z⟩
    cases q : c σ h with
    | bad => rfl
    | ex x h1 =>
      have := all 1
      rw [turn 0, q] at this; cases this
    | ok t h1 =>
      cases t with
      | false =>
        have := all 1
        rw [turn 0, q] at this; cases this
      | true =>
        show RS.bad = match b σ h1 with
          | .nx σ2 h2 => mWhile c b σ2 h2
          | .ct σ2 h2 => mWhile c b σ2 h2
          | .bk σ2 h2 => .nx σ2 h2
          | r => r
        have step : ∀ n, (match b σ h1 with
          | .nx σ2 h2 => whileF c b n σ2 h2
          | .ct σ2 h2 => whileF c b n σ2 h2
          | .bk σ2 h2 => .nx σ2 h2
          | r => r) = RS.bad := fun n => by
          have := all (n + 1)
          rw [turn n, q] at this
          exact this
        cases q2 : b σ h1 with
        | nx σ2 h2 =>
          have : ¬ ∃ n, whileF c b n σ2 h2 ≠ .bad := fun ⟨n, z⟩ => z (by have := step n; rw [q2] at this; exact this)
          show RS.bad = mWhile c b σ2 h2
          unfold mWhile; rw [dif_neg this]
        | ct σ2 h2 =>
          have : ¬ ∃ n, whileF c b n σ2 h2 ≠ .bad := fun ⟨n, z⟩ => z (by have := step n; rw [q2] at this; exact this)
          show RS.bad = mWhile c b σ2 h2
          unfold mWhile; rw [dif_neg this]
        | bad => rfl
        | bk => have := step 0; rw [q2] at this; cases this
        | rt => have := step 0; rw [q2] at this; cases this
        | ex => have := step 0; rw [q2] at this; cases this
theorem g_while {k : Nat} (C : CK X W k) (hc : GT X W c tc) (hb : GSs X W body mb) : GS X W (.While c body [] pos) (mWhile tc mb) :=
  ps_mono (ps_while C.po hc hb) fun T σ H ⟨ρ, σh, h, r, s, p⟩ => by
    have nb : mWhile tc mb σh h ≠ .bad := fun z => by rw [z] at p; exact p
    obtain ⟨n, en⟩ := mWhile_bad nb
    rw [← en] at p
    refine ⟨fun m σ H => ∃ ρ σh h, Rep X.K ρ h H ∧ RepS X.K ρ H σh σ ∧ PostS X.K ρ H W T (whileF tc mb m σh h), ⟨n, ρ, σh, h, r, s, p⟩, ?_⟩
    rintro m σ2 H2 ⟨ρ2, σh2, h2, r2, s2, p2⟩
    cases m with
    | zero => exact p2.elim
    | succ m =>
      refine ⟨ρ2, σh2, h2, r2, s2, PostS.of_on (rel := bEq) p2 r2 s2 fun t h3 ρ3 t' H3 e3 r3 z3 p3 => ?_⟩
      cases z3
      have s3 := s2.mono r2 e3
      cases t with
      | false => exact p3.useN r3 s3
      | true =>
        simp only [if_true] at p3 ⊢
        refine ⟨fun σ' H' => ∃ ρ σh h, Rep X.K ρ h H' ∧ RepS X.K ρ H' σh σ' ∧ PostS X.K ρ H' W T (whileF tc mb m σh h), fun σ' H' q => ⟨m, by omega, q⟩, ρ3, σh2, h3, r3, s3, ?_⟩
        cases q5 : mb σh2 h3 with
        | bad => rw [q5] at p3; exact p3
        | nx σ6 h6 => rw [q5] at p3; exact fun ρ' σ' H' e r z => ⟨ρ', σ6, h6, r, z, PostS.ext e p3⟩
        | ct σ6 h6 => rw [q5] at p3; exact fun ρ' σ' H' e r z => ⟨ρ', σ6, h6, r, z, PostS.ext e p3⟩
        | bk σ6 h6 => rw [q5] at p3; exact p3
        | rt d h6 => rw [q5] at p3; exact p3
        | ex x σ6 h6 => rw [q5] at p3; exact p3
end
end FL

set_option Elab.async false
set_option linter.all false
set_option maxRecDepth 100000
/-! FL, part e: comprehensions, calls, defs. -/
namespace FL
open PySem PySem.Spec PyProof.Rows L2

/-! ### comprehensions -/
inductive Tgt where
  | one (i : Nat) | many (is : List Nat)
def Tgt.m : Tgt → FG
  | .one i => mTo i
  | .many is => mTos is
def Tgt.g (K : PySem.W.Frag) : Tgt → TG
  | .one i => gName i
  | .many is => gTup K is.length (tNames is)
def Tgt.ixs : Tgt → List Nat
  | .one i => [i]
  | .many is => is
theorem wipe_set {i : Nat} {x : Option V} : ∀ {js : List Nat} {σ : L2.St}, i ∈ js → wipe (σ.set i x) js = wipe σ js := by
  intro js
  have comm : ∀ (js : List Nat) (σ : L2.St) (x : Option V) (i : Nat), i ∉ js → wipe (σ.set i x) js = (wipe σ js).set i x := by
    intro js
    induction js with
    | nil => intro σ x i _; rfl
    | cons k js ih2 =>
      intro σ x i hn
      unfold wipe
      rw [ih2 σ x i fun z => hn (List.mem_cons_of_mem _ z)]
      exact List.set_comm _ _ fun e => hn (by rw [e]; exact List.mem_cons_self)
  induction js with
  | nil => intro σ h; cases h
  | cons j js ih =>
    intro σ hi
    unfold wipe
    by_cases hij : i ∈ js
    · rw [ih hij]
    · have : i = j := by
        rcases List.mem_cons.mp hi with z | z
        · exact z
        · exact absurd z hij
      subst this
      rw [comm js _ _ _ hij, List.set_set]
theorem wipe_wipe {σ : L2.St} : ∀ {js ks : List Nat}, (∀ i ∈ ks, i ∈ js) → wipe (wipe σ ks) js = wipe σ js
  | js, [], _ => rfl
  | js, k :: ks, h => by
    show wipe ((wipe σ ks).set k none) js = _
    rw [wipe_set (h k List.mem_cons_self), wipe_wipe fun i hi => h i (List.mem_cons_of_mem _ hi)]
theorem Tgt.ok {K : PySem.W.Frag} {ρ : List Addr} {h : HS} {H : Hp} {t : Tgt} {d : D} {v : V} {σh σh' : Sl} {h' : HS} {σ : L2.St} {js : List Nat} {Q : L2.St → Hp → Prop} (z : DV K ρ H d v) (s : RepS K ρ H σh σ) (e : t.m d σh h = .ok σh' h')
    (hj : ∀ i ∈ t.ixs, i ∈ js) (q : h' = h → ∀ σ', RepS K ρ H σh' σ' → wipe σ' js = wipe σ js → Q σ' H) : t.g K v σ H Q := by
  cases t with
  | one i =>
    cases e
    exact q rfl _ (s.set i z) (wipe_set (hj i (by simp [Tgt.ixs])))
  | many is =>
    cases z with
    | tup q' zs =>
      rename_i a vs ds
      simp only [Tgt.m, mTos] at e
      cases e1 : setAll is ds σh with
      | none => rw [e1] at e; cases e
      | some σ' =>
        rw [e1] at e
        cases e
        exact ⟨_, vs, rfl, q', by rw [setAll_len e1, zs.length], tNames_ok zs s e1 fun σ' s' hw => q rfl σ' s' (hw js hj)⟩
    | _ => cases e
def wipeD (σ : Sl) : List Nat → Sl
  | [] => σ
  | v :: vs => (wipeD σ vs).set v none
theorem wipeD_ok {K : PySem.W.Frag} {ρ : List Addr} {H : Hp} {σh : Sl} {σ : L2.St} (s : RepS K ρ H σh σ) : ∀ vs : List Nat, RepS K ρ H (wipeD σh vs) (wipe σ vs)
  | [] => s
  | v :: vs => by
    have ih := wipeD_ok s vs
    refine ⟨by unfold wipeD wipe; rw [List.length_set, List.length_set]; exact ih.1, fun i d hd => ?_⟩
    unfold wipeD at hd
    unfold wipe
    by_cases e : v = i
    · subst e
      by_cases hl : v < (wipeD σh vs).length
      · rw [List.getElem?_set_self hl] at hd; cases hd
      · rw [List.getElem?_eq_none (by simpa using hl)] at hd; cases hd
    · rw [List.getElem?_set_ne e] at hd ⊢
      exact ih.2 i d hd
def R.nox {α : Type} : R α → R α
  | .ex _ _ => .bad
  | r => r
def lcL (t : Tgt) (tt : FT) (te : FE) (J : ItD) (σ : Sl) : Nat → Nat → List D → HS → R (List D)
  | 0, _, acc, h => if J.fin h = true then .ok acc h else .bad
  | n + 1, j, acc, h => match J.get j h with
    | none => .bad
    | some d => match t.m d σ h with
      | .ok σ1 h1 => match tt σ1 h1 with
        | .ok true h2 => match te σ1 h2 with
          | .ok y h3 => if acc.length < sizeLine then lcL t tt te J σ n (j + 1) (acc ++ [y]) h3 else .bad
          | _ => .bad
        | .ok false h2 => lcL t tt te J σ n (j + 1) acc h2
        | _ => .bad
      | _ => .bad
def mLc (it : FI) (t : Tgt) (tt : FT) (te : FE) (vs : List Nat) : FE := fun σ h => (it σ h).bind fun J h1 => (lcL t tt te J (wipeD σ vs) J.n 0 [] h1).bind fun ds h2 => .ok (.ref h2.length) (h2 ++ [.lst ds])
theorem Kp.off {ρ : List Addr} {H : Hp} {a : Addr} {o : HO} {xs : List V} (e : H a = some (.lst xs)) : Kp ρ H ρ (upd H a o) :=
  .upd1 e (fun _ z => by cases z) (fun _ _ z => by cases z) (fun _ _ z => by cases z)
theorem lcL_nox {t : Tgt} {tt : FT} {te : FE} {J : ItD} {σ : Sl} {x : XV} {h2 : HS} : ∀ (n j : Nat) (acc : List D) (h : HS), lcL t tt te J σ n j acc h ≠ .ex x h2
  | 0, j, acc, h => fun z => by
    unfold lcL at z
    split at z <;> cases z
  | n + 1, j, acc, h => fun z => by
    unfold lcL at z
    cases g1 : J.get j h with
    | none => rw [g1] at z; cases z
    | some d =>
      rw [g1] at z
      simp only at z
      cases g2 : t.m d σ h with
      | bad => rw [g2] at z; cases z
      | ex => rw [g2] at z; cases z
      | ok σ1 h1 =>
        rw [g2] at z
        simp only at z
        cases g3 : tt σ1 h1 with
        | bad => rw [g3] at z; cases z
        | ex => rw [g3] at z; cases z
        | ok b h2 =>
          rw [g3] at z
          cases b with
          | false => exact lcL_nox n _ _ _ z
          | true =>
            simp only at z
            cases g4 : te σ1 h2 with
            | bad => rw [g4] at z; cases z
            | ex => rw [g4] at z; cases z
            | ok y h3 =>
              rw [g4] at z
              simp only at z
              split at z
              · exact lcL_nox n _ _ _ z
              · cases z
theorem lLc {K : PySem.W.Frag} {W : WX} {it : FI} {t : Tgt} {tt : FT} {te : FE} {vs : List Nat} (hvs : ∀ i ∈ t.ixs, i ∈ vs) (σ : L2.St) (H : Hp) (Q : VK) (q : lE K W (mLc it t tt te vs) σ H Q) :
    tLc (lI K W it) (t.g K) (lT K W0 tt) (lE K W0 te) vs σ H Q := by
  obtain ⟨ρ, σh, h, r, s, p⟩ := q
  refine ⟨ρ, σh, h, r, s, Post.of_bind p fun J h1 ρ1 Ji H1 e1 r1 z1 p1 => fun Dn hDn => ?_⟩
  have s1 := wipeD_ok (s.mono r e1) vs
  -- what the rest of the list is to give
  refine ⟨fun i m H => ∃ ρ h acc vacc, Rep K ρ h H ∧ Dn ∉ ρ ∧ H Dn = some (.lst vacc) ∧ DVs K ρ H acc vacc ∧ Ext ρ1 H1 ρ H ∧ RepS K ρ H (wipeD σh vs) (wipe σ vs) ∧ i + m = J.n ∧
      ∃ ds h2, lcL t tt te J (wipeD σh vs) m i acc h = .ok ds h2 ∧ ∀ ρ' v H', Ext ρ1 H1 ρ' H' → Rep K ρ' (h2 ++ [.lst ds]) H' → DV K ρ' H' (.ref h2.length) v → Q v H', ?_, ?_⟩
  · refine ⟨J.n, ρ1, h1, [], [], r1.laid hDn, fun z => ?_, upd_same, .nil, .laid hDn, s1.mono r1 (.laid hDn), by omega, ?_⟩
    · obtain ⟨_, _, _, _, w⟩ := r1.mem z
      obtain ⟨u, eu, _⟩ := w.some
      rw [hDn] at eu; cases eu
    · cases q1 : lcL t tt te J (wipeD σh vs) J.n 0 [] h1 with
      | bad => rw [q1] at p1; exact p1.elim
      | ok ds h2 => rw [q1] at p1; exact ⟨ds, h2, rfl, p1⟩
      | ex x h2 =>
        exact absurd q1 (lcL_nox _ _ _ _)
  · rintro i m H2 ⟨ρ2, h2, acc, vacc, r2, nD, hD, za, e2, s2, hm, ds, h9, q9, k9⟩
    obtain ⟨z3, z4⟩ := z1 ρ2 h2 H2 r2 e2
    cases m with
    | zero =>
      unfold lcL at q9
      by_cases hf : J.fin h2 = true
      · rw [if_pos hf] at q9
        cases q9
        have ei : i = J.n := by omega
        subst ei
        have hix : (ρ2 ++ [Dn])[h2.length]? = some Dn := by rw [← r2.len]; simp
        refine .inl ⟨z4 hf, k9 (ρ2 ++ [Dn]) _ H2 ?_ ?_ (.ref hix)⟩
        · obtain ⟨x, rfl, hx⟩ := e2.pre
          refine ⟨⟨x ++ [Dn], by rw [List.append_assoc], fun a ha => ?_⟩, e2.keep, e2.frz⟩
          rcases List.mem_append.mp ha with z | z
          · exact hx a z
          · rw [List.mem_singleton.mp z]; exact hDn
        · have kp : Kp ρ2 H2 (ρ2 ++ [Dn]) H2 := ⟨fun j a q => by rw [List.getElem?_append_left (List.getElem?_eq_some_iff.mp q).1]; exact q, fun _ _ q => q, fun _ _ _ q => q, fun _ _ _ q => q⟩
          refine ⟨by simp [r2.len], List.nodup_append.mpr ⟨r2.nd, by simp, fun a ha b hb => by rw [List.mem_singleton.mp hb]; rintro rfl; exact nD ha⟩, fun j u a ea eb => ?_⟩
          by_cases hj : j < h2.length
          · rw [List.getElem?_append_left hj] at ea
            rw [List.getElem?_append_left (by rw [r2.len]; exact hj)] at eb
            exact (r2.obj j u a ea eb).kp kp rfl
          · have hl : j < (h2 ++ [MO.lst acc]).length := (List.getElem?_eq_some_iff.mp ea).1
            have ej : j = h2.length := by rw [List.length_append] at hl; simp at hl; omega
            subst ej
            rw [List.getElem?_append_right (Nat.le_refl _), Nat.sub_self] at ea
            rw [hix] at eb
            cases eb
            simp at ea
            subst ea
            exact ⟨vacc, hD, za.kp kp⟩
      · rw [if_neg hf] at q9; cases q9
    | succ m =>
      unfold lcL at q9
      cases g1 : J.get i h2 with
      | none => rw [g1] at q9; cases q9
      | some d =>
        rw [g1] at q9
        simp only at q9
        obtain ⟨hgo, hy⟩ := z3 i d (by omega) g1
        refine .inr ⟨hgo, fun H => ∃ ρ h acc vacc, Rep K ρ h H ∧ Dn ∉ ρ ∧ H Dn = some (.lst vacc) ∧ DVs K ρ H acc vacc ∧ Ext ρ1 H1 ρ H ∧ RepS K ρ H (wipeD σh vs) (wipe σ vs) ∧ i + 1 + m = J.n ∧
          ∃ ds h2, lcL t tt te J (wipeD σh vs) m (i + 1) acc h = .ok ds h2 ∧ ∀ ρ' v H', Ext ρ1 H1 ρ' H' → Rep K ρ' (h2 ++ [.lst ds]) H' → DV K ρ' H' (.ref h2.length) v → Q v H', fun H' q => ⟨m, by omega, q⟩, fun x H3 hyl => ?_⟩
        obtain ⟨e3, r3, zd⟩ := hy x H3 hyl
        have s3 := s2.mono r2 e3
        have hD3 := e3.keep _ _ hD nD
        cases g2 : t.m d (wipeD σh vs) h2 with
        | bad => rw [g2] at q9; cases q9
        | ex x h => rw [g2] at q9; cases q9
        | ok σ1 h3 =>
          rw [g2] at q9
          simp only at q9
          refine Tgt.ok (js := vs) zd s3 g2 hvs fun eh σ4 s4 hw => ⟨by rw [hw, wipe_wipe fun i hi => hi], ?_⟩
          subst eh
          refine ⟨ρ2, σ1, h3, r3, s4, ?_⟩
          cases g3 : tt σ1 h3 with
          | bad => rw [g3] at q9; cases q9
          | ex x h => rw [g3] at q9; cases q9
          | ok b h4 =>
            rw [g3] at q9
            intro ρ4 b' H4 e4 r4 eb
            cases eb
            have off : ∀ {ρ4 : List Addr} {H4 : Hp}, Ext ρ2 H3 ρ4 H4 → Dn ∉ ρ4 := fun {ρ4 H4} e4 z => by
              obtain ⟨x, rfl, hx⟩ := e4.pre
              rcases List.mem_append.mp z with z | z
              · exact nD z
              · rw [hx _ z] at hD3; cases hD3
            have nD4 := off e4
            have hD4 := e4.keep _ _ hD3 nD
            have za4 := (za.mono r2 e3).mono r3 e4
            have e24 := (e2.trans e3 r3.nd).trans e4 r4.nd
            cases b with
            | false => exact ⟨ρ4, h4, acc, vacc, r4, nD4, hD4, za4, e24, s3.mono r3 e4, by omega, ds, h9, q9, k9⟩
            | true =>
              simp only [if_true] at q9 ⊢
              refine ⟨ρ4, σ1, h4, r4, s4.mono r3 e4, ?_⟩
              cases g4 : te σ1 h4 with
              | bad => rw [g4] at q9; cases q9
              | ex x h => rw [g4] at q9; cases q9
              | ok y h5 =>
                rw [g4] at q9
                simp only at q9
                intro ρ5 y' H5 e5 r5 zy
                by_cases hl : acc.length < sizeLine
                · rw [if_pos hl] at q9
                  have e45 := e4.trans e5 r5.nd
                  have nD5 := off e45
                  have hD5 := e5.keep _ _ hD4 nD4
                  have za5 := za4.mono r4 e5
                  have kp : Kp ρ5 H5 ρ5 (upd H5 Dn (.lst (vacc ++ [y']))) := .off hD5
                  refine ⟨vacc, hD5, by rw [← za.length]; exact hl, ρ5, h5, acc ++ [y], vacc ++ [y'], ?_, nD5, upd_same, (za5.kp kp).append (.cons (zy.kp kp) .nil), ?_, ?_, by omega, ds, h9, q9, k9⟩
                  · refine ⟨r5.len, r5.nd, fun j u a ea eb => (r5.obj j u a ea eb).kp kp (upd_ne fun z => ?_)⟩
                    subst z
                    exact nD5 (List.mem_of_getElem? eb)
                  · have e25 := e24.trans e5 r5.nd
                    refine ⟨e25.pre, fun a o ha hn => ?_, fun a o u ha => ?_⟩
                    · rw [upd_ne (ne_of_none ha hDn)]; exact e25.keep a o ha hn
                    · rw [upd_ne (ne_of_none ha hDn)]; exact e25.frz a o u ha
                  · have s5 := (s3.mono r3 e4).mono r4 e5
                    exact ⟨s5.1, fun j d hj => let ⟨v, e1, z⟩ := s5.2 j d hj; ⟨v, e1, z.kp kp⟩⟩
                · rw [if_neg hl] at q9; cases q9
section
variable {X : Cx} {W : WX} {pos : Pos} {tg iter elt : Expr} {ifs : List Expr} {scope : Scope} {own : List (Str × Nat)} {it : FI} {t : Tgt} {tt : FT} {te : FE} {k : Nat}
def mYes : FT := fun _ h => .ok true h
abbrev GTs (X : Cx) (W : WX) (ifs : List Expr) (m : FT) : Prop := PTs X ifs (lT X.K W m)
theorem gts_nil : GTs X W [] mYes := ⟨fun pins s σ H Q I ⟨ρ, σh, h, r, sl, p⟩ => pts_nil.run pins s σ H Q I (p.use r rfl)⟩
theorem gts_one {c : Expr} (h : GT X W c tt) : GTs X W [c] tt := pts_one h
theorem g_lc (C : CK X W k) (hi : GI X W tg iter it) (ok : BlkOk X.N X.env.scope scope own) (hvs : ∀ i ∈ t.ixs, i ∈ own.map (·.2))
    (hg : ∀ (s : Shared) (H : Hp) (C : Addr) (cl : List (Str × Addr)) (fp : List Addr), PG (X.blk s H scope (compEnvC scope cl C X.env) fp) tg (t.g X.K))
    (ht : ∀ (s : Shared) (H : Hp) (C : Addr) (cl : List (Str × Addr)) (fp : List Addr), GTs (X.blk s H scope (compEnvC scope cl C X.env) fp) W0 ifs tt)
    (he : ∀ (s : Shared) (H : Hp) (C : Addr) (cl : List (Str × Addr)) (fp : List Addr), GE (X.blk s H scope (compEnvC scope cl C X.env) fp) W0 elt te) (hs : ∀ x, foldedSetIterable iter X.env x = pure x := by intro _; rfl) :
    GE X W (.ListComp elt [⟨tg, iter, ifs, 0⟩] scope pos) (mLc it t tt te (own.map (·.2))) :=
  pe_mono (pe_lc (tt := lT X.K W0 tt) (te := lE X.K W0 te) C.calm C.nd hi ok hg ht he hs) (lLc hvs)
theorem g_setLc {i : Nat} {y : Str} {py : Pos} {spos : Pos} (C : CK X W k) (hyl : X.env.scope.names.lookup y = some .local)
    (hsw : swapsWith (.ListComp elt [⟨tg, iter, ifs, 0⟩] scope pos) (some (.Name y py)) spos.line X.env = pure true) (hi : GI X W tg iter it) (ok : BlkOk X.N X.env.scope scope own) (hvs : ∀ i ∈ t.ixs, i ∈ own.map (·.2))
    (hg : ∀ (s : Shared) (H : Hp) (C : Addr) (cl : List (Str × Addr)) (fp : List Addr), PG (X.blk s H scope (compEnvC scope cl C X.env) fp) tg (t.g X.K))
    (ht : ∀ (s : Shared) (H : Hp) (C : Addr) (cl : List (Str × Addr)) (fp : List Addr), GTs (X.blk s H scope (compEnvC scope cl C X.env) fp) W0 ifs tt)
    (he : ∀ (s : Shared) (H : Hp) (C : Addr) (cl : List (Str × Addr)) (fp : List Addr), GE (X.blk s H scope (compEnvC scope cl C X.env) fp) W0 elt te) (hy : X.N[i]? = some y := by rfl) (hs : ∀ x, foldedSetIterable iter X.env x = pure x := by intro _; rfl) :
    GS X W (.Assign [.Name y py] (.ListComp elt [⟨tg, iter, ifs, 0⟩] scope pos) spos) (mAsg (mLc it t tt te (own.map (·.2))) (mTo i)) :=
  ps_mono (ps_setLc (tt := lT X.K W0 tt) (te := lE X.K W0 te) C.calm C.nd hy hyl hsw hi ok hg ht he hs) fun T σ H ⟨ρ, σh, h, r, s, p⟩ => lLc hvs σ H _ ⟨ρ, σh, h, r, s, PostS.of_on p r s fun d h1 ρ1 v H1 e1 r1 z1 p1 => p1.useN r1 ((s.mono r e1).set i z1)⟩
end

/-! ### a thing that is locked while an expression runs -/
def mLockE (i : Nat) (m : FE) : FE := fun σ h => match σ[i]? with
  | some (some (.ref a)) => match h[a]? with
    | some (.dK kvs) => match m σ (h.set a (.fdK kvs)) with
      | .ok d h' => .ok d (h'.set a (.dK kvs))
      | _ => .bad
    | _ => .bad
  | _ => .bad
theorem g_lockE {X : Cx} {W : WX} {e : Expr} {m : FE} (i : Nat) (he : GE X W e m) : GE X W e (mLockE i m) :=
  pe_mono (pe_lock he) fun σ H Q ⟨ρ, σh, h, r, s, p⟩ => by
    unfold mLockE at p
    split at p
    · rename_i a q1
      split at p
      · rename_i kvs q2
        obtain ⟨v, ev, zv⟩ := s.2 i _ q1
        obtain ⟨ad, ea, vk, hv, zs⟩ := r.look q2
        refine ⟨ad, .dK vk, hv, trivial, fun od => ?_⟩
        have kp : Kp ρ H ρ (upd H ad (.frz od (.dK vk))) := .upd1 hv (fun _ z => by cases z) (fun _ _ z => by cases z) (fun _ _ z => by cases z)
        have r2 : Rep X.K ρ (h.set a (.fdK kvs)) (upd H ad (.frz od (.dK vk))) := r.wrote ea hv rfl ⟨od, vk, upd_same, KDs.kp kp zs⟩
        refine ⟨ρ, σh, _, r2, ⟨s.1, fun j d hj => let ⟨v, e1, z⟩ := s.2 j d hj; ⟨v, e1, z.kp kp⟩⟩, ?_⟩
        cases q3 : m σh (h.set a (.fdK kvs)) with
        | bad => rw [q3] at p; exact p
        | ex x h' => rw [q3] at p; exact p.elim
        | ok d h' =>
          rw [q3] at p
          intro ρ' v' H' e' r' z'
          have hf : H' ad = some (.frz od (.dK vk)) := e'.frz _ _ _ upd_same
          refine ⟨hf, ?_⟩
          have ea' := e'.ix ea
          have kp' : Kp ρ' H' ρ' (upd H' ad (.dK vk)) := .upd1 hf (fun _ z => by cases z) (fun _ _ z => by cases z) (fun _ _ z => by cases z)
          have ne : ∀ b, H b ≠ some (.dK vk) → b ≠ ad := fun b hb z => hb (by rw [z]; exact hv)
          refine p ρ' v' _ ⟨?_, fun b u hb hn => ?_, fun b ob u hb => ?_⟩ ?_ (z'.kp kp')
          · obtain ⟨x, hx, hn⟩ := e'.pre
            refine ⟨x, hx, fun b hb => ?_⟩
            have := hn b hb
            by_cases hba : b = ad
            · subst hba; rw [upd_same] at this; cases this
            · rw [upd_ne hba] at this; exact this
          · have hba : b ≠ ad := fun z => hn (by rw [z]; exact List.mem_of_getElem? ea)
            rw [upd_ne hba]
            exact e'.keep b u (by rw [upd_ne hba]; exact hb) hn
          · have hba : b ≠ ad := fun z => by subst z; rw [hv] at hb; cases hb
            rw [upd_ne hba]
            exact e'.frz b ob u (by rw [upd_ne hba]; exact hb)
          · refine ⟨by rw [List.length_set]; exact r'.len, r'.nd, fun j u b e1 e2 => ?_⟩
            by_cases hj : j = a
            · subst hj
              rw [ea'] at e2; cases e2
              have hl : j < h'.length := by
                have := (List.getElem?_eq_some_iff.mp ea').1
                rw [← r'.len]; exact this
              rw [List.getElem?_set_self hl] at e1
              cases e1
              exact ⟨vk, upd_same, (KDs.kp (Kp.of r2 e') (KDs.kp kp zs)).kp kp'⟩
            · rw [List.getElem?_set_ne (Ne.symm hj)] at e1
              have hb : b ≠ ad := fun z => hj (by subst z; exact (List.getElem?_inj (List.getElem?_eq_some_iff.mp e2).1 r'.nd).mp (e2.trans ea'.symm))
              exact (r'.obj j u b e1 e2).kp kp' (upd_ne hb)
      · exact p.elim
    · exact p.elim
end FL

set_option Elab.async false
set_option linter.all false
set_option maxRecDepth 100000
/-! FL, part f: calls of built-ins, methods, defs; the def's own rule. -/
namespace FL
open PySem PySem.Spec PyProof.Rows L2

/-! ### calls by values -/
abbrev RL := List V → Hp → VK → Prop
def CallS (K : PySem.W.Frag) (f : List D → HS → R D) (r : RL) : Prop := ∀ (ρ : List Addr) (h : HS) (H : Hp) (ds : List D) (vs : List V) (W : XK) (Q : VK), Rep K ρ h H → DVs K ρ H ds vs → Post K ρ H (DV K) W Q (f ds h) → r vs H Q
def mCall (f : List D → HS → R D) (ma : FA) : FE := fun σ h => (ma σ h).bind f
section
variable {X : Cx} {W : WX} {pos p apos : Pos} {x : Str} {e o : Expr} {es : List Expr} {m mo : FE} {ma : FA} {f : List D → HS → R D} {r : RL} {id T : String}
theorem lCall (hf : CallS X.K f r) (σ : L2.St) (H : Hp) (Q : VK) (q : lE X.K W (mCall f ma) σ H Q) : tCB r (lA X.K W ma) σ H Q := by
  obtain ⟨ρ, σh, h, rr, s, p⟩ := q
  exact ⟨ρ, σh, h, rr, s, Post.of_bind p fun ds h1 ρ1 vs H1 e1 r1 z1 p1 => hf ρ1 h1 H1 ds vs _ Q r1 z1 p1⟩
theorem g_callB (hc : CallR X (.builtin id) r) (hf : CallS X.K f r) (hm : X.mg x = none) (hv : bootBuiltins x = some (.builtin id)) (ha : GA X W (e :: es) ma) (hg : Gl X x := by rfl) (hn : x ≠ "__name__" := by decide) (hdb : (x == ("__debug__" : Str)) = false := by decide)
    (he : starEach (e :: es) X.env = (false, eval e X.env) :: starEach es X.env := by rfl) (hpl : (backTo pos (starEach es X.env)).any (·.1) = false := by rfl) : GE X W (.Call (.Name x p) (e :: es) [] pos) (mCall f ma) :=
  pe_mono (pe_callB hc hg hm hv ha hn hdb he hpl) (lCall hf)
theorem g_callTy (hc : CallR X (.type T) r) (hf : CallS X.K f r) (hm : X.mg x = none) (hv : bootBuiltins x = some (.type T)) (ha : GA X W (e :: es) ma) (hg : Gl X x := by rfl) (hn : x ≠ "__name__" := by decide) (hdb : (x == ("__debug__" : Str)) = false := by decide)
    (he : starEach (e :: es) X.env = (false, eval e X.env) :: starEach es X.env := by rfl) (hpl : (backTo pos (starEach es X.env)).any (·.1) = false := by rfl) : GE X W (.Call (.Name x p) (e :: es) [] pos) (mCall f ma) :=
  pe_mono (pe_callTy hc hg hm hv ha hn hdb he hpl) (lCall hf)
end

/-! ### len, abs, int, max, min, sum, sorted, tuple, list, dict -/
def lenD (h : HS) : D → Option Nat
  | .str y => if y.length ≤ sizeLine then some y.length else none
  | .tup ds => some ds.length
  | .cst ds => some ds.length
  | .ref i => match h[i]? with
    | some (.lst ds) => some ds.length
    | some (.dK ds) => some ds.length
    | _ => none
  | _ => none
def dLen (ds : List D) (h : HS) : R D := match ds with
  | [d] => match lenD h d with
    | some n => .ok (.int n) h
    | none => .bad
  | _ => .bad
def rLen2 (K : PySem.W.Frag) : RL := fun xs H Q => (∃ x n, xs = [x] ∧ LenV K x H n ∧ Q (.int n) H) ∨ (∃ a kvs, xs = [V.ref a] ∧ H a = some (.dK kvs) ∧ Q (.int kvs.length) H)
theorem o_len {X : Cx} : CallR X (.builtin "len") (rLen2 X.K) := CallR.or call_len call_lenD
theorem s_len {K : PySem.W.Frag} : CallS K dLen (rLen2 K) := by
  intro ρ h H ds vs W Q r z0 p
  match ds, z0, p with
  | [d], zz, p =>
    obtain ⟨v, rfl, z⟩ := zz.one
    unfold dLen at p
    simp only at p
    cases e : lenD h d with
    | none => rw [e] at p; exact p.elim
    | some n =>
      rw [e] at p
      have q := p.use r (.int _)
      cases z with
      | str y =>
        simp only [lenD] at e
        by_cases c : y.length ≤ sizeLine
        · rw [if_pos c] at e; cases e; exact .inl ⟨_, _, rfl, ⟨c, rfl⟩, q⟩
        · rw [if_neg c] at e; cases e
      | tup q' zs => cases e; exact .inl ⟨_, _, rfl, .inr ⟨_, q', zs.length⟩, q⟩
      | cst q' zs => cases e; exact .inl ⟨_, _, rfl, .inl ⟨_, q'.sq, zs.length⟩, q⟩
      | ref q' =>
        rename_i i a
        cases q1 : h[i]? with
        | none => simp only [lenD, q1] at e; cases e
        | some o =>
          obtain ⟨a', ea, z⟩ := r.look q1
          rw [q'] at ea; cases ea
          cases o with
          | lst ds => simp only [lenD, q1] at e; cases e; obtain ⟨va, ha, za⟩ := z; exact .inl ⟨_, _, rfl, .inl ⟨_, SqL.of ha, za.length⟩, q⟩
          | dK ds => simp only [lenD, q1] at e; cases e; obtain ⟨va, ha, za⟩ := z; exact .inr ⟨_, _, rfl, ha, by rw [← KDs.length za]; exact q⟩
          | _ => simp only [lenD, q1] at e; cases e
      | _ => cases e
def dAbs (ds : List D) (h : HS) : R D := match ds with
  | [.int i] => .ok (.int (if i < 0 then -i else i)) h
  | _ => .bad
theorem s_abs {K : PySem.W.Frag} : CallS K dAbs (fun xs H Q => ∃ i, xs = [.int i] ∧ Q (.int (if i < 0 then -i else i)) H) := by
  intro ρ h H ds vs W Q r z0 p
  match ds, z0, p with
  | [.int i], zz, p => obtain ⟨v, rfl, z⟩ := zz.one; cases z; exact ⟨i, rfl, p.use r (.int _)⟩
def dInt (ds : List D) (h : HS) : R D := match ds with
  | [.int i] => .ok (.int i) h
  | [.bl k] => .ok (.int (if k then 1 else 0)) h
  | _ => .bad
theorem s_int {K : PySem.W.Frag} : CallS K dInt (fun xs H Q => (∃ i, xs = [.int i] ∧ Q (.int i) H) ∨ ∃ k, xs = [.bl k] ∧ Q (.int (if k then 1 else 0)) H) := by
  intro ρ h H ds vs W Q r z0 p
  match ds, z0, p with
  | [.int i], zz, p => obtain ⟨v, rfl, z⟩ := zz.one; cases z; exact .inl ⟨i, rfl, p.use r (.int _)⟩
  | [.bl k], zz, p => obtain ⟨v, rfl, z⟩ := zz.one; cases z; exact .inr ⟨k, rfl, p.use r (.int _)⟩
def dMax2 (ds : List D) (h : HS) : R D := match ds with
  | [.int i, .int j] => .ok (.int (if j > i then j else i)) h
  | _ => .bad
def dMin2 (ds : List D) (h : HS) : R D := match ds with
  | [.int i, .int j] => .ok (.int (if j < i then j else i)) h
  | _ => .bad
theorem s_max2 {K : PySem.W.Frag} : CallS K dMax2 (fun xs H Q => ∃ i j, xs = [.int i, .int j] ∧ Q (.int (if j > i then j else i)) H) := by
  intro ρ h H ds vs W Q r z0 p
  match ds, z0, p with
  | [.int i, .int j], z, p => obtain ⟨v, w, rfl, z1, z2⟩ := z.two; cases z1; cases z2; exact ⟨i, j, rfl, p.use r (.int _)⟩
theorem s_min2 {K : PySem.W.Frag} : CallS K dMin2 (fun xs H Q => ∃ i j, xs = [.int i, .int j] ∧ Q (.int (if j < i then j else i)) H) := by
  intro ρ h H ds vs W Q r z0 p
  match ds, z0, p with
  | [.int i, .int j], z, p => obtain ⟨v, w, rfl, z1, z2⟩ := z.two; cases z1; cases z2; exact ⟨i, j, rfl, p.use r (.int _)⟩
def unI : D → Option Int
  | .int i => some i
  | _ => none
/-- all are ints -/
def intsD : List D → Option (List Int)
  | [] => some []
  | d :: ds => match unI d, intsD ds with
    | some i, some is => some (i :: is)
    | _, _ => none
theorem intsD_eq : ∀ {ds : List D} {ns : List Int}, intsD ds = some ns → ds = ns.map D.int
  | [], ns, e => by cases e; rfl
  | d :: ds, ns, e => by
    unfold intsD at e
    cases d <;> simp only [unI] at e <;> first | (cases e; done) | skip
    cases q : intsD ds with
    | none => rw [q] at e; cases e
    | some is => rw [q] at e; cases e; rw [intsD_eq q]; rfl
theorem intsD_map : ∀ ns : List Int, intsD (ns.map D.int) = some ns
  | [] => rfl
  | n :: ns => by
    show (match some n, intsD (ns.map D.int) with
      | some i, some is => some (i :: is)
      | _, _ => none) = _
    rw [intsD_map ns]
/-- a list's items: a numbered list, or one that stays -/
def listD (h : HS) : D → Option (List D)
  | .cst ds => some ds
  | .ref i => lstAt h i
  | _ => none
theorem listD_ok {K : PySem.W.Frag} {ρ : List Addr} {h : HS} {H : Hp} (r : Rep K ρ h H) {d : D} {v : V} {ds : List D} (z : DV K ρ H d v) (e : listD h d = some ds) : ∃ a vs, v = .ref a ∧ SqL K H a vs ∧ DVs K ρ H ds vs := by
  cases z with
  | cst q zs => cases e; exact ⟨_, _, rfl, q.sq, zs⟩
  | ref q =>
    obtain ⟨vs, hv, zs⟩ := lstAt_ok r q e
    exact ⟨_, vs, rfl, SqL.of hv, zs⟩
  | _ => cases e
def dSum (ds : List D) (h : HS) : R D := match ds with
  | [d] => match (listD h d).bind intsD with
    | some ns => .ok (.int ns.sum) h
    | none => .bad
  | _ => .bad
theorem s_sum {K : PySem.W.Frag} : CallS K dSum (rSum K) := by
  intro ρ h H ds vs W Q r z0 p
  match ds, z0, p with
  | [d], zz, p =>
    obtain ⟨v, rfl, z⟩ := zz.one
    unfold dSum at p
    simp only at p
    cases e : (listD h d).bind intsD with
    | none => rw [e] at p; exact p.elim
    | some ns =>
      rw [e] at p
      obtain ⟨es, e1, e2⟩ := Option.bind_eq_some_iff.mp e
      obtain ⟨a, vs, rfl, hq, zs⟩ := listD_ok r z e1
      rw [intsD_eq e2] at zs
      rw [zs.toInts] at hq
      exact ⟨a, ns, rfl, hq, p.use r (.int _)⟩
def sortI (ns : List Int) : List Int := ns.mergeSort (fun a b => decide (a ≤ b))
theorem sortI_perm (ns : List Int) : (sortI ns).Perm ns := List.mergeSort_perm ns _
theorem sortI_sorted (ns : List Int) : (sortI ns).Pairwise (· ≤ ·) := by
  have h := List.pairwise_mergeSort (le := fun a b : Int => decide (a ≤ b)) (fun a b c h1 h2 => by simp only [decide_eq_true_eq] at *; omega) (fun a b => by simp only [Bool.or_eq_true, decide_eq_true_eq]; omega) ns
  exact h.imp fun h => of_decide_eq_true h
theorem sortI_eq {ns ms : List Int} (hp : ms.Perm ns) (hs : ms.Pairwise (· ≤ ·)) : ms = sortI ns :=
  PySem.W.ksm_same (hp.trans (sortI_perm ns).symm) hs (sortI_sorted ns)
def keysI : List (Key × D) → Option (List Int)
  | [] => some []
  | (.inl i, _) :: r => (keysI r).map (i :: ·)
  | (.inr _, _) :: _ => none
theorem keysI_eq : ∀ {ks : List (Key × D)} {ns : List Int}, keysI ks = some ns → ks.map (·.1) = ns.map Sum.inl
  | [], ns, e => by cases e; rfl
  | (.inl i, d) :: r, ns, e => by
    obtain ⟨ms, e1, e2⟩ := Option.map_eq_some_iff.mp e
    subst e2
    rw [List.map_cons, keysI_eq e1]; rfl
  | (.inr x, d) :: r, ns, e => by cases e
def dSorted (ds : List D) (h : HS) : R D := match ds with
  | [d] => match (listD h d).bind intsD with
    | some ns => .ok (.ref h.length) (h ++ [.lst ((sortI ns).map D.int)])
    | none => match (dictD h d).bind keysI with
      | some ns => if ns.length < 64 then .ok (.ref h.length) (h ++ [.lst ((sortI ns).map D.int)]) else .bad
      | none => .bad
  | _ => .bad
def rSortedDI : RL := fun xs H Q => ∃ (a : Addr) (kvs : List (Key × V)) (ks : List Int), xs = [.ref a] ∧ Rd H a (.dK kvs) ∧ kvs.map (·.1) = ks.map Sum.inl ∧ ks.length < 64 ∧
    ∀ (ys : List Int) (p : Addr), ys.Perm ks → ys.Pairwise (· ≤ ·) → H p = none → Q (.ref p) (upd H p (.lst (ys.map V.int)))
def rSorted2 (K : PySem.W.Frag) : RL := fun vs H Q => rSortedI K vs H Q ∨ rSortedDI vs H Q
theorem o_sorted {X : Cx} (hc : X.calm = true) : CallR X (.builtin "sorted") (rSorted2 X.K) := CallR.or cr_sortedI (call_sortedDI hc)
theorem s_sorted {K : PySem.W.Frag} : CallS K dSorted (rSorted2 K) := by
  intro ρ h H ds vs W Q r z0 p
  match ds, z0, p with
  | [d], zz, p =>
    obtain ⟨v, rfl, z⟩ := zz.one
    unfold dSorted at p
    simp only at p
    cases e : (listD h d).bind intsD with
    | some ns =>
      rw [e] at p
      obtain ⟨es, e1, e2⟩ := Option.bind_eq_some_iff.mp e
      obtain ⟨a, vs, rfl, hq, zs⟩ := listD_ok r z e1
      rw [intsD_eq e2] at zs
      rw [zs.toInts] at hq
      exact .inl ⟨a, ns, rfl, hq, fun ns' p' hp hs hn => by rw [sortI_eq hp hs]; exact post_lst r (DVs.ints _) p p' hn⟩
    | none =>
      rw [e] at p
      simp only at p
      cases e3 : (dictD h d).bind keysI with
      | none => rw [e3] at p; exact p.elim
      | some ns =>
        rw [e3] at p
        simp only at p
        obtain ⟨ks, e1, e2⟩ := Option.bind_eq_some_iff.mp e3
        obtain ⟨a, vs, rfl, hq, zs⟩ := dictD_ok r z e1
        by_cases hl : ns.length < 64
        · rw [if_pos hl] at p
          exact .inr ⟨a, vs, ns, rfl, hq, by rw [zs.keys, keysI_eq e2], hl, fun ns' p' hp hs hn => by rw [sortI_eq hp hs]; exact post_lst r (DVs.ints _) p p' hn⟩
        · rw [if_neg hl] at p; exact p.elim
def dTuple (ds : List D) (h : HS) : R D := match ds with
  | [.tup xs] => .ok (.tup xs) h
  | [d] => match listD h d with
    | some xs => .ok (.tup xs) h
    | none => .bad
  | _ => .bad
def rTuple (K : PySem.W.Frag) : RL := fun xs H Q => ∃ p ys, xs = [.ref p] ∧ ((SqL K H p ys ∧ ∀ l, H l = none → Q (.ref l) (upd H l (.tup ys))) ∨ (SqT K H p ys ∧ Q (.ref p) H))
theorem s_tuple {K : PySem.W.Frag} : CallS K dTuple (rTuple K) := by
  intro ρ h H ds vs W Q r z0 p
  match ds, z0, p with
  | [d], zz, p =>
    obtain ⟨v, rfl, z⟩ := zz.one
    have lst : ∀ xs, listD h d = some xs → Post K ρ H (DV K) W Q (.ok (.tup xs) h) → rTuple K [v] H Q := fun xs e p => by
      obtain ⟨a, vs, rfl, hq, zs⟩ := listD_ok r z e
      exact ⟨a, vs, rfl, .inl ⟨hq, post_tup r zs p⟩⟩
    cases z with
    | tup q zs => exact ⟨_, _, rfl, .inr ⟨q, p.use r (.tup q zs)⟩⟩
    | cst q zs => exact lst _ rfl p
    | ref q =>
      rename_i i a
      unfold dTuple at p
      simp only at p
      cases e : listD h (.ref i) with
      | none => rw [e] at p; exact p.elim
      | some xs => rw [e] at p; exact lst xs e p
    | _ => exact p.elim
  | a :: _ :: _, zz, p => cases a <;> exact p.elim
def dList (ds : List D) (h : HS) : R D := match ds with
  | [d] => match itemsD h d with
    | some xs => .ok (.ref h.length) (h ++ [.lst xs])
    | none => match dictD h d with
      | some ks => .ok (.ref h.length) (h ++ [.lst (ks.map fun kv => dKey kv.1)])
      | none => .bad
  | _ => .bad
def rList (K : PySem.W.Frag) : RL := fun xs H Q => (∃ p ys, xs = [.ref p] ∧ (SqL K H p ys ∨ SqT K H p ys) ∧ ∀ l, H l = none → Q (.ref l) (upd H l (.lst ys))) ∨
  ∃ (a : Addr) (kvs : List (Key × V)), xs = [.ref a] ∧ Rd H a (.dK kvs) ∧ ∀ p, H p = none → Q (.ref p) (upd H p (.lst (kvs.map fun kv => kV kv.1)))
theorem o_list {X : Cx} (hc : X.calm = true) : CallR X (.type "list") (rList X.K) := CallR.or call_list_of (call_listD hc)
theorem DVs.keysOf {K : PySem.W.Frag} {ρ : List Addr} {H : Hp} {ks : List (Key × D)} {vs : List (Key × V)} (z : KDs Key K ρ H ks vs) : DVs K ρ H (ks.map fun kv => dKey kv.1) (vs.map fun kv => kV kv.1) := by
  unfold KDs at z
  induction z with
  | nil => exact .nil
  | cons z _ ih => exact .cons (by show DV K ρ H (dKey _) (kV _); rw [← z.1]; exact dKey_rel _) ih
theorem s_list {K : PySem.W.Frag} : CallS K dList (rList K) := by
  intro ρ h H ds vs W Q r z0 p
  match ds, z0, p with
  | [d], zz, p =>
    obtain ⟨v, rfl, z⟩ := zz.one
    unfold dList at p
    simp only at p
    cases e : itemsD h d with
    | some xs =>
      rw [e] at p
      obtain ⟨a, vs, rfl, hq, zs⟩ := itemsD_ok r z e
      exact .inl ⟨a, vs, rfl, hq, post_lst r zs p⟩
    | none =>
      rw [e] at p
      simp only at p
      cases e2 : dictD h d with
      | none => rw [e2] at p; exact p.elim
      | some ks =>
        rw [e2] at p
        obtain ⟨a, vs, rfl, hq, zs⟩ := dictD_ok r z e2
        exact .inr ⟨a, vs, rfl, hq, post_lst r (DVs.keysOf zs) p⟩
def dDict (ds : List D) (h : HS) : R D := match ds with
  | [d] => match dictD h d with
    | some ks => .ok (.ref h.length) (h ++ [.dK ks])
    | none => .bad
  | _ => .bad
theorem s_dict {K : PySem.W.Frag} : CallS K dDict (fun xs H Q => ∃ (a : Addr) (kvs : List (Key × V)), xs = [.ref a] ∧ Rd H a (.dK kvs) ∧ ∀ p, H p = none → Q (.ref p) (upd H p (.dK kvs))) := by
  intro ρ h H ds vs W Q r z0 p
  match ds, z0, p with
  | [d], zz, p =>
    obtain ⟨v, rfl, z⟩ := zz.one
    unfold dDict at p
    simp only at p
    cases e : dictD h d with
    | none => rw [e] at p; exact p.elim
    | some ks =>
      rw [e] at p
      obtain ⟨a, vs, rfl, hq, zs⟩ := dictD_ok r z e
      exact ⟨a, vs, rfl, hq, post_dK r zs p⟩
/-- isinstance: the answer by a table of the types -/
def tyOfD (h : HS) : D → Option String
  | .non => some "NoneType" | .bl _ => some "bool" | .int _ => some "int" | .str _ => some "str" | .tup _ => some "tuple"
  | .ref i => match h[i]? with
    | some (.lst _) => some "list"
    | some (.dK _) => some "dict"
    | _ => none
  | _ => none
def dIsi (tab : List (String × String × Bool)) (ds : List D) (h : HS) : R D := match ds with
  | [d, .ty c] => match tyOfD h d with
    | some t => if t = c then .ok (.bl true) h else match tab.find? (fun p => p.1 = t ∧ p.2.1 = c) with
      | some p => .ok (.bl p.2.2) h
      | none => .bad
    | none => .bad
  | _ => .bad
theorem tyX_tup {K : PySem.W.Frag} {H : Hp} {a : Addr} {vs : List V} (q : SqT K H a vs) : TyX K H (.ref a) (.type "tuple") := by
  rcases q with (q | ⟨o, q⟩) | ⟨o, its, n, hk, hc, _⟩
  · exact .base (.tup q)
  · exact .fTuple q
  · exact .kTuple hk hc
theorem s_isi {K : PySem.W.Frag} {tab : List (String × String × Bool)} (ht : ∀ p ∈ tab, PySem.W.kitOne K (.type p.1) (.type p.2.1) = some p.2.2) : CallS K (dIsi tab) (rIsi K) := by
  intro ρ h H ds vs W Q r z0 p
  match ds, z0, p with
  | [d, .ty c], z, p =>
    obtain ⟨v, w, rfl, z1, z2⟩ := z.two
    cases z2
    unfold dIsi at p
    simp only at p
    cases e : tyOfD h d with
    | none => rw [e] at p; exact p.elim
    | some t =>
      rw [e] at p
      simp only at p
      have tx : TyX K H v (.type t) := by
        cases z1 with
        | non => cases e; exact .base .non
        | bl b => cases e; exact .base (.bl b)
        | int i => cases e; exact .base (.int i)
        | str x => cases e; exact .base (.str x)
        | tup q zs => cases e; exact tyX_tup q
        | ref q =>
          rename_i i a
          cases q1 : h[i]? with
          | none => simp only [tyOfD, q1] at e; cases e
          | some o =>
            obtain ⟨a', ea, z⟩ := r.look q1
            rw [q] at ea; cases ea
            cases o with
            | lst ds => simp only [tyOfD, q1] at e; cases e; obtain ⟨va, ha, za⟩ := z; exact .base (.lst ha)
            | dK ds => simp only [tyOfD, q1] at e; cases e; obtain ⟨va, ha, za⟩ := z; exact .base (.dK ha)
            | _ => simp only [tyOfD, q1] at e; cases e
        | _ => cases e
      by_cases hc : t = c
      · rw [if_pos hc] at p
        subst hc
        refine ⟨v, .ty t, .type t, .type t, true, rfl, .ty t, tx, ?_, p.use r (.bl _)⟩
        unfold PySem.W.kitOne
        rw [if_pos (by simp)]
      · rw [if_neg hc] at p
        cases q : tab.find? (fun p => p.1 = t ∧ p.2.1 = c) with
        | none => rw [q] at p; exact p.elim
        | some pr =>
          rw [q] at p
          have hm := List.mem_of_find?_eq_some q
          have hp := List.find?_some q
          simp only [decide_eq_true_eq] at hp
          obtain ⟨h1, h2⟩ := hp
          subst h1; subst h2
          exact ⟨v, .ty _, _, _, pr.2.2, rfl, .ty _, tx, ht pr hm, p.use r (.bl _)⟩
theorem g_tyName {X : Cx} {W : WX} {x : Str} {T : String} {pos : Pos} (hm : X.mg x = none) (hv : bootBuiltins x = some (.type T)) (hg : Gl X x := by rfl) (hn : x ≠ "__name__" := by decide) (hd : (x == ("__debug__" : Str)) = false := by decide) : GE X W (.Name x pos) (mC (.ty T)) :=
  gC (pe_bltn hg hm hv (show RelV (.ty T) (.type T) from rfl) hn hd) fun _ _ => .ty T

/-! ### methods of built-in types -/
def MtS (K : PySem.W.Frag) (f : D → List D → HS → R D) (r : V → List V → Hp → VK → Prop) : Prop := ∀ (ρ : List Addr) (h : HS) (H : Hp) (d : D) (v : V) (ds : List D) (vs : List V) (W : XK) (Q : VK), Rep K ρ h H → DV K ρ H d v → DVs K ρ H ds vs →
  Post K ρ H (DV K) W Q (f d ds h) → r v vs H Q
def tyMD (T : String) (h : HS) : D → Bool
  | .str _ => T == "str"
  | .ref i => match h[i]? with
    | some (.lst _) => T == "list"
    | some (.dK _) => T == "dict"
    | _ => false
  | _ => false
def mBM (T : String) (f : D → List D → HS → R D) (mo : FE) (ma : FA) : FE := fun σ h => (mo σ h).bind fun d h1 => if tyMD T h1 d = true then (ma σ h1).bind fun ds h2 => f d ds h2 else .bad
theorem tyMD_ok {K : PySem.W.Frag} {ρ : List Addr} {h : HS} {H : Hp} (r : Rep K ρ h H) {T : String} {d : D} {v : V} (z : DV K ρ H d v) (e : tyMD T h d = true) : tyV K T v H := by
  cases z with
  | str y => exact beq_iff_eq.mp e
  | ref q =>
    rename_i i a
    cases q1 : h[i]? with
    | none => simp only [tyMD, q1] at e; cases e
    | some o =>
      obtain ⟨a', ea, z⟩ := r.look q1
      rw [q] at ea; cases ea
      cases o with
      | lst ds => simp only [tyMD, q1] at e; obtain ⟨va, ha, za⟩ := z; exact .inl ⟨beq_iff_eq.mp e, _, SqL.of ha⟩
      | dK ds => simp only [tyMD, q1] at e; obtain ⟨va, ha, za⟩ := z; exact .inr (.inr (.inl ⟨beq_iff_eq.mp e, .inl ⟨_, ha⟩⟩))
      | _ => simp only [tyMD, q1] at e; cases e
  | _ => cases e
section
variable {X : Cx} {W : WX} {pos p apos cpos : Pos} {name : Str} {e o : Expr} {es : List Expr} {m mo : FE} {ma : FA} {f : D → List D → HS → R D} {r : V → List V → Hp → VK → Prop} {id T : String}
theorem g_bm (pa : PlainAttrs T) (slot : Slot T name id) (hty : typeOf (.builtin id) = pure (.type "method_descriptor")) (hm : MtR X id r) (hf : MtS X.K f r) (ho : GE X W o mo) (ha : GA X W (e :: es) ma)
    (hbase : attributeBase o name X.env (eval o X.env) = eval o X.env := by rfl)
    (hfew : ((backTo cpos (starEach (e :: es) X.env)).all (fun x => !x.1) && (backToKw cpos (keywordEach [] X.env)).all (fun x => x.1.isSome)
      && decide ((e :: es).length + ([] : List Keyword).length + (if ([] : List Keyword).isEmpty then 0 else 1) < 30)) = true := by rfl)
    (hline : (apos.endLine == cpos.line) = true := by rfl) (hs : starEach (e :: es) X.env = (false, eval e X.env) :: starEach es X.env := by rfl) (hplain : (backTo cpos (starEach es X.env)).any (·.1) = false := by rfl) :
    GE X W (.Call (.Attribute o name apos) (e :: es) [] cpos) (mBM T f mo ma) :=
  pe_mono (pe_bm pa slot hty hm ho ha hbase hfew hline hs hplain) fun σ H Q ⟨ρ, σh, h, rr, s, p⟩ => ⟨ρ, σh, h, rr, s, Post.of_bind p fun d h1 ρ1 v H1 e1 r1 z1 p1 => by
    by_cases c : tyMD T h1 d = true
    · rw [if_pos c] at p1
      exact ⟨tyMD_ok r1 z1 c, ρ1, σh, h1, r1, s.mono rr e1, Post.of_bind p1 fun ds h2 ρ2 vs H2 e2 r2 z2 p2 => hf ρ2 h2 H2 d v ds vs _ Q r2 (z1.mono r1 e2) z2 p2⟩
    · rw [if_neg c] at p1; exact p1.elim⟩
theorem g_bm0 (pa : PlainAttrs T) (slot : Slot T name id) (hty : typeOf (.builtin id) = pure (.type "method_descriptor")) (hm : MtR X id r) (hf : MtS X.K f r) (ho : GE X W o mo)
    (hbase : attributeBase o name X.env (eval o X.env) = eval o X.env := by rfl) (hline : (apos.endLine == cpos.line) = true := by rfl) : GE X W (.Call (.Attribute o name apos) [] [] cpos) (mBM T f mo mNil) :=
  pe_mono (pe_bm0 pa slot hty hm ho hbase hline) fun σ H Q ⟨ρ, σh, h, rr, s, p⟩ => ⟨ρ, σh, h, rr, s, Post.of_bind p fun d h1 ρ1 v H1 e1 r1 z1 p1 => by
    by_cases c : tyMD T h1 d = true
    · rw [if_pos c] at p1
      exact ⟨tyMD_ok r1 z1 c, hf ρ1 h1 H1 d v [] [] _ Q r1 z1 .nil p1⟩
    · rw [if_neg c] at p1; exact p1.elim⟩
end
def dAppend (d : D) (ds : List D) (h : HS) : R D := match d, ds with
  | .ref i, [y] => match lstAt h i with
    | some xs => if xs.length < sizeLine then .ok .non (h.set i (.lst (xs ++ [y]))) else .bad
    | none => .bad
  | _, _ => .bad
theorem s_append {K : PySem.W.Frag} : MtS K dAppend rAppend := by
  intro ρ h H d v ds vs W Q r z zs0 p
  cases z <;> first | exact p.elim | skip
  rename_i i a q
  match ds, zs0, p with
  | [y], zs, p =>
    obtain ⟨w, rfl, zw⟩ := zs.one
    unfold dAppend at p
    simp only at p
    cases e : lstAt h i with
    | none => rw [e] at p; exact p.elim
    | some xs =>
      rw [e] at p
      simp only at p
      obtain ⟨us, hv, zu⟩ := lstAt_ok r q e
      by_cases hl : xs.length < sizeLine
      · rw [if_pos hl] at p
        have ex := Ext.wrote (o := .lst (us ++ [w])) q hv
        exact ⟨_, us, w, rfl, rfl, hv, by rw [← zu.length]; exact hl, p ρ .non _ ex (r.wrote q hv rfl ⟨_, upd_same, (zu.append (.cons zw .nil)).mono r ex⟩) .non⟩
      · rw [if_neg hl] at p; exact p.elim
def dPop0 (d : D) (ds : List D) (h : HS) : R D := match d, ds with
  | .ref i, [] => match lstAt h i with
    | some xs => match xs[xs.length - 1]? with
      | some y => .ok y (h.set i (.lst xs.dropLast))
      | none => .bad
    | none => .bad
  | _, _ => .bad
theorem DVs.dropLast {K : PySem.W.Frag} {ρ : List Addr} {H : Hp} {ds : List D} {vs : List V} (z : DVs K ρ H ds vs) : DVs K ρ H ds.dropLast vs.dropLast := by
  rw [List.dropLast_eq_take, List.dropLast_eq_take, z.length]
  exact z.take _
theorem s_pop0 {K : PySem.W.Frag} : MtS K dPop0 rPop := by
  intro ρ h H d v ds vs W Q r z zs0 p
  cases z <;> first | exact p.elim | skip
  rename_i i a q
  match ds, zs0, p with
  | [], zs, p =>
    cases zs
    cases zs0
    unfold dPop0 at p
    simp only at p
    cases e : lstAt h i with
    | none => rw [e] at p; exact p.elim
    | some xs =>
      rw [e] at p
      simp only at p
      obtain ⟨us, hv, zu⟩ := lstAt_ok r q e
      cases e2 : xs[xs.length - 1]? with
      | none => rw [e2] at p; exact p.elim
      | some y =>
        rw [e2] at p
        obtain ⟨w, ew, zw⟩ := zu.get e2
        have ex := Ext.wrote (o := .lst us.dropLast) q hv
        exact ⟨_, us, w, rfl, rfl, hv, by rw [← zu.length]; exact ew, p ρ w _ ex (r.wrote q hv rfl ⟨_, upd_same, zu.dropLast.mono r ex⟩) (zw.mono r ex)⟩
def dExtend (d : D) (ds : List D) (h : HS) : R D := match d, ds with
  | .ref i, [.ref j] => match lstAt h i, lstAt h j with
    | some xs, some ys => if xs.length + ys.length ≤ sizeLine then .ok .non (h.set i (.lst (xs ++ ys))) else .bad
    | _, _ => .bad
  | _, _ => .bad
theorem s_extend {K : PySem.W.Frag} : MtS K dExtend rExtend := by
  intro ρ h H d v ds vs W Q r z zs0 p
  cases z <;> first | exact p.elim | skip
  rename_i i a q
  match ds, zs0, p with
  | [.ref j], zs, p =>
    obtain ⟨w, rfl, zw⟩ := zs.one
    cases zw with
    | ref q2 =>
      unfold dExtend at p
      simp only at p
      cases e : lstAt h i with
      | none => rw [e] at p; exact p.elim
      | some xs =>
        cases e2 : lstAt h j with
        | none => rw [e, e2] at p; exact p.elim
        | some ys =>
          rw [e, e2] at p
          simp only at p
          obtain ⟨us, hv, zu⟩ := lstAt_ok r q e
          obtain ⟨ws, hw, zw⟩ := lstAt_ok r q2 e2
          by_cases hl : xs.length + ys.length ≤ sizeLine
          · rw [if_pos hl] at p
            have ex := Ext.wrote (o := .lst (us ++ ws)) q hv
            exact ⟨_, _, us, ws, rfl, rfl, hv, hw, by rw [← zu.length, ← zw.length]; exact hl, p ρ .non _ ex (r.wrote q hv rfl ⟨_, upd_same, (zu.append zw).mono r ex⟩) .non⟩
          · rw [if_neg hl] at p; exact p.elim

/-! ### dict displays -/
abbrev FPs := List (FE × FE)
def mPairs : List (FE × FE) → Sl → HS → R (List (Key × D))
  | [], _, h => .ok [] h
  | (mk, mv) :: r, σ, h => (mk σ h).bind fun k h1 => (mv σ h1).bind fun v h2 => match keyD k with
    | some k => (mPairs r σ h2).bind fun ps h3 => .ok ((k, v) :: ps) h3
    | none => .bad
def mergeD (kvs more : List (Key × D)) : List (Key × D) := more.foldl (fun acc kv => setK acc kv.1 kv.2) kvs
def mDict0 : FE := fun _ h => .ok (.ref h.length) (h ++ [.dK []])
/-- the new dict is numbered when it is done -/
def mDict (prs : List (FE × FE)) : FE := fun σ h => (mPairs prs σ h).bind fun ps h1 => if ps.length ≤ 15 then .ok (.ref h1.length) (h1 ++ [.dK (mergeD [] ps)]) else .bad
section
variable {X : Cx} {W : WX} {pos : Pos}
theorem g_dict0 : GE X W (.Dict [] [] pos) mDict0 := pe_mono pe_dnewK fun σ H Q ⟨ρ, σh, h, r, s, p⟩ => post_dK r Paired.nil p
theorem KDs.merge {K : PySem.W.Frag} {ρ : List Addr} {H : Hp} {ms : List (Key × D)} {ns : List (Key × V)} (q : KDs Key K ρ H ms ns) : ∀ {ks : List (Key × D)} {vs : List (Key × V)}, KDs Key K ρ H ks vs → KDs Key K ρ H (mergeD ks ms) (mergeK vs ns) := by
  unfold KDs at q
  induction q with
  | nil => intro ks vs z; exact z
  | @cons p q ps qs z _ ih =>
    intro ks vs w
    show KDs Key K ρ H (mergeD (setK ks p.1 p.2) ps) (mergeK (putK vs q.1 q.2) qs)
    rw [← z.1]
    exact ih (KDs.put w p.1 z.2)
/-- the pairs, beside a new dict at a that is not numbered yet -/
def PP (K : PySem.W.Frag) (ρ0 : List Addr) (H0 : Hp) (a : Addr) (W : XK) (Q : List (V × V) → Hp → Prop) : R (List (Key × D)) → Prop
  | .bad => False
  | .ok ps h2 => ∀ ρ' H' vs, Rep K ρ' h2 H' → KDs Key K ρ' H' ps vs → H' a = some (.dK []) → a ∉ ρ' → Ext ρ0 H0 ρ' H' → Q (vs.map fun (kv : Key × V) => (kV kv.1, kv.2)) H'
  | .ex x h2 => ∀ ρ' dx H', Ext ρ0 H0 ρ' H' → Rep K ρ' h2 H' → XRep K ρ' H' x dx → W (.ref x.cls) dx H'
theorem pairs_ok {K : PySem.W.Frag} {a : Addr} {σ : L2.St} {σh : Sl} : ∀ (prs : List (FE × FE)) (ρ : List Addr) (h : HS) (H : Hp) (Q : List (V × V) → Hp → Prop), Rep K ρ h H → RepS K ρ H σh σ → H a = some (.dK []) → a ∉ ρ →
    PP K ρ H a (fun c d H' => W c d σ H') Q (mPairs prs σh h) → tPairs (prs.map fun p => (lE K W p.1, lE K W p.2)) σ H Q
  | [], ρ, h, H, Q, r, s, ha, hn, p => p ρ H [] r .nil ha hn .refl
  | (mk, mv) :: prs, ρ, h, H, Q, r, s, ha, hn, p => by
    have off : ∀ {ρ1 : List Addr} {H1 : Hp} {ρ : List Addr} {H : Hp}, H a = some (.dK []) → a ∉ ρ → Ext ρ H ρ1 H1 → H1 a = some (.dK []) ∧ a ∉ ρ1 := fun {ρ1 H1 ρ H} ha hn e => by
      refine ⟨e.keep a _ ha hn, fun z => ?_⟩
      obtain ⟨x, rfl, hx⟩ := e.pre
      rcases List.mem_append.mp z with z | z
      · exact hn z
      · rw [hx a z] at ha; cases ha
    have p : PP K ρ H a (fun c d H' => W c d σ H') Q ((mk σh h).bind fun k h1 => (mv σh h1).bind fun v h2 => match keyD k with
      | some k => (mPairs prs σh h2).bind fun ps h3 => .ok ((k, v) :: ps) h3
      | none => .bad) := p
    refine ⟨ρ, σh, h, r, s, ?_⟩
    show Post K ρ H (DV K) _ _ (mk σh h)
    cases g1 : mk σh h with
    | bad => rw [g1] at p; exact p
    | ex x h1 => rw [g1] at p; exact fun ρ' dx H' e r' z => p ρ' dx H' e r' z
    | ok k h1 =>
      rw [g1] at p
      intro ρ1 kv H1 e1 r1 z1
      obtain ⟨ha1, hn1⟩ := off ha hn e1
      refine ⟨ρ1, σh, h1, r1, s.mono r e1, ?_⟩
      show Post K ρ1 H1 (DV K) _ _ (mv σh h1)
      simp only [R.bind] at p
      cases g2 : mv σh h1 with
      | bad => rw [g2] at p; exact p
      | ex x h2 => rw [g2] at p; exact fun ρ' dx H' e r' z => p ρ' dx H' (e1.trans e r'.nd) r' z
      | ok v h2 =>
        rw [g2] at p
        intro ρ2 vv H2 e2 r2 z2
        obtain ⟨ha2, hn2⟩ := off ha1 hn1 e2
        have e02 := e1.trans e2 r2.nd
        simp only at p
        cases ek : keyD k with
        | none => rw [ek] at p; exact p.elim
        | some kk =>
          rw [ek] at p
          simp only at p
          have s2 := (s.mono r e1).mono r1 e2
          refine pairs_ok prs ρ2 h2 H2 _ r2 s2 ha2 hn2 ?_
          cases g3 : mPairs prs σh h2 with
          | bad => rw [g3] at p; exact p
          | ex x h3 => rw [g3] at p; exact fun ρ' dx H' e r' z => p ρ' dx H' (e02.trans e r'.nd) r' z
          | ok ps h3 =>
            rw [g3] at p
            intro ρ3 H3 vs r3 zv ha3 hn3 e23
            have zk := keyD_rel z1 ek
            subst zk
            exact p ρ3 H3 ((kk, vv) :: vs) r3 (.cons ⟨rfl, z2.mono r2 e23⟩ zv) ha3 hn3 (e02.trans e23 r3.nd)
/-- a thing that stands beside is numbered -/
theorem Rep.adopt {K : PySem.W.Frag} {ρ : List Addr} {h : HS} {H : Hp} {a : Addr} {o : HO} {m : MO} (r : Rep K ρ h H) (nD : a ∉ ρ) (kp : Kp ρ H (ρ ++ [a]) (upd H a o)) (q : RepO K (ρ ++ [a]) (upd H a o) a m) : Rep K (ρ ++ [a]) (h ++ [m]) (upd H a o) := by
  have hix : (ρ ++ [a])[h.length]? = some a := by rw [← r.len]; simp
  refine ⟨by simp [r.len], List.nodup_append.mpr ⟨r.nd, by simp, fun b hb c hc => by rw [List.mem_singleton.mp hc]; rintro rfl; exact nD hb⟩, fun j u b ea eb => ?_⟩
  by_cases hj : j < h.length
  · rw [List.getElem?_append_left hj] at ea
    rw [List.getElem?_append_left (by rw [r.len]; exact hj)] at eb
    exact (r.obj j u b ea eb).kp kp (upd_ne fun z => nD (by rw [← z]; exact List.mem_of_getElem? eb))
  · have hl : j < (h ++ [m]).length := (List.getElem?_eq_some_iff.mp ea).1
    have ej : j = h.length := by rw [List.length_append] at hl; simp at hl; omega
    subst ej
    rw [List.getElem?_append_right (Nat.le_refl _), Nat.sub_self] at ea
    rw [hix] at eb
    cases eb
    simp at ea
    subst ea
    exact q
theorem g_dict {keys : List (Option Expr)} {values : List Expr} {prs : List (FE × FE)} (h : PPs X pos keys values (prs.map fun p => (lE X.K W p.1, lE X.K W p.2))) (hall : keys.all (·.isSome) = true := by rfl) (hl : keys.length = values.length := by rfl) (h0 : keys ≠ [] := by simp)
    (h15 : keys.length ≤ 15 := by decide) : GE X W (.Dict keys values pos) (mDict prs) :=
  pe_mono (pe_disp h hall hl h0 h15) fun σ H Q ⟨ρ, σh, hh, r, s, p⟩ => fun a ha => by
    have r' := r.laid (o := .dK []) ha
    have na : a ∉ ρ := fun z => by
      obtain ⟨_, _, _, _, w⟩ := r.mem z
      obtain ⟨u, eu, _⟩ := w.some
      rw [ha] at eu; cases eu
    have p : Post X.K ρ H (DV X.K) (fun c d H' => W c d σ H') Q ((mPairs prs σh hh).bind fun ps h1 => if ps.length ≤ 15 then .ok (.ref h1.length) (h1 ++ [.dK (mergeD [] ps)]) else .bad) := p
    have e0 : Ext ρ H ρ (upd H a (.dK [])) := .laid ha
    refine pairs_ok prs ρ hh _ _ r' (s.mono r e0) upd_same na ?_
    cases g1 : mPairs prs σh hh with
    | bad => rw [g1] at p; exact p
    | ex x h1 => rw [g1] at p; exact fun ρ' dx H' e r' z => p ρ' dx H' (e0.trans e r'.nd) r' z
    | ok ps h1 =>
      rw [g1] at p
      simp only [R.bind] at p
      intro ρ1 H1 vs r1 zv ha1 hn1 e01
      by_cases c : ps.length ≤ 15
      · rw [if_pos c] at p
        have e01 := e0.trans e01 r1.nd
        have kp : Kp ρ1 H1 (ρ1 ++ [a]) (upd H1 a (.dK (mergeK [] vs))) := by
          have k1 : Kp ρ1 H1 ρ1 (upd H1 a (.dK (mergeK [] vs))) := .upd1 ha1 (fun _ z => by cases z) (fun _ _ z => by cases z) (fun _ _ z => by cases z)
          exact ⟨fun j b q => by rw [List.getElem?_append_left (List.getElem?_eq_some_iff.mp q).1]; exact q, k1.tup, k1.frt, k1.frl⟩
        refine ⟨ha1, vs, rfl, by rw [← zv.length]; exact c, p (ρ1 ++ [a]) _ _ ⟨?_, fun b o hb hn => ?_, fun b o u hb => ?_⟩ (r1.adopt hn1 kp ⟨_, upd_same, (KDs.merge zv Paired.nil).kp kp⟩) (.ref (by rw [← r1.len]; simp))⟩
        · obtain ⟨x, rfl, hx⟩ := e01.pre
          refine ⟨x ++ [a], by rw [List.append_assoc], fun b hb => ?_⟩
          rcases List.mem_append.mp hb with z | z
          · exact hx b z
          · rw [List.mem_singleton.mp z]; exact ha
        · rw [upd_ne (ne_of_none hb ha)]; exact e01.keep b o hb hn
        · rw [upd_ne (ne_of_none hb ha)]; exact e01.frz b o u hb
      · rw [if_neg c] at p; exact p.elim
theorem gp_nil : PPs X pos [] [] (([] : List (FE × FE)).map fun p => (lE X.K W p.1, lE X.K W p.2)) := pps_nil
theorem gp_cons {k v : Expr} {ks : List (Option Expr)} {vs : List Expr} {mk mv : FE} {prs : List (FE × FE)} (hk : GE X W k mk) (hv : GE X W v mv) (hr : PPs X pos ks vs (prs.map fun p => (lE X.K W p.1, lE X.K W p.2))) :
    PPs X pos (some k :: ks) (v :: vs) (((mk, mv) :: prs).map fun p => (lE X.K W p.1, lE X.K W p.2)) := pps_cons hk hv hr
end
end FL

set_option Elab.async false
set_option linter.all false
set_option maxRecDepth 100000
/-! FL, part g: defs, methods, classes of one's own; the law's end. -/
namespace FL
open PySem PySem.Spec PyProof.Rows L2

def spF (K : PySem.W.Frag) (n : Nat) (g : List D → HS → R D) : Sp := fun vs H Q E => ∃ ρ h ds, Rep K ρ h H ∧ DVs K ρ H ds vs ∧ vs.length = n ∧ Post K ρ H (DV K) E Q (g ds h)
/-- a def by its name, as a function of data -/
structure FD (P : Program) (w : World) (K : PySem.W.Frag) (mg : Str → Option Value) (base : Heap) (k : Nat) (x : Str) (n : Nat) (g : List D → HS → R D) : Prop where
  ex : ∃ (f : Addr) (fd : FuncData) (ps : List Str), FnOk P w K mg base (L2.CX P w) k f fd ps (spF K n g) ∧ mg x = some (.ref f) ∧ PySem.W.keepIn K (.ref f) = true ∧ Binds K fd ps []
/-- a method -/
structure MD (P : Program) (w : World) (K : PySem.W.Frag) (mg : Str → Option Value) (base : Heap) (k : Nat) (C : Addr) (m : Str) (n : Nat) (g : List D → HS → R D) : Prop where
  cls : Cls K C
  ex : ∃ (f : Addr) (fd : FuncData) (ps : List Str), FnOk P w K mg base (L2.CX P w) k f fd ps (spF K n g) ∧ Meth K C m f ∧ Binds K fd ps []
/-- a class that is made by its __init__ -/
structure CD (P : Program) (w : World) (K : PySem.W.Frag) (mg : Str → Option Value) (base : Heap) (k : Nat) (x : Str) (C : Addr) (n : Nat) (g : List D → HS → R D) : Prop where
  at_ : mg x = some (.ref C)
  ex : ∃ (f : Addr) (fd : FuncData) (ps : List Str), FnOk P w K mg base (L2.CX P w) k f fd ps (spF K n g) ∧ Mk K C f ∧ Binds K fd ps []
section
variable {X : Cx} {W : WX} {pos p apos : Pos} {x m : Str} {e o : Expr} {es : List Expr} {mo : FE} {ma : FA} {g : List D → HS → R D} {j k n : Nat} {C : Addr}
theorem call_ok {σ : L2.St} {H : Hp} {Q : VK} (hn : ∀ ds h, ∀ b, g ds h = b → True) {ρ : List Addr} {h : HS} {ds : List D} {vs : List V} (r : Rep X.K ρ h H) (z : DVs X.K ρ H ds vs) (hl : vs.length = n) (p : Post X.K ρ H (DV X.K) (fun c d H' => W c d σ H') Q (g ds h)) :
    spF X.K n g vs H Q (WE W σ) := ⟨ρ, h, ds, r, z, hl, p⟩
/-- a call with as many arguments as the def has parameters -/
def mCallF (n : Nat) (g : List D → HS → R D) (ma : FA) : FE := fun σ h => (ma σ h).bind fun ds h1 => if ds.length = n then g ds h1 else .bad
theorem lCallF {K : PySem.W.Frag} (σ : L2.St) (H : Hp) (Q : VK) (q : lE K W (mCallF n g ma) σ H Q) : tCallS (spF K n g) (WE W) (lA K W ma) σ H Q := by
  obtain ⟨ρ, σh, h, rr, s, p⟩ := q
  refine ⟨ρ, σh, h, rr, s, Post.of_bind p fun ds h1 ρ1 vs H1 e1 r1 z1 p1 => ?_⟩
  by_cases c : ds.length = n
  · rw [if_pos c] at p1; exact ⟨ρ1, h1, ds, r1, z1, by rw [← z1.length]; exact c, p1⟩
  · rw [if_neg c] at p1; exact p1.elim
theorem g_call (F : FD X.prog X.w X.K X.mg X.base k x n g) (c : CK X W j) (hk : k ≤ j) (ha : GA X W (e :: es) ma) (hg : Gl X x := by rfl) (hdb : (x == ("__debug__" : Str)) = false := by decide)
    (he : starEach (e :: es) X.env = (false, eval e X.env) :: starEach es X.env := by rfl) (hpl : (backTo pos (starEach es X.env)).any (·.1) = false := by rfl) : GE X W (.Call (.Name x p) (e :: es) [] pos) (mCallF n g ma) := by
  obtain ⟨f, fd, ps, F, hm, hk2, hb⟩ := F.ex
  exact pe_mono (pe_callS F (c.hr.mono hk) hg hm hk2 hb (fun σ => passAt c.tk σ) ha hdb he hpl) lCallF
theorem g_call0 (F : FD X.prog X.w X.K X.mg X.base k x n g) (c : CK X W j) (hk : k ≤ j) (hg : Gl X x := by rfl) (hdb : (x == ("__debug__" : Str)) = false := by decide) : GE X W (.Call (.Name x p) [] [] pos) (mCallF n g mNil) := by
  obtain ⟨f, fd, ps, F, hm, hk2, hb⟩ := F.ex
  refine pe_mono (t := tCallS (spF X.K n g) (WE W) tNil) ⟨fun pins s σ H Q I h => ?_⟩ fun σ H Q q => ?_
  · refine wpAny_Call_Name_kw (ld_glob I hg hm ?_ hdb)
    exact PySem.W.callWith_K0 I.kIn hk2 (run_fnS (us := []) (vs := []) (E := WE W) F (c.hr.mono hk) hb (passAt c.tk σ) I .nil h)
  · obtain ⟨ρ, σh, h, rr, s, p⟩ := q
    show spF X.K n g [] H Q (WE W σ)
    simp only [mCallF, mNil, R.bind] at p
    by_cases c : ([] : List D).length = n
    · rw [if_pos c] at p; exact ⟨ρ, h, [], rr, .nil, c, p⟩
    · rw [if_neg c] at p; exact p.elim
def tMethS (C : Addr) (m : Str) (sp : Sp) (E : L2.St → XK) (ta : TE) (t : TA) : TE := fun σ H Q => ta σ H fun x H1 => ∃ a dx fs, x = .ref a ∧ H1 a = some (.ins C dx fs) ∧ fs.lookup m = none ∧
  t σ H1 fun vs H2 => sp (x :: vs) H2 Q (E σ)
def mMeth (C : Addr) (m : Str) (n : Nat) (g : List D → HS → R D) (mo : FE) (ma : FA) : FE := fun σ h => (mo σ h).bind fun d h1 => match insD [C] h1 d with
  | some (_, _, fs) => if (fs.lookup m).isNone = true then (ma σ h1).bind fun ds h2 => if ds.length + 1 = n then g (d :: ds) h2 else .bad else .bad
  | none => .bad
theorem lMeth {K : PySem.W.Frag} (σ : L2.St) (H : Hp) (Q : VK) (q : lE K W (mMeth C m n g mo ma) σ H Q) : tMethS C m (spF K n g) (WE W) (lE K W mo) (lA K W ma) σ H Q := by
  obtain ⟨ρ, σh, h, rr, s, p⟩ := q
  refine ⟨ρ, σh, h, rr, s, Post.of_bind p fun d h1 ρ1 v H1 e1 r1 z1 p1 => ?_⟩
  cases q : insD [C] h1 d with
  | none => rw [q] at p1; exact p1.elim
  | some t =>
    obtain ⟨i, C', fs⟩ := t
    rw [q] at p1
    simp only at p1
    obtain ⟨ad, dx, vs, rfl, rfl, _, _, hc, hv, zs⟩ := insD_ok r1 z1 q
    have ec : C' = C := by simpa using hc
    subst ec
    by_cases hl : (fs.lookup m).isNone = true
    · rw [if_pos hl] at p1
      refine ⟨ad, dx, vs, rfl, hv, (FDs.look zs m).2 (Option.isNone_iff_eq_none.mp hl), ρ1, σh, h1, r1, s.mono rr e1, Post.of_bind p1 fun ds h2 ρ2 vs2 H2 e2 r2 z2 p2 => ?_⟩
      by_cases c : ds.length + 1 = n
      · rw [if_pos c] at p2; exact ⟨ρ2, h2, _, r2, .cons (z1.mono r1 e2) z2, by rw [List.length_cons, ← z2.length]; exact c, p2⟩
      · rw [if_neg c] at p2; exact p2.elim
    · rw [if_neg hl] at p1; exact p1.elim
theorem g_meth {pl : Sem Bool} (F : MD X.prog X.w X.K X.mg X.base k C m n g) (c : CK X W j) (hk : k ≤ j) (ho : GE X W o mo) (ha : GA X W (e :: es) ma)
    (hst : starEach (e :: es) X.env = (false, eval e X.env) :: starEach es X.env := by rfl) (hpl : (backTo pos (starEach es X.env)).any (·.1) = false := by rfl)
    (ht : eval (.Call (.Attribute o m apos) (e :: es) [] pos) X.env = (do
      let ov ← eval o X.env
      standAt apos.atName
      let (f, first) ← holding [ov] (getMethod ov m pl)
      callWith pos f first (backTo pos (starEach (e :: es) X.env)) (backToKw pos (keywordEach [] X.env))) := by rfl) : GE X W (.Call (.Attribute o m apos) (e :: es) [] pos) (mMeth C m n g mo ma) := by
  obtain ⟨f, fd, ps, Fn, hm, hb⟩ := F.ex
  refine pe_mono (t := tMethS C m (spF X.K n g) (WE W) (lE X.K W mo) (lA X.K W ma)) ⟨fun pins s σ H Q I h => ?_⟩ lMeth
  refine PySem.W.methodCall_KW (pl := pl) (thn (PE.run ho pins s σ H _ I h) fun u s1 ⟨x, H1, I1, rx, a, dx, fs, ex, ea, l, q⟩ => ?_) ht
  subst ex
  obtain rfl : u = Value.ref a := rx
  refine getmeth_ok I1 ea F.cls hm l ?_
  refine PySem.W.callWith_K (first := [.ref a]) (h₀ := X.base) I.ok.mod.kin hm.kp (thn (PA.run ha pos pins s1 σ H1 _ I1 q) fun us s2 ⟨vs, H2, I2, r, q2⟩ => ⟨I2.kIn, ?_⟩) hst hpl
  exact run_fnS (us := .ref a :: us) (vs := .ref a :: vs) (E := WE W) Fn (c.hr.mono hk) hb (passAt c.tk σ) I2 (.cons rfl r) q2
theorem g_meth0 {pl : Sem Bool} (F : MD X.prog X.w X.K X.mg X.base k C m n g) (c : CK X W j) (hk : k ≤ j) (ho : GE X W o mo)
    (ht : eval (.Call (.Attribute o m apos) [] [] pos) X.env = (do
      let ov ← eval o X.env
      standAt apos.atName
      let (f, first) ← holding [ov] (getMethod ov m pl)
      callWith pos f first (backTo pos (starEach [] X.env)) (backToKw pos (keywordEach [] X.env))) := by rfl) : GE X W (.Call (.Attribute o m apos) [] [] pos) (mMeth C m n g mo mNil) := by
  obtain ⟨f, fd, ps, Fn, hm, hb⟩ := F.ex
  refine pe_mono (t := tMethS C m (spF X.K n g) (WE W) (lE X.K W mo) (lA X.K W mNil)) ⟨fun pins s σ H Q I h => ?_⟩ lMeth
  refine PySem.W.methodCall_KW (pl := pl) (thn (PE.run ho pins s σ H _ I h) fun u s1 ⟨x, H1, I1, rx, a, dx, fs, ex, ea, l, q⟩ => ?_) ht
  subst ex
  obtain rfl : u = Value.ref a := rx
  refine getmeth_ok I1 ea F.cls hm l ?_
  have q : spF X.K n g [.ref a] H1 Q (WE W σ) := by
    obtain ⟨ρ, σh, h, rr, s, p⟩ := q
    exact p.use rr .nil
  exact PySem.W.callWith_K0 (first := [.ref a]) I1.kIn hm.kp (run_fnS (us := [.ref a]) (vs := [.ref a]) (E := WE W) Fn (c.hr.mono hk) hb (passAt c.tk σ) I1 (.cons rfl .nil) q)
/-- C(..) -/
def mMake (C : Addr) (n : Nat) (g : List D → HS → R D) (ma : FA) : FE := fun σ h => (ma σ h).bind fun ds h1 => if ds.length + 1 = n then (g (.ref h1.length :: ds) (h1 ++ [.ins C []])).bind fun v h2 => match v with
  | .non => .ok (.ref h1.length) h2
  | _ => .bad
  else .bad
theorem make_ok {K : PySem.W.Frag} {ρ : List Addr} {h : HS} {H : Hp} {ds : List D} {vs : List V} {W : XK} {Q : VK} (r : Rep K ρ h H) (z : DVs K ρ H ds vs) (hl : ds.length + 1 = n)
    (p : Post K ρ H (DV K) W Q ((g (.ref h.length :: ds) (h ++ [.ins C []])).bind fun v h2 => match v with
      | .non => .ok (.ref h.length) h2
      | _ => .bad)) : ∀ x dx, H x = none → H dx = none → dx ≠ x → spF K n g (.ref x :: vs) (upd (upd H dx (.own x)) x (.ins C dx [])) (fun v H2 => v = .non ∧ Q (.ref x) H2) W := by
  intro x dx hx hdx hne
  have e1 : Ext ρ H ρ (upd H dx (.own x)) := .laid hdx
  have r1 := r.laid (o := .own x) hdx
  have hx1 : (upd H dx (.own x)) x = none := by rw [upd_ne (Ne.symm hne)]; exact hx
  have e2 : Ext ρ (upd H dx (.own x)) (ρ ++ [x]) (upd (upd H dx (.own x)) x (.ins C dx [])) := .push hx1
  have r2 := r1.push (m := .ins C []) hx1 (o := .ins C dx []) ⟨dx, [], upd_same, .nil⟩
  have e12 := e1.trans e2 r2.nd
  refine ⟨ρ ++ [x], h ++ [.ins C []], .ref h.length :: ds, r2, .cons (.ref (by rw [← r.len]; simp)) (z.mono r e12), by rw [List.length_cons, ← z.length]; exact hl, ?_⟩
  refine Post.of_bind (Post.ext e12 p) fun v h2 ρ2 u H2 e3 r3 zv p3 => ?_
  cases zv <;> first | exact p3.elim | skip
  exact ⟨rfl, p3.use r3 (.ref (e3.ix (by rw [← r.len]; simp)))⟩
def tMakeS (C : Addr) (sp : Sp) (E : L2.St → XK) (t : TA) : TE := fun σ H Q => t σ H fun vs H1 => ∀ x dx, H1 x = none → H1 dx = none → dx ≠ x →
  sp (.ref x :: vs) (upd (upd H1 dx (.own x)) x (.ins C dx [])) (fun v H2 => v = .non ∧ Q (.ref x) H2) (E σ)
theorem lMake {K : PySem.W.Frag} (σ : L2.St) (H : Hp) (Q : VK) (q : lE K W (mMake C n g ma) σ H Q) : tMakeS C (spF K n g) (WE W) (lA K W ma) σ H Q := by
  obtain ⟨ρ, σh, h, rr, s, p⟩ := q
  refine ⟨ρ, σh, h, rr, s, Post.of_bind p fun ds h1 ρ1 vs H1 e1 r1 z1 p1 => ?_⟩
  by_cases c : ds.length + 1 = n
  · rw [if_pos c] at p1; exact make_ok r1 z1 c p1
  · rw [if_neg c] at p1; exact p1.elim
theorem run_makeS {CX : CXT} {f : Addr} {fd : FuncData} {ps : List Str} {sp : Sp} {E : XK} {pins : List (Addr × Obj)} {σ : L2.St} {H : Hp} {s : Shared} {Q : VK} {us : List Value} {vs : List V} (M : Mk X.K C f) (F : FnOk X.prog X.w X.K X.mg X.base CX k f fd ps sp) (hr : Room (k + 1) X.A) (hb : Binds X.K fd ps [])
    (hx : PassesAt CX X σ E) (I : Inv X pins σ H s) (r : Vals vs us)
    (h : ∀ x dx, H x = none → H dx = none → dx ≠ x → sp (.ref x :: vs) (upd (upd H dx (.own x)) x (.ins C dx [])) (fun v H2 => v = .non ∧ Q (.ref x) H2) E) :
    wpAny (model X.prog X.w) X.A (call (.ref C) us) (EP X pins σ Q) X.xe s := by
  have hq := h (s.heap.objs.size + 1) s.heap.objs.size (I.hok.fresh (Nat.le_succ _)) (I.hok.fresh (Nat.le_refl _)) (Nat.ne_of_lt (Nat.lt_succ_self _))
  have I2 := Inv.made (C := C) I
  have r2 : Vals (V.ref (s.heap.objs.size + 1) :: vs) (Value.ref (s.heap.objs.size + 1) :: us) := .cons rfl r
  have hl : (Value.ref (s.heap.objs.size + 1) :: us).length = ps.length := by
    have e := r2.length
    rw [F.len _ _ _ _ hq] at e
    exact e.symm
  have b := hb _ (Value.ref (s.heap.objs.size + 1) :: us) I2.kIn (by rw [List.append_nil]; exact hl)
  rw [List.append_nil] at b
  refine wpAny_call (make_map (f := f) I.kIn M.makes M.init (beq_iff_eq.mp M.fn) (codeAny_mono (F.run _ X.stack _ _ ⟨Value.ref (s.heap.objs.size + 1) :: us, []⟩ (Value.ref (s.heap.objs.size + 1) :: us) _ _ E (hr.make C us [])
    (I2.env0.make C us []) b r2 hq) fun r s' hq' => ?_))
  cases r with
  | error e => exact hx pins _ _ e s' I2 hq'
  | ok fl =>
    cases fl with
    | ret u =>
      obtain ⟨v, H', I3, rv, ev, q3⟩ := I2.after hq'
      subst ev
      exact ⟨rv, ⟨V.ref (s.heap.objs.size + 1), H', I3, rfl, q3⟩⟩
    | next => exact False.elim hq'
    | brk => exact False.elim hq'
    | cont => exact False.elim hq'
theorem g_make (F : CD X.prog X.w X.K X.mg X.base k x C n g) (c : CK X W j) (hk : k + 1 ≤ j) (ha : GA X W (e :: es) ma) (hg : Gl X x := by rfl) (hdb : (x == ("__debug__" : Str)) = false := by decide)
    (he : starEach (e :: es) X.env = (false, eval e X.env) :: starEach es X.env := by rfl) (hpl : (backTo pos (starEach es X.env)).any (·.1) = false := by rfl) : GE X W (.Call (.Name x p) (e :: es) [] pos) (mMake C n g ma) := by
  obtain ⟨f, fd, ps, Fn, M, hb⟩ := F.ex
  refine pe_mono (t := tMakeS C (spF X.K n g) (WE W) (lA X.K W ma)) ⟨fun pins s σ H Q I h => ?_⟩ lMake
  refine wpAny_Call_Name_kw (ld_glob I hg F.at_ ?_ hdb)
  refine PySem.W.callWith_K (h₀ := X.base) I.ok.mod.kin M.kp (thn (PA.run ha pos pins s σ H _ I h) fun us s1 ⟨vs, H1, I1, r, q⟩ => ⟨I1.kIn, ?_⟩) he hpl
  exact run_makeS M Fn (c.hr.mono hk) hb (passAt c.tk σ) I1 r q
theorem g_make0 (F : CD X.prog X.w X.K X.mg X.base k x C n g) (c : CK X W j) (hk : k + 1 ≤ j) (hg : Gl X x := by rfl) (hdb : (x == ("__debug__" : Str)) = false := by decide) : GE X W (.Call (.Name x p) [] [] pos) (mMake C n g mNil) := by
  obtain ⟨f, fd, ps, Fn, M, hb⟩ := F.ex
  refine pe_mono (t := tMakeS C (spF X.K n g) (WE W) (lA X.K W mNil)) ⟨fun pins s σ H Q I h => ?_⟩ lMake
  refine wpAny_Call_Name_kw (ld_glob I hg F.at_ ?_ hdb)
  obtain ⟨ρ, σh, hh, rr, s', p⟩ := h
  exact PySem.W.callWith_K0 I.kIn M.kp (run_makeS (us := []) (vs := []) M Fn (c.hr.mono hk) hb (passAt c.tk σ) I .nil (p.use rr .nil))
end

/-! ### a def's own rule -/
def runB (N : Nat) (m : FS) : List D → HS → R D := fun ds h => match m (ds.map some ++ List.replicate (N - ds.length) none) h with
  | .nx _ h' => .ok .non h'
  | .rt d h' => .ok d h'
  | .ex x _ h' => .ex x h'
  | _ => .bad
section
variable {P : Program} {w : World} {K : PySem.W.Frag} {mg : Str → Option Value} {base : Heap}
abbrev WD (E : XK) : WX := fun c d _ H => E c d H
theorem start_rep {ρ : List Addr} {H : Hp} {N : List Str} {ds : List D} {vs : List V} (z : DVs K ρ H ds vs) : RepS K ρ H (ds.map some ++ List.replicate (N.length - ds.length) none) (L2.start N vs) := by
  refine ⟨by unfold L2.start; rw [List.length_append, List.length_append, List.length_map, List.length_map, List.length_replicate, List.length_replicate, z.length], fun i d hd => ?_⟩
  by_cases hi : i < ds.length
  · rw [List.getElem?_append_left (by simpa using hi), List.getElem?_map] at hd
    obtain ⟨d', e1, e2⟩ := Option.map_eq_some_iff.mp hd
    cases e2
    obtain ⟨v, ev, zv⟩ := z.get e1
    refine ⟨v, ?_, zv⟩
    unfold L2.start
    rw [List.getElem?_append_left (by rw [List.length_map, ← z.length]; exact hi), List.getElem?_map, ev]
    rfl
  · rw [List.getElem?_append_right (by simpa using hi), List.getElem?_replicate] at hd
    split at hd <;> cases hd
theorem fn_ok {x qual : Str} {st : Stmt} {f : Addr} {fd : FuncData} {N ps : List Str} {k : Nat} {m : FS} (F : Fun K x qual st f fd) (S : FnScope N ps (defScope st))
    (hbody : ∀ (cdv : Value) (A : Around) (outer : List Env) (s : Shared) (H : Hp) (E : XK), CK (cxOf (L2.CX P w) P w K mg base N qual (defScope st) f cdv A outer s H E) (WD E) k →
      GSs (cxOf (L2.CX P w) P w K mg base N qual (defScope st) f cdv A outer s H E) (WD E) (defBody st) m) : FnOk P w K mg base (L2.CX P w) (k + 1) f fd ps (spF K ps.length (runB N.length m)) := by
  refine F.okX S (fun vs H Q E h => ?_) (fun cdv A outer s H vs Q E hr h => ?_)
  · obtain ⟨_, _, _, _, _, hl, _⟩ := h; exact hl
  · obtain ⟨ρ, hh, ds, r, z, hl, p⟩ := h
    have C : CK (cxOf (L2.CX P w) P w K mg base N qual (defScope st) f cdv A outer s H E) (WD E) k := ⟨rfl, S.nd, takes_of rfl rfl rfl rfl, passes_of rfl, hr⟩
    refine ⟨_, hbody cdv A outer s H E C, ρ, _, hh, r, start_rep z, ?_⟩
    show PostS K ρ H (WD E) _ (m (ds.map some ++ List.replicate (N.length - ds.length) none) hh)
    unfold runB at p
    cases q : m (ds.map some ++ List.replicate (N.length - ds.length) none) hh with
    | bad => rw [q] at p; exact p
    | nx σ' h' => rw [q] at p; exact fun ρ' σ' H' e r' s' => p ρ' .non H' e r' .non
    | rt d h' => rw [q] at p; exact p
    | bk => rw [q] at p; exact p.elim
    | ct => rw [q] at p; exact p.elim
    | ex x σ' h' => rw [q] at p; exact fun ρ' dx σ' H' e r' s' z' => p ρ' dx H' e r' z'
theorem fn_imp {k : Nat} {f : Addr} {fd : FuncData} {ps : List Str} {n : Nat} {g g' : List D → HS → R D} (F : FnOk P w K mg base (L2.CX P w) k f fd ps (spF K n g)) (h : ∀ ds hh, ds.length = n → g' ds hh ≠ .bad → g ds hh = g' ds hh) : FnOk P w K mg base (L2.CX P w) k f fd ps (spF K n g') :=
  F.imp fun vs H Q E ⟨ρ, hh, ds, r, z, hl, p⟩ => ⟨ρ, hh, ds, r, z, hl, by
    rw [h ds hh (by rw [z.length]; exact hl) (fun e => by rw [e] at p; exact p)]; exact p⟩
end

/-! ### the law's end -/
theorem law_hsp {K : PySem.W.Frag} {g : List D → HS → R D} {P : List Int → Prop} (hg : ∀ ns : List Int, P ns → ∃ h', g [.cst (ns.map D.int)] [] = .ok (.bl true) h') (H : Hp) (a : Addr) (ns : List Int) (hp : P ns) (hO : Only H) (hS : SqL K H a (ns.map V.int)) :
    spF K 1 g [.ref a] H (fun v _ => v = .bl true) fun _ _ _ => False := by
  obtain ⟨h', e⟩ := hg ns hp
  have c : CsL K H a (ns.map V.int) := by
    rcases hS with (h | ⟨o, h⟩) | h
    · rcases hO a with z | ⟨o, xs, z⟩
      · rw [h] at z; cases z
      · rw [h] at z; cases z
    · exact .inl ⟨o, h⟩
    · exact .inr h
  refine ⟨[], [], [.cst (ns.map D.int)], ⟨rfl, List.nodup_nil, fun i o a e => by simp at e⟩, .cons (.cst c (DVs.ints ns)) .nil, rfl, ?_⟩
  rw [e]
  intro ρ' v H' _ _ z
  cases z
  rfl
theorem law_CX {P : Program} {w : World} {H : Hp} {s : Shared} {e : Value} {s' : Shared} (h : L2.CX P w [] H s (fun _ _ _ => False) e s') : False := by
  obtain ⟨_, _, _, _, _, _, _, _, _, _, _, _, z⟩ := h
  exact z.elim
end FL

set_option Elab.async false
set_option linter.all false
set_option maxRecDepth 100000
/-! FL, part h: further operations. -/
namespace FL
open PySem PySem.Spec PyProof.Rows L2
/-! ### += -/
def dIAdd : D → D → HS → R D
  | .int i, .int j, h => .ok (.int (i + j)) h
  | .str i, .str j, h => if i.length + j.length ≤ sizeLine then .ok (.str (i ++ j)) h else .bad
  | .ref a, .ref b, h => match lstAt h a, lstAt h b with
    | some x, some y => if x.length + y.length ≤ sizeLine then .ok (.ref a) (h.set a (.lst (x ++ y))) else .bad
    | _, _ => .bad
  | _, _, _ => .bad
def rIAdd : R2 := fun x y H Q => rAddI x y H Q ∨ (rAddS x y H Q ∨ rExt2 x y H Q)
theorem o_iadd {X : Cx} : OpR X (inplaceOp .Add) rIAdd := OpR.or iop_add (OpR.or iop_add_str iop_ext)
theorem s_iadd {K : PySem.W.Frag} : OpS K dIAdd rIAdd := by
  intro ρ h H d1 d2 x y W Q r z1 z2 p
  cases z1 <;> cases z2 <;> first | exact p.elim | skip
  · exact .inl ⟨_, _, rfl, rfl, p.use r (.int _)⟩
  · rename_i i j
    by_cases c : i.length + j.length ≤ sizeLine
    · simp only [dIAdd, if_pos c] at p; exact .inr (.inl ⟨_, _, rfl, rfl, c, p.use r (.str _)⟩)
    · simp only [dIAdd, if_neg c] at p; exact p.elim
  · rename_i i a q1 j b q2
    unfold dIAdd at p
    simp only at p
    cases e : lstAt h i with
    | none => rw [e] at p; exact p.elim
    | some xs =>
      cases e2 : lstAt h j with
      | none => rw [e, e2] at p; exact p.elim
      | some ys =>
        rw [e, e2] at p
        simp only at p
        obtain ⟨us, hv, zu⟩ := lstAt_ok r q1 e
        obtain ⟨ws, hw, zw⟩ := lstAt_ok r q2 e2
        by_cases hl : xs.length + ys.length ≤ sizeLine
        · rw [if_pos hl] at p
          have ex := Ext.wrote (o := .lst (us ++ ws)) q1 hv
          exact .inr (.inr ⟨_, _, us, ws, rfl, rfl, hv, hw, by rw [← zu.length, ← zw.length]; exact hl, p ρ _ _ ex (r.wrote q1 hv rfl ⟨_, upd_same, (zu.append zw).mono r ex⟩) (.ref q1)⟩)
        · rw [if_neg hl] at p; exact p.elim
end FL

set_option Elab.async false
set_option linter.all false
set_option maxRecDepth 100000
/-! FL, part i: reading what a def does as a weakest condition. -/
namespace FL
open PySem PySem.Spec PyProof.Rows L2

abbrev XP := XV → HS → Prop
abbrev X0 : XP := fun _ _ => False
/-- it comes to a value that P wants, or raises as X wants -/
def wpR0 {α : Type} (m : R α) (P : α → HS → Prop) (X : XP) : Prop := match m with
  | .ok a h => P a h
  | .ex x h => X x h
  | .bad => False
/-- what is wanted behind a statement -/
structure Tl where
  rt : D → HS → Prop
  bk : Sl → HS → Prop
  ct : Sl → HS → Prop
  ex : XV → Sl → HS → Prop
def wpS0 (m : RS) (N : Sl → HS → Prop) (T : Tl) : Prop := match m with
  | .bad => False
  | .nx σ h => N σ h
  | .rt d h => T.rt d h
  | .bk σ h => T.bk σ h
  | .ct σ h => T.ct σ h
  | .ex x σ h => T.ex x σ h
/-- a return and an exception are wanted -/
abbrev Tl.ret (Q : D → HS → Prop) (X : XP) : Tl := ⟨Q, fun _ _ => False, fun _ _ => False, fun x _ h => X x h⟩
section
variable {α β : Type} {m : R α} {P P' : α → HS → Prop} {X X' : XP} {N N' : Sl → HS → Prop} {T : Tl} {σ : Sl} {h : HS}
theorem wqR_ok {a : α} : wpR0 (.ok a h) P X ↔ P a h := Iff.rfl
theorem wqR_bad : wpR0 (.bad : R α) P X ↔ False := Iff.rfl
theorem wqR_ex {x : XV} : wpR0 (.ex x h : R α) P X ↔ X x h := Iff.rfl
theorem wqR_mono (w : wpR0 m P X) (k : ∀ a h, P a h → P' a h) : wpR0 m P' X := by
  cases m with
  | ok a h => exact k _ _ w
  | bad => exact w
  | ex => exact w
theorem wqR_monoX (w : wpR0 m P X) (k : ∀ a h, P a h → P' a h) (kx : ∀ x h, X x h → X' x h) : wpR0 m P' X' := by
  cases m with
  | ok a h => exact k _ _ w
  | bad => exact w
  | ex => exact kx _ _ w
theorem wqR_elim (w : wpR0 m P X0) : ∃ a h, m = .ok a h ∧ P a h := by
  cases m with
  | ok a h => exact ⟨a, h, rfl, w⟩
  | bad => exact w.elim
  | ex => exact w.elim
theorem wqR_bind {f : α → HS → R β} {Q : β → HS → Prop} : wpR0 (m.bind f) Q X ↔ wpR0 m (fun a h => wpR0 (f a h) Q X) X := by
  cases m <;> exact Iff.rfl
theorem wqR_ite {c : Prop} [Decidable c] {a b : R α} : wpR0 (if c then a else b) P X ↔ if c then wpR0 a P X else wpR0 b P X := by split <;> exact Iff.rfl
theorem wqS_on {k : α → HS → RS} : wpS0 (m.on σ k) N T ↔ wpR0 m (fun a h => wpS0 (k a h) N T) (fun x h => T.ex x σ h) := by
  cases m <;> exact Iff.rfl
theorem wqS_nx : wpS0 (.nx σ h) N T ↔ N σ h := Iff.rfl
theorem wqS_rt {d : D} : wpS0 (.rt d h) N T ↔ T.rt d h := Iff.rfl
theorem wqS_ite {c : Prop} [Decidable c] {a b : RS} : wpS0 (if c then a else b) N T ↔ if c then wpS0 a N T else wpS0 b N T := by split <;> exact Iff.rfl
theorem wqS_mono {s : RS} (w : wpS0 s N T) (k : ∀ σ h, N σ h → N' σ h) : wpS0 s N' T := by
  cases s with
  | nx σ h => exact k _ _ w
  | _ => exact w

/-! ### statements -/
variable {u v : FS} {e ma mb : FE} {t tb : FT} {g : FG} {it : FI} {XE : XP}
theorem wq_skip : wpS0 (mSkip σ h) N T ↔ N σ h := Iff.rfl
theorem wq_seq : wpS0 (mSeq u v σ h) N T ↔ wpS0 (u σ h) (fun σ h => wpS0 (v σ h) N T) T := by
  unfold mSeq
  cases u σ h <;> exact Iff.rfl
theorem wq_drop : wpS0 (mDrop e σ h) N T ↔ wpR0 (e σ h) (fun _ h => N σ h) (fun x h => T.ex x σ h) := wqS_on
theorem wq_ret : wpS0 (mRet e σ h) N T ↔ wpR0 (e σ h) T.rt (fun x h => T.ex x σ h) := wqS_on
theorem wq_retN : wpS0 (mRetN σ h) N T ↔ T.rt .non h := Iff.rfl
theorem wq_brk : wpS0 (mBrk σ h) N T ↔ T.bk σ h := Iff.rfl
theorem wq_cnt : wpS0 (mCnt σ h) N T ↔ T.ct σ h := Iff.rfl
theorem wq_if : wpS0 (mIfS t u v σ h) N T ↔ wpR0 (t σ h) (fun c h => if c = true then wpS0 (u σ h) N T else wpS0 (v σ h) N T) (fun x h => T.ex x σ h) := by
  unfold mIfS
  rw [wqS_on]
  simp only [wqS_ite]
theorem wq_asg : wpS0 (mAsg e g σ h) N T ↔ wpR0 (e σ h) (fun d h => wpR0 (g d σ h) N (fun x h => T.ex x σ h)) (fun x h => T.ex x σ h) := by
  unfold mAsg
  rw [wqS_on]
  simp only [wqS_on]
  exact Iff.rfl
theorem wq_to {i : Nat} {d : D} {P : Sl → HS → Prop} : wpR0 (mTo i d σ h) P X ↔ P (σ.set i (some d)) h := Iff.rfl
theorem wq_tos {is : List Nat} {d : D} {P : Sl → HS → Prop} : wpR0 (mTos is d σ h) P X ↔ match d with
  | .tup ds => match setAll is ds σ with
    | some σ' => P σ' h
    | none => False
  | _ => False := by
  unfold mTos
  cases d <;> first | exact Iff.rfl | skip
  rename_i ds
  simp only
  cases setAll is ds σ <;> exact Iff.rfl
theorem wq_toIx {mo mi : FE} {d : D} {P : Sl → HS → Prop} : wpR0 (mToIx mo mi d σ h) P X ↔ wpR0 (mo σ h) (fun o h => wpR0 (mi σ h) (fun i h => match dSet o i d h with
  | some h => P σ h
  | none => False) X) X := by
  unfold mToIx
  rw [wqR_bind]
  simp only [wqR_bind]
  refine iff_of_eq (congrArg (fun f => wpR0 (mo σ h) f X) (funext fun o => funext fun h => congrArg (fun f => wpR0 (mi σ h) f X) (funext fun i => funext fun h => ?_)))
  cases dSet o i d h <;> rfl
theorem wq_aug {i : Nat} {f : D → D → HS → R D} : wpS0 (mAug i f e σ h) N T ↔ match σ[i]? with
  | some (some d) => wpR0 (e σ h) (fun y h => wpR0 (f d y h) (fun z h => N (σ.set i (some z)) h) (fun x h => T.ex x σ h)) (fun x h => T.ex x σ h)
  | _ => False := by
  unfold mAug
  rcases σ[i]? with _ | _ | d
  · exact Iff.rfl
  · exact Iff.rfl
  · simp only
    rw [wqS_on]
    simp only [wqS_on]
    exact Iff.rfl
theorem wq_augK {mo mi : FE} {f : D → D → HS → R D} : wpS0 (mAugK mo mi f e σ h) N T ↔ wpR0 (mo σ h) (fun o h => wpR0 (mi σ h) (fun i h => match dictD h o, keyD i with
  | some kvs, some k => match getK kvs k with
    | some d => wpR0 (e σ h) (fun y h => wpR0 (f d y h) (fun z h => match dSetK o i z h with
      | some h => N σ h
      | none => False) (fun x h => T.ex x σ h)) (fun x h => T.ex x σ h)
    | none => False
  | _, _ => False) (fun x h => T.ex x σ h)) (fun x h => T.ex x σ h) := by
  unfold mAugK
  rw [wqS_on]
  simp only [wqS_on]
  refine iff_of_eq (congrArg (fun f => wpR0 (mo σ h) f _) (funext fun o => funext fun h => congrArg (fun f => wpR0 (mi σ h) f _) (funext fun i => funext fun h => ?_)))
  cases dictD h o with
  | none => rfl
  | some kvs =>
    cases keyD i with
    | none => rfl
    | some k =>
      simp only
      cases getK kvs k with
      | none => rfl
      | some d =>
        simp only [wqS_on]
        refine congrArg (fun f => wpR0 (e σ h) f _) (funext fun y => funext fun h => congrArg (fun f => wpR0 _ f _) (funext fun z => funext fun h => ?_))
        cases dSetK o i z h <;> rfl
theorem wq_fldSet {Cs : List Addr} {f : Str} {mo : FE} : wpS0 (mFldSet Cs f mo e σ h) N T ↔ wpR0 (e σ h) (fun y h => wpR0 (mo σ h) (fun o h => match insD Cs h o with
  | some (i, C, fs) => if fs.length < 1000 then N σ (h.set i (.ins C (putA f y fs))) else False
  | none => False) (fun x h => T.ex x σ h)) (fun x h => T.ex x σ h) := by
  unfold mFldSet
  rw [wqS_on]
  simp only [wqS_on]
  refine iff_of_eq (congrArg (fun f => wpR0 (e σ h) f _) (funext fun y => funext fun h => congrArg (fun f => wpR0 (mo σ h) f _) (funext fun o => funext fun h => ?_)))
  cases insD Cs h o with
  | none => rfl
  | some t =>
    obtain ⟨i, C, fs⟩ := t
    simp only
    split <;> rfl
theorem wq_fldAug {Cs : List Addr} {f : Str} {mo : FE} {g : D → D → HS → R D} : wpS0 (mFldAug Cs f mo g e σ h) N T ↔ wpR0 (mo σ h) (fun o h => match insD Cs h o with
  | some (i, C, fs) => match fs.lookup f with
    | some d => wpR0 (e σ h) (fun y h => wpR0 (g d y h) (fun z h => match insD [C] h o with
      | some (_, _, fs') => if fs'.length < 1000 then N σ (h.set i (.ins C (putA f z fs'))) else False
      | none => False) (fun x h => T.ex x σ h)) (fun x h => T.ex x σ h)
    | none => False
  | none => False) (fun x h => T.ex x σ h) := by
  unfold mFldAug
  rw [wqS_on]
  refine iff_of_eq (congrArg (fun f => wpR0 (mo σ h) f _) (funext fun o => funext fun h => ?_))
  cases insD Cs h o with
  | none => rfl
  | some t =>
    obtain ⟨i, C, fs⟩ := t
    simp only
    cases fs.lookup f with
    | none => rfl
    | some d =>
      simp only [wqS_on]
      refine congrArg (fun f => wpR0 (e σ h) f _) (funext fun y => funext fun h => congrArg (fun f => wpR0 _ f _) (funext fun z => funext fun h => ?_))
      cases insD [C] h o with
      | none => rfl
      | some t =>
        obtain ⟨j, C', fs'⟩ := t
        simp only
        split <;> rfl

/-! ### expressions -/
theorem wq_var {i : Nat} {P : D → HS → Prop} : wpR0 (mVar i σ h) P X ↔ match σ[i]? with
  | some (some d) => P d h
  | _ => False := by
  unfold mVar
  rcases σ[i]? with _ | _ | d <;> exact Iff.rfl
theorem wq_c {d : D} {P : D → HS → Prop} : wpR0 (mC d σ h) P X ↔ P d h := Iff.rfl
theorem wq_op {f : D → D → HS → R D} {P : D → HS → Prop} : wpR0 (mOp f ma mb σ h) P X ↔ wpR0 (ma σ h) (fun x h => wpR0 (mb σ h) (fun y h => wpR0 (f x y h) P X) X) X := by
  unfold mOp
  rw [wqR_bind]
  simp only [wqR_bind]
theorem wq_un {f : D → HS → R D} {P : D → HS → Prop} : wpR0 (mUn f ma σ h) P X ↔ wpR0 (ma σ h) (fun x h => wpR0 (f x h) P X) X := wqR_bind
theorem wq_nil {P : List D → HS → Prop} : wpR0 (mNil σ h) P X ↔ P [] h := Iff.rfl
theorem wq_cons {mr : FA} {P : List D → HS → Prop} : wpR0 (mCons ma mr σ h) P X ↔ wpR0 (ma σ h) (fun x h => wpR0 (mr σ h) (fun xs h => P (x :: xs) h) X) X := by
  unfold mCons
  rw [wqR_bind]
  simp only [wqR_bind]
  exact Iff.rfl
theorem wq_tup {mr : FA} {P : D → HS → Prop} : wpR0 (mTup mr σ h) P X ↔ wpR0 (mr σ h) (fun xs h => if xs.length ≤ sizeLine then P (.tup xs) h else False) X := by
  unfold mTup
  rw [wqR_bind]
  simp only [wqR_ite]
  exact Iff.rfl
theorem wq_lst {mr : FA} {P : D → HS → Prop} : wpR0 (mLst mr σ h) P X ↔ wpR0 (mr σ h) (fun xs h => if xs.length ≤ sizeLine then P (.ref h.length) (h ++ [.lst xs]) else False) X := by
  unfold mLst
  rw [wqR_bind]
  simp only [wqR_ite]
  exact Iff.rfl
theorem wq_dict0 {P : D → HS → Prop} : wpR0 (mDict0 σ h) P X ↔ P (.ref h.length) (h ++ [.dK []]) := Iff.rfl
theorem wq_dict {prs : List (FE × FE)} {P : D → HS → Prop} : wpR0 (mDict prs σ h) P X ↔ wpR0 (mPairs prs σ h) (fun ps h => if ps.length ≤ 15 then P (.ref h.length) (h ++ [.dK (mergeD [] ps)]) else False) X := by
  unfold mDict
  rw [wqR_bind]
  simp only [wqR_ite]
  exact Iff.rfl
theorem wq_pairs0 {P : List (Key × D) → HS → Prop} : wpR0 (mPairs [] σ h) P X ↔ P [] h := Iff.rfl
theorem wq_pairs {mk mv : FE} {r : List (FE × FE)} {P : List (Key × D) → HS → Prop} : wpR0 (mPairs ((mk, mv) :: r) σ h) P X ↔ wpR0 (mk σ h) (fun k h => wpR0 (mv σ h) (fun v h => match keyD k with
  | some k => wpR0 (mPairs r σ h) (fun ps h => P ((k, v) :: ps) h) X
  | none => False) X) X := by
  show wpR0 ((mk σ h).bind fun k h1 => (mv σ h1).bind fun v h2 => match keyD k with
    | some k => (mPairs r σ h2).bind fun ps h3 => .ok ((k, v) :: ps) h3
    | none => .bad) P X ↔ _
  rw [wqR_bind]
  simp only [wqR_bind]
  refine iff_of_eq (congrArg (fun f => wpR0 (mk σ h) f _) (funext fun o => funext fun h => congrArg (fun f => wpR0 (mv σ h) f _) (funext fun i => funext fun h => ?_)))
  cases keyD o with
  | none => rfl
  | some k => simp only [wqR_bind]; rfl
theorem wq_call {f : List D → HS → R D} {mr : FA} {P : D → HS → Prop} : wpR0 (mCall f mr σ h) P X ↔ wpR0 (mr σ h) (fun xs h => wpR0 (f xs h) P X) X := wqR_bind
theorem wq_callF {n : Nat} {f : List D → HS → R D} {mr : FA} {P : D → HS → Prop} : wpR0 (mCallF n f mr σ h) P X ↔ wpR0 (mr σ h) (fun xs h => if xs.length = n then wpR0 (f xs h) P X else False) X := by
  unfold mCallF
  rw [wqR_bind]
  simp only [wqR_ite]
  exact Iff.rfl
theorem wq_tru {P : Bool → HS → Prop} : wpR0 (mTru e σ h) P X ↔ wpR0 (e σ h) (fun d h => match truB h d with
  | some b => P b h
  | none => False) X := by
  unfold mTru
  rw [wqR_bind]
  refine iff_of_eq (congrArg (fun f => wpR0 (e σ h) f X) (funext fun d => funext fun h => ?_))
  cases truB h d <;> rfl
theorem wq_bl {P : Bool → HS → Prop} : wpR0 (mBl e σ h) P X ↔ wpR0 (e σ h) (fun d h => match d with
  | .bl b => P b h
  | _ => False) X := by
  unfold mBl
  rw [wqR_bind]
  refine iff_of_eq (congrArg (fun f => wpR0 (e σ h) f X) (funext fun d => funext fun h => ?_))
  cases d <;> rfl
theorem wq_and {P : Bool → HS → Prop} : wpR0 (mAnd t tb σ h) P X ↔ wpR0 (t σ h) (fun c h => if c = true then wpR0 (tb σ h) P X else P false h) X := by
  unfold mAnd
  rw [wqR_bind]
  simp only [wqR_ite]
  exact Iff.rfl
theorem wq_or {P : Bool → HS → Prop} : wpR0 (mOr t tb σ h) P X ↔ wpR0 (t σ h) (fun c h => if c = true then P true h else wpR0 (tb σ h) P X) X := by
  unfold mOr
  rw [wqR_bind]
  simp only [wqR_ite]
  exact Iff.rfl
theorem wq_not {P : Bool → HS → Prop} : wpR0 (mNot t σ h) P X ↔ wpR0 (t σ h) (fun c h => P (!c) h) X := wqR_bind
theorem wq_andV {P : D → HS → Prop} : wpR0 (mAndV ma mb σ h) P X ↔ wpR0 (ma σ h) (fun d h => match d with
  | .bl b => if b = true then wpR0 (mb σ h) P X else P (.bl false) h
  | _ => False) X := by
  unfold mAndV
  rw [wqR_bind]
  refine iff_of_eq (congrArg (fun f => wpR0 (ma σ h) f X) (funext fun d => funext fun h => ?_))
  cases d <;> first | rfl | skip
  rename_i b
  cases b
  · simp [wpR0]
  · simp
theorem wq_orV {P : D → HS → Prop} : wpR0 (mOrV ma mb σ h) P X ↔ wpR0 (ma σ h) (fun d h => match d with
  | .bl b => if b = true then P (.bl true) h else wpR0 (mb σ h) P X
  | _ => False) X := by
  unfold mOrV
  rw [wqR_bind]
  refine iff_of_eq (congrArg (fun f => wpR0 (ma σ h) f X) (funext fun d => funext fun h => ?_))
  cases d <;> first | rfl | skip
  rename_i b
  cases b
  · simp
  · simp [wpR0]
theorem wq_notV {P : D → HS → Prop} : wpR0 (mNotV ma σ h) P X ↔ wpR0 (ma σ h) (fun d h => match d with
  | .bl b => P (.bl !b) h
  | _ => False) X := by
  unfold mNotV
  rw [wqR_bind]
  refine iff_of_eq (congrArg (fun f => wpR0 (ma σ h) f X) (funext fun d => funext fun h => ?_))
  cases d <;> rfl
theorem wq_part {P : Option Int → HS → Prop} : wpR0 (mPart e σ h) P X ↔ wpR0 (e σ h) (fun d h => match d with
  | .int i => P (some i) h
  | _ => False) X := by
  unfold mPart
  rw [wqR_bind]
  refine iff_of_eq (congrArg (fun f => wpR0 (e σ h) f X) (funext fun d => funext fun h => ?_))
  cases d <;> rfl
theorem wq_noPart {P : Option Int → HS → Prop} : wpR0 (mNoPart σ h) P X ↔ P none h := Iff.rfl
theorem wq_sl {ml mh : FO} {P : D → HS → Prop} : wpR0 (mSl e ml mh σ h) P X ↔ wpR0 (e σ h) (fun x h => wpR0 (ml σ h) (fun l h => wpR0 (mh σ h) (fun u h => wpR0 (dSl x l u h) P X) X) X) X := by
  unfold mSl
  rw [wqR_bind]
  simp only [wqR_bind]
theorem wq_bm {S : String} {f : D → List D → HS → R D} {mr : FA} {P : D → HS → Prop} : wpR0 (mBM S f e mr σ h) P X ↔ wpR0 (e σ h) (fun d h => if tyMD S h d = true then wpR0 (mr σ h) (fun xs h => wpR0 (f d xs h) P X) X else False) X := by
  unfold mBM
  rw [wqR_bind]
  simp only [wqR_ite, wqR_bind]
  exact Iff.rfl
theorem wq_ifE {P : D → HS → Prop} : wpR0 (mIf t ma mb σ h) P X ↔ wpR0 (t σ h) (fun c h => if c = true then wpR0 (ma σ h) P X else wpR0 (mb σ h) P X) X := by
  unfold mIf
  rw [wqR_bind]
  simp only [wqR_ite]
theorem wq_fld {Cs : List Addr} {f : Str} {P : D → HS → Prop} : wpR0 (mFld Cs f e σ h) P X ↔ wpR0 (e σ h) (fun d h => match insD Cs h d with
  | some (_, _, fs) => match fs.lookup f with
    | some v => P v h
    | none => False
  | none => False) X := by
  unfold mFld
  rw [wqR_bind]
  refine iff_of_eq (congrArg (fun f => wpR0 (e σ h) f X) (funext fun d => funext fun h => ?_))
  cases insD Cs h d with
  | none => rfl
  | some t =>
    obtain ⟨i, C, fs⟩ := t
    simp only
    cases fs.lookup f <;> rfl
theorem wq_meth {C : Addr} {mn : Str} {n : Nat} {f : List D → HS → R D} {mr : FA} {P : D → HS → Prop} : wpR0 (mMeth C mn n f e mr σ h) P X ↔ wpR0 (e σ h) (fun d h => match insD [C] h d with
  | some (_, _, fs) => if (fs.lookup mn).isNone = true then wpR0 (mr σ h) (fun xs h => if xs.length + 1 = n then wpR0 (f (d :: xs) h) P X else False) X else False
  | none => False) X := by
  unfold mMeth
  rw [wqR_bind]
  refine iff_of_eq (congrArg (fun f => wpR0 (e σ h) f X) (funext fun d => funext fun h => ?_))
  cases insD [C] h d with
  | none => rfl
  | some t =>
    obtain ⟨i, C, fs⟩ := t
    simp only [wqR_ite, wqR_bind]
    rfl
theorem wq_make {C : Addr} {n : Nat} {f : List D → HS → R D} {mr : FA} {P : D → HS → Prop} : wpR0 (mMake C n f mr σ h) P X ↔ wpR0 (mr σ h) (fun xs h => if xs.length + 1 = n then wpR0 (f (.ref h.length :: xs) (h ++ [.ins C []])) (fun v h2 => match v with
  | .non => P (.ref h.length) h2
  | _ => False) X else False) X := by
  unfold mMake
  rw [wqR_bind]
  refine iff_of_eq (congrArg (fun f => wpR0 (mr σ h) f X) (funext fun d => funext fun h => ?_))
  by_cases q : d.length + 1 = n
  · rw [if_pos q, if_pos q, wqR_bind]
    refine congrArg (fun f => wpR0 _ f X) (funext fun v => funext fun h => ?_)
    cases v <;> rfl
  · rw [if_neg q, if_neg q]; rfl
theorem wq_lockE {i : Nat} {P : D → HS → Prop} : wpR0 (mLockE i e σ h) P X ↔ match σ[i]? with
  | some (some (.ref a)) => match h[a]? with
    | some (.dK kvs) => wpR0 (e σ (h.set a (.fdK kvs))) (fun d h' => P d (h'.set a (.dK kvs))) X0
    | _ => False
  | _ => False := by
  unfold mLockE
  rcases σ[i]? with _ | _ | d
  · exact Iff.rfl
  · exact Iff.rfl
  · cases d <;> first | exact Iff.rfl | skip
    rename_i a
    simp only
    rcases h[a]? with _ | o
    · exact Iff.rfl
    · cases o <;> first | exact Iff.rfl | skip
      rename_i kvs
      simp only
      cases e σ (h.set a (.fdK kvs)) <;> exact Iff.rfl
/-! ### a def -/
theorem wq_runB {n : Nat} {m : FS} {ds : List D} {Q : D → HS → Prop} : wpR0 (runB n m ds h) Q X ↔ wpS0 (m (ds.map some ++ List.replicate (n - ds.length) none) h) (fun _ h => Q .non h) (.ret Q X) := by
  unfold runB
  cases q : m (ds.map some ++ List.replicate (n - ds.length) none) h <;> exact Iff.rfl

/-! ### loops -/
theorem wq_forE : wpS0 (mFor it g u σ h) N T ↔ wpR0 (it σ h) (fun J h => wpS0 (forL g u J J.n 0 σ h) N T) (fun x h => T.ex x σ h) := wqS_on
theorem wq_rng1 {ma : FA} {P : ItD → HS → Prop} : wpR0 (mRange1 ma σ h) P X ↔ wpR0 (ma σ h) (fun ds h => match ds with
  | [.int j] => if -(2 ^ 62) ≤ j ∧ j < 2 ^ 62 then P (itRange 0 j.toNat) h else False
  | _ => False) X := by
  unfold mRange1
  rw [wqR_bind]
  refine iff_of_eq (congrArg (fun f => wpR0 (ma σ h) f X) (funext fun ds => funext fun h => ?_))
  split
  · rw [wqR_ite]; rfl
  · rename_i q
    first
      | rfl
      | (show False = _
         split
         · exact (q _ rfl).elim
         · rfl)
theorem wq_rng2 {ma : FA} {P : ItD → HS → Prop} : wpR0 (mRange2 ma σ h) P X ↔ wpR0 (ma σ h) (fun ds h => match ds with
  | [.int i, .int j] => if -(2 ^ 62) ≤ i ∧ i < 2 ^ 62 ∧ -(2 ^ 62) ≤ j ∧ j < 2 ^ 62 then P (itRange i (j - i).toNat) h else False
  | _ => False) X := by
  unfold mRange2
  rw [wqR_bind]
  refine iff_of_eq (congrArg (fun f => wpR0 (ma σ h) f X) (funext fun ds => funext fun h => ?_))
  split
  · rw [wqR_ite]; rfl
  · rename_i q
    first
      | rfl
      | (show False = _
         split
         · exact (q _ _ rfl).elim
         · rfl)
theorem wq_seqI {P : ItD → HS → Prop} : wpR0 (mSeqI e σ h) P X ↔ wpR0 (e σ h) (fun d h => wpR0 (itSeq d h) P X) X := wqR_bind
theorem wq_forL (J : ItD) (I : Nat → Sl → HS → Prop) (h0 : I 0 σ h)
    (step : ∀ j σ h, I j σ h → j < J.n → ∃ d, J.get j h = some d ∧ wpR0 (g d σ h) (fun σ h => wpS0 (u σ h) (I (j + 1)) { T with ct := I (j + 1), bk := N }) (fun x h => T.ex x σ h))
    (fin : ∀ σ h, I J.n σ h → J.fin h = true ∧ N σ h) : wpS0 (forL g u J J.n 0 σ h) N T := by
  have go : ∀ n j σ h, j + n = J.n → I j σ h → wpS0 (forL g u J n j σ h) N T := by
    intro n
    induction n with
    | zero =>
      intro j σ h e i
      have : j = J.n := by omega
      subst this
      obtain ⟨f1, f2⟩ := fin σ h i
      unfold forL
      rw [if_pos f1]
      exact f2
    | succ n ih =>
      intro j σ h e i
      obtain ⟨d, e1, w⟩ := step j σ h i (by omega)
      unfold forL
      rw [e1]
      refine wqS_on.mpr (wqR_mono w fun σ1 h1 w1 => ?_)
      cases q : u σ1 h1 with
      | nx σ2 h2 => rw [q] at w1; exact ih (j + 1) σ2 h2 (by omega) w1
      | ct σ2 h2 => rw [q] at w1; exact ih (j + 1) σ2 h2 (by omega) w1
      | bk σ2 h2 => rw [q] at w1; exact w1
      | rt d h2 => rw [q] at w1; exact w1
      | ex x σ2 h2 => rw [q] at w1; exact w1
      | bad => rw [q] at w1; exact w1
  exact go J.n 0 σ h (by omega) h0
/-- while, by an invariant and a number that falls -/
theorem wq_while (I : Sl → HS → Prop) (μ : Sl → HS → Nat) (h0 : I σ h)
    (step : ∀ σ h, I σ h → wpR0 (t σ h) (fun c h1 => if c = true then wpS0 (u σ h1) (fun σ' h' => I σ' h' ∧ μ σ' h' < μ σ h) { T with ct := fun σ' h' => I σ' h' ∧ μ σ' h' < μ σ h, bk := N } else N σ h1) (fun x h => T.ex x σ h)) : wpS0 (mWhile t u σ h) N T := by
  have go : ∀ n σ h, μ σ h < n → I σ h → wpS0 (mWhile t u σ h) N T := by
    intro n
    induction n with
    | zero => intro σ h hl; omega
    | succ n ih =>
      intro σ h hl i
      rw [mWhile_eq]
      refine wqS_on.mpr (wqR_mono (step σ h i) fun c h1 w => ?_)
      cases c with
      | false => exact w
      | true =>
        simp only [if_true] at w ⊢
        cases q : u σ h1 with
        | nx σ2 h2 => rw [q] at w; exact ih σ2 h2 (by have := w.2; omega) w.1
        | ct σ2 h2 => rw [q] at w; exact ih σ2 h2 (by have := w.2; omega) w.1
        | bk σ2 h2 => rw [q] at w; exact w
        | rt d h2 => rw [q] at w; exact w
        | ex x σ2 h2 => rw [q] at w; exact w
        | bad => rw [q] at w; exact w
  exact go _ σ h (Nat.lt_succ_self _) h0
/-- a comprehension -/
theorem wq_lcE {tg : Tgt} {tt : FT} {te : FE} {vs : List Nat} {P : D → HS → Prop} : wpR0 (mLc it tg tt te vs σ h) P X ↔ wpR0 (it σ h) (fun J h => wpR0 (lcL tg tt te J (wipeD σ vs) J.n 0 [] h) (fun ds h => P (.ref h.length) (h ++ [.lst ds])) X) X := by
  unfold mLc
  rw [wqR_bind]
  simp only [wqR_bind]
  exact Iff.rfl
theorem wq_lcL {tg : Tgt} {tt : FT} {te : FE} {P : List D → HS → Prop} (J : ItD) (I : Nat → List D → HS → Prop) (h0 : I 0 [] h)
    (step : ∀ j acc h, I j acc h → j < J.n → ∃ d, J.get j h = some d ∧ wpR0 (tg.m d σ h) (fun σ h => wpR0 (tt σ h) (fun b h => if b = true then wpR0 (te σ h) (fun y h => acc.length < sizeLine ∧ I (j + 1) (acc ++ [y]) h) X0 else I (j + 1) acc h) X0) X0)
    (fin : ∀ acc h, I J.n acc h → J.fin h = true ∧ P acc h) : wpR0 (lcL tg tt te J σ J.n 0 [] h) P X := by
  have go : ∀ n j acc h, j + n = J.n → I j acc h → wpR0 (lcL tg tt te J σ n j acc h) P X := by
    intro n
    induction n with
    | zero =>
      intro j acc h e i
      have : j = J.n := by omega
      subst this
      obtain ⟨f1, f2⟩ := fin acc h i
      unfold lcL
      rw [if_pos f1]
      exact f2
    | succ n ih =>
      intro j acc h e i
      obtain ⟨d, e1, w⟩ := step j acc h i (by omega)
      unfold lcL
      rw [e1]
      simp only
      obtain ⟨σ1, h1, q1, w⟩ := wqR_elim w
      rw [q1]
      simp only
      obtain ⟨b, h2, q2, w⟩ := wqR_elim w
      rw [q2]
      cases b with
      | false => exact ih (j + 1) acc h2 (by omega) w
      | true =>
        simp only [if_true] at w ⊢
        obtain ⟨y, h3, q3, hl, w⟩ := wqR_elim w
        rw [q3]
        simp only
        rw [if_pos hl]
        exact ih (j + 1) _ h3 (by omega) w
  exact go J.n 0 [] h (by omega) h0
end
/-- the same, closed -/
@[irreducible] def wpR {α : Type} (m : R α) (P : α → HS → Prop) (X : XP) : Prop := wpR0 m P X
@[irreducible] def wpS (m : RS) (N : Sl → HS → Prop) (T : Tl) : Prop := wpS0 m N T
theorem wpR_eq {α : Type} : @wpR α = @wpR0 α := by
  funext m P X
  unfold wpR
  rfl
theorem wpS_eq : wpS = wpS0 := by
  funext m N T
  unfold wpS
  rfl

theorem wpR_ok {a : α} : wpR (.ok a h) P X ↔ P a h := by
  have q := @wqR_ok
  simp only [← wpR_eq, ← wpS_eq] at q
  exact q 
theorem wpR_bad : wpR (.bad : R α) P X ↔ False := by
  have q := @wqR_bad
  simp only [← wpR_eq, ← wpS_eq] at q
  exact q 
theorem wpR_ex {x : XV} : wpR (.ex x h : R α) P X ↔ X x h := by
  have q := @wqR_ex
  simp only [← wpR_eq, ← wpS_eq] at q
  exact q 
theorem wpR_mono (w : wpR m P X) (k : ∀ a h, P a h → P' a h) : wpR m P' X := by
  have q := @wqR_mono
  simp only [← wpR_eq, ← wpS_eq] at q
  exact q w k
theorem wpR_monoX (w : wpR m P X) (k : ∀ a h, P a h → P' a h) (kx : ∀ x h, X x h → X' x h) : wpR m P' X' := by
  have q := @wqR_monoX
  simp only [← wpR_eq, ← wpS_eq] at q
  exact q w k kx
theorem wpR_elim (w : wpR m P X0) : ∃ a h, m = .ok a h ∧ P a h := by
  have q := @wqR_elim
  simp only [← wpR_eq, ← wpS_eq] at q
  exact q w
theorem wpR_bind {f : α → HS → R β} {Q : β → HS → Prop} : wpR (m.bind f) Q X ↔ wpR m (fun a h => wpR (f a h) Q X) X := by
  have q := @wqR_bind
  simp only [← wpR_eq, ← wpS_eq] at q
  exact q 
theorem wpR_ite {c : Prop} [Decidable c] {a b : R α} : wpR (if c then a else b) P X ↔ if c then wpR a P X else wpR b P X := by
  have q := @wqR_ite
  simp only [← wpR_eq, ← wpS_eq] at q
  exact q 
theorem wpS_on {k : α → HS → RS} : wpS (m.on σ k) N T ↔ wpR m (fun a h => wpS (k a h) N T) (fun x h => T.ex x σ h) := by
  have q := @wqS_on
  simp only [← wpR_eq, ← wpS_eq] at q
  exact q 
theorem wpS_nx : wpS (.nx σ h) N T ↔ N σ h := by
  have q := @wqS_nx
  simp only [← wpR_eq, ← wpS_eq] at q
  exact q 
theorem wpS_rt {d : D} : wpS (.rt d h) N T ↔ T.rt d h := by
  have q := @wqS_rt
  simp only [← wpR_eq, ← wpS_eq] at q
  exact q 
theorem wpS_ite {c : Prop} [Decidable c] {a b : RS} : wpS (if c then a else b) N T ↔ if c then wpS a N T else wpS b N T := by
  have q := @wqS_ite
  simp only [← wpR_eq, ← wpS_eq] at q
  exact q 
theorem wpS_mono {s : RS} (w : wpS s N T) (k : ∀ σ h, N σ h → N' σ h) : wpS s N' T := by
  have q := @wqS_mono
  simp only [← wpR_eq, ← wpS_eq] at q
  exact q w k
theorem wp_skip : wpS (mSkip σ h) N T ↔ N σ h := by
  have q := @wq_skip
  simp only [← wpR_eq, ← wpS_eq] at q
  exact q 
theorem wp_seq : wpS (mSeq u v σ h) N T ↔ wpS (u σ h) (fun σ h => wpS (v σ h) N T) T := by
  have q := @wq_seq
  simp only [← wpR_eq, ← wpS_eq] at q
  exact q 
theorem wp_drop : wpS (mDrop e σ h) N T ↔ wpR (e σ h) (fun _ h => N σ h) (fun x h => T.ex x σ h) := by
  have q := @wq_drop
  simp only [← wpR_eq, ← wpS_eq] at q
  exact q 
theorem wp_ret : wpS (mRet e σ h) N T ↔ wpR (e σ h) T.rt (fun x h => T.ex x σ h) := by
  have q := @wq_ret
  simp only [← wpR_eq, ← wpS_eq] at q
  exact q 
theorem wp_retN : wpS (mRetN σ h) N T ↔ T.rt .non h := by
  have q := @wq_retN
  simp only [← wpR_eq, ← wpS_eq] at q
  exact q 
theorem wp_brk : wpS (mBrk σ h) N T ↔ T.bk σ h := by
  have q := @wq_brk
  simp only [← wpR_eq, ← wpS_eq] at q
  exact q 
theorem wp_cnt : wpS (mCnt σ h) N T ↔ T.ct σ h := by
  have q := @wq_cnt
  simp only [← wpR_eq, ← wpS_eq] at q
  exact q 
theorem wp_if : wpS (mIfS t u v σ h) N T ↔ wpR (t σ h) (fun c h => if c = true then wpS (u σ h) N T else wpS (v σ h) N T) (fun x h => T.ex x σ h) := by
  have q := @wq_if
  simp only [← wpR_eq, ← wpS_eq] at q
  exact q 
theorem wp_asg : wpS (mAsg e g σ h) N T ↔ wpR (e σ h) (fun d h => wpR (g d σ h) N (fun x h => T.ex x σ h)) (fun x h => T.ex x σ h) := by
  have q := @wq_asg
  simp only [← wpR_eq, ← wpS_eq] at q
  exact q 
theorem wp_to {i : Nat} {d : D} {P : Sl → HS → Prop} : wpR (mTo i d σ h) P X ↔ P (σ.set i (some d)) h := by
  have q := @wq_to
  simp only [← wpR_eq, ← wpS_eq] at q
  exact q 
theorem wp_tos {is : List Nat} {d : D} {P : Sl → HS → Prop} : wpR (mTos is d σ h) P X ↔ match d with
  | .tup ds => match setAll is ds σ with
    | some σ' => P σ' h
    | none => False
  | _ => False := by
  have q := @wq_tos
  simp only [← wpR_eq, ← wpS_eq] at q
  exact q 
theorem wp_toIx {mo mi : FE} {d : D} {P : Sl → HS → Prop} : wpR (mToIx mo mi d σ h) P X ↔ wpR (mo σ h) (fun o h => wpR (mi σ h) (fun i h => match dSet o i d h with
  | some h => P σ h
  | none => False) X) X := by
  have q := @wq_toIx
  simp only [← wpR_eq, ← wpS_eq] at q
  exact q 
theorem wp_aug {i : Nat} {f : D → D → HS → R D} : wpS (mAug i f e σ h) N T ↔ match σ[i]? with
  | some (some d) => wpR (e σ h) (fun y h => wpR (f d y h) (fun z h => N (σ.set i (some z)) h) (fun x h => T.ex x σ h)) (fun x h => T.ex x σ h)
  | _ => False := by
  have q := @wq_aug
  simp only [← wpR_eq, ← wpS_eq] at q
  exact q 
theorem wp_augK {mo mi : FE} {f : D → D → HS → R D} : wpS (mAugK mo mi f e σ h) N T ↔ wpR (mo σ h) (fun o h => wpR (mi σ h) (fun i h => match dictD h o, keyD i with
  | some kvs, some k => match getK kvs k with
    | some d => wpR (e σ h) (fun y h => wpR (f d y h) (fun z h => match dSetK o i z h with
      | some h => N σ h
      | none => False) (fun x h => T.ex x σ h)) (fun x h => T.ex x σ h)
    | none => False
  | _, _ => False) (fun x h => T.ex x σ h)) (fun x h => T.ex x σ h) := by
  have q := @wq_augK
  simp only [← wpR_eq, ← wpS_eq] at q
  exact q 
theorem wp_fldSet {Cs : List Addr} {f : Str} {mo : FE} : wpS (mFldSet Cs f mo e σ h) N T ↔ wpR (e σ h) (fun y h => wpR (mo σ h) (fun o h => match insD Cs h o with
  | some (i, C, fs) => if fs.length < 1000 then N σ (h.set i (.ins C (putA f y fs))) else False
  | none => False) (fun x h => T.ex x σ h)) (fun x h => T.ex x σ h) := by
  have q := @wq_fldSet
  simp only [← wpR_eq, ← wpS_eq] at q
  exact q 
theorem wp_fldAug {Cs : List Addr} {f : Str} {mo : FE} {g : D → D → HS → R D} : wpS (mFldAug Cs f mo g e σ h) N T ↔ wpR (mo σ h) (fun o h => match insD Cs h o with
  | some (i, C, fs) => match fs.lookup f with
    | some d => wpR (e σ h) (fun y h => wpR (g d y h) (fun z h => match insD [C] h o with
      | some (_, _, fs') => if fs'.length < 1000 then N σ (h.set i (.ins C (putA f z fs'))) else False
      | none => False) (fun x h => T.ex x σ h)) (fun x h => T.ex x σ h)
    | none => False
  | none => False) (fun x h => T.ex x σ h) := by
  have q := @wq_fldAug
  simp only [← wpR_eq, ← wpS_eq] at q
  exact q 
theorem wp_var {i : Nat} {P : D → HS → Prop} : wpR (mVar i σ h) P X ↔ match σ[i]? with
  | some (some d) => P d h
  | _ => False := by
  have q := @wq_var
  simp only [← wpR_eq, ← wpS_eq] at q
  exact q 
theorem wp_c {d : D} {P : D → HS → Prop} : wpR (mC d σ h) P X ↔ P d h := by
  have q := @wq_c
  simp only [← wpR_eq, ← wpS_eq] at q
  exact q 
theorem wp_op {f : D → D → HS → R D} {P : D → HS → Prop} : wpR (mOp f ma mb σ h) P X ↔ wpR (ma σ h) (fun x h => wpR (mb σ h) (fun y h => wpR (f x y h) P X) X) X := by
  have q := @wq_op
  simp only [← wpR_eq, ← wpS_eq] at q
  exact q 
theorem wp_un {f : D → HS → R D} {P : D → HS → Prop} : wpR (mUn f ma σ h) P X ↔ wpR (ma σ h) (fun x h => wpR (f x h) P X) X := by
  have q := @wq_un
  simp only [← wpR_eq, ← wpS_eq] at q
  exact q 
theorem wp_nil {P : List D → HS → Prop} : wpR (mNil σ h) P X ↔ P [] h := by
  have q := @wq_nil
  simp only [← wpR_eq, ← wpS_eq] at q
  exact q 
theorem wp_cons {mr : FA} {P : List D → HS → Prop} : wpR (mCons ma mr σ h) P X ↔ wpR (ma σ h) (fun x h => wpR (mr σ h) (fun xs h => P (x :: xs) h) X) X := by
  have q := @wq_cons
  simp only [← wpR_eq, ← wpS_eq] at q
  exact q 
theorem wp_tup {mr : FA} {P : D → HS → Prop} : wpR (mTup mr σ h) P X ↔ wpR (mr σ h) (fun xs h => if xs.length ≤ sizeLine then P (.tup xs) h else False) X := by
  have q := @wq_tup
  simp only [← wpR_eq, ← wpS_eq] at q
  exact q 
theorem wp_lst {mr : FA} {P : D → HS → Prop} : wpR (mLst mr σ h) P X ↔ wpR (mr σ h) (fun xs h => if xs.length ≤ sizeLine then P (.ref h.length) (h ++ [.lst xs]) else False) X := by
  have q := @wq_lst
  simp only [← wpR_eq, ← wpS_eq] at q
  exact q 
theorem wp_dict0 {P : D → HS → Prop} : wpR (mDict0 σ h) P X ↔ P (.ref h.length) (h ++ [.dK []]) := by
  have q := @wq_dict0
  simp only [← wpR_eq, ← wpS_eq] at q
  exact q 
theorem wp_dict {prs : List (FE × FE)} {P : D → HS → Prop} : wpR (mDict prs σ h) P X ↔ wpR (mPairs prs σ h) (fun ps h => if ps.length ≤ 15 then P (.ref h.length) (h ++ [.dK (mergeD [] ps)]) else False) X := by
  have q := @wq_dict
  simp only [← wpR_eq, ← wpS_eq] at q
  exact q 
theorem wp_pairs0 {P : List (Key × D) → HS → Prop} : wpR (mPairs [] σ h) P X ↔ P [] h := by
  have q := @wq_pairs0
  simp only [← wpR_eq, ← wpS_eq] at q
  exact q 
theorem wp_pairs {mk mv : FE} {r : List (FE × FE)} {P : List (Key × D) → HS → Prop} : wpR (mPairs ((mk, mv) :: r) σ h) P X ↔ wpR (mk σ h) (fun k h => wpR (mv σ h) (fun v h => match keyD k with
  | some k => wpR (mPairs r σ h) (fun ps h => P ((k, v) :: ps) h) X
  | none => False) X) X := by
  have q := @wq_pairs
  simp only [← wpR_eq, ← wpS_eq] at q
  exact q 
theorem wp_call {f : List D → HS → R D} {mr : FA} {P : D → HS → Prop} : wpR (mCall f mr σ h) P X ↔ wpR (mr σ h) (fun xs h => wpR (f xs h) P X) X := by
  have q := @wq_call
  simp only [← wpR_eq, ← wpS_eq] at q
  exact q 
theorem wp_callF {n : Nat} {f : List D → HS → R D} {mr : FA} {P : D → HS → Prop} : wpR (mCallF n f mr σ h) P X ↔ wpR (mr σ h) (fun xs h => if xs.length = n then wpR (f xs h) P X else False) X := by
  have q := @wq_callF
  simp only [← wpR_eq, ← wpS_eq] at q
  exact q 
theorem wp_tru {P : Bool → HS → Prop} : wpR (mTru e σ h) P X ↔ wpR (e σ h) (fun d h => match truB h d with
  | some b => P b h
  | none => False) X := by
  have q := @wq_tru
  simp only [← wpR_eq, ← wpS_eq] at q
  exact q 
theorem wp_bl {P : Bool → HS → Prop} : wpR (mBl e σ h) P X ↔ wpR (e σ h) (fun d h => match d with
  | .bl b => P b h
  | _ => False) X := by
  have q := @wq_bl
  simp only [← wpR_eq, ← wpS_eq] at q
  exact q 
theorem wp_and {P : Bool → HS → Prop} : wpR (mAnd t tb σ h) P X ↔ wpR (t σ h) (fun c h => if c = true then wpR (tb σ h) P X else P false h) X := by
  have q := @wq_and
  simp only [← wpR_eq, ← wpS_eq] at q
  exact q 
theorem wp_or {P : Bool → HS → Prop} : wpR (mOr t tb σ h) P X ↔ wpR (t σ h) (fun c h => if c = true then P true h else wpR (tb σ h) P X) X := by
  have q := @wq_or
  simp only [← wpR_eq, ← wpS_eq] at q
  exact q 
theorem wp_not {P : Bool → HS → Prop} : wpR (mNot t σ h) P X ↔ wpR (t σ h) (fun c h => P (!c) h) X := by
  have q := @wq_not
  simp only [← wpR_eq, ← wpS_eq] at q
  exact q 
theorem wp_andV {P : D → HS → Prop} : wpR (mAndV ma mb σ h) P X ↔ wpR (ma σ h) (fun d h => match d with
  | .bl b => if b = true then wpR (mb σ h) P X else P (.bl false) h
  | _ => False) X := by
  have q := @wq_andV
  simp only [← wpR_eq, ← wpS_eq] at q
  exact q 
theorem wp_orV {P : D → HS → Prop} : wpR (mOrV ma mb σ h) P X ↔ wpR (ma σ h) (fun d h => match d with
  | .bl b => if b = true then P (.bl true) h else wpR (mb σ h) P X
  | _ => False) X := by
  have q := @wq_orV
  simp only [← wpR_eq, ← wpS_eq] at q
  exact q 
theorem wp_notV {P : D → HS → Prop} : wpR (mNotV ma σ h) P X ↔ wpR (ma σ h) (fun d h => match d with
  | .bl b => P (.bl !b) h
  | _ => False) X := by
  have q := @wq_notV
  simp only [← wpR_eq, ← wpS_eq] at q
  exact q 
theorem wp_part {P : Option Int → HS → Prop} : wpR (mPart e σ h) P X ↔ wpR (e σ h) (fun d h => match d with
  | .int i => P (some i) h
  | _ => False) X := by
  have q := @wq_part
  simp only [← wpR_eq, ← wpS_eq] at q
  exact q 
theorem wp_noPart {P : Option Int → HS → Prop} : wpR (mNoPart σ h) P X ↔ P none h := by
  have q := @wq_noPart
  simp only [← wpR_eq, ← wpS_eq] at q
  exact q 
theorem wp_sl {ml mh : FO} {P : D → HS → Prop} : wpR (mSl e ml mh σ h) P X ↔ wpR (e σ h) (fun x h => wpR (ml σ h) (fun l h => wpR (mh σ h) (fun u h => wpR (dSl x l u h) P X) X) X) X := by
  have q := @wq_sl
  simp only [← wpR_eq, ← wpS_eq] at q
  exact q 
theorem wp_bm {S : String} {f : D → List D → HS → R D} {mr : FA} {P : D → HS → Prop} : wpR (mBM S f e mr σ h) P X ↔ wpR (e σ h) (fun d h => if tyMD S h d = true then wpR (mr σ h) (fun xs h => wpR (f d xs h) P X) X else False) X := by
  have q := @wq_bm
  simp only [← wpR_eq, ← wpS_eq] at q
  exact q 
theorem wp_ifE {P : D → HS → Prop} : wpR (mIf t ma mb σ h) P X ↔ wpR (t σ h) (fun c h => if c = true then wpR (ma σ h) P X else wpR (mb σ h) P X) X := by
  have q := @wq_ifE
  simp only [← wpR_eq, ← wpS_eq] at q
  exact q 
theorem wp_fld {Cs : List Addr} {f : Str} {P : D → HS → Prop} : wpR (mFld Cs f e σ h) P X ↔ wpR (e σ h) (fun d h => match insD Cs h d with
  | some (_, _, fs) => match fs.lookup f with
    | some v => P v h
    | none => False
  | none => False) X := by
  have q := @wq_fld
  simp only [← wpR_eq, ← wpS_eq] at q
  exact q 
theorem wp_meth {C : Addr} {mn : Str} {n : Nat} {f : List D → HS → R D} {mr : FA} {P : D → HS → Prop} : wpR (mMeth C mn n f e mr σ h) P X ↔ wpR (e σ h) (fun d h => match insD [C] h d with
  | some (_, _, fs) => if (fs.lookup mn).isNone = true then wpR (mr σ h) (fun xs h => if xs.length + 1 = n then wpR (f (d :: xs) h) P X else False) X else False
  | none => False) X := by
  have q := @wq_meth
  simp only [← wpR_eq, ← wpS_eq] at q
  exact q 
theorem wp_make {C : Addr} {n : Nat} {f : List D → HS → R D} {mr : FA} {P : D → HS → Prop} : wpR (mMake C n f mr σ h) P X ↔ wpR (mr σ h) (fun xs h => if xs.length + 1 = n then wpR (f (.ref h.length :: xs) (h ++ [.ins C []])) (fun v h2 => match v with
  | .non => P (.ref h.length) h2
  | _ => False) X else False) X := by
  have q := @wq_make
  simp only [← wpR_eq, ← wpS_eq] at q
  exact q 
theorem wp_lockE {i : Nat} {P : D → HS → Prop} : wpR (mLockE i e σ h) P X ↔ match σ[i]? with
  | some (some (.ref a)) => match h[a]? with
    | some (.dK kvs) => wpR (e σ (h.set a (.fdK kvs))) (fun d h' => P d (h'.set a (.dK kvs))) X0
    | _ => False
  | _ => False := by
  have q := @wq_lockE
  simp only [← wpR_eq, ← wpS_eq] at q
  exact q 
theorem wp_runB {n : Nat} {m : FS} {ds : List D} {Q : D → HS → Prop} : wpR (runB n m ds h) Q X ↔ wpS (m (ds.map some ++ List.replicate (n - ds.length) none) h) (fun _ h => Q .non h) (.ret Q X) := by
  have q := @wq_runB
  simp only [← wpR_eq, ← wpS_eq] at q
  exact q 
theorem wp_forE : wpS (mFor it g u σ h) N T ↔ wpR (it σ h) (fun J h => wpS (forL g u J J.n 0 σ h) N T) (fun x h => T.ex x σ h) := by
  have q := @wq_forE
  simp only [← wpR_eq, ← wpS_eq] at q
  exact q 
theorem wp_rng1 {ma : FA} {P : ItD → HS → Prop} : wpR (mRange1 ma σ h) P X ↔ wpR (ma σ h) (fun ds h => match ds with
  | [.int j] => if -(2 ^ 62) ≤ j ∧ j < 2 ^ 62 then P (itRange 0 j.toNat) h else False
  | _ => False) X := by
  have q := @wq_rng1
  simp only [← wpR_eq, ← wpS_eq] at q
  exact q 
theorem wp_rng2 {ma : FA} {P : ItD → HS → Prop} : wpR (mRange2 ma σ h) P X ↔ wpR (ma σ h) (fun ds h => match ds with
  | [.int i, .int j] => if -(2 ^ 62) ≤ i ∧ i < 2 ^ 62 ∧ -(2 ^ 62) ≤ j ∧ j < 2 ^ 62 then P (itRange i (j - i).toNat) h else False
  | _ => False) X := by
  have q := @wq_rng2
  simp only [← wpR_eq, ← wpS_eq] at q
  exact q 
theorem wp_seqI {P : ItD → HS → Prop} : wpR (mSeqI e σ h) P X ↔ wpR (e σ h) (fun d h => wpR (itSeq d h) P X) X := by
  have q := @wq_seqI
  simp only [← wpR_eq, ← wpS_eq] at q
  exact q 
theorem wp_forL (J : ItD) (I : Nat → Sl → HS → Prop) (h0 : I 0 σ h)
    (step : ∀ j σ h, I j σ h → j < J.n → ∃ d, J.get j h = some d ∧ wpR (g d σ h) (fun σ h => wpS (u σ h) (I (j + 1)) { T with ct := I (j + 1), bk := N }) (fun x h => T.ex x σ h))
    (fin : ∀ σ h, I J.n σ h → J.fin h = true ∧ N σ h) : wpS (forL g u J J.n 0 σ h) N T := by
  have q := @wq_forL
  simp only [← wpR_eq, ← wpS_eq] at q
  exact q J I h0 step fin
theorem wp_while (I : Sl → HS → Prop) (μ : Sl → HS → Nat) (h0 : I σ h)
    (step : ∀ σ h, I σ h → wpR (t σ h) (fun c h1 => if c = true then wpS (u σ h1) (fun σ' h' => I σ' h' ∧ μ σ' h' < μ σ h) { T with ct := fun σ' h' => I σ' h' ∧ μ σ' h' < μ σ h, bk := N } else N σ h1) (fun x h => T.ex x σ h)) : wpS (mWhile t u σ h) N T := by
  have q := @wq_while
  simp only [← wpR_eq, ← wpS_eq] at q
  exact q I μ h0 step
theorem wp_lcE {tg : Tgt} {tt : FT} {te : FE} {vs : List Nat} {P : D → HS → Prop} : wpR (mLc it tg tt te vs σ h) P X ↔ wpR (it σ h) (fun J h => wpR (lcL tg tt te J (wipeD σ vs) J.n 0 [] h) (fun ds h => P (.ref h.length) (h ++ [.lst ds])) X) X := by
  have q := @wq_lcE
  simp only [← wpR_eq, ← wpS_eq] at q
  exact q 
theorem wp_lcL {tg : Tgt} {tt : FT} {te : FE} {P : List D → HS → Prop} (J : ItD) (I : Nat → List D → HS → Prop) (h0 : I 0 [] h)
    (step : ∀ j acc h, I j acc h → j < J.n → ∃ d, J.get j h = some d ∧ wpR (tg.m d σ h) (fun σ h => wpR (tt σ h) (fun b h => if b = true then wpR (te σ h) (fun y h => acc.length < sizeLine ∧ I (j + 1) (acc ++ [y]) h) X0 else I (j + 1) acc h) X0) X0)
    (fin : ∀ acc h, I J.n acc h → J.fin h = true ∧ P acc h) : wpR (lcL tg tt te J σ J.n 0 [] h) P X := by
  have q := @wq_lcL
  simp only [← wpR_eq, ← wpS_eq] at q
  exact q J I h0 step fin
end FL

set_option Elab.async false
set_option linter.all false
set_option maxRecDepth 100000
set_option maxHeartbeats 400000
/-! FL, part j: the law's draws. -/
namespace FL
open PySem PySem.Spec PyProof.Rows L2
/-! ### what an operation gives at data of a known kind -/
section
variable {h : HS} {i j : Int} {a b : Str} {ds : List D} {d e : D}
theorem ev_add : dAdd (.int i) (.int j) h = .ok (.int (i + j)) h := rfl
theorem ev_iadd : dIAdd (.int i) (.int j) h = .ok (.int (i + j)) h := rfl
theorem ev_addT {es : List D} (q : ds.length + es.length ≤ sizeLine) : dAdd (.tup ds) (.tup es) h = .ok (.tup (ds ++ es)) h := if_pos q
theorem ev_addS (q : a.length + b.length ≤ sizeLine) : dAdd (.str a) (.str b) h = .ok (.str (a ++ b)) h := if_pos q
theorem ev_sub : dSub (.int i) (.int j) h = .ok (.int (i - j)) h := rfl
theorem ev_mul (q : CMul i j) : dMul (.int i) (.int j) h = .ok (.int (i * j)) h := if_pos q
theorem ev_fdiv (q : CDivW i j) : dFdiv (.int i) (.int j) h = .ok (.int (i / j)) h := if_pos q
theorem ev_mod (q : 0 < j) : dMod (.int i) (.int j) h = .ok (.int (i % j)) h := if_pos q
theorem ev_pow (q : CPow i j) : dPow (.int i) (.int j) h = .ok (.int (i ^ j.toNat)) h := if_pos q
theorem ev_neg : dNeg (.int i) h = .ok (.int (-i)) h := rfl
theorem ev_lt : dLt (.int i) (.int j) h= .ok (D.bl (decide (i < j))) h := rfl
theorem ev_le : dLe (.int i) (.int j) h= .ok (D.bl (decide (i ≤ j))) h := rfl
theorem ev_gt : dGt (.int i) (.int j) h= .ok (D.bl (decide (j < i))) h := rfl
theorem ev_ge : dGe (.int i) (.int j) h= .ok (D.bl (decide (j ≤ i))) h := rfl
theorem ev_eqI : dEq (.int i) (.int j) h= .ok (D.bl (decide (i = j))) h := by
  show R.ok (D.bl (decide (V.int i = V.int j))) h = _
  simp
theorem ev_neI : dNe (.int i) (.int j) h= .ok (D.bl (!decide (i = j))) h := by
  show R.ok (D.bl (!decide (V.int i = V.int j))) h = _
  simp
theorem ev_eqS : dEq (.str a) (.str b) h= .ok (D.bl (decide (a = b))) h := by
  show R.ok (D.bl (decide (V.str a = V.str b))) h = _
  simp
theorem ev_neS : dNe (.str a) (.str b) h= .ok (D.bl (!decide (a = b))) h := by
  show R.ok (D.bl (!decide (V.str a = V.str b))) h = _
  simp
theorem ev_isN : dIsN .non .non h= .ok (D.bl true) h := rfl
theorem ev_int : dInt [.int i] h = .ok (.int i) h := rfl
theorem ev_abs : dAbs [.int i] h = .ok (.int (if i < 0 then -i else i)) h := rfl
theorem ev_max : dMax2 [.int i, .int j] h = .ok (.int (if j > i then j else i)) h := rfl
theorem ev_min : dMin2 [.int i, .int j] h = .ok (.int (if j < i then j else i)) h := rfl
theorem ev_ixT (q : atI ds i = some d) : dIx (.tup ds) (.int i) h = .ok d h := by
  show ixL ds h i = _
  rw [ixL, q]
theorem ev_ixC (q : atI ds i = some d) : dIx (.cst ds) (.int i) h = .ok d h := by
  show ixL ds h i = _
  rw [ixL, q]
theorem ev_ixL {n : Nat} (hn : h[n]? = some (.lst ds)) (q : atI ds i = some d) : dIx (.ref n) (.int i) h = .ok d h := by
  simp only [dIx, hn, ixL, q]
theorem ev_lenT : dLen [.tup ds] h = .ok (.int ds.length) h := rfl
theorem ev_lenC : dLen [.cst ds] h = .ok (.int ds.length) h := rfl
theorem ev_lenL {n : Nat} (hn : h[n]? = some (.lst ds)) : dLen [.ref n] h = .ok (.int ds.length) h := by
  simp only [dLen, lenD, hn]
theorem ev_tupL {n : Nat} (hn : h[n]? = some (.lst ds)) : dTuple [.ref n] h = .ok (.tup ds) h := by
  simp only [dTuple, listD, lstAt, hn]
theorem ev_tupT : dTuple [.tup ds] h = .ok (.tup ds) h := rfl
theorem ev_tyL {n : Nat} (hn : h[n]? = some (.lst ds)) : tyMD "list" h (.ref n) = true := by
  simp only [tyMD, hn]; rfl
theorem ev_app {n : Nat} (hn : h[n]? = some (.lst ds)) (hl : ds.length < sizeLine) : dAppend (.ref n) [d] h = .ok .non (h.set n (.lst (ds ++ [d]))) := by
  simp only [dAppend, lstAt, hn, if_pos hl]
end
noncomputable def m_nextB : FS :=
    mSeq (mAugK (mVar 0) (mC (.str "at")) dIAdd (mC (.int 1)))
    (mSeq (mIfS (mBl (mOp dGt (mOp dIx (mVar 0) (mC (.str "at"))) (mCall (dLen) (mCons (mOp dIx (mVar 0) (mC (.str "draws"))) (mNil)))))
    (mRet (mC (.int 0)))
    (mSkip))
    (mRet (mOp dMod (mCall (dInt) (mCons (mOp dIx (mOp dIx (mVar 0) (mC (.str "draws"))) (mOp dSub (mOp dIx (mVar 0) (mC (.str "at"))) (mC (.int 1)))) (mNil))) (mVar 1))))
/-- the bag of a law's draws: the list's place, how many were taken -/
abbrev bagB (r : Nat) (a : Nat) : MO := .dK [(.inr "draws", .ref r), (.inr "at", .int a)]
def nxB (ds : List Int) (a : Nat) (m : Int) : Int := if ds.length ≤ a then 0 else ds.getD a 0 % m
theorem nextB_ok {h : HS} {w r a : Nat} {ds : List Int} {m : Int} (hw : h[w]? = some (bagB r a)) (hr : h[r]? = some (.lst (ds.map .int))) (hm : 0 < m) :
    runB 2 m_nextB [.ref w, .int m] h = .ok (.int (nxB ds a m)) (h.set w (bagB r (a + 1))) := by
  have key : wpR (runB 2 m_nextB [.ref w, .int m] h) (fun d h' => d = .int (nxB ds a m) ∧ h' = h.set w (bagB r (a + 1))) X0 := by
    unfold m_nextB
    simp only [↓wp_seq, ↓wp_skip, ↓wp_drop, ↓wp_ret, ↓wp_retN, ↓wp_brk, ↓wp_cnt, ↓wp_if, ↓wp_asg, ↓wp_to, ↓wp_tos, ↓wp_toIx, ↓wp_aug, ↓wp_augK, ↓wp_fldSet, ↓wp_fldAug, ↓wp_var, ↓wp_c, ↓wp_op, ↓wp_un, ↓wp_nil, ↓wp_cons, ↓wp_tup, ↓wp_lst, ↓wp_dict0, ↓wp_dict, ↓wp_pairs0, ↓wp_pairs, ↓wp_call, ↓wp_callF, ↓wp_tru, ↓wp_bl, ↓wp_and, ↓wp_or, ↓wp_not, ↓wp_andV, ↓wp_orV, ↓wp_notV, ↓wp_part, ↓wp_noPart, ↓wp_sl, ↓wp_bm, ↓wp_ifE, ↓wp_fld, ↓wp_meth, ↓wp_make, ↓wp_lockE, ↓wp_rng1, ↓wp_rng2, ↓wp_seqI, ↓wpR_ok, ↓wpS_nx, ↓wpS_rt, List.getElem?_cons_zero, List.getElem?_cons_succ, List.set_cons_zero, List.set_cons_succ, List.length_cons, List.length_nil, ↓reduceIte, decide_eq_true_eq, ev_add, ev_iadd, ev_sub, ev_mod, ev_neg, ev_lt, ev_le, ev_gt, ev_ge, ev_eqI, ev_neI, ev_eqS, ev_neS, ev_isN, ev_int, ev_abs, ev_max, ev_min, ev_lenT, ev_lenC, ev_tupT, Int.reduceLT, Int.reduceLE, Int.reduceNeg, Int.reduceAdd, Int.reduceSub, Int.reduceEq, Nat.reduceAdd, Nat.reduceSub, and_self, ↓List.map_cons, ↓List.map_nil, ↓List.cons_append, ↓List.nil_append, List.replicate, ↓wp_runB, List.map_cons, List.map_nil, List.cons_append, List.nil_append, Nat.sub_self, List.replicate_zero]
    have kd : keyD (D.str "at") = some (.inr "at") := rfl
    have kr : keyD (D.str "draws") = some (.inr "draws") := rfl
    have g1 : ∀ a : Nat, getK [((Sum.inr "draws" : Key), D.ref r), (.inr "at", .int a)] (.inr "at") = some (.int a) := fun a => rfl
    have g2 : ∀ a : Nat, getK [((Sum.inr "draws" : Key), D.ref r), (.inr "at", .int a)] (.inr "draws") = some (.ref r) := fun a => rfl
    have g3 : setK [((Sum.inr "draws" : Key), D.ref r), (.inr "at", .int a)] (.inr "at") (.int (a + 1)) = [((Sum.inr "draws" : Key), D.ref r), (.inr "at", .int (a + 1 : Nat))] := rfl
    have lw : w < h.length := (List.getElem?_eq_some_iff.mp hw).1
    have nwr : w ≠ r := by
      intro e
      rw [e, hr] at hw
      cases hw
    have hw2 : ∀ o, (h.set w o)[w]? = some o := fun o => by rw [List.getElem?_set_self lw]
    have hr2 : ∀ o, (h.set w o)[r]? = some (.lst (ds.map .int)) := fun o => by rw [List.getElem?_set_ne nwr, hr]
    simp only [dictD, hw, kd, kr, g1, dIAdd, dSetK, ↓wpR_ok, List.length_cons, List.length_nil, show (0 + 1 + 1 < sizeLine) = True from by decide, if_true, g3, dIx, ixKD, hw2, hr2, g2, dLen, lenD, List.length_map, dGt, decide_eq_true_eq, dSub, dInt, dMod, ixL]
    by_cases c : ds.length ≤ a
    · rw [if_pos (by omega), nxB, if_pos c]
      exact ⟨rfl, trivial⟩
    · rw [if_neg (by omega)]
      have e : atI (ds.map D.int) (((a : Int) + 1) - 1) = some (.int (ds.getD a 0)) := by
        rw [show ((a : Int) + 1) - 1 = (a : Int) from by omega]
        refine atI_nat ?_
        rw [List.getElem?_map, List.getElem?_eq_getElem (by omega : a < ds.length), List.getD_eq_getElem?_getD, List.getElem?_eq_getElem (by omega : a < ds.length)]
        rfl
      rw [show (((a + 1 : Nat) : Int) - 1) = ((a : Int) + 1) - 1 from by omega, e]
      simp only [↓wpR_ok, hm, if_true, nxB, if_neg c]
      exact ⟨trivial, trivial⟩
  obtain ⟨d, h', e, rfl, rfl⟩ := wpR_elim key
  exact e
noncomputable def m_drawsB_b1 : FS :=
    mIfS (mBl (mOp dGt (mVar 6) (mC (.int 0))))
    (mSeq (mDrop (mBM "list" dAppend (mVar 2) (mCons (mOp dMod (mCall (dInt) (mCons (mVar 6) (mNil))) (mC (.int 997))) (mNil))))
    (mAsg (mOp dFdiv (mVar 6) (mC (.int 997))) (mTo 6)))
    (mSkip)
noncomputable def m_drawsB_r2 : FS :=
    mFor (mRange1 (mCons (mC (.int 60)) (mNil))) (mTo 7)
    (m_drawsB_b1)
noncomputable def m_drawsB_b3 : FS :=
    mSeq (mAsg (mCall (dAbs) (mCons (mCall (dInt) (mCons (mOp dIx (mVar 0) (mVar 4)) (mNil))) (mNil))) (mTo 5))
    (mSeq (mAsg (mOp dMod (mCall (dInt) (mCons (mOp dAdd (mOp dAdd (mOp dMul (mVar 3) (mC (.int 48271))) (mOp dMod (mVar 5) (mC (.int 1000003)))) (mVar 4)) (mNil))) (mC (.int 65537))) (mTo 3))
    (mSeq (mAsg (mC (.int 0)) (mTo 6))
    (mSeq (mIfS (mBl (mOp dGe (mVar 5) (mOp dPow (mC (.int 10)) (mC (.int 18)))))
    (mAsg (mVar 5) (mTo 6))
    (mSeq (mDrop (mBM "list" dAppend (mVar 2) (mCons (mOp dMod (mCall (dInt) (mCons (mVar 5) (mNil))) (mC (.int 997))) (mNil))))
    (mDrop (mBM "list" dAppend (mVar 2) (mCons (mOp dMod (mOp dMod (mCall (dInt) (mCons (mOp dAdd (mOp dMul (mVar 3) (mC (.int 69621))) (mC (.int 5))) (mNil))) (mC (.int 65521))) (mC (.int 997))) (mNil))))))
    (m_drawsB_r2))))
noncomputable def m_drawsB_b4 : FS :=
    mSeq (mAsg (mOp dMod (mCall (dInt) (mCons (mOp dAdd (mOp dAdd (mOp dMul (mVar 3) (mC (.int 16807))) (mVar 4)) (mC (.int 1))) (mNil))) (mC (.int 65537))) (mTo 3))
    (mDrop (mBM "list" dAppend (mVar 2) (mCons (mOp dMod (mCall (dInt) (mCons (mVar 3) (mNil))) (mC (.int 997))) (mNil))))
noncomputable def m_drawsB_r5 : FS :=
    mRet (mSl (mVar 2) (mNoPart) (mPart (mVar 1)))
noncomputable def m_drawsB_r6 : FS :=
    mSeq (mFor (mRange1 (mCons (mVar 1) (mNil))) (mTo 4)
    (m_drawsB_b4))
    (m_drawsB_r5)
noncomputable def m_drawsB : FS :=
    mSeq (mAsg (mLst (mNil)) (mTo 2))
    (mSeq (mAsg (mC (.int 7)) (mTo 3))
    (mSeq (mFor (mRange1 (mCons (mCall (dLen) (mCons (mVar 0) (mNil))) (mNil))) (mTo 4)
    (m_drawsB_b3))
    (m_drawsB_r6)))
def inR (m : Int) (l : List Int) : Prop := ∀ d ∈ l, 0 ≤ d ∧ d < m
theorem inR.app {m : Int} {l : List Int} {x : Int} (h : inR m l) (h0 : 0 ≤ x) (h1 : x < m) : inR m (l ++ [x]) := by
  intro d hd
  rcases List.mem_append.mp hd with e | e
  · exact h d e
  · rw [List.mem_singleton.mp e]; exact ⟨h0, h1⟩
theorem app_int {l : List Int} {x : Int} : l.map D.int ++ [.int x] = (l ++ [x]).map D.int := by simp
/-- the heap while the draws are made: one list more -/
theorem lst_at {h : HS} {l : List D} : lstAt (h ++ [.lst l]) h.length = some l := by simp [lstAt]
theorem lst_set {h : HS} {o o' : MO} : (h ++ [o]).set h.length o' = h ++ [o'] := by simp
theorem ty_lst {h : HS} {l : List D} : tyMD "list" (h ++ [.lst l]) (.ref h.length) = true := by simp [tyMD]
theorem wp_forR {lo : Int} {n : Nat} {g : FG} {u : FS} {σ : Sl} {h : HS} {N : Sl → HS → Prop} {T : Tl} (I : Nat → Sl → HS → Prop) (h0 : I 0 σ h)
    (step : ∀ j σ h, I j σ h → j < n → wpR (g (.int (lo + j)) σ h) (fun σ h => wpS (u σ h) (I (j + 1)) { T with ct := I (j + 1), bk := N }) (fun x h => T.ex x σ h))
    (fin : ∀ σ h, I n σ h → N σ h) : wpS (forL g u (itRange lo n) (itRange lo n).n 0 σ h) N T :=
  wp_forL (itRange lo n) I h0 (fun j σ h i hj => ⟨_, rfl, step j σ h i hj⟩) fun σ h i => ⟨rfl, fin σ h i⟩
theorem mod997 {x : Int} : 0 ≤ x % 997 ∧ x % 997 < 997 := ⟨by omega, by omega⟩
theorem cdiv997 {r : Int} : CDivW r 997 := ⟨by decide, by decide⟩
section
variable {h : HS} {acc : List Int} {T : Tl}
/-- a draw more -/
theorem app_draw {P : D → HS → Prop} {X : XP} {x : Int} (hl : acc.length < 1000000) (k : P .non (h ++ [.lst ((acc ++ [x]).map .int)])) : wpR (dAppend (.ref h.length) [.int x] (h ++ [.lst (acc.map .int)])) P X := by
  simp only [dAppend, lst_at, List.length_map, lst_set, app_int]
  rw [if_pos (Nat.lt_of_lt_of_le hl (by decide)), wpR_ok]
  exact k
theorem draws_b1 {a0 a1 a3 a4 a5 a7 : Option D} {r : Int} (hr : 0 ≤ r) (ha : inR 997 acc) (hl : acc.length < 100000) :
    wpS (m_drawsB_b1 [a0, a1, some (.ref h.length), a3, a4, a5, some (.int r), a7] (h ++ [.lst (acc.map .int)]))
      (fun σ h' => ∃ (acc' : List Int) (r' : Int), σ = [a0, a1, some (.ref h.length), a3, a4, a5, some (.int r'), a7] ∧ h' = h ++ [.lst (acc'.map .int)] ∧ 0 ≤ r' ∧ inR 997 acc' ∧ acc'.length ≤ acc.length + 1) T := by
  unfold m_drawsB_b1
  simp only [↓wp_seq, ↓wp_skip, ↓wp_drop, ↓wp_ret, ↓wp_retN, ↓wp_brk, ↓wp_cnt, ↓wp_if, ↓wp_asg, ↓wp_to, ↓wp_tos, ↓wp_toIx, ↓wp_aug, ↓wp_augK, ↓wp_fldSet, ↓wp_fldAug, ↓wp_var, ↓wp_c, ↓wp_op, ↓wp_un, ↓wp_nil, ↓wp_cons, ↓wp_tup, ↓wp_lst, ↓wp_dict0, ↓wp_dict, ↓wp_pairs0, ↓wp_pairs, ↓wp_call, ↓wp_callF, ↓wp_tru, ↓wp_bl, ↓wp_and, ↓wp_or, ↓wp_not, ↓wp_andV, ↓wp_orV, ↓wp_notV, ↓wp_part, ↓wp_noPart, ↓wp_sl, ↓wp_bm, ↓wp_ifE, ↓wp_fld, ↓wp_meth, ↓wp_make, ↓wp_lockE, ↓wp_rng1, ↓wp_rng2, ↓wp_seqI, ↓wpR_ok, ↓wpS_nx, ↓wpS_rt, List.getElem?_cons_zero, List.getElem?_cons_succ, List.set_cons_zero, List.set_cons_succ, List.length_cons, List.length_nil, ↓reduceIte, decide_eq_true_eq, ev_add, ev_iadd, ev_sub, ev_mod, ev_neg, ev_lt, ev_le, ev_gt, ev_ge, ev_eqI, ev_neI, ev_eqS, ev_neS, ev_isN, ev_int, ev_abs, ev_max, ev_min, ev_lenT, ev_lenC, ev_tupT, Int.reduceLT, Int.reduceLE, Int.reduceNeg, Int.reduceAdd, Int.reduceSub, Int.reduceEq, Nat.reduceAdd, Nat.reduceSub, and_self, ↓List.map_cons, ↓List.map_nil, ↓List.cons_append, ↓List.nil_append, List.replicate, ty_lst]
  by_cases c : 0 < r
  · rw [if_pos c]
    refine app_draw (by omega) ?_
    simp only [ev_fdiv cdiv997, wpR_ok]
    exact ⟨_, _, rfl, rfl, Int.ediv_nonneg hr (by decide), ha.app mod997.1 mod997.2, by simp⟩
  · rw [if_neg c]
    exact ⟨acc, r, rfl, rfl, hr, ha, Nat.le_succ _⟩
theorem draws_r2 {a0 a1 a3 a4 a5 a7 : Option D} {r : Int} (hr : 0 ≤ r) (ha : inR 997 acc) (hl : acc.length < 90000) :
    wpS (m_drawsB_r2 [a0, a1, some (.ref h.length), a3, a4, a5, some (.int r), a7] (h ++ [.lst (acc.map .int)]))
      (fun σ h' => ∃ (acc' : List Int) (a6 a7 : Option D), σ = [a0, a1, some (.ref h.length), a3, a4, a5, a6, a7] ∧ h' = h ++ [.lst (acc'.map .int)] ∧ inR 997 acc' ∧ acc'.length ≤ acc.length + 60) T := by
  unfold m_drawsB_r2
  simp only [↓wp_seq, ↓wp_skip, ↓wp_drop, ↓wp_ret, ↓wp_retN, ↓wp_brk, ↓wp_cnt, ↓wp_if, ↓wp_asg, ↓wp_to, ↓wp_tos, ↓wp_toIx, ↓wp_aug, ↓wp_augK, ↓wp_fldSet, ↓wp_fldAug, ↓wp_var, ↓wp_c, ↓wp_op, ↓wp_un, ↓wp_nil, ↓wp_cons, ↓wp_tup, ↓wp_lst, ↓wp_dict0, ↓wp_dict, ↓wp_pairs0, ↓wp_pairs, ↓wp_call, ↓wp_callF, ↓wp_tru, ↓wp_bl, ↓wp_and, ↓wp_or, ↓wp_not, ↓wp_andV, ↓wp_orV, ↓wp_notV, ↓wp_part, ↓wp_noPart, ↓wp_sl, ↓wp_bm, ↓wp_ifE, ↓wp_fld, ↓wp_meth, ↓wp_make, ↓wp_lockE, ↓wp_rng1, ↓wp_rng2, ↓wp_seqI, ↓wpR_ok, ↓wpS_nx, ↓wpS_rt, List.getElem?_cons_zero, List.getElem?_cons_succ, List.set_cons_zero, List.set_cons_succ, List.length_cons, List.length_nil, ↓reduceIte, decide_eq_true_eq, ev_add, ev_iadd, ev_sub, ev_mod, ev_neg, ev_lt, ev_le, ev_gt, ev_ge, ev_eqI, ev_neI, ev_eqS, ev_neS, ev_isN, ev_int, ev_abs, ev_max, ev_min, ev_lenT, ev_lenC, ev_tupT, Int.reduceLT, Int.reduceLE, Int.reduceNeg, Int.reduceAdd, Int.reduceSub, Int.reduceEq, Nat.reduceAdd, Nat.reduceSub, and_self, ↓List.map_cons, ↓List.map_nil, ↓List.cons_append, ↓List.nil_append, List.replicate, ↓wp_forE]
  rw [if_pos (by decide)]
  refine wp_forR (fun j σ h' => ∃ (acc' : List Int) (r' : Int) (a7 : Option D), σ = [a0, a1, some (.ref h.length), a3, a4, a5, some (.int r'), a7] ∧ h' = h ++ [.lst (acc'.map .int)] ∧ 0 ≤ r' ∧ inR 997 acc' ∧ acc'.length ≤ acc.length + j)
    ⟨acc, r, a7, rfl, rfl, hr, ha, Nat.le_refl _⟩ ?_ ?_
  · rintro j σ h' ⟨acc', r', a7, rfl, rfl, hr', ha', hl'⟩ hj
    simp only [↓wp_seq, ↓wp_skip, ↓wp_drop, ↓wp_ret, ↓wp_retN, ↓wp_brk, ↓wp_cnt, ↓wp_if, ↓wp_asg, ↓wp_to, ↓wp_tos, ↓wp_toIx, ↓wp_aug, ↓wp_augK, ↓wp_fldSet, ↓wp_fldAug, ↓wp_var, ↓wp_c, ↓wp_op, ↓wp_un, ↓wp_nil, ↓wp_cons, ↓wp_tup, ↓wp_lst, ↓wp_dict0, ↓wp_dict, ↓wp_pairs0, ↓wp_pairs, ↓wp_call, ↓wp_callF, ↓wp_tru, ↓wp_bl, ↓wp_and, ↓wp_or, ↓wp_not, ↓wp_andV, ↓wp_orV, ↓wp_notV, ↓wp_part, ↓wp_noPart, ↓wp_sl, ↓wp_bm, ↓wp_ifE, ↓wp_fld, ↓wp_meth, ↓wp_make, ↓wp_lockE, ↓wp_rng1, ↓wp_rng2, ↓wp_seqI, ↓wpR_ok, ↓wpS_nx, ↓wpS_rt, List.getElem?_cons_zero, List.getElem?_cons_succ, List.set_cons_zero, List.set_cons_succ, List.length_cons, List.length_nil, ↓reduceIte, decide_eq_true_eq, ev_add, ev_iadd, ev_sub, ev_mod, ev_neg, ev_lt, ev_le, ev_gt, ev_ge, ev_eqI, ev_neI, ev_eqS, ev_neS, ev_isN, ev_int, ev_abs, ev_max, ev_min, ev_lenT, ev_lenC, ev_tupT, Int.reduceLT, Int.reduceLE, Int.reduceNeg, Int.reduceAdd, Int.reduceSub, Int.reduceEq, Nat.reduceAdd, Nat.reduceSub, and_self, ↓List.map_cons, ↓List.map_nil, ↓List.cons_append, ↓List.nil_append, List.replicate]
    refine wpS_mono (draws_b1 hr' ha' (by have : j < 60 := hj; omega)) ?_
    rintro σ h2 ⟨acc2, r2, rfl, rfl, q1, q2, q3⟩
    exact ⟨acc2, r2, _, rfl, rfl, q1, q2, by omega⟩
  · rintro σ h' ⟨acc', r', a7, rfl, rfl, hr', ha', hl'⟩
    exact ⟨acc', _, _, rfl, rfl, ha', hl'⟩
theorem draws_b3 {ns : List Int} {a1 a5 a6 a7 : Option D} {j : Nat} {mx : Int} (h0 : 0 ≤ mx) (h1 : mx < 65537) (hj : j < ns.length) (ha : inR 997 acc) (hl : acc.length < 80000) :
    wpS (m_drawsB_b3 [some (.cst (ns.map .int)), a1, some (.ref h.length), some (.int mx), some (.int j), a5, a6, a7] (h ++ [.lst (acc.map .int)]))
      (fun σ h' => ∃ (acc' : List Int) (mx' : Int) (a4 a5 a6 a7 : Option D), σ = [some (.cst (ns.map .int)), a1, some (.ref h.length), some (.int mx'), a4, a5, a6, a7] ∧ h' = h ++ [.lst (acc'.map .int)] ∧ 0 ≤ mx' ∧ mx' < 65537 ∧ inR 997 acc' ∧ acc'.length ≤ acc.length + 62) T := by
  unfold m_drawsB_b3
  have e : atI (ns.map D.int) (j : Int) = some (.int ns[j]) := atI_nat (by rw [List.getElem?_map, List.getElem?_eq_getElem hj]; rfl)
  have cm : ∀ y : Int, 0 ≤ y → y < 65537 → ∀ z, CMul y z := fun y h0 h1 z => .inl ⟨by omega, by omega⟩
  simp only [↓wp_seq, ↓wp_skip, ↓wp_drop, ↓wp_ret, ↓wp_retN, ↓wp_brk, ↓wp_cnt, ↓wp_if, ↓wp_asg, ↓wp_to, ↓wp_tos, ↓wp_toIx, ↓wp_aug, ↓wp_augK, ↓wp_fldSet, ↓wp_fldAug, ↓wp_var, ↓wp_c, ↓wp_op, ↓wp_un, ↓wp_nil, ↓wp_cons, ↓wp_tup, ↓wp_lst, ↓wp_dict0, ↓wp_dict, ↓wp_pairs0, ↓wp_pairs, ↓wp_call, ↓wp_callF, ↓wp_tru, ↓wp_bl, ↓wp_and, ↓wp_or, ↓wp_not, ↓wp_andV, ↓wp_orV, ↓wp_notV, ↓wp_part, ↓wp_noPart, ↓wp_sl, ↓wp_bm, ↓wp_ifE, ↓wp_fld, ↓wp_meth, ↓wp_make, ↓wp_lockE, ↓wp_rng1, ↓wp_rng2, ↓wp_seqI, ↓wpR_ok, ↓wpS_nx, ↓wpS_rt, List.getElem?_cons_zero, List.getElem?_cons_succ, List.set_cons_zero, List.set_cons_succ, List.length_cons, List.length_nil, ↓reduceIte, decide_eq_true_eq, ev_add, ev_iadd, ev_sub, ev_mod, ev_neg, ev_lt, ev_le, ev_gt, ev_ge, ev_eqI, ev_neI, ev_eqS, ev_neS, ev_isN, ev_int, ev_abs, ev_max, ev_min, ev_lenT, ev_lenC, ev_tupT, Int.reduceLT, Int.reduceLE, Int.reduceNeg, Int.reduceAdd, Int.reduceSub, Int.reduceEq, Nat.reduceAdd, Nat.reduceSub, and_self, ↓List.map_cons, ↓List.map_nil, ↓List.cons_append, ↓List.nil_append, List.replicate, ev_ixC e, ev_mul (cm _ h0 h1 _), ev_pow (show CPow 10 18 from by decide)]
  have hc : 0 ≤ (if ns[j] < 0 then -ns[j] else ns[j]) := by split <;> omega
  generalize (if ns[j] < 0 then -ns[j] else ns[j]) = c at hc ⊢
  have g0 : 0 ≤ (mx * 48271 + c % 1000003 + (j : Int)) % 65537 := by omega
  have g1 : (mx * 48271 + c % 1000003 + (j : Int)) % 65537 < 65537 := by omega
  generalize (mx * 48271 + c % 1000003 + (j : Int)) % 65537 = mx2 at g0 g1 ⊢
  split
  · rename_i hb
    clear hb
    refine wpS_mono (draws_r2 hc ha (by omega)) ?_
    rintro σ h' ⟨acc', a6, a7, rfl, rfl, q1, q2⟩
    exact ⟨acc', _, _, _, _, _, rfl, rfl, g0, g1, q1, by omega⟩
  · rename_i hb
    clear hb
    rw [if_pos ty_lst]
    refine app_draw (by omega) ?_
    rw [if_pos ty_lst]
    simp only [ev_mul (cm _ g0 g1 _), wpR_ok, ev_add, ev_int, ev_mod, Int.reduceLT]
    refine app_draw (by simp; omega) ?_
    have ha2 : inR 997 ((acc ++ [c % 997]) ++ [(mx2 * 69621 + 5) % 65521 % 997]) := (ha.app mod997.1 mod997.2).app mod997.1 mod997.2
    have hl2 : ((acc ++ [c % 997]) ++ [(mx2 * 69621 + 5) % 65521 % 997]).length = acc.length + 2 := by simp
    generalize (acc ++ [c % 997]) ++ [(mx2 * 69621 + 5) % 65521 % 997] = acc2 at ha2 hl2 ⊢
    have hl3 : acc2.length < 90000 := by omega
    have hz : (0 : Int) ≤ 0 := Int.le_refl 0
    clear cm e h0 h1 hj hl
    have w := draws_r2 (h := h) (T := T) (a0 := some (.cst (ns.map .int))) (a1 := a1) (a3 := some (.int mx2)) (a4 := some (.int j)) (a5 := some (.int c)) (a7 := a7) hz ha2 hl3
    refine wpS_mono w ?_
    rintro σ h' ⟨acc', a6, a7, rfl, rfl, q1, q2⟩
    refine ⟨acc', _, _, _, _, _, rfl, rfl, g0, g1, q1, ?_⟩
    omega
theorem draws_b4 {a0 a1 a5 a6 a7 : Option D} {mx : Int} {k : Nat} (h0 : 0 ≤ mx) (h1 : mx < 65537) (ha : inR 997 acc) (hl : acc.length < 900000) :
    wpS (m_drawsB_b4 [a0, a1, some (.ref h.length), some (.int mx), some (.int k), a5, a6, a7] (h ++ [.lst (acc.map .int)]))
      (fun σ h' => ∃ (acc' : List Int) (mx' : Int), σ = [a0, a1, some (.ref h.length), some (.int mx'), some (.int k), a5, a6, a7] ∧ h' = h ++ [.lst (acc'.map .int)] ∧ 0 ≤ mx' ∧ mx' < 65537 ∧ inR 997 acc' ∧ acc'.length ≤ acc.length + 1) T := by
  unfold m_drawsB_b4
  have cm : ∀ z, CMul mx z := fun z => .inl ⟨by omega, by omega⟩
  simp only [↓wp_seq, ↓wp_skip, ↓wp_drop, ↓wp_ret, ↓wp_retN, ↓wp_brk, ↓wp_cnt, ↓wp_if, ↓wp_asg, ↓wp_to, ↓wp_tos, ↓wp_toIx, ↓wp_aug, ↓wp_augK, ↓wp_fldSet, ↓wp_fldAug, ↓wp_var, ↓wp_c, ↓wp_op, ↓wp_un, ↓wp_nil, ↓wp_cons, ↓wp_tup, ↓wp_lst, ↓wp_dict0, ↓wp_dict, ↓wp_pairs0, ↓wp_pairs, ↓wp_call, ↓wp_callF, ↓wp_tru, ↓wp_bl, ↓wp_and, ↓wp_or, ↓wp_not, ↓wp_andV, ↓wp_orV, ↓wp_notV, ↓wp_part, ↓wp_noPart, ↓wp_sl, ↓wp_bm, ↓wp_ifE, ↓wp_fld, ↓wp_meth, ↓wp_make, ↓wp_lockE, ↓wp_rng1, ↓wp_rng2, ↓wp_seqI, ↓wpR_ok, ↓wpS_nx, ↓wpS_rt, List.getElem?_cons_zero, List.getElem?_cons_succ, List.set_cons_zero, List.set_cons_succ, List.length_cons, List.length_nil, ↓reduceIte, decide_eq_true_eq, ev_add, ev_iadd, ev_sub, ev_mod, ev_neg, ev_lt, ev_le, ev_gt, ev_ge, ev_eqI, ev_neI, ev_eqS, ev_neS, ev_isN, ev_int, ev_abs, ev_max, ev_min, ev_lenT, ev_lenC, ev_tupT, Int.reduceLT, Int.reduceLE, Int.reduceNeg, Int.reduceAdd, Int.reduceSub, Int.reduceEq, Nat.reduceAdd, Nat.reduceSub, and_self, ↓List.map_cons, ↓List.map_nil, ↓List.cons_append, ↓List.nil_append, List.replicate, ev_mul (cm _)]
  rw [if_pos ty_lst]
  refine app_draw (by omega) ?_
  exact ⟨_, _, rfl, rfl, by omega, by omega, ha.app mod997.1 mod997.2, by simp⟩
theorem draws_r6 {a0 a4 a5 a6 a7 : Option D} {mx : Int} {m : Nat} (hm : m ≤ 100000) (h0 : 0 ≤ mx) (h1 : mx < 65537) (ha : inR 997 acc) (hl : acc.length < 100000) 
    (k : ∀ acc' ds : List Int, inR 997 ds → T.rt (.ref (h.length + 1)) (h ++ [.lst (acc'.map .int), .lst (ds.map .int)])) :
    wpS (m_drawsB_r6 [a0, some (.int m), some (.ref h.length), some (.int mx), a4, a5, a6, a7] (h ++ [.lst (acc.map .int)])) (fun _ _ => False) T := by
  unfold m_drawsB_r6
  simp only [↓wp_seq, ↓wp_skip, ↓wp_drop, ↓wp_ret, ↓wp_retN, ↓wp_brk, ↓wp_cnt, ↓wp_if, ↓wp_asg, ↓wp_to, ↓wp_tos, ↓wp_toIx, ↓wp_aug, ↓wp_augK, ↓wp_fldSet, ↓wp_fldAug, ↓wp_var, ↓wp_c, ↓wp_op, ↓wp_un, ↓wp_nil, ↓wp_cons, ↓wp_tup, ↓wp_lst, ↓wp_dict0, ↓wp_dict, ↓wp_pairs0, ↓wp_pairs, ↓wp_call, ↓wp_callF, ↓wp_tru, ↓wp_bl, ↓wp_and, ↓wp_or, ↓wp_not, ↓wp_andV, ↓wp_orV, ↓wp_notV, ↓wp_part, ↓wp_noPart, ↓wp_sl, ↓wp_bm, ↓wp_ifE, ↓wp_fld, ↓wp_meth, ↓wp_make, ↓wp_lockE, ↓wp_rng1, ↓wp_rng2, ↓wp_seqI, ↓wpR_ok, ↓wpS_nx, ↓wpS_rt, List.getElem?_cons_zero, List.getElem?_cons_succ, List.set_cons_zero, List.set_cons_succ, List.length_cons, List.length_nil, ↓reduceIte, decide_eq_true_eq, ev_add, ev_iadd, ev_sub, ev_mod, ev_neg, ev_lt, ev_le, ev_gt, ev_ge, ev_eqI, ev_neI, ev_eqS, ev_neS, ev_isN, ev_int, ev_abs, ev_max, ev_min, ev_lenT, ev_lenC, ev_tupT, Int.reduceLT, Int.reduceLE, Int.reduceNeg, Int.reduceAdd, Int.reduceSub, Int.reduceEq, Nat.reduceAdd, Nat.reduceSub, and_self, ↓List.map_cons, ↓List.map_nil, ↓List.cons_append, ↓List.nil_append, List.replicate, ↓wp_forE]
  rw [if_pos (by omega)]
  refine wp_forR (fun j σ h' => ∃ (acc' : List Int) (mx' : Int) (a4 : Option D), σ = [a0, some (.int m), some (.ref h.length), some (.int mx'), a4, a5, a6, a7] ∧ h' = h ++ [.lst (acc'.map .int)] ∧ 0 ≤ mx' ∧ mx' < 65537 ∧ inR 997 acc' ∧ acc'.length ≤ acc.length + j)
    ⟨acc, mx, a4, rfl, rfl, h0, h1, ha, Nat.le_refl _⟩ ?_ ?_
  · rintro j σ h' ⟨acc', mx', a4, rfl, rfl, q0, q1, q2, q3⟩ hj
    simp only [↓wp_seq, ↓wp_skip, ↓wp_drop, ↓wp_ret, ↓wp_retN, ↓wp_brk, ↓wp_cnt, ↓wp_if, ↓wp_asg, ↓wp_to, ↓wp_tos, ↓wp_toIx, ↓wp_aug, ↓wp_augK, ↓wp_fldSet, ↓wp_fldAug, ↓wp_var, ↓wp_c, ↓wp_op, ↓wp_un, ↓wp_nil, ↓wp_cons, ↓wp_tup, ↓wp_lst, ↓wp_dict0, ↓wp_dict, ↓wp_pairs0, ↓wp_pairs, ↓wp_call, ↓wp_callF, ↓wp_tru, ↓wp_bl, ↓wp_and, ↓wp_or, ↓wp_not, ↓wp_andV, ↓wp_orV, ↓wp_notV, ↓wp_part, ↓wp_noPart, ↓wp_sl, ↓wp_bm, ↓wp_ifE, ↓wp_fld, ↓wp_meth, ↓wp_make, ↓wp_lockE, ↓wp_rng1, ↓wp_rng2, ↓wp_seqI, ↓wpR_ok, ↓wpS_nx, ↓wpS_rt, List.getElem?_cons_zero, List.getElem?_cons_succ, List.set_cons_zero, List.set_cons_succ, List.length_cons, List.length_nil, ↓reduceIte, decide_eq_true_eq, ev_add, ev_iadd, ev_sub, ev_mod, ev_neg, ev_lt, ev_le, ev_gt, ev_ge, ev_eqI, ev_neI, ev_eqS, ev_neS, ev_isN, ev_int, ev_abs, ev_max, ev_min, ev_lenT, ev_lenC, ev_tupT, Int.reduceLT, Int.reduceLE, Int.reduceNeg, Int.reduceAdd, Int.reduceSub, Int.reduceEq, Nat.reduceAdd, Nat.reduceSub, and_self, ↓List.map_cons, ↓List.map_nil, ↓List.cons_append, ↓List.nil_append, List.replicate]
    rw [show (0 : Int) + (j : Int) = (j : Int) from by omega]
    refine wpS_mono (draws_b4 q0 q1 q2 (by omega)) ?_
    rintro σ h2 ⟨acc2, mx2, rfl, rfl, p1, p2, p3, p4⟩
    exact ⟨acc2, mx2, _, rfl, rfl, p1, p2, p3, by omega⟩
  · rintro σ h' ⟨acc', mx', a4, rfl, rfl, q0, q1, q2, q3⟩
    unfold m_drawsB_r5
    simp only [↓wp_seq, ↓wp_skip, ↓wp_drop, ↓wp_ret, ↓wp_retN, ↓wp_brk, ↓wp_cnt, ↓wp_if, ↓wp_asg, ↓wp_to, ↓wp_tos, ↓wp_toIx, ↓wp_aug, ↓wp_augK, ↓wp_fldSet, ↓wp_fldAug, ↓wp_var, ↓wp_c, ↓wp_op, ↓wp_un, ↓wp_nil, ↓wp_cons, ↓wp_tup, ↓wp_lst, ↓wp_dict0, ↓wp_dict, ↓wp_pairs0, ↓wp_pairs, ↓wp_call, ↓wp_callF, ↓wp_tru, ↓wp_bl, ↓wp_and, ↓wp_or, ↓wp_not, ↓wp_andV, ↓wp_orV, ↓wp_notV, ↓wp_part, ↓wp_noPart, ↓wp_sl, ↓wp_bm, ↓wp_ifE, ↓wp_fld, ↓wp_meth, ↓wp_make, ↓wp_lockE, ↓wp_rng1, ↓wp_rng2, ↓wp_seqI, ↓wpR_ok, ↓wpS_nx, ↓wpS_rt, List.getElem?_cons_zero, List.getElem?_cons_succ, List.set_cons_zero, List.set_cons_succ, List.length_cons, List.length_nil, ↓reduceIte, decide_eq_true_eq, ev_add, ev_iadd, ev_sub, ev_mod, ev_neg, ev_lt, ev_le, ev_gt, ev_ge, ev_eqI, ev_neI, ev_eqS, ev_neS, ev_isN, ev_int, ev_abs, ev_max, ev_min, ev_lenT, ev_lenC, ev_tupT, Int.reduceLT, Int.reduceLE, Int.reduceNeg, Int.reduceAdd, Int.reduceSub, Int.reduceEq, Nat.reduceAdd, Nat.reduceSub, and_self, ↓List.map_cons, ↓List.map_nil, ↓List.cons_append, ↓List.nil_append, List.replicate]
    have e : dSl (D.ref h.length) none (some (m : Int)) (h ++ [.lst (acc'.map D.int)]) = .ok (.ref (h.length + 1)) (h ++ [.lst (acc'.map .int), .lst ((acc'.take m).map .int)]) := by
      have e1 : cutD (acc'.map D.int) none (some (m : Int)) = (acc'.take m).map .int := by
        unfold cutD
        have e2 : HT.sIx (acc'.map D.int).length 0 none = 0 := rfl
        have e3 : HT.sIx (acc'.map D.int).length (acc'.map D.int).length (some (m : Int)) = min m (acc'.map D.int).length := HT.sIx_nat _ _ _
        rw [e2, e3, List.drop_zero, Nat.sub_zero, List.map_take, List.take_eq_take_iff]
        omega
      simp only [dSl, List.getElem?_append_right (Nat.le_refl _), Nat.sub_self, List.getElem?_cons_zero, e1, List.length_append, List.length_cons, List.length_nil, List.append_assoc, List.cons_append, List.nil_append]
    rw [e, wpR_ok]
    exact k _ _ fun d hd => q2 d (List.mem_of_mem_take hd)
theorem drawsB_ok {h : HS} {ns : List Int} {m : Nat} (hl : ns.length ≤ 63) (hm : m ≤ 100000) :
    ∃ junk ds : List Int, runB 8 m_drawsB [.cst (ns.map .int), .int m] h = .ok (.ref (h.length + 1)) (h ++ [.lst (junk.map .int), .lst (ds.map .int)]) ∧ inR 997 ds := by
  have key : wpR (runB 8 m_drawsB [.cst (ns.map .int), .int m] h) (fun d h' => ∃ junk ds : List Int, d = .ref (h.length + 1) ∧ h' = h ++ [.lst (junk.map .int), .lst (ds.map .int)] ∧ inR 997 ds) X0 := by
    unfold m_drawsB
    simp only [↓wp_seq, ↓wp_skip, ↓wp_drop, ↓wp_ret, ↓wp_retN, ↓wp_brk, ↓wp_cnt, ↓wp_if, ↓wp_asg, ↓wp_to, ↓wp_tos, ↓wp_toIx, ↓wp_aug, ↓wp_augK, ↓wp_fldSet, ↓wp_fldAug, ↓wp_var, ↓wp_c, ↓wp_op, ↓wp_un, ↓wp_nil, ↓wp_cons, ↓wp_tup, ↓wp_lst, ↓wp_dict0, ↓wp_dict, ↓wp_pairs0, ↓wp_pairs, ↓wp_call, ↓wp_callF, ↓wp_tru, ↓wp_bl, ↓wp_and, ↓wp_or, ↓wp_not, ↓wp_andV, ↓wp_orV, ↓wp_notV, ↓wp_part, ↓wp_noPart, ↓wp_sl, ↓wp_bm, ↓wp_ifE, ↓wp_fld, ↓wp_meth, ↓wp_make, ↓wp_lockE, ↓wp_rng1, ↓wp_rng2, ↓wp_seqI, ↓wpR_ok, ↓wpS_nx, ↓wpS_rt, List.getElem?_cons_zero, List.getElem?_cons_succ, List.set_cons_zero, List.set_cons_succ, List.length_cons, List.length_nil, ↓reduceIte, decide_eq_true_eq, ev_add, ev_iadd, ev_sub, ev_mod, ev_neg, ev_lt, ev_le, ev_gt, ev_ge, ev_eqI, ev_neI, ev_eqS, ev_neS, ev_isN, ev_int, ev_abs, ev_max, ev_min, ev_lenT, ev_lenC, ev_tupT, Int.reduceLT, Int.reduceLE, Int.reduceNeg, Int.reduceAdd, Int.reduceSub, Int.reduceEq, Nat.reduceAdd, Nat.reduceSub, and_self, ↓List.map_cons, ↓List.map_nil, ↓List.cons_append, ↓List.nil_append, List.replicate, ↓wp_runB, ↓wp_forE, List.length_map, Nat.sub_self]
    rw [if_pos (by decide), if_pos (by omega)]
    refine wp_forR (fun j σ h' => ∃ (acc' : List Int) (mx' : Int) (a4 a5 a6 a7 : Option D), σ = [some (.cst (ns.map .int)), some (.int m), some (.ref h.length), some (.int mx'), a4, a5, a6, a7] ∧ h' = h ++ [.lst (acc'.map .int)] ∧ 0 ≤ mx' ∧ mx' < 65537 ∧ inR 997 acc' ∧ acc'.length ≤ 62 * j)
      ⟨[], 7, _, _, _, _, rfl, rfl, by decide, by decide, (fun _ h => by cases h), Nat.le_refl _⟩ ?_ ?_
    · rintro j σ h' ⟨acc', mx', a4, a5, a6, a7, rfl, rfl, q0, q1, q2, q3⟩ hj
      simp only [↓wp_seq, ↓wp_skip, ↓wp_drop, ↓wp_ret, ↓wp_retN, ↓wp_brk, ↓wp_cnt, ↓wp_if, ↓wp_asg, ↓wp_to, ↓wp_tos, ↓wp_toIx, ↓wp_aug, ↓wp_augK, ↓wp_fldSet, ↓wp_fldAug, ↓wp_var, ↓wp_c, ↓wp_op, ↓wp_un, ↓wp_nil, ↓wp_cons, ↓wp_tup, ↓wp_lst, ↓wp_dict0, ↓wp_dict, ↓wp_pairs0, ↓wp_pairs, ↓wp_call, ↓wp_callF, ↓wp_tru, ↓wp_bl, ↓wp_and, ↓wp_or, ↓wp_not, ↓wp_andV, ↓wp_orV, ↓wp_notV, ↓wp_part, ↓wp_noPart, ↓wp_sl, ↓wp_bm, ↓wp_ifE, ↓wp_fld, ↓wp_meth, ↓wp_make, ↓wp_lockE, ↓wp_rng1, ↓wp_rng2, ↓wp_seqI, ↓wpR_ok, ↓wpS_nx, ↓wpS_rt, List.getElem?_cons_zero, List.getElem?_cons_succ, List.set_cons_zero, List.set_cons_succ, List.length_cons, List.length_nil, ↓reduceIte, decide_eq_true_eq, ev_add, ev_iadd, ev_sub, ev_mod, ev_neg, ev_lt, ev_le, ev_gt, ev_ge, ev_eqI, ev_neI, ev_eqS, ev_neS, ev_isN, ev_int, ev_abs, ev_max, ev_min, ev_lenT, ev_lenC, ev_tupT, Int.reduceLT, Int.reduceLE, Int.reduceNeg, Int.reduceAdd, Int.reduceSub, Int.reduceEq, Nat.reduceAdd, Nat.reduceSub, and_self, ↓List.map_cons, ↓List.map_nil, ↓List.cons_append, ↓List.nil_append, List.replicate]
      rw [show (0 : Int) + (j : Int) = (j : Int) from by omega]
      refine wpS_mono (draws_b3 q0 q1 (by omega) q2 (by omega)) ?_
      rintro σ h2 ⟨acc2, mx2, _, _, _, _, rfl, rfl, p1, p2, p3, p4⟩
      exact ⟨acc2, mx2, _, _, _, _, rfl, rfl, p1, p2, p3, by omega⟩
    · intro σ h' hh
      obtain ⟨acc', mx', a4, a5, a6, a7, e1, e2, q0, q1, q2, q3⟩ := hh
      rw [Int.toNat_natCast] at q3
      rw [e1, e2]
      have hl2 : acc'.length < 100000 := by
        have q4 : 62 * ns.length ≤ 62 * 63 := Nat.mul_le_mul_left _ hl
        exact Nat.lt_of_le_of_lt q3 (Nat.lt_of_le_of_lt q4 (by decide))
      refine wpS_mono (draws_r6 hm q0 q1 q2 hl2 fun acc' ds hd => ⟨acc', ds, rfl, rfl, hd⟩) fun _ _ f => f.elim
  obtain ⟨d, h', e, junk, ds, rfl, rfl, q⟩ := wpR_elim key
  exact ⟨junk, ds, e, q⟩
end
end FL

set_option Elab.async false
set_option linter.all false
set_option maxRecDepth 100000
set_option maxHeartbeats 400000
/-! FL, part k: data without places compares as itself; the bag of draws at its place. -/
namespace FL
open PySem PySem.Spec PyProof.Rows L2
/-- data of a depth, without places -/
def okD : Nat → D → Bool
  | 0, _ => false
  | n + 1, d => match d with
    | .non => true
    | .bl _ => true
    | .int _ => true
    | .str x => PyData.strOk x
    | .tup ds => ds.all (okD n)
    | _ => false
theorem okD_up : ∀ {n : Nat} {d : D}, okD n d = true → okD (n + 1) d = true
  | 0, d, e => by cases e
  | n + 1, d, e => by
    cases d <;> first | rfl | exact e | skip
    rename_i ds
    simp only [okD, List.all_eq_true] at e ⊢
    intro x hx
    exact okD_up (e x hx)
theorem okD_le {n m : Nat} {d : D} (h : n ≤ m) (e : okD n d = true) : okD m d = true := by
  induction h with
  | refl => exact e
  | step _ ih => exact okD_up ih
/-- what it reads as -/
theorem okD_py : ∀ {n : Nat} {d : D}, okD n d = true → ∃ p : PyData, (∀ (m : Nat) (h : HS), n ≤ m → pyD m h d = some p) ∧ p.canLay0 = true ∧ p.depth ≤ n
  | 0, d, e => by cases e
  | n + 1, d, e => by
    cases d with
    | non => exact ⟨.none, fun m h hm => by obtain ⟨k, rfl⟩ := Nat.exists_eq_add_of_lt hm; rfl, rfl, Nat.zero_le _⟩
    | bl b => exact ⟨.bool b, fun m h hm => by obtain ⟨k, rfl⟩ := Nat.exists_eq_add_of_lt hm; rfl, rfl, Nat.zero_le _⟩
    | int i => exact ⟨.int i, fun m h hm => by obtain ⟨k, rfl⟩ := Nat.exists_eq_add_of_lt hm; rfl, rfl, Nat.zero_le _⟩
    | str x => exact ⟨.str x, fun m h hm => by obtain ⟨k, rfl⟩ := Nat.exists_eq_add_of_lt hm; rfl, by simp only [PyData.canLay0]; exact e, Nat.zero_le _⟩
    | ty _ => cases e
    | ref _ => cases e
    | cst _ => cases e
    | tup ds =>
      have all : ∀ l : List D, l.all (okD n) = true → ∃ ps : List PyData, (∀ (m : Nat) (h : HS), n ≤ m → l.mapM (pyD m h) = some ps) ∧ PyData.canLayAll0 ps = true ∧ PyData.depthAll ps ≤ n := by
        intro l
        induction l with
        | nil => intro _; exact ⟨[], fun m h _ => rfl, rfl, Nat.zero_le _⟩
        | cons x l ih =>
          intro hl
          rw [List.all_cons, Bool.and_eq_true] at hl
          obtain ⟨p, p1, p2, p3⟩ := okD_py hl.1
          obtain ⟨ps, q1, q2, q3⟩ := ih hl.2
          refine ⟨p :: ps, fun m h hm => ?_, ?_, ?_⟩
          · rw [List.mapM_cons, p1 m h hm, q1 m h hm]; rfl
          · simp only [PyData.canLayAll0, p2, q2, Bool.and_self]
          · simp only [PyData.depthAll]
            exact Nat.max_le.mpr ⟨p3, q3⟩
      obtain ⟨ps, q1, q2, q3⟩ := all ds e
      refine ⟨.tuple ps, fun m h hm => ?_, ?_, ?_⟩
      · obtain ⟨k, rfl⟩ := Nat.exists_eq_add_of_lt hm
        show (ds.mapM (pyD (n + k) h)).map PyData.tuple = _
        rw [q1 _ h (by omega)]
        rfl
      · simp only [PyData.canLay0, q2]
      · simp only [PyData.depth]
        omega
theorem okDs_py {n : Nat} : ∀ {l : List D}, l.all (okD n) = true → ∃ ps : List PyData, (∀ (m : Nat) (h : HS), n ≤ m → l.mapM (pyD m h) = some ps) ∧ PyData.canLayAll0 ps = true ∧ PyData.depthAll ps ≤ n
  | [], _ => ⟨[], fun m h _ => rfl, rfl, Nat.zero_le _⟩
  | x :: l, hl => by
    rw [List.all_cons, Bool.and_eq_true] at hl
    obtain ⟨p, p1, p2, p3⟩ := okD_py hl.1
    obtain ⟨ps, q1, q2, q3⟩ := okDs_py hl.2
    refine ⟨p :: ps, fun m h hm => ?_, ?_, ?_⟩
    · rw [List.mapM_cons, p1 m h hm, q1 m h hm]; rfl
    · simp only [PyData.canLayAll0, p2, q2, Bool.and_self]
    · simp only [PyData.depthAll]
      exact Nat.max_le.mpr ⟨p3, q3⟩
theorem shaped_ok {p : PyData} (h : p.canLay0 = true) (hd : p.depth ≤ 64) : SeqAt.shaped p = true := by
  unfold SeqAt.shaped
  rw [h, decide_eq_true hd]; rfl
section
variable {h : HS} {ds : List D} {n i j : Nat}
/-- two places with the same list -/
theorem eqB_lst (hi : h[i]? = some (.lst ds)) (hj : h[j]? = some (.lst ds)) (ok : ds.all (okD n) = true) (hn : n ≤ 60) : eqB (.ref i) (.ref j) h = some true := by
  obtain ⟨ps, q1, q2, q3⟩ := okDs_py ok
  have c : PyData.canLay0 (.list ps) = true := by simp only [PyData.canLay0, q2]
  have s : SeqAt.shaped (.list ps) = true := shaped_ok c (by simp only [PyData.depth]; omega)
  have e1 : ∀ k, h[k]? = some (.lst ds) → pyD 66 h (.ref k) = some (.list ps) := fun k hk => by
    show (match h[k]? with
      | some (.lst ds) => (ds.mapM (pyD 65 h)).map PyData.list
      | _ => none) = _
    rw [hk]
    show (ds.mapM (pyD 65 h)).map PyData.list = _
    rw [q1 65 h (by omega)]; rfl
  show eqDeep (.ref i) (.ref j) h = _
  unfold eqDeep
  rw [e1 i hi, e1 j hj]
  simp only [s, Bool.and_self, if_true]
  rw [SeqAt.eqv_refl _ c]
theorem eqB_tup (ok : ds.all (okD n) = true) (hn : n ≤ 60) : eqB (.tup ds) (.tup ds) h = some true := by
  obtain ⟨p, q1, q2, q3⟩ := okD_py (n := n + 1) (d := .tup ds) ok
  have s : SeqAt.shaped p = true := shaped_ok q2 (by omega)
  show eqDeep (.tup ds) (.tup ds) h = _
  unfold eqDeep
  rw [q1 66 h (by omega)]
  simp only [s, Bool.and_self, if_true]
  rw [SeqAt.eqv_refl _ q2]
theorem dNe_lst (hi : h[i]? = some (.lst ds)) (hj : h[j]? = some (.lst ds)) (ok : ds.all (okD n) = true) (hn : n ≤ 60) : dNe (.ref i) (.ref j) h = .ok (.bl false) h := by
  unfold dNe
  rw [eqB_lst hi hj ok hn]; rfl
theorem dEq_lst (hi : h[i]? = some (.lst ds)) (hj : h[j]? = some (.lst ds)) (ok : ds.all (okD n) = true) (hn : n ≤ 60) : dEq (.ref i) (.ref j) h = .ok (.bl true) h := by
  unfold dEq
  rw [eqB_lst hi hj ok hn]
theorem dNe_tup (ok : ds.all (okD n) = true) (hn : n ≤ 60) : dNe (.tup ds) (.tup ds) h = .ok (.bl false) h := by
  unfold dNe
  rw [eqB_tup ok hn]; rfl
theorem dEq_tup (ok : ds.all (okD n) = true) (hn : n ≤ 60) : dEq (.tup ds) (.tup ds) h = .ok (.bl true) h := by
  unfold dEq
  rw [eqB_tup ok hn]
end
theorem sz0 : (0 ≤ sizeLine) = True := eq_true (by decide)
theorem sz1 : (1 ≤ sizeLine) = True := eq_true (by decide)
theorem sz2 : (2 ≤ sizeLine) = True := eq_true (by decide)
theorem sz3 : (3 ≤ sizeLine) = True := eq_true (by decide)
theorem sz4 : (4 ≤ sizeLine) = True := eq_true (by decide)
theorem sz5 : (5 ≤ sizeLine) = True := eq_true (by decide)
theorem sz6 : (6 ≤ sizeLine) = True := eq_true (by decide)
theorem sz7 : (7 ≤ sizeLine) = True := eq_true (by decide)
theorem sz8 : (8 ≤ sizeLine) = True := eq_true (by decide)
theorem sz9 : (9 ≤ sizeLine) = True := eq_true (by decide)
theorem ev_keyI {i : Int} : keyD (.int i) = some (.inl i) := rfl
theorem ev_keyS {x : Str} : keyD (.str x) = some (.inr x) := rfl
/-! ### members of short tuples; a part at a heap's end -/
section
variable {h l x : HS} {ds : List D} {u v w z : D} {o : MO} {k : Nat}
theorem ixT0 : dIx (.tup (u :: ds)) (.int 0) h = .ok u h := ev_ixT (atI_nat (j := 0) rfl)
theorem ixT1 : dIx (.tup (u :: v :: ds)) (.int 1) h = .ok v h := ev_ixT (atI_nat (j := 1) rfl)
theorem ixT2 : dIx (.tup (u :: v :: w :: ds)) (.int 2) h = .ok w h := ev_ixT (atI_nat (j := 2) rfl)
theorem ixT3 : dIx (.tup (u :: v :: w :: z :: ds)) (.int 3) h = .ok z h := ev_ixT (atI_nat (j := 3) rfl)
theorem ixTm1 : dIx (.tup [u]) (.int (-1)) h = .ok u h := rfl
theorem ixTm2 : dIx (.tup [u, v]) (.int (-1)) h = .ok v h := rfl
theorem ixTm3 : dIx (.tup [u, v, w]) (.int (-1)) h = .ok w h := rfl
def onH (h l : HS) : HS := h ++ l
theorem onH_nil (h : HS) : onH h [] = h := List.append_nil h
theorem onH_get : (onH h l)[h.length + k]? = l[k]? := by
  unfold onH
  rw [List.getElem?_append_right (by omega)]
  congr 1
  omega
theorem onH_set : (onH h l).set (h.length + k) o = onH h (l.set k o) := by
  unfold onH
  rw [List.set_append_right _ _ (by omega), show h.length + k - h.length = k from by omega]
theorem onH_push : onH h l ++ x = onH h (l ++ x) := List.append_assoc _ _ _
theorem onH_len : (onH h l).length = h.length + l.length := List.length_append
theorem dSet_dK {kvs : List (Key × D)} {i : D} {q : Key} {p : Nat} {d : D} (hp : h[p]? = some (.dK kvs)) (hi : keyD i = some q) (hl : kvs.length < sizeLine) : dSet (.ref p) i d h = some (h.set p (.dK (setK kvs q d))) := by
  simp only [dSet, hp, hi, if_pos hl]
end
/-! ### loops over a list at a place, a tuple; places that stay -/
theorem get_push {h l : HS} {i : Nat} {o : MO} (e : h[i]? = some o) : (h ++ l)[i]? = some o := by
  rw [List.getElem?_append_left (List.getElem?_eq_some_iff.mp e).1, e]
theorem get_set {h : HS} {i : Nat} {o o' : MO} (e : h[i]? = some o) : (h.set i o')[i]? = some o' := List.getElem?_set_self (List.getElem?_eq_some_iff.mp e).1
theorem get_other {h : HS} {i j : Nat} {x : Option MO} {o : MO} (n : i ≠ j) (e : h[j]? = x) : (h.set i o)[j]? = x := by rw [List.getElem?_set_ne n, e]
theorem insD_at {h : HS} {i : Nat} {C : Addr} {fs : List (Str × D)} {Cs : List Addr} (e : h[i]? = some (.ins C fs)) (hc : C ∈ Cs) : insD Cs h (.ref i) = some (i, C, fs) := by
  simp only [insD, e, if_pos hc]
theorem ev_eqB {h : HS} {a b : Bool} : dEq (.bl a) (.bl b) h = .ok (D.bl (decide (a = b))) h := by
  show R.ok (D.bl (decide (V.bl a = V.bl b))) h = _
  simp
theorem ev_neB {h : HS} {a b : Bool} : dNe (.bl a) (.bl b) h = .ok (D.bl (!decide (a = b))) h := by
  show R.ok (D.bl (!decide (V.bl a = V.bl b))) h = _
  simp
section
variable {σ : Sl} {h : HS} {g : FG} {u : FS} {N : Sl → HS → Prop} {T : Tl} {X : XP} {p : Nat} {ds : List D}
theorem wp_forS (hp : h[p]? = some (.lst ds)) (I : Nat → Sl → HS → Prop) (h0 : I 0 σ h) (keep : ∀ j σ h, I j σ h → h[p]? = some (.lst ds))
    (step : ∀ (j : Nat) (hj : j < ds.length) (σ : Sl) (h : HS), I j σ h → wpR (g ds[j] σ h) (fun σ h => wpS (u σ h) (I (j + 1)) { T with ct := I (j + 1), bk := N }) (fun x h => T.ex x σ h))
    (fin : ∀ σ h, I ds.length σ h → N σ h) : wpR (itSeq (.ref p) h) (fun J h => wpS (forL g u J J.n 0 σ h) N T) X := by
  have e : lstAt h p = some ds := by simp only [lstAt, hp]
  simp only [itSeq, e, wpR_ok]
  refine wp_forL _ I h0 (fun j σ h i hj => ⟨ds[j], ?_, step j hj σ h i⟩) fun σ h i => ⟨?_, fin σ h i⟩
  · have e2 : lstAt h p = some ds := by simp only [lstAt, keep j σ h i]
    simp only [e2, Option.bind]
    exact List.getElem?_eq_getElem hj
  · have e2 : lstAt h p = some ds := by simp only [lstAt, keep _ σ h i]
    simp only [e2, Option.any, Nat.le_refl, decide_true]
theorem wp_forT (I : Nat → Sl → HS → Prop) (h0 : I 0 σ h)
    (step : ∀ (j : Nat) (hj : j < ds.length) (σ : Sl) (h : HS), I j σ h → wpR (g ds[j] σ h) (fun σ h => wpS (u σ h) (I (j + 1)) { T with ct := I (j + 1), bk := N }) (fun x h => T.ex x σ h))
    (fin : ∀ σ h, I ds.length σ h → N σ h) : wpR (itSeq (.tup ds) h) (fun J h => wpS (forL g u J J.n 0 σ h) N T) X := by
  simp only [itSeq, wpR_ok]
  exact wp_forL _ I h0 (fun j σ h i hj => ⟨ds[j], List.getElem?_eq_getElem hj, step j hj σ h i⟩) fun σ h i => ⟨rfl, fin σ h i⟩
variable {tg : Tgt} {tt : FT} {te : FE} {P : List D → HS → Prop} {X' : XP}
theorem wp_lcS (hp : h[p]? = some (.lst ds)) (I : Nat → List D → HS → Prop) (h0 : I 0 [] h) (keep : ∀ j acc h, I j acc h → h[p]? = some (.lst ds))
    (step : ∀ (j : Nat) (hj : j < ds.length) (acc : List D) (h : HS), I j acc h → wpR (tg.m ds[j] σ h) (fun σ h => wpR (tt σ h) (fun b h => if b = true then wpR (te σ h) (fun y h => acc.length < sizeLine ∧ I (j + 1) (acc ++ [y]) h) X0 else I (j + 1) acc h) X0) X0)
    (fin : ∀ acc h, I ds.length acc h → P acc h) : wpR (itSeq (.ref p) h) (fun J h => wpR (lcL tg tt te J σ J.n 0 [] h) P X') X := by
  have e : lstAt h p = some ds := by simp only [lstAt, hp]
  simp only [itSeq, e, wpR_ok]
  refine wp_lcL _ I h0 (fun j acc h i hj => ⟨ds[j], ?_, step j hj acc h i⟩) fun acc h i => ⟨?_, fin acc h i⟩
  · have e2 : lstAt h p = some ds := by simp only [lstAt, keep j acc h i]
    simp only [e2, Option.bind]
    exact List.getElem?_eq_getElem hj
  · have e2 : lstAt h p = some ds := by simp only [lstAt, keep _ acc h i]
    simp only [e2, Option.any, Nat.le_refl, decide_true]
theorem wp_lcR {lo : Int} {n : Nat} (I : Nat → List D → HS → Prop) (h0 : I 0 [] h)
    (step : ∀ (j : Nat), j < n → ∀ (acc : List D) (h : HS), I j acc h → wpR (tg.m (.int (lo + j)) σ h) (fun σ h => wpR (tt σ h) (fun b h => if b = true then wpR (te σ h) (fun y h => acc.length < sizeLine ∧ I (j + 1) (acc ++ [y]) h) X0 else I (j + 1) acc h) X0) X0)
    (fin : ∀ acc h, I n acc h → P acc h) : wpR (lcL tg tt te (itRange lo n) σ (itRange lo n).n 0 [] h) P X' :=
  wp_lcL _ I h0 (fun j acc h i hj => ⟨_, rfl, step j hj acc h i⟩) fun acc h i => ⟨rfl, fin acc h i⟩
theorem wp_lcV {kvs : List (Key × D)} (hp : h[p]? = some (.fdK kvs)) (I : Nat → List D → HS → Prop) (h0 : I 0 [] h)
    (step : ∀ (j : Nat) (hj : j < kvs.length) (acc : List D) (h : HS), I j acc h → wpR (tg.m (kvs[j]).2 σ h) (fun σ h => wpR (tt σ h) (fun b h => if b = true then wpR (te σ h) (fun y h => acc.length < sizeLine ∧ I (j + 1) (acc ++ [y]) h) X0 else I (j + 1) acc h) X0) X0)
    (fin : ∀ acc h, I kvs.length acc h → P acc h) : wpR (itVals (.ref p) h) (fun J h => wpR (lcL tg tt te J σ J.n 0 [] h) P X') X := by
  have e : fdAt h p = some kvs := by simp only [fdAt, hp]
  simp only [itVals, e, wpR_ok]
  refine wp_lcL _ I h0 (fun j acc h i hj => ⟨(kvs[j]).2, ?_, step j hj acc h i⟩) fun acc h i => ⟨rfl, fin acc h i⟩
  show (kvs[j]?).map (·.2) = _
  rw [List.getElem?_eq_getElem hj]; rfl
theorem wp_one {i : Nat} {d : D} {Q : Sl → HS → Prop} : wpR ((Tgt.one i).m d σ h) Q X ↔ Q (σ.set i (some d)) h := wp_to
theorem wp_many {is : List Nat} {d : D} {Q : Sl → HS → Prop} : wpR ((Tgt.many is).m d σ h) Q X ↔ match d with
  | .tup ds => match setAll is ds σ with
    | some σ' => Q σ' h
    | none => False
  | _ => False := wp_tos
theorem wp_yes {Q : Bool → HS → Prop} : wpR (mYes σ h) Q X ↔ Q true h := wpR_ok
theorem wp_valsI {e : FE} {Q : ItD → HS → Prop} : wpR (mValsI e σ h) Q X ↔ wpR (e σ h) (fun d h => wpR (itVals d h) Q X) X := wpR_bind
theorem wp_keysI {e : FE} {Q : ItD → HS → Prop} : wpR (mKeysI e σ h) Q X ↔ wpR (e σ h) (fun d h => wpR (itKeys d h) Q X) X := wpR_bind
end
/-! ### the heap of a law of the k60 family: draws, bag, then what else there is -/
theorem nxB_lt {ds : List Int} {a : Nat} {m : Int} (hd : inR 997 ds) (hm : 0 < m) : 0 ≤ nxB ds a m ∧ nxB ds a m < m := by
  unfold nxB
  split
  · omega
  · exact ⟨Int.emod_nonneg _ (by omega), Int.emod_lt_of_pos _ hm⟩
/-- the fixed part, the part of before, the part at work -/
def mkB (js ds : List Int) (a : Nat) (r l : HS) : HS := .lst (js.map .int) :: .lst (ds.map .int) :: bagB 1 a :: (r ++ l)
def pB (r : HS) : Nat := r.length + 3
section
variable {js ds : List Int} {a : Nat} {r l : HS} {m : Int} {o : MO} {k : Nat}
theorem mkB_next (hm : 0 < m) : runB 2 m_nextB [.ref 2, .int m] (mkB js ds a r l) = .ok (.int (nxB ds a m)) (mkB js ds (a + 1) r l) := nextB_ok (r := 1) rfl rfl hm
theorem mkB_get : (mkB js ds a r l)[pB r + k]? = l[k]? := by
  have e : pB r + k = r.length + k + 1 + 1 + 1 := by unfold pB; omega
  rw [e]
  show (r ++ l)[r.length + k]? = _
  rw [List.getElem?_append_right (by omega)]
  congr 1
  omega
theorem mkB_set : (mkB js ds a r l).set (pB r + k) o = mkB js ds a r (l.set k o) := by
  have e : pB r + k = r.length + k + 1 + 1 + 1 := by unfold pB; omega
  rw [e]
  show MO.lst (js.map .int) :: .lst (ds.map .int) :: bagB 1 a :: ((r ++ l).set (r.length + k) o) = _
  rw [List.set_append_right _ _ (by omega), show r.length + k - r.length = k from by omega]
  rfl
theorem mkB_push {x : HS} : mkB js ds a r l ++ x = mkB js ds a r (l ++ x) := by simp [mkB]
theorem mkB_len : (mkB js ds a r l).length = pB r + l.length := by
  simp [mkB, pB]
  omega
end
/-! ### a heap that grew while draws were taken -/
theorem set_self {h : HS} {p : Nat} {o : MO} (e : h[p]? = some o) : h.set p o = h := by
  obtain ⟨hp, e⟩ := List.getElem?_eq_some_iff.mp e
  subst e
  exact List.set_getElem_self hp
theorem set_setp {h l : HS} {i : Nat} {o o' : MO} (hi : i < h.length) : (h.set i o ++ l).set i o' = h.set i o' ++ l := by
  rw [List.set_append_left _ _ (by rw [List.length_set]; exact hi), List.set_set]
/-- h is h0 but for the draws taken and what was laid behind -/
def Dw (ds : List Int) (h0 h : HS) : Prop := h0[1]? = some (.lst (ds.map .int)) ∧ 2 < h0.length ∧ ∃ (a : Nat) (l : HS), h = h0.set 2 (bagB 1 a) ++ l
section
variable {ds : List Int} {h0 h h1 l : HS} {a i : Nat} {m : Int} {P : D → HS → Prop} {X : XP} {o : MO}
theorem Dw.refl (hb : h0[2]? = some (bagB 1 a)) (hd : h0[1]? = some (.lst (ds.map .int))) : Dw ds h0 h0 :=
  ⟨hd, (List.getElem?_eq_some_iff.mp hb).1, a, [], by rw [set_self hb, List.append_nil]⟩
theorem Dw.push (w : Dw ds h0 h) : Dw ds h0 (h ++ l) := by
  obtain ⟨w1, w2, a, l1, rfl⟩ := w
  exact ⟨w1, w2, a, l1 ++ l, List.append_assoc _ _ _⟩
theorem Dw.get (w : Dw ds h0 h) (n : i ≠ 2) (e : h0[i]? = some o) : h[i]? = some o := by
  obtain ⟨w1, w2, a, l1, rfl⟩ := w
  exact get_push (get_other (Ne.symm n) e)
theorem Dw.bag (w : Dw ds h0 h) : ∃ a, h[2]? = some (bagB 1 a) ∧ h[1]? = some (.lst (ds.map .int)) := by
  obtain ⟨w1, w2, a, l1, rfl⟩ := w
  exact ⟨a, get_push (List.getElem?_set_self w2), get_push (get_other (by decide) w1)⟩
theorem Dw.le (w : Dw ds h0 h) : h0.length ≤ h.length := by
  obtain ⟨w1, w2, a, l1, rfl⟩ := w
  rw [List.length_append, List.length_set]
  omega
theorem Dw.trans (w : Dw ds h0 h) (v : Dw ds h h1) : Dw ds h0 h1 := by
  obtain ⟨w1, w2, a, l1, rfl⟩ := w
  obtain ⟨v1, v2, b, l2, rfl⟩ := v
  refine ⟨w1, w2, b, l1 ++ l2, ?_⟩
  rw [set_setp w2, List.append_assoc]
theorem Dw.self (w : Dw ds h0 h) : Dw ds h h := by
  obtain ⟨a, e1, e2⟩ := w.bag
  exact Dw.refl e1 e2
/-- a draw -/
theorem Dw.next (hd : inR 997 ds) (w : Dw ds h0 h) (hm : 0 < m) (k : ∀ (v : Int) (h' : HS), 0 ≤ v → v < m → Dw ds h0 h' → P (.int v) h') : wpR (runB 2 m_nextB [.ref 2, .int m] h) P X := by
  obtain ⟨b, e1, e2⟩ := w.bag
  rw [nextB_ok e1 e2 hm, wpR_ok]
  obtain ⟨q1, q2⟩ := nxB_lt (a := b) hd hm
  refine k _ _ q1 q2 ?_
  obtain ⟨w1, w2, a, l1, rfl⟩ := w
  exact ⟨w1, w2, b + 1, l1, set_setp w2⟩
end
end FL

set_option Elab.async false
set_option linter.all false
set_option maxRecDepth 100000
set_option maxHeartbeats 4000000
namespace K65
open PySem PySem.Spec PyProof.Rows L2 FL
def topS (i : Nat) : Stmt := PySem.Challenge.pw_needonce_k65_heap_by_model.main.body.getD i (.Pass ⟨0, 0, 0, 0⟩)
def isiTab : List (String × String × Bool) := []
/-! ### what each def is, as a function of data -/
abbrev s_size_of : Stmt := topS 1
noncomputable def m_size_of (cs : Nat → Addr) : FS :=
    mSeq (mAsg (mOp dIx (mVar 0) (mC (.int 0))) (mTo 1))
    (mSeq (mIfS (mOr (mBl (mOp dEq (mVar 1) (mC (.str "hole")))) (mBl (mOp dEq (mVar 1) (mC (.str "on")))))
    (mRet (mC (.int 2)))
    (mSkip))
    (mSeq (mIfS (mBl (mOp dEq (mVar 1) (mC (.str "later"))))
    (mRet (mCall (dMax2) (mCons (mC (.int 2)) (mCons (mOp dAdd (mC (.int 1)) (mCall (dLen) (mCons (mOp dIx (mVar 0) (mC (.int 2))) (mNil)))) (mNil)))))
    (mSkip))
    (mRet (mOp dAdd (mC (.int 1)) (mCall (dLen) (mCons (mOp dIx (mVar 0) (mC (.int 2))) (mNil)))))))
noncomputable def f_size_of (cs : Nat → Addr) : List D → HS → R D := runB 2 (m_size_of cs)
abbrev s_z_draws : Stmt := topS 4
noncomputable def m_z_draws_b1 (cs : Nat → Addr) : FS :=
    mIfS (mBl (mOp dGt (mVar 6) (mC (.int 0))))
    (mSeq (mDrop (mBM "list" dAppend (mVar 2) (mCons (mOp dMod (mCall (dInt) (mCons (mVar 6) (mNil))) (mC (.int 997))) (mNil))))
    (mAsg (mOp dFdiv (mVar 6) (mC (.int 997))) (mTo 6)))
    (mSkip)
noncomputable def m_z_draws_r2 (cs : Nat → Addr) : FS :=
    mFor (mRange1 (mCons (mC (.int 60)) (mNil))) (mTo 7)
    (m_z_draws_b1 cs)
noncomputable def m_z_draws_b3 (cs : Nat → Addr) : FS :=
    mSeq (mAsg (mCall (dAbs) (mCons (mCall (dInt) (mCons (mOp dIx (mVar 0) (mVar 4)) (mNil))) (mNil))) (mTo 5))
    (mSeq (mAsg (mOp dMod (mCall (dInt) (mCons (mOp dAdd (mOp dAdd (mOp dMul (mVar 3) (mC (.int 48271))) (mOp dMod (mVar 5) (mC (.int 1000003)))) (mVar 4)) (mNil))) (mC (.int 65537))) (mTo 3))
    (mSeq (mAsg (mC (.int 0)) (mTo 6))
    (mSeq (mIfS (mBl (mOp dGe (mVar 5) (mOp dPow (mC (.int 10)) (mC (.int 18)))))
    (mAsg (mVar 5) (mTo 6))
    (mSeq (mDrop (mBM "list" dAppend (mVar 2) (mCons (mOp dMod (mCall (dInt) (mCons (mVar 5) (mNil))) (mC (.int 997))) (mNil))))
    (mDrop (mBM "list" dAppend (mVar 2) (mCons (mOp dMod (mOp dMod (mCall (dInt) (mCons (mOp dAdd (mOp dMul (mVar 3) (mC (.int 69621))) (mC (.int 5))) (mNil))) (mC (.int 65521))) (mC (.int 997))) (mNil))))))
    (m_z_draws_r2 cs))))
noncomputable def m_z_draws_b4 (cs : Nat → Addr) : FS :=
    mSeq (mAsg (mOp dMod (mCall (dInt) (mCons (mOp dAdd (mOp dAdd (mOp dMul (mVar 3) (mC (.int 16807))) (mVar 4)) (mC (.int 1))) (mNil))) (mC (.int 65537))) (mTo 3))
    (mDrop (mBM "list" dAppend (mVar 2) (mCons (mOp dMod (mCall (dInt) (mCons (mVar 3) (mNil))) (mC (.int 997))) (mNil))))
noncomputable def m_z_draws_r5 (cs : Nat → Addr) : FS :=
    mRet (mSl (mVar 2) (mNoPart) (mPart (mVar 1)))
noncomputable def m_z_draws_r6 (cs : Nat → Addr) : FS :=
    mSeq (mFor (mRange1 (mCons (mVar 1) (mNil))) (mTo 4)
    (m_z_draws_b4 cs))
    (m_z_draws_r5 cs)
noncomputable def m_z_draws (cs : Nat → Addr) : FS :=
    mSeq (mAsg (mLst (mNil)) (mTo 2))
    (mSeq (mAsg (mC (.int 7)) (mTo 3))
    (mSeq (mFor (mRange1 (mCons (mCall (dLen) (mCons (mVar 0) (mNil))) (mNil))) (mTo 4)
    (m_z_draws_b3 cs))
    (m_z_draws_r6 cs)))
noncomputable def f_z_draws (cs : Nat → Addr) : List D → HS → R D := runB 8 (m_z_draws cs)
abbrev s_z_next : Stmt := topS 5
noncomputable def m_z_next (cs : Nat → Addr) : FS :=
    mSeq (mAugK (mVar 0) (mC (.str "at")) dIAdd (mC (.int 1)))
    (mSeq (mIfS (mBl (mOp dGt (mOp dIx (mVar 0) (mC (.str "at"))) (mCall (dLen) (mCons (mOp dIx (mVar 0) (mC (.str "draws"))) (mNil)))))
    (mRet (mC (.int 0)))
    (mSkip))
    (mRet (mOp dMod (mCall (dInt) (mCons (mOp dIx (mOp dIx (mVar 0) (mC (.str "draws"))) (mOp dSub (mOp dIx (mVar 0) (mC (.str "at"))) (mC (.int 1)))) (mNil))) (mVar 1))))
noncomputable def f_z_next (cs : Nat → Addr) : List D → HS → R D := runB 2 (m_z_next cs)
abbrev s_z_cell : Stmt := topS 6
noncomputable def m_z_cell (cs : Nat → Addr) : FS :=
    mSeq (mAsg (mCall (dTuple) (mCons (mLc (mRange1 (mCons (mCallF 2 (f_z_next cs) (mCons (mVar 0) (mCons (mC (.int 5)) (mNil)))) (mNil))) (.one 2) (mYes) (mOp dSub (mCallF 2 (f_z_next cs) (mCons (mVar 0) (mCons (mC (.int 90)) (mNil)))) (mC (.int 9))) [2]) (mNil))) (mTo 1))
    (mSeq (mAsg (mCallF 2 (f_z_next cs) (mCons (mVar 0) (mCons (mC (.int 5)) (mNil)))) (mTo 3))
    (mSeq (mIfS (mBl (mOp dEq (mVar 3) (mC (.int 0))))
    (mRet (mTup (mCons (mC (.str "hole")) (mNil))))
    (mSkip))
    (mSeq (mIfS (mBl (mOp dEq (mVar 3) (mC (.int 1))))
    (mRet (mTup (mCons (mC (.str "on")) (mCons (mOp dAdd (mOp dMul (mC (.int 2)) (mCallF 2 (f_z_next cs) (mCons (mVar 0) (mCons (mC (.int 40)) (mNil))))) (mC (.int 1))) (mNil)))))
    (mSkip))
    (mSeq (mIfS (mBl (mOp dEq (mVar 3) (mC (.int 2))))
    (mRet (mTup (mCons (mC (.str "later")) (mCons (mTup (mCons (mC (.str "give")) (mCons (mTup (mCons (mC (.str "number")) (mCons (mCallF 2 (f_z_next cs) (mCons (mVar 0) (mCons (mC (.int 9)) (mNil)))) (mNil)))) (mNil)))) (mCons (mVar 1) (mCons (mCallF 2 (f_z_next cs) (mCons (mVar 0) (mCons (mC (.int 50)) (mNil)))) (mNil)))))))
    (mSkip))
    (mRet (mTup (mCons (mOp dIx (mLst (mCons (mC (.str "con")) (mCons (mC (.str "part")) (mNil)))) (mOp dSub (mVar 3) (mC (.int 3)))) (mCons (mCallF 2 (f_z_next cs) (mCons (mVar 0) (mCons (mC (.int 5)) (mNil)))) (mCons (mVar 1) (mNil))))))))))
noncomputable def f_z_cell (cs : Nat → Addr) : List D → HS → R D := runB 4 (m_z_cell cs)
abbrev s_z_size : Stmt := topS 7
noncomputable def m_z_size (cs : Nat → Addr) : FS :=
    mSeq (mIfS (mBl (mOp dIn (mOp dIx (mVar 0) (mC (.int 0))) (mLst (mCons (mC (.str "hole")) (mCons (mC (.str "on")) (mNil))))))
    (mRet (mC (.int 2)))
    (mSkip))
    (mSeq (mIfS (mBl (mOp dEq (mOp dIx (mVar 0) (mC (.int 0))) (mC (.str "later"))))
    (mRet (mCall (dMax2) (mCons (mC (.int 2)) (mCons (mOp dAdd (mC (.int 1)) (mCall (dLen) (mCons (mOp dIx (mVar 0) (mC (.int 2))) (mNil)))) (mNil)))))
    (mSkip))
    (mRet (mOp dAdd (mC (.int 1)) (mCall (dLen) (mCons (mOp dIx (mVar 0) (mC (.int 2))) (mNil))))))
noncomputable def f_z_size (cs : Nat → Addr) : List D → HS → R D := runB 1 (m_z_size cs)
abbrev s_Heap_addresses : Stmt := inClass (topS 2) 4
noncomputable def m_Heap_addresses (cs : Nat → Addr) : FS :=
    mRet (mCall (dSorted) (mCons (mFld [cs 0] "_cells" (mVar 0)) (mNil)))
noncomputable def f_Heap_addresses (cs : Nat → Addr) : List D → HS → R D := runB 1 (m_Heap_addresses cs)
abbrev s_Heap_cell : Stmt := inClass (topS 2) 2
noncomputable def m_Heap_cell (cs : Nat → Addr) : FS :=
    mRet (mOp dIx (mFld [cs 0] "_cells" (mVar 0)) (mVar 1))
noncomputable def f_Heap_cell (cs : Nat → Addr) : List D → HS → R D := runB 2 (m_Heap_cell cs)
abbrev s_Heap_fits : Stmt := inClass (topS 2) 6
noncomputable def m_Heap_fits (cs : Nat → Addr) : FS :=
    mRet (mOp dLe (mOp dAdd (mFld [cs 0] "used" (mVar 0)) (mVar 1)) (mFld [cs 0] "room" (mVar 0)))
noncomputable def f_Heap_fits (cs : Nat → Addr) : List D → HS → R D := runB 2 (m_Heap_fits cs)
abbrev s_z_agrees : Stmt := topS 8
noncomputable def m_z_agrees_b1 (cs : Nat → Addr) : FS :=
    mIfS (mBl (mOp dNe (mMeth (cs 0) "cell" 2 (f_Heap_cell cs) (mVar 0) (mCons (mVar 6) (mNil))) (mVar 7)))
    (mRet (mC (.bl false)))
    (mSkip)
noncomputable def m_z_agrees_b2 (cs : Nat → Addr) : FS :=
    mIfS (mBl (mOp dNe (mMeth (cs 0) "fits" 2 (f_Heap_fits cs) (mVar 0) (mCons (mVar 8) (mNil))) (mOp dLe (mOp dAdd (mVar 5) (mVar 8)) (mVar 2))))
    (mRet (mC (.bl false)))
    (mSkip)
noncomputable def m_z_agrees_r3 (cs : Nat → Addr) : FS :=
    mRet (mC (.bl true))
noncomputable def m_z_agrees_r4 (cs : Nat → Addr) : FS :=
    mSeq (mFor (mSeqI (mLst (mCons (mC (.int 0)) (mCons (mC (.int 1)) (mCons (mOp dSub (mVar 2) (mVar 5)) (mCons (mOp dAdd (mOp dSub (mVar 2) (mVar 5)) (mC (.int 1))) (mNil))))))) (mTo 8)
    (m_z_agrees_b2 cs))
    (m_z_agrees_r3 cs)
noncomputable def m_z_agrees (cs : Nat → Addr) : FS :=
    mSeq (mAsg (mMeth (cs 0) "addresses" 1 (f_Heap_addresses cs) (mVar 0) mNil) (mTo 3))
    (mSeq (mIfS (mOr (mBl (mOp dNe (mVar 3) (mCall (dSorted) (mCons (mLc (mSeqI (mVar 1)) (.one 4) (mYes) (mOp dIx (mVar 4) (mC (.int 0))) [4]) (mNil))))) (mBl (mOp dNe (mFld [cs 0] "room" (mVar 0)) (mVar 2))))
    (mRet (mC (.bl false)))
    (mSkip))
    (mSeq (mDrop (mBM "list" dAppend (mVar 3) (mCons (mC (.int 7)) (mNil))))
    (mSeq (mAsg (mCall (dSum) (mCons (mLc (mSeqI (mVar 1)) (.one 4) (mYes) (mCallF 1 (f_z_size cs) (mCons (mOp dIx (mVar 4) (mC (.int 1))) (mNil))) [4]) (mNil))) (mTo 5))
    (mSeq (mIfS (mOr (mBl (mOp dNe (mFld [cs 0] "used" (mVar 0)) (mVar 5))) (mBl (mOp dNe (mMeth (cs 0) "addresses" 1 (f_Heap_addresses cs) (mVar 0) mNil) (mCall (dSorted) (mCons (mLc (mSeqI (mVar 1)) (.one 4) (mYes) (mOp dIx (mVar 4) (mC (.int 0))) [4]) (mNil))))))
    (mRet (mC (.bl false)))
    (mSkip))
    (mSeq (mFor (mSeqI (mVar 1)) (mTos [6, 7])
    (m_z_agrees_b1 cs))
    (m_z_agrees_r4 cs))))))
noncomputable def f_z_agrees (cs : Nat → Addr) : List D → HS → R D := runB 9 (m_z_agrees cs)
abbrev s_Heap_renew : Stmt := inClass (topS 2) 7
noncomputable def m_Heap_renew (cs : Nat → Addr) : FS :=
    mSeq (mFldSet [cs 0] "_cells" (mVar 0) (mCall (dDict) (mCons (mVar 1) (mNil))))
    (mSeq (mFldSet [cs 0] "used" (mVar 0) (mCall (dSum) (mCons (mLockE 1 (mLc (mValsI (mVar 1)) (.one 3) (mYes) (mCallF 1 (f_size_of cs) (mCons (mVar 3) (mNil))) [3])) (mNil))))
    (mFldSet [cs 0] "next_address" (mVar 0) (mVar 2)))
noncomputable def f_Heap_renew (cs : Nat → Addr) : List D → HS → R D := runB 4 (m_Heap_renew cs)
abbrev s_z_renewed : Stmt := topS 9
noncomputable def m_z_renewed_b1 (cs : Nat → Addr) : FS :=
    mSeq (mAsg (mOp dIx (mOp dIx (mVar 3) (mVar 8)) (mC (.int 1))) (mToIx (mVar 6) (mOp dAdd (mVar 5) (mOp dMul (mC (.int 2)) (mVar 8)))))
    (mDrop (mBM "list" dAppend (mVar 7) (mCons (mTup (mCons (mOp dAdd (mVar 5) (mOp dMul (mC (.int 2)) (mVar 8))) (mCons (mOp dIx (mOp dIx (mVar 3) (mVar 8)) (mC (.int 1))) (mNil)))) (mNil))))
noncomputable def m_z_renewed_r2 (cs : Nat → Addr) : FS :=
    mSeq (mAsg (mOp dAdd (mOp dAdd (mVar 5) (mOp dMul (mC (.int 2)) (mCall (dLen) (mCons (mVar 3) (mNil))))) (mCallF 2 (f_z_next cs) (mCons (mVar 0) (mCons (mC (.int 3)) (mNil))))) (mTo 9))
    (mSeq (mDrop (mMeth (cs 0) "renew" 3 (f_Heap_renew cs) (mVar 1) (mCons (mVar 6) (mCons (mVar 9) (mNil)))))
    (mSeq (mAsg (mTup (mCons (mC (.str "hole")) (mNil))) (mToIx (mVar 6) (mC (.int 99))))
    (mRet (mTup (mCons (mVar 7) (mCons (mVar 9) (mNil)))))))
noncomputable def m_z_renewed (cs : Nat → Addr) : FS :=
    mSeq (mAsg (mLc (mSeqI (mVar 2)) (.one 4) (mBl (mOp dEq (mCallF 2 (f_z_next cs) (mCons (mVar 0) (mCons (mC (.int 2)) (mNil)))) (mC (.int 0)))) (mVar 4) [4]) (mTo 3))
    (mSeq (mAsg (mCallF 2 (f_z_next cs) (mCons (mVar 0) (mCons (mC (.int 9)) (mNil)))) (mTo 5))
    (mSeq (mAsg (mDict0) (mTo 6))
    (mSeq (mAsg (mLst (mNil)) (mTo 7))
    (mSeq (mFor (mRange1 (mCons (mCall (dLen) (mCons (mVar 3) (mNil))) (mNil))) (mTo 8)
    (m_z_renewed_b1 cs))
    (m_z_renewed_r2 cs)))))
noncomputable def f_z_renewed (cs : Nat → Addr) : List D → HS → R D := runB 10 (m_z_renewed cs)
abbrev s_Heap_init : Stmt := inClass (topS 2) 0
noncomputable def m_Heap_init (cs : Nat → Addr) : FS :=
    mSeq (mFldSet [cs 0] "room" (mVar 0) (mVar 1))
    (mSeq (mFldSet [cs 0] "used" (mVar 0) (mC (.int 0)))
    (mSeq (mFldSet [cs 0] "next_address" (mVar 0) (mC (.int 0)))
    (mFldSet [cs 0] "_cells" (mVar 0) (mDict0))))
noncomputable def f_Heap_init (cs : Nat → Addr) : List D → HS → R D := runB 2 (m_Heap_init cs)
abbrev s_Heap_make : Stmt := inClass (topS 2) 1
noncomputable def m_Heap_make (cs : Nat → Addr) : FS :=
    mSeq (mAsg (mFld [cs 0] "next_address" (mVar 0)) (mTo 2))
    (mSeq (mAsg (mVar 1) (mToIx (mFld [cs 0] "_cells" (mVar 0)) (mVar 2)))
    (mSeq (mFldAug [cs 0] "used" (mVar 0) dIAdd (mCallF 1 (f_size_of cs) (mCons (mVar 1) (mNil))))
    (mSeq (mFldAug [cs 0] "next_address" (mVar 0) dIAdd (mC (.int 1)))
    (mRet (mVar 2)))))
noncomputable def f_Heap_make (cs : Nat → Addr) : List D → HS → R D := runB 3 (m_Heap_make cs)
abbrev s_Heap_put : Stmt := inClass (topS 2) 3
noncomputable def m_Heap_put (cs : Nat → Addr) : FS :=
    mSeq (mFldAug [cs 0] "used" (mVar 0) dIAdd (mOp dSub (mCallF 1 (f_size_of cs) (mCons (mVar 2) (mNil))) (mCallF 1 (f_size_of cs) (mCons (mOp dIx (mFld [cs 0] "_cells" (mVar 0)) (mVar 1)) (mNil)))))
    (mAsg (mVar 2) (mToIx (mFld [cs 0] "_cells" (mVar 0)) (mVar 1)))
noncomputable def f_Heap_put (cs : Nat → Addr) : List D → HS → R D := runB 3 (m_Heap_put cs)
abbrev s_law : Stmt := topS 10
noncomputable def m_law_r1 (cs : Nat → Addr) : FS :=
    mIfS (mOr (mNot (mTru (mCallF 3 (f_z_agrees cs) (mCons (mVar 3) (mCons (mVar 5) (mCons (mVar 2) (mNil))))))) (mOr (mBl (mOp dNe (mMeth (cs 0) "addresses" 1 (f_Heap_addresses cs) (mVar 4) mNil) (mLst (mNil)))) (mBl (mOp dNe (mFld [cs 0] "used" (mVar 4)) (mC (.int 0))))))
    (mRet (mC (.bl false)))
    (mSkip)
noncomputable def m_law_b2 (cs : Nat → Addr) : FS :=
    mSeq (mAsg (mCallF 1 (f_z_cell cs) (mCons (mVar 1) (mNil))) (mTo 8))
    (mSeq (mIfS (mBl (mOp dNe (mCallF 1 (f_size_of cs) (mCons (mVar 8) (mNil))) (mCallF 1 (f_z_size cs) (mCons (mVar 8) (mNil)))))
    (mRet (mC (.bl false)))
    (mSkip))
    (mSeq (mAsg (mCallF 2 (f_z_next cs) (mCons (mVar 1) (mCons (mC (.int 8)) (mNil)))) (mTo 9))
    (mSeq (mIfS (mOr (mBl (mOp dLt (mVar 9) (mC (.int 5)))) (mBl (mOp dEq (mVar 5) (mLst (mNil)))))
    (mSeq (mIfS (mBl (mOp dNe (mMeth (cs 0) "make" 2 (f_Heap_make cs) (mVar 3) (mCons (mVar 8) (mNil))) (mVar 6)))
    (mRet (mC (.bl false)))
    (mSkip))
    (mSeq (mDrop (mBM "list" dAppend (mVar 5) (mCons (mTup (mCons (mVar 6) (mCons (mVar 8) (mNil)))) (mNil))))
    (mAug 6 dIAdd (mC (.int 1)))))
    (mIfS (mBl (mOp dLt (mVar 9) (mC (.int 7))))
    (mSeq (mAsg (mCallF 2 (f_z_next cs) (mCons (mVar 1) (mCons (mCall (dLen) (mCons (mVar 5) (mNil))) (mNil)))) (mTo 10))
    (mSeq (mDrop (mMeth (cs 0) "put" 3 (f_Heap_put cs) (mVar 3) (mCons (mOp dIx (mOp dIx (mVar 5) (mVar 10)) (mC (.int 0))) (mCons (mVar 8) (mNil)))))
    (mAsg (mTup (mCons (mOp dIx (mOp dIx (mVar 5) (mVar 10)) (mC (.int 0))) (mCons (mVar 8) (mNil)))) (mToIx (mVar 5) (mVar 10)))))
    (mAsg (mCallF 3 (f_z_renewed cs) (mCons (mVar 1) (mCons (mVar 3) (mCons (mVar 5) (mNil))))) (mTos [5, 6]))))
    (m_law_r1 cs))))
noncomputable def m_law_r3 (cs : Nat → Addr) : FS :=
    mRet (mC (.bl true))
noncomputable def m_law (cs : Nat → Addr) : FS :=
    mSeq (mAsg (mDict [(mC (.str "draws"), mCallF 2 (f_z_draws cs) (mCons (mVar 0) (mCons (mC (.int 700)) (mNil)))), (mC (.str "at"), mC (.int 0))]) (mTo 1))
    (mSeq (mAsg (mCallF 2 (f_z_next cs) (mCons (mVar 1) (mCons (mC (.int 60)) (mNil)))) (mTo 2))
    (mSeq (mAsg (mMake (cs 0) 2 (f_Heap_init cs) (mCons (mVar 2) (mNil))) (mTo 3))
    (mSeq (mAsg (mMake (cs 0) 2 (f_Heap_init cs) (mCons (mC (.int 5)) (mNil))) (mTo 4))
    (mSeq (mAsg (mLst (mNil)) (mTo 5))
    (mSeq (mAsg (mC (.int 0)) (mTo 6))
    (mSeq (mFor (mRange1 (mCons (mOp dAdd (mC (.int 20)) (mCall (dMin2) (mCons (mC (.int 40)) (mCons (mCall (dLen) (mCons (mVar 0) (mNil))) (mNil))))) (mNil))) (mTo 7)
    (m_law_b2 cs))
    (m_law_r3 cs)))))))
noncomputable def f_law (cs : Nat → Addr) : List D → HS → R D := runB 11 (m_law cs)
abbrev s_Heap_cells : Stmt := inClass (topS 2) 5
noncomputable def m_Heap_cells (cs : Nat → Addr) : FS :=
    mRet (mCall (dDict) (mCons (mFld [cs 0] "_cells" (mVar 0)) (mNil)))
noncomputable def f_Heap_cells (cs : Nat → Addr) : List D → HS → R D := runB 1 (m_Heap_cells cs)
/-! ### the facts of the top -/
structure Txt (K : PySem.W.Frag) (mg : Str → Option Value) (cs : Nat → Addr) : Prop where
  b_abs : mg "abs" = none
  b_dict : mg "dict" = none
  b_int : mg "int" = none
  b_len : mg "len" = none
  b_max : mg "max" = none
  b_min : mg "min" = none
  b_range : mg "range" = none
  b_sorted : mg "sorted" = none
  b_sum : mg "sum" = none
  b_tuple : mg "tuple" = none
  isi : ∀ p ∈ isiTab, PySem.W.kitOne K (.type p.1) (.type p.2.1) = some p.2.2
  h_cells : HasF K [cs 0] "_cells"
  h_next_address : HasF K [cs 0] "next_address"
  h_room : HasF K [cs 0] "room"
  h_used : HasF K [cs 0] "used"
section
variable {P : Program} {w : World} {K : PySem.W.Frag} {mg : Str → Option Value} {base : Heap} {cs : Nat → Addr}
abbrev N_size_of : List Str := ["cell", "kind"]
theorem sc_size_of : FnScope N_size_of ["cell"] (defScope s_size_of) := ⟨rfl, rfl, rfl, by decide +kernel, rfl, by decide +kernel, by decide +kernel⟩
theorem ok_size_of {f : Addr} {fd : FuncData} (F : Fun K "size_of" "size_of" s_size_of f fd) (T : Txt K mg cs)  : FnOk P w K mg base (L2.CX P w) 1 f fd ["cell"] (spF K 1 (f_size_of cs)) := by
  show FnOk P w K mg base (L2.CX P w) (0 + 1) f fd ["cell"] (spF K (List.length ["cell"]) (runB (List.length N_size_of) (m_size_of cs)))
  refine fn_ok F sc_size_of fun cdv A outer s H E C => ?_
  refine gs_cons (g_asg (g_ix (o_ix C.u1) s_ix (gv 0) (g_int)) (gg_name C.nd)) ?_
  refine gs_cons ?_ ?_
  · refine g_ifS (gt_w (gw_or (gt_cmp (o_eq C.u64) s_eq (gv 1) (g_str)) (gw_or1 (gt_cmp (o_eq C.u64) s_eq (gv 1) (g_str))))) ?_ ?_
    · exact gs_one (g_ret (g_int))
    · exact gs_nil
  refine gs_cons ?_ ?_
  · refine g_ifS (gt_cmp (o_eq C.u64) s_eq (gv 1) (g_str)) ?_ ?_
    · exact gs_one (g_ret (g_callB (call_max2 C.calm) s_max2 T.b_max (by decide +kernel) (ga_cons (g_int) (ga_cons (g_op o_add s_add (g_int) (g_callB o_len s_len T.b_len (by decide +kernel) (ga_cons (g_ix (o_ix C.u1) s_ix (gv 0) (g_int)) (ga_nil)))) (ga_nil)))))
    · exact gs_nil
  exact gs_one (g_ret (g_op o_add s_add (g_int) (g_callB o_len s_len T.b_len (by decide +kernel) (ga_cons (g_ix (o_ix C.u1) s_ix (gv 0) (g_int)) (ga_nil)))))
abbrev N_z_draws : List Str := ["_law_script", "_law_many", "_law_draws_here", "_law_mixed", "_law_k", "_law_cell_here", "_law_rest", "_law_turn"]
theorem sc_z_draws : FnScope N_z_draws ["_law_script", "_law_many"] (defScope s_z_draws) := ⟨rfl, rfl, rfl, by decide +kernel, rfl, by decide +kernel, by decide +kernel⟩
theorem ok_z_draws {f : Addr} {fd : FuncData} (F : Fun K "_law_draws" "_law_draws" s_z_draws f fd) (T : Txt K mg cs)  : FnOk P w K mg base (L2.CX P w) 1 f fd ["_law_script", "_law_many"] (spF K 2 (f_z_draws cs)) := by
  show FnOk P w K mg base (L2.CX P w) (0 + 1) f fd ["_law_script", "_law_many"] (spF K (List.length ["_law_script", "_law_many"]) (runB (List.length N_z_draws) (m_z_draws cs)))
  refine fn_ok F sc_z_draws fun cdv A outer s H E C => ?_
  refine gs_cons (g_asg (g_lst (ga_nil)) (gg_name C.nd)) ?_
  refine gs_cons (g_asg (g_int) (gg_name C.nd)) ?_
  refine gs_cons ?_ ?_
  · refine g_for C (gi_range1 T.b_range (ga_cons (g_callB o_len s_len T.b_len (by decide +kernel) (ga_cons (gv 0) (ga_nil))) (ga_nil))) (gg_name C.nd) ?_
    delta m_z_draws_b3
    refine gs_cons (g_asg (g_callB call_abs s_abs T.b_abs (by decide +kernel) (ga_cons (g_callTy call_int1 s_int T.b_int (by decide +kernel) (ga_cons (g_ix (o_ix C.u1) s_ix (gv 0) (gv 4)) (ga_nil))) (ga_nil))) (gg_name C.nd)) ?_
    refine gs_cons (g_asg (g_op op_mod s_mod (g_callTy call_int1 s_int T.b_int (by decide +kernel) (ga_cons (g_op o_add s_add (g_op o_add s_add (g_op op_mul s_mul (gv 3) (g_int)) (g_op op_mod s_mod (gv 5) (g_int))) (gv 4)) (ga_nil))) (g_int)) (gg_name C.nd)) ?_
    refine gs_cons (g_asg (g_int) (gg_name C.nd)) ?_
    refine gs_cons ?_ ?_
    · refine g_ifS (gt_cmp op_ge s_ge (gv 5) (g_op op_pow s_pow (g_int) (g_int))) ?_ ?_
      · exact gs_one (g_asg (gv 5) (gg_name C.nd))
      · refine gs_cons (g_expr (g_bm PySem.F.plainAttrs_list PySem.F.slot_list_append PySem.F.type_list_append mt_append s_append (gv 2) (ga_cons (g_op op_mod s_mod (g_callTy call_int1 s_int T.b_int (by decide +kernel) (ga_cons (gv 5) (ga_nil))) (g_int)) (ga_nil)))) ?_
        exact gs_one (g_expr (g_bm PySem.F.plainAttrs_list PySem.F.slot_list_append PySem.F.type_list_append mt_append s_append (gv 2) (ga_cons (g_op op_mod s_mod (g_op op_mod s_mod (g_callTy call_int1 s_int T.b_int (by decide +kernel) (ga_cons (g_op o_add s_add (g_op op_mul s_mul (gv 3) (g_int)) (g_int)) (ga_nil))) (g_int)) (g_int)) (ga_nil))))
    delta m_z_draws_r2
    refine gs_one ?_
    refine g_for C (gi_range1 T.b_range (ga_cons (g_int) (ga_nil))) (gg_name C.nd) ?_
    delta m_z_draws_b1
    refine gs_one ?_
    refine g_ifS (gt_cmp op_gt s_gt (gv 6) (g_int)) ?_ ?_
    · refine gs_cons (g_expr (g_bm PySem.F.plainAttrs_list PySem.F.slot_list_append PySem.F.type_list_append mt_append s_append (gv 2) (ga_cons (g_op op_mod s_mod (g_callTy call_int1 s_int T.b_int (by decide +kernel) (ga_cons (gv 6) (ga_nil))) (g_int)) (ga_nil)))) ?_
      exact gs_one (g_asg (g_op op_fdivW s_fdiv (gv 6) (g_int)) (gg_name C.nd))
    · exact gs_nil
  delta m_z_draws_r6
  refine gs_cons ?_ ?_
  · refine g_for C (gi_range1 T.b_range (ga_cons (gv 1) (ga_nil))) (gg_name C.nd) ?_
    delta m_z_draws_b4
    refine gs_cons (g_asg (g_op op_mod s_mod (g_callTy call_int1 s_int T.b_int (by decide +kernel) (ga_cons (g_op o_add s_add (g_op o_add s_add (g_op op_mul s_mul (gv 3) (g_int)) (gv 4)) (g_int)) (ga_nil))) (g_int)) (gg_name C.nd)) ?_
    exact gs_one (g_expr (g_bm PySem.F.plainAttrs_list PySem.F.slot_list_append PySem.F.type_list_append mt_append s_append (gv 2) (ga_cons (g_op op_mod s_mod (g_callTy call_int1 s_int T.b_int (by decide +kernel) (ga_cons (gv 3) (ga_nil))) (g_int)) (ga_nil))))
  delta m_z_draws_r5
  exact gs_one (g_ret (g_slice (gv 2) (go_none) (go_some (gv 1))))
abbrev N_z_next : List Str := ["_law_w", "_law_many"]
theorem sc_z_next : FnScope N_z_next ["_law_w", "_law_many"] (defScope s_z_next) := ⟨rfl, rfl, rfl, by decide +kernel, rfl, by decide +kernel, by decide +kernel⟩
theorem ok_z_next {f : Addr} {fd : FuncData} (F : Fun K "_law_next" "_law_next" s_z_next f fd) (T : Txt K mg cs)  : FnOk P w K mg base (L2.CX P w) 1 f fd ["_law_w", "_law_many"] (spF K 2 (f_z_next cs)) := by
  show FnOk P w K mg base (L2.CX P w) (0 + 1) f fd ["_law_w", "_law_many"] (spF K (List.length ["_law_w", "_law_many"]) (runB (List.length N_z_next) (m_z_next cs)))
  refine fn_ok F sc_z_next fun cdv A outer s H E C => ?_
  refine gs_cons (g_augK C o_iadd s_iadd (gv 0) (g_str) (g_int)) ?_
  refine gs_cons ?_ ?_
  · refine g_ifS (gt_cmp op_gt s_gt (g_ix (o_ix C.u1) s_ix (gv 0) (g_str)) (g_callB o_len s_len T.b_len (by decide +kernel) (ga_cons (g_ix (o_ix C.u1) s_ix (gv 0) (g_str)) (ga_nil)))) ?_ ?_
    · exact gs_one (g_ret (g_int))
    · exact gs_nil
  exact gs_one (g_ret (g_op op_mod s_mod (g_callTy call_int1 s_int T.b_int (by decide +kernel) (ga_cons (g_ix (o_ix C.u1) s_ix (g_ix (o_ix C.u1) s_ix (gv 0) (g_str)) (g_op op_sub s_sub (g_ix (o_ix C.u1) s_ix (gv 0) (g_str)) (g_int))) (ga_nil))) (gv 1)))
abbrev N_z_cell : List Str := ["_law_w", "_law_words", "_law_k", "_law_turn"]
theorem sc_z_cell : FnScope N_z_cell ["_law_w"] (defScope s_z_cell) := ⟨rfl, rfl, rfl, by decide +kernel, rfl, by decide +kernel, by decide +kernel⟩
theorem ok_z_cell {f : Addr} {fd : FuncData} (F : Fun K "_law_cell" "_law_cell" s_z_cell f fd) (T : Txt K mg cs) (F_z_next : FD P w K mg base 1 "_law_next" 2 (f_z_next cs)) : FnOk P w K mg base (L2.CX P w) 2 f fd ["_law_w"] (spF K 1 (f_z_cell cs)) := by
  show FnOk P w K mg base (L2.CX P w) (1 + 1) f fd ["_law_w"] (spF K (List.length ["_law_w"]) (runB (List.length N_z_cell) (m_z_cell cs)))
  refine fn_ok F sc_z_cell fun cdv A outer s H E C => ?_
  refine gs_cons (g_asg (g_callTy call_tuple_of s_tuple T.b_tuple (by decide +kernel) (ga_cons (g_lc (own := [("_law_k", 2)]) (t := .one 2) C (gi_range1 T.b_range (ga_cons (g_call F_z_next C (by omega) (ga_cons (gv 0) (ga_cons (g_int) (ga_nil)))) (ga_nil))) (blkOk_by (N := N_z_cell) (sc := defScope s_z_cell) (by decide +kernel)) (by decide) (fun s1 H1 _ _ fp1 => pg_name (i := 2) C.nd rfl (Or.inl rfl)) (fun s1 H1 _ _ fp1 => gts_nil) (fun s1 H1 _ _ fp1 => g_op op_sub s_sub (g_call F_z_next (C.blk s1 H1 _ _ fp1) (by omega) (ga_cons (gv 0) (ga_cons (g_int) (ga_nil)))) (g_int))) (ga_nil))) (gg_name C.nd)) ?_
  refine gs_cons (g_asg (g_call F_z_next C (by omega) (ga_cons (gv 0) (ga_cons (g_int) (ga_nil)))) (gg_name C.nd)) ?_
  refine gs_cons ?_ ?_
  · refine g_ifS (gt_cmp (o_eq C.u64) s_eq (gv 3) (g_int)) ?_ ?_
    · exact gs_one (g_ret (g_tup (ga_cons (g_str) (ga_nil))))
    · exact gs_nil
  refine gs_cons ?_ ?_
  · refine g_ifS (gt_cmp (o_eq C.u64) s_eq (gv 3) (g_int)) ?_ ?_
    · exact gs_one (g_ret (g_tup (ga_cons (g_str) (ga_cons (g_op o_add s_add (g_op op_mul s_mul (g_int) (g_call F_z_next C (by omega) (ga_cons (gv 0) (ga_cons (g_int) (ga_nil))))) (g_int)) (ga_nil)))))
    · exact gs_nil
  refine gs_cons ?_ ?_
  · refine g_ifS (gt_cmp (o_eq C.u64) s_eq (gv 3) (g_int)) ?_ ?_
    · exact gs_one (g_ret (g_tup (ga_cons (g_str) (ga_cons (g_tup (ga_cons (g_str) (ga_cons (g_tup (ga_cons (g_str) (ga_cons (g_call F_z_next C (by omega) (ga_cons (gv 0) (ga_cons (g_int) (ga_nil)))) (ga_nil)))) (ga_nil)))) (ga_cons (gv 1) (ga_cons (g_call F_z_next C (by omega) (ga_cons (gv 0) (ga_cons (g_int) (ga_nil)))) (ga_nil)))))))
    · exact gs_nil
  exact gs_one (g_ret (g_tup (ga_cons (g_ix (o_ix C.u1) s_ix (g_lst (ga_cons (g_str) (ga_cons (g_str) (ga_nil)))) (g_op op_sub s_sub (gv 3) (g_int))) (ga_cons (g_call F_z_next C (by omega) (ga_cons (gv 0) (ga_cons (g_int) (ga_nil)))) (ga_cons (gv 1) (ga_nil))))))
abbrev N_z_size : List Str := ["_law_cell_here"]
theorem sc_z_size : FnScope N_z_size ["_law_cell_here"] (defScope s_z_size) := ⟨rfl, rfl, rfl, by decide +kernel, rfl, by decide +kernel, by decide +kernel⟩
theorem ok_z_size {f : Addr} {fd : FuncData} (F : Fun K "_law_size" "_law_size" s_z_size f fd) (T : Txt K mg cs)  : FnOk P w K mg base (L2.CX P w) 1 f fd ["_law_cell_here"] (spF K 1 (f_z_size cs)) := by
  show FnOk P w K mg base (L2.CX P w) (0 + 1) f fd ["_law_cell_here"] (spF K (List.length ["_law_cell_here"]) (runB (List.length N_z_size) (m_z_size cs)))
  refine fn_ok F sc_z_size fun cdv A outer s H E C => ?_
  refine gs_cons ?_ ?_
  · refine g_ifS (gt_cmp (o_in C.u1) s_in (g_ix (o_ix C.u1) s_ix (gv 0) (g_int)) (g_lst (ga_cons (g_str) (ga_cons (g_str) (ga_nil))))) ?_ ?_
    · exact gs_one (g_ret (g_int))
    · exact gs_nil
  refine gs_cons ?_ ?_
  · refine g_ifS (gt_cmp (o_eq C.u64) s_eq (g_ix (o_ix C.u1) s_ix (gv 0) (g_int)) (g_str)) ?_ ?_
    · exact gs_one (g_ret (g_callB (call_max2 C.calm) s_max2 T.b_max (by decide +kernel) (ga_cons (g_int) (ga_cons (g_op o_add s_add (g_int) (g_callB o_len s_len T.b_len (by decide +kernel) (ga_cons (g_ix (o_ix C.u1) s_ix (gv 0) (g_int)) (ga_nil)))) (ga_nil)))))
    · exact gs_nil
  exact gs_one (g_ret (g_op o_add s_add (g_int) (g_callB o_len s_len T.b_len (by decide +kernel) (ga_cons (g_ix (o_ix C.u1) s_ix (gv 0) (g_int)) (ga_nil)))))
abbrev N_Heap_addresses : List Str := ["self"]
theorem sc_Heap_addresses : FnScope N_Heap_addresses ["self"] (defScope s_Heap_addresses) := ⟨rfl, rfl, rfl, by decide +kernel, rfl, by decide +kernel, by decide +kernel⟩
theorem ok_Heap_addresses {f : Addr} {fd : FuncData} (F : Fun K "addresses" "Heap.addresses" s_Heap_addresses f fd) (T : Txt K mg cs)  : FnOk P w K mg base (L2.CX P w) 1 f fd ["self"] (spF K 1 (f_Heap_addresses cs)) := by
  show FnOk P w K mg base (L2.CX P w) (0 + 1) f fd ["self"] (spF K (List.length ["self"]) (runB (List.length N_Heap_addresses) (m_Heap_addresses cs)))
  refine fn_ok F sc_Heap_addresses fun cdv A outer s H E C => ?_
  exact gs_one (g_ret (g_callB (o_sorted C.calm) s_sorted T.b_sorted (by decide +kernel) (ga_cons (g_fld T.h_cells (gv 0)) (ga_nil))))
abbrev N_Heap_cell : List Str := ["self", "address"]
theorem sc_Heap_cell : FnScope N_Heap_cell ["self", "address"] (defScope s_Heap_cell) := ⟨rfl, rfl, rfl, by decide +kernel, rfl, by decide +kernel, by decide +kernel⟩
theorem ok_Heap_cell {f : Addr} {fd : FuncData} (F : Fun K "cell" "Heap.cell" s_Heap_cell f fd) (T : Txt K mg cs)  : FnOk P w K mg base (L2.CX P w) 1 f fd ["self", "address"] (spF K 2 (f_Heap_cell cs)) := by
  show FnOk P w K mg base (L2.CX P w) (0 + 1) f fd ["self", "address"] (spF K (List.length ["self", "address"]) (runB (List.length N_Heap_cell) (m_Heap_cell cs)))
  refine fn_ok F sc_Heap_cell fun cdv A outer s H E C => ?_
  exact gs_one (g_ret (g_ix (o_ix C.u1) s_ix (g_fld T.h_cells (gv 0)) (gv 1)))
abbrev N_Heap_fits : List Str := ["self", "size"]
theorem sc_Heap_fits : FnScope N_Heap_fits ["self", "size"] (defScope s_Heap_fits) := ⟨rfl, rfl, rfl, by decide +kernel, rfl, by decide +kernel, by decide +kernel⟩
theorem ok_Heap_fits {f : Addr} {fd : FuncData} (F : Fun K "fits" "Heap.fits" s_Heap_fits f fd) (T : Txt K mg cs)  : FnOk P w K mg base (L2.CX P w) 1 f fd ["self", "size"] (spF K 2 (f_Heap_fits cs)) := by
  show FnOk P w K mg base (L2.CX P w) (0 + 1) f fd ["self", "size"] (spF K (List.length ["self", "size"]) (runB (List.length N_Heap_fits) (m_Heap_fits cs)))
  refine fn_ok F sc_Heap_fits fun cdv A outer s H E C => ?_
  exact gs_one (g_ret (g_cmp op_le s_le (g_op o_add s_add (g_fld T.h_used (gv 0)) (gv 1)) (g_fld T.h_room (gv 0))))
abbrev N_z_agrees : List Str := ["_law_heap", "_law_rows", "_law_room", "_law_addresses", "_law_row", "_law_used", "_law_address", "_law_cell_here", "_law_size_here"]
theorem sc_z_agrees : FnScope N_z_agrees ["_law_heap", "_law_rows", "_law_room"] (defScope s_z_agrees) := ⟨rfl, rfl, rfl, by decide +kernel, rfl, by decide +kernel, by decide +kernel⟩
theorem ok_z_agrees {f : Addr} {fd : FuncData} (F : Fun K "_law_agrees" "_law_agrees" s_z_agrees f fd) (T : Txt K mg cs) (F_Heap_addresses : MD P w K mg base 1 (cs 0) "addresses" 1 (f_Heap_addresses cs)) (F_z_size : FD P w K mg base 1 "_law_size" 1 (f_z_size cs)) (F_Heap_cell : MD P w K mg base 1 (cs 0) "cell" 2 (f_Heap_cell cs)) (F_Heap_fits : MD P w K mg base 1 (cs 0) "fits" 2 (f_Heap_fits cs)) : FnOk P w K mg base (L2.CX P w) 2 f fd ["_law_heap", "_law_rows", "_law_room"] (spF K 3 (f_z_agrees cs)) := by
  show FnOk P w K mg base (L2.CX P w) (1 + 1) f fd ["_law_heap", "_law_rows", "_law_room"] (spF K (List.length ["_law_heap", "_law_rows", "_law_room"]) (runB (List.length N_z_agrees) (m_z_agrees cs)))
  refine fn_ok F sc_z_agrees fun cdv A outer s H E C => ?_
  refine gs_cons (g_asg (g_meth0 F_Heap_addresses C (by omega) (gv 0)) (gg_name C.nd)) ?_
  refine gs_cons ?_ ?_
  · refine g_ifS (gt_w (gw_or (gt_cmp (o_ne C.u64) s_ne (gv 3) (g_callB (o_sorted C.calm) s_sorted T.b_sorted (by decide +kernel) (ga_cons (g_lc (own := [("_law_row", 4)]) (t := .one 4) C (gi_seq (gv 1)) (blkOk_by (N := N_z_agrees) (sc := defScope s_z_agrees) (by decide +kernel)) (by decide) (fun s1 H1 _ _ fp1 => pg_name (i := 4) C.nd rfl (Or.inl rfl)) (fun s1 H1 _ _ fp1 => gts_nil) (fun s1 H1 _ _ fp1 => g_ix (o_ix (C.blk s1 H1 _ _ fp1).u1) s_ix (gv 4) (g_int))) (ga_nil)))) (gw_or1 (gt_cmp (o_ne C.u64) s_ne (g_fld T.h_room (gv 0)) (gv 2))))) ?_ ?_
    · exact gs_one (g_ret (g_bl))
    · exact gs_nil
  refine gs_cons (g_expr (g_bm PySem.F.plainAttrs_list PySem.F.slot_list_append PySem.F.type_list_append mt_append s_append (gv 3) (ga_cons (g_int) (ga_nil)))) ?_
  refine gs_cons (g_asg (g_callB (cr_sum C.calm) s_sum T.b_sum (by decide +kernel) (ga_cons (g_lc (own := [("_law_row", 4)]) (t := .one 4) C (gi_seq (gv 1)) (blkOk_by (N := N_z_agrees) (sc := defScope s_z_agrees) (by decide +kernel)) (by decide) (fun s1 H1 _ _ fp1 => pg_name (i := 4) C.nd rfl (Or.inl rfl)) (fun s1 H1 _ _ fp1 => gts_nil) (fun s1 H1 _ _ fp1 => g_call F_z_size (C.blk s1 H1 _ _ fp1) (by omega) (ga_cons (g_ix (o_ix (C.blk s1 H1 _ _ fp1).u1) s_ix (gv 4) (g_int)) (ga_nil)))) (ga_nil))) (gg_name C.nd)) ?_
  refine gs_cons ?_ ?_
  · refine g_ifS (gt_w (gw_or (gt_cmp (o_ne C.u64) s_ne (g_fld T.h_used (gv 0)) (gv 5)) (gw_or1 (gt_cmp (o_ne C.u64) s_ne (g_meth0 F_Heap_addresses C (by omega) (gv 0)) (g_callB (o_sorted C.calm) s_sorted T.b_sorted (by decide +kernel) (ga_cons (g_lc (own := [("_law_row", 4)]) (t := .one 4) C (gi_seq (gv 1)) (blkOk_by (N := N_z_agrees) (sc := defScope s_z_agrees) (by decide +kernel)) (by decide) (fun s1 H1 _ _ fp1 => pg_name (i := 4) C.nd rfl (Or.inl rfl)) (fun s1 H1 _ _ fp1 => gts_nil) (fun s1 H1 _ _ fp1 => g_ix (o_ix (C.blk s1 H1 _ _ fp1).u1) s_ix (gv 4) (g_int))) (ga_nil))))))) ?_ ?_
    · exact gs_one (g_ret (g_bl))
    · exact gs_nil
  refine gs_cons ?_ ?_
  · refine g_for C (gi_seq (gv 1)) (gg_names C.calm (pgs_cons (pg_name (i := 6) C.nd rfl (by first | exact Or.inl rfl | exact Or.inr rfl)) (pgs_cons (pg_name (i := 7) C.nd rfl (by first | exact Or.inl rfl | exact Or.inr rfl)) (pgs_nil)))) ?_
    delta m_z_agrees_b1
    refine gs_one ?_
    refine g_ifS (gt_cmp (o_ne C.u64) s_ne (g_meth F_Heap_cell C (by omega) (gv 0) (ga_cons (gv 6) (ga_nil))) (gv 7)) ?_ ?_
    · exact gs_one (g_ret (g_bl))
    · exact gs_nil
  delta m_z_agrees_r4
  refine gs_cons ?_ ?_
  · refine g_for C (gi_seq (g_lst (ga_cons (g_int) (ga_cons (g_int) (ga_cons (g_op op_sub s_sub (gv 2) (gv 5)) (ga_cons (g_op o_add s_add (g_op op_sub s_sub (gv 2) (gv 5)) (g_int)) (ga_nil))))))) (gg_name C.nd) ?_
    delta m_z_agrees_b2
    refine gs_one ?_
    refine g_ifS (gt_cmp (o_ne C.u64) s_ne (g_meth F_Heap_fits C (by omega) (gv 0) (ga_cons (gv 8) (ga_nil))) (g_cmp op_le s_le (g_op o_add s_add (gv 5) (gv 8)) (gv 2))) ?_ ?_
    · exact gs_one (g_ret (g_bl))
    · exact gs_nil
  delta m_z_agrees_r3
  exact gs_one (g_ret (g_bl))
abbrev N_Heap_renew : List Str := ["self", "cells", "next_address", "cell"]
theorem sc_Heap_renew : FnScope N_Heap_renew ["self", "cells", "next_address"] (defScope s_Heap_renew) := ⟨rfl, rfl, rfl, by decide +kernel, rfl, by decide +kernel, by decide +kernel⟩
theorem ok_Heap_renew {f : Addr} {fd : FuncData} (F : Fun K "renew" "Heap.renew" s_Heap_renew f fd) (T : Txt K mg cs) (F_size_of : FD P w K mg base 1 "size_of" 1 (f_size_of cs)) : FnOk P w K mg base (L2.CX P w) 2 f fd ["self", "cells", "next_address"] (spF K 3 (f_Heap_renew cs)) := by
  show FnOk P w K mg base (L2.CX P w) (1 + 1) f fd ["self", "cells", "next_address"] (spF K (List.length ["self", "cells", "next_address"]) (runB (List.length N_Heap_renew) (m_Heap_renew cs)))
  refine fn_ok F sc_Heap_renew fun cdv A outer s H E C => ?_
  refine gs_cons (g_fldSet T.h_cells (gv 0) (g_callTy call_dictD s_dict T.b_dict (by decide +kernel) (ga_cons (gv 1) (ga_nil)))) ?_
  refine gs_cons (g_fldSet T.h_used (gv 0) (g_callB (cr_sum C.calm) s_sum T.b_sum (by decide +kernel) (ga_cons (g_lockE 1 (g_lc (own := [("cell", 3)]) (t := .one 3) C (gi_vals (gv 1)) (blkOk_by (N := N_Heap_renew) (sc := defScope s_Heap_renew) (by decide +kernel)) (by decide) (fun s1 H1 _ _ fp1 => pg_name (i := 3) C.nd rfl (Or.inl rfl)) (fun s1 H1 _ _ fp1 => gts_nil) (fun s1 H1 _ _ fp1 => g_call F_size_of (C.blk s1 H1 _ _ fp1) (by omega) (ga_cons (gv 3) (ga_nil))))) (ga_nil)))) ?_
  exact gs_one (g_fldSet T.h_next_address (gv 0) (gv 2))
abbrev N_z_renewed : List Str := ["_law_w", "_law_heap", "_law_rows", "_law_kept", "_law_row", "_law_first", "_law_cells", "_law_new", "_law_k", "_law_above"]
theorem sc_z_renewed : FnScope N_z_renewed ["_law_w", "_law_heap", "_law_rows"] (defScope s_z_renewed) := ⟨rfl, rfl, rfl, by decide +kernel, rfl, by decide +kernel, by decide +kernel⟩
theorem ok_z_renewed {f : Addr} {fd : FuncData} (F : Fun K "_law_renewed" "_law_renewed" s_z_renewed f fd) (T : Txt K mg cs) (F_z_next : FD P w K mg base 1 "_law_next" 2 (f_z_next cs)) (F_Heap_renew : MD P w K mg base 2 (cs 0) "renew" 3 (f_Heap_renew cs)) : FnOk P w K mg base (L2.CX P w) 3 f fd ["_law_w", "_law_heap", "_law_rows"] (spF K 3 (f_z_renewed cs)) := by
  show FnOk P w K mg base (L2.CX P w) (2 + 1) f fd ["_law_w", "_law_heap", "_law_rows"] (spF K (List.length ["_law_w", "_law_heap", "_law_rows"]) (runB (List.length N_z_renewed) (m_z_renewed cs)))
  refine fn_ok F sc_z_renewed fun cdv A outer s H E C => ?_
  refine gs_cons (g_setLc (i := 3) (own := [("_law_row", 4)]) (t := .one 4) C rfl (sw_true rfl rfl rfl (by decide +kernel)) (gi_seq (gv 2)) (blkOk_by (N := N_z_renewed) (sc := defScope s_z_renewed) (by decide +kernel)) (by decide) (fun s1 H1 _ _ fp1 => pg_name (i := 4) C.nd rfl (Or.inl rfl)) (fun s1 H1 _ _ fp1 => gts_one (gt_cmp (o_eq (C.blk s1 H1 _ _ fp1).u64) s_eq (g_call F_z_next (C.blk s1 H1 _ _ fp1) (by omega) (ga_cons (gv 0) (ga_cons (g_int) (ga_nil)))) (g_int))) (fun s1 H1 _ _ fp1 => gv 4)) ?_
  refine gs_cons (g_asg (g_call F_z_next C (by omega) (ga_cons (gv 0) (ga_cons (g_int) (ga_nil)))) (gg_name C.nd)) ?_
  refine gs_cons (g_asg (g_dict0) (gg_name C.nd)) ?_
  refine gs_cons (g_asg (g_lst (ga_nil)) (gg_name C.nd)) ?_
  refine gs_cons ?_ ?_
  · refine g_for C (gi_range1 T.b_range (ga_cons (g_callB o_len s_len T.b_len (by decide +kernel) (ga_cons (gv 3) (ga_nil))) (ga_nil))) (gg_name C.nd) ?_
    delta m_z_renewed_b1
    refine gs_cons (g_asg (g_ix (o_ix C.u1) s_ix (g_ix (o_ix C.u1) s_ix (gv 3) (gv 8)) (g_int)) (gg_sub C (gv 6) (g_op o_add s_add (gv 5) (g_op op_mul s_mul (g_int) (gv 8))))) ?_
    exact gs_one (g_expr (g_bm PySem.F.plainAttrs_list PySem.F.slot_list_append PySem.F.type_list_append mt_append s_append (gv 7) (ga_cons (g_tup (ga_cons (g_op o_add s_add (gv 5) (g_op op_mul s_mul (g_int) (gv 8))) (ga_cons (g_ix (o_ix C.u1) s_ix (g_ix (o_ix C.u1) s_ix (gv 3) (gv 8)) (g_int)) (ga_nil)))) (ga_nil))))
  delta m_z_renewed_r2
  refine gs_cons (g_asg (g_op o_add s_add (g_op o_add s_add (gv 5) (g_op op_mul s_mul (g_int) (g_callB o_len s_len T.b_len (by decide +kernel) (ga_cons (gv 3) (ga_nil))))) (g_call F_z_next C (by omega) (ga_cons (gv 0) (ga_cons (g_int) (ga_nil))))) (gg_name C.nd)) ?_
  refine gs_cons (g_expr (g_meth F_Heap_renew C (by omega) (gv 1) (ga_cons (gv 6) (ga_cons (gv 9) (ga_nil))))) ?_
  refine gs_cons (g_asg (g_tup (ga_cons (g_str) (ga_nil))) (gg_sub C (gv 6) (g_int))) ?_
  exact gs_one (g_ret (g_tup (ga_cons (gv 7) (ga_cons (gv 9) (ga_nil)))))
abbrev N_Heap_init : List Str := ["self", "room"]
theorem sc_Heap_init : FnScope N_Heap_init ["self", "room"] (defScope s_Heap_init) := ⟨rfl, rfl, rfl, by decide +kernel, rfl, by decide +kernel, by decide +kernel⟩
theorem ok_Heap_init {f : Addr} {fd : FuncData} (F : Fun K "__init__" "Heap.__init__" s_Heap_init f fd) (T : Txt K mg cs)  : FnOk P w K mg base (L2.CX P w) 1 f fd ["self", "room"] (spF K 2 (f_Heap_init cs)) := by
  show FnOk P w K mg base (L2.CX P w) (0 + 1) f fd ["self", "room"] (spF K (List.length ["self", "room"]) (runB (List.length N_Heap_init) (m_Heap_init cs)))
  refine fn_ok F sc_Heap_init fun cdv A outer s H E C => ?_
  refine gs_cons (g_fldSet T.h_room (gv 0) (gv 1)) ?_
  refine gs_cons (g_fldSet T.h_used (gv 0) (g_int)) ?_
  refine gs_cons (g_fldSet T.h_next_address (gv 0) (g_int)) ?_
  exact gs_one (g_fldSet T.h_cells (gv 0) (g_dict0))
abbrev N_Heap_make : List Str := ["self", "cell", "address"]
theorem sc_Heap_make : FnScope N_Heap_make ["self", "cell"] (defScope s_Heap_make) := ⟨rfl, rfl, rfl, by decide +kernel, rfl, by decide +kernel, by decide +kernel⟩
theorem ok_Heap_make {f : Addr} {fd : FuncData} (F : Fun K "make" "Heap.make" s_Heap_make f fd) (T : Txt K mg cs) (F_size_of : FD P w K mg base 1 "size_of" 1 (f_size_of cs)) : FnOk P w K mg base (L2.CX P w) 2 f fd ["self", "cell"] (spF K 2 (f_Heap_make cs)) := by
  show FnOk P w K mg base (L2.CX P w) (1 + 1) f fd ["self", "cell"] (spF K (List.length ["self", "cell"]) (runB (List.length N_Heap_make) (m_Heap_make cs)))
  refine fn_ok F sc_Heap_make fun cdv A outer s H E C => ?_
  refine gs_cons (g_asg (g_fld T.h_next_address (gv 0)) (gg_name C.nd)) ?_
  refine gs_cons (g_asg (gv 1) (gg_sub C (g_fld T.h_cells (gv 0)) (gv 2))) ?_
  refine gs_cons (g_fldAug T.h_used o_iadd s_iadd (gv 0) (g_call F_size_of C (by omega) (ga_cons (gv 1) (ga_nil)))) ?_
  refine gs_cons (g_fldAug T.h_next_address o_iadd s_iadd (gv 0) (g_int)) ?_
  exact gs_one (g_ret (gv 2))
abbrev N_Heap_put : List Str := ["self", "address", "cell"]
theorem sc_Heap_put : FnScope N_Heap_put ["self", "address", "cell"] (defScope s_Heap_put) := ⟨rfl, rfl, rfl, by decide +kernel, rfl, by decide +kernel, by decide +kernel⟩
theorem ok_Heap_put {f : Addr} {fd : FuncData} (F : Fun K "put" "Heap.put" s_Heap_put f fd) (T : Txt K mg cs) (F_size_of : FD P w K mg base 1 "size_of" 1 (f_size_of cs)) : FnOk P w K mg base (L2.CX P w) 2 f fd ["self", "address", "cell"] (spF K 3 (f_Heap_put cs)) := by
  show FnOk P w K mg base (L2.CX P w) (1 + 1) f fd ["self", "address", "cell"] (spF K (List.length ["self", "address", "cell"]) (runB (List.length N_Heap_put) (m_Heap_put cs)))
  refine fn_ok F sc_Heap_put fun cdv A outer s H E C => ?_
  refine gs_cons (g_fldAug T.h_used o_iadd s_iadd (gv 0) (g_op op_sub s_sub (g_call F_size_of C (by omega) (ga_cons (gv 2) (ga_nil))) (g_call F_size_of C (by omega) (ga_cons (g_ix (o_ix C.u1) s_ix (g_fld T.h_cells (gv 0)) (gv 1)) (ga_nil))))) ?_
  exact gs_one (g_asg (gv 2) (gg_sub C (g_fld T.h_cells (gv 0)) (gv 1)))
abbrev N_law : List Str := ["_law_script", "_law_w", "_law_room", "_law_heap", "_law_other", "_law_rows", "_law_above", "_law_k", "_law_cell_here", "_law_turn", "_law_at"]
theorem sc_law : FnScope N_law ["_law_script"] (defScope s_law) := ⟨rfl, rfl, rfl, by decide +kernel, rfl, by decide +kernel, by decide +kernel⟩
theorem ok_law {f : Addr} {fd : FuncData} (F : Fun K "law" "law" s_law f fd) (T : Txt K mg cs) (F_z_next : FD P w K mg base 1 "_law_next" 2 (f_z_next cs)) (K_Heap : CD P w K mg base 1 "Heap" (cs 0) 2 (f_Heap_init cs)) (F_z_draws : FD P w K mg base 1 "_law_draws" 2 (f_z_draws cs)) (F_z_cell : FD P w K mg base 2 "_law_cell" 1 (f_z_cell cs)) (F_size_of : FD P w K mg base 1 "size_of" 1 (f_size_of cs)) (F_z_size : FD P w K mg base 1 "_law_size" 1 (f_z_size cs)) (F_Heap_make : MD P w K mg base 2 (cs 0) "make" 2 (f_Heap_make cs)) (F_Heap_put : MD P w K mg base 2 (cs 0) "put" 3 (f_Heap_put cs)) (F_z_renewed : FD P w K mg base 3 "_law_renewed" 3 (f_z_renewed cs)) (F_z_agrees : FD P w K mg base 2 "_law_agrees" 3 (f_z_agrees cs)) (F_Heap_addresses : MD P w K mg base 1 (cs 0) "addresses" 1 (f_Heap_addresses cs)) : FnOk P w K mg base (L2.CX P w) 4 f fd ["_law_script"] (spF K 1 (f_law cs)) := by
  show FnOk P w K mg base (L2.CX P w) (3 + 1) f fd ["_law_script"] (spF K (List.length ["_law_script"]) (runB (List.length N_law) (m_law cs)))
  refine fn_ok F sc_law fun cdv A outer s H E C => ?_
  refine gs_cons (g_asg (g_dict (gp_cons (g_str) (g_call F_z_draws C (by omega) (ga_cons (gv 0) (ga_cons (g_int) (ga_nil)))) (gp_cons (g_str) (g_int) (gp_nil)))) (gg_name C.nd)) ?_
  refine gs_cons (g_asg (g_call F_z_next C (by omega) (ga_cons (gv 1) (ga_cons (g_int) (ga_nil)))) (gg_name C.nd)) ?_
  refine gs_cons (g_asg (g_make K_Heap C (by omega) (ga_cons (gv 2) (ga_nil))) (gg_name C.nd)) ?_
  refine gs_cons (g_asg (g_make K_Heap C (by omega) (ga_cons (g_int) (ga_nil))) (gg_name C.nd)) ?_
  refine gs_cons (g_asg (g_lst (ga_nil)) (gg_name C.nd)) ?_
  refine gs_cons (g_asg (g_int) (gg_name C.nd)) ?_
  refine gs_cons ?_ ?_
  · refine g_for C (gi_range1 T.b_range (ga_cons (g_op o_add s_add (g_int) (g_callB (call_min2 C.calm) s_min2 T.b_min (by decide +kernel) (ga_cons (g_int) (ga_cons (g_callB o_len s_len T.b_len (by decide +kernel) (ga_cons (gv 0) (ga_nil))) (ga_nil))))) (ga_nil))) (gg_name C.nd) ?_
    delta m_law_b2
    refine gs_cons (g_asg (g_call F_z_cell C (by omega) (ga_cons (gv 1) (ga_nil))) (gg_name C.nd)) ?_
    refine gs_cons ?_ ?_
    · refine g_ifS (gt_cmp (o_ne C.u64) s_ne (g_call F_size_of C (by omega) (ga_cons (gv 8) (ga_nil))) (g_call F_z_size C (by omega) (ga_cons (gv 8) (ga_nil)))) ?_ ?_
      · exact gs_one (g_ret (g_bl))
      · exact gs_nil
    refine gs_cons (g_asg (g_call F_z_next C (by omega) (ga_cons (gv 1) (ga_cons (g_int) (ga_nil)))) (gg_name C.nd)) ?_
    refine gs_cons ?_ ?_
    · refine g_ifS (gt_w (gw_or (gt_cmp op_lt s_lt (gv 9) (g_int)) (gw_or1 (gt_cmp (o_eq C.u64) s_eq (gv 5) (g_lst (ga_nil)))))) ?_ ?_
      · refine gs_cons ?_ ?_
        · refine g_ifS (gt_cmp (o_ne C.u64) s_ne (g_meth F_Heap_make C (by omega) (gv 3) (ga_cons (gv 8) (ga_nil))) (gv 6)) ?_ ?_
          · exact gs_one (g_ret (g_bl))
          · exact gs_nil
        refine gs_cons (g_expr (g_bm PySem.F.plainAttrs_list PySem.F.slot_list_append PySem.F.type_list_append mt_append s_append (gv 5) (ga_cons (g_tup (ga_cons (gv 6) (ga_cons (gv 8) (ga_nil)))) (ga_nil)))) ?_
        exact gs_one (g_aug (i := 6) C.nd o_iadd s_iadd (g_int))
      · refine gs_one ?_
        refine g_ifS (gt_cmp op_lt s_lt (gv 9) (g_int)) ?_ ?_
        · refine gs_cons (g_asg (g_call F_z_next C (by omega) (ga_cons (gv 1) (ga_cons (g_callB o_len s_len T.b_len (by decide +kernel) (ga_cons (gv 5) (ga_nil))) (ga_nil)))) (gg_name C.nd)) ?_
          refine gs_cons (g_expr (g_meth F_Heap_put C (by omega) (gv 3) (ga_cons (g_ix (o_ix C.u1) s_ix (g_ix (o_ix C.u1) s_ix (gv 5) (gv 10)) (g_int)) (ga_cons (gv 8) (ga_nil))))) ?_
          exact gs_one (g_asg (g_tup (ga_cons (g_ix (o_ix C.u1) s_ix (g_ix (o_ix C.u1) s_ix (gv 5) (gv 10)) (g_int)) (ga_cons (gv 8) (ga_nil)))) (gg_sub C (gv 5) (gv 10)))
        · exact gs_one (g_asg (g_call F_z_renewed C (by omega) (ga_cons (gv 1) (ga_cons (gv 3) (ga_cons (gv 5) (ga_nil))))) (gg_names C.calm (pgs_cons (pg_name (i := 5) C.nd rfl (by first | exact Or.inl rfl | exact Or.inr rfl)) (pgs_cons (pg_name (i := 6) C.nd rfl (by first | exact Or.inl rfl | exact Or.inr rfl)) (pgs_nil)))))
    delta m_law_r1
    refine gs_one ?_
    refine g_ifS (gt_w (gw_or (gt_not (gt_val (g_call F_z_agrees C (by omega) (ga_cons (gv 3) (ga_cons (gv 5) (ga_cons (gv 2) (ga_nil))))))) (gw_or (gt_cmp (o_ne C.u64) s_ne (g_meth0 F_Heap_addresses C (by omega) (gv 4)) (g_lst (ga_nil))) (gw_or1 (gt_cmp (o_ne C.u64) s_ne (g_fld T.h_used (gv 4)) (g_int)))))) ?_ ?_
    · exact gs_one (g_ret (g_bl))
    · exact gs_nil
  delta m_law_r3
  exact gs_one (g_ret (g_bl))
abbrev N_Heap_cells : List Str := ["self"]
theorem sc_Heap_cells : FnScope N_Heap_cells ["self"] (defScope s_Heap_cells) := ⟨rfl, rfl, rfl, by decide +kernel, rfl, by decide +kernel, by decide +kernel⟩
theorem ok_Heap_cells {f : Addr} {fd : FuncData} (F : Fun K "cells" "Heap.cells" s_Heap_cells f fd) (T : Txt K mg cs)  : FnOk P w K mg base (L2.CX P w) 1 f fd ["self"] (spF K 1 (f_Heap_cells cs)) := by
  show FnOk P w K mg base (L2.CX P w) (0 + 1) f fd ["self"] (spF K (List.length ["self"]) (runB (List.length N_Heap_cells) (m_Heap_cells cs)))
  refine fn_ok F sc_Heap_cells fun cdv A outer s H E C => ?_
  exact gs_one (g_ret (g_callTy call_dictD s_dict T.b_dict (by decide +kernel) (ga_cons (g_fld T.h_cells (gv 0)) (ga_nil))))
end
end K65

set_option Elab.async false
set_option linter.all false
set_option maxRecDepth 100000
set_option maxHeartbeats 400000
namespace K65
open PySem PySem.Spec PyProof.Rows L2 FL
inductive Cl where
  | hole
  | on (n : Int)
  | later (n : Int) (ws : List Int) (s : Int)
  | con (t : Bool) (n : Int) (ws : List Int)
def tagC (t : Bool) : Str := if t then "con" else "part"
def cD : Cl → D
  | .hole => .tup [.str "hole"]
  | .on n => .tup [.str "on", .int n]
  | .later n ws s => .tup [.str "later", .tup [.str "give", .tup [.str "number", .int n]], .tup (ws.map .int), .int s]
  | .con t n ws => .tup [.str (tagC t), .int n, .tup (ws.map .int)]
def cS : Cl → Int
  | .hole => 2
  | .on _ => 2
  | .later _ ws _ => if 1 + (ws.length : Int) > 2 then 1 + ws.length else 2
  | .con _ _ ws => 1 + ws.length
theorem ints_ok (l : List Int) : (l.map D.int).all (okD 1) = true := by
  rw [List.all_eq_true]
  intro x hx
  obtain ⟨i, _, rfl⟩ := List.mem_map.mp hx
  rfl
theorem cD_ok (c : Cl) : okD 5 (cD c) = true := by
  have i2 : ∀ ws : List Int, okD 2 (.tup (ws.map .int)) = true := fun ws => ints_ok ws
  have i4 : ∀ ws : List Int, okD 4 (.tup (ws.map .int)) = true := fun ws => okD_le (by decide) (i2 ws)
  cases c with
  | hole => show ([D.str "hole"].all (okD 4)) = true; decide +kernel
  | on n =>
    have h : okD 4 (.str "on") = true := by decide +kernel
    show ([D.str "on", .int n].all (okD 4)) = true
    simp only [List.all_cons, List.all_nil, h, show okD 4 (.int n) = true from rfl, Bool.and_self]
  | later n ws s =>
    have h : okD 4 (.str "later") = true := by decide +kernel
    have h2 : okD 4 (.tup [.str "give", .tup [.str "number", .int n]]) = true := by
      have h3 : okD 3 (.str "give") = true := by decide +kernel
      have h4 : okD 2 (.str "number") = true := by decide +kernel
      have h5 : okD 3 (.tup [.str "number", .int n]) = true := by
        show ([D.str "number", .int n].all (okD 2)) = true
        simp only [List.all_cons, List.all_nil, h4, show okD 2 (.int n) = true from rfl, Bool.and_self]
      show ([D.str "give", .tup [.str "number", .int n]].all (okD 3)) = true
      simp only [List.all_cons, List.all_nil, h3, h5, Bool.and_self]
    show ([D.str "later", .tup [.str "give", .tup [.str "number", .int n]], .tup (ws.map .int), .int s].all (okD 4)) = true
    simp only [List.all_cons, List.all_nil, h, h2, i4, show okD 4 (.int s) = true from rfl, Bool.and_self]
  | con t n ws =>
    have h : okD 4 (.str (tagC t)) = true := by cases t <;> decide +kernel
    show ([D.str (tagC t), .int n, .tup (ws.map .int)].all (okD 4)) = true
    simp only [List.all_cons, List.all_nil, h, i4, show okD 4 (.int n) = true from rfl, Bool.and_self]
variable (cs : Nat → Addr)
theorem size_of_ok (c : Cl) {h : HS} {P : D → HS → Prop} {X : XP} (k : P (.int (cS c)) h) : wpR (f_size_of cs [cD c] h) P X := by
  unfold f_size_of m_size_of
  cases c with
  | hole => simp only [cD]; simp (decide := true) only [↓wp_seq, ↓wp_skip, ↓wp_drop, ↓wp_ret, ↓wp_retN, ↓wp_brk, ↓wp_cnt, ↓wp_if, ↓wp_asg, ↓wp_to, ↓wp_tos, ↓wp_toIx, ↓wp_aug, ↓wp_augK, ↓wp_fldSet, ↓wp_fldAug, ↓wp_var, ↓wp_c, ↓wp_op, ↓wp_un, ↓wp_nil, ↓wp_cons, ↓wp_tup, ↓wp_lst, ↓wp_dict0, ↓wp_dict, ↓wp_pairs0, ↓wp_pairs, ↓wp_call, ↓wp_callF, ↓wp_tru, ↓wp_bl, ↓wp_and, ↓wp_or, ↓wp_not, ↓wp_andV, ↓wp_orV, ↓wp_notV, ↓wp_part, ↓wp_noPart, ↓wp_sl, ↓wp_bm, ↓wp_ifE, ↓wp_fld, ↓wp_meth, ↓wp_make, ↓wp_lockE, ↓wp_rng1, ↓wp_rng2, ↓wp_seqI, ↓wpR_ok, ↓wpS_nx, ↓wpS_rt, List.getElem?_cons_zero, List.getElem?_cons_succ, List.set_cons_zero, List.set_cons_succ, List.length_cons, List.length_nil, ↓reduceIte, decide_eq_true_eq, ev_add, ev_iadd, ev_sub, ev_mod, ev_neg, ev_lt, ev_le, ev_gt, ev_ge, ev_eqI, ev_neI, ev_eqS, ev_neS, ev_isN, ev_int, ev_abs, ev_max, ev_min, ev_lenT, ev_lenC, ev_tupT, Int.reduceLT, Int.reduceLE, Int.reduceNeg, Int.reduceAdd, Int.reduceSub, Int.reduceEq, Nat.reduceAdd, Nat.reduceSub, and_self, ↓List.map_cons, ↓List.map_nil, ↓List.cons_append, ↓List.nil_append, List.replicate, ixT0, ixT1, ixT2, ixT3, ixTm1, ixTm2, ixTm3, onH_get, onH_set, onH_push, onH_len, mkB_get, mkB_set, mkB_push, mkB_len, mkB_next, Option.getD_some, Option.getD_none, sz0, sz1, sz2, sz3, sz4, sz5, sz6, sz7, sz8, sz9, ev_keyI, ev_keyS, ev_eqB, ev_neB, wp_one, wp_yes, wp_valsI, wp_keysI, wp_lcE, ↓wp_runB]; exact k
  | on n => simp only [cD]; simp (decide := true) only [↓wp_seq, ↓wp_skip, ↓wp_drop, ↓wp_ret, ↓wp_retN, ↓wp_brk, ↓wp_cnt, ↓wp_if, ↓wp_asg, ↓wp_to, ↓wp_tos, ↓wp_toIx, ↓wp_aug, ↓wp_augK, ↓wp_fldSet, ↓wp_fldAug, ↓wp_var, ↓wp_c, ↓wp_op, ↓wp_un, ↓wp_nil, ↓wp_cons, ↓wp_tup, ↓wp_lst, ↓wp_dict0, ↓wp_dict, ↓wp_pairs0, ↓wp_pairs, ↓wp_call, ↓wp_callF, ↓wp_tru, ↓wp_bl, ↓wp_and, ↓wp_or, ↓wp_not, ↓wp_andV, ↓wp_orV, ↓wp_notV, ↓wp_part, ↓wp_noPart, ↓wp_sl, ↓wp_bm, ↓wp_ifE, ↓wp_fld, ↓wp_meth, ↓wp_make, ↓wp_lockE, ↓wp_rng1, ↓wp_rng2, ↓wp_seqI, ↓wpR_ok, ↓wpS_nx, ↓wpS_rt, List.getElem?_cons_zero, List.getElem?_cons_succ, List.set_cons_zero, List.set_cons_succ, List.length_cons, List.length_nil, ↓reduceIte, decide_eq_true_eq, ev_add, ev_iadd, ev_sub, ev_mod, ev_neg, ev_lt, ev_le, ev_gt, ev_ge, ev_eqI, ev_neI, ev_eqS, ev_neS, ev_isN, ev_int, ev_abs, ev_max, ev_min, ev_lenT, ev_lenC, ev_tupT, Int.reduceLT, Int.reduceLE, Int.reduceNeg, Int.reduceAdd, Int.reduceSub, Int.reduceEq, Nat.reduceAdd, Nat.reduceSub, and_self, ↓List.map_cons, ↓List.map_nil, ↓List.cons_append, ↓List.nil_append, List.replicate, ixT0, ixT1, ixT2, ixT3, ixTm1, ixTm2, ixTm3, onH_get, onH_set, onH_push, onH_len, mkB_get, mkB_set, mkB_push, mkB_len, mkB_next, Option.getD_some, Option.getD_none, sz0, sz1, sz2, sz3, sz4, sz5, sz6, sz7, sz8, sz9, ev_keyI, ev_keyS, ev_eqB, ev_neB, wp_one, wp_yes, wp_valsI, wp_keysI, wp_lcE, ↓wp_runB]; exact k
  | later n ws s => simp only [cD]; simp (decide := true) only [↓wp_seq, ↓wp_skip, ↓wp_drop, ↓wp_ret, ↓wp_retN, ↓wp_brk, ↓wp_cnt, ↓wp_if, ↓wp_asg, ↓wp_to, ↓wp_tos, ↓wp_toIx, ↓wp_aug, ↓wp_augK, ↓wp_fldSet, ↓wp_fldAug, ↓wp_var, ↓wp_c, ↓wp_op, ↓wp_un, ↓wp_nil, ↓wp_cons, ↓wp_tup, ↓wp_lst, ↓wp_dict0, ↓wp_dict, ↓wp_pairs0, ↓wp_pairs, ↓wp_call, ↓wp_callF, ↓wp_tru, ↓wp_bl, ↓wp_and, ↓wp_or, ↓wp_not, ↓wp_andV, ↓wp_orV, ↓wp_notV, ↓wp_part, ↓wp_noPart, ↓wp_sl, ↓wp_bm, ↓wp_ifE, ↓wp_fld, ↓wp_meth, ↓wp_make, ↓wp_lockE, ↓wp_rng1, ↓wp_rng2, ↓wp_seqI, ↓wpR_ok, ↓wpS_nx, ↓wpS_rt, List.getElem?_cons_zero, List.getElem?_cons_succ, List.set_cons_zero, List.set_cons_succ, List.length_cons, List.length_nil, ↓reduceIte, decide_eq_true_eq, ev_add, ev_iadd, ev_sub, ev_mod, ev_neg, ev_lt, ev_le, ev_gt, ev_ge, ev_eqI, ev_neI, ev_eqS, ev_neS, ev_isN, ev_int, ev_abs, ev_max, ev_min, ev_lenT, ev_lenC, ev_tupT, Int.reduceLT, Int.reduceLE, Int.reduceNeg, Int.reduceAdd, Int.reduceSub, Int.reduceEq, Nat.reduceAdd, Nat.reduceSub, and_self, ↓List.map_cons, ↓List.map_nil, ↓List.cons_append, ↓List.nil_append, List.replicate, ixT0, ixT1, ixT2, ixT3, ixTm1, ixTm2, ixTm3, onH_get, onH_set, onH_push, onH_len, mkB_get, mkB_set, mkB_push, mkB_len, mkB_next, Option.getD_some, Option.getD_none, sz0, sz1, sz2, sz3, sz4, sz5, sz6, sz7, sz8, sz9, ev_keyI, ev_keyS, ev_eqB, ev_neB, wp_one, wp_yes, wp_valsI, wp_keysI, wp_lcE, ↓wp_runB, List.length_map]; exact k
  | con t n ws => cases t <;> simp only [cD, tagC] <;> simp (decide := true) only [↓wp_seq, ↓wp_skip, ↓wp_drop, ↓wp_ret, ↓wp_retN, ↓wp_brk, ↓wp_cnt, ↓wp_if, ↓wp_asg, ↓wp_to, ↓wp_tos, ↓wp_toIx, ↓wp_aug, ↓wp_augK, ↓wp_fldSet, ↓wp_fldAug, ↓wp_var, ↓wp_c, ↓wp_op, ↓wp_un, ↓wp_nil, ↓wp_cons, ↓wp_tup, ↓wp_lst, ↓wp_dict0, ↓wp_dict, ↓wp_pairs0, ↓wp_pairs, ↓wp_call, ↓wp_callF, ↓wp_tru, ↓wp_bl, ↓wp_and, ↓wp_or, ↓wp_not, ↓wp_andV, ↓wp_orV, ↓wp_notV, ↓wp_part, ↓wp_noPart, ↓wp_sl, ↓wp_bm, ↓wp_ifE, ↓wp_fld, ↓wp_meth, ↓wp_make, ↓wp_lockE, ↓wp_rng1, ↓wp_rng2, ↓wp_seqI, ↓wpR_ok, ↓wpS_nx, ↓wpS_rt, List.getElem?_cons_zero, List.getElem?_cons_succ, List.set_cons_zero, List.set_cons_succ, List.length_cons, List.length_nil, ↓reduceIte, decide_eq_true_eq, ev_add, ev_iadd, ev_sub, ev_mod, ev_neg, ev_lt, ev_le, ev_gt, ev_ge, ev_eqI, ev_neI, ev_eqS, ev_neS, ev_isN, ev_int, ev_abs, ev_max, ev_min, ev_lenT, ev_lenC, ev_tupT, Int.reduceLT, Int.reduceLE, Int.reduceNeg, Int.reduceAdd, Int.reduceSub, Int.reduceEq, Nat.reduceAdd, Nat.reduceSub, and_self, ↓List.map_cons, ↓List.map_nil, ↓List.cons_append, ↓List.nil_append, List.replicate, ixT0, ixT1, ixT2, ixT3, ixTm1, ixTm2, ixTm3, onH_get, onH_set, onH_push, onH_len, mkB_get, mkB_set, mkB_push, mkB_len, mkB_next, Option.getD_some, Option.getD_none, sz0, sz1, sz2, sz3, sz4, sz5, sz6, sz7, sz8, sz9, ev_keyI, ev_keyS, ev_eqB, ev_neB, wp_one, wp_yes, wp_valsI, wp_keysI, wp_lcE, ↓wp_runB, List.length_map] <;> exact k
theorem z_size_ok (c : Cl) {h : HS} {P : D → HS → Prop} {X : XP} (k : P (.int (cS c)) (h ++ [.lst [.str "hole", .str "on"]])) : wpR (f_z_size cs [cD c] h) P X := by
  unfold f_z_size m_z_size
  have e : ∀ x : Str, dIn (.str x) (.ref h.length) (h ++ [.lst [.str "hole", .str "on"]]) = .ok (.bl (("hole" == x) || (("on" == x) || false))) (h ++ [.lst [.str "hole", .str "on"]]) := fun x => by
    have e1 : itemsD (h ++ [.lst [.str "hole", .str "on"]]) (.ref h.length) = some [.str "hole", .str "on"] := by simp [itemsD]
    unfold dIn inB
    rw [e1]
    rfl
  cases c with
  | hole => simp only [cD]; simp (decide := true) only [↓wp_seq, ↓wp_skip, ↓wp_drop, ↓wp_ret, ↓wp_retN, ↓wp_brk, ↓wp_cnt, ↓wp_if, ↓wp_asg, ↓wp_to, ↓wp_tos, ↓wp_toIx, ↓wp_aug, ↓wp_augK, ↓wp_fldSet, ↓wp_fldAug, ↓wp_var, ↓wp_c, ↓wp_op, ↓wp_un, ↓wp_nil, ↓wp_cons, ↓wp_tup, ↓wp_lst, ↓wp_dict0, ↓wp_dict, ↓wp_pairs0, ↓wp_pairs, ↓wp_call, ↓wp_callF, ↓wp_tru, ↓wp_bl, ↓wp_and, ↓wp_or, ↓wp_not, ↓wp_andV, ↓wp_orV, ↓wp_notV, ↓wp_part, ↓wp_noPart, ↓wp_sl, ↓wp_bm, ↓wp_ifE, ↓wp_fld, ↓wp_meth, ↓wp_make, ↓wp_lockE, ↓wp_rng1, ↓wp_rng2, ↓wp_seqI, ↓wpR_ok, ↓wpS_nx, ↓wpS_rt, List.getElem?_cons_zero, List.getElem?_cons_succ, List.set_cons_zero, List.set_cons_succ, List.length_cons, List.length_nil, ↓reduceIte, decide_eq_true_eq, ev_add, ev_iadd, ev_sub, ev_mod, ev_neg, ev_lt, ev_le, ev_gt, ev_ge, ev_eqI, ev_neI, ev_eqS, ev_neS, ev_isN, ev_int, ev_abs, ev_max, ev_min, ev_lenT, ev_lenC, ev_tupT, Int.reduceLT, Int.reduceLE, Int.reduceNeg, Int.reduceAdd, Int.reduceSub, Int.reduceEq, Nat.reduceAdd, Nat.reduceSub, and_self, ↓List.map_cons, ↓List.map_nil, ↓List.cons_append, ↓List.nil_append, List.replicate, ixT0, ixT1, ixT2, ixT3, ixTm1, ixTm2, ixTm3, onH_get, onH_set, onH_push, onH_len, mkB_get, mkB_set, mkB_push, mkB_len, mkB_next, Option.getD_some, Option.getD_none, sz0, sz1, sz2, sz3, sz4, sz5, sz6, sz7, sz8, sz9, ev_keyI, ev_keyS, ev_eqB, ev_neB, wp_one, wp_yes, wp_valsI, wp_keysI, wp_lcE, ↓wp_runB, e]; exact k
  | on n => simp only [cD]; simp (decide := true) only [↓wp_seq, ↓wp_skip, ↓wp_drop, ↓wp_ret, ↓wp_retN, ↓wp_brk, ↓wp_cnt, ↓wp_if, ↓wp_asg, ↓wp_to, ↓wp_tos, ↓wp_toIx, ↓wp_aug, ↓wp_augK, ↓wp_fldSet, ↓wp_fldAug, ↓wp_var, ↓wp_c, ↓wp_op, ↓wp_un, ↓wp_nil, ↓wp_cons, ↓wp_tup, ↓wp_lst, ↓wp_dict0, ↓wp_dict, ↓wp_pairs0, ↓wp_pairs, ↓wp_call, ↓wp_callF, ↓wp_tru, ↓wp_bl, ↓wp_and, ↓wp_or, ↓wp_not, ↓wp_andV, ↓wp_orV, ↓wp_notV, ↓wp_part, ↓wp_noPart, ↓wp_sl, ↓wp_bm, ↓wp_ifE, ↓wp_fld, ↓wp_meth, ↓wp_make, ↓wp_lockE, ↓wp_rng1, ↓wp_rng2, ↓wp_seqI, ↓wpR_ok, ↓wpS_nx, ↓wpS_rt, List.getElem?_cons_zero, List.getElem?_cons_succ, List.set_cons_zero, List.set_cons_succ, List.length_cons, List.length_nil, ↓reduceIte, decide_eq_true_eq, ev_add, ev_iadd, ev_sub, ev_mod, ev_neg, ev_lt, ev_le, ev_gt, ev_ge, ev_eqI, ev_neI, ev_eqS, ev_neS, ev_isN, ev_int, ev_abs, ev_max, ev_min, ev_lenT, ev_lenC, ev_tupT, Int.reduceLT, Int.reduceLE, Int.reduceNeg, Int.reduceAdd, Int.reduceSub, Int.reduceEq, Nat.reduceAdd, Nat.reduceSub, and_self, ↓List.map_cons, ↓List.map_nil, ↓List.cons_append, ↓List.nil_append, List.replicate, ixT0, ixT1, ixT2, ixT3, ixTm1, ixTm2, ixTm3, onH_get, onH_set, onH_push, onH_len, mkB_get, mkB_set, mkB_push, mkB_len, mkB_next, Option.getD_some, Option.getD_none, sz0, sz1, sz2, sz3, sz4, sz5, sz6, sz7, sz8, sz9, ev_keyI, ev_keyS, ev_eqB, ev_neB, wp_one, wp_yes, wp_valsI, wp_keysI, wp_lcE, ↓wp_runB, e]; exact k
  | later n ws s => simp only [cD]; simp (decide := true) only [↓wp_seq, ↓wp_skip, ↓wp_drop, ↓wp_ret, ↓wp_retN, ↓wp_brk, ↓wp_cnt, ↓wp_if, ↓wp_asg, ↓wp_to, ↓wp_tos, ↓wp_toIx, ↓wp_aug, ↓wp_augK, ↓wp_fldSet, ↓wp_fldAug, ↓wp_var, ↓wp_c, ↓wp_op, ↓wp_un, ↓wp_nil, ↓wp_cons, ↓wp_tup, ↓wp_lst, ↓wp_dict0, ↓wp_dict, ↓wp_pairs0, ↓wp_pairs, ↓wp_call, ↓wp_callF, ↓wp_tru, ↓wp_bl, ↓wp_and, ↓wp_or, ↓wp_not, ↓wp_andV, ↓wp_orV, ↓wp_notV, ↓wp_part, ↓wp_noPart, ↓wp_sl, ↓wp_bm, ↓wp_ifE, ↓wp_fld, ↓wp_meth, ↓wp_make, ↓wp_lockE, ↓wp_rng1, ↓wp_rng2, ↓wp_seqI, ↓wpR_ok, ↓wpS_nx, ↓wpS_rt, List.getElem?_cons_zero, List.getElem?_cons_succ, List.set_cons_zero, List.set_cons_succ, List.length_cons, List.length_nil, ↓reduceIte, decide_eq_true_eq, ev_add, ev_iadd, ev_sub, ev_mod, ev_neg, ev_lt, ev_le, ev_gt, ev_ge, ev_eqI, ev_neI, ev_eqS, ev_neS, ev_isN, ev_int, ev_abs, ev_max, ev_min, ev_lenT, ev_lenC, ev_tupT, Int.reduceLT, Int.reduceLE, Int.reduceNeg, Int.reduceAdd, Int.reduceSub, Int.reduceEq, Nat.reduceAdd, Nat.reduceSub, and_self, ↓List.map_cons, ↓List.map_nil, ↓List.cons_append, ↓List.nil_append, List.replicate, ixT0, ixT1, ixT2, ixT3, ixTm1, ixTm2, ixTm3, onH_get, onH_set, onH_push, onH_len, mkB_get, mkB_set, mkB_push, mkB_len, mkB_next, Option.getD_some, Option.getD_none, sz0, sz1, sz2, sz3, sz4, sz5, sz6, sz7, sz8, sz9, ev_keyI, ev_keyS, ev_eqB, ev_neB, wp_one, wp_yes, wp_valsI, wp_keysI, wp_lcE, ↓wp_runB, List.length_map, e]; exact k
  | con t n ws => cases t <;> simp only [cD, tagC] <;> simp (decide := true) only [↓wp_seq, ↓wp_skip, ↓wp_drop, ↓wp_ret, ↓wp_retN, ↓wp_brk, ↓wp_cnt, ↓wp_if, ↓wp_asg, ↓wp_to, ↓wp_tos, ↓wp_toIx, ↓wp_aug, ↓wp_augK, ↓wp_fldSet, ↓wp_fldAug, ↓wp_var, ↓wp_c, ↓wp_op, ↓wp_un, ↓wp_nil, ↓wp_cons, ↓wp_tup, ↓wp_lst, ↓wp_dict0, ↓wp_dict, ↓wp_pairs0, ↓wp_pairs, ↓wp_call, ↓wp_callF, ↓wp_tru, ↓wp_bl, ↓wp_and, ↓wp_or, ↓wp_not, ↓wp_andV, ↓wp_orV, ↓wp_notV, ↓wp_part, ↓wp_noPart, ↓wp_sl, ↓wp_bm, ↓wp_ifE, ↓wp_fld, ↓wp_meth, ↓wp_make, ↓wp_lockE, ↓wp_rng1, ↓wp_rng2, ↓wp_seqI, ↓wpR_ok, ↓wpS_nx, ↓wpS_rt, List.getElem?_cons_zero, List.getElem?_cons_succ, List.set_cons_zero, List.set_cons_succ, List.length_cons, List.length_nil, ↓reduceIte, decide_eq_true_eq, ev_add, ev_iadd, ev_sub, ev_mod, ev_neg, ev_lt, ev_le, ev_gt, ev_ge, ev_eqI, ev_neI, ev_eqS, ev_neS, ev_isN, ev_int, ev_abs, ev_max, ev_min, ev_lenT, ev_lenC, ev_tupT, Int.reduceLT, Int.reduceLE, Int.reduceNeg, Int.reduceAdd, Int.reduceSub, Int.reduceEq, Nat.reduceAdd, Nat.reduceSub, and_self, ↓List.map_cons, ↓List.map_nil, ↓List.cons_append, ↓List.nil_append, List.replicate, ixT0, ixT1, ixT2, ixT3, ixTm1, ixTm2, ixTm3, onH_get, onH_set, onH_push, onH_len, mkB_get, mkB_set, mkB_push, mkB_len, mkB_next, Option.getD_some, Option.getD_none, sz0, sz1, sz2, sz3, sz4, sz5, sz6, sz7, sz8, sz9, ev_keyI, ev_keyS, ev_eqB, ev_neB, wp_one, wp_yes, wp_valsI, wp_keysI, wp_lcE, ↓wp_runB, List.length_map, e] <;> exact k
theorem intsD_map : ∀ ks : List Int, intsD (ks.map .int) = some ks
  | [] => rfl
  | k :: ks => by simp only [List.map_cons, intsD, FL.unI, intsD_map ks]
/-! ### the heap of the program, a row of rows as its model -/
def hf (room used na : Int) (d : Nat) : List (Str × D) := [("room", .int room), ("used", .int used), ("next_address", .int na), ("_cells", .ref d)]
abbrev Row := Int × Cl
def kvR (rows : List Row) : List (Key × D) := rows.map fun r => (.inl r.1, cD r.2)
def rowD (r : Row) : D := .tup [.int r.1, cD r.2]
def sumS (rows : List Row) : Int := (rows.map fun r => cS r.2).sum
def keys (rows : List Row) : List Int := rows.map (·.1)
theorem lk_room {a b c : Int} {d : Nat} : (hf a b c d).lookup (("room" : Str)) = some (.int a) := rfl
theorem lk_used {a b c : Int} {d : Nat} : (hf a b c d).lookup (("used" : Str)) = some (.int b) := rfl
theorem lk_next {a b c : Int} {d : Nat} : (hf a b c d).lookup (("next_address" : Str)) = some (.int c) := rfl
theorem lk_cells {a b c : Int} {d : Nat} : (hf a b c d).lookup (("_cells" : Str)) = some (.ref d) := rfl
theorem pt_used {a b c x : Int} {d : Nat} : putA "used" (.int x) (hf a b c d) = hf a x c d := rfl
theorem pt_next {a b c x : Int} {d : Nat} : putA "next_address" (.int x) (hf a b c d) = hf a b x d := rfl
theorem pt_cells {a b c : Int} {d x : Nat} : putA "_cells" (.ref x) (hf a b c d) = hf a b c x := rfl
theorem hf_len {a b c : Int} {d : Nat} : ((hf a b c d).length < 1000) = True := eq_true (by show 4 < 1000; decide)
theorem kvR_len {rows : List Row} : (kvR rows).length = rows.length := List.length_map _
theorem keysI_kvR : ∀ rows : List Row, keysI (kvR rows) = some (keys rows)
  | [] => rfl
  | r :: rows => by
    show (keysI (kvR rows)).map (r.1 :: ·) = _
    rw [keysI_kvR rows]; rfl
theorem getK_kvR : ∀ {rows : List Row} {a : Int} {c : Cl}, (keys rows).Nodup → (a, c) ∈ rows → getK (kvR rows) (.inl a) = some (cD c)
  | [], _, _, _, h => by cases h
  | (b, e) :: rows, a, c, nd, h => by
    have nd2 : b ∉ keys rows ∧ (keys rows).Nodup := List.nodup_cons.mp nd
    by_cases q : b = a
    · subst q
      have : e = c := by
        rcases List.mem_cons.mp h with h | h
        · exact (Prod.mk.inj h).2.symm
        · exact absurd (List.mem_map.mpr ⟨_, h, rfl⟩) nd2.1
      subst this
      simp [getK, kvR]
    · have h2 : (a, c) ∈ rows := by
        rcases List.mem_cons.mp h with h | h
        · exact absurd (Prod.mk.inj h).1.symm q
        · exact h
      have ih := getK_kvR nd2.2 h2
      simp only [getK, kvR, List.map_cons, List.find?_cons] at ih ⊢
      rw [decide_eq_false (by intro z; exact q (Sum.inl.inj z))]
      exact ih
theorem any_kvR {rows : List Row} {a : Int} : ((kvR rows).any fun kv => decide (kv.1 = (Sum.inl a : Key))) = decide (a ∈ keys rows) := by
  rw [Bool.eq_iff_iff, List.any_eq_true, decide_eq_true_eq, keys, List.mem_map]
  constructor
  · rintro ⟨x, hx, e⟩
    obtain ⟨y, hy, rfl⟩ := List.mem_map.mp hx
    exact ⟨y, hy, Sum.inl.inj (of_decide_eq_true e)⟩
  · rintro ⟨y, hy, rfl⟩
    exact ⟨_, List.mem_map.mpr ⟨y, hy, rfl⟩, decide_eq_true rfl⟩
theorem setK_new {rows : List Row} {a : Int} {c : Cl} (h : a ∉ keys rows) : setK (kvR rows) (.inl a) (cD c) = kvR (rows ++ [(a, c)]) := by
  unfold setK
  rw [any_kvR, if_neg (by simpa using h)]
  simp [kvR]
theorem setK_at : ∀ {rows : List Row} {j : Nat} {a : Int} {c0 c : Cl}, (keys rows).Nodup → rows[j]? = some (a, c0) → setK (kvR rows) (.inl a) (cD c) = kvR (rows.set j (a, c)) := by
  intro rows j a c0 c nd hj
  have hm : a ∈ keys rows := List.mem_map.mpr ⟨_, List.mem_of_getElem? hj, rfl⟩
  unfold setK
  rw [any_kvR, if_pos (decide_eq_true hm)]
  clear hm
  induction rows generalizing j with
  | nil => cases hj
  | cons r rows ih =>
    have nd2 : r.1 ∉ keys rows ∧ (keys rows).Nodup := List.nodup_cons.mp nd
    cases j with
    | zero =>
      cases hj
      simp only [kvR, List.map_cons, List.set_cons_zero, if_true]
      congr 1
      refine (List.map_congr_left fun x hx => ?_).trans (List.map_id _)
      obtain ⟨y, hy, rfl⟩ := List.mem_map.mp hx
      rw [if_neg]
      · rfl
      · intro z
        exact nd2.1 (Sum.inl.inj z ▸ List.mem_map.mpr ⟨y, hy, rfl⟩)
    | succ j =>
      have ih2 := ih (j := j) nd2.2 hj
      have hne : r.1 ≠ a := fun e => nd2.1 (e ▸ List.mem_map.mpr ⟨(a, c0), List.mem_of_getElem? hj, rfl⟩)
      simp only [kvR, List.map_cons, List.set_cons_succ] at ih2 ⊢
      rw [ih2, if_neg (by intro z; exact hne (Sum.inl.inj z))]
theorem sorted_kvR {h : HS} {p : Nat} {rows : List Row} (hp : h[p]? = some (.dK (kvR rows))) (hl : rows.length < 64) : dSorted [.ref p] h = .ok (.ref h.length) (h ++ [.lst ((sortI (keys rows)).map .int)]) := by
  have hl2 : (keys rows).length < 64 := by rw [keys, List.length_map]; exact hl
  simp only [dSorted, listD, lstAt, hp, dictD, Option.bind, keysI_kvR, if_pos hl2]
section
variable {h : HS} {i d : Nat} {room used na : Int} {rows : List Row} {P : D → HS → Prop} {X : XP}
theorem addresses_ok (ob : h[i]? = some (.ins (cs 0) (hf room used na d))) (ce : h[d]? = some (.dK (kvR rows))) (hl : rows.length < 64)
    (k : P (.ref h.length) (h ++ [.lst ((sortI (keys rows)).map .int)])) : wpR (f_Heap_addresses cs [.ref i] h) P X := by
  unfold f_Heap_addresses m_Heap_addresses
  simp only [↓wp_seq, ↓wp_skip, ↓wp_drop, ↓wp_ret, ↓wp_retN, ↓wp_brk, ↓wp_cnt, ↓wp_if, ↓wp_asg, ↓wp_to, ↓wp_tos, ↓wp_toIx, ↓wp_aug, ↓wp_augK, ↓wp_fldSet, ↓wp_fldAug, ↓wp_var, ↓wp_c, ↓wp_op, ↓wp_un, ↓wp_nil, ↓wp_cons, ↓wp_tup, ↓wp_lst, ↓wp_dict0, ↓wp_dict, ↓wp_pairs0, ↓wp_pairs, ↓wp_call, ↓wp_callF, ↓wp_tru, ↓wp_bl, ↓wp_and, ↓wp_or, ↓wp_not, ↓wp_andV, ↓wp_orV, ↓wp_notV, ↓wp_part, ↓wp_noPart, ↓wp_sl, ↓wp_bm, ↓wp_ifE, ↓wp_fld, ↓wp_meth, ↓wp_make, ↓wp_lockE, ↓wp_rng1, ↓wp_rng2, ↓wp_seqI, ↓wpR_ok, ↓wpS_nx, ↓wpS_rt, List.getElem?_cons_zero, List.getElem?_cons_succ, List.set_cons_zero, List.set_cons_succ, List.length_cons, List.length_nil, ↓reduceIte, decide_eq_true_eq, ev_add, ev_iadd, ev_sub, ev_mod, ev_neg, ev_lt, ev_le, ev_gt, ev_ge, ev_eqI, ev_neI, ev_eqS, ev_neS, ev_isN, ev_int, ev_abs, ev_max, ev_min, ev_lenT, ev_lenC, ev_tupT, Int.reduceLT, Int.reduceLE, Int.reduceNeg, Int.reduceAdd, Int.reduceSub, Int.reduceEq, Nat.reduceAdd, Nat.reduceSub, and_self, ↓List.map_cons, ↓List.map_nil, ↓List.cons_append, ↓List.nil_append, List.replicate, ixT0, ixT1, ixT2, ixT3, ixTm1, ixTm2, ixTm3, onH_get, onH_set, onH_push, onH_len, mkB_get, mkB_set, mkB_push, mkB_len, mkB_next, Option.getD_some, Option.getD_none, sz0, sz1, sz2, sz3, sz4, sz5, sz6, sz7, sz8, sz9, ev_keyI, ev_keyS, ev_eqB, ev_neB, wp_one, wp_yes, wp_valsI, wp_keysI, wp_lcE, ↓wp_runB, insD_at ob (List.mem_singleton.mpr rfl), lk_cells, sorted_kvR ce hl]
  exact k
theorem cell_ok {a : Int} {c : Cl} (ob : h[i]? = some (.ins (cs 0) (hf room used na d))) (ce : h[d]? = some (.dK (kvR rows))) (nd : (keys rows).Nodup) (hm : (a, c) ∈ rows) (k : P (cD c) h) :
    wpR (f_Heap_cell cs [.ref i, .int a] h) P X := by
  unfold f_Heap_cell m_Heap_cell
  have e : dIx (.ref d) (.int a) h = .ok (cD c) h := by
    simp only [dIx, ce, ixKD, keyD, getK_kvR nd hm]
  simp only [↓wp_seq, ↓wp_skip, ↓wp_drop, ↓wp_ret, ↓wp_retN, ↓wp_brk, ↓wp_cnt, ↓wp_if, ↓wp_asg, ↓wp_to, ↓wp_tos, ↓wp_toIx, ↓wp_aug, ↓wp_augK, ↓wp_fldSet, ↓wp_fldAug, ↓wp_var, ↓wp_c, ↓wp_op, ↓wp_un, ↓wp_nil, ↓wp_cons, ↓wp_tup, ↓wp_lst, ↓wp_dict0, ↓wp_dict, ↓wp_pairs0, ↓wp_pairs, ↓wp_call, ↓wp_callF, ↓wp_tru, ↓wp_bl, ↓wp_and, ↓wp_or, ↓wp_not, ↓wp_andV, ↓wp_orV, ↓wp_notV, ↓wp_part, ↓wp_noPart, ↓wp_sl, ↓wp_bm, ↓wp_ifE, ↓wp_fld, ↓wp_meth, ↓wp_make, ↓wp_lockE, ↓wp_rng1, ↓wp_rng2, ↓wp_seqI, ↓wpR_ok, ↓wpS_nx, ↓wpS_rt, List.getElem?_cons_zero, List.getElem?_cons_succ, List.set_cons_zero, List.set_cons_succ, List.length_cons, List.length_nil, ↓reduceIte, decide_eq_true_eq, ev_add, ev_iadd, ev_sub, ev_mod, ev_neg, ev_lt, ev_le, ev_gt, ev_ge, ev_eqI, ev_neI, ev_eqS, ev_neS, ev_isN, ev_int, ev_abs, ev_max, ev_min, ev_lenT, ev_lenC, ev_tupT, Int.reduceLT, Int.reduceLE, Int.reduceNeg, Int.reduceAdd, Int.reduceSub, Int.reduceEq, Nat.reduceAdd, Nat.reduceSub, and_self, ↓List.map_cons, ↓List.map_nil, ↓List.cons_append, ↓List.nil_append, List.replicate, ixT0, ixT1, ixT2, ixT3, ixTm1, ixTm2, ixTm3, onH_get, onH_set, onH_push, onH_len, mkB_get, mkB_set, mkB_push, mkB_len, mkB_next, Option.getD_some, Option.getD_none, sz0, sz1, sz2, sz3, sz4, sz5, sz6, sz7, sz8, sz9, ev_keyI, ev_keyS, ev_eqB, ev_neB, wp_one, wp_yes, wp_valsI, wp_keysI, wp_lcE, ↓wp_runB, insD_at ob (List.mem_singleton.mpr rfl), lk_cells, e]
  exact k
theorem fits_ok {s : Int} (ob : h[i]? = some (.ins (cs 0) (hf room used na d))) (k : P (.bl (decide (used + s ≤ room))) h) :
    wpR (f_Heap_fits cs [.ref i, .int s] h) P X := by
  unfold f_Heap_fits m_Heap_fits
  simp only [↓wp_seq, ↓wp_skip, ↓wp_drop, ↓wp_ret, ↓wp_retN, ↓wp_brk, ↓wp_cnt, ↓wp_if, ↓wp_asg, ↓wp_to, ↓wp_tos, ↓wp_toIx, ↓wp_aug, ↓wp_augK, ↓wp_fldSet, ↓wp_fldAug, ↓wp_var, ↓wp_c, ↓wp_op, ↓wp_un, ↓wp_nil, ↓wp_cons, ↓wp_tup, ↓wp_lst, ↓wp_dict0, ↓wp_dict, ↓wp_pairs0, ↓wp_pairs, ↓wp_call, ↓wp_callF, ↓wp_tru, ↓wp_bl, ↓wp_and, ↓wp_or, ↓wp_not, ↓wp_andV, ↓wp_orV, ↓wp_notV, ↓wp_part, ↓wp_noPart, ↓wp_sl, ↓wp_bm, ↓wp_ifE, ↓wp_fld, ↓wp_meth, ↓wp_make, ↓wp_lockE, ↓wp_rng1, ↓wp_rng2, ↓wp_seqI, ↓wpR_ok, ↓wpS_nx, ↓wpS_rt, List.getElem?_cons_zero, List.getElem?_cons_succ, List.set_cons_zero, List.set_cons_succ, List.length_cons, List.length_nil, ↓reduceIte, decide_eq_true_eq, ev_add, ev_iadd, ev_sub, ev_mod, ev_neg, ev_lt, ev_le, ev_gt, ev_ge, ev_eqI, ev_neI, ev_eqS, ev_neS, ev_isN, ev_int, ev_abs, ev_max, ev_min, ev_lenT, ev_lenC, ev_tupT, Int.reduceLT, Int.reduceLE, Int.reduceNeg, Int.reduceAdd, Int.reduceSub, Int.reduceEq, Nat.reduceAdd, Nat.reduceSub, and_self, ↓List.map_cons, ↓List.map_nil, ↓List.cons_append, ↓List.nil_append, List.replicate, ixT0, ixT1, ixT2, ixT3, ixTm1, ixTm2, ixTm3, onH_get, onH_set, onH_push, onH_len, mkB_get, mkB_set, mkB_push, mkB_len, mkB_next, Option.getD_some, Option.getD_none, sz0, sz1, sz2, sz3, sz4, sz5, sz6, sz7, sz8, sz9, ev_keyI, ev_keyS, ev_eqB, ev_neB, wp_one, wp_yes, wp_valsI, wp_keysI, wp_lcE, ↓wp_runB, insD_at ob (List.mem_singleton.mpr rfl), lk_used, lk_room]
  exact k
theorem insD_set {C : Addr} {fs : List (Str × D)} (hi : i < h.length) : insD [C] (h.set i (.ins C fs)) (.ref i) = some (i, C, fs) := insD_at (List.getElem?_set_self hi) (List.mem_singleton.mpr rfl)
theorem insD_setp {C : Addr} {fs : List (Str × D)} {l : HS} (hi : i < h.length) : insD [C] (h.set i (.ins C fs) ++ l) (.ref i) = some (i, C, fs) := insD_at (get_push (List.getElem?_set_self hi)) (List.mem_singleton.mpr rfl)
theorem set_setp2 {o o' : MO} {l : HS} (hi : i < h.length) : (h.set i o ++ l).set i o' = (h ++ l).set i o' := by
  rw [List.set_append_left _ _ (by rw [List.length_set]; exact hi), List.set_append_left _ _ hi, List.set_set]
theorem init_ok (k : P .non ((h ++ [MO.dK []]).set i (.ins (cs 0) (hf room 0 0 h.length)))) (ob : h[i]? = some (.ins (cs 0) [])) : wpR (f_Heap_init cs [.ref i, .int room] h) P X := by
  unfold f_Heap_init m_Heap_init
  have hi : i < h.length := (List.getElem?_eq_some_iff.mp ob).1
  have z0 : ((0 : Nat) < 1000) = True := eq_true (by decide)
  have z1 : ((1 : Nat) < 1000) = True := eq_true (by decide)
  have z2 : ((2 : Nat) < 1000) = True := eq_true (by decide)
  have z3 : ((3 : Nat) < 1000) = True := eq_true (by decide)
  have p1 : ∀ x y : D, putA "used" y [(("room" : Str), x)] = ([("room", x), ("used", y)] : List (Str × D)) := fun x y => rfl
  have p2 : ∀ x y z : D, putA "next_address" z [(("room" : Str), x), ("used", y)] = ([("room", x), ("used", y), ("next_address", z)] : List (Str × D)) := fun x y z => rfl
  have p3 : ∀ x y z w : D, putA "_cells" w [(("room" : Str), x), ("used", y), ("next_address", z)] = ([("room", x), ("used", y), ("next_address", z), ("_cells", w)] : List (Str × D)) := fun x y z w => rfl
  have p0 : ∀ x : D, putA ("room" : Str) x [] = ([("room", x)] : List (Str × D)) := fun x => rfl
  simp only [↓wp_seq, ↓wp_skip, ↓wp_drop, ↓wp_ret, ↓wp_retN, ↓wp_brk, ↓wp_cnt, ↓wp_if, ↓wp_asg, ↓wp_to, ↓wp_tos, ↓wp_toIx, ↓wp_aug, ↓wp_augK, ↓wp_fldSet, ↓wp_fldAug, ↓wp_var, ↓wp_c, ↓wp_op, ↓wp_un, ↓wp_nil, ↓wp_cons, ↓wp_tup, ↓wp_lst, ↓wp_dict0, ↓wp_dict, ↓wp_pairs0, ↓wp_pairs, ↓wp_call, ↓wp_callF, ↓wp_tru, ↓wp_bl, ↓wp_and, ↓wp_or, ↓wp_not, ↓wp_andV, ↓wp_orV, ↓wp_notV, ↓wp_part, ↓wp_noPart, ↓wp_sl, ↓wp_bm, ↓wp_ifE, ↓wp_fld, ↓wp_meth, ↓wp_make, ↓wp_lockE, ↓wp_rng1, ↓wp_rng2, ↓wp_seqI, ↓wpR_ok, ↓wpS_nx, ↓wpS_rt, List.getElem?_cons_zero, List.getElem?_cons_succ, List.set_cons_zero, List.set_cons_succ, List.length_cons, List.length_nil, ↓reduceIte, decide_eq_true_eq, ev_add, ev_iadd, ev_sub, ev_mod, ev_neg, ev_lt, ev_le, ev_gt, ev_ge, ev_eqI, ev_neI, ev_eqS, ev_neS, ev_isN, ev_int, ev_abs, ev_max, ev_min, ev_lenT, ev_lenC, ev_tupT, Int.reduceLT, Int.reduceLE, Int.reduceNeg, Int.reduceAdd, Int.reduceSub, Int.reduceEq, Nat.reduceAdd, Nat.reduceSub, and_self, ↓List.map_cons, ↓List.map_nil, ↓List.cons_append, ↓List.nil_append, List.replicate, ixT0, ixT1, ixT2, ixT3, ixTm1, ixTm2, ixTm3, onH_get, onH_set, onH_push, onH_len, mkB_get, mkB_set, mkB_push, mkB_len, mkB_next, Option.getD_some, Option.getD_none, sz0, sz1, sz2, sz3, sz4, sz5, sz6, sz7, sz8, sz9, ev_keyI, ev_keyS, ev_eqB, ev_neB, wp_one, wp_yes, wp_valsI, wp_keysI, wp_lcE, ↓wp_runB, insD_at ob (List.mem_singleton.mpr rfl), p0, p1, p2, p3, insD_set hi, insD_setp hi, List.set_set, set_setp2 hi, z0, z1, z2, z3, List.length_set]
  exact k
theorem make_ok {c : Cl} (ob : h[i]? = some (.ins (cs 0) (hf room used na d))) (ce : h[d]? = some (.dK (kvR rows))) (hn : na ∉ keys rows) (hl : rows.length < 1000)
    (k : P (.int na) ((h.set d (.dK (kvR (rows ++ [(na, c)])))).set i (.ins (cs 0) (hf room (used + cS c) (na + 1) d)))) : wpR (f_Heap_make cs [.ref i, cD c] h) P X := by
  have e : dSet (.ref d) (.int na) (cD c) h = some (h.set d (.dK (kvR (rows ++ [(na, c)])))) := by
    rw [← setK_new hn]
    exact dSet_dK ce rfl (by rw [kvR_len]; exact Nat.lt_trans hl (by decide))
  have nid : d ≠ i := by
    intro z
    subst z
    rw [ob] at ce
    cases ce
  have ob2 : (h.set d (.dK (kvR (rows ++ [(na, c)]))))[i]? = some (.ins (cs 0) (hf room used na d)) := get_other nid ob
  have hi : i < (h.set d (.dK (kvR (rows ++ [(na, c)])))).length := (List.getElem?_eq_some_iff.mp ob2).1
  unfold f_Heap_make m_Heap_make
  simp only [↓wp_seq, ↓wp_skip, ↓wp_drop, ↓wp_ret, ↓wp_retN, ↓wp_brk, ↓wp_cnt, ↓wp_if, ↓wp_asg, ↓wp_to, ↓wp_tos, ↓wp_toIx, ↓wp_aug, ↓wp_augK, ↓wp_fldSet, ↓wp_fldAug, ↓wp_var, ↓wp_c, ↓wp_op, ↓wp_un, ↓wp_nil, ↓wp_cons, ↓wp_tup, ↓wp_lst, ↓wp_dict0, ↓wp_dict, ↓wp_pairs0, ↓wp_pairs, ↓wp_call, ↓wp_callF, ↓wp_tru, ↓wp_bl, ↓wp_and, ↓wp_or, ↓wp_not, ↓wp_andV, ↓wp_orV, ↓wp_notV, ↓wp_part, ↓wp_noPart, ↓wp_sl, ↓wp_bm, ↓wp_ifE, ↓wp_fld, ↓wp_meth, ↓wp_make, ↓wp_lockE, ↓wp_rng1, ↓wp_rng2, ↓wp_seqI, ↓wpR_ok, ↓wpS_nx, ↓wpS_rt, List.getElem?_cons_zero, List.getElem?_cons_succ, List.set_cons_zero, List.set_cons_succ, List.length_cons, List.length_nil, ↓reduceIte, decide_eq_true_eq, ev_add, ev_iadd, ev_sub, ev_mod, ev_neg, ev_lt, ev_le, ev_gt, ev_ge, ev_eqI, ev_neI, ev_eqS, ev_neS, ev_isN, ev_int, ev_abs, ev_max, ev_min, ev_lenT, ev_lenC, ev_tupT, Int.reduceLT, Int.reduceLE, Int.reduceNeg, Int.reduceAdd, Int.reduceSub, Int.reduceEq, Nat.reduceAdd, Nat.reduceSub, and_self, ↓List.map_cons, ↓List.map_nil, ↓List.cons_append, ↓List.nil_append, List.replicate, ixT0, ixT1, ixT2, ixT3, ixTm1, ixTm2, ixTm3, onH_get, onH_set, onH_push, onH_len, mkB_get, mkB_set, mkB_push, mkB_len, mkB_next, Option.getD_some, Option.getD_none, sz0, sz1, sz2, sz3, sz4, sz5, sz6, sz7, sz8, sz9, ev_keyI, ev_keyS, ev_eqB, ev_neB, wp_one, wp_yes, wp_valsI, wp_keysI, wp_lcE, ↓wp_runB, insD_at ob (List.mem_singleton.mpr rfl), lk_next, lk_cells, e, insD_at ob2 (List.mem_singleton.mpr rfl), lk_used]
  refine size_of_ok cs c ?_
  simp only [↓wp_seq, ↓wp_skip, ↓wp_drop, ↓wp_ret, ↓wp_retN, ↓wp_brk, ↓wp_cnt, ↓wp_if, ↓wp_asg, ↓wp_to, ↓wp_tos, ↓wp_toIx, ↓wp_aug, ↓wp_augK, ↓wp_fldSet, ↓wp_fldAug, ↓wp_var, ↓wp_c, ↓wp_op, ↓wp_un, ↓wp_nil, ↓wp_cons, ↓wp_tup, ↓wp_lst, ↓wp_dict0, ↓wp_dict, ↓wp_pairs0, ↓wp_pairs, ↓wp_call, ↓wp_callF, ↓wp_tru, ↓wp_bl, ↓wp_and, ↓wp_or, ↓wp_not, ↓wp_andV, ↓wp_orV, ↓wp_notV, ↓wp_part, ↓wp_noPart, ↓wp_sl, ↓wp_bm, ↓wp_ifE, ↓wp_fld, ↓wp_meth, ↓wp_make, ↓wp_lockE, ↓wp_rng1, ↓wp_rng2, ↓wp_seqI, ↓wpR_ok, ↓wpS_nx, ↓wpS_rt, List.getElem?_cons_zero, List.getElem?_cons_succ, List.set_cons_zero, List.set_cons_succ, List.length_cons, List.length_nil, ↓reduceIte, decide_eq_true_eq, ev_add, ev_iadd, ev_sub, ev_mod, ev_neg, ev_lt, ev_le, ev_gt, ev_ge, ev_eqI, ev_neI, ev_eqS, ev_neS, ev_isN, ev_int, ev_abs, ev_max, ev_min, ev_lenT, ev_lenC, ev_tupT, Int.reduceLT, Int.reduceLE, Int.reduceNeg, Int.reduceAdd, Int.reduceSub, Int.reduceEq, Nat.reduceAdd, Nat.reduceSub, and_self, ↓List.map_cons, ↓List.map_nil, ↓List.cons_append, ↓List.nil_append, List.replicate, ixT0, ixT1, ixT2, ixT3, ixTm1, ixTm2, ixTm3, onH_get, onH_set, onH_push, onH_len, mkB_get, mkB_set, mkB_push, mkB_len, mkB_next, Option.getD_some, Option.getD_none, sz0, sz1, sz2, sz3, sz4, sz5, sz6, sz7, sz8, sz9, ev_keyI, ev_keyS, ev_eqB, ev_neB, wp_one, wp_yes, wp_valsI, wp_keysI, wp_lcE, insD_at ob2 (List.mem_singleton.mpr rfl), pt_used, hf_len, insD_set hi, lk_next, pt_next, List.set_set]
  exact k
theorem put_ok {c c0 : Cl} {a : Int} {j : Nat} (ob : h[i]? = some (.ins (cs 0) (hf room used na d))) (ce : h[d]? = some (.dK (kvR rows))) (nd : (keys rows).Nodup) (hj : rows[j]? = some (a, c0)) (hl : rows.length < 1000)
    (k : ∀ v : D, P v ((h.set i (.ins (cs 0) (hf room (used + (cS c - cS c0)) na d))).set d (.dK (kvR (rows.set j (a, c)))))) : wpR (f_Heap_put cs [.ref i, .int a, cD c] h) P X := by
  have g : dIx (.ref d) (.int a) h = .ok (cD c0) h := by
    simp only [dIx, ce, ixKD, keyD, getK_kvR nd (List.mem_of_getElem? hj)]
  have nid : i ≠ d := by
    intro z
    subst z
    rw [ob] at ce
    cases ce
  have ce2 : (h.set i (.ins (cs 0) (hf room (used + (cS c - cS c0)) na d)))[d]? = some (.dK (kvR rows)) := get_other nid ce
  have e : dSet (.ref d) (.int a) (cD c) (h.set i (.ins (cs 0) (hf room (used + (cS c - cS c0)) na d))) = some ((h.set i (.ins (cs 0) (hf room (used + (cS c - cS c0)) na d))).set d (.dK (kvR (rows.set j (a, c))))) := by
    rw [← setK_at nd hj]
    exact dSet_dK ce2 rfl (by rw [kvR_len]; exact Nat.lt_trans hl (by decide))
  have hi : i < h.length := (List.getElem?_eq_some_iff.mp ob).1
  unfold f_Heap_put m_Heap_put
  simp only [↓wp_seq, ↓wp_skip, ↓wp_drop, ↓wp_ret, ↓wp_retN, ↓wp_brk, ↓wp_cnt, ↓wp_if, ↓wp_asg, ↓wp_to, ↓wp_tos, ↓wp_toIx, ↓wp_aug, ↓wp_augK, ↓wp_fldSet, ↓wp_fldAug, ↓wp_var, ↓wp_c, ↓wp_op, ↓wp_un, ↓wp_nil, ↓wp_cons, ↓wp_tup, ↓wp_lst, ↓wp_dict0, ↓wp_dict, ↓wp_pairs0, ↓wp_pairs, ↓wp_call, ↓wp_callF, ↓wp_tru, ↓wp_bl, ↓wp_and, ↓wp_or, ↓wp_not, ↓wp_andV, ↓wp_orV, ↓wp_notV, ↓wp_part, ↓wp_noPart, ↓wp_sl, ↓wp_bm, ↓wp_ifE, ↓wp_fld, ↓wp_meth, ↓wp_make, ↓wp_lockE, ↓wp_rng1, ↓wp_rng2, ↓wp_seqI, ↓wpR_ok, ↓wpS_nx, ↓wpS_rt, List.getElem?_cons_zero, List.getElem?_cons_succ, List.set_cons_zero, List.set_cons_succ, List.length_cons, List.length_nil, ↓reduceIte, decide_eq_true_eq, ev_add, ev_iadd, ev_sub, ev_mod, ev_neg, ev_lt, ev_le, ev_gt, ev_ge, ev_eqI, ev_neI, ev_eqS, ev_neS, ev_isN, ev_int, ev_abs, ev_max, ev_min, ev_lenT, ev_lenC, ev_tupT, Int.reduceLT, Int.reduceLE, Int.reduceNeg, Int.reduceAdd, Int.reduceSub, Int.reduceEq, Nat.reduceAdd, Nat.reduceSub, and_self, ↓List.map_cons, ↓List.map_nil, ↓List.cons_append, ↓List.nil_append, List.replicate, ixT0, ixT1, ixT2, ixT3, ixTm1, ixTm2, ixTm3, onH_get, onH_set, onH_push, onH_len, mkB_get, mkB_set, mkB_push, mkB_len, mkB_next, Option.getD_some, Option.getD_none, sz0, sz1, sz2, sz3, sz4, sz5, sz6, sz7, sz8, sz9, ev_keyI, ev_keyS, ev_eqB, ev_neB, wp_one, wp_yes, wp_valsI, wp_keysI, wp_lcE, ↓wp_runB, insD_at ob (List.mem_singleton.mpr rfl), lk_used]
  refine size_of_ok cs c ?_
  simp only [↓wp_seq, ↓wp_skip, ↓wp_drop, ↓wp_ret, ↓wp_retN, ↓wp_brk, ↓wp_cnt, ↓wp_if, ↓wp_asg, ↓wp_to, ↓wp_tos, ↓wp_toIx, ↓wp_aug, ↓wp_augK, ↓wp_fldSet, ↓wp_fldAug, ↓wp_var, ↓wp_c, ↓wp_op, ↓wp_un, ↓wp_nil, ↓wp_cons, ↓wp_tup, ↓wp_lst, ↓wp_dict0, ↓wp_dict, ↓wp_pairs0, ↓wp_pairs, ↓wp_call, ↓wp_callF, ↓wp_tru, ↓wp_bl, ↓wp_and, ↓wp_or, ↓wp_not, ↓wp_andV, ↓wp_orV, ↓wp_notV, ↓wp_part, ↓wp_noPart, ↓wp_sl, ↓wp_bm, ↓wp_ifE, ↓wp_fld, ↓wp_meth, ↓wp_make, ↓wp_lockE, ↓wp_rng1, ↓wp_rng2, ↓wp_seqI, ↓wpR_ok, ↓wpS_nx, ↓wpS_rt, List.getElem?_cons_zero, List.getElem?_cons_succ, List.set_cons_zero, List.set_cons_succ, List.length_cons, List.length_nil, ↓reduceIte, decide_eq_true_eq, ev_add, ev_iadd, ev_sub, ev_mod, ev_neg, ev_lt, ev_le, ev_gt, ev_ge, ev_eqI, ev_neI, ev_eqS, ev_neS, ev_isN, ev_int, ev_abs, ev_max, ev_min, ev_lenT, ev_lenC, ev_tupT, Int.reduceLT, Int.reduceLE, Int.reduceNeg, Int.reduceAdd, Int.reduceSub, Int.reduceEq, Nat.reduceAdd, Nat.reduceSub, and_self, ↓List.map_cons, ↓List.map_nil, ↓List.cons_append, ↓List.nil_append, List.replicate, ixT0, ixT1, ixT2, ixT3, ixTm1, ixTm2, ixTm3, onH_get, onH_set, onH_push, onH_len, mkB_get, mkB_set, mkB_push, mkB_len, mkB_next, Option.getD_some, Option.getD_none, sz0, sz1, sz2, sz3, sz4, sz5, sz6, sz7, sz8, sz9, ev_keyI, ev_keyS, ev_eqB, ev_neB, wp_one, wp_yes, wp_valsI, wp_keysI, wp_lcE, insD_at ob (List.mem_singleton.mpr rfl), lk_cells, g]
  refine size_of_ok cs c0 ?_
  simp only [↓wp_seq, ↓wp_skip, ↓wp_drop, ↓wp_ret, ↓wp_retN, ↓wp_brk, ↓wp_cnt, ↓wp_if, ↓wp_asg, ↓wp_to, ↓wp_tos, ↓wp_toIx, ↓wp_aug, ↓wp_augK, ↓wp_fldSet, ↓wp_fldAug, ↓wp_var, ↓wp_c, ↓wp_op, ↓wp_un, ↓wp_nil, ↓wp_cons, ↓wp_tup, ↓wp_lst, ↓wp_dict0, ↓wp_dict, ↓wp_pairs0, ↓wp_pairs, ↓wp_call, ↓wp_callF, ↓wp_tru, ↓wp_bl, ↓wp_and, ↓wp_or, ↓wp_not, ↓wp_andV, ↓wp_orV, ↓wp_notV, ↓wp_part, ↓wp_noPart, ↓wp_sl, ↓wp_bm, ↓wp_ifE, ↓wp_fld, ↓wp_meth, ↓wp_make, ↓wp_lockE, ↓wp_rng1, ↓wp_rng2, ↓wp_seqI, ↓wpR_ok, ↓wpS_nx, ↓wpS_rt, List.getElem?_cons_zero, List.getElem?_cons_succ, List.set_cons_zero, List.set_cons_succ, List.length_cons, List.length_nil, ↓reduceIte, decide_eq_true_eq, ev_add, ev_iadd, ev_sub, ev_mod, ev_neg, ev_lt, ev_le, ev_gt, ev_ge, ev_eqI, ev_neI, ev_eqS, ev_neS, ev_isN, ev_int, ev_abs, ev_max, ev_min, ev_lenT, ev_lenC, ev_tupT, Int.reduceLT, Int.reduceLE, Int.reduceNeg, Int.reduceAdd, Int.reduceSub, Int.reduceEq, Nat.reduceAdd, Nat.reduceSub, and_self, ↓List.map_cons, ↓List.map_nil, ↓List.cons_append, ↓List.nil_append, List.replicate, ixT0, ixT1, ixT2, ixT3, ixTm1, ixTm2, ixTm3, onH_get, onH_set, onH_push, onH_len, mkB_get, mkB_set, mkB_push, mkB_len, mkB_next, Option.getD_some, Option.getD_none, sz0, sz1, sz2, sz3, sz4, sz5, sz6, sz7, sz8, sz9, ev_keyI, ev_keyS, ev_eqB, ev_neB, wp_one, wp_yes, wp_valsI, wp_keysI, wp_lcE, insD_at ob (List.mem_singleton.mpr rfl), pt_used, hf_len, insD_set hi, lk_cells, e]
  exact k _
theorem renew_ok {rs : List Row} {p : Nat} {na2 : Int} (ob : h[i]? = some (.ins (cs 0) (hf room used na d))) (hp : h[p]? = some (.dK (kvR rs))) (hl : rs.length < 1000)
    (k : P .non ((h ++ [MO.dK (kvR rs)] ++ [MO.lst ((rs.map fun r => cS r.2).map .int)]).set i (.ins (cs 0) (hf room (sumS rs) na2 h.length)))) : wpR (f_Heap_renew cs [.ref i, .ref p, .int na2] h) P X := by
  have hi : i < h.length := (List.getElem?_eq_some_iff.mp ob).1
  have hip : i ≠ p := by
    intro z
    subst z
    rw [ob] at hp
    cases hp
  have e : dDict [.ref p] h = .ok (.ref h.length) (h ++ [.dK (kvR rs)]) := by simp only [dDict, dictD, hp]
  have hi2 : i < (h ++ [MO.dK (kvR rs)]).length := by rw [List.length_append]; omega
  have hp2 : ((h ++ [MO.dK (kvR rs)]).set i (.ins (cs 0) (hf room used na h.length)))[p]? = some (.dK (kvR rs)) := get_other hip (get_push hp)
  have hpl : p < ((h ++ [MO.dK (kvR rs)]).set i (.ins (cs 0) (hf room used na h.length))).length := (List.getElem?_eq_some_iff.mp hp2).1
  unfold f_Heap_renew m_Heap_renew
  simp only [↓wp_seq, ↓wp_skip, ↓wp_drop, ↓wp_ret, ↓wp_retN, ↓wp_brk, ↓wp_cnt, ↓wp_if, ↓wp_asg, ↓wp_to, ↓wp_tos, ↓wp_toIx, ↓wp_aug, ↓wp_augK, ↓wp_fldSet, ↓wp_fldAug, ↓wp_var, ↓wp_c, ↓wp_op, ↓wp_un, ↓wp_nil, ↓wp_cons, ↓wp_tup, ↓wp_lst, ↓wp_dict0, ↓wp_dict, ↓wp_pairs0, ↓wp_pairs, ↓wp_call, ↓wp_callF, ↓wp_tru, ↓wp_bl, ↓wp_and, ↓wp_or, ↓wp_not, ↓wp_andV, ↓wp_orV, ↓wp_notV, ↓wp_part, ↓wp_noPart, ↓wp_sl, ↓wp_bm, ↓wp_ifE, ↓wp_fld, ↓wp_meth, ↓wp_make, ↓wp_lockE, ↓wp_rng1, ↓wp_rng2, ↓wp_seqI, ↓wpR_ok, ↓wpS_nx, ↓wpS_rt, List.getElem?_cons_zero, List.getElem?_cons_succ, List.set_cons_zero, List.set_cons_succ, List.length_cons, List.length_nil, ↓reduceIte, decide_eq_true_eq, ev_add, ev_iadd, ev_sub, ev_mod, ev_neg, ev_lt, ev_le, ev_gt, ev_ge, ev_eqI, ev_neI, ev_eqS, ev_neS, ev_isN, ev_int, ev_abs, ev_max, ev_min, ev_lenT, ev_lenC, ev_tupT, Int.reduceLT, Int.reduceLE, Int.reduceNeg, Int.reduceAdd, Int.reduceSub, Int.reduceEq, Nat.reduceAdd, Nat.reduceSub, and_self, ↓List.map_cons, ↓List.map_nil, ↓List.cons_append, ↓List.nil_append, List.replicate, ixT0, ixT1, ixT2, ixT3, ixTm1, ixTm2, ixTm3, onH_get, onH_set, onH_push, onH_len, mkB_get, mkB_set, mkB_push, mkB_len, mkB_next, Option.getD_some, Option.getD_none, sz0, sz1, sz2, sz3, sz4, sz5, sz6, sz7, sz8, sz9, ev_keyI, ev_keyS, ev_eqB, ev_neB, wp_one, wp_yes, wp_valsI, wp_keysI, wp_lcE, ↓wp_runB, e, insD_at (get_push ob) (List.mem_singleton.mpr rfl), pt_cells, hf_len, hp2, wipeD, List.foldl]
  refine wp_lcV (kvs := kvR rs) (List.getElem?_set_self hpl) (fun j acc h' => acc = (rs.take j).map (fun r => .int (cS r.2)) ∧ h' = ((h ++ [MO.dK (kvR rs)]).set i (.ins (cs 0) (hf room used na h.length))).set p (.fdK (kvR rs))) ⟨rfl, rfl⟩ ?_ ?_
  · rintro j hj acc h' ⟨rfl, rfl⟩
    have hj2 : j < rs.length := by rw [kvR_len] at hj; exact hj
    simp only [↓wp_seq, ↓wp_skip, ↓wp_drop, ↓wp_ret, ↓wp_retN, ↓wp_brk, ↓wp_cnt, ↓wp_if, ↓wp_asg, ↓wp_to, ↓wp_tos, ↓wp_toIx, ↓wp_aug, ↓wp_augK, ↓wp_fldSet, ↓wp_fldAug, ↓wp_var, ↓wp_c, ↓wp_op, ↓wp_un, ↓wp_nil, ↓wp_cons, ↓wp_tup, ↓wp_lst, ↓wp_dict0, ↓wp_dict, ↓wp_pairs0, ↓wp_pairs, ↓wp_call, ↓wp_callF, ↓wp_tru, ↓wp_bl, ↓wp_and, ↓wp_or, ↓wp_not, ↓wp_andV, ↓wp_orV, ↓wp_notV, ↓wp_part, ↓wp_noPart, ↓wp_sl, ↓wp_bm, ↓wp_ifE, ↓wp_fld, ↓wp_meth, ↓wp_make, ↓wp_lockE, ↓wp_rng1, ↓wp_rng2, ↓wp_seqI, ↓wpR_ok, ↓wpS_nx, ↓wpS_rt, List.getElem?_cons_zero, List.getElem?_cons_succ, List.set_cons_zero, List.set_cons_succ, List.length_cons, List.length_nil, ↓reduceIte, decide_eq_true_eq, ev_add, ev_iadd, ev_sub, ev_mod, ev_neg, ev_lt, ev_le, ev_gt, ev_ge, ev_eqI, ev_neI, ev_eqS, ev_neS, ev_isN, ev_int, ev_abs, ev_max, ev_min, ev_lenT, ev_lenC, ev_tupT, Int.reduceLT, Int.reduceLE, Int.reduceNeg, Int.reduceAdd, Int.reduceSub, Int.reduceEq, Nat.reduceAdd, Nat.reduceSub, and_self, ↓List.map_cons, ↓List.map_nil, ↓List.cons_append, ↓List.nil_append, List.replicate, ixT0, ixT1, ixT2, ixT3, ixTm1, ixTm2, ixTm3, onH_get, onH_set, onH_push, onH_len, mkB_get, mkB_set, mkB_push, mkB_len, mkB_next, Option.getD_some, Option.getD_none, sz0, sz1, sz2, sz3, sz4, sz5, sz6, sz7, sz8, sz9, ev_keyI, ev_keyS, ev_eqB, ev_neB, wp_one, wp_yes, wp_valsI, wp_keysI, wp_lcE]
    have e3 : ((kvR rs)[j]).2 = cD (rs[j]).2 := by simp [kvR]
    rw [e3]
    refine size_of_ok cs _ ⟨?_, ?_, rfl⟩
    · rw [List.length_map, List.length_take]
      exact Nat.lt_of_le_of_lt (Nat.min_le_right _ _) (Nat.lt_trans hl (by decide))
    · rw [List.take_add_one, List.getElem?_eq_getElem hj2, Option.toList_some, List.map_append]
      rfl
  · rintro acc h' ⟨rfl, rfl⟩
    generalize eH : (h ++ [MO.dK (kvR rs)]).set i (.ins (cs 0) (hf room used na h.length)) = H1 at hp2 hpl ⊢
    have eh1 : ∀ l : HS, (H1.set p (.fdK (kvR rs)) ++ l).set p (.dK (kvR rs)) = H1 ++ l := fun l => by
      rw [set_setp hpl, set_self hp2]
    have el : (H1.set p (.fdK (kvR rs))).length = H1.length := List.length_set
    rw [List.take_of_length_le (show rs.length ≤ (kvR rs).length by rw [kvR_len]; exact Nat.le_refl _), eh1, el]
    have es : dSum [.ref H1.length] (H1 ++ [.lst (rs.map fun r => D.int (cS r.2))]) = .ok (.int (sumS rs)) (H1 ++ [.lst (rs.map fun r => D.int (cS r.2))]) := by
      have e0 : (rs.map fun r => D.int (cS r.2)) = (rs.map fun r => cS r.2).map .int := by rw [List.map_map]; rfl
      have e1 : listD (H1 ++ [.lst (rs.map fun r => D.int (cS r.2))]) (.ref H1.length) = some ((rs.map fun r => cS r.2).map .int) := by
        show lstAt _ _ = _
        rw [lst_at, e0]
      simp only [dSum, e1, Option.bind, intsD_map]
      rfl
    have hiH : H1[i]? = some (.ins (cs 0) (hf room used na h.length)) := by rw [← eH]; exact List.getElem?_set_self hi2
    have hiL : i < (H1 ++ [MO.lst (rs.map fun r => D.int (cS r.2))]).length := by
      have := (List.getElem?_eq_some_iff.mp hiH).1
      rw [List.length_append]; omega
    simp only [↓wp_seq, ↓wp_skip, ↓wp_drop, ↓wp_ret, ↓wp_retN, ↓wp_brk, ↓wp_cnt, ↓wp_if, ↓wp_asg, ↓wp_to, ↓wp_tos, ↓wp_toIx, ↓wp_aug, ↓wp_augK, ↓wp_fldSet, ↓wp_fldAug, ↓wp_var, ↓wp_c, ↓wp_op, ↓wp_un, ↓wp_nil, ↓wp_cons, ↓wp_tup, ↓wp_lst, ↓wp_dict0, ↓wp_dict, ↓wp_pairs0, ↓wp_pairs, ↓wp_call, ↓wp_callF, ↓wp_tru, ↓wp_bl, ↓wp_and, ↓wp_or, ↓wp_not, ↓wp_andV, ↓wp_orV, ↓wp_notV, ↓wp_part, ↓wp_noPart, ↓wp_sl, ↓wp_bm, ↓wp_ifE, ↓wp_fld, ↓wp_meth, ↓wp_make, ↓wp_lockE, ↓wp_rng1, ↓wp_rng2, ↓wp_seqI, ↓wpR_ok, ↓wpS_nx, ↓wpS_rt, List.getElem?_cons_zero, List.getElem?_cons_succ, List.set_cons_zero, List.set_cons_succ, List.length_cons, List.length_nil, ↓reduceIte, decide_eq_true_eq, ev_add, ev_iadd, ev_sub, ev_mod, ev_neg, ev_lt, ev_le, ev_gt, ev_ge, ev_eqI, ev_neI, ev_eqS, ev_neS, ev_isN, ev_int, ev_abs, ev_max, ev_min, ev_lenT, ev_lenC, ev_tupT, Int.reduceLT, Int.reduceLE, Int.reduceNeg, Int.reduceAdd, Int.reduceSub, Int.reduceEq, Nat.reduceAdd, Nat.reduceSub, and_self, ↓List.map_cons, ↓List.map_nil, ↓List.cons_append, ↓List.nil_append, List.replicate, ixT0, ixT1, ixT2, ixT3, ixTm1, ixTm2, ixTm3, onH_get, onH_set, onH_push, onH_len, mkB_get, mkB_set, mkB_push, mkB_len, mkB_next, Option.getD_some, Option.getD_none, sz0, sz1, sz2, sz3, sz4, sz5, sz6, sz7, sz8, sz9, ev_keyI, ev_keyS, ev_eqB, ev_neB, wp_one, wp_yes, wp_valsI, wp_keysI, wp_lcE, es, insD_at (get_push hiH) (List.mem_singleton.mpr rfl), pt_used, hf_len, insD_set hiL, pt_next, List.set_set]
    have e0 : (rs.map fun r => D.int (cS r.2)) = (rs.map fun r => cS r.2).map .int := by rw [List.map_map]; rfl
    rw [← eH, set_setp2 hi2, e0]
    exact k
end
/-! ### draws -/
theorem fnx : f_z_next cs = runB 2 m_nextB := rfl
theorem fdr : f_z_draws cs = runB 8 m_drawsB := rfl
section
variable {ds : List Int} {h0 h : HS} {P : D → HS → Prop} {X : XP}
theorem nx {m : Int} (hd : inR 997 ds) (w : Dw ds h0 h) (hm : 0 < m) (k : ∀ (v : Int) (h' : HS), 0 ≤ v → v < m → Dw ds h0 h' → P (.int v) h') : wpR (f_z_next cs [.ref 2, .int m] h) P X := by
  rw [fnx]
  exact w.next hd hm k
theorem z_cell_ok (hd : inR 997 ds) (w : Dw ds h0 h) (k : ∀ (c : Cl) (h' : HS), Dw ds h0 h' → P (cD c) h') : wpR (f_z_cell cs [.ref 2] h) P X := by
  unfold f_z_cell m_z_cell
  simp only [↓wp_seq, ↓wp_skip, ↓wp_drop, ↓wp_ret, ↓wp_retN, ↓wp_brk, ↓wp_cnt, ↓wp_if, ↓wp_asg, ↓wp_to, ↓wp_tos, ↓wp_toIx, ↓wp_aug, ↓wp_augK, ↓wp_fldSet, ↓wp_fldAug, ↓wp_var, ↓wp_c, ↓wp_op, ↓wp_un, ↓wp_nil, ↓wp_cons, ↓wp_tup, ↓wp_lst, ↓wp_dict0, ↓wp_dict, ↓wp_pairs0, ↓wp_pairs, ↓wp_call, ↓wp_callF, ↓wp_tru, ↓wp_bl, ↓wp_and, ↓wp_or, ↓wp_not, ↓wp_andV, ↓wp_orV, ↓wp_notV, ↓wp_part, ↓wp_noPart, ↓wp_sl, ↓wp_bm, ↓wp_ifE, ↓wp_fld, ↓wp_meth, ↓wp_make, ↓wp_lockE, ↓wp_rng1, ↓wp_rng2, ↓wp_seqI, ↓wpR_ok, ↓wpS_nx, ↓wpS_rt, List.getElem?_cons_zero, List.getElem?_cons_succ, List.set_cons_zero, List.set_cons_succ, List.length_cons, List.length_nil, ↓reduceIte, decide_eq_true_eq, ev_add, ev_iadd, ev_sub, ev_mod, ev_neg, ev_lt, ev_le, ev_gt, ev_ge, ev_eqI, ev_neI, ev_eqS, ev_neS, ev_isN, ev_int, ev_abs, ev_max, ev_min, ev_lenT, ev_lenC, ev_tupT, Int.reduceLT, Int.reduceLE, Int.reduceNeg, Int.reduceAdd, Int.reduceSub, Int.reduceEq, Nat.reduceAdd, Nat.reduceSub, and_self, ↓List.map_cons, ↓List.map_nil, ↓List.cons_append, ↓List.nil_append, List.replicate, ixT0, ixT1, ixT2, ixT3, ixTm1, ixTm2, ixTm3, onH_get, onH_set, onH_push, onH_len, mkB_get, mkB_set, mkB_push, mkB_len, mkB_next, Option.getD_some, Option.getD_none, sz0, sz1, sz2, sz3, sz4, sz5, sz6, sz7, sz8, sz9, ev_keyI, ev_keyS, ev_eqB, ev_neB, wp_one, wp_yes, wp_valsI, wp_keysI, wp_lcE, ↓wp_runB, wipeD]
  refine nx cs hd w (by decide) fun v h1 v0 v1 w1 => ?_
  simp only [↓wp_seq, ↓wp_skip, ↓wp_drop, ↓wp_ret, ↓wp_retN, ↓wp_brk, ↓wp_cnt, ↓wp_if, ↓wp_asg, ↓wp_to, ↓wp_tos, ↓wp_toIx, ↓wp_aug, ↓wp_augK, ↓wp_fldSet, ↓wp_fldAug, ↓wp_var, ↓wp_c, ↓wp_op, ↓wp_un, ↓wp_nil, ↓wp_cons, ↓wp_tup, ↓wp_lst, ↓wp_dict0, ↓wp_dict, ↓wp_pairs0, ↓wp_pairs, ↓wp_call, ↓wp_callF, ↓wp_tru, ↓wp_bl, ↓wp_and, ↓wp_or, ↓wp_not, ↓wp_andV, ↓wp_orV, ↓wp_notV, ↓wp_part, ↓wp_noPart, ↓wp_sl, ↓wp_bm, ↓wp_ifE, ↓wp_fld, ↓wp_meth, ↓wp_make, ↓wp_lockE, ↓wp_rng1, ↓wp_rng2, ↓wp_seqI, ↓wpR_ok, ↓wpS_nx, ↓wpS_rt, List.getElem?_cons_zero, List.getElem?_cons_succ, List.set_cons_zero, List.set_cons_succ, List.length_cons, List.length_nil, ↓reduceIte, decide_eq_true_eq, ev_add, ev_iadd, ev_sub, ev_mod, ev_neg, ev_lt, ev_le, ev_gt, ev_ge, ev_eqI, ev_neI, ev_eqS, ev_neS, ev_isN, ev_int, ev_abs, ev_max, ev_min, ev_lenT, ev_lenC, ev_tupT, Int.reduceLT, Int.reduceLE, Int.reduceNeg, Int.reduceAdd, Int.reduceSub, Int.reduceEq, Nat.reduceAdd, Nat.reduceSub, and_self, ↓List.map_cons, ↓List.map_nil, ↓List.cons_append, ↓List.nil_append, List.replicate, ixT0, ixT1, ixT2, ixT3, ixTm1, ixTm2, ixTm3, onH_get, onH_set, onH_push, onH_len, mkB_get, mkB_set, mkB_push, mkB_len, mkB_next, Option.getD_some, Option.getD_none, sz0, sz1, sz2, sz3, sz4, sz5, sz6, sz7, sz8, sz9, ev_keyI, ev_keyS, ev_eqB, ev_neB, wp_one, wp_yes, wp_valsI, wp_keysI, wp_lcE]
  rw [if_pos (by omega)]
  refine wp_lcR (fun j acc h' => ∃ ws : List Int, acc = ws.map .int ∧ ws.length ≤ j ∧ Dw ds h0 h') ⟨[], rfl, Nat.le_refl _, w1⟩ ?_ ?_
  · rintro j hj acc h' ⟨ws, rfl, hl, w2⟩
    simp only [↓wp_seq, ↓wp_skip, ↓wp_drop, ↓wp_ret, ↓wp_retN, ↓wp_brk, ↓wp_cnt, ↓wp_if, ↓wp_asg, ↓wp_to, ↓wp_tos, ↓wp_toIx, ↓wp_aug, ↓wp_augK, ↓wp_fldSet, ↓wp_fldAug, ↓wp_var, ↓wp_c, ↓wp_op, ↓wp_un, ↓wp_nil, ↓wp_cons, ↓wp_tup, ↓wp_lst, ↓wp_dict0, ↓wp_dict, ↓wp_pairs0, ↓wp_pairs, ↓wp_call, ↓wp_callF, ↓wp_tru, ↓wp_bl, ↓wp_and, ↓wp_or, ↓wp_not, ↓wp_andV, ↓wp_orV, ↓wp_notV, ↓wp_part, ↓wp_noPart, ↓wp_sl, ↓wp_bm, ↓wp_ifE, ↓wp_fld, ↓wp_meth, ↓wp_make, ↓wp_lockE, ↓wp_rng1, ↓wp_rng2, ↓wp_seqI, ↓wpR_ok, ↓wpS_nx, ↓wpS_rt, List.getElem?_cons_zero, List.getElem?_cons_succ, List.set_cons_zero, List.set_cons_succ, List.length_cons, List.length_nil, ↓reduceIte, decide_eq_true_eq, ev_add, ev_iadd, ev_sub, ev_mod, ev_neg, ev_lt, ev_le, ev_gt, ev_ge, ev_eqI, ev_neI, ev_eqS, ev_neS, ev_isN, ev_int, ev_abs, ev_max, ev_min, ev_lenT, ev_lenC, ev_tupT, Int.reduceLT, Int.reduceLE, Int.reduceNeg, Int.reduceAdd, Int.reduceSub, Int.reduceEq, Nat.reduceAdd, Nat.reduceSub, and_self, ↓List.map_cons, ↓List.map_nil, ↓List.cons_append, ↓List.nil_append, List.replicate, ixT0, ixT1, ixT2, ixT3, ixTm1, ixTm2, ixTm3, onH_get, onH_set, onH_push, onH_len, mkB_get, mkB_set, mkB_push, mkB_len, mkB_next, Option.getD_some, Option.getD_none, sz0, sz1, sz2, sz3, sz4, sz5, sz6, sz7, sz8, sz9, ev_keyI, ev_keyS, ev_eqB, ev_neB, wp_one, wp_yes, wp_valsI, wp_keysI, wp_lcE]
    refine nx cs hd w2 (by decide) fun u h2 _ _ w3 => ?_
    simp only [↓wp_seq, ↓wp_skip, ↓wp_drop, ↓wp_ret, ↓wp_retN, ↓wp_brk, ↓wp_cnt, ↓wp_if, ↓wp_asg, ↓wp_to, ↓wp_tos, ↓wp_toIx, ↓wp_aug, ↓wp_augK, ↓wp_fldSet, ↓wp_fldAug, ↓wp_var, ↓wp_c, ↓wp_op, ↓wp_un, ↓wp_nil, ↓wp_cons, ↓wp_tup, ↓wp_lst, ↓wp_dict0, ↓wp_dict, ↓wp_pairs0, ↓wp_pairs, ↓wp_call, ↓wp_callF, ↓wp_tru, ↓wp_bl, ↓wp_and, ↓wp_or, ↓wp_not, ↓wp_andV, ↓wp_orV, ↓wp_notV, ↓wp_part, ↓wp_noPart, ↓wp_sl, ↓wp_bm, ↓wp_ifE, ↓wp_fld, ↓wp_meth, ↓wp_make, ↓wp_lockE, ↓wp_rng1, ↓wp_rng2, ↓wp_seqI, ↓wpR_ok, ↓wpS_nx, ↓wpS_rt, List.getElem?_cons_zero, List.getElem?_cons_succ, List.set_cons_zero, List.set_cons_succ, List.length_cons, List.length_nil, ↓reduceIte, decide_eq_true_eq, ev_add, ev_iadd, ev_sub, ev_mod, ev_neg, ev_lt, ev_le, ev_gt, ev_ge, ev_eqI, ev_neI, ev_eqS, ev_neS, ev_isN, ev_int, ev_abs, ev_max, ev_min, ev_lenT, ev_lenC, ev_tupT, Int.reduceLT, Int.reduceLE, Int.reduceNeg, Int.reduceAdd, Int.reduceSub, Int.reduceEq, Nat.reduceAdd, Nat.reduceSub, and_self, ↓List.map_cons, ↓List.map_nil, ↓List.cons_append, ↓List.nil_append, List.replicate, ixT0, ixT1, ixT2, ixT3, ixTm1, ixTm2, ixTm3, onH_get, onH_set, onH_push, onH_len, mkB_get, mkB_set, mkB_push, mkB_len, mkB_next, Option.getD_some, Option.getD_none, sz0, sz1, sz2, sz3, sz4, sz5, sz6, sz7, sz8, sz9, ev_keyI, ev_keyS, ev_eqB, ev_neB, wp_one, wp_yes, wp_valsI, wp_keysI, wp_lcE]
    refine ⟨by rw [List.length_map]; exact Nat.lt_of_le_of_lt hl (Nat.lt_trans (show j < 100 by omega) (by decide)), ws ++ [u - 9], by rw [List.map_append]; rfl, by rw [List.length_append]; exact Nat.succ_le_succ hl, w3⟩
  · rintro acc h' ⟨ws, rfl, hl, w2⟩
    have e : dTuple [.ref h'.length] (h' ++ [.lst (ws.map .int)]) = .ok (.tup (ws.map .int)) (h' ++ [.lst (ws.map .int)]) := ev_tupL (by simp)
    simp only [↓wp_seq, ↓wp_skip, ↓wp_drop, ↓wp_ret, ↓wp_retN, ↓wp_brk, ↓wp_cnt, ↓wp_if, ↓wp_asg, ↓wp_to, ↓wp_tos, ↓wp_toIx, ↓wp_aug, ↓wp_augK, ↓wp_fldSet, ↓wp_fldAug, ↓wp_var, ↓wp_c, ↓wp_op, ↓wp_un, ↓wp_nil, ↓wp_cons, ↓wp_tup, ↓wp_lst, ↓wp_dict0, ↓wp_dict, ↓wp_pairs0, ↓wp_pairs, ↓wp_call, ↓wp_callF, ↓wp_tru, ↓wp_bl, ↓wp_and, ↓wp_or, ↓wp_not, ↓wp_andV, ↓wp_orV, ↓wp_notV, ↓wp_part, ↓wp_noPart, ↓wp_sl, ↓wp_bm, ↓wp_ifE, ↓wp_fld, ↓wp_meth, ↓wp_make, ↓wp_lockE, ↓wp_rng1, ↓wp_rng2, ↓wp_seqI, ↓wpR_ok, ↓wpS_nx, ↓wpS_rt, List.getElem?_cons_zero, List.getElem?_cons_succ, List.set_cons_zero, List.set_cons_succ, List.length_cons, List.length_nil, ↓reduceIte, decide_eq_true_eq, ev_add, ev_iadd, ev_sub, ev_mod, ev_neg, ev_lt, ev_le, ev_gt, ev_ge, ev_eqI, ev_neI, ev_eqS, ev_neS, ev_isN, ev_int, ev_abs, ev_max, ev_min, ev_lenT, ev_lenC, ev_tupT, Int.reduceLT, Int.reduceLE, Int.reduceNeg, Int.reduceAdd, Int.reduceSub, Int.reduceEq, Nat.reduceAdd, Nat.reduceSub, and_self, ↓List.map_cons, ↓List.map_nil, ↓List.cons_append, ↓List.nil_append, List.replicate, ixT0, ixT1, ixT2, ixT3, ixTm1, ixTm2, ixTm3, onH_get, onH_set, onH_push, onH_len, mkB_get, mkB_set, mkB_push, mkB_len, mkB_next, Option.getD_some, Option.getD_none, sz0, sz1, sz2, sz3, sz4, sz5, sz6, sz7, sz8, sz9, ev_keyI, ev_keyS, ev_eqB, ev_neB, wp_one, wp_yes, wp_valsI, wp_keysI, wp_lcE, e]
    refine nx cs hd w2.push (by decide) fun t h3 t0 t1 w3 => ?_
    simp only [↓wp_seq, ↓wp_skip, ↓wp_drop, ↓wp_ret, ↓wp_retN, ↓wp_brk, ↓wp_cnt, ↓wp_if, ↓wp_asg, ↓wp_to, ↓wp_tos, ↓wp_toIx, ↓wp_aug, ↓wp_augK, ↓wp_fldSet, ↓wp_fldAug, ↓wp_var, ↓wp_c, ↓wp_op, ↓wp_un, ↓wp_nil, ↓wp_cons, ↓wp_tup, ↓wp_lst, ↓wp_dict0, ↓wp_dict, ↓wp_pairs0, ↓wp_pairs, ↓wp_call, ↓wp_callF, ↓wp_tru, ↓wp_bl, ↓wp_and, ↓wp_or, ↓wp_not, ↓wp_andV, ↓wp_orV, ↓wp_notV, ↓wp_part, ↓wp_noPart, ↓wp_sl, ↓wp_bm, ↓wp_ifE, ↓wp_fld, ↓wp_meth, ↓wp_make, ↓wp_lockE, ↓wp_rng1, ↓wp_rng2, ↓wp_seqI, ↓wpR_ok, ↓wpS_nx, ↓wpS_rt, List.getElem?_cons_zero, List.getElem?_cons_succ, List.set_cons_zero, List.set_cons_succ, List.length_cons, List.length_nil, ↓reduceIte, decide_eq_true_eq, ev_add, ev_iadd, ev_sub, ev_mod, ev_neg, ev_lt, ev_le, ev_gt, ev_ge, ev_eqI, ev_neI, ev_eqS, ev_neS, ev_isN, ev_int, ev_abs, ev_max, ev_min, ev_lenT, ev_lenC, ev_tupT, Int.reduceLT, Int.reduceLE, Int.reduceNeg, Int.reduceAdd, Int.reduceSub, Int.reduceEq, Nat.reduceAdd, Nat.reduceSub, and_self, ↓List.map_cons, ↓List.map_nil, ↓List.cons_append, ↓List.nil_append, List.replicate, ixT0, ixT1, ixT2, ixT3, ixTm1, ixTm2, ixTm3, onH_get, onH_set, onH_push, onH_len, mkB_get, mkB_set, mkB_push, mkB_len, mkB_next, Option.getD_some, Option.getD_none, sz0, sz1, sz2, sz3, sz4, sz5, sz6, sz7, sz8, sz9, ev_keyI, ev_keyS, ev_eqB, ev_neB, wp_one, wp_yes, wp_valsI, wp_keysI, wp_lcE]
    refine ite2 (fun _ => k .hole _ w3) (fun n0 => ?_)
    refine ite2 (fun _ => ?_) (fun n1 => ?_)
    · refine nx cs hd w3 (by decide) fun u h4 u0 u1 w4 => ?_
      have cm : CMul 2 u := .inl ⟨by decide, by decide⟩
      rw [ev_mul cm]
      simp only [↓wp_seq, ↓wp_skip, ↓wp_drop, ↓wp_ret, ↓wp_retN, ↓wp_brk, ↓wp_cnt, ↓wp_if, ↓wp_asg, ↓wp_to, ↓wp_tos, ↓wp_toIx, ↓wp_aug, ↓wp_augK, ↓wp_fldSet, ↓wp_fldAug, ↓wp_var, ↓wp_c, ↓wp_op, ↓wp_un, ↓wp_nil, ↓wp_cons, ↓wp_tup, ↓wp_lst, ↓wp_dict0, ↓wp_dict, ↓wp_pairs0, ↓wp_pairs, ↓wp_call, ↓wp_callF, ↓wp_tru, ↓wp_bl, ↓wp_and, ↓wp_or, ↓wp_not, ↓wp_andV, ↓wp_orV, ↓wp_notV, ↓wp_part, ↓wp_noPart, ↓wp_sl, ↓wp_bm, ↓wp_ifE, ↓wp_fld, ↓wp_meth, ↓wp_make, ↓wp_lockE, ↓wp_rng1, ↓wp_rng2, ↓wp_seqI, ↓wpR_ok, ↓wpS_nx, ↓wpS_rt, List.getElem?_cons_zero, List.getElem?_cons_succ, List.set_cons_zero, List.set_cons_succ, List.length_cons, List.length_nil, ↓reduceIte, decide_eq_true_eq, ev_add, ev_iadd, ev_sub, ev_mod, ev_neg, ev_lt, ev_le, ev_gt, ev_ge, ev_eqI, ev_neI, ev_eqS, ev_neS, ev_isN, ev_int, ev_abs, ev_max, ev_min, ev_lenT, ev_lenC, ev_tupT, Int.reduceLT, Int.reduceLE, Int.reduceNeg, Int.reduceAdd, Int.reduceSub, Int.reduceEq, Nat.reduceAdd, Nat.reduceSub, and_self, ↓List.map_cons, ↓List.map_nil, ↓List.cons_append, ↓List.nil_append, List.replicate, ixT0, ixT1, ixT2, ixT3, ixTm1, ixTm2, ixTm3, onH_get, onH_set, onH_push, onH_len, mkB_get, mkB_set, mkB_push, mkB_len, mkB_next, Option.getD_some, Option.getD_none, sz0, sz1, sz2, sz3, sz4, sz5, sz6, sz7, sz8, sz9, ev_keyI, ev_keyS, ev_eqB, ev_neB, wp_one, wp_yes, wp_valsI, wp_keysI, wp_lcE]
      exact k (.on _) _ w4
    refine ite2 (fun _ => ?_) (fun n2 => ?_)
    · refine nx cs hd w3 (by decide) fun u h4 u0 u1 w4 => ?_
      refine nx cs hd w4 (by decide) fun s h5 _ _ w5 => ?_
      exact k (.later _ _ _) _ w5
    · have ec : ∃ b, atI [D.str "con", .str "part"] (t - 3) = some (.str (tagC b)) := by
        rcases (by omega : t = 3 ∨ t = 4) with e | e
        · subst e; exact ⟨true, rfl⟩
        · subst e; exact ⟨false, rfl⟩
      obtain ⟨b, ec⟩ := ec
      have g : (h3 ++ [.lst [.str "con", .str "part"]])[h3.length]? = some (.lst [.str "con", .str "part"]) := by simp
      rw [ev_ixL g ec, wpR_ok]
      refine nx cs hd w3.push (by decide) fun u h4 u0 u1 w4 => ?_
      exact k (.con b _ _) _ w4
end
/-! ### the comparison -/
section
variable {h : HS} {i d rp : Nat} {room na : Int} {rows : List Row} {P : D → HS → Prop} {X : XP}
/-- [row[0] for row in rows] -/
theorem lc_keys {s0 s1 s2 s3 s5 s6 s7 s8 : Option D} {Q : List D → HS → Prop} {X2 : XP} (hr : h[rp]? = some (.lst (rows.map rowD))) (hl : rows.length < 64) (k : Q ((keys rows).map .int) h) :
    wpR (itSeq (.ref rp) h) (fun J h => wpR (lcL (.one 4) mYes (mOp dIx (mVar 4) (mC (.int 0))) J [s0, s1, s2, s3, none, s5, s6, s7, s8] J.n 0 [] h) Q X2) X := by
  refine wp_lcS hr (fun j acc h' => acc = ((keys rows).take j).map .int ∧ h' = h) ⟨rfl, rfl⟩ (fun j acc h' q => q.2 ▸ hr) ?_ ?_
  · rintro j hj acc h' ⟨rfl, rfl⟩
    have hj2 : j < rows.length := by rw [List.length_map] at hj; exact hj
    have e : (rows.map rowD)[j] = .tup [.int (rows[j]).1, cD (rows[j]).2] := by rw [List.getElem_map]; rfl
    rw [e]
    simp only [↓wp_seq, ↓wp_skip, ↓wp_drop, ↓wp_ret, ↓wp_retN, ↓wp_brk, ↓wp_cnt, ↓wp_if, ↓wp_asg, ↓wp_to, ↓wp_tos, ↓wp_toIx, ↓wp_aug, ↓wp_augK, ↓wp_fldSet, ↓wp_fldAug, ↓wp_var, ↓wp_c, ↓wp_op, ↓wp_un, ↓wp_nil, ↓wp_cons, ↓wp_tup, ↓wp_lst, ↓wp_dict0, ↓wp_dict, ↓wp_pairs0, ↓wp_pairs, ↓wp_call, ↓wp_callF, ↓wp_tru, ↓wp_bl, ↓wp_and, ↓wp_or, ↓wp_not, ↓wp_andV, ↓wp_orV, ↓wp_notV, ↓wp_part, ↓wp_noPart, ↓wp_sl, ↓wp_bm, ↓wp_ifE, ↓wp_fld, ↓wp_meth, ↓wp_make, ↓wp_lockE, ↓wp_rng1, ↓wp_rng2, ↓wp_seqI, ↓wpR_ok, ↓wpS_nx, ↓wpS_rt, List.getElem?_cons_zero, List.getElem?_cons_succ, List.set_cons_zero, List.set_cons_succ, List.length_cons, List.length_nil, ↓reduceIte, decide_eq_true_eq, ev_add, ev_iadd, ev_sub, ev_mod, ev_neg, ev_lt, ev_le, ev_gt, ev_ge, ev_eqI, ev_neI, ev_eqS, ev_neS, ev_isN, ev_int, ev_abs, ev_max, ev_min, ev_lenT, ev_lenC, ev_tupT, Int.reduceLT, Int.reduceLE, Int.reduceNeg, Int.reduceAdd, Int.reduceSub, Int.reduceEq, Nat.reduceAdd, Nat.reduceSub, and_self, ↓List.map_cons, ↓List.map_nil, ↓List.cons_append, ↓List.nil_append, List.replicate, ixT0, ixT1, ixT2, ixT3, ixTm1, ixTm2, ixTm3, onH_get, onH_set, onH_push, onH_len, mkB_get, mkB_set, mkB_push, mkB_len, mkB_next, Option.getD_some, Option.getD_none, sz0, sz1, sz2, sz3, sz4, sz5, sz6, sz7, sz8, sz9, ev_keyI, ev_keyS, ev_eqB, ev_neB, wp_one, wp_yes, wp_valsI, wp_keysI, wp_lcE]
    refine ⟨?_, ?_, trivial⟩
    · rw [List.length_map, List.length_take]
      exact Nat.lt_of_le_of_lt (Nat.min_le_left _ _) (Nat.lt_trans (show j < 64 by omega) (by decide))
    · rw [List.take_add_one, show (keys rows)[j]? = some (rows[j]).1 by rw [keys, List.getElem?_map, List.getElem?_eq_getElem hj2]; rfl, Option.toList_some, List.map_append]
      rfl
  · rintro acc h' ⟨rfl, rfl⟩
    rw [List.length_map, List.take_of_length_le (by rw [keys, List.length_map]; exact Nat.le_refl _)]
    exact k
/-- [size(row[1]) for row in rows] -/
theorem lc_sizes {s0 s1 s2 s3 s5 s6 s7 s8 : Option D} {Q : List D → HS → Prop} {X2 : XP} (hr : h[rp]? = some (.lst (rows.map rowD))) (hl : rows.length < 64) (k : ∀ l, Q ((rows.map fun r => cS r.2).map .int) (h ++ l)) :
    wpR (itSeq (.ref rp) h) (fun J h => wpR (lcL (.one 4) mYes (mCallF 1 (f_z_size cs) (mCons (mOp dIx (mVar 4) (mC (.int 1))) mNil)) J [s0, s1, s2, s3, none, s5, s6, s7, s8] J.n 0 [] h) Q X2) X := by
  refine wp_lcS hr (fun j acc h' => acc = ((rows.map fun r => cS r.2).take j).map .int ∧ ∃ l, h' = h ++ l) ⟨rfl, [], (List.append_nil _).symm⟩ (fun j acc h' q => by obtain ⟨_, l, rfl⟩ := q; exact get_push hr) ?_ ?_
  · rintro j hj acc h' ⟨rfl, l, rfl⟩
    have hj2 : j < rows.length := by rw [List.length_map] at hj; exact hj
    have e : (rows.map rowD)[j] = .tup [.int (rows[j]).1, cD (rows[j]).2] := by rw [List.getElem_map]; rfl
    rw [e]
    simp only [↓wp_seq, ↓wp_skip, ↓wp_drop, ↓wp_ret, ↓wp_retN, ↓wp_brk, ↓wp_cnt, ↓wp_if, ↓wp_asg, ↓wp_to, ↓wp_tos, ↓wp_toIx, ↓wp_aug, ↓wp_augK, ↓wp_fldSet, ↓wp_fldAug, ↓wp_var, ↓wp_c, ↓wp_op, ↓wp_un, ↓wp_nil, ↓wp_cons, ↓wp_tup, ↓wp_lst, ↓wp_dict0, ↓wp_dict, ↓wp_pairs0, ↓wp_pairs, ↓wp_call, ↓wp_callF, ↓wp_tru, ↓wp_bl, ↓wp_and, ↓wp_or, ↓wp_not, ↓wp_andV, ↓wp_orV, ↓wp_notV, ↓wp_part, ↓wp_noPart, ↓wp_sl, ↓wp_bm, ↓wp_ifE, ↓wp_fld, ↓wp_meth, ↓wp_make, ↓wp_lockE, ↓wp_rng1, ↓wp_rng2, ↓wp_seqI, ↓wpR_ok, ↓wpS_nx, ↓wpS_rt, List.getElem?_cons_zero, List.getElem?_cons_succ, List.set_cons_zero, List.set_cons_succ, List.length_cons, List.length_nil, ↓reduceIte, decide_eq_true_eq, ev_add, ev_iadd, ev_sub, ev_mod, ev_neg, ev_lt, ev_le, ev_gt, ev_ge, ev_eqI, ev_neI, ev_eqS, ev_neS, ev_isN, ev_int, ev_abs, ev_max, ev_min, ev_lenT, ev_lenC, ev_tupT, Int.reduceLT, Int.reduceLE, Int.reduceNeg, Int.reduceAdd, Int.reduceSub, Int.reduceEq, Nat.reduceAdd, Nat.reduceSub, and_self, ↓List.map_cons, ↓List.map_nil, ↓List.cons_append, ↓List.nil_append, List.replicate, ixT0, ixT1, ixT2, ixT3, ixTm1, ixTm2, ixTm3, onH_get, onH_set, onH_push, onH_len, mkB_get, mkB_set, mkB_push, mkB_len, mkB_next, Option.getD_some, Option.getD_none, sz0, sz1, sz2, sz3, sz4, sz5, sz6, sz7, sz8, sz9, ev_keyI, ev_keyS, ev_eqB, ev_neB, wp_one, wp_yes, wp_valsI, wp_keysI, wp_lcE]
    refine z_size_ok cs _ ⟨?_, ?_, ?_⟩
    · rw [List.length_map, List.length_take]
      exact Nat.lt_of_le_of_lt (Nat.min_le_left _ _) (Nat.lt_trans (show j < 64 by omega) (by decide))
    · rw [List.take_add_one, show (rows.map fun r => cS r.2)[j]? = some (cS (rows[j]).2) by rw [List.getElem?_map, List.getElem?_eq_getElem hj2]; rfl, Option.toList_some, List.map_append]
      rfl
    · exact ⟨_, List.append_assoc _ _ _⟩
  · rintro acc h' ⟨rfl, l, rfl⟩
    rw [List.length_map, List.take_of_length_le (by rw [List.length_map]; exact Nat.le_refl _)]
    exact k l
theorem sorted_ints {p : Nat} {ks : List Int} (hp : h[p]? = some (.lst (ks.map .int))) : dSorted [.ref p] h = .ok (.ref h.length) (h ++ [.lst ((sortI ks).map .int)]) := by
  simp only [dSorted, listD, lstAt, hp, Option.bind, intsD_map]
theorem sum_ints {p : Nat} {ks : List Int} (hp : h[p]? = some (.lst (ks.map .int))) : dSum [.ref p] h = .ok (.int ks.sum) h := by
  simp only [dSum, listD, lstAt, hp, Option.bind, intsD_map]
theorem get_last {h : HS} {o : MO} : (h ++ [o])[h.length]? = some o := by simp
theorem agrees_ok (ob : h[i]? = some (.ins (cs 0) (hf room (sumS rows) na d))) (ce : h[d]? = some (.dK (kvR rows))) (hr : h[rp]? = some (.lst (rows.map rowD))) (nd : (keys rows).Nodup) (hl : rows.length < 64)
    (k : ∀ l, P (.bl true) (h ++ l)) : wpR (f_z_agrees cs [.ref i, .ref rp, .int room] h) P X := by
  have hc : cs 0 ∈ [cs 0] := List.mem_singleton.mpr rfl
  have noF : ∀ f : Str, f ≠ "room" → f ≠ "used" → f ≠ "next_address" → f ≠ "_cells" → ((hf room (sumS rows) na d).lookup f).isNone = true := by
    intro f h1 h2 h3 h4
    simp [hf, List.lookup, beq_eq_false_iff_ne.mpr h1, beq_eq_false_iff_ne.mpr h2, beq_eq_false_iff_ne.mpr h3, beq_eq_false_iff_ne.mpr h4]
  have n1 := noF "addresses" (by decide) (by decide) (by decide) (by decide)
  have n2 := noF "cell" (by decide) (by decide) (by decide) (by decide)
  have n3 := noF "fits" (by decide) (by decide) (by decide) (by decide)
  have ob1 : ∀ l, (onH h l)[i]? = some (.ins (cs 0) (hf room (sumS rows) na d)) := fun l => get_push ob
  have ce1 : ∀ l, (onH h l)[d]? = some (.dK (kvR rows)) := fun l => get_push ce
  have hr1 : ∀ l, (onH h l)[rp]? = some (.lst (rows.map rowD)) := fun l => get_push hr
  have ko : ∀ l, P (.bl true) (onH h l) := fun l => k l
  have okS : ((sortI (keys rows)).map D.int).all (okD 1) = true := ints_ok _
  have lS : ((sortI (keys rows)).map D.int).length < sizeLine := by
    rw [List.length_map, (sortI_perm _).length_eq, keys, List.length_map]
    exact Nat.lt_trans hl (by decide)
  rw [← onH_nil h]
  unfold f_z_agrees m_z_agrees
  simp only [↓wp_seq, ↓wp_skip, ↓wp_drop, ↓wp_ret, ↓wp_retN, ↓wp_brk, ↓wp_cnt, ↓wp_if, ↓wp_asg, ↓wp_to, ↓wp_tos, ↓wp_toIx, ↓wp_aug, ↓wp_augK, ↓wp_fldSet, ↓wp_fldAug, ↓wp_var, ↓wp_c, ↓wp_op, ↓wp_un, ↓wp_nil, ↓wp_cons, ↓wp_tup, ↓wp_lst, ↓wp_dict0, ↓wp_dict, ↓wp_pairs0, ↓wp_pairs, ↓wp_call, ↓wp_callF, ↓wp_tru, ↓wp_bl, ↓wp_and, ↓wp_or, ↓wp_not, ↓wp_andV, ↓wp_orV, ↓wp_notV, ↓wp_part, ↓wp_noPart, ↓wp_sl, ↓wp_bm, ↓wp_ifE, ↓wp_fld, ↓wp_meth, ↓wp_make, ↓wp_lockE, ↓wp_rng1, ↓wp_rng2, ↓wp_seqI, ↓wpR_ok, ↓wpS_nx, ↓wpS_rt, List.getElem?_cons_zero, List.getElem?_cons_succ, List.set_cons_zero, List.set_cons_succ, List.length_cons, List.length_nil, ↓reduceIte, decide_eq_true_eq, ev_add, ev_iadd, ev_sub, ev_mod, ev_neg, ev_lt, ev_le, ev_gt, ev_ge, ev_eqI, ev_neI, ev_eqS, ev_neS, ev_isN, ev_int, ev_abs, ev_max, ev_min, ev_lenT, ev_lenC, ev_tupT, Int.reduceLT, Int.reduceLE, Int.reduceNeg, Int.reduceAdd, Int.reduceSub, Int.reduceEq, Nat.reduceAdd, Nat.reduceSub, and_self, ↓List.map_cons, ↓List.map_nil, ↓List.cons_append, ↓List.nil_append, List.replicate, ixT0, ixT1, ixT2, ixT3, ixTm1, ixTm2, ixTm3, onH_get, onH_set, onH_push, onH_len, mkB_get, mkB_set, mkB_push, mkB_len, mkB_next, Option.getD_some, Option.getD_none, sz0, sz1, sz2, sz3, sz4, sz5, sz6, sz7, sz8, sz9, ev_keyI, ev_keyS, ev_eqB, ev_neB, wp_one, wp_yes, wp_valsI, wp_keysI, wp_lcE, ↓wp_runB, insD_at (ob1 _) hc, n1, wipeD]
  refine addresses_ok cs (ob1 _) (ce1 _) hl ?_
  simp only [↓wp_seq, ↓wp_skip, ↓wp_drop, ↓wp_ret, ↓wp_retN, ↓wp_brk, ↓wp_cnt, ↓wp_if, ↓wp_asg, ↓wp_to, ↓wp_tos, ↓wp_toIx, ↓wp_aug, ↓wp_augK, ↓wp_fldSet, ↓wp_fldAug, ↓wp_var, ↓wp_c, ↓wp_op, ↓wp_un, ↓wp_nil, ↓wp_cons, ↓wp_tup, ↓wp_lst, ↓wp_dict0, ↓wp_dict, ↓wp_pairs0, ↓wp_pairs, ↓wp_call, ↓wp_callF, ↓wp_tru, ↓wp_bl, ↓wp_and, ↓wp_or, ↓wp_not, ↓wp_andV, ↓wp_orV, ↓wp_notV, ↓wp_part, ↓wp_noPart, ↓wp_sl, ↓wp_bm, ↓wp_ifE, ↓wp_fld, ↓wp_meth, ↓wp_make, ↓wp_lockE, ↓wp_rng1, ↓wp_rng2, ↓wp_seqI, ↓wpR_ok, ↓wpS_nx, ↓wpS_rt, List.getElem?_cons_zero, List.getElem?_cons_succ, List.set_cons_zero, List.set_cons_succ, List.length_cons, List.length_nil, ↓reduceIte, decide_eq_true_eq, ev_add, ev_iadd, ev_sub, ev_mod, ev_neg, ev_lt, ev_le, ev_gt, ev_ge, ev_eqI, ev_neI, ev_eqS, ev_neS, ev_isN, ev_int, ev_abs, ev_max, ev_min, ev_lenT, ev_lenC, ev_tupT, Int.reduceLT, Int.reduceLE, Int.reduceNeg, Int.reduceAdd, Int.reduceSub, Int.reduceEq, Nat.reduceAdd, Nat.reduceSub, and_self, ↓List.map_cons, ↓List.map_nil, ↓List.cons_append, ↓List.nil_append, List.replicate, ixT0, ixT1, ixT2, ixT3, ixTm1, ixTm2, ixTm3, onH_get, onH_set, onH_push, onH_len, mkB_get, mkB_set, mkB_push, mkB_len, mkB_next, Option.getD_some, Option.getD_none, sz0, sz1, sz2, sz3, sz4, sz5, sz6, sz7, sz8, sz9, ev_keyI, ev_keyS, ev_eqB, ev_neB, wp_one, wp_yes, wp_valsI, wp_keysI, wp_lcE]
  refine lc_keys (hr1 _) hl ?_
  simp only [↓wp_seq, ↓wp_skip, ↓wp_drop, ↓wp_ret, ↓wp_retN, ↓wp_brk, ↓wp_cnt, ↓wp_if, ↓wp_asg, ↓wp_to, ↓wp_tos, ↓wp_toIx, ↓wp_aug, ↓wp_augK, ↓wp_fldSet, ↓wp_fldAug, ↓wp_var, ↓wp_c, ↓wp_op, ↓wp_un, ↓wp_nil, ↓wp_cons, ↓wp_tup, ↓wp_lst, ↓wp_dict0, ↓wp_dict, ↓wp_pairs0, ↓wp_pairs, ↓wp_call, ↓wp_callF, ↓wp_tru, ↓wp_bl, ↓wp_and, ↓wp_or, ↓wp_not, ↓wp_andV, ↓wp_orV, ↓wp_notV, ↓wp_part, ↓wp_noPart, ↓wp_sl, ↓wp_bm, ↓wp_ifE, ↓wp_fld, ↓wp_meth, ↓wp_make, ↓wp_lockE, ↓wp_rng1, ↓wp_rng2, ↓wp_seqI, ↓wpR_ok, ↓wpS_nx, ↓wpS_rt, List.getElem?_cons_zero, List.getElem?_cons_succ, List.set_cons_zero, List.set_cons_succ, List.length_cons, List.length_nil, ↓reduceIte, decide_eq_true_eq, ev_add, ev_iadd, ev_sub, ev_mod, ev_neg, ev_lt, ev_le, ev_gt, ev_ge, ev_eqI, ev_neI, ev_eqS, ev_neS, ev_isN, ev_int, ev_abs, ev_max, ev_min, ev_lenT, ev_lenC, ev_tupT, Int.reduceLT, Int.reduceLE, Int.reduceNeg, Int.reduceAdd, Int.reduceSub, Int.reduceEq, Nat.reduceAdd, Nat.reduceSub, and_self, ↓List.map_cons, ↓List.map_nil, ↓List.cons_append, ↓List.nil_append, List.replicate, ixT0, ixT1, ixT2, ixT3, ixTm1, ixTm2, ixTm3, onH_get, onH_set, onH_push, onH_len, mkB_get, mkB_set, mkB_push, mkB_len, mkB_next, Option.getD_some, Option.getD_none, sz0, sz1, sz2, sz3, sz4, sz5, sz6, sz7, sz8, sz9, ev_keyI, ev_keyS, ev_eqB, ev_neB, wp_one, wp_yes, wp_valsI, wp_keysI, wp_lcE]
  rw [sorted_ints (ks := keys rows) (by rw [onH_get]; rfl)]
  simp only [↓wp_seq, ↓wp_skip, ↓wp_drop, ↓wp_ret, ↓wp_retN, ↓wp_brk, ↓wp_cnt, ↓wp_if, ↓wp_asg, ↓wp_to, ↓wp_tos, ↓wp_toIx, ↓wp_aug, ↓wp_augK, ↓wp_fldSet, ↓wp_fldAug, ↓wp_var, ↓wp_c, ↓wp_op, ↓wp_un, ↓wp_nil, ↓wp_cons, ↓wp_tup, ↓wp_lst, ↓wp_dict0, ↓wp_dict, ↓wp_pairs0, ↓wp_pairs, ↓wp_call, ↓wp_callF, ↓wp_tru, ↓wp_bl, ↓wp_and, ↓wp_or, ↓wp_not, ↓wp_andV, ↓wp_orV, ↓wp_notV, ↓wp_part, ↓wp_noPart, ↓wp_sl, ↓wp_bm, ↓wp_ifE, ↓wp_fld, ↓wp_meth, ↓wp_make, ↓wp_lockE, ↓wp_rng1, ↓wp_rng2, ↓wp_seqI, ↓wpR_ok, ↓wpS_nx, ↓wpS_rt, List.getElem?_cons_zero, List.getElem?_cons_succ, List.set_cons_zero, List.set_cons_succ, List.length_cons, List.length_nil, ↓reduceIte, decide_eq_true_eq, ev_add, ev_iadd, ev_sub, ev_mod, ev_neg, ev_lt, ev_le, ev_gt, ev_ge, ev_eqI, ev_neI, ev_eqS, ev_neS, ev_isN, ev_int, ev_abs, ev_max, ev_min, ev_lenT, ev_lenC, ev_tupT, Int.reduceLT, Int.reduceLE, Int.reduceNeg, Int.reduceAdd, Int.reduceSub, Int.reduceEq, Nat.reduceAdd, Nat.reduceSub, and_self, ↓List.map_cons, ↓List.map_nil, ↓List.cons_append, ↓List.nil_append, List.replicate, ixT0, ixT1, ixT2, ixT3, ixTm1, ixTm2, ixTm3, onH_get, onH_set, onH_push, onH_len, mkB_get, mkB_set, mkB_push, mkB_len, mkB_next, Option.getD_some, Option.getD_none, sz0, sz1, sz2, sz3, sz4, sz5, sz6, sz7, sz8, sz9, ev_keyI, ev_keyS, ev_eqB, ev_neB, wp_one, wp_yes, wp_valsI, wp_keysI, wp_lcE]
  rw [dNe_lst (ds := (sortI (keys rows)).map D.int) (by rw [onH_get]; rfl) (by rw [onH_get]; rfl) okS (by decide)]
  simp only [↓wp_seq, ↓wp_skip, ↓wp_drop, ↓wp_ret, ↓wp_retN, ↓wp_brk, ↓wp_cnt, ↓wp_if, ↓wp_asg, ↓wp_to, ↓wp_tos, ↓wp_toIx, ↓wp_aug, ↓wp_augK, ↓wp_fldSet, ↓wp_fldAug, ↓wp_var, ↓wp_c, ↓wp_op, ↓wp_un, ↓wp_nil, ↓wp_cons, ↓wp_tup, ↓wp_lst, ↓wp_dict0, ↓wp_dict, ↓wp_pairs0, ↓wp_pairs, ↓wp_call, ↓wp_callF, ↓wp_tru, ↓wp_bl, ↓wp_and, ↓wp_or, ↓wp_not, ↓wp_andV, ↓wp_orV, ↓wp_notV, ↓wp_part, ↓wp_noPart, ↓wp_sl, ↓wp_bm, ↓wp_ifE, ↓wp_fld, ↓wp_meth, ↓wp_make, ↓wp_lockE, ↓wp_rng1, ↓wp_rng2, ↓wp_seqI, ↓wpR_ok, ↓wpS_nx, ↓wpS_rt, List.getElem?_cons_zero, List.getElem?_cons_succ, List.set_cons_zero, List.set_cons_succ, List.length_cons, List.length_nil, ↓reduceIte, decide_eq_true_eq, ev_add, ev_iadd, ev_sub, ev_mod, ev_neg, ev_lt, ev_le, ev_gt, ev_ge, ev_eqI, ev_neI, ev_eqS, ev_neS, ev_isN, ev_int, ev_abs, ev_max, ev_min, ev_lenT, ev_lenC, ev_tupT, Int.reduceLT, Int.reduceLE, Int.reduceNeg, Int.reduceAdd, Int.reduceSub, Int.reduceEq, Nat.reduceAdd, Nat.reduceSub, and_self, ↓List.map_cons, ↓List.map_nil, ↓List.cons_append, ↓List.nil_append, List.replicate, ixT0, ixT1, ixT2, ixT3, ixTm1, ixTm2, ixTm3, onH_get, onH_set, onH_push, onH_len, mkB_get, mkB_set, mkB_push, mkB_len, mkB_next, Option.getD_some, Option.getD_none, sz0, sz1, sz2, sz3, sz4, sz5, sz6, sz7, sz8, sz9, ev_keyI, ev_keyS, ev_eqB, ev_neB, wp_one, wp_yes, wp_valsI, wp_keysI, wp_lcE, Bool.false_eq_true, insD_at (ob1 _) hc, lk_room, decide_true, Bool.not_true]
  rw [if_pos (ev_tyL (ds := (sortI (keys rows)).map D.int) (by rw [onH_get]; rfl)), ev_app (ds := (sortI (keys rows)).map D.int) (by rw [onH_get]; rfl) lS, onH_set]
  simp only [↓wp_seq, ↓wp_skip, ↓wp_drop, ↓wp_ret, ↓wp_retN, ↓wp_brk, ↓wp_cnt, ↓wp_if, ↓wp_asg, ↓wp_to, ↓wp_tos, ↓wp_toIx, ↓wp_aug, ↓wp_augK, ↓wp_fldSet, ↓wp_fldAug, ↓wp_var, ↓wp_c, ↓wp_op, ↓wp_un, ↓wp_nil, ↓wp_cons, ↓wp_tup, ↓wp_lst, ↓wp_dict0, ↓wp_dict, ↓wp_pairs0, ↓wp_pairs, ↓wp_call, ↓wp_callF, ↓wp_tru, ↓wp_bl, ↓wp_and, ↓wp_or, ↓wp_not, ↓wp_andV, ↓wp_orV, ↓wp_notV, ↓wp_part, ↓wp_noPart, ↓wp_sl, ↓wp_bm, ↓wp_ifE, ↓wp_fld, ↓wp_meth, ↓wp_make, ↓wp_lockE, ↓wp_rng1, ↓wp_rng2, ↓wp_seqI, ↓wpR_ok, ↓wpS_nx, ↓wpS_rt, List.getElem?_cons_zero, List.getElem?_cons_succ, List.set_cons_zero, List.set_cons_succ, List.length_cons, List.length_nil, ↓reduceIte, decide_eq_true_eq, ev_add, ev_iadd, ev_sub, ev_mod, ev_neg, ev_lt, ev_le, ev_gt, ev_ge, ev_eqI, ev_neI, ev_eqS, ev_neS, ev_isN, ev_int, ev_abs, ev_max, ev_min, ev_lenT, ev_lenC, ev_tupT, Int.reduceLT, Int.reduceLE, Int.reduceNeg, Int.reduceAdd, Int.reduceSub, Int.reduceEq, Nat.reduceAdd, Nat.reduceSub, and_self, ↓List.map_cons, ↓List.map_nil, ↓List.cons_append, ↓List.nil_append, List.replicate, ixT0, ixT1, ixT2, ixT3, ixTm1, ixTm2, ixTm3, onH_get, onH_set, onH_push, onH_len, mkB_get, mkB_set, mkB_push, mkB_len, mkB_next, Option.getD_some, Option.getD_none, sz0, sz1, sz2, sz3, sz4, sz5, sz6, sz7, sz8, sz9, ev_keyI, ev_keyS, ev_eqB, ev_neB, wp_one, wp_yes, wp_valsI, wp_keysI, wp_lcE]
  refine lc_sizes cs (hr1 _) hl fun l => ?_
  rw [sum_ints (ks := rows.map fun r => cS r.2) get_last, onH_push, onH_push, wpR_ok]
  generalize (_ ++ l) ++ [MO.lst ((rows.map fun r => cS r.2).map D.int)] = L
  rw [show (rows.map fun r => cS r.2).sum = sumS rows from rfl]
  simp only [↓wp_seq, ↓wp_skip, ↓wp_drop, ↓wp_ret, ↓wp_retN, ↓wp_brk, ↓wp_cnt, ↓wp_if, ↓wp_asg, ↓wp_to, ↓wp_tos, ↓wp_toIx, ↓wp_aug, ↓wp_augK, ↓wp_fldSet, ↓wp_fldAug, ↓wp_var, ↓wp_c, ↓wp_op, ↓wp_un, ↓wp_nil, ↓wp_cons, ↓wp_tup, ↓wp_lst, ↓wp_dict0, ↓wp_dict, ↓wp_pairs0, ↓wp_pairs, ↓wp_call, ↓wp_callF, ↓wp_tru, ↓wp_bl, ↓wp_and, ↓wp_or, ↓wp_not, ↓wp_andV, ↓wp_orV, ↓wp_notV, ↓wp_part, ↓wp_noPart, ↓wp_sl, ↓wp_bm, ↓wp_ifE, ↓wp_fld, ↓wp_meth, ↓wp_make, ↓wp_lockE, ↓wp_rng1, ↓wp_rng2, ↓wp_seqI, ↓wpR_ok, ↓wpS_nx, ↓wpS_rt, List.getElem?_cons_zero, List.getElem?_cons_succ, List.set_cons_zero, List.set_cons_succ, List.length_cons, List.length_nil, ↓reduceIte, decide_eq_true_eq, ev_add, ev_iadd, ev_sub, ev_mod, ev_neg, ev_lt, ev_le, ev_gt, ev_ge, ev_eqI, ev_neI, ev_eqS, ev_neS, ev_isN, ev_int, ev_abs, ev_max, ev_min, ev_lenT, ev_lenC, ev_tupT, Int.reduceLT, Int.reduceLE, Int.reduceNeg, Int.reduceAdd, Int.reduceSub, Int.reduceEq, Nat.reduceAdd, Nat.reduceSub, and_self, ↓List.map_cons, ↓List.map_nil, ↓List.cons_append, ↓List.nil_append, List.replicate, ixT0, ixT1, ixT2, ixT3, ixTm1, ixTm2, ixTm3, onH_get, onH_set, onH_push, onH_len, mkB_get, mkB_set, mkB_push, mkB_len, mkB_next, Option.getD_some, Option.getD_none, sz0, sz1, sz2, sz3, sz4, sz5, sz6, sz7, sz8, sz9, ev_keyI, ev_keyS, ev_eqB, ev_neB, wp_one, wp_yes, wp_valsI, wp_keysI, wp_lcE, Bool.false_eq_true, insD_at (ob1 _) hc, lk_used, decide_true, Bool.not_true, n1]
  refine addresses_ok cs (ob1 _) (ce1 _) hl ?_
  rw [onH_push, onH_len]
  refine lc_keys (hr1 _) hl ?_
  rw [sorted_ints (ks := keys rows) get_last, onH_push, onH_push, onH_len, wpR_ok, dNe_lst (ds := (sortI (keys rows)).map D.int) (by rw [onH_get]; simp) (by rw [onH_get]; simp) okS (by decide)]
  generalize (L ++ _ ++ _ ++ _) = L2
  simp only [↓wp_seq, ↓wp_skip, ↓wp_drop, ↓wp_ret, ↓wp_retN, ↓wp_brk, ↓wp_cnt, ↓wp_if, ↓wp_asg, ↓wp_to, ↓wp_tos, ↓wp_toIx, ↓wp_aug, ↓wp_augK, ↓wp_fldSet, ↓wp_fldAug, ↓wp_var, ↓wp_c, ↓wp_op, ↓wp_un, ↓wp_nil, ↓wp_cons, ↓wp_tup, ↓wp_lst, ↓wp_dict0, ↓wp_dict, ↓wp_pairs0, ↓wp_pairs, ↓wp_call, ↓wp_callF, ↓wp_tru, ↓wp_bl, ↓wp_and, ↓wp_or, ↓wp_not, ↓wp_andV, ↓wp_orV, ↓wp_notV, ↓wp_part, ↓wp_noPart, ↓wp_sl, ↓wp_bm, ↓wp_ifE, ↓wp_fld, ↓wp_meth, ↓wp_make, ↓wp_lockE, ↓wp_rng1, ↓wp_rng2, ↓wp_seqI, ↓wpR_ok, ↓wpS_nx, ↓wpS_rt, List.getElem?_cons_zero, List.getElem?_cons_succ, List.set_cons_zero, List.set_cons_succ, List.length_cons, List.length_nil, ↓reduceIte, decide_eq_true_eq, ev_add, ev_iadd, ev_sub, ev_mod, ev_neg, ev_lt, ev_le, ev_gt, ev_ge, ev_eqI, ev_neI, ev_eqS, ev_neS, ev_isN, ev_int, ev_abs, ev_max, ev_min, ev_lenT, ev_lenC, ev_tupT, Int.reduceLT, Int.reduceLE, Int.reduceNeg, Int.reduceAdd, Int.reduceSub, Int.reduceEq, Nat.reduceAdd, Nat.reduceSub, and_self, ↓List.map_cons, ↓List.map_nil, ↓List.cons_append, ↓List.nil_append, List.replicate, ixT0, ixT1, ixT2, ixT3, ixTm1, ixTm2, ixTm3, onH_get, onH_set, onH_push, onH_len, mkB_get, mkB_set, mkB_push, mkB_len, mkB_next, Option.getD_some, Option.getD_none, sz0, sz1, sz2, sz3, sz4, sz5, sz6, sz7, sz8, sz9, ev_keyI, ev_keyS, ev_eqB, ev_neB, wp_one, wp_yes, wp_valsI, wp_keysI, wp_lcE, Bool.false_eq_true, ↓wp_forE]
  refine wp_forS (hr1 _) (fun j σ h' => ∃ s6 s7 : Option D, σ = [some (.ref i), some (.ref rp), some (.int room), some (.ref (h.length + 0)), none, some (.int (sumS rows)), s6, s7, none] ∧ h' = onH h L2) ⟨_, _, rfl, rfl⟩ (fun j σ h' q => by obtain ⟨_, _, _, rfl⟩ := q; exact hr1 _) ?_ ?_
  · rintro j hj σ h' ⟨s6, s7, rfl, rfl⟩
    have hj2 : j < rows.length := by rw [List.length_map] at hj; exact hj
    have e : (rows.map rowD)[j] = .tup [.int (rows[j]).1, cD (rows[j]).2] := by rw [List.getElem_map]; rfl
    rw [e]
    unfold m_z_agrees_b1
    simp only [↓wp_seq, ↓wp_skip, ↓wp_drop, ↓wp_ret, ↓wp_retN, ↓wp_brk, ↓wp_cnt, ↓wp_if, ↓wp_asg, ↓wp_to, ↓wp_tos, ↓wp_toIx, ↓wp_aug, ↓wp_augK, ↓wp_fldSet, ↓wp_fldAug, ↓wp_var, ↓wp_c, ↓wp_op, ↓wp_un, ↓wp_nil, ↓wp_cons, ↓wp_tup, ↓wp_lst, ↓wp_dict0, ↓wp_dict, ↓wp_pairs0, ↓wp_pairs, ↓wp_call, ↓wp_callF, ↓wp_tru, ↓wp_bl, ↓wp_and, ↓wp_or, ↓wp_not, ↓wp_andV, ↓wp_orV, ↓wp_notV, ↓wp_part, ↓wp_noPart, ↓wp_sl, ↓wp_bm, ↓wp_ifE, ↓wp_fld, ↓wp_meth, ↓wp_make, ↓wp_lockE, ↓wp_rng1, ↓wp_rng2, ↓wp_seqI, ↓wpR_ok, ↓wpS_nx, ↓wpS_rt, List.getElem?_cons_zero, List.getElem?_cons_succ, List.set_cons_zero, List.set_cons_succ, List.length_cons, List.length_nil, ↓reduceIte, decide_eq_true_eq, ev_add, ev_iadd, ev_sub, ev_mod, ev_neg, ev_lt, ev_le, ev_gt, ev_ge, ev_eqI, ev_neI, ev_eqS, ev_neS, ev_isN, ev_int, ev_abs, ev_max, ev_min, ev_lenT, ev_lenC, ev_tupT, Int.reduceLT, Int.reduceLE, Int.reduceNeg, Int.reduceAdd, Int.reduceSub, Int.reduceEq, Nat.reduceAdd, Nat.reduceSub, and_self, ↓List.map_cons, ↓List.map_nil, ↓List.cons_append, ↓List.nil_append, List.replicate, ixT0, ixT1, ixT2, ixT3, ixTm1, ixTm2, ixTm3, onH_get, onH_set, onH_push, onH_len, mkB_get, mkB_set, mkB_push, mkB_len, mkB_next, Option.getD_some, Option.getD_none, sz0, sz1, sz2, sz3, sz4, sz5, sz6, sz7, sz8, sz9, ev_keyI, ev_keyS, ev_eqB, ev_neB, wp_one, wp_yes, wp_valsI, wp_keysI, wp_lcE, setAll, insD_at (ob1 _) hc, n2]
    refine cell_ok cs (c := (rows[j]).2) (ob1 _) (ce1 _) nd (show ((rows[j]).1, (rows[j]).2) ∈ rows from List.getElem_mem hj2) ?_
    have eq : dNe (cD (rows[j]).2) (cD (rows[j]).2) (onH h L2) = .ok (.bl false) (onH h L2) := by
      have q := cD_ok (rows[j]).2
      cases e2 : (rows[j]).2 <;> rw [e2] at q <;> exact dNe_tup (n := 4) q (by decide)
    simp only [↓wp_seq, ↓wp_skip, ↓wp_drop, ↓wp_ret, ↓wp_retN, ↓wp_brk, ↓wp_cnt, ↓wp_if, ↓wp_asg, ↓wp_to, ↓wp_tos, ↓wp_toIx, ↓wp_aug, ↓wp_augK, ↓wp_fldSet, ↓wp_fldAug, ↓wp_var, ↓wp_c, ↓wp_op, ↓wp_un, ↓wp_nil, ↓wp_cons, ↓wp_tup, ↓wp_lst, ↓wp_dict0, ↓wp_dict, ↓wp_pairs0, ↓wp_pairs, ↓wp_call, ↓wp_callF, ↓wp_tru, ↓wp_bl, ↓wp_and, ↓wp_or, ↓wp_not, ↓wp_andV, ↓wp_orV, ↓wp_notV, ↓wp_part, ↓wp_noPart, ↓wp_sl, ↓wp_bm, ↓wp_ifE, ↓wp_fld, ↓wp_meth, ↓wp_make, ↓wp_lockE, ↓wp_rng1, ↓wp_rng2, ↓wp_seqI, ↓wpR_ok, ↓wpS_nx, ↓wpS_rt, List.getElem?_cons_zero, List.getElem?_cons_succ, List.set_cons_zero, List.set_cons_succ, List.length_cons, List.length_nil, ↓reduceIte, decide_eq_true_eq, ev_add, ev_iadd, ev_sub, ev_mod, ev_neg, ev_lt, ev_le, ev_gt, ev_ge, ev_eqI, ev_neI, ev_eqS, ev_neS, ev_isN, ev_int, ev_abs, ev_max, ev_min, ev_lenT, ev_lenC, ev_tupT, Int.reduceLT, Int.reduceLE, Int.reduceNeg, Int.reduceAdd, Int.reduceSub, Int.reduceEq, Nat.reduceAdd, Nat.reduceSub, and_self, ↓List.map_cons, ↓List.map_nil, ↓List.cons_append, ↓List.nil_append, List.replicate, ixT0, ixT1, ixT2, ixT3, ixTm1, ixTm2, ixTm3, onH_get, onH_set, onH_push, onH_len, mkB_get, mkB_set, mkB_push, mkB_len, mkB_next, Option.getD_some, Option.getD_none, sz0, sz1, sz2, sz3, sz4, sz5, sz6, sz7, sz8, sz9, ev_keyI, ev_keyS, ev_eqB, ev_neB, wp_one, wp_yes, wp_valsI, wp_keysI, wp_lcE, eq, Bool.false_eq_true]
    exact ⟨_, _, rfl, trivial⟩
  · rintro σ h' ⟨s6, s7, rfl, rfl⟩
    unfold m_z_agrees_r4
    simp only [↓wp_seq, ↓wp_skip, ↓wp_drop, ↓wp_ret, ↓wp_retN, ↓wp_brk, ↓wp_cnt, ↓wp_if, ↓wp_asg, ↓wp_to, ↓wp_tos, ↓wp_toIx, ↓wp_aug, ↓wp_augK, ↓wp_fldSet, ↓wp_fldAug, ↓wp_var, ↓wp_c, ↓wp_op, ↓wp_un, ↓wp_nil, ↓wp_cons, ↓wp_tup, ↓wp_lst, ↓wp_dict0, ↓wp_dict, ↓wp_pairs0, ↓wp_pairs, ↓wp_call, ↓wp_callF, ↓wp_tru, ↓wp_bl, ↓wp_and, ↓wp_or, ↓wp_not, ↓wp_andV, ↓wp_orV, ↓wp_notV, ↓wp_part, ↓wp_noPart, ↓wp_sl, ↓wp_bm, ↓wp_ifE, ↓wp_fld, ↓wp_meth, ↓wp_make, ↓wp_lockE, ↓wp_rng1, ↓wp_rng2, ↓wp_seqI, ↓wpR_ok, ↓wpS_nx, ↓wpS_rt, List.getElem?_cons_zero, List.getElem?_cons_succ, List.set_cons_zero, List.set_cons_succ, List.length_cons, List.length_nil, ↓reduceIte, decide_eq_true_eq, ev_add, ev_iadd, ev_sub, ev_mod, ev_neg, ev_lt, ev_le, ev_gt, ev_ge, ev_eqI, ev_neI, ev_eqS, ev_neS, ev_isN, ev_int, ev_abs, ev_max, ev_min, ev_lenT, ev_lenC, ev_tupT, Int.reduceLT, Int.reduceLE, Int.reduceNeg, Int.reduceAdd, Int.reduceSub, Int.reduceEq, Nat.reduceAdd, Nat.reduceSub, and_self, ↓List.map_cons, ↓List.map_nil, ↓List.cons_append, ↓List.nil_append, List.replicate, ixT0, ixT1, ixT2, ixT3, ixTm1, ixTm2, ixTm3, onH_get, onH_set, onH_push, onH_len, mkB_get, mkB_set, mkB_push, mkB_len, mkB_next, Option.getD_some, Option.getD_none, sz0, sz1, sz2, sz3, sz4, sz5, sz6, sz7, sz8, sz9, ev_keyI, ev_keyS, ev_eqB, ev_neB, wp_one, wp_yes, wp_valsI, wp_keysI, wp_lcE, ↓wp_forE]
    refine wp_forS (p := h.length + L2.length) (ds := [.int 0, .int 1, .int (room - sumS rows), .int (room - sumS rows + 1)]) (by rw [onH_get]; simp) (fun j σ h' => ∃ s8 : Option D, σ = [some (.ref i), some (.ref rp), some (.int room), some (.ref (h.length + 0)), none, some (.int (sumS rows)), s6, s7, s8] ∧ h' = onH h (L2 ++ [.lst [.int 0, .int 1, .int (room - sumS rows), .int (room - sumS rows + 1)]])) ⟨_, rfl, rfl⟩ (fun j σ h' q => by obtain ⟨_, _, rfl⟩ := q; rw [onH_get]; simp) ?_ ?_
    · rintro j hj σ h' ⟨s8, rfl, rfl⟩
      have ez : ∃ z : Int, [D.int 0, .int 1, .int (room - sumS rows), .int (room - sumS rows + 1)][j] = .int z := by
        match j, hj with
        | 0, _ => exact ⟨_, rfl⟩
        | 1, _ => exact ⟨_, rfl⟩
        | 2, _ => exact ⟨_, rfl⟩
        | 3, _ => exact ⟨_, rfl⟩
      obtain ⟨z, ez⟩ := ez
      rw [ez]
      unfold m_z_agrees_b2
      simp only [↓wp_seq, ↓wp_skip, ↓wp_drop, ↓wp_ret, ↓wp_retN, ↓wp_brk, ↓wp_cnt, ↓wp_if, ↓wp_asg, ↓wp_to, ↓wp_tos, ↓wp_toIx, ↓wp_aug, ↓wp_augK, ↓wp_fldSet, ↓wp_fldAug, ↓wp_var, ↓wp_c, ↓wp_op, ↓wp_un, ↓wp_nil, ↓wp_cons, ↓wp_tup, ↓wp_lst, ↓wp_dict0, ↓wp_dict, ↓wp_pairs0, ↓wp_pairs, ↓wp_call, ↓wp_callF, ↓wp_tru, ↓wp_bl, ↓wp_and, ↓wp_or, ↓wp_not, ↓wp_andV, ↓wp_orV, ↓wp_notV, ↓wp_part, ↓wp_noPart, ↓wp_sl, ↓wp_bm, ↓wp_ifE, ↓wp_fld, ↓wp_meth, ↓wp_make, ↓wp_lockE, ↓wp_rng1, ↓wp_rng2, ↓wp_seqI, ↓wpR_ok, ↓wpS_nx, ↓wpS_rt, List.getElem?_cons_zero, List.getElem?_cons_succ, List.set_cons_zero, List.set_cons_succ, List.length_cons, List.length_nil, ↓reduceIte, decide_eq_true_eq, ev_add, ev_iadd, ev_sub, ev_mod, ev_neg, ev_lt, ev_le, ev_gt, ev_ge, ev_eqI, ev_neI, ev_eqS, ev_neS, ev_isN, ev_int, ev_abs, ev_max, ev_min, ev_lenT, ev_lenC, ev_tupT, Int.reduceLT, Int.reduceLE, Int.reduceNeg, Int.reduceAdd, Int.reduceSub, Int.reduceEq, Nat.reduceAdd, Nat.reduceSub, and_self, ↓List.map_cons, ↓List.map_nil, ↓List.cons_append, ↓List.nil_append, List.replicate, ixT0, ixT1, ixT2, ixT3, ixTm1, ixTm2, ixTm3, onH_get, onH_set, onH_push, onH_len, mkB_get, mkB_set, mkB_push, mkB_len, mkB_next, Option.getD_some, Option.getD_none, sz0, sz1, sz2, sz3, sz4, sz5, sz6, sz7, sz8, sz9, ev_keyI, ev_keyS, ev_eqB, ev_neB, wp_one, wp_yes, wp_valsI, wp_keysI, wp_lcE, insD_at (ob1 _) hc, n3]
      refine fits_ok cs (ob1 _) ?_
      simp only [↓wp_seq, ↓wp_skip, ↓wp_drop, ↓wp_ret, ↓wp_retN, ↓wp_brk, ↓wp_cnt, ↓wp_if, ↓wp_asg, ↓wp_to, ↓wp_tos, ↓wp_toIx, ↓wp_aug, ↓wp_augK, ↓wp_fldSet, ↓wp_fldAug, ↓wp_var, ↓wp_c, ↓wp_op, ↓wp_un, ↓wp_nil, ↓wp_cons, ↓wp_tup, ↓wp_lst, ↓wp_dict0, ↓wp_dict, ↓wp_pairs0, ↓wp_pairs, ↓wp_call, ↓wp_callF, ↓wp_tru, ↓wp_bl, ↓wp_and, ↓wp_or, ↓wp_not, ↓wp_andV, ↓wp_orV, ↓wp_notV, ↓wp_part, ↓wp_noPart, ↓wp_sl, ↓wp_bm, ↓wp_ifE, ↓wp_fld, ↓wp_meth, ↓wp_make, ↓wp_lockE, ↓wp_rng1, ↓wp_rng2, ↓wp_seqI, ↓wpR_ok, ↓wpS_nx, ↓wpS_rt, List.getElem?_cons_zero, List.getElem?_cons_succ, List.set_cons_zero, List.set_cons_succ, List.length_cons, List.length_nil, ↓reduceIte, decide_eq_true_eq, ev_add, ev_iadd, ev_sub, ev_mod, ev_neg, ev_lt, ev_le, ev_gt, ev_ge, ev_eqI, ev_neI, ev_eqS, ev_neS, ev_isN, ev_int, ev_abs, ev_max, ev_min, ev_lenT, ev_lenC, ev_tupT, Int.reduceLT, Int.reduceLE, Int.reduceNeg, Int.reduceAdd, Int.reduceSub, Int.reduceEq, Nat.reduceAdd, Nat.reduceSub, and_self, ↓List.map_cons, ↓List.map_nil, ↓List.cons_append, ↓List.nil_append, List.replicate, ixT0, ixT1, ixT2, ixT3, ixTm1, ixTm2, ixTm3, onH_get, onH_set, onH_push, onH_len, mkB_get, mkB_set, mkB_push, mkB_len, mkB_next, Option.getD_some, Option.getD_none, sz0, sz1, sz2, sz3, sz4, sz5, sz6, sz7, sz8, sz9, ev_keyI, ev_keyS, ev_eqB, ev_neB, wp_one, wp_yes, wp_valsI, wp_keysI, wp_lcE, decide_true, Bool.not_true, Bool.false_eq_true]
      exact ⟨_, rfl, trivial⟩
    · rintro σ h' ⟨s8, rfl, rfl⟩
      unfold m_z_agrees_r3
      simp only [↓wp_seq, ↓wp_skip, ↓wp_drop, ↓wp_ret, ↓wp_retN, ↓wp_brk, ↓wp_cnt, ↓wp_if, ↓wp_asg, ↓wp_to, ↓wp_tos, ↓wp_toIx, ↓wp_aug, ↓wp_augK, ↓wp_fldSet, ↓wp_fldAug, ↓wp_var, ↓wp_c, ↓wp_op, ↓wp_un, ↓wp_nil, ↓wp_cons, ↓wp_tup, ↓wp_lst, ↓wp_dict0, ↓wp_dict, ↓wp_pairs0, ↓wp_pairs, ↓wp_call, ↓wp_callF, ↓wp_tru, ↓wp_bl, ↓wp_and, ↓wp_or, ↓wp_not, ↓wp_andV, ↓wp_orV, ↓wp_notV, ↓wp_part, ↓wp_noPart, ↓wp_sl, ↓wp_bm, ↓wp_ifE, ↓wp_fld, ↓wp_meth, ↓wp_make, ↓wp_lockE, ↓wp_rng1, ↓wp_rng2, ↓wp_seqI, ↓wpR_ok, ↓wpS_nx, ↓wpS_rt, List.getElem?_cons_zero, List.getElem?_cons_succ, List.set_cons_zero, List.set_cons_succ, List.length_cons, List.length_nil, ↓reduceIte, decide_eq_true_eq, ev_add, ev_iadd, ev_sub, ev_mod, ev_neg, ev_lt, ev_le, ev_gt, ev_ge, ev_eqI, ev_neI, ev_eqS, ev_neS, ev_isN, ev_int, ev_abs, ev_max, ev_min, ev_lenT, ev_lenC, ev_tupT, Int.reduceLT, Int.reduceLE, Int.reduceNeg, Int.reduceAdd, Int.reduceSub, Int.reduceEq, Nat.reduceAdd, Nat.reduceSub, and_self, ↓List.map_cons, ↓List.map_nil, ↓List.cons_append, ↓List.nil_append, List.replicate, ixT0, ixT1, ixT2, ixT3, ixTm1, ixTm2, ixTm3, onH_get, onH_set, onH_push, onH_len, mkB_get, mkB_set, mkB_push, mkB_len, mkB_next, Option.getD_some, Option.getD_none, sz0, sz1, sz2, sz3, sz4, sz5, sz6, sz7, sz8, sz9, ev_keyI, ev_keyS, ev_eqB, ev_neB, wp_one, wp_yes, wp_valsI, wp_keysI, wp_lcE]
      exact ko _
end
/-! ### a new heap's cells -/
def Good (rows : List Row) (na : Int) : Prop := (keys rows).Pairwise (· < ·) ∧ ∀ k ∈ keys rows, k < na
theorem Good.nodup {rows : List Row} {na : Int} (g : Good rows na) : (keys rows).Nodup := g.1.imp fun h => Int.ne_of_lt h
theorem Good.notin {rows : List Row} {na : Int} (g : Good rows na) : na ∉ keys rows := fun h => Int.lt_irrefl _ (g.2 _ h)
theorem Good.app {rows : List Row} {na nb : Int} {c : Cl} (g : Good rows na) (hb : na < nb) : Good (rows ++ [(na, c)]) nb := by
  refine ⟨?_, ?_⟩
  · rw [keys, List.map_append]
    refine List.pairwise_append.mpr ⟨g.1, List.pairwise_singleton _ _, fun x hx y hy => ?_⟩
    rw [show y = na from List.mem_singleton.mp hy]
    exact g.2 x hx
  · intro k hk
    rw [keys, List.map_append] at hk
    rcases List.mem_append.mp hk with q | q
    · exact Int.lt_trans (g.2 k q) hb
    · rw [show k = na from List.mem_singleton.mp q]; exact hb
theorem Good.le {rows : List Row} {na nb : Int} (g : Good rows na) (hb : na ≤ nb) : Good rows nb := ⟨g.1, fun k hk => Int.lt_of_lt_of_le (g.2 k hk) hb⟩
theorem set_self_list {l : List Int} {j : Nat} {x : Int} (e : l[j]? = some x) : l.set j x = l := by
  obtain ⟨hp, e⟩ := List.getElem?_eq_some_iff.mp e
  subst e
  exact List.set_getElem_self hp
theorem Good.set {rows : List Row} {na : Int} {j : Nat} {a : Int} {c0 c : Cl} (g : Good rows na) (hj : rows[j]? = some (a, c0)) : Good (rows.set j (a, c)) na := by
  have e : keys (rows.set j (a, c)) = keys rows := by
    rw [keys, List.map_set]
    exact set_self_list (by rw [List.getElem?_map, hj]; rfl)
  rw [Good, e]
  exact g
section
variable {ds : List Int} {h : HS} {i d rp : Nat} {room na : Int} {rows : List Row} {P : D → HS → Prop} {X : XP}
theorem renewed_ok (hd : inR 997 ds) (hb : Dw ds h h) (hi2 : i ≠ 2) (ob : h[i]? = some (.ins (cs 0) (hf room (sumS rows) na d))) (hr : h[rp]? = some (.lst (rows.map rowD))) (hrp : rp ≠ 2) (hl : rows.length < 64)
    (k : ∀ (nr : List Row) (above : Int) (pn d2 : Nat) (h' : HS), Good nr above → nr.length ≤ rows.length → h'[i]? = some (.ins (cs 0) (hf room (sumS nr) above d2)) → h'[d2]? = some (.dK (kvR nr)) → h'[pn]? = some (.lst (nr.map rowD)) →
      h.length ≤ d2 → h.length ≤ pn → (∃ a, h'[2]? = some (bagB 1 a)) → (∀ (j : Nat) (o : MO), j ≠ 2 → j ≠ i → h[j]? = some o → h'[j]? = some o) → P (.tup [.ref pn, .int above]) h') :
    wpR (f_z_renewed cs [.ref 2, .ref i, .ref rp] h) P X := by
  unfold f_z_renewed m_z_renewed
  simp only [↓wp_seq, ↓wp_skip, ↓wp_drop, ↓wp_ret, ↓wp_retN, ↓wp_brk, ↓wp_cnt, ↓wp_if, ↓wp_asg, ↓wp_to, ↓wp_tos, ↓wp_toIx, ↓wp_aug, ↓wp_augK, ↓wp_fldSet, ↓wp_fldAug, ↓wp_var, ↓wp_c, ↓wp_op, ↓wp_un, ↓wp_nil, ↓wp_cons, ↓wp_tup, ↓wp_lst, ↓wp_dict0, ↓wp_dict, ↓wp_pairs0, ↓wp_pairs, ↓wp_call, ↓wp_callF, ↓wp_tru, ↓wp_bl, ↓wp_and, ↓wp_or, ↓wp_not, ↓wp_andV, ↓wp_orV, ↓wp_notV, ↓wp_part, ↓wp_noPart, ↓wp_sl, ↓wp_bm, ↓wp_ifE, ↓wp_fld, ↓wp_meth, ↓wp_make, ↓wp_lockE, ↓wp_rng1, ↓wp_rng2, ↓wp_seqI, ↓wpR_ok, ↓wpS_nx, ↓wpS_rt, List.getElem?_cons_zero, List.getElem?_cons_succ, List.set_cons_zero, List.set_cons_succ, List.length_cons, List.length_nil, ↓reduceIte, decide_eq_true_eq, ev_add, ev_iadd, ev_sub, ev_mod, ev_neg, ev_lt, ev_le, ev_gt, ev_ge, ev_eqI, ev_neI, ev_eqS, ev_neS, ev_isN, ev_int, ev_abs, ev_max, ev_min, ev_lenT, ev_lenC, ev_tupT, Int.reduceLT, Int.reduceLE, Int.reduceNeg, Int.reduceAdd, Int.reduceSub, Int.reduceEq, Nat.reduceAdd, Nat.reduceSub, and_self, ↓List.map_cons, ↓List.map_nil, ↓List.cons_append, ↓List.nil_append, List.replicate, ixT0, ixT1, ixT2, ixT3, ixTm1, ixTm2, ixTm3, onH_get, onH_set, onH_push, onH_len, mkB_get, mkB_set, mkB_push, mkB_len, mkB_next, Option.getD_some, Option.getD_none, sz0, sz1, sz2, sz3, sz4, sz5, sz6, sz7, sz8, sz9, ev_keyI, ev_keyS, ev_eqB, ev_neB, wp_one, wp_yes, wp_valsI, wp_keysI, wp_lcE, ↓wp_runB, wipeD]
  refine wp_lcS hr (fun j acc h' => ∃ sub : List Row, acc = sub.map rowD ∧ sub.length ≤ j ∧ Dw ds h h') ⟨[], rfl, Nat.le_refl _, hb⟩ (fun j acc h' q => by obtain ⟨_, _, _, w⟩ := q; exact w.get hrp hr) ?_ ?_
  · rintro j hj acc h' ⟨sub, rfl, hs, w⟩
    have hj2 : j < rows.length := by rw [List.length_map] at hj; exact hj
    have e : (rows.map rowD)[j] = rowD rows[j] := List.getElem_map _
    rw [e]
    simp only [↓wp_seq, ↓wp_skip, ↓wp_drop, ↓wp_ret, ↓wp_retN, ↓wp_brk, ↓wp_cnt, ↓wp_if, ↓wp_asg, ↓wp_to, ↓wp_tos, ↓wp_toIx, ↓wp_aug, ↓wp_augK, ↓wp_fldSet, ↓wp_fldAug, ↓wp_var, ↓wp_c, ↓wp_op, ↓wp_un, ↓wp_nil, ↓wp_cons, ↓wp_tup, ↓wp_lst, ↓wp_dict0, ↓wp_dict, ↓wp_pairs0, ↓wp_pairs, ↓wp_call, ↓wp_callF, ↓wp_tru, ↓wp_bl, ↓wp_and, ↓wp_or, ↓wp_not, ↓wp_andV, ↓wp_orV, ↓wp_notV, ↓wp_part, ↓wp_noPart, ↓wp_sl, ↓wp_bm, ↓wp_ifE, ↓wp_fld, ↓wp_meth, ↓wp_make, ↓wp_lockE, ↓wp_rng1, ↓wp_rng2, ↓wp_seqI, ↓wpR_ok, ↓wpS_nx, ↓wpS_rt, List.getElem?_cons_zero, List.getElem?_cons_succ, List.set_cons_zero, List.set_cons_succ, List.length_cons, List.length_nil, ↓reduceIte, decide_eq_true_eq, ev_add, ev_iadd, ev_sub, ev_mod, ev_neg, ev_lt, ev_le, ev_gt, ev_ge, ev_eqI, ev_neI, ev_eqS, ev_neS, ev_isN, ev_int, ev_abs, ev_max, ev_min, ev_lenT, ev_lenC, ev_tupT, Int.reduceLT, Int.reduceLE, Int.reduceNeg, Int.reduceAdd, Int.reduceSub, Int.reduceEq, Nat.reduceAdd, Nat.reduceSub, and_self, ↓List.map_cons, ↓List.map_nil, ↓List.cons_append, ↓List.nil_append, List.replicate, ixT0, ixT1, ixT2, ixT3, ixTm1, ixTm2, ixTm3, onH_get, onH_set, onH_push, onH_len, mkB_get, mkB_set, mkB_push, mkB_len, mkB_next, Option.getD_some, Option.getD_none, sz0, sz1, sz2, sz3, sz4, sz5, sz6, sz7, sz8, sz9, ev_keyI, ev_keyS, ev_eqB, ev_neB, wp_one, wp_yes, wp_valsI, wp_keysI, wp_lcE]
    refine nx cs hd w (by decide) fun v h2 _ _ w2 => ?_
    simp only [↓wp_seq, ↓wp_skip, ↓wp_drop, ↓wp_ret, ↓wp_retN, ↓wp_brk, ↓wp_cnt, ↓wp_if, ↓wp_asg, ↓wp_to, ↓wp_tos, ↓wp_toIx, ↓wp_aug, ↓wp_augK, ↓wp_fldSet, ↓wp_fldAug, ↓wp_var, ↓wp_c, ↓wp_op, ↓wp_un, ↓wp_nil, ↓wp_cons, ↓wp_tup, ↓wp_lst, ↓wp_dict0, ↓wp_dict, ↓wp_pairs0, ↓wp_pairs, ↓wp_call, ↓wp_callF, ↓wp_tru, ↓wp_bl, ↓wp_and, ↓wp_or, ↓wp_not, ↓wp_andV, ↓wp_orV, ↓wp_notV, ↓wp_part, ↓wp_noPart, ↓wp_sl, ↓wp_bm, ↓wp_ifE, ↓wp_fld, ↓wp_meth, ↓wp_make, ↓wp_lockE, ↓wp_rng1, ↓wp_rng2, ↓wp_seqI, ↓wpR_ok, ↓wpS_nx, ↓wpS_rt, List.getElem?_cons_zero, List.getElem?_cons_succ, List.set_cons_zero, List.set_cons_succ, List.length_cons, List.length_nil, ↓reduceIte, decide_eq_true_eq, ev_add, ev_iadd, ev_sub, ev_mod, ev_neg, ev_lt, ev_le, ev_gt, ev_ge, ev_eqI, ev_neI, ev_eqS, ev_neS, ev_isN, ev_int, ev_abs, ev_max, ev_min, ev_lenT, ev_lenC, ev_tupT, Int.reduceLT, Int.reduceLE, Int.reduceNeg, Int.reduceAdd, Int.reduceSub, Int.reduceEq, Nat.reduceAdd, Nat.reduceSub, and_self, ↓List.map_cons, ↓List.map_nil, ↓List.cons_append, ↓List.nil_append, List.replicate, ixT0, ixT1, ixT2, ixT3, ixTm1, ixTm2, ixTm3, onH_get, onH_set, onH_push, onH_len, mkB_get, mkB_set, mkB_push, mkB_len, mkB_next, Option.getD_some, Option.getD_none, sz0, sz1, sz2, sz3, sz4, sz5, sz6, sz7, sz8, sz9, ev_keyI, ev_keyS, ev_eqB, ev_neB, wp_one, wp_yes, wp_valsI, wp_keysI, wp_lcE]
    refine ite2 (fun _ => ?_) (fun _ => ?_)
    · refine ⟨by rw [List.length_map]; exact Nat.lt_of_le_of_lt hs (Nat.lt_trans (show j < 64 by omega) (by decide)), sub ++ [rows[j]], by rw [List.map_append]; rfl, by rw [List.length_append]; exact Nat.succ_le_succ hs, w2⟩
    · exact ⟨sub, rfl, Nat.le_succ_of_le hs, w2⟩
  · rintro acc h1 ⟨sub, rfl, hs, w1⟩
    rw [List.length_map] at hs
    have w1p : Dw ds h (h1 ++ [MO.lst (sub.map rowD)]) := w1.push
    refine nx cs hd w1p.self (by decide) fun first h2 f0 f1 w2 => ?_
    have w2h : Dw ds h h2 := w1p.trans w2
    have gs : h2[h1.length]? = some (.lst (sub.map rowD)) := w2.get (by have := w1.1; have := w1.2.1; have := w1.le; omega) get_last
    have l2 : h1.length < h2.length := (List.getElem?_eq_some_iff.mp gs).1
    rw [← onH_nil h2]
    have gs2 : ∀ l, (onH h2 l)[h1.length]? = some (.lst (sub.map rowD)) := fun l => get_push gs
    simp only [↓wp_seq, ↓wp_skip, ↓wp_drop, ↓wp_ret, ↓wp_retN, ↓wp_brk, ↓wp_cnt, ↓wp_if, ↓wp_asg, ↓wp_to, ↓wp_tos, ↓wp_toIx, ↓wp_aug, ↓wp_augK, ↓wp_fldSet, ↓wp_fldAug, ↓wp_var, ↓wp_c, ↓wp_op, ↓wp_un, ↓wp_nil, ↓wp_cons, ↓wp_tup, ↓wp_lst, ↓wp_dict0, ↓wp_dict, ↓wp_pairs0, ↓wp_pairs, ↓wp_call, ↓wp_callF, ↓wp_tru, ↓wp_bl, ↓wp_and, ↓wp_or, ↓wp_not, ↓wp_andV, ↓wp_orV, ↓wp_notV, ↓wp_part, ↓wp_noPart, ↓wp_sl, ↓wp_bm, ↓wp_ifE, ↓wp_fld, ↓wp_meth, ↓wp_make, ↓wp_lockE, ↓wp_rng1, ↓wp_rng2, ↓wp_seqI, ↓wpR_ok, ↓wpS_nx, ↓wpS_rt, List.getElem?_cons_zero, List.getElem?_cons_succ, List.set_cons_zero, List.set_cons_succ, List.length_cons, List.length_nil, ↓reduceIte, decide_eq_true_eq, ev_add, ev_iadd, ev_sub, ev_mod, ev_neg, ev_lt, ev_le, ev_gt, ev_ge, ev_eqI, ev_neI, ev_eqS, ev_neS, ev_isN, ev_int, ev_abs, ev_max, ev_min, ev_lenT, ev_lenC, ev_tupT, Int.reduceLT, Int.reduceLE, Int.reduceNeg, Int.reduceAdd, Int.reduceSub, Int.reduceEq, Nat.reduceAdd, Nat.reduceSub, and_self, ↓List.map_cons, ↓List.map_nil, ↓List.cons_append, ↓List.nil_append, List.replicate, ixT0, ixT1, ixT2, ixT3, ixTm1, ixTm2, ixTm3, onH_get, onH_set, onH_push, onH_len, mkB_get, mkB_set, mkB_push, mkB_len, mkB_next, Option.getD_some, Option.getD_none, sz0, sz1, sz2, sz3, sz4, sz5, sz6, sz7, sz8, sz9, ev_keyI, ev_keyS, ev_eqB, ev_neB, wp_one, wp_yes, wp_valsI, wp_keysI, wp_lcE, ↓wp_forE, ev_lenL (gs2 _), List.length_map]
    rw [if_pos (by omega)]
    refine wp_forR (fun j σ h' => ∃ (nr : List Row) (s8 : Option D), σ = [some (.ref 2), some (.ref i), some (.ref rp), some (.ref h1.length), none, some (.int first), some (.ref (h2.length + 0)), some (.ref (h2.length + 1)), s8, none] ∧
      h' = onH h2 [.dK (kvR nr), .lst (nr.map rowD)] ∧ nr.length = j ∧ Good nr (first + 2 * j)) ⟨[], _, rfl, rfl, rfl, List.Pairwise.nil, fun _ h => by cases h⟩ ?_ ?_
    · rintro j σ h' ⟨nr, s8, rfl, rfl, hn, hg⟩ hj
      have hj2 : j < sub.length := hj
      have ixs : atI (sub.map rowD) ((0 : Int) + (j : Int)) = some (.tup [.int (sub[j]).1, cD (sub[j]).2]) := by
        rw [Int.zero_add]
        refine atI_nat ?_
        rw [List.getElem?_map, List.getElem?_eq_getElem hj2]
        rfl
      have cm : CMul 2 ((0 : Int) + (j : Int)) := .inl ⟨by decide, by decide⟩
      have e2 : ∀ l, dSet (.ref (h2.length + 0)) (.int (first + 2 * (0 + (j : Int)))) (cD (sub[j]).2) (onH h2 (.dK (kvR nr) :: l)) = some (onH h2 (.dK (kvR (nr ++ [(first + 2 * (0 + (j : Int)), (sub[j]).2)])) :: l)) := fun l => by
        rw [dSet_dK (kvs := kvR nr) (by rw [onH_get]; rfl) rfl (by rw [kvR_len]; exact Nat.lt_trans (show nr.length < 64 by omega) (by decide)), onH_set, setK_new (by rw [Int.zero_add]; exact hg.notin)]
        rfl
      unfold m_z_renewed_b1
      simp only [↓wp_seq, ↓wp_skip, ↓wp_drop, ↓wp_ret, ↓wp_retN, ↓wp_brk, ↓wp_cnt, ↓wp_if, ↓wp_asg, ↓wp_to, ↓wp_tos, ↓wp_toIx, ↓wp_aug, ↓wp_augK, ↓wp_fldSet, ↓wp_fldAug, ↓wp_var, ↓wp_c, ↓wp_op, ↓wp_un, ↓wp_nil, ↓wp_cons, ↓wp_tup, ↓wp_lst, ↓wp_dict0, ↓wp_dict, ↓wp_pairs0, ↓wp_pairs, ↓wp_call, ↓wp_callF, ↓wp_tru, ↓wp_bl, ↓wp_and, ↓wp_or, ↓wp_not, ↓wp_andV, ↓wp_orV, ↓wp_notV, ↓wp_part, ↓wp_noPart, ↓wp_sl, ↓wp_bm, ↓wp_ifE, ↓wp_fld, ↓wp_meth, ↓wp_make, ↓wp_lockE, ↓wp_rng1, ↓wp_rng2, ↓wp_seqI, ↓wpR_ok, ↓wpS_nx, ↓wpS_rt, List.getElem?_cons_zero, List.getElem?_cons_succ, List.set_cons_zero, List.set_cons_succ, List.length_cons, List.length_nil, ↓reduceIte, decide_eq_true_eq, ev_add, ev_iadd, ev_sub, ev_mod, ev_neg, ev_lt, ev_le, ev_gt, ev_ge, ev_eqI, ev_neI, ev_eqS, ev_neS, ev_isN, ev_int, ev_abs, ev_max, ev_min, ev_lenT, ev_lenC, ev_tupT, Int.reduceLT, Int.reduceLE, Int.reduceNeg, Int.reduceAdd, Int.reduceSub, Int.reduceEq, Nat.reduceAdd, Nat.reduceSub, and_self, ↓List.map_cons, ↓List.map_nil, ↓List.cons_append, ↓List.nil_append, List.replicate, ixT0, ixT1, ixT2, ixT3, ixTm1, ixTm2, ixTm3, onH_get, onH_set, onH_push, onH_len, mkB_get, mkB_set, mkB_push, mkB_len, mkB_next, Option.getD_some, Option.getD_none, sz0, sz1, sz2, sz3, sz4, sz5, sz6, sz7, sz8, sz9, ev_keyI, ev_keyS, ev_eqB, ev_neB, wp_one, wp_yes, wp_valsI, wp_keysI, wp_lcE, ev_ixL (gs2 _) ixs, ev_mul cm, e2]
      rw [if_pos (ev_tyL (ds := nr.map rowD) (by rw [onH_get]; rfl)), ev_app (ds := nr.map rowD) (by rw [onH_get]; rfl) (by rw [List.length_map]; exact Nat.lt_trans (show nr.length < 64 by omega) (by decide)), onH_set, wpR_ok]
      refine ⟨nr ++ [(first + 2 * (0 + (j : Int)), (sub[j]).2)], _, rfl, ?_, by rw [List.length_append, hn]; rfl, ?_⟩
      · rw [List.map_append]; rfl
      · rw [Int.zero_add]
        exact hg.app (by omega)
    · rintro σ h' ⟨nr, s8, rfl, rfl, hn, hg⟩
      rw [Int.toNat_natCast] at hn hg
      have h2l := w2h.2.1
      have hle := w2h.le
      have cm : CMul 2 (sub.length : Int) := .inl ⟨by decide, by decide⟩
      have w3 : Dw ds h (onH h2 [.dK (kvR nr), .lst (nr.map rowD)]) := w2h.push
      have p0 : (onH h2 [.dK (kvR nr), .lst (nr.map rowD)])[h2.length + 0]? = some (.dK (kvR nr)) := by rw [onH_get]; rfl
      have p1 : (onH h2 [.dK (kvR nr), .lst (nr.map rowD)])[h2.length + 1]? = some (.lst (nr.map rowD)) := by rw [onH_get]; rfl
      unfold m_z_renewed_r2
      simp only [↓wp_seq, ↓wp_skip, ↓wp_drop, ↓wp_ret, ↓wp_retN, ↓wp_brk, ↓wp_cnt, ↓wp_if, ↓wp_asg, ↓wp_to, ↓wp_tos, ↓wp_toIx, ↓wp_aug, ↓wp_augK, ↓wp_fldSet, ↓wp_fldAug, ↓wp_var, ↓wp_c, ↓wp_op, ↓wp_un, ↓wp_nil, ↓wp_cons, ↓wp_tup, ↓wp_lst, ↓wp_dict0, ↓wp_dict, ↓wp_pairs0, ↓wp_pairs, ↓wp_call, ↓wp_callF, ↓wp_tru, ↓wp_bl, ↓wp_and, ↓wp_or, ↓wp_not, ↓wp_andV, ↓wp_orV, ↓wp_notV, ↓wp_part, ↓wp_noPart, ↓wp_sl, ↓wp_bm, ↓wp_ifE, ↓wp_fld, ↓wp_meth, ↓wp_make, ↓wp_lockE, ↓wp_rng1, ↓wp_rng2, ↓wp_seqI, ↓wpR_ok, ↓wpS_nx, ↓wpS_rt, List.getElem?_cons_zero, List.getElem?_cons_succ, List.set_cons_zero, List.set_cons_succ, List.length_cons, List.length_nil, ↓reduceIte, decide_eq_true_eq, ev_add, ev_iadd, ev_sub, ev_mod, ev_neg, ev_lt, ev_le, ev_gt, ev_ge, ev_eqI, ev_neI, ev_eqS, ev_neS, ev_isN, ev_int, ev_abs, ev_max, ev_min, ev_lenT, ev_lenC, ev_tupT, Int.reduceLT, Int.reduceLE, Int.reduceNeg, Int.reduceAdd, Int.reduceSub, Int.reduceEq, Nat.reduceAdd, Nat.reduceSub, and_self, ↓List.map_cons, ↓List.map_nil, ↓List.cons_append, ↓List.nil_append, List.replicate, ixT0, ixT1, ixT2, ixT3, ixTm1, ixTm2, ixTm3, onH_get, onH_set, onH_push, onH_len, mkB_get, mkB_set, mkB_push, mkB_len, mkB_next, Option.getD_some, Option.getD_none, sz0, sz1, sz2, sz3, sz4, sz5, sz6, sz7, sz8, sz9, ev_keyI, ev_keyS, ev_eqB, ev_neB, wp_one, wp_yes, wp_valsI, wp_keysI, wp_lcE, ev_lenL (gs2 _), List.length_map, ev_mul cm]
      refine nx cs hd w3.self (by decide) fun u h4 u0 u1 w4 => ?_
      have w4h : Dw ds h h4 := w3.trans w4
      have q0 := w4.get (by omega) p0
      have q1 := w4.get (by omega) p1
      have ob4 := w4h.get hi2 ob
      have n1 : ((hf room (sumS rows) na d).lookup (("renew" : Str))).isNone = true := rfl
      simp only [↓wp_seq, ↓wp_skip, ↓wp_drop, ↓wp_ret, ↓wp_retN, ↓wp_brk, ↓wp_cnt, ↓wp_if, ↓wp_asg, ↓wp_to, ↓wp_tos, ↓wp_toIx, ↓wp_aug, ↓wp_augK, ↓wp_fldSet, ↓wp_fldAug, ↓wp_var, ↓wp_c, ↓wp_op, ↓wp_un, ↓wp_nil, ↓wp_cons, ↓wp_tup, ↓wp_lst, ↓wp_dict0, ↓wp_dict, ↓wp_pairs0, ↓wp_pairs, ↓wp_call, ↓wp_callF, ↓wp_tru, ↓wp_bl, ↓wp_and, ↓wp_or, ↓wp_not, ↓wp_andV, ↓wp_orV, ↓wp_notV, ↓wp_part, ↓wp_noPart, ↓wp_sl, ↓wp_bm, ↓wp_ifE, ↓wp_fld, ↓wp_meth, ↓wp_make, ↓wp_lockE, ↓wp_rng1, ↓wp_rng2, ↓wp_seqI, ↓wpR_ok, ↓wpS_nx, ↓wpS_rt, List.getElem?_cons_zero, List.getElem?_cons_succ, List.set_cons_zero, List.set_cons_succ, List.length_cons, List.length_nil, ↓reduceIte, decide_eq_true_eq, ev_add, ev_iadd, ev_sub, ev_mod, ev_neg, ev_lt, ev_le, ev_gt, ev_ge, ev_eqI, ev_neI, ev_eqS, ev_neS, ev_isN, ev_int, ev_abs, ev_max, ev_min, ev_lenT, ev_lenC, ev_tupT, Int.reduceLT, Int.reduceLE, Int.reduceNeg, Int.reduceAdd, Int.reduceSub, Int.reduceEq, Nat.reduceAdd, Nat.reduceSub, and_self, ↓List.map_cons, ↓List.map_nil, ↓List.cons_append, ↓List.nil_append, List.replicate, ixT0, ixT1, ixT2, ixT3, ixTm1, ixTm2, ixTm3, onH_get, onH_set, onH_push, onH_len, mkB_get, mkB_set, mkB_push, mkB_len, mkB_next, Option.getD_some, Option.getD_none, sz0, sz1, sz2, sz3, sz4, sz5, sz6, sz7, sz8, sz9, ev_keyI, ev_keyS, ev_eqB, ev_neB, wp_one, wp_yes, wp_valsI, wp_keysI, wp_lcE, insD_at ob4 (List.mem_singleton.mpr rfl), n1]
      refine renew_ok cs ob4 q0 (by omega) ?_
      generalize eA : first + 2 * (sub.length : Int) + u = above
      have i4 : i < h4.length := (List.getElem?_eq_some_iff.mp ob4).1
      have pl : h2.length + 0 < h4.length := (List.getElem?_eq_some_iff.mp q0).1
      have pi : i ≠ h2.length + 0 := by
        intro z
        rw [z] at ob4
        rw [ob4] at q0
        cases q0
      have pi1 : i ≠ h2.length + 1 := by
        intro z
        rw [z] at ob4
        rw [ob4] at q1
        cases q1
      generalize eB : (h4 ++ [MO.dK (kvR nr)] ++ [MO.lst ((nr.map fun r => cS r.2).map D.int)]).set i (.ins (cs 0) (hf room (sumS nr) above h4.length)) = h5
      have g5 : ∀ (j : Nat) (o : MO), j ≠ i → h4[j]? = some o → h5[j]? = some o := fun j o n e => by
        rw [← eB]
        exact get_other (Ne.symm n) (get_push (get_push e))
      have g5i : h5[i]? = some (.ins (cs 0) (hf room (sumS nr) above h4.length)) := by
        rw [← eB]
        exact List.getElem?_set_self (by simp only [List.length_append, List.length_cons, List.length_nil]; omega)
      have g5d : h5[h4.length]? = some (.dK (kvR nr)) := by
        rw [← eB]
        exact get_other (by omega) (get_push get_last)
      have e6 : dSet (.ref (h2.length + 0)) (.int 99) (.tup [.str "hole"]) h5 = some (h5.set (h2.length + 0) (.dK (setK (kvR nr) (.inl 99) (.tup [.str "hole"])))) :=
        dSet_dK (g5 _ _ (Ne.symm pi) q0) rfl (by rw [kvR_len]; exact Nat.lt_trans (show nr.length < 64 by omega) (by decide))
      simp only [↓wp_seq, ↓wp_skip, ↓wp_drop, ↓wp_ret, ↓wp_retN, ↓wp_brk, ↓wp_cnt, ↓wp_if, ↓wp_asg, ↓wp_to, ↓wp_tos, ↓wp_toIx, ↓wp_aug, ↓wp_augK, ↓wp_fldSet, ↓wp_fldAug, ↓wp_var, ↓wp_c, ↓wp_op, ↓wp_un, ↓wp_nil, ↓wp_cons, ↓wp_tup, ↓wp_lst, ↓wp_dict0, ↓wp_dict, ↓wp_pairs0, ↓wp_pairs, ↓wp_call, ↓wp_callF, ↓wp_tru, ↓wp_bl, ↓wp_and, ↓wp_or, ↓wp_not, ↓wp_andV, ↓wp_orV, ↓wp_notV, ↓wp_part, ↓wp_noPart, ↓wp_sl, ↓wp_bm, ↓wp_ifE, ↓wp_fld, ↓wp_meth, ↓wp_make, ↓wp_lockE, ↓wp_rng1, ↓wp_rng2, ↓wp_seqI, ↓wpR_ok, ↓wpS_nx, ↓wpS_rt, List.getElem?_cons_zero, List.getElem?_cons_succ, List.set_cons_zero, List.set_cons_succ, List.length_cons, List.length_nil, ↓reduceIte, decide_eq_true_eq, ev_add, ev_iadd, ev_sub, ev_mod, ev_neg, ev_lt, ev_le, ev_gt, ev_ge, ev_eqI, ev_neI, ev_eqS, ev_neS, ev_isN, ev_int, ev_abs, ev_max, ev_min, ev_lenT, ev_lenC, ev_tupT, Int.reduceLT, Int.reduceLE, Int.reduceNeg, Int.reduceAdd, Int.reduceSub, Int.reduceEq, Nat.reduceAdd, Nat.reduceSub, and_self, ↓List.map_cons, ↓List.map_nil, ↓List.cons_append, ↓List.nil_append, List.replicate, ixT0, ixT1, ixT2, ixT3, ixTm1, ixTm2, ixTm3, onH_get, onH_set, onH_push, onH_len, mkB_get, mkB_set, mkB_push, mkB_len, mkB_next, Option.getD_some, Option.getD_none, sz0, sz1, sz2, sz3, sz4, sz5, sz6, sz7, sz8, sz9, ev_keyI, ev_keyS, ev_eqB, ev_neB, wp_one, wp_yes, wp_valsI, wp_keysI, wp_lcE, e6]
      obtain ⟨b, hb4, _⟩ := w4h.bag
      refine k nr above _ h4.length _ (hg.le (by omega)) (by omega) (get_other (Ne.symm pi) g5i) (get_other (by omega) g5d) (get_other (by omega) (g5 _ _ (Ne.symm pi1) q1)) (by have := w4h.le; omega) (by omega) ⟨b, get_other (by omega) (g5 _ _ (Ne.symm hi2) hb4)⟩ ?_
      intro j o n2 ni e
      have jl : j < h.length := (List.getElem?_eq_some_iff.mp e).1
      exact get_other (by omega) (g5 _ _ ni (w4h.get n2 e))
end
/-! ### the law's turns -/
structure LI (cs : Nat → Addr) (ds : List Int) (h : HS) (room na : Int) (d rp : Nat) (rows : List Row) : Prop where
  bag : ∃ a, h[2]? = some (bagB 1 a)
  dr : h[1]? = some (.lst (ds.map .int))
  ob : h[3]? = some (.ins (cs 0) (hf room (sumS rows) na d))
  ce : h[d]? = some (.dK (kvR rows))
  o2 : h[5]? = some (.ins (cs 0) (hf 5 0 0 6))
  c2 : h[6]? = some (.dK [])
  rw : h[rp]? = some (.lst (rows.map rowD))
  d2 : d ≠ 2
  d6 : d ≠ 6
  r1 : rp ≠ 1
  gd : Good rows na
section
variable {ds : List Int} {h h' : HS} {d rp : Nat} {room na : Int} {rows : List Row} {P : D → HS → Prop} {X : XP} {cs : Nat → Addr}
theorem LI.rp2 (L : LI cs ds h room na d rp rows) : rp ≠ 2 := by
  intro z
  obtain ⟨a, e⟩ := L.bag
  have q := L.rw
  rw [z, e] at q
  cases q
theorem LI.rpd (L : LI cs ds h room na d rp rows) : rp ≠ d := by
  intro z
  have e := L.ce
  have q := L.rw
  rw [z, e] at q
  cases q
theorem LI.rp6 (L : LI cs ds h room na d rp rows) : rp ≠ 6 := by
  intro z
  have e := L.c2
  have q := L.rw
  rw [z, e] at q
  cases q
theorem LI.rp5 (L : LI cs ds h room na d rp rows) : rp ≠ 5 := by
  intro z
  have e := L.o2
  have q := L.rw
  rw [z, e] at q
  cases q
theorem LI.rp3 (L : LI cs ds h room na d rp rows) : rp ≠ 3 := by
  intro z
  have e := L.ob
  have q := L.rw
  rw [z, e] at q
  cases q
theorem LI.d5 (L : LI cs ds h room na d rp rows) : d ≠ 5 := by
  intro z
  have e := L.o2
  have q := L.ce
  rw [z, e] at q
  cases q
theorem LI.d3 (L : LI cs ds h room na d rp rows) : d ≠ 3 := by
  intro z
  have e := L.ob
  have q := L.ce
  rw [z, e] at q
  cases q
theorem LI.d1 (L : LI cs ds h room na d rp rows) : d ≠ 1 := by
  intro z
  have e := L.dr
  have q := L.ce
  rw [z, e] at q
  cases q
theorem LI.dw (L : LI cs ds h room na d rp rows) : Dw ds h h := by
  obtain ⟨a, e⟩ := L.bag
  exact Dw.refl e L.dr
theorem LI.grow (L : LI cs ds h room na d rp rows) (w : Dw ds h h') : LI cs ds h' room na d rp rows := by
  obtain ⟨a, e1, e2⟩ := w.bag
  exact ⟨⟨a, e1⟩, e2, w.get (by decide) L.ob, w.get L.d2 L.ce, w.get (by decide) L.o2, w.get (by decide) L.c2, w.get L.rp2 L.rw, L.d2, L.d6, L.r1, L.gd⟩
theorem LI.push {l : HS} (L : LI cs ds h room na d rp rows) : LI cs ds (h ++ l) room na d rp rows := L.grow L.dw.push
/-- the end of a turn -/
theorem law_r1_ok {s0 s7 s8 s9 s10 : Option D} {N : Sl → HS → Prop} {T : Tl} (L : LI cs ds h room na d rp rows) (hl : rows.length < 64)
    (k : ∀ l, N [s0, some (.ref 2), some (.int room), some (.ref 3), some (.ref 5), some (.ref rp), some (.int na), s7, s8, s9, s10] (h ++ l)) :
    wpS (m_law_r1 cs [s0, some (.ref 2), some (.int room), some (.ref 3), some (.ref 5), some (.ref rp), some (.int na), s7, s8, s9, s10] h) N T := by
  have hc : cs 0 ∈ [cs 0] := List.mem_singleton.mpr rfl
  have n1 : ((hf 5 0 0 6).lookup (("addresses" : Str))).isNone = true := rfl
  unfold m_law_r1
  simp only [↓wp_seq, ↓wp_skip, ↓wp_drop, ↓wp_ret, ↓wp_retN, ↓wp_brk, ↓wp_cnt, ↓wp_if, ↓wp_asg, ↓wp_to, ↓wp_tos, ↓wp_toIx, ↓wp_aug, ↓wp_augK, ↓wp_fldSet, ↓wp_fldAug, ↓wp_var, ↓wp_c, ↓wp_op, ↓wp_un, ↓wp_nil, ↓wp_cons, ↓wp_tup, ↓wp_lst, ↓wp_dict0, ↓wp_dict, ↓wp_pairs0, ↓wp_pairs, ↓wp_call, ↓wp_callF, ↓wp_tru, ↓wp_bl, ↓wp_and, ↓wp_or, ↓wp_not, ↓wp_andV, ↓wp_orV, ↓wp_notV, ↓wp_part, ↓wp_noPart, ↓wp_sl, ↓wp_bm, ↓wp_ifE, ↓wp_fld, ↓wp_meth, ↓wp_make, ↓wp_lockE, ↓wp_rng1, ↓wp_rng2, ↓wp_seqI, ↓wpR_ok, ↓wpS_nx, ↓wpS_rt, List.getElem?_cons_zero, List.getElem?_cons_succ, List.set_cons_zero, List.set_cons_succ, List.length_cons, List.length_nil, ↓reduceIte, decide_eq_true_eq, ev_add, ev_iadd, ev_sub, ev_mod, ev_neg, ev_lt, ev_le, ev_gt, ev_ge, ev_eqI, ev_neI, ev_eqS, ev_neS, ev_isN, ev_int, ev_abs, ev_max, ev_min, ev_lenT, ev_lenC, ev_tupT, Int.reduceLT, Int.reduceLE, Int.reduceNeg, Int.reduceAdd, Int.reduceSub, Int.reduceEq, Nat.reduceAdd, Nat.reduceSub, and_self, ↓List.map_cons, ↓List.map_nil, ↓List.cons_append, ↓List.nil_append, List.replicate, ixT0, ixT1, ixT2, ixT3, ixTm1, ixTm2, ixTm3, onH_get, onH_set, onH_push, onH_len, mkB_get, mkB_set, mkB_push, mkB_len, mkB_next, Option.getD_some, Option.getD_none, sz0, sz1, sz2, sz3, sz4, sz5, sz6, sz7, sz8, sz9, ev_keyI, ev_keyS, ev_eqB, ev_neB, wp_one, wp_yes, wp_valsI, wp_keysI, wp_lcE]
  refine agrees_ok cs L.ob L.ce L.rw L.gd.nodup hl fun l => ?_
  have o2 : (h ++ l)[5]? = some (.ins (cs 0) (hf 5 0 0 6)) := get_push L.o2
  simp only [↓wp_seq, ↓wp_skip, ↓wp_drop, ↓wp_ret, ↓wp_retN, ↓wp_brk, ↓wp_cnt, ↓wp_if, ↓wp_asg, ↓wp_to, ↓wp_tos, ↓wp_toIx, ↓wp_aug, ↓wp_augK, ↓wp_fldSet, ↓wp_fldAug, ↓wp_var, ↓wp_c, ↓wp_op, ↓wp_un, ↓wp_nil, ↓wp_cons, ↓wp_tup, ↓wp_lst, ↓wp_dict0, ↓wp_dict, ↓wp_pairs0, ↓wp_pairs, ↓wp_call, ↓wp_callF, ↓wp_tru, ↓wp_bl, ↓wp_and, ↓wp_or, ↓wp_not, ↓wp_andV, ↓wp_orV, ↓wp_notV, ↓wp_part, ↓wp_noPart, ↓wp_sl, ↓wp_bm, ↓wp_ifE, ↓wp_fld, ↓wp_meth, ↓wp_make, ↓wp_lockE, ↓wp_rng1, ↓wp_rng2, ↓wp_seqI, ↓wpR_ok, ↓wpS_nx, ↓wpS_rt, List.getElem?_cons_zero, List.getElem?_cons_succ, List.set_cons_zero, List.set_cons_succ, List.length_cons, List.length_nil, ↓reduceIte, decide_eq_true_eq, ev_add, ev_iadd, ev_sub, ev_mod, ev_neg, ev_lt, ev_le, ev_gt, ev_ge, ev_eqI, ev_neI, ev_eqS, ev_neS, ev_isN, ev_int, ev_abs, ev_max, ev_min, ev_lenT, ev_lenC, ev_tupT, Int.reduceLT, Int.reduceLE, Int.reduceNeg, Int.reduceAdd, Int.reduceSub, Int.reduceEq, Nat.reduceAdd, Nat.reduceSub, and_self, ↓List.map_cons, ↓List.map_nil, ↓List.cons_append, ↓List.nil_append, List.replicate, ixT0, ixT1, ixT2, ixT3, ixTm1, ixTm2, ixTm3, onH_get, onH_set, onH_push, onH_len, mkB_get, mkB_set, mkB_push, mkB_len, mkB_next, Option.getD_some, Option.getD_none, sz0, sz1, sz2, sz3, sz4, sz5, sz6, sz7, sz8, sz9, ev_keyI, ev_keyS, ev_eqB, ev_neB, wp_one, wp_yes, wp_valsI, wp_keysI, wp_lcE, show ∀ (h : HS) (b : Bool), truB h (.bl b) = some b from fun _ _ => rfl, Bool.not_true, Bool.false_eq_true, insD_at o2 hc, n1]
  refine addresses_ok cs (rows := []) o2 (get_push L.c2) (by decide) ?_
  have g1 : ∀ x : HS, (h ++ l ++ [MO.lst ((sortI (keys [])).map .int)] ++ x)[(h ++ l).length]? = some (.lst []) := fun x => get_push (get_last.trans (by rw [show keys [] = [] from rfl, show sortI [] = [] by simp [sortI]]; rfl))
  rw [dNe_lst (g1 _) get_last (n := 1) rfl (by decide)]
  simp only [↓wp_seq, ↓wp_skip, ↓wp_drop, ↓wp_ret, ↓wp_retN, ↓wp_brk, ↓wp_cnt, ↓wp_if, ↓wp_asg, ↓wp_to, ↓wp_tos, ↓wp_toIx, ↓wp_aug, ↓wp_augK, ↓wp_fldSet, ↓wp_fldAug, ↓wp_var, ↓wp_c, ↓wp_op, ↓wp_un, ↓wp_nil, ↓wp_cons, ↓wp_tup, ↓wp_lst, ↓wp_dict0, ↓wp_dict, ↓wp_pairs0, ↓wp_pairs, ↓wp_call, ↓wp_callF, ↓wp_tru, ↓wp_bl, ↓wp_and, ↓wp_or, ↓wp_not, ↓wp_andV, ↓wp_orV, ↓wp_notV, ↓wp_part, ↓wp_noPart, ↓wp_sl, ↓wp_bm, ↓wp_ifE, ↓wp_fld, ↓wp_meth, ↓wp_make, ↓wp_lockE, ↓wp_rng1, ↓wp_rng2, ↓wp_seqI, ↓wpR_ok, ↓wpS_nx, ↓wpS_rt, List.getElem?_cons_zero, List.getElem?_cons_succ, List.set_cons_zero, List.set_cons_succ, List.length_cons, List.length_nil, ↓reduceIte, decide_eq_true_eq, ev_add, ev_iadd, ev_sub, ev_mod, ev_neg, ev_lt, ev_le, ev_gt, ev_ge, ev_eqI, ev_neI, ev_eqS, ev_neS, ev_isN, ev_int, ev_abs, ev_max, ev_min, ev_lenT, ev_lenC, ev_tupT, Int.reduceLT, Int.reduceLE, Int.reduceNeg, Int.reduceAdd, Int.reduceSub, Int.reduceEq, Nat.reduceAdd, Nat.reduceSub, and_self, ↓List.map_cons, ↓List.map_nil, ↓List.cons_append, ↓List.nil_append, List.replicate, ixT0, ixT1, ixT2, ixT3, ixTm1, ixTm2, ixTm3, onH_get, onH_set, onH_push, onH_len, mkB_get, mkB_set, mkB_push, mkB_len, mkB_next, Option.getD_some, Option.getD_none, sz0, sz1, sz2, sz3, sz4, sz5, sz6, sz7, sz8, sz9, ev_keyI, ev_keyS, ev_eqB, ev_neB, wp_one, wp_yes, wp_valsI, wp_keysI, wp_lcE, Bool.false_eq_true, insD_at (get_push (get_push o2)) hc, lk_used, decide_true, Bool.not_true]
  rw [List.append_assoc, List.append_assoc]
  exact k _
theorem sumS_app {rows : List Row} {r : Row} : sumS (rows ++ [r]) = sumS rows + cS r.2 := by
  simp [sumS]
theorem sumS_set : ∀ {rows : List Row} {j : Nat} {a : Int} {c0 c : Cl}, rows[j]? = some (a, c0) → sumS (rows.set j (a, c)) = sumS rows + (cS c - cS c0)
  | [], _, _, _, _, h => by cases h
  | r :: rows, 0, a, c0, c, h => by
    cases h
    simp only [List.set_cons_zero, sumS, List.map_cons, List.sum_cons]
    omega
  | r :: rows, j + 1, a, c0, c, h => by
    have ih := sumS_set (rows := rows) (j := j) (c := c) h
    simp only [List.set_cons_succ, sumS, List.map_cons, List.sum_cons] at ih ⊢
    omega
theorem LI.made (L : LI cs ds h room na d rp rows) (c : Cl) : LI cs ds (((h.set d (.dK (kvR (rows ++ [(na, c)])))).set 3 (.ins (cs 0) (hf room (sumS rows + cS c) (na + 1) d))).set rp (.lst (rows.map rowD ++ [rowD (na, c)]))) room (na + 1) d rp (rows ++ [(na, c)]) := by
  obtain ⟨a, e⟩ := L.bag
  have hd := (List.getElem?_eq_some_iff.mp L.ce).1
  have h3 := (List.getElem?_eq_some_iff.mp L.ob).1
  have hrp := (List.getElem?_eq_some_iff.mp L.rw).1
  have fr : ∀ (j : Nat) (o : MO), j ≠ d → j ≠ 3 → j ≠ rp → h[j]? = some o → (((h.set d (.dK (kvR (rows ++ [(na, c)])))).set 3 (.ins (cs 0) (hf room (sumS rows + cS c) (na + 1) d))).set rp (.lst (rows.map rowD ++ [rowD (na, c)])))[j]? = some o := fun j o n1 n2 n3 q => get_other (Ne.symm n3) (get_other (Ne.symm n2) (get_other (Ne.symm n1) q))
  refine ⟨⟨a, fr _ _ (Ne.symm L.d2) (by decide) (Ne.symm L.rp2) e⟩, ?_, ?_, ?_, fr _ _ (Ne.symm L.d5) (by decide) (Ne.symm L.rp5) L.o2, fr _ _ (Ne.symm L.d6) (by decide) (Ne.symm L.rp6) L.c2, ?_, L.d2, L.d6, L.r1, L.gd.app (by omega)⟩
  · exact fr _ _ (Ne.symm L.d1) (by decide) (Ne.symm L.r1) L.dr
  · rw [sumS_app]
    exact get_other L.rp3 (List.getElem?_set_self (by rw [List.length_set]; exact h3))
  · exact get_other L.rpd (get_other (Ne.symm L.d3) (List.getElem?_set_self hd))
  · rw [List.map_append]
    exact List.getElem?_set_self (by rw [List.length_set, List.length_set]; exact hrp)
theorem rowD_set {rows : List Row} {j : Nat} {r : Row} : (rows.map rowD).set j (rowD r) = (rows.set j r).map rowD := (List.map_set ..).symm
theorem LI.putd (L : LI cs ds h room na d rp rows) {j : Nat} {a : Int} {c0 c : Cl} (hj : rows[j]? = some (a, c0)) :
    LI cs ds (((h.set 3 (.ins (cs 0) (hf room (sumS rows + (cS c - cS c0)) na d))).set d (.dK (kvR (rows.set j (a, c))))).set rp (.lst ((rows.set j (a, c)).map rowD))) room na d rp (rows.set j (a, c)) := by
  obtain ⟨b, e⟩ := L.bag
  have hd := (List.getElem?_eq_some_iff.mp L.ce).1
  have h3 := (List.getElem?_eq_some_iff.mp L.ob).1
  have hrp := (List.getElem?_eq_some_iff.mp L.rw).1
  have fr : ∀ (j2 : Nat) (o : MO), j2 ≠ d → j2 ≠ 3 → j2 ≠ rp → h[j2]? = some o → (((h.set 3 (.ins (cs 0) (hf room (sumS rows + (cS c - cS c0)) na d))).set d (.dK (kvR (rows.set j (a, c))))).set rp (.lst ((rows.set j (a, c)).map rowD)))[j2]? = some o := fun j o n1 n2 n3 q => get_other (Ne.symm n3) (get_other (Ne.symm n1) (get_other (Ne.symm n2) q))
  refine ⟨⟨b, fr _ _ (Ne.symm L.d2) (by decide) (Ne.symm L.rp2) e⟩, fr _ _ (Ne.symm L.d1) (by decide) (Ne.symm L.r1) L.dr, ?_, ?_, fr _ _ (Ne.symm L.d5) (by decide) (Ne.symm L.rp5) L.o2, fr _ _ (Ne.symm L.d6) (by decide) (Ne.symm L.rp6) L.c2, ?_, L.d2, L.d6, L.r1, L.gd.set hj⟩
  · rw [sumS_set hj]
    exact get_other L.rp3 (get_other L.d3 (List.getElem?_set_self h3))
  · exact get_other L.rpd (List.getElem?_set_self (by rw [List.length_set]; exact hd))
  · exact List.getElem?_set_self (by rw [List.length_set, List.length_set]; exact hrp)
theorem LI.rowsAt (L : LI cs ds h room na d rp rows) {v : Int} (h0 : 0 ≤ v) (h1 : v < rows.length) : ∃ (j : Nat) (a : Int) (c0 : Cl), v = j ∧ rows[j]? = some (a, c0) ∧ atI (rows.map rowD) v = some (.tup [.int a, cD c0]) ∧ ixN rows.length v = some j := by
  obtain ⟨j, rfl⟩ : ∃ j : Nat, v = j := ⟨v.toNat, by omega⟩
  have hj : j < rows.length := by omega
  refine ⟨j, (rows[j]).1, (rows[j]).2, rfl, List.getElem?_eq_getElem hj, atI_nat ?_, ?_⟩
  · rw [List.getElem?_map, List.getElem?_eq_getElem hj]; rfl
  · unfold ixN
    rw [if_pos (by omega), if_pos (by omega), Int.toNat_natCast]
theorem rowD_ok (r : Row) : okD 6 (rowD r) = true := by
  show ([D.int r.1, cD r.2].all (okD 5)) = true
  simp only [List.all_cons, List.all_nil, cD_ok, show okD 5 (.int r.1) = true from rfl, Bool.and_self]
theorem rows_ok (rows : List Row) : (rows.map rowD).all (okD 6) = true := by
  rw [List.all_eq_true]
  intro x hx
  obtain ⟨r, _, rfl⟩ := List.mem_map.mp hx
  exact rowD_ok r
/-- x == [] -/
theorem dEq_nil {p q : Nat} {l : List D} {n : Nat} (hp : h[p]? = some (.lst l)) (hq : h[q]? = some (.lst [])) (ok : l.all (okD n) = true) (hn : n ≤ 60) : dEq (.ref p) (.ref q) h = .ok (.bl (decide (l = []))) h := by
  obtain ⟨ps, q1, q2, q3⟩ := okDs_py ok
  have c : PyData.canLay0 (.list ps) = true := by simp only [PyData.canLay0, q2]
  have s1 : SeqAt.shaped (.list ps) = true := shaped_ok c (by simp only [PyData.depth]; omega)
  have s2 : SeqAt.shaped (.list []) = true := shaped_ok rfl (by decide)
  have e1 : pyD 66 h (.ref p) = some (.list ps) := by
    show (match h[p]? with
      | some (.lst ds) => (ds.mapM (pyD 65 h)).map PyData.list
      | _ => none) = _
    rw [hp]
    show (l.mapM (pyD 65 h)).map PyData.list = _
    rw [q1 65 h (by omega)]; rfl
  have e2 : pyD 66 h (.ref q) = some (.list []) := by
    show (match h[q]? with
      | some (.lst ds) => (ds.mapM (pyD 65 h)).map PyData.list
      | _ => none) = _
    rw [hq]; rfl
  have e3 : PyData.eqv (.list ps) (.list []) = decide (l = []) := by
    have hlen : l = [] ↔ ps = [] := by
      have z := q1 60 [] hn
      cases l with
      | nil => cases z; exact ⟨fun _ => rfl, fun _ => rfl⟩
      | cons x l =>
        cases ps with
        | nil =>
          rw [List.mapM_cons] at z
          cases w1 : pyD 60 [] x with
          | none => rw [w1] at z; cases z
          | some y =>
            rw [w1] at z
            cases w2 : l.mapM (pyD 60 []) with
            | none => rw [w2] at z; cases z
            | some ys => rw [w2] at z; cases z
        | cons y ps => exact ⟨fun z => (by cases z), fun z => (by cases z)⟩
    cases ps with
    | nil => rw [decide_eq_true (hlen.mpr rfl)]; rfl
    | cons y ps =>
      rw [decide_eq_false (fun z => by cases hlen.mp z)]
      simp [PyData.eqv, PyData.eqvAll]
  unfold dEq eqB
  show (match eqDeep (.ref p) (.ref q) h with
    | some b => R.ok (D.bl b) h
    | none => R.bad) = _
  unfold eqDeep
  rw [e1, e2]
  simp only [s1, s2, Bool.and_self, if_true, e3]
theorem law_b2_ok {s0 s7 s8 s9 s10 : Option D} {T : Tl} (hd : inR 997 ds) (L : LI cs ds h room na d rp rows) (hl : rows.length < 63) :
    wpS (m_law_b2 cs [s0, some (.ref 2), some (.int room), some (.ref 3), some (.ref 5), some (.ref rp), some (.int na), s7, s8, s9, s10] h)
      (fun σ h' => ∃ (na' : Int) (d' rp' : Nat) (rows' : List Row) (s7 s8 s9 s10 : Option D), σ = [s0, some (.ref 2), some (.int room), some (.ref 3), some (.ref 5), some (.ref rp'), some (.int na'), s7, s8, s9, s10] ∧ LI cs ds h' room na' d' rp' rows' ∧ rows'.length ≤ rows.length + 1) T := by
  have hc : cs 0 ∈ [cs 0] := List.mem_singleton.mpr rfl
  have n1 : ((hf room (sumS rows) na d).lookup (("make" : Str))).isNone = true := rfl
  have n2 : ((hf room (sumS rows) na d).lookup (("put" : Str))).isNone = true := rfl
  unfold m_law_b2
  simp only [↓wp_seq, ↓wp_skip, ↓wp_drop, ↓wp_ret, ↓wp_retN, ↓wp_brk, ↓wp_cnt, ↓wp_if, ↓wp_asg, ↓wp_to, ↓wp_tos, ↓wp_toIx, ↓wp_aug, ↓wp_augK, ↓wp_fldSet, ↓wp_fldAug, ↓wp_var, ↓wp_c, ↓wp_op, ↓wp_un, ↓wp_nil, ↓wp_cons, ↓wp_tup, ↓wp_lst, ↓wp_dict0, ↓wp_dict, ↓wp_pairs0, ↓wp_pairs, ↓wp_call, ↓wp_callF, ↓wp_tru, ↓wp_bl, ↓wp_and, ↓wp_or, ↓wp_not, ↓wp_andV, ↓wp_orV, ↓wp_notV, ↓wp_part, ↓wp_noPart, ↓wp_sl, ↓wp_bm, ↓wp_ifE, ↓wp_fld, ↓wp_meth, ↓wp_make, ↓wp_lockE, ↓wp_rng1, ↓wp_rng2, ↓wp_seqI, ↓wpR_ok, ↓wpS_nx, ↓wpS_rt, List.getElem?_cons_zero, List.getElem?_cons_succ, List.set_cons_zero, List.set_cons_succ, List.length_cons, List.length_nil, ↓reduceIte, decide_eq_true_eq, ev_add, ev_iadd, ev_sub, ev_mod, ev_neg, ev_lt, ev_le, ev_gt, ev_ge, ev_eqI, ev_neI, ev_eqS, ev_neS, ev_isN, ev_int, ev_abs, ev_max, ev_min, ev_lenT, ev_lenC, ev_tupT, Int.reduceLT, Int.reduceLE, Int.reduceNeg, Int.reduceAdd, Int.reduceSub, Int.reduceEq, Nat.reduceAdd, Nat.reduceSub, and_self, ↓List.map_cons, ↓List.map_nil, ↓List.cons_append, ↓List.nil_append, List.replicate, ixT0, ixT1, ixT2, ixT3, ixTm1, ixTm2, ixTm3, onH_get, onH_set, onH_push, onH_len, mkB_get, mkB_set, mkB_push, mkB_len, mkB_next, Option.getD_some, Option.getD_none, sz0, sz1, sz2, sz3, sz4, sz5, sz6, sz7, sz8, sz9, ev_keyI, ev_keyS, ev_eqB, ev_neB, wp_one, wp_yes, wp_valsI, wp_keysI, wp_lcE]
  refine z_cell_ok cs hd L.dw fun c h1 w1 => ?_
  have L1 := L.grow w1
  refine size_of_ok cs c ?_
  refine z_size_ok cs c ?_
  simp only [↓wp_seq, ↓wp_skip, ↓wp_drop, ↓wp_ret, ↓wp_retN, ↓wp_brk, ↓wp_cnt, ↓wp_if, ↓wp_asg, ↓wp_to, ↓wp_tos, ↓wp_toIx, ↓wp_aug, ↓wp_augK, ↓wp_fldSet, ↓wp_fldAug, ↓wp_var, ↓wp_c, ↓wp_op, ↓wp_un, ↓wp_nil, ↓wp_cons, ↓wp_tup, ↓wp_lst, ↓wp_dict0, ↓wp_dict, ↓wp_pairs0, ↓wp_pairs, ↓wp_call, ↓wp_callF, ↓wp_tru, ↓wp_bl, ↓wp_and, ↓wp_or, ↓wp_not, ↓wp_andV, ↓wp_orV, ↓wp_notV, ↓wp_part, ↓wp_noPart, ↓wp_sl, ↓wp_bm, ↓wp_ifE, ↓wp_fld, ↓wp_meth, ↓wp_make, ↓wp_lockE, ↓wp_rng1, ↓wp_rng2, ↓wp_seqI, ↓wpR_ok, ↓wpS_nx, ↓wpS_rt, List.getElem?_cons_zero, List.getElem?_cons_succ, List.set_cons_zero, List.set_cons_succ, List.length_cons, List.length_nil, ↓reduceIte, decide_eq_true_eq, ev_add, ev_iadd, ev_sub, ev_mod, ev_neg, ev_lt, ev_le, ev_gt, ev_ge, ev_eqI, ev_neI, ev_eqS, ev_neS, ev_isN, ev_int, ev_abs, ev_max, ev_min, ev_lenT, ev_lenC, ev_tupT, Int.reduceLT, Int.reduceLE, Int.reduceNeg, Int.reduceAdd, Int.reduceSub, Int.reduceEq, Nat.reduceAdd, Nat.reduceSub, and_self, ↓List.map_cons, ↓List.map_nil, ↓List.cons_append, ↓List.nil_append, List.replicate, ixT0, ixT1, ixT2, ixT3, ixTm1, ixTm2, ixTm3, onH_get, onH_set, onH_push, onH_len, mkB_get, mkB_set, mkB_push, mkB_len, mkB_next, Option.getD_some, Option.getD_none, sz0, sz1, sz2, sz3, sz4, sz5, sz6, sz7, sz8, sz9, ev_keyI, ev_keyS, ev_eqB, ev_neB, wp_one, wp_yes, wp_valsI, wp_keysI, wp_lcE, decide_true, Bool.not_true, Bool.false_eq_true]
  refine nx cs hd L1.push.dw (by decide) fun t h2 t0 t1 w2 => ?_
  have L2 := L1.push.grow w2
  simp only [↓wp_seq, ↓wp_skip, ↓wp_drop, ↓wp_ret, ↓wp_retN, ↓wp_brk, ↓wp_cnt, ↓wp_if, ↓wp_asg, ↓wp_to, ↓wp_tos, ↓wp_toIx, ↓wp_aug, ↓wp_augK, ↓wp_fldSet, ↓wp_fldAug, ↓wp_var, ↓wp_c, ↓wp_op, ↓wp_un, ↓wp_nil, ↓wp_cons, ↓wp_tup, ↓wp_lst, ↓wp_dict0, ↓wp_dict, ↓wp_pairs0, ↓wp_pairs, ↓wp_call, ↓wp_callF, ↓wp_tru, ↓wp_bl, ↓wp_and, ↓wp_or, ↓wp_not, ↓wp_andV, ↓wp_orV, ↓wp_notV, ↓wp_part, ↓wp_noPart, ↓wp_sl, ↓wp_bm, ↓wp_ifE, ↓wp_fld, ↓wp_meth, ↓wp_make, ↓wp_lockE, ↓wp_rng1, ↓wp_rng2, ↓wp_seqI, ↓wpR_ok, ↓wpS_nx, ↓wpS_rt, List.getElem?_cons_zero, List.getElem?_cons_succ, List.set_cons_zero, List.set_cons_succ, List.length_cons, List.length_nil, ↓reduceIte, decide_eq_true_eq, ev_add, ev_iadd, ev_sub, ev_mod, ev_neg, ev_lt, ev_le, ev_gt, ev_ge, ev_eqI, ev_neI, ev_eqS, ev_neS, ev_isN, ev_int, ev_abs, ev_max, ev_min, ev_lenT, ev_lenC, ev_tupT, Int.reduceLT, Int.reduceLE, Int.reduceNeg, Int.reduceAdd, Int.reduceSub, Int.reduceEq, Nat.reduceAdd, Nat.reduceSub, and_self, ↓List.map_cons, ↓List.map_nil, ↓List.cons_append, ↓List.nil_append, List.replicate, ixT0, ixT1, ixT2, ixT3, ixTm1, ixTm2, ixTm3, onH_get, onH_set, onH_push, onH_len, mkB_get, mkB_set, mkB_push, mkB_len, mkB_next, Option.getD_some, Option.getD_none, sz0, sz1, sz2, sz3, sz4, sz5, sz6, sz7, sz8, sz9, ev_keyI, ev_keyS, ev_eqB, ev_neB, wp_one, wp_yes, wp_valsI, wp_keysI, wp_lcE]
  have Lx := L2.push (l := [.lst []])
  refine ite2 (fun _ => ?mk1) (fun _ => ?rest)
  case' rest =>
    rw [dEq_nil (get_push L2.rw) get_last (rows_ok _) (by decide), wpR_ok]
    simp only [decide_eq_true_eq]
    refine ite2 (fun _ => ?mk2) (fun hne => ?other)
    case other =>
      have hpos : 0 < rows.length := by
        cases rows with
        | nil => exact absurd rfl hne
        | cons r rows => exact Nat.succ_pos _
      refine ite2 (fun _ => ?_) (fun _ => ?_)
      · rw [ev_lenL Lx.rw, wpR_ok, List.length_map]
        refine nx cs hd Lx.dw (by omega) fun v h3 v0 v1 w3 => ?_
        have L3 := Lx.grow w3
        obtain ⟨j, a, c0, rfl, hj, hat, hix⟩ := L3.rowsAt v0 v1
        simp only [↓wp_seq, ↓wp_skip, ↓wp_drop, ↓wp_ret, ↓wp_retN, ↓wp_brk, ↓wp_cnt, ↓wp_if, ↓wp_asg, ↓wp_to, ↓wp_tos, ↓wp_toIx, ↓wp_aug, ↓wp_augK, ↓wp_fldSet, ↓wp_fldAug, ↓wp_var, ↓wp_c, ↓wp_op, ↓wp_un, ↓wp_nil, ↓wp_cons, ↓wp_tup, ↓wp_lst, ↓wp_dict0, ↓wp_dict, ↓wp_pairs0, ↓wp_pairs, ↓wp_call, ↓wp_callF, ↓wp_tru, ↓wp_bl, ↓wp_and, ↓wp_or, ↓wp_not, ↓wp_andV, ↓wp_orV, ↓wp_notV, ↓wp_part, ↓wp_noPart, ↓wp_sl, ↓wp_bm, ↓wp_ifE, ↓wp_fld, ↓wp_meth, ↓wp_make, ↓wp_lockE, ↓wp_rng1, ↓wp_rng2, ↓wp_seqI, ↓wpR_ok, ↓wpS_nx, ↓wpS_rt, List.getElem?_cons_zero, List.getElem?_cons_succ, List.set_cons_zero, List.set_cons_succ, List.length_cons, List.length_nil, ↓reduceIte, decide_eq_true_eq, ev_add, ev_iadd, ev_sub, ev_mod, ev_neg, ev_lt, ev_le, ev_gt, ev_ge, ev_eqI, ev_neI, ev_eqS, ev_neS, ev_isN, ev_int, ev_abs, ev_max, ev_min, ev_lenT, ev_lenC, ev_tupT, Int.reduceLT, Int.reduceLE, Int.reduceNeg, Int.reduceAdd, Int.reduceSub, Int.reduceEq, Nat.reduceAdd, Nat.reduceSub, and_self, ↓List.map_cons, ↓List.map_nil, ↓List.cons_append, ↓List.nil_append, List.replicate, ixT0, ixT1, ixT2, ixT3, ixTm1, ixTm2, ixTm3, onH_get, onH_set, onH_push, onH_len, mkB_get, mkB_set, mkB_push, mkB_len, mkB_next, Option.getD_some, Option.getD_none, sz0, sz1, sz2, sz3, sz4, sz5, sz6, sz7, sz8, sz9, ev_keyI, ev_keyS, ev_eqB, ev_neB, wp_one, wp_yes, wp_valsI, wp_keysI, wp_lcE, insD_at L3.ob hc, n2, ev_ixL L3.rw hat]
        refine put_ok cs L3.ob L3.ce L3.gd.nodup hj (by omega) fun _ => ?_
        have g : ((h3.set 3 (.ins (cs 0) (hf room (sumS rows + (cS c - cS c0)) na d))).set d (.dK (kvR (rows.set j (a, c)))))[rp]? = some (.lst (rows.map rowD)) := get_other (Ne.symm L3.rpd) (get_other (Ne.symm L3.rp3) L3.rw)
        have e : dSet (.ref rp) (.int (j : Int)) (.tup [.int a, cD c]) ((h3.set 3 (.ins (cs 0) (hf room (sumS rows + (cS c - cS c0)) na d))).set d (.dK (kvR (rows.set j (a, c))))) = some (((h3.set 3 (.ins (cs 0) (hf room (sumS rows + (cS c - cS c0)) na d))).set d (.dK (kvR (rows.set j (a, c))))).set rp (.lst ((rows.set j (a, c)).map rowD))) := by
          simp only [dSet, g, List.length_map, hix, Option.map]
          rw [← rowD_set]
          rfl
        simp only [↓wp_seq, ↓wp_skip, ↓wp_drop, ↓wp_ret, ↓wp_retN, ↓wp_brk, ↓wp_cnt, ↓wp_if, ↓wp_asg, ↓wp_to, ↓wp_tos, ↓wp_toIx, ↓wp_aug, ↓wp_augK, ↓wp_fldSet, ↓wp_fldAug, ↓wp_var, ↓wp_c, ↓wp_op, ↓wp_un, ↓wp_nil, ↓wp_cons, ↓wp_tup, ↓wp_lst, ↓wp_dict0, ↓wp_dict, ↓wp_pairs0, ↓wp_pairs, ↓wp_call, ↓wp_callF, ↓wp_tru, ↓wp_bl, ↓wp_and, ↓wp_or, ↓wp_not, ↓wp_andV, ↓wp_orV, ↓wp_notV, ↓wp_part, ↓wp_noPart, ↓wp_sl, ↓wp_bm, ↓wp_ifE, ↓wp_fld, ↓wp_meth, ↓wp_make, ↓wp_lockE, ↓wp_rng1, ↓wp_rng2, ↓wp_seqI, ↓wpR_ok, ↓wpS_nx, ↓wpS_rt, List.getElem?_cons_zero, List.getElem?_cons_succ, List.set_cons_zero, List.set_cons_succ, List.length_cons, List.length_nil, ↓reduceIte, decide_eq_true_eq, ev_add, ev_iadd, ev_sub, ev_mod, ev_neg, ev_lt, ev_le, ev_gt, ev_ge, ev_eqI, ev_neI, ev_eqS, ev_neS, ev_isN, ev_int, ev_abs, ev_max, ev_min, ev_lenT, ev_lenC, ev_tupT, Int.reduceLT, Int.reduceLE, Int.reduceNeg, Int.reduceAdd, Int.reduceSub, Int.reduceEq, Nat.reduceAdd, Nat.reduceSub, and_self, ↓List.map_cons, ↓List.map_nil, ↓List.cons_append, ↓List.nil_append, List.replicate, ixT0, ixT1, ixT2, ixT3, ixTm1, ixTm2, ixTm3, onH_get, onH_set, onH_push, onH_len, mkB_get, mkB_set, mkB_push, mkB_len, mkB_next, Option.getD_some, Option.getD_none, sz0, sz1, sz2, sz3, sz4, sz5, sz6, sz7, sz8, sz9, ev_keyI, ev_keyS, ev_eqB, ev_neB, wp_one, wp_yes, wp_valsI, wp_keysI, wp_lcE, ev_ixL g hat, e]
        refine law_r1_ok (L3.putd hj) (by rw [List.length_set]; omega) fun l => ?_
        exact ⟨_, _, _, _, _, _, _, _, rfl, (L3.putd hj).push, by rw [List.length_set]; omega⟩
      · have h6 : 6 < (h2 ++ [MO.lst []]).length := (List.getElem?_eq_some_iff.mp Lx.c2).1
        refine renewed_ok cs hd Lx.dw (by decide) Lx.ob Lx.rw Lx.rp2 (by omega) fun nr above pn d2 h3 g hn ob3 ce3 rw3 hd3 hpn hb3 fr => ?_
        have L3 : LI cs ds h3 room above d2 pn nr := ⟨hb3, fr _ _ (by decide) (by decide) Lx.dr, ob3, ce3, fr _ _ (by decide) (by decide) Lx.o2, fr _ _ (by decide) (by decide) Lx.c2, rw3, by omega, by omega, by omega, g⟩
        simp only [↓wp_seq, ↓wp_skip, ↓wp_drop, ↓wp_ret, ↓wp_retN, ↓wp_brk, ↓wp_cnt, ↓wp_if, ↓wp_asg, ↓wp_to, ↓wp_tos, ↓wp_toIx, ↓wp_aug, ↓wp_augK, ↓wp_fldSet, ↓wp_fldAug, ↓wp_var, ↓wp_c, ↓wp_op, ↓wp_un, ↓wp_nil, ↓wp_cons, ↓wp_tup, ↓wp_lst, ↓wp_dict0, ↓wp_dict, ↓wp_pairs0, ↓wp_pairs, ↓wp_call, ↓wp_callF, ↓wp_tru, ↓wp_bl, ↓wp_and, ↓wp_or, ↓wp_not, ↓wp_andV, ↓wp_orV, ↓wp_notV, ↓wp_part, ↓wp_noPart, ↓wp_sl, ↓wp_bm, ↓wp_ifE, ↓wp_fld, ↓wp_meth, ↓wp_make, ↓wp_lockE, ↓wp_rng1, ↓wp_rng2, ↓wp_seqI, ↓wpR_ok, ↓wpS_nx, ↓wpS_rt, List.getElem?_cons_zero, List.getElem?_cons_succ, List.set_cons_zero, List.set_cons_succ, List.length_cons, List.length_nil, ↓reduceIte, decide_eq_true_eq, ev_add, ev_iadd, ev_sub, ev_mod, ev_neg, ev_lt, ev_le, ev_gt, ev_ge, ev_eqI, ev_neI, ev_eqS, ev_neS, ev_isN, ev_int, ev_abs, ev_max, ev_min, ev_lenT, ev_lenC, ev_tupT, Int.reduceLT, Int.reduceLE, Int.reduceNeg, Int.reduceAdd, Int.reduceSub, Int.reduceEq, Nat.reduceAdd, Nat.reduceSub, and_self, ↓List.map_cons, ↓List.map_nil, ↓List.cons_append, ↓List.nil_append, List.replicate, ixT0, ixT1, ixT2, ixT3, ixTm1, ixTm2, ixTm3, onH_get, onH_set, onH_push, onH_len, mkB_get, mkB_set, mkB_push, mkB_len, mkB_next, Option.getD_some, Option.getD_none, sz0, sz1, sz2, sz3, sz4, sz5, sz6, sz7, sz8, sz9, ev_keyI, ev_keyS, ev_eqB, ev_neB, wp_one, wp_yes, wp_valsI, wp_keysI, wp_lcE, setAll]
        refine law_r1_ok L3 (by omega) fun l => ?_
        exact ⟨_, _, _, _, _, _, _, _, rfl, L3.push, by omega⟩
    case' mk2 => have Lm := Lx
  case' mk1 => have Lm := L2
  all_goals
    simp only [↓wp_seq, ↓wp_skip, ↓wp_drop, ↓wp_ret, ↓wp_retN, ↓wp_brk, ↓wp_cnt, ↓wp_if, ↓wp_asg, ↓wp_to, ↓wp_tos, ↓wp_toIx, ↓wp_aug, ↓wp_augK, ↓wp_fldSet, ↓wp_fldAug, ↓wp_var, ↓wp_c, ↓wp_op, ↓wp_un, ↓wp_nil, ↓wp_cons, ↓wp_tup, ↓wp_lst, ↓wp_dict0, ↓wp_dict, ↓wp_pairs0, ↓wp_pairs, ↓wp_call, ↓wp_callF, ↓wp_tru, ↓wp_bl, ↓wp_and, ↓wp_or, ↓wp_not, ↓wp_andV, ↓wp_orV, ↓wp_notV, ↓wp_part, ↓wp_noPart, ↓wp_sl, ↓wp_bm, ↓wp_ifE, ↓wp_fld, ↓wp_meth, ↓wp_make, ↓wp_lockE, ↓wp_rng1, ↓wp_rng2, ↓wp_seqI, ↓wpR_ok, ↓wpS_nx, ↓wpS_rt, List.getElem?_cons_zero, List.getElem?_cons_succ, List.set_cons_zero, List.set_cons_succ, List.length_cons, List.length_nil, ↓reduceIte, decide_eq_true_eq, ev_add, ev_iadd, ev_sub, ev_mod, ev_neg, ev_lt, ev_le, ev_gt, ev_ge, ev_eqI, ev_neI, ev_eqS, ev_neS, ev_isN, ev_int, ev_abs, ev_max, ev_min, ev_lenT, ev_lenC, ev_tupT, Int.reduceLT, Int.reduceLE, Int.reduceNeg, Int.reduceAdd, Int.reduceSub, Int.reduceEq, Nat.reduceAdd, Nat.reduceSub, and_self, ↓List.map_cons, ↓List.map_nil, ↓List.cons_append, ↓List.nil_append, List.replicate, ixT0, ixT1, ixT2, ixT3, ixTm1, ixTm2, ixTm3, onH_get, onH_set, onH_push, onH_len, mkB_get, mkB_set, mkB_push, mkB_len, mkB_next, Option.getD_some, Option.getD_none, sz0, sz1, sz2, sz3, sz4, sz5, sz6, sz7, sz8, sz9, ev_keyI, ev_keyS, ev_eqB, ev_neB, wp_one, wp_yes, wp_valsI, wp_keysI, wp_lcE, insD_at Lm.ob hc, n1]
    refine make_ok cs Lm.ob Lm.ce Lm.gd.notin (by omega) ?_
    simp only [↓wp_seq, ↓wp_skip, ↓wp_drop, ↓wp_ret, ↓wp_retN, ↓wp_brk, ↓wp_cnt, ↓wp_if, ↓wp_asg, ↓wp_to, ↓wp_tos, ↓wp_toIx, ↓wp_aug, ↓wp_augK, ↓wp_fldSet, ↓wp_fldAug, ↓wp_var, ↓wp_c, ↓wp_op, ↓wp_un, ↓wp_nil, ↓wp_cons, ↓wp_tup, ↓wp_lst, ↓wp_dict0, ↓wp_dict, ↓wp_pairs0, ↓wp_pairs, ↓wp_call, ↓wp_callF, ↓wp_tru, ↓wp_bl, ↓wp_and, ↓wp_or, ↓wp_not, ↓wp_andV, ↓wp_orV, ↓wp_notV, ↓wp_part, ↓wp_noPart, ↓wp_sl, ↓wp_bm, ↓wp_ifE, ↓wp_fld, ↓wp_meth, ↓wp_make, ↓wp_lockE, ↓wp_rng1, ↓wp_rng2, ↓wp_seqI, ↓wpR_ok, ↓wpS_nx, ↓wpS_rt, List.getElem?_cons_zero, List.getElem?_cons_succ, List.set_cons_zero, List.set_cons_succ, List.length_cons, List.length_nil, ↓reduceIte, decide_eq_true_eq, ev_add, ev_iadd, ev_sub, ev_mod, ev_neg, ev_lt, ev_le, ev_gt, ev_ge, ev_eqI, ev_neI, ev_eqS, ev_neS, ev_isN, ev_int, ev_abs, ev_max, ev_min, ev_lenT, ev_lenC, ev_tupT, Int.reduceLT, Int.reduceLE, Int.reduceNeg, Int.reduceAdd, Int.reduceSub, Int.reduceEq, Nat.reduceAdd, Nat.reduceSub, and_self, ↓List.map_cons, ↓List.map_nil, ↓List.cons_append, ↓List.nil_append, List.replicate, ixT0, ixT1, ixT2, ixT3, ixTm1, ixTm2, ixTm3, onH_get, onH_set, onH_push, onH_len, mkB_get, mkB_set, mkB_push, mkB_len, mkB_next, Option.getD_some, Option.getD_none, sz0, sz1, sz2, sz3, sz4, sz5, sz6, sz7, sz8, sz9, ev_keyI, ev_keyS, ev_eqB, ev_neB, wp_one, wp_yes, wp_valsI, wp_keysI, wp_lcE, decide_true, Bool.not_true, Bool.false_eq_true]
    have g := get_other (o := .ins (cs 0) (hf room (sumS rows + cS c) (na + 1) d)) (Ne.symm Lm.rp3) (get_other (o := .dK (kvR (rows ++ [(na, c)]))) (Ne.symm Lm.rpd) Lm.rw)
    rw [if_pos (ev_tyL g), ev_app g (by rw [List.length_map]; exact Nat.lt_trans (show rows.length < 64 by omega) (by decide)), wpR_ok]
    refine law_r1_ok (Lm.made c) (by rw [List.length_append]; exact Nat.succ_lt_succ hl) fun l => ?_
    exact ⟨_, _, _, _, _, _, _, _, rfl, (Lm.made c).push, by rw [List.length_append]; exact Nat.le_refl _⟩
end
theorem law_true (cs : Nat → Addr) (ns : List Int) (hl : ns.length ≤ 63) (hb : ∀ z ∈ ns, Builtin.Int.intBits z ≤ 1048576) : ∃ h', f_law cs [.cst (ns.map D.int)] [] = .ok (.bl true) h' := by
  have key : wpR (f_law cs [.cst (ns.map D.int)] []) (fun d _ => d = .bl true) X0 := by
    unfold f_law m_law
    obtain ⟨js, ds, e, hd⟩ := drawsB_ok (h := []) (ns := ns) (m := 700) hl (by decide)
    have e2 : runB 8 m_drawsB [.cst (ns.map .int), .int 700] [] = .ok (.ref 1) [.lst (js.map .int), .lst (ds.map .int)] := e
    simp only [↓wp_seq, ↓wp_skip, ↓wp_drop, ↓wp_ret, ↓wp_retN, ↓wp_brk, ↓wp_cnt, ↓wp_if, ↓wp_asg, ↓wp_to, ↓wp_tos, ↓wp_toIx, ↓wp_aug, ↓wp_augK, ↓wp_fldSet, ↓wp_fldAug, ↓wp_var, ↓wp_c, ↓wp_op, ↓wp_un, ↓wp_nil, ↓wp_cons, ↓wp_tup, ↓wp_lst, ↓wp_dict0, ↓wp_dict, ↓wp_pairs0, ↓wp_pairs, ↓wp_call, ↓wp_callF, ↓wp_tru, ↓wp_bl, ↓wp_and, ↓wp_or, ↓wp_not, ↓wp_andV, ↓wp_orV, ↓wp_notV, ↓wp_part, ↓wp_noPart, ↓wp_sl, ↓wp_bm, ↓wp_ifE, ↓wp_fld, ↓wp_meth, ↓wp_make, ↓wp_lockE, ↓wp_rng1, ↓wp_rng2, ↓wp_seqI, ↓wpR_ok, ↓wpS_nx, ↓wpS_rt, List.getElem?_cons_zero, List.getElem?_cons_succ, List.set_cons_zero, List.set_cons_succ, List.length_cons, List.length_nil, ↓reduceIte, decide_eq_true_eq, ev_add, ev_iadd, ev_sub, ev_mod, ev_neg, ev_lt, ev_le, ev_gt, ev_ge, ev_eqI, ev_neI, ev_eqS, ev_neS, ev_isN, ev_int, ev_abs, ev_max, ev_min, ev_lenT, ev_lenC, ev_tupT, Int.reduceLT, Int.reduceLE, Int.reduceNeg, Int.reduceAdd, Int.reduceSub, Int.reduceEq, Nat.reduceAdd, Nat.reduceSub, and_self, ↓List.map_cons, ↓List.map_nil, ↓List.cons_append, ↓List.nil_append, List.replicate, ixT0, ixT1, ixT2, ixT3, ixTm1, ixTm2, ixTm3, onH_get, onH_set, onH_push, onH_len, mkB_get, mkB_set, mkB_push, mkB_len, mkB_next, Option.getD_some, Option.getD_none, sz0, sz1, sz2, sz3, sz4, sz5, sz6, sz7, sz8, sz9, ev_keyI, ev_keyS, ev_eqB, ev_neB, wp_one, wp_yes, wp_valsI, wp_keysI, wp_lcE, ↓wp_runB, ↓wp_forE, fdr, e2]
    rw [if_pos (by decide)]
    have em : mergeD [] [((Sum.inr "draws" : Key), D.ref 1), (Sum.inr "at", .int 0)] = [(.inr "draws", .ref 1), (.inr "at", .int (0 : Nat))] := rfl
    rw [em]
    have en : f_z_next cs [.ref 2, .int 60] [.lst (js.map .int), .lst (ds.map .int), bagB 1 0] = .ok (.int (nxB ds 0 60)) [.lst (js.map .int), .lst (ds.map .int), bagB 1 1] := by
      rw [fnx, nextB_ok (r := 1) (a := 0) rfl rfl (by decide)]
      rfl
    rw [en, wpR_ok]
    generalize nxB ds 0 60 = room
    refine init_ok cs ?_ get_last
    refine init_ok cs ?_ get_last
    have em2 : (ns.map D.int).length = ns.length := List.length_map _
    rw [em2]
    rw [if_pos (by split <;> omega)]
    refine wp_forR (fun j σ h' => ∃ (na' : Int) (d' rp' : Nat) (rows' : List Row) (s7 s8 s9 s10 : Option D), σ = [some (.cst (ns.map .int)), some (.ref 2), some (.int room), some (.ref 3), some (.ref 5), some (.ref rp'), some (.int na'), s7, s8, s9, s10] ∧ LI cs ds h' room na' d' rp' rows' ∧ rows'.length ≤ j) ?_ ?_ ?_
    · refine ⟨0, 4, 7, [], _, _, _, _, rfl, ⟨⟨1, rfl⟩, rfl, rfl, rfl, rfl, rfl, rfl, by decide, by decide, by decide, List.Pairwise.nil, fun _ h => by cases h⟩, Nat.le_refl _⟩
    · rintro j σ h' ⟨na', d', rp', rows', s7, s8, s9, s10, rfl, L, hj2⟩ hj
      have hj3 : j < 60 := by
        have q : (20 + if (ns.length : Int) < 40 then (ns.length : Int) else 40) ≤ 60 := by split <;> omega
        omega
      simp only [↓wp_seq, ↓wp_skip, ↓wp_drop, ↓wp_ret, ↓wp_retN, ↓wp_brk, ↓wp_cnt, ↓wp_if, ↓wp_asg, ↓wp_to, ↓wp_tos, ↓wp_toIx, ↓wp_aug, ↓wp_augK, ↓wp_fldSet, ↓wp_fldAug, ↓wp_var, ↓wp_c, ↓wp_op, ↓wp_un, ↓wp_nil, ↓wp_cons, ↓wp_tup, ↓wp_lst, ↓wp_dict0, ↓wp_dict, ↓wp_pairs0, ↓wp_pairs, ↓wp_call, ↓wp_callF, ↓wp_tru, ↓wp_bl, ↓wp_and, ↓wp_or, ↓wp_not, ↓wp_andV, ↓wp_orV, ↓wp_notV, ↓wp_part, ↓wp_noPart, ↓wp_sl, ↓wp_bm, ↓wp_ifE, ↓wp_fld, ↓wp_meth, ↓wp_make, ↓wp_lockE, ↓wp_rng1, ↓wp_rng2, ↓wp_seqI, ↓wpR_ok, ↓wpS_nx, ↓wpS_rt, List.getElem?_cons_zero, List.getElem?_cons_succ, List.set_cons_zero, List.set_cons_succ, List.length_cons, List.length_nil, ↓reduceIte, decide_eq_true_eq, ev_add, ev_iadd, ev_sub, ev_mod, ev_neg, ev_lt, ev_le, ev_gt, ev_ge, ev_eqI, ev_neI, ev_eqS, ev_neS, ev_isN, ev_int, ev_abs, ev_max, ev_min, ev_lenT, ev_lenC, ev_tupT, Int.reduceLT, Int.reduceLE, Int.reduceNeg, Int.reduceAdd, Int.reduceSub, Int.reduceEq, Nat.reduceAdd, Nat.reduceSub, and_self, ↓List.map_cons, ↓List.map_nil, ↓List.cons_append, ↓List.nil_append, List.replicate, ixT0, ixT1, ixT2, ixT3, ixTm1, ixTm2, ixTm3, onH_get, onH_set, onH_push, onH_len, mkB_get, mkB_set, mkB_push, mkB_len, mkB_next, Option.getD_some, Option.getD_none, sz0, sz1, sz2, sz3, sz4, sz5, sz6, sz7, sz8, sz9, ev_keyI, ev_keyS, ev_eqB, ev_neB, wp_one, wp_yes, wp_valsI, wp_keysI, wp_lcE]
      refine wpS_mono (law_b2_ok hd L (by omega)) ?_
      rintro σ h2 ⟨na2, d2, rp2, rows2, s7, s8, s9, s10, rfl, L2, hr2⟩
      exact ⟨_, _, _, _, _, _, _, _, rfl, L2, by omega⟩
    · rintro σ h' ⟨na', d', rp', rows', s7, s8, s9, s10, rfl, L, hj2⟩
      unfold m_law_r3
      simp only [↓wp_seq, ↓wp_skip, ↓wp_drop, ↓wp_ret, ↓wp_retN, ↓wp_brk, ↓wp_cnt, ↓wp_if, ↓wp_asg, ↓wp_to, ↓wp_tos, ↓wp_toIx, ↓wp_aug, ↓wp_augK, ↓wp_fldSet, ↓wp_fldAug, ↓wp_var, ↓wp_c, ↓wp_op, ↓wp_un, ↓wp_nil, ↓wp_cons, ↓wp_tup, ↓wp_lst, ↓wp_dict0, ↓wp_dict, ↓wp_pairs0, ↓wp_pairs, ↓wp_call, ↓wp_callF, ↓wp_tru, ↓wp_bl, ↓wp_and, ↓wp_or, ↓wp_not, ↓wp_andV, ↓wp_orV, ↓wp_notV, ↓wp_part, ↓wp_noPart, ↓wp_sl, ↓wp_bm, ↓wp_ifE, ↓wp_fld, ↓wp_meth, ↓wp_make, ↓wp_lockE, ↓wp_rng1, ↓wp_rng2, ↓wp_seqI, ↓wpR_ok, ↓wpS_nx, ↓wpS_rt, List.getElem?_cons_zero, List.getElem?_cons_succ, List.set_cons_zero, List.set_cons_succ, List.length_cons, List.length_nil, ↓reduceIte, decide_eq_true_eq, ev_add, ev_iadd, ev_sub, ev_mod, ev_neg, ev_lt, ev_le, ev_gt, ev_ge, ev_eqI, ev_neI, ev_eqS, ev_neS, ev_isN, ev_int, ev_abs, ev_max, ev_min, ev_lenT, ev_lenC, ev_tupT, Int.reduceLT, Int.reduceLE, Int.reduceNeg, Int.reduceAdd, Int.reduceSub, Int.reduceEq, Nat.reduceAdd, Nat.reduceSub, and_self, ↓List.map_cons, ↓List.map_nil, ↓List.cons_append, ↓List.nil_append, List.replicate, ixT0, ixT1, ixT2, ixT3, ixTm1, ixTm2, ixTm3, onH_get, onH_set, onH_push, onH_len, mkB_get, mkB_set, mkB_push, mkB_len, mkB_next, Option.getD_some, Option.getD_none, sz0, sz1, sz2, sz3, sz4, sz5, sz6, sz7, sz8, sz9, ev_keyI, ev_keyS, ev_eqB, ev_neB, wp_one, wp_yes, wp_valsI, wp_keysI, wp_lcE]
  obtain ⟨d, h', e, rfl⟩ := wpR_elim key
  exact ⟨h', e⟩
end K65

namespace K65
open PySem PySem.Spec PyProof.Rows L2 FL
def csOf (C : List Addr) : Nat → Addr := fun i => C.getD i 0
def spLaw (K : PySem.W.Frag) : Sp := fun vs H Q E => ∀ cs, spF K 1 (f_law cs) vs H Q E
theorem all_mk {l : PySem.W.OpenLaw} {w : World} {K : PySem.W.Frag} {h : Heap} {mg : Str → Option Value} {fa : Addr} {C0 : Addr} (X : K.In h) (G : h.Ns mainGlobals mg) (hfa : mg "law" = some (.ref fa))
    {f0 : Addr} {od0 an0 : Option Addr} {sl0 : Array (Option Value)} {oc0 kV0 dc0 pm0 cd0 ct0 : Value}
    {f1 : Addr} {od1 an1 : Option Addr} {sl1 : Array (Option Value)} {oc1 kV1 dc1 pm1 cd1 ct1 : Value}
    {f2 : Addr} {od2 an2 : Option Addr} {sl2 : Array (Option Value)} {oc2 kV2 dc2 pm2 cd2 ct2 : Value}
    {f3 : Addr} {od3 an3 : Option Addr} {sl3 : Array (Option Value)} {oc3 kV3 dc3 pm3 cd3 ct3 : Value}
    {f4 : Addr} {od4 an4 : Option Addr} {sl4 : Array (Option Value)} {oc4 kV4 dc4 pm4 cd4 ct4 : Value}
    {f5 : Addr} {od5 an5 : Option Addr} {sl5 : Array (Option Value)} {oc5 kV5 dc5 pm5 cd5 ct5 : Value}
    {f6 : Addr} {od6 an6 : Option Addr} {sl6 : Array (Option Value)} {oc6 kV6 dc6 pm6 cd6 ct6 : Value}
    {f7 : Addr} {od7 an7 : Option Addr} {sl7 : Array (Option Value)} {oc7 kV7 dc7 pm7 cd7 ct7 : Value}
    {f8 : Addr} {od8 an8 : Option Addr} {sl8 : Array (Option Value)} {oc8 kV8 dc8 pm8 cd8 ct8 : Value}
    {f9 : Addr} {od9 an9 : Option Addr} {sl9 : Array (Option Value)} {oc9 kV9 dc9 pm9 cd9 ct9 : Value}
    {f10 : Addr} {od10 an10 : Option Addr} {sl10 : Array (Option Value)} {oc10 kV10 dc10 pm10 cd10 ct10 : Value}
    {f11 : Addr} {od11 an11 : Option Addr} {sl11 : Array (Option Value)} {oc11 kV11 dc11 pm11 cd11 ct11 : Value}
    {f12 : Addr} {od12 an12 : Option Addr} {sl12 : Array (Option Value)} {oc12 kV12 dc12 pm12 cd12 ct12 : Value}
    {f13 : Addr} {od13 an13 : Option Addr} {sl13 : Array (Option Value)} {oc13 kV13 dc13 pm13 cd13 ct13 : Value}
    {f14 : Addr} {od14 an14 : Option Addr} {sl14 : Array (Option Value)} {oc14 kV14 dc14 pm14 cd14 ct14 : Value}
    {f15 : Addr} {od15 an15 : Option Addr} {sl15 : Array (Option Value)} {oc15 kV15 dc15 pm15 cd15 ct15 : Value}
    (aC0 : PySem.W.nsIn K mainGlobals "Heap" = some (some (.ref C0)))
    (a0 : PySem.W.nsIn K mainGlobals "size_of" = some (some (.ref f0)))
    (l0 : K.lookup f0 = some ⟨oc0, od0, .func (PySem.W.fnOf "size_of" "size_of" (defArgs s_size_of) (defBody s_size_of) (defScope s_size_of) .none kV0 dc0 pm0 an0 cd0 ct0), sl0⟩)
    (c0 : PySem.W.codeIn K cd0 "size_of" = true)
    (k0 : PySem.W.keepIn K (.ref f0) = true)
    (a1 : PySem.W.nsIn K mainGlobals "_law_draws" = some (some (.ref f1)))
    (l1 : K.lookup f1 = some ⟨oc1, od1, .func (PySem.W.fnOf "_law_draws" "_law_draws" (defArgs s_z_draws) (defBody s_z_draws) (defScope s_z_draws) .none kV1 dc1 pm1 an1 cd1 ct1), sl1⟩)
    (c1 : PySem.W.codeIn K cd1 "_law_draws" = true)
    (k1 : PySem.W.keepIn K (.ref f1) = true)
    (a2 : PySem.W.nsIn K mainGlobals "_law_next" = some (some (.ref f2)))
    (l2 : K.lookup f2 = some ⟨oc2, od2, .func (PySem.W.fnOf "_law_next" "_law_next" (defArgs s_z_next) (defBody s_z_next) (defScope s_z_next) .none kV2 dc2 pm2 an2 cd2 ct2), sl2⟩)
    (c2 : PySem.W.codeIn K cd2 "_law_next" = true)
    (k2 : PySem.W.keepIn K (.ref f2) = true)
    (a3 : PySem.W.nsIn K mainGlobals "_law_cell" = some (some (.ref f3)))
    (l3 : K.lookup f3 = some ⟨oc3, od3, .func (PySem.W.fnOf "_law_cell" "_law_cell" (defArgs s_z_cell) (defBody s_z_cell) (defScope s_z_cell) .none kV3 dc3 pm3 an3 cd3 ct3), sl3⟩)
    (c3 : PySem.W.codeIn K cd3 "_law_cell" = true)
    (k3 : PySem.W.keepIn K (.ref f3) = true)
    (a4 : PySem.W.nsIn K mainGlobals "_law_size" = some (some (.ref f4)))
    (l4 : K.lookup f4 = some ⟨oc4, od4, .func (PySem.W.fnOf "_law_size" "_law_size" (defArgs s_z_size) (defBody s_z_size) (defScope s_z_size) .none kV4 dc4 pm4 an4 cd4 ct4), sl4⟩)
    (c4 : PySem.W.codeIn K cd4 "_law_size" = true)
    (k4 : PySem.W.keepIn K (.ref f4) = true)
    (a5 : PySem.W.findIn K (.ref C0) "addresses" = some (some (.ref f5)))
    (i5 : PySem.W.isFn K (.ref f5) = true)
    (l5 : K.lookup f5 = some ⟨oc5, od5, .func (PySem.W.fnOf "addresses" "Heap.addresses" (defArgs s_Heap_addresses) (defBody s_Heap_addresses) (defScope s_Heap_addresses) .none kV5 dc5 pm5 an5 cd5 ct5), sl5⟩)
    (c5 : PySem.W.codeIn K cd5 "Heap.addresses" = true)
    (k5 : PySem.W.keepIn K (.ref f5) = true)
    (a6 : PySem.W.findIn K (.ref C0) "cell" = some (some (.ref f6)))
    (i6 : PySem.W.isFn K (.ref f6) = true)
    (l6 : K.lookup f6 = some ⟨oc6, od6, .func (PySem.W.fnOf "cell" "Heap.cell" (defArgs s_Heap_cell) (defBody s_Heap_cell) (defScope s_Heap_cell) .none kV6 dc6 pm6 an6 cd6 ct6), sl6⟩)
    (c6 : PySem.W.codeIn K cd6 "Heap.cell" = true)
    (k6 : PySem.W.keepIn K (.ref f6) = true)
    (a7 : PySem.W.findIn K (.ref C0) "fits" = some (some (.ref f7)))
    (i7 : PySem.W.isFn K (.ref f7) = true)
    (l7 : K.lookup f7 = some ⟨oc7, od7, .func (PySem.W.fnOf "fits" "Heap.fits" (defArgs s_Heap_fits) (defBody s_Heap_fits) (defScope s_Heap_fits) .none kV7 dc7 pm7 an7 cd7 ct7), sl7⟩)
    (c7 : PySem.W.codeIn K cd7 "Heap.fits" = true)
    (k7 : PySem.W.keepIn K (.ref f7) = true)
    (a8 : PySem.W.nsIn K mainGlobals "_law_agrees" = some (some (.ref f8)))
    (l8 : K.lookup f8 = some ⟨oc8, od8, .func (PySem.W.fnOf "_law_agrees" "_law_agrees" (defArgs s_z_agrees) (defBody s_z_agrees) (defScope s_z_agrees) .none kV8 dc8 pm8 an8 cd8 ct8), sl8⟩)
    (c8 : PySem.W.codeIn K cd8 "_law_agrees" = true)
    (k8 : PySem.W.keepIn K (.ref f8) = true)
    (a9 : PySem.W.findIn K (.ref C0) "renew" = some (some (.ref f9)))
    (i9 : PySem.W.isFn K (.ref f9) = true)
    (l9 : K.lookup f9 = some ⟨oc9, od9, .func (PySem.W.fnOf "renew" "Heap.renew" (defArgs s_Heap_renew) (defBody s_Heap_renew) (defScope s_Heap_renew) .none kV9 dc9 pm9 an9 cd9 ct9), sl9⟩)
    (c9 : PySem.W.codeIn K cd9 "Heap.renew" = true)
    (k9 : PySem.W.keepIn K (.ref f9) = true)
    (a10 : PySem.W.nsIn K mainGlobals "_law_renewed" = some (some (.ref f10)))
    (l10 : K.lookup f10 = some ⟨oc10, od10, .func (PySem.W.fnOf "_law_renewed" "_law_renewed" (defArgs s_z_renewed) (defBody s_z_renewed) (defScope s_z_renewed) .none kV10 dc10 pm10 an10 cd10 ct10), sl10⟩)
    (c10 : PySem.W.codeIn K cd10 "_law_renewed" = true)
    (k10 : PySem.W.keepIn K (.ref f10) = true)
    (a11 : PySem.W.findIn K (.ref C0) "__init__" = some (some (.ref f11)))
    (i11 : PySem.W.isFn K (.ref f11) = true)
    (l11 : K.lookup f11 = some ⟨oc11, od11, .func (PySem.W.fnOf "__init__" "Heap.__init__" (defArgs s_Heap_init) (defBody s_Heap_init) (defScope s_Heap_init) .none kV11 dc11 pm11 an11 cd11 ct11), sl11⟩)
    (c11 : PySem.W.codeIn K cd11 "Heap.__init__" = true)
    (k11 : PySem.W.keepIn K (.ref f11) = true)
    (a12 : PySem.W.findIn K (.ref C0) "make" = some (some (.ref f12)))
    (i12 : PySem.W.isFn K (.ref f12) = true)
    (l12 : K.lookup f12 = some ⟨oc12, od12, .func (PySem.W.fnOf "make" "Heap.make" (defArgs s_Heap_make) (defBody s_Heap_make) (defScope s_Heap_make) .none kV12 dc12 pm12 an12 cd12 ct12), sl12⟩)
    (c12 : PySem.W.codeIn K cd12 "Heap.make" = true)
    (k12 : PySem.W.keepIn K (.ref f12) = true)
    (a13 : PySem.W.findIn K (.ref C0) "put" = some (some (.ref f13)))
    (i13 : PySem.W.isFn K (.ref f13) = true)
    (l13 : K.lookup f13 = some ⟨oc13, od13, .func (PySem.W.fnOf "put" "Heap.put" (defArgs s_Heap_put) (defBody s_Heap_put) (defScope s_Heap_put) .none kV13 dc13 pm13 an13 cd13 ct13), sl13⟩)
    (c13 : PySem.W.codeIn K cd13 "Heap.put" = true)
    (k13 : PySem.W.keepIn K (.ref f13) = true)
    (a14 : PySem.W.nsIn K mainGlobals "law" = some (some (.ref f14)))
    (l14 : K.lookup f14 = some ⟨oc14, od14, .func (PySem.W.fnOf "law" "law" (defArgs s_law) (defBody s_law) (defScope s_law) .none kV14 dc14 pm14 an14 cd14 ct14), sl14⟩)
    (c14 : PySem.W.codeIn K cd14 "law" = true)
    (k14 : PySem.W.keepIn K (.ref f14) = true)
    (a15 : PySem.W.findIn K (.ref C0) "cells" = some (some (.ref f15)))
    (i15 : PySem.W.isFn K (.ref f15) = true)
    (l15 : K.lookup f15 = some ⟨oc15, od15, .func (PySem.W.fnOf "cells" "Heap.cells" (defArgs s_Heap_cells) (defBody s_Heap_cells) (defScope s_Heap_cells) .none kV15 dc15 pm15 an15 cd15 ct15), sl15⟩)
    (c15 : PySem.W.codeIn K cd15 "Heap.cells" = true)
    (k15 : PySem.W.keepIn K (.ref f15) = true)
    (pg0 : PySem.W.plainGet K C0 Str.empty = true)
    (hd0 : PySem.W.hasDictIn K C0 = true)
    (po0 : PySem.W.plainOver K C0 = true)
    (sa0 : PySem.W.findIn K (.ref C0) "__setattr__" = some (some (.builtin "object.__setattr__")))
    (mk0 : PySem.W.makesIn K C0 = true)
    (kc0 : PySem.W.keepIn K (.ref C0) = true)
    (n0_cells : PySem.W.findIn K (.ref C0) "_cells" = some none)
    (n0_next_address : PySem.W.findIn K (.ref C0) "next_address" = some none)
    (n0_room : PySem.W.findIn K (.ref C0) "room" = some none)
    (n0_used : PySem.W.findIn K (.ref C0) "used" = some none)
    (z_abs : PySem.W.nsIn K mainGlobals "abs" = some none)
    (z_dict : PySem.W.nsIn K mainGlobals "dict" = some none)
    (z_int : PySem.W.nsIn K mainGlobals "int" = some none)
    (z_len : PySem.W.nsIn K mainGlobals "len" = some none)
    (z_max : PySem.W.nsIn K mainGlobals "max" = some none)
    (z_min : PySem.W.nsIn K mainGlobals "min" = some none)
    (z_range : PySem.W.nsIn K mainGlobals "range" = some none)
    (z_sorted : PySem.W.nsIn K mainGlobals "sorted" = some none)
    (z_sum : PySem.W.nsIn K mainGlobals "sum" = some none)
    (z_tuple : PySem.W.nsIn K mainGlobals "tuple" = some none)
    : ∃ fd : FuncData, (∀ (s : Shared) (v : Value), BindsTo s fd ⟨[v], []⟩ [("_law_script", v)]) ∧ ∀ base : Heap, K.In base → base.Ns mainGlobals mg → FnOk l.prog w K mg base (L2.CX l.prog w) 4 fa fd ["_law_script"] (spLaw K) := by
  have e := hfa.symm.trans (PySem.W.mg_of X G a14)
  cases e
  refine ⟨PySem.W.fnOf "law" "law" (defArgs s_law) (defBody s_law) (defScope s_law) .none kV14 dc14 pm14 an14 cd14 ct14, fun s v => .of_eq rfl, fun base _ _ => ?_⟩
  have X0 : Cls K C0 := ⟨pg0, hd0, po0, sa0⟩
  have T : Txt K mg (csOf [C0]) := by
    constructor
    · exact PySem.W.mg_none_of X G z_abs
    · exact PySem.W.mg_none_of X G z_dict
    · exact PySem.W.mg_none_of X G z_int
    · exact PySem.W.mg_none_of X G z_len
    · exact PySem.W.mg_none_of X G z_max
    · exact PySem.W.mg_none_of X G z_min
    · exact PySem.W.mg_none_of X G z_range
    · exact PySem.W.mg_none_of X G z_sorted
    · exact PySem.W.mg_none_of X G z_sum
    · exact PySem.W.mg_none_of X G z_tuple
    · intro p hp
      simp [isiTab] at hp
    · intro C hC
      simp only [List.mem_cons, List.not_mem_nil, or_false] at hC
      rcases hC with rfl
      · exact ⟨X0, n0_cells⟩
    · intro C hC
      simp only [List.mem_cons, List.not_mem_nil, or_false] at hC
      rcases hC with rfl
      · exact ⟨X0, n0_next_address⟩
    · intro C hC
      simp only [List.mem_cons, List.not_mem_nil, or_false] at hC
      rcases hC with rfl
      · exact ⟨X0, n0_room⟩
    · intro C hC
      simp only [List.mem_cons, List.not_mem_nil, or_false] at hC
      rcases hC with rfl
      · exact ⟨X0, n0_used⟩
  have F0 := fun_mk (st := s_size_of) l0 c0 k0
  have b0 := F0.binds (ps := ["cell"]) fun _ _ _ _ _ _ us hl => match us, hl with | [_], _ => rfl
  have O0 := ok_size_of (P := l.prog) (w := w) (base := base) F0 T 
  have D0 : FD l.prog w K mg base 1 "size_of" 1 (f_size_of (csOf [C0])) := ⟨⟨_, _, _, O0, PySem.W.mg_of X G a0, k0, b0⟩⟩
  have F1 := fun_mk (st := s_z_draws) l1 c1 k1
  have b1 := F1.binds (ps := ["_law_script", "_law_many"]) fun _ _ _ _ _ _ us hl => match us, hl with | [_, _], _ => rfl
  have O1 := ok_z_draws (P := l.prog) (w := w) (base := base) F1 T 
  have D1 : FD l.prog w K mg base 1 "_law_draws" 2 (f_z_draws (csOf [C0])) := ⟨⟨_, _, _, O1, PySem.W.mg_of X G a1, k1, b1⟩⟩
  have F2 := fun_mk (st := s_z_next) l2 c2 k2
  have b2 := F2.binds (ps := ["_law_w", "_law_many"]) fun _ _ _ _ _ _ us hl => match us, hl with | [_, _], _ => rfl
  have O2 := ok_z_next (P := l.prog) (w := w) (base := base) F2 T 
  have D2 : FD l.prog w K mg base 1 "_law_next" 2 (f_z_next (csOf [C0])) := ⟨⟨_, _, _, O2, PySem.W.mg_of X G a2, k2, b2⟩⟩
  have F3 := fun_mk (st := s_z_cell) l3 c3 k3
  have b3 := F3.binds (ps := ["_law_w"]) fun _ _ _ _ _ _ us hl => match us, hl with | [_], _ => rfl
  have O3 := ok_z_cell (P := l.prog) (w := w) (base := base) F3 T D2
  have D3 : FD l.prog w K mg base 2 "_law_cell" 1 (f_z_cell (csOf [C0])) := ⟨⟨_, _, _, O3, PySem.W.mg_of X G a3, k3, b3⟩⟩
  have F4 := fun_mk (st := s_z_size) l4 c4 k4
  have b4 := F4.binds (ps := ["_law_cell_here"]) fun _ _ _ _ _ _ us hl => match us, hl with | [_], _ => rfl
  have O4 := ok_z_size (P := l.prog) (w := w) (base := base) F4 T 
  have D4 : FD l.prog w K mg base 1 "_law_size" 1 (f_z_size (csOf [C0])) := ⟨⟨_, _, _, O4, PySem.W.mg_of X G a4, k4, b4⟩⟩
  have F5 := fun_mk (st := s_Heap_addresses) l5 c5 k5
  have b5 := F5.binds (ps := ["self"]) fun _ _ _ _ _ _ us hl => match us, hl with | [_], _ => rfl
  have O5 := ok_Heap_addresses (P := l.prog) (w := w) (base := base) F5 T 
  have D5 : MD l.prog w K mg base 1 C0 "addresses" 1 (f_Heap_addresses (csOf [C0])) := ⟨X0, ⟨_, _, _, O5, ⟨a5, i5, k5⟩, b5⟩⟩
  have F6 := fun_mk (st := s_Heap_cell) l6 c6 k6
  have b6 := F6.binds (ps := ["self", "address"]) fun _ _ _ _ _ _ us hl => match us, hl with | [_, _], _ => rfl
  have O6 := ok_Heap_cell (P := l.prog) (w := w) (base := base) F6 T 
  have D6 : MD l.prog w K mg base 1 C0 "cell" 2 (f_Heap_cell (csOf [C0])) := ⟨X0, ⟨_, _, _, O6, ⟨a6, i6, k6⟩, b6⟩⟩
  have F7 := fun_mk (st := s_Heap_fits) l7 c7 k7
  have b7 := F7.binds (ps := ["self", "size"]) fun _ _ _ _ _ _ us hl => match us, hl with | [_, _], _ => rfl
  have O7 := ok_Heap_fits (P := l.prog) (w := w) (base := base) F7 T 
  have D7 : MD l.prog w K mg base 1 C0 "fits" 2 (f_Heap_fits (csOf [C0])) := ⟨X0, ⟨_, _, _, O7, ⟨a7, i7, k7⟩, b7⟩⟩
  have F8 := fun_mk (st := s_z_agrees) l8 c8 k8
  have b8 := F8.binds (ps := ["_law_heap", "_law_rows", "_law_room"]) fun _ _ _ _ _ _ us hl => match us, hl with | [_, _, _], _ => rfl
  have O8 := ok_z_agrees (P := l.prog) (w := w) (base := base) F8 T D5 D4 D6 D7
  have D8 : FD l.prog w K mg base 2 "_law_agrees" 3 (f_z_agrees (csOf [C0])) := ⟨⟨_, _, _, O8, PySem.W.mg_of X G a8, k8, b8⟩⟩
  have F9 := fun_mk (st := s_Heap_renew) l9 c9 k9
  have b9 := F9.binds (ps := ["self", "cells", "next_address"]) fun _ _ _ _ _ _ us hl => match us, hl with | [_, _, _], _ => rfl
  have O9 := ok_Heap_renew (P := l.prog) (w := w) (base := base) F9 T D0
  have D9 : MD l.prog w K mg base 2 C0 "renew" 3 (f_Heap_renew (csOf [C0])) := ⟨X0, ⟨_, _, _, O9, ⟨a9, i9, k9⟩, b9⟩⟩
  have F10 := fun_mk (st := s_z_renewed) l10 c10 k10
  have b10 := F10.binds (ps := ["_law_w", "_law_heap", "_law_rows"]) fun _ _ _ _ _ _ us hl => match us, hl with | [_, _, _], _ => rfl
  have O10 := ok_z_renewed (P := l.prog) (w := w) (base := base) F10 T D2 D9
  have D10 : FD l.prog w K mg base 3 "_law_renewed" 3 (f_z_renewed (csOf [C0])) := ⟨⟨_, _, _, O10, PySem.W.mg_of X G a10, k10, b10⟩⟩
  have F11 := fun_mk (st := s_Heap_init) l11 c11 k11
  have b11 := F11.binds (ps := ["self", "room"]) fun _ _ _ _ _ _ us hl => match us, hl with | [_, _], _ => rfl
  have O11 := ok_Heap_init (P := l.prog) (w := w) (base := base) F11 T 
  have D11 : CD l.prog w K mg base 1 "Heap" C0 2 (f_Heap_init (csOf [C0])) := ⟨PySem.W.mg_of X G aC0, ⟨_, _, _, O11, ⟨mk0, a11, i11, kc0⟩, b11⟩⟩
  have F12 := fun_mk (st := s_Heap_make) l12 c12 k12
  have b12 := F12.binds (ps := ["self", "cell"]) fun _ _ _ _ _ _ us hl => match us, hl with | [_, _], _ => rfl
  have O12 := ok_Heap_make (P := l.prog) (w := w) (base := base) F12 T D0
  have D12 : MD l.prog w K mg base 2 C0 "make" 2 (f_Heap_make (csOf [C0])) := ⟨X0, ⟨_, _, _, O12, ⟨a12, i12, k12⟩, b12⟩⟩
  have F13 := fun_mk (st := s_Heap_put) l13 c13 k13
  have b13 := F13.binds (ps := ["self", "address", "cell"]) fun _ _ _ _ _ _ us hl => match us, hl with | [_, _, _], _ => rfl
  have O13 := ok_Heap_put (P := l.prog) (w := w) (base := base) F13 T D0
  have D13 : MD l.prog w K mg base 2 C0 "put" 3 (f_Heap_put (csOf [C0])) := ⟨X0, ⟨_, _, _, O13, ⟨a13, i13, k13⟩, b13⟩⟩
  have F14 := fun_mk (st := s_law) l14 c14 k14
  have b14 := F14.binds (ps := ["_law_script"]) fun _ _ _ _ _ _ us hl => match us, hl with | [_], _ => rfl
  have O14 := ok_law (P := l.prog) (w := w) (base := base) F14 T D2 D11 D1 D3 D0 D4 D12 D13 D10 D8 D5
  have F15 := fun_mk (st := s_Heap_cells) l15 c15 k15
  have b15 := F15.binds (ps := ["self"]) fun _ _ _ _ _ _ us hl => match us, hl with | [_], _ => rfl
  have O15 := ok_Heap_cells (P := l.prog) (w := w) (base := base) F15 T 
  have D15 : MD l.prog w K mg base 1 C0 "cells" 1 (f_Heap_cells (csOf [C0])) := ⟨X0, ⟨_, _, _, O15, ⟨a15, i15, k15⟩, b15⟩⟩
  exact O14.imp fun vs H Q E q => q _
theorem walk {l : PySem.W.OpenLaw} {q : Program} {loose : List Str} {XP : (Str → Option Value) → Heap → Prop} {YP : World → Heap → Prop} {d : DefRec} {K : Params → PySem.W.Frag} (hn : l.most = some 63) (hdf : d.params.defaults = [])
    (hY : ∀ (w : World) (h : Heap), YP w h → (K w.params).In h)
    (F : ∀ (w : World) (mg : Str → Option Value) (fa : Addr) (h : Heap), (K w.params).In h → h.Ns mainGlobals mg → mg d.name = some (.ref fa) →
      ∃ fd : FuncData, (∀ (s : Shared) (u : Value), BindsTo s fd ⟨[u], []⟩ [("_law_script", u)]) ∧ ∀ base : Heap, (K w.params).In base → base.Ns mainGlobals mg → FnOk l.prog w (K w.params) mg base (L2.CX l.prog w) 4 fa fd ["_law_script"] (spLaw (K w.params))) :
    PySem.W.WalkO q loose XP YP l.row.toRowW d [] (fun f vs => PySem.call f vs) :=
  L2.walk_ofB (n := 63) (k := 4) (x := "_law_script") (CX := fun w => L2.CX l.prog w) (sp := fun w => spLaw (K w.params)) hn (by decide) hdf ⟨rfl, by decide, by decide⟩ hY F (fun w H a ns hl hb hO hS => fun cs => FL.law_hsp (P := fun ns => ns.length ≤ 63 ∧ ∀ z ∈ ns, Builtin.Int.intBits z ≤ 1048576) (fun ns hp => law_true cs ns hp.1 hp.2) H a ns ⟨hl, hb⟩ hO hS) fun _ _ _ _ _ h => FL.law_CX h
end K65
open PySem PySem.W PyProof.Rows
set_option maxRecDepth 100000 in
set_option maxHeartbeats 0 in
theorem PySem.Challenge.cw_needonce_k65_heap_by_model_holds : PySem.Challenge.rw_needonce_k65_heap_by_model.Holds := by
  w_on; o_law; k_head; (case hw => w_witness2)
  k_fill
  refine K65.walk (l := PySem.Challenge.rw_needonce_k65_heap_by_model) rfl rfl (fun w h Y => PySem.W.kIn_of Y) ?F
  case F =>
    intro w mg fa h KX G hmg
    refine' K65.all_mk KX G hmg ?aC0 ?a0 ?l0 ?c0 ?k0 ?a1 ?l1 ?c1 ?k1 ?a2 ?l2 ?c2 ?k2 ?a3 ?l3 ?c3 ?k3 ?a4 ?l4 ?c4 ?k4 ?a5 ?i5 ?l5 ?c5 ?k5 ?a6 ?i6 ?l6 ?c6 ?k6 ?a7 ?i7 ?l7 ?c7 ?k7 ?a8 ?l8 ?c8 ?k8 ?a9 ?i9 ?l9 ?c9 ?k9 ?a10 ?l10 ?c10 ?k10 ?a11 ?i11 ?l11 ?c11 ?k11 ?a12 ?i12 ?l12 ?c12 ?k12 ?a13 ?i13 ?l13 ?c13 ?k13 ?a14 ?l14 ?c14 ?k14 ?a15 ?i15 ?l15 ?c15 ?k15 ?pg0 ?hd0 ?po0 ?sa0 ?mk0 ?kc0 ?n0_cells ?n0_next_address ?n0_room ?n0_used ?z_abs ?z_dict ?z_int ?z_len ?z_max ?z_min ?z_range ?z_sorted ?z_sum ?z_tuple
    (case aC0 => k_is)
    (case a0 => k_is)
    (case l0 => k_is)
    (case c0 => k_is)
    (case k0 => k_is)
    (case a1 => k_is)
    (case l1 => k_is)
    (case c1 => k_is)
    (case k1 => k_is)
    (case a2 => k_is)
    (case l2 => k_is)
    (case c2 => k_is)
    (case k2 => k_is)
    (case a3 => k_is)
    (case l3 => k_is)
    (case c3 => k_is)
    (case k3 => k_is)
    (case a4 => k_is)
    (case l4 => k_is)
    (case c4 => k_is)
    (case k4 => k_is)
    (case a5 => k_is)
    (case i5 => k_is)
    (case l5 => k_is)
    (case c5 => k_is)
    (case k5 => k_is)
    (case a6 => k_is)
    (case i6 => k_is)
    (case l6 => k_is)
    (case c6 => k_is)
    (case k6 => k_is)
    (case a7 => k_is)
    (case i7 => k_is)
    (case l7 => k_is)
    (case c7 => k_is)
    (case k7 => k_is)
    (case a8 => k_is)
    (case l8 => k_is)
    (case c8 => k_is)
    (case k8 => k_is)
    (case a9 => k_is)
    (case i9 => k_is)
    (case l9 => k_is)
    (case c9 => k_is)
    (case k9 => k_is)
    (case a10 => k_is)
    (case l10 => k_is)
    (case c10 => k_is)
    (case k10 => k_is)
    (case a11 => k_is)
    (case i11 => k_is)
    (case l11 => k_is)
    (case c11 => k_is)
    (case k11 => k_is)
    (case a12 => k_is)
    (case i12 => k_is)
    (case l12 => k_is)
    (case c12 => k_is)
    (case k12 => k_is)
    (case a13 => k_is)
    (case i13 => k_is)
    (case l13 => k_is)
    (case c13 => k_is)
    (case k13 => k_is)
    (case a14 => k_is)
    (case l14 => k_is)
    (case c14 => k_is)
    (case k14 => k_is)
    (case a15 => k_is)
    (case i15 => k_is)
    (case l15 => k_is)
    (case c15 => k_is)
    (case k15 => k_is)
    (case pg0 => k_is)
    (case hd0 => k_is)
    (case po0 => k_is)
    (case sa0 => k_is)
    (case mk0 => k_is)
    (case kc0 => k_is)
    (case n0_cells => k_is)
    (case n0_next_address => k_is)
    (case n0_room => k_is)
    (case n0_used => k_is)
    (case z_abs => k_is)
    (case z_dict => k_is)
    (case z_int => k_is)
    (case z_len => k_is)
    (case z_max => k_is)
    (case z_min => k_is)
    (case z_range => k_is)
    (case z_sorted => k_is)
    (case z_sum => k_is)
    (case z_tuple => k_is)

