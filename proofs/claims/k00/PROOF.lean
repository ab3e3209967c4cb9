import PyProof.Rows.All
import Wide.All
import OpenK.AllK
import Wide.FinOn
import HandS.ForMost
import HandS.ForExc
import HandS.Wide
import HandS.TupAny
import HandS.Small
import HandS.IsInst
import HandS.SortInts
import HandS.More
import HandS.Rev
import HandS.Zip
import HandS.EndBits
import HandS.Style
import PyProof.EqLayable
import PyProof.P3Eq
import HandS.Iter
import PyProof.Rows.SortShellAny
import HandS.StrMore
import HandS.Strs
import PySem.Challenge.RW_needonce_k00_tokens_of_a_text
set_option Elab.async false
set_option linter.all false
set_option maxRecDepth 100000
/-! FL: a functional layer over HandS. Values as data (tuples without addresses), a heap of numbered mutable objects, each def a function of data and heap. -/
namespace FL
open PySem PySem.Spec PyProof.Rows L2

inductive D where
  | non | bl (b : Bool) | int (i : Int) | str (x : Str) | ty (n : String) | ref (i : Nat) | tup (ds : List D) | cst (ds : List D)

inductive MO where
  | lst (ds : List D)
  | dK (kvs : List (Key × D))
  | fdK (kvs : List (Key × D))
  | ins (C : Addr) (fs : List (Str × D))

abbrev HS := List MO
abbrev Sl := List (Option D)

/-- an exception: its class, its own attributes -/
structure XV where
  cls : Addr
  fs : Option (List (Str × D))

inductive R (α : Type) where
  | bad | ok (a : α) (h : HS) | ex (x : XV) (h : HS)

def R.bind {α β : Type} (m : R α) (f : α → HS → R β) : R β := match m with
  | .bad => .bad
  | .ok a h => f a h
  | .ex x h => .ex x h

/-- a list that no code of ours writes: locked, or of the module -/
def CsL (K : PySem.W.Frag) (H : Hp) (a : Addr) (vs : List V) : Prop :=
  (∃ o, H a = some (.frz o (.lst vs))) ∨
    ∃ (o : Obj) (its : Array Value) (n : Nat), K.lookup a = some o ∧ o.cls = .type "list" ∧ o.dict = none ∧ o.data = .seq its n ∧ its.size ≤ sizeLine ∧ Vals vs its.toList
theorem CsL.sq {K : PySem.W.Frag} {H : Hp} {a : Addr} {vs : List V} (h : CsL K H a vs) : SqL K H a vs := by
  rcases h with ⟨o, h⟩ | h
  · exact .inl (.inr ⟨o, h⟩)
  · exact .inr h

mutual
inductive DV (K : PySem.W.Frag) (ρ : List Addr) (H : Hp) : D → V → Prop where
  | non : DV K ρ H .non .non
  | bl (b : Bool) : DV K ρ H (.bl b) (.bl b)
  | int (i : Int) : DV K ρ H (.int i) (.int i)
  | str (x : Str) : DV K ρ H (.str x) (.str x)
  | ty (n : String) : DV K ρ H (.ty n) (.ty n)
  | ref {i : Nat} {a : Addr} : ρ[i]? = some a → DV K ρ H (.ref i) (.ref a)
  | tup {a : Addr} {vs : List V} {ds : List D} : SqT K H a vs → DVs K ρ H ds vs → DV K ρ H (.tup ds) (.ref a)
  | cst {a : Addr} {vs : List V} {ds : List D} : CsL K H a vs → DVs K ρ H ds vs → DV K ρ H (.cst ds) (.ref a)
inductive DVs (K : PySem.W.Frag) (ρ : List Addr) (H : Hp) : List D → List V → Prop where
  | nil : DVs K ρ H [] []
  | cons {d : D} {v : V} {ds : List D} {vs : List V} : DV K ρ H d v → DVs K ρ H ds vs → DVs K ρ H (d :: ds) (v :: vs)
end

abbrev KDs (κ : Type) (K : PySem.W.Frag) (ρ : List Addr) (H : Hp) : List (κ × D) → List (κ × V) → Prop := Paired fun p q => p.1 = q.1 ∧ DV K ρ H p.2 q.2

def RepO (K : PySem.W.Frag) (ρ : List Addr) (H : Hp) (a : Addr) : MO → Prop
  | .lst ds => ∃ vs, H a = some (.lst vs) ∧ DVs K ρ H ds vs
  | .dK kvs => ∃ vk, H a = some (.dK vk) ∧ KDs Key K ρ H kvs vk
  | .fdK kvs => ∃ o vk, H a = some (.frz o (.dK vk)) ∧ KDs Key K ρ H kvs vk
  | .ins C fs => ∃ dx vf, H a = some (.ins C dx vf) ∧ KDs Str K ρ H fs vf

structure Rep (K : PySem.W.Frag) (ρ : List Addr) (h : HS) (H : Hp) : Prop where
  len : ρ.length = h.length
  nd : ρ.Nodup
  obj : ∀ (i : Nat) (o : MO) (a : Addr), h[i]? = some o → ρ[i]? = some a → RepO K ρ H a o

structure Ext (ρ : List Addr) (H : Hp) (ρ' : List Addr) (H' : Hp) : Prop where
  pre : ∃ e, ρ' = ρ ++ e ∧ ∀ a ∈ e, H a = none
  keep : ∀ a o, H a = some o → a ∉ ρ → H' a = some o
  frz : ∀ a o u, H a = some (.frz o u) → H' a = some (.frz o u)
def isFz : HO → Bool
  | .frz _ _ => true
  | _ => false

section
variable {K : PySem.W.Frag} {ρ ρ1 ρ2 ρ' : List Addr} {h h' h1 : HS} {H H1 H2 H' : Hp}
theorem Ext.refl : Ext ρ H ρ H := ⟨⟨[], by simp, by simp⟩, fun _ _ e _ => e, fun _ _ _ e => e⟩
theorem Ext.trans (e1 : Ext ρ H ρ1 H1) (e2 : Ext ρ1 H1 ρ2 H2) (nd : ρ2.Nodup) : Ext ρ H ρ2 H2 := by
  obtain ⟨x, rfl, hx⟩ := e1.pre
  obtain ⟨y, rfl, hy⟩ := e2.pre
  rw [List.append_assoc] at nd
  have key : ∀ a o, H a = some o → a ∉ ρ → a ∉ ρ ++ x := fun a o e n z => by
    rcases List.mem_append.mp z with z | z
    · exact n z
    · rw [hx a z] at e; cases e
  refine ⟨⟨x ++ y, List.append_assoc .., fun a ha => ?_⟩, fun a o e n => e2.keep a o (e1.keep a o e n) (key a o e n), fun a o u e => e2.frz a o u (e1.frz a o u e)⟩
  rcases List.mem_append.mp ha with z | z
  · exact hx a z
  · cases q : H a with
    | none => rfl
    | some o =>
      have n : a ∉ ρ := fun z2 => (List.nodup_append.mp nd).2.2 a z2 a (List.mem_append_right x z) rfl
      have := e1.keep a o q n
      rw [hy a z] at this; cases this
theorem Ext.ix (e : Ext ρ H ρ' H') {i : Nat} {a : Addr} (q : ρ[i]? = some a) : ρ'[i]? = some a := by
  obtain ⟨x, rfl, _⟩ := e.pre
  rw [List.getElem?_append_left (List.getElem?_eq_some_iff.mp q).1]
  exact q
theorem Rep.mem (r : Rep K ρ h H) {a : Addr} (ha : a ∈ ρ) : ∃ (i : Nat) (o : MO), h[i]? = some o ∧ ρ[i]? = some a ∧ RepO K ρ H a o := by
  obtain ⟨i, hi, e⟩ := List.mem_iff_getElem.mp ha
  have hi' : i < h.length := by rw [← r.len]; exact hi
  have e1 : ρ[i]? = some a := by rw [List.getElem?_eq_getElem hi, e]
  have e2 : h[i]? = some h[i] := List.getElem?_eq_getElem hi'
  exact ⟨i, h[i], e2, e1, r.obj i _ a e2 e1⟩
theorem RepO.some {a : Addr} {o : MO} (r : RepO K ρ H a o) : ∃ u, H a = some u ∧ (∀ xs, u ≠ .tup xs) ∧ ∀ ob xs, u ≠ .frz ob (.lst xs) ∧ u ≠ .frz ob (.tup xs) := by
  cases o with
  | lst ds => obtain ⟨vs, e, _⟩ := r; exact ⟨_, e, (fun _ z => by cases z), fun _ _ => ⟨(fun z => by cases z), (fun z => by cases z)⟩⟩
  | dK ds => obtain ⟨vs, e, _⟩ := r; exact ⟨_, e, (fun _ z => by cases z), fun _ _ => ⟨(fun z => by cases z), (fun z => by cases z)⟩⟩
  | fdK ds => obtain ⟨ob, vs, e, _⟩ := r; exact ⟨_, e, (fun _ z => by cases z), fun _ _ => ⟨(fun z => by cases z), (fun z => by cases z)⟩⟩
  | ins C fs => obtain ⟨dx, vs, e, _⟩ := r; exact ⟨_, e, (fun _ z => by cases z), fun _ _ => ⟨(fun z => by cases z), (fun z => by cases z)⟩⟩
theorem Rep.tupNo (r : Rep K ρ h H) {a : Addr} {xs : List V} (e : Rd H a (.tup xs)) : a ∉ ρ := fun ha => by
  obtain ⟨i, o, _, _, q⟩ := r.mem ha
  obtain ⟨u, e1, n1, n2⟩ := q.some
  rcases e with e | ⟨ob, e⟩
  · rw [e] at e1; cases e1; exact n1 _ rfl
  · rw [e] at e1; cases e1; exact (n2 _ _).2 rfl
theorem Rep.cstNo (r : Rep K ρ h H) {a : Addr} {ob : Obj} {xs : List V} (e : H a = some (.frz ob (.lst xs))) : a ∉ ρ := fun ha => by
  obtain ⟨i, o, _, _, q⟩ := r.mem ha
  obtain ⟨u, e1, n1, n2⟩ := q.some
  rw [e] at e1; cases e1; exact (n2 _ _).1 rfl
/-- what keeps the data readable: numbers keep their addresses, tuples and locked things stay -/
structure Kp (ρ : List Addr) (H : Hp) (ρ' : List Addr) (H' : Hp) : Prop where
  ix : ∀ (i : Nat) (a : Addr), ρ[i]? = some a → ρ'[i]? = some a
  tup : ∀ a xs, H a = some (.tup xs) → H' a = some (.tup xs)
  frt : ∀ a o xs, H a = some (.frz o (.tup xs)) → H' a = some (.frz o (.tup xs))
  frl : ∀ a o xs, H a = some (.frz o (.lst xs)) → H' a = some (.frz o (.lst xs))
theorem Kp.of (r : Rep K ρ h H) (e : Ext ρ H ρ' H') : Kp ρ H ρ' H' :=
  ⟨fun _ _ q => e.ix q, fun a xs q => e.keep a _ q (r.tupNo (.inl q)), fun a o xs q => e.frz a o _ q, fun a o xs q => e.frz a o _ q⟩
/-- a thing that is no tuple and no locked row is changed -/
theorem Kp.upd1 {ρ : List Addr} {H : Hp} {a : Addr} {o u : HO} (e : H a = some u) (h1 : ∀ xs, u ≠ .tup xs) (h2 : ∀ ob xs, u ≠ .frz ob (.tup xs)) (h3 : ∀ ob xs, u ≠ .frz ob (.lst xs)) : Kp ρ H ρ (upd H a o) := by
  refine ⟨fun _ _ q => q, fun b ys q => ?_, fun b ob ys q => ?_, fun b ob ys q => ?_⟩
  · have hb : b ≠ a := fun z => by subst z; rw [e] at q; exact h1 _ (Option.some.inj q)
    rw [upd_ne hb]; exact q
  · have hb : b ≠ a := fun z => by subst z; rw [e] at q; exact h2 _ _ (Option.some.inj q)
    rw [upd_ne hb]; exact q
  · have hb : b ≠ a := fun z => by subst z; rw [e] at q; exact h3 _ _ (Option.some.inj q)
    rw [upd_ne hb]; exact q
theorem sqT_kp (e : Kp ρ H ρ' H') {a : Addr} {vs : List V} (q : SqT K H a vs) : SqT K H' a vs := by
  rcases q with (q | ⟨o, q⟩) | q
  · exact .inl (.inl (e.tup _ _ q))
  · exact .inl (.inr ⟨o, e.frt _ _ _ q⟩)
  · exact .inr q
theorem csL_kp (e : Kp ρ H ρ' H') {a : Addr} {vs : List V} (q : CsL K H a vs) : CsL K H' a vs := by
  rcases q with ⟨o, q⟩ | q
  · exact .inl ⟨o, e.frl _ _ _ q⟩
  · exact .inr q
mutual
theorem DV.kp (e : Kp ρ H ρ' H') : ∀ {d : D} {v : V}, DV K ρ H d v → DV K ρ' H' d v
  | _, _, .non => .non
  | _, _, .bl b => .bl b
  | _, _, .int i => .int i
  | _, _, .str x => .str x
  | _, _, .ty n => .ty n
  | _, _, .ref q => .ref (e.ix _ _ q)
  | _, _, .tup q s => .tup (sqT_kp e q) (DVs.kp e s)
  | _, _, .cst q s => .cst (csL_kp e q) (DVs.kp e s)
theorem DVs.kp (e : Kp ρ H ρ' H') : ∀ {d : List D} {v : List V}, DVs K ρ H d v → DVs K ρ' H' d v
  | _, _, .nil => .nil
  | _, _, .cons q s => .cons (DV.kp e q) (DVs.kp e s)
end
theorem KDs.kp {κ : Type} (e : Kp ρ H ρ' H') {ks : List (κ × D)} {vs : List (κ × V)} (q : KDs κ K ρ H ks vs) : KDs κ K ρ' H' ks vs :=
  Paired.mapP q fun _ _ z => ⟨z.1, z.2.kp e⟩
theorem RepO.kp (e : Kp ρ H ρ' H') {a : Addr} {o : MO} (s : H' a = H a) (q : RepO K ρ H a o) : RepO K ρ' H' a o := by
  cases o with
  | lst ds => obtain ⟨vs, e1, d⟩ := q; exact ⟨vs, s.trans e1, d.kp e⟩
  | dK ds => obtain ⟨vs, e1, d⟩ := q; exact ⟨vs, s.trans e1, KDs.kp e d⟩
  | fdK ds => obtain ⟨ob, vs, e1, d⟩ := q; exact ⟨ob, vs, s.trans e1, KDs.kp e d⟩
  | ins C fs => obtain ⟨dx, vs, e1, d⟩ := q; exact ⟨dx, vs, s.trans e1, KDs.kp e d⟩
theorem DV.mono (r : Rep K ρ h H) (e : Ext ρ H ρ' H') {d : D} {v : V} (q : DV K ρ H d v) : DV K ρ' H' d v := q.kp (.of r e)
theorem DVs.mono (r : Rep K ρ h H) (e : Ext ρ H ρ' H') {d : List D} {v : List V} (q : DVs K ρ H d v) : DVs K ρ' H' d v := q.kp (.of r e)
theorem KDs.mono {κ : Type} (r : Rep K ρ h H) (e : Ext ρ H ρ' H') {ks : List (κ × D)} {vs : List (κ × V)} (q : KDs κ K ρ H ks vs) : KDs κ K ρ' H' ks vs := KDs.kp (.of r e) q
theorem RepO.mono (r : Rep K ρ h H) (e : Ext ρ H ρ' H') {a : Addr} {o : MO} (s : H' a = H a) (q : RepO K ρ H a o) : RepO K ρ' H' a o := q.kp (.of r e) s

theorem DVs.length : ∀ {ds : List D} {vs : List V}, DVs K ρ H ds vs → ds.length = vs.length
  | _, _, .nil => rfl
  | _, _, .cons _ s => by rw [List.length_cons, List.length_cons, s.length]
theorem DVs.get : ∀ {ds : List D} {vs : List V} {i : Nat} {d : D}, DVs K ρ H ds vs → ds[i]? = some d → ∃ v, vs[i]? = some v ∧ DV K ρ H d v
  | _, _, _, _, .nil, e => by simp at e
  | _, _, 0, _, .cons q _, e => by simp at e; subst e; exact ⟨_, rfl, q⟩
  | _, _, i + 1, d, .cons _ s, e => by
    obtain ⟨v, e1, q⟩ := DVs.get (i := i) (d := d) s (by simpa using e)
    exact ⟨v, by simpa using e1, q⟩
theorem DVs.append : ∀ {ds : List D} {vs : List V} {es : List D} {ws : List V}, DVs K ρ H ds vs → DVs K ρ H es ws → DVs K ρ H (ds ++ es) (vs ++ ws)
  | _, _, _, _, .nil, t => t
  | _, _, _, _, .cons q s, t => .cons q (s.append t)
theorem DVs.take : ∀ {ds : List D} {vs : List V} (n : Nat), DVs K ρ H ds vs → DVs K ρ H (ds.take n) (vs.take n)
  | _, _, 0, _ => .nil
  | _, _, _ + 1, .nil => .nil
  | _, _, n + 1, .cons q s => .cons q (s.take n)
theorem DVs.drop : ∀ {ds : List D} {vs : List V} (n : Nat), DVs K ρ H ds vs → DVs K ρ H (ds.drop n) (vs.drop n)
  | _, _, 0, s => s
  | _, _, _ + 1, .nil => .nil
  | _, _, n + 1, .cons _ s => s.drop n
theorem DVs.set {d : D} {v : V} (q : DV K ρ H d v) : ∀ {ds : List D} {vs : List V} (n : Nat), DVs K ρ H ds vs → DVs K ρ H (ds.set n d) (vs.set n v)
  | _, _, _, .nil => .nil
  | _, _, 0, .cons _ s => .cons q s
  | _, _, n + 1, .cons p s => .cons p (s.set q n)
theorem DVs.rev : ∀ {ds : List D} {vs : List V}, DVs K ρ H ds vs → DVs K ρ H ds.reverse vs.reverse
  | _, _, .nil => .nil
  | _, _, .cons q s => by rw [List.reverse_cons, List.reverse_cons]; exact s.rev.append (.cons q .nil)
theorem DVs.ints : ∀ (ns : List Int), DVs K ρ H (ns.map D.int) (ns.map V.int)
  | [] => .nil
  | n :: r => .cons (.int n) (DVs.ints r)
theorem DVs.toInts : ∀ {ns : List Int} {vs : List V}, DVs K ρ H (ns.map D.int) vs → vs = ns.map V.int
  | [], _, .nil => rfl
  | n :: r, _, .cons q s => by cases q; rw [DVs.toInts s]; rfl
theorem DVs.strs : ∀ (ns : List Str), DVs K ρ H (ns.map D.str) (ns.map V.str)
  | [] => .nil
  | n :: r => .cons (.str n) (DVs.strs r)
theorem DVs.toStrs : ∀ {ns : List Str} {vs : List V}, DVs K ρ H (ns.map D.str) vs → vs = ns.map V.str
  | [], _, .nil => rfl
  | n :: r, _, .cons q s => by cases q; rw [DVs.toStrs s]; rfl

/-! ### heaps -/
/-- a thing that is not a numbered object is laid -/
theorem Ext.laid {p : Addr} {o : HO} (n : H p = none) : Ext ρ H ρ (upd H p o) := ⟨⟨[], by simp, by simp⟩, (fun a u e _ => by rw [upd_ne (ne_of_none e n)]; exact e), (fun a o u e => by rw [upd_ne (ne_of_none e n)]; exact e)⟩
theorem Rep.laid {p : Addr} {o : HO} (r : Rep K ρ h H) (n : H p = none) : Rep K ρ h (upd H p o) :=
  ⟨r.len, r.nd, fun i u a e1 e2 => by
    have q := r.obj i u a e1 e2
    obtain ⟨w, ew, _⟩ := q.some
    exact q.mono r (Ext.laid n) (upd_ne (ne_of_none ew n))⟩
/-- a new numbered object -/
theorem Ext.push {p : Addr} {o : HO} (n : H p = none) : Ext ρ H (ρ ++ [p]) (upd H p o) := ⟨⟨[p], rfl, fun a ha => by rw [List.mem_singleton.mp ha]; exact n⟩, (fun a u e _ => by rw [upd_ne (ne_of_none e n)]; exact e), (fun a o u e => by rw [upd_ne (ne_of_none e n)]; exact e)⟩
theorem Rep.push {p : Addr} {o : HO} {m : MO} (r : Rep K ρ h H) (n : H p = none) (q : RepO K (ρ ++ [p]) (upd H p o) p m) : Rep K (ρ ++ [p]) (h ++ [m]) (upd H p o) := by
  have np : p ∉ ρ := fun hp => by
    obtain ⟨_, _, _, _, z⟩ := r.mem hp
    obtain ⟨u, e, _⟩ := z.some
    rw [n] at e; cases e
  refine ⟨by simp [r.len], List.nodup_append.mpr ⟨r.nd, by simp, fun a ha b hb => by rw [List.mem_singleton.mp hb]; rintro rfl; exact np ha⟩, fun i u a e1 e2 => ?_⟩
  by_cases hi : i < h.length
  · rw [List.getElem?_append_left hi] at e1
    rw [List.getElem?_append_left (by rw [r.len]; exact hi)] at e2
    have z := r.obj i u a e1 e2
    obtain ⟨w, ew, _⟩ := z.some
    exact z.mono r (Ext.push n) (upd_ne (ne_of_none ew n))
  · have hl : i < (h ++ [m]).length := (List.getElem?_eq_some_iff.mp e1).1
    have ei : i = h.length := by rw [List.length_append] at hl; simp at hl; omega
    subst ei
    rw [List.getElem?_append_right (Nat.le_refl _), Nat.sub_self] at e1
    rw [← r.len, List.getElem?_append_right (Nat.le_refl _), Nat.sub_self] at e2
    simp at e1 e2
    subst e1; subst e2
    exact q
/-- an object is written -/
theorem Ext.wrote {i : Nat} {a : Addr} {o u0 : HO} (e : ρ[i]? = some a) (hv : H a = some u0) (nf : isFz u0 = false := by rfl) : Ext ρ H ρ (upd H a o) := ⟨⟨[], by simp, by simp⟩, (fun b u eb n => by
  have hb : b ≠ a := fun z => n (by rw [z]; exact List.mem_of_getElem? e)
  rw [upd_ne hb]; exact eb), (fun b ob u eb => by
  have hb : b ≠ a := fun z => by subst z; rw [hv] at eb; cases eb; cases nf
  rw [upd_ne hb]; exact eb)⟩
theorem Rep.wrote {i : Nat} {a : Addr} {o u0 : HO} {m : MO} (r : Rep K ρ h H) (e : ρ[i]? = some a) (hv : H a = some u0) (nf : isFz u0 = false) (q : RepO K ρ (upd H a o) a m) : Rep K ρ (h.set i m) (upd H a o) := by
  refine ⟨by rw [List.length_set]; exact r.len, r.nd, fun j u b e1 e2 => ?_⟩
  by_cases hj : j = i
  · subst hj
    rw [e] at e2; cases e2
    have hl : j < h.length := by
      have := (List.getElem?_eq_some_iff.mp e).1
      rw [← r.len]; exact this
    rw [List.getElem?_set_self hl] at e1
    cases e1
    exact q
  · rw [List.getElem?_set_ne (Ne.symm hj)] at e1
    have hb : b ≠ a := fun z => hj (by subst z; exact (List.getElem?_inj (List.getElem?_eq_some_iff.mp e2).1 r.nd).mp (e2.trans e.symm))
    exact (r.obj j u b e1 e2).mono r (Ext.wrote e hv nf) (upd_ne hb)
theorem Rep.look (r : Rep K ρ h H) {i : Nat} {o : MO} (e : h[i]? = some o) : ∃ a, ρ[i]? = some a ∧ RepO K ρ H a o := by
  have hi : i < ρ.length := by rw [r.len]; exact (List.getElem?_eq_some_iff.mp e).1
  exact ⟨ρ[i], List.getElem?_eq_getElem hi, r.obj i o _ e (List.getElem?_eq_getElem hi)⟩

/-! ### slots -/
def RepS (K : PySem.W.Frag) (ρ : List Addr) (H : Hp) (σh : Sl) (σ : L2.St) : Prop := σ.length = σh.length ∧ ∀ (i : Nat) (d : D), σh[i]? = some (some d) → ∃ v : V, σ[i]? = some (some v) ∧ DV K ρ H d v
theorem RepS.mono {σh : Sl} {σ : L2.St} (r : Rep K ρ h H) (e : Ext ρ H ρ' H') (s : RepS K ρ H σh σ) : RepS K ρ' H' σh σ :=
  ⟨s.1, fun i d q => let ⟨v, e1, z⟩ := s.2 i d q; ⟨v, e1, z.mono r e⟩⟩
theorem RepS.set {σh : Sl} {σ : L2.St} {d : D} {v : V} (s : RepS K ρ H σh σ) (i : Nat) (q : DV K ρ H d v) : RepS K ρ H (σh.set i (some d)) (σ.set i (some v)) := by
  refine ⟨by rw [List.length_set, List.length_set]; exact s.1, fun j e hj => ?_⟩
  by_cases hji : i = j
  · subst hji
    have hl : i < σh.length := by
      have := (List.getElem?_eq_some_iff.mp hj).1
      rw [List.length_set] at this; exact this
    rw [List.getElem?_set_self hl] at hj
    cases hj
    exact ⟨v, List.getElem?_set_self (by rw [s.1]; exact hl), q⟩
  · rw [List.getElem?_set_ne hji] at hj
    rw [List.getElem?_set_ne hji]
    exact s.2 j e hj

/-- an exception as it lies -/
def XRep (K : PySem.W.Frag) (ρ : List Addr) (H : Hp) (x : XV) (dx : Option Addr) : Prop := match x.fs with
  | none => dx = none
  | some fs => ∃ dd vf, dx = some dd ∧ H dd = some (.xd vf) ∧ KDs Str K ρ H fs vf

def Post {α β : Type} (K : PySem.W.Frag) (ρ : List Addr) (H : Hp) (rel : List Addr → Hp → α → β → Prop) (W : XK) (Q : β → Hp → Prop) : R α → Prop
  | .bad => False
  | .ok d h' => ∀ ρ' v H', Ext ρ H ρ' H' → Rep K ρ' h' H' → rel ρ' H' d v → Q v H'
  | .ex x h' => ∀ ρ' dx H', Ext ρ H ρ' H' → Rep K ρ' h' H' → XRep K ρ' H' x dx → W (.ref x.cls) dx H'

section
variable {α β γ δ : Type} {rel : List Addr → Hp → α → β → Prop} {rel2 : List Addr → Hp → γ → δ → Prop} {W W' : XK} {Q Q' : β → Hp → Prop} {Q2 : δ → Hp → Prop}
theorem Post.ext (e : Ext ρ H ρ1 H1) {m : R α} (p : Post K ρ H rel W Q m) : Post K ρ1 H1 rel W Q m := by
  cases m with
  | bad => exact p
  | ok d h' => exact fun ρ' v H' e2 r q => p ρ' v H' (e.trans e2 r.nd) r q
  | ex x h' => exact fun ρ' v H' e2 r q => p ρ' v H' (e.trans e2 r.nd) r q
theorem Post.mono {m : R α} (p : Post K ρ H rel W Q m) (k : ∀ v H', Q v H' → Q' v H') (kx : ∀ c d H', W c d H' → W' c d H') : Post K ρ H rel W' Q' m := by
  cases m with
  | bad => exact p
  | ok d h' => exact fun ρ' v H' e2 r q => k _ _ (p ρ' v H' e2 r q)
  | ex x h' => exact fun ρ' v H' e2 r q => kx _ _ _ (p ρ' v H' e2 r q)
/-- a first part, then the rest -/
theorem Post.of_bind {m : R α} {f : α → HS → R γ} (p : Post K ρ H rel2 W Q2 (m.bind f))
    (k : ∀ d h1 ρ1 v H1, Ext ρ H ρ1 H1 → Rep K ρ1 h1 H1 → rel ρ1 H1 d v → Post K ρ1 H1 rel2 W Q2 (f d h1) → Q v H1) : Post K ρ H rel W Q m := by
  cases m with
  | bad => exact p
  | ok d h' => exact fun ρ' v H' e r q => k d h' ρ' v H' e r q (Post.ext e p)
  | ex x h' => exact p
theorem Post.use {d : α} {v : β} (p : Post K ρ H rel W Q (.ok d h)) (r : Rep K ρ h H) (q : rel ρ H d v) : Q v H := p ρ v H .refl r q
end
end

/-! ### expressions -/
abbrev FE := Sl → HS → R D
abbrev FT := Sl → HS → R Bool
abbrev FA := Sl → HS → R (List D)
def bEq {α : Type} : List Addr → Hp → α → α → Prop := fun _ _ b c => b = c
def lE (K : PySem.W.Frag) (W : WX) (m : FE) : TE := fun σ H Q => ∃ ρ σh h, Rep K ρ h H ∧ RepS K ρ H σh σ ∧ Post K ρ H (DV K) (fun c d H' => W c d σ H') Q (m σh h)
def lT (K : PySem.W.Frag) (W : WX) (m : FT) : TT := fun σ H Q => ∃ ρ σh h, Rep K ρ h H ∧ RepS K ρ H σh σ ∧ Post K ρ H bEq (fun c d H' => W c d σ H') Q (m σh h)
def lA (K : PySem.W.Frag) (W : WX) (m : FA) : TA := fun σ H Q => ∃ ρ σh h, Rep K ρ h H ∧ RepS K ρ H σh σ ∧ Post K ρ H (DVs K) (fun c d H' => W c d σ H') Q (m σh h)
def GE (X : Cx) (W : WX) (e : Expr) (m : FE) : Prop := PE X e (lE X.K W m)
def GT (X : Cx) (W : WX) (e : Expr) (m : FT) : Prop := PT X e (lT X.K W m)
def GW (X : Cx) (W : WX) (e : Expr) (m : FT) : Prop := PW X e (lT X.K W m)
def GA (X : Cx) (W : WX) (es : List Expr) (m : FA) : Prop := PA X es (lA X.K W m)
theorem pe_mono {X : Cx} {e : Expr} {t t' : TE} (p : PE X e t) (k : ∀ σ H Q, t' σ H Q → t σ H Q) : PE X e t' := ⟨fun pins s σ H Q I q => p.run pins s σ H Q I (k σ H Q q)⟩
theorem pt_mono {X : Cx} {e : Expr} {t t' : TT} (p : PT X e t) (k : ∀ σ H Q, t' σ H Q → t σ H Q) : PT X e t' := ⟨fun pins s σ H Q I q => p.run pins s σ H Q I (k σ H Q q)⟩
theorem pw_mono {X : Cx} {e : Expr} {t t' : TT} (p : PW X e t) (k : ∀ σ H Q, t' σ H Q → t σ H Q) : PW X e t' := ⟨fun wh pins s σ H Q I q => p.run wh pins s σ H Q I (k σ H Q q)⟩
theorem pa_mono {X : Cx} {e : List Expr} {t t' : TA} (p : PA X e t) (k : ∀ σ H Q, t' σ H Q → t σ H Q) : PA X e t' := ⟨fun pos pins s σ H Q I q => p.run pos pins s σ H Q I (k σ H Q q)⟩
theorem ps_mono {X : Cx} {e : Stmt} {t t' : TS} (p : PS X e t) (k : ∀ D σ H, t' D σ H → t D σ H) : PS X e t' := ⟨fun pins s σ H D I q => p.run pins s σ H D I (k D σ H q)⟩
theorem pss_mono {X : Cx} {e : List Stmt} {t t' : TS} (p : PSs X e t) (k : ∀ D σ H, t' D σ H → t D σ H) : PSs X e t' := ⟨fun pins s σ H D I q => p.run pins s σ H D I (k D σ H q)⟩
theorem pg_mono {X : Cx} {e : Expr} {t t' : TG} (p : PG X e t) (k : ∀ v σ H Q, t' v σ H Q → t v σ H Q) : PG X e t' := ⟨fun pins s σ H v u Q I r q => p.run pins s σ H v u Q I r (k v σ H Q q)⟩
theorem pgs_mono {X : Cx} {e : List Expr} {t t' : TGs} (p : PGs X e t) (k : ∀ v σ H Q, t' v σ H Q → t v σ H Q) : PGs X e t' := ⟨fun pins s σ H v u Q I r q => p.run pins s σ H v u Q I r (k v σ H Q q)⟩
theorem pi_mono {X : Cx} {tg e : Expr} {t t' : TI} (p : PI X tg e t) (k : ∀ σ H Q, t' σ H Q → t σ H Q) : PI X tg e t' := ⟨fun pins s σ H Q I q => p.run pins s σ H Q I (k σ H Q q)⟩

section
variable {X : Cx} {W : WX} {pos : Pos} {e a b : Expr} {es : List Expr} {m ma mb : FE}
/-! names, constants -/
def mVar (i : Nat) : FE := fun σ h => match σ[i]? with
  | some (some d) => .ok d h
  | _ => .bad
def mC (d : D) : FE := fun _ h => .ok d h
theorem gv (i : Nat) {x : Str} {pos : Pos} (hN : X.N[i]? = some x := by rfl) (hv : Vis X.env.scope x := by first | exact Or.inl rfl | exact Or.inr (Or.inl rfl) | exact Or.inr (Or.inr rfl)) (hd : (x == ("__debug__" : Str)) = false := by decide)
    (hcd : (x == ("__classdict__" : Str)) = false := by decide) : GE X W (.Name x pos) (mVar i) := by
  refine pe_mono (pv i hN hv hd hcd) fun σ H Q ⟨ρ, σh, h, r, s, p⟩ => ?_
  cases q : σh[i]? with
  | none => simp only [mVar, q] at p; exact p.elim
  | some o =>
    cases o with
    | none => simp only [mVar, q] at p; exact p.elim
    | some d =>
      simp only [mVar, q] at p
      obtain ⟨v, e1, z⟩ := s.2 i d q
      exact ⟨v, e1, p.use r z⟩
theorem gC {d : D} {v : V} (h : PE X e (tC v)) (z : ∀ ρ H, DV X.K ρ H d v) : GE X W e (mC d) := pe_mono h fun σ H Q ⟨ρ, σh, h, r, s, p⟩ => p.use r (z _ _)
theorem g_int {i j pos} : GE X W (.Constant (.int i) j pos) (mC (.int i)) := gC pe_int fun _ _ => .int i
theorem g_bl {i j pos} : GE X W (.Constant (.bool i) j pos) (mC (.bl i)) := gC pe_bl fun _ _ => .bl i
theorem g_str {i j pos} : GE X W (.Constant (.str i) j pos) (mC (.str i)) := gC pe_str fun _ _ => .str i
theorem g_non {j pos} : GE X W (.Constant .none j pos) (mC .non) := gC pe_non fun _ _ => .non

/-! two values -/
def mOp (f : D → D → HS → R D) (ma mb : FE) : FE := fun σ h => (ma σ h).bind fun x h1 => (mb σ h1).bind fun y h2 => f x y h2
def mUn (f : D → HS → R D) (ma : FE) : FE := fun σ h => (ma σ h).bind f
def OpS (K : PySem.W.Frag) (f : D → D → HS → R D) (r : R2) : Prop := ∀ (ρ : List Addr) (h : HS) (H : Hp) (d1 d2 : D) (x y : V) (W : XK) (Q : VK),
  Rep K ρ h H → DV K ρ H d1 x → DV K ρ H d2 y → Post K ρ H (DV K) W Q (f d1 d2 h) → r x y H Q
def UnS (K : PySem.W.Frag) (f : D → HS → R D) (r : V → Hp → VK → Prop) : Prop := ∀ (ρ : List Addr) (h : HS) (H : Hp) (d : D) (x : V) (W : XK) (Q : VK),
  Rep K ρ h H → DV K ρ H d x → Post K ρ H (DV K) W Q (f d h) → r x H Q
theorem lOp {f : D → D → HS → R D} {r : R2} (hf : OpS X.K f r) (σ : L2.St) (H : Hp) (Q : VK) (q : lE X.K W (mOp f ma mb) σ H Q) : tOp r (lE X.K W ma) (lE X.K W mb) σ H Q := by
  obtain ⟨ρ, σh, h, rr, s, p⟩ := q
  refine ⟨ρ, σh, h, rr, s, Post.of_bind p fun d1 h1 ρ1 x H1 e1 r1 z1 p1 => ?_⟩
  refine ⟨ρ1, σh, h1, r1, s.mono rr e1, Post.of_bind p1 fun d2 h2 ρ2 y H2 e2 r2 z2 p2 => ?_⟩
  exact hf ρ2 h2 H2 d1 d2 x y _ Q r2 (z1.mono r1 e2) z2 p2
theorem g_op {op : Operator} {f : D → D → HS → R D} {r : R2} (ho : OpR X (binaryOp op) r) (hf : OpS X.K f r) (ha : GE X W a ma) (hb : GE X W b mb) : GE X W (.BinOp a op b pos) (mOp f ma mb) :=
  pe_mono (pe_op ho ha hb) (lOp hf)
theorem g_cmp {op : CmpOp} {f : D → D → HS → R D} {r : R2} (ho : OpR X (compareOp op) r) (hf : OpS X.K f r) (ha : GE X W a ma) (hb : GE X W b mb) (hm : behindInMarks op b = false := by rfl) :
    GE X W (.Compare a [op] [b] pos) (mOp f ma mb) := pe_mono (pe_cmpR ho ha hb hm) (lOp hf)
theorem g_ix {f : D → D → HS → R D} {r : R2} (ho : IxR X r) (hf : OpS X.K f r) (ha : GE X W a ma) (hb : GE X W b mb) (hm : PlainIx b := by exact fun _ _ => rfl) :
    GE X W (.Subscript a b pos) (mOp f ma mb) := pe_mono (pe_ix ho ha hb hm) (lOp hf)
theorem g_un {op : UnaryOp} {f : D → HS → R D} {r : V → Hp → VK → Prop} (ho : UnR X (unaryOp op) r) (hf : UnS X.K f r) (ha : GE X W a ma) : GE X W (.UnaryOp op a pos) (mUn f ma) :=
  pe_mono (pe_un ho ha) fun σ H Q ⟨ρ, σh, h, rr, s, p⟩ => ⟨ρ, σh, h, rr, s, Post.of_bind p fun d1 h1 ρ1 x H1 e1 r1 z1 p1 => hf ρ1 h1 H1 d1 x _ Q r1 z1 p1⟩
/-- two ways -/
theorem OpS.or {K : PySem.W.Frag} {f : D → D → HS → R D} {r r' : R2} (h : ∀ (ρ : List Addr) (h : HS) (H : Hp) (d1 d2 : D) (x y : V) (W : XK) (Q : VK),
  Rep K ρ h H → DV K ρ H d1 x → DV K ρ H d2 y → Post K ρ H (DV K) W Q (f d1 d2 h) → r x y H Q ∨ r' x y H Q) : OpS K f (fun x y H Q => r x y H Q ∨ r' x y H Q) := h

/-! lists of values -/
def mNil : FA := fun _ h => .ok [] h
def mCons (ma : FE) (mr : FA) : FA := fun σ h => (ma σ h).bind fun x h1 => (mr σ h1).bind fun xs h2 => .ok (x :: xs) h2
theorem ga_nil : GA X W [] mNil := pa_mono pa_nil fun σ H Q ⟨ρ, σh, h, r, s, p⟩ => p.use r DVs.nil
theorem ga_cons {mr : FA} (ha : GE X W e ma) (hr : GA X W es mr) (hs : starEach (e :: es) X.env = (false, eval e X.env) :: starEach es X.env := by rfl) : GA X W (e :: es) (mCons ma mr) :=
  pa_mono (pa_cons ha hr hs) fun σ H Q ⟨ρ, σh, h, r, s, p⟩ => ⟨ρ, σh, h, r, s, Post.of_bind p fun d1 h1 ρ1 x H1 e1 r1 z1 p1 =>
    ⟨ρ1, σh, h1, r1, s.mono r e1, Post.of_bind p1 fun d2 h2 ρ2 y H2 e2 r2 z2 p2 => p2.use r2 (.cons (z1.mono r1 e2) z2)⟩⟩
def mTup (ma : FA) : FE := fun σ h => (ma σ h).bind fun xs h1 => if xs.length ≤ sizeLine then .ok (.tup xs) h1 else .bad
def mLst (ma : FA) : FE := fun σ h => (ma σ h).bind fun xs h1 => if xs.length ≤ sizeLine then .ok (.ref h1.length) (h1 ++ [.lst xs]) else .bad
/-- a new tuple is handed on -/
theorem post_tup {K : PySem.W.Frag} {ρ : List Addr} {h : HS} {H : Hp} {ds : List D} {vs : List V} {W : XK} {Q : VK} (r : Rep K ρ h H) (z : DVs K ρ H ds vs) (p : Post K ρ H (DV K) W Q (.ok (.tup ds) h)) :
    ∀ a, H a = none → Q (.ref a) (upd H a (.tup vs)) := fun a n => p ρ _ _ (Ext.laid n) (r.laid n) (.tup (SqT.of upd_same) (z.mono r (Ext.laid n)))
/-- a new list is handed on -/
theorem post_lst {K : PySem.W.Frag} {ρ : List Addr} {h : HS} {H : Hp} {ds : List D} {vs : List V} {W : XK} {Q : VK} (r : Rep K ρ h H) (z : DVs K ρ H ds vs) (p : Post K ρ H (DV K) W Q (.ok (.ref h.length) (h ++ [.lst ds]))) :
    ∀ a, H a = none → Q (.ref a) (upd H a (.lst vs)) := fun a n => p (ρ ++ [a]) _ _ (Ext.push n) (r.push n ⟨vs, upd_same, z.mono r (Ext.push n)⟩) (.ref (by rw [← r.len]; simp))
theorem post_dK {K : PySem.W.Frag} {ρ : List Addr} {h : HS} {H : Hp} {ds : List (Key × D)} {vs : List (Key × V)} {W : XK} {Q : VK} (r : Rep K ρ h H) (z : KDs Key K ρ H ds vs) (p : Post K ρ H (DV K) W Q (.ok (.ref h.length) (h ++ [.dK ds]))) :
    ∀ a, H a = none → Q (.ref a) (upd H a (.dK vs)) := fun a n => p (ρ ++ [a]) _ _ (Ext.push n) (r.push n ⟨vs, upd_same, KDs.mono r (Ext.push n) z⟩) (.ref (by rw [← r.len]; simp))
theorem g_tup {x1} {mr : FA} (hr : GA X W es mr) : GE X W (.Tuple es x1 pos) (mTup mr) :=
  pe_mono (pe_tup hr) fun σ H Q ⟨ρ, σh, h, r, s, p⟩ => ⟨ρ, σh, h, r, s, Post.of_bind p fun ds h1 ρ1 vs H1 e1 r1 z1 p1 => by
    by_cases hl : ds.length ≤ sizeLine
    · rw [if_pos hl] at p1
      exact ⟨by rw [← z1.length]; exact hl, post_tup r1 z1 p1⟩
    · rw [if_neg hl] at p1; exact p1.elim⟩
theorem g_lst {mr : FA} (hr : GA X W es mr) : GE X W (.List es pos) (mLst mr) :=
  pe_mono (pe_lst hr) fun σ H Q ⟨ρ, σh, h, r, s, p⟩ => ⟨ρ, σh, h, r, s, Post.of_bind p fun ds h1 ρ1 vs H1 e1 r1 z1 p1 => by
    by_cases hl : ds.length ≤ sizeLine
    · rw [if_pos hl] at p1
      exact ⟨by rw [← z1.length]; exact hl, post_lst r1 z1 p1⟩
    · rw [if_neg hl] at p1; exact p1.elim⟩
end
end FL

set_option Elab.async false
set_option linter.all false
set_option maxRecDepth 100000
/-! FL, part b: the operations on data. -/
namespace FL
open PySem PySem.Spec PyProof.Rows L2

/-! ### arithmetic -/
def dInt2 (C : Int → Int → Bool) (g : Int → Int → D) : D → D → HS → R D
  | .int i, .int j, h => if C i j then .ok (g i j) h else .bad
  | _, _, _ => .bad
instance (i j : Int) : Decidable (CMul i j) := by unfold CMul; infer_instance
instance (i j : Int) : Decidable (CDivW i j) := by unfold CDivW; infer_instance
instance (i j : Int) : Decidable (CPow i j) := by unfold CPow; infer_instance
def dSub : D → D → HS → R D
  | .int i, .int j, h => .ok (.int (i - j)) h
  | _, _, _ => .bad
def dMul : D → D → HS → R D
  | .int i, .int j, h => if CMul i j then .ok (.int (i * j)) h else .bad
  | _, _, _ => .bad
def dFdiv : D → D → HS → R D
  | .int i, .int j, h => if CDivW i j then .ok (.int (i / j)) h else .bad
  | _, _, _ => .bad
def dMod : D → D → HS → R D
  | .int i, .int j, h => if 0 < j then .ok (.int (i % j)) h else .bad
  | _, _, _ => .bad
def dPow : D → D → HS → R D
  | .int i, .int j, h => if CPow i j then .ok (.int (i ^ j.toNat)) h else .bad
  | _, _, _ => .bad
def dNeg : D → HS → R D
  | .int i, h => .ok (.int (-i)) h
  | _, _ => .bad
section
variable {K : PySem.W.Frag}
theorem s_sub : OpS K dSub (rI0 fun i j => .int (i - j)) := by
  intro ρ h H d1 d2 x y W Q r z1 z2 p
  cases z1 <;> cases z2 <;> first | exact p.elim | skip
  exact ⟨_, _, rfl, rfl, p.use r (.int _)⟩
theorem s_mul : OpS K dMul (rI CMul fun i j => .int (i * j)) := by
  intro ρ h H d1 d2 x y W Q r z1 z2 p
  cases z1 <;> cases z2 <;> first | exact p.elim | skip
  rename_i i j
  by_cases c : CMul i j
  · simp only [dMul, if_pos c] at p; exact ⟨_, _, rfl, rfl, c, p.use r (.int _)⟩
  · simp only [dMul, if_neg c] at p; exact p.elim
theorem s_fdiv : OpS K dFdiv (rI CDivW fun i j => .int (i / j)) := by
  intro ρ h H d1 d2 x y W Q r z1 z2 p
  cases z1 <;> cases z2 <;> first | exact p.elim | skip
  rename_i i j
  by_cases c : CDivW i j
  · simp only [dFdiv, if_pos c] at p; exact ⟨_, _, rfl, rfl, c, p.use r (.int _)⟩
  · simp only [dFdiv, if_neg c] at p; exact p.elim
theorem s_mod : OpS K dMod (rI (fun _ j => 0 < j) fun i j => .int (i % j)) := by
  intro ρ h H d1 d2 x y W Q r z1 z2 p
  cases z1 <;> cases z2 <;> first | exact p.elim | skip
  rename_i i j
  by_cases c : 0 < j
  · simp only [dMod, if_pos c] at p; exact ⟨_, _, rfl, rfl, c, p.use r (.int _)⟩
  · simp only [dMod, if_neg c] at p; exact p.elim
theorem s_pow : OpS K dPow (rI CPow fun i j => .int (i ^ j.toNat)) := by
  intro ρ h H d1 d2 x y W Q r z1 z2 p
  cases z1 <;> cases z2 <;> first | exact p.elim | skip
  rename_i i j
  by_cases c : CPow i j
  · simp only [dPow, if_pos c] at p; exact ⟨_, _, rfl, rfl, c, p.use r (.int _)⟩
  · simp only [dPow, if_neg c] at p; exact p.elim
theorem s_neg : UnS K dNeg (rU fun i => .int (-i)) := by
  intro ρ h H d x W Q r z p
  cases z <;> first | exact p.elim | skip
  exact ⟨_, rfl, p.use r (.int _)⟩
end

/-! ### + : ints, texts, tuples, lists -/
def dAdd : D → D → HS → R D
  | .int i, .int j, h => .ok (.int (i + j)) h
  | .str i, .str j, h => if i.length + j.length ≤ sizeLine then .ok (.str (i ++ j)) h else .bad
  | .tup a, .tup b, h => if a.length + b.length ≤ sizeLine then .ok (.tup (a ++ b)) h else .bad
  | .ref a, .ref b, h => match h[a]?, h[b]? with
    | some (.lst x), some (.lst y) => if x.length + y.length ≤ sizeLine then .ok (.ref h.length) (h ++ [.lst (x ++ y)]) else .bad
    | _, _ => .bad
  | _, _, _ => .bad
abbrev rAddI : R2 := rI0 fun i j => .int (i + j)
abbrev rAddS : R2 := fun x y H Q => ∃ i j, x = .str i ∧ y = .str j ∧ i.length + j.length ≤ sizeLine ∧ Q (.str (i ++ j)) H
def rAdd4 (K : PySem.W.Frag) : R2 := fun x y H Q => rAddI x y H Q ∨ (rAddS x y H Q ∨ (rCatA K x y H Q ∨ rCat x y H Q))
theorem o_add {X : Cx} : OpR X (binaryOp .Add) (rAdd4 X.K) := OpR.or op_add (OpR.or op_add_str (OpR.or op_catA op_cat))
theorem s_add {K : PySem.W.Frag} : OpS K dAdd (rAdd4 K) := by
  intro ρ h H d1 d2 x y W Q r z1 z2 p
  cases z1 <;> cases z2 <;> first | exact p.elim | skip
  · exact .inl ⟨_, _, rfl, rfl, p.use r (.int _)⟩
  · rename_i i j
    by_cases c : i.length + j.length ≤ sizeLine
    · simp only [dAdd, if_pos c] at p; exact .inr (.inl ⟨_, _, rfl, rfl, c, p.use r (.str _)⟩)
    · simp only [dAdd, if_neg c] at p; exact p.elim
  · rename_i i a e1 j b e2
    cases q1 : h[i]? with
    | none => simp only [dAdd, q1] at p; exact p.elim
    | some o1 =>
      cases o1 with
      | lst x =>
        cases q2 : h[j]? with
        | none => simp only [dAdd, q1, q2] at p; exact p.elim
        | some o2 =>
          cases o2 with
          | lst y =>
            simp only [dAdd, q1, q2] at p
            obtain ⟨a', ea, va, ha, za⟩ := r.look q1
            obtain ⟨b', eb, vb, hb, zb⟩ := r.look q2
            rw [e1] at ea; cases ea
            rw [e2] at eb; cases eb
            by_cases c : x.length + y.length ≤ sizeLine
            · rw [if_pos c] at p
              exact .inr (.inr (.inr ⟨_, _, va, vb, rfl, rfl, ha, hb, by rw [← za.length, ← zb.length]; exact c, post_lst r (za.append zb) p⟩))
            · rw [if_neg c] at p; exact p.elim
          | _ => simp only [dAdd, q1, q2] at p; exact p.elim
      | _ => simp only [dAdd, q1] at p; exact p.elim
  · rename_i a va da sa za b vb db sb zb
    by_cases c : da.length + db.length ≤ sizeLine
    · simp only [dAdd, if_pos c] at p
      refine .inr (.inr (.inl ⟨_, _, va, vb, rfl, rfl, sa, sb, by rw [← za.length, ← zb.length]; exact c, fun e => ?_, fun e1 e2 => ?_, fun e1 e2 => post_tup r (za.append zb) p⟩))
      · subst e
        cases za
        exact p.use r (.tup sb zb)
      · subst e2
        cases zb
        rw [List.append_nil] at p
        exact p.use r (.tup sa za)
    · simp only [dAdd, if_neg c] at p; exact p.elim

/-! ### == -/
/-- a scalar -/
def scD : D → Option V
  | .non => some .non | .bl b => some (.bl b) | .int i => some (.int i) | .str x => some (.str x)
  | _ => none
theorem scD_rel {K : PySem.W.Frag} {ρ : List Addr} {H : Hp} {d : D} {v u : V} (z : DV K ρ H d v) (e : scD d = some u) : v = u := by
  cases z <;> simp [scD] at e <;> exact e
def pyD : Nat → HS → D → Option PyData
  | 0, _, _ => none
  | n + 1, h, d => match d with
    | .non => some .none
    | .bl b => some (.bool b)
    | .int i => some (.int i)
    | .str x => some (.str x)
    | .tup ds => (ds.mapM (pyD n h)).map .tuple
    | .cst ds => (ds.mapM (pyD n h)).map .list
    | .ref i => match h[i]? with
      | some (.lst ds) => (ds.mapM (pyD n h)).map .list
      | _ => none
    | _ => none
theorem pyD_ok {K : PySem.W.Frag} {ρ : List Addr} {h : HS} {H : Hp} (r : Rep K ρ h H) : ∀ (n : Nat) (d : D) (v : V) (p : PyData), DV K ρ H d v → pyD n h d = some p → Dp K H v p
  | 0, _, _, _, _, e => by cases e
  | n + 1, d, v, p, z, e => by
    have all : ∀ (ds : List D) (vs : List V) (ps : List PyData), DVs K ρ H ds vs → ds.mapM (pyD n h) = some ps → DpAll K H vs ps := by
      intro ds
      induction ds with
      | nil => intro vs ps z e; cases z; simp at e; subst e; exact .nil
      | cons d ds ih =>
        intro vs ps z e
        cases z with
        | cons z1 z2 =>
          rw [List.mapM_cons] at e
          cases e1 : pyD n h d with
          | none => rw [e1] at e; simp at e
          | some p1 =>
            rw [e1] at e
            cases e2 : ds.mapM (pyD n h) with
            | none => rw [e2] at e; simp at e
            | some ps1 =>
              rw [e2] at e
              simp at e
              subst e
              exact .cons (pyD_ok r n d _ p1 z1 e1) (ih _ _ z2 e2)
    cases z with
    | non => cases e; exact .non
    | bl b => cases e; exact .bl b
    | int i => cases e; exact .int i
    | str x => cases e; exact .str x
    | ty n => cases e
    | ref q =>
      rename_i i a
      cases q1 : h[i]? with
      | none => simp only [pyD, q1] at e; cases e
      | some o =>
        cases o with
        | lst ds =>
          simp only [pyD, q1] at e
          obtain ⟨ps, e1, e2⟩ := Option.map_eq_some_iff.mp e
          subst e2
          obtain ⟨a', ea, va, ha, za⟩ := r.look q1
          rw [q] at ea; cases ea
          exact .lst (SqL.of ha) (all _ _ _ za e1)
        | _ => simp only [pyD, q1] at e; cases e
    | tup q z =>
      simp only [pyD] at e
      obtain ⟨ps, e1, e2⟩ := Option.map_eq_some_iff.mp e
      subst e2
      exact .tup q (all _ _ _ z e1)
    | cst q z =>
      simp only [pyD] at e
      obtain ⟨ps, e1, e2⟩ := Option.map_eq_some_iff.mp e
      subst e2
      exact .lst q.sq (all _ _ _ z e1)
def eqDeep (x y : D) (h : HS) : Option Bool := match pyD 66 h x, pyD 66 h y with
  | some p, some q => if SeqAt.shaped p && SeqAt.shaped q then some (PyData.eqv p q) else none
  | _, _ => none
def eqB (x y : D) (h : HS) : Option Bool := match scD x, scD y with
  | some a, some b => if scal a b then some (decide (a = b)) else none
  | _, _ => eqDeep x y h
def dEq (x y : D) (h : HS) : R D := match eqB x y h with
  | some b => .ok (.bl b) h
  | none => .bad
def dNe (x y : D) (h : HS) : R D := match eqB x y h with
  | some b => .ok (.bl !b) h
  | none => .bad
def rEq2 (K : PySem.W.Frag) : R2 := fun x y H Q => rEq x y H Q ∨ rEqD K x y H Q
def rNe2 (K : PySem.W.Frag) : R2 := fun x y H Q => rNe x y H Q ∨ rNeD K x y H Q
theorem o_eq {X : Cx} (hu : X.A.units + 64 < cLine) : OpR X (compareOp .Eq) (rEq2 X.K) := OpR.or op_eq (op_eqD hu)
theorem o_ne {X : Cx} (hu : X.A.units + 64 < cLine) : OpR X (compareOp .NotEq) (rNe2 X.K) := OpR.or op_ne (op_neD hu)
theorem eqDeep_ok {K : PySem.W.Frag} {ρ : List Addr} {h : HS} {H : Hp} (r : Rep K ρ h H) {d1 d2 : D} {x y : V} {b : Bool} (z1 : DV K ρ H d1 x) (z2 : DV K ρ H d2 y) (e : eqDeep d1 d2 h = some b) :
    ∃ p q, Dp K H x p ∧ Dp K H y q ∧ SeqAt.shaped p = true ∧ SeqAt.shaped q = true ∧ b = PyData.eqv p q := by
  unfold eqDeep at e
  cases e1 : pyD 66 h d1 with
  | none => rw [e1] at e; cases e
  | some p =>
    cases e2 : pyD 66 h d2 with
    | none => rw [e1, e2] at e; cases e
    | some q =>
      rw [e1, e2] at e
      simp only at e
      by_cases c : (SeqAt.shaped p && SeqAt.shaped q) = true
      · rw [if_pos c] at e
        rw [Bool.and_eq_true] at c
        exact ⟨p, q, pyD_ok r _ _ _ _ z1 e1, pyD_ok r _ _ _ _ z2 e2, c.1, c.2, (Option.some.inj e).symm⟩
      · rw [if_neg c] at e; cases e
theorem eqB_ok {K : PySem.W.Frag} {ρ : List Addr} {h : HS} {H : Hp} (r : Rep K ρ h H) {d1 d2 : D} {x y : V} {b : Bool} (z1 : DV K ρ H d1 x) (z2 : DV K ρ H d2 y) (e : eqB d1 d2 h = some b) :
    (scal x y = true ∧ b = decide (x = y)) ∨ ∃ p q, Dp K H x p ∧ Dp K H y q ∧ SeqAt.shaped p = true ∧ SeqAt.shaped q = true ∧ b = PyData.eqv p q := by
  unfold eqB at e
  cases e1 : scD d1 with
  | none => rw [e1] at e; exact .inr (eqDeep_ok r z1 z2 e)
  | some a =>
    cases e2 : scD d2 with
    | none => rw [e1, e2] at e; exact .inr (eqDeep_ok r z1 z2 e)
    | some a2 =>
      rw [e1, e2] at e
      simp only at e
      rw [scD_rel z1 e1, scD_rel z2 e2]
      by_cases c : scal a a2 = true
      · rw [if_pos c] at e; exact .inl ⟨c, (Option.some.inj e).symm⟩
      · rw [if_neg c] at e; cases e
theorem s_eq {K : PySem.W.Frag} : OpS K dEq (rEq2 K) := by
  intro ρ h H d1 d2 x y W Q r z1 z2 p
  unfold dEq at p
  cases e : eqB d1 d2 h with
  | none => rw [e] at p; exact p.elim
  | some b =>
    rw [e] at p
    have q := p.use r (.bl b)
    rcases eqB_ok r z1 z2 e with ⟨c, rfl⟩ | ⟨u, w, h1, h2, h3, h4, rfl⟩
    · exact .inl ⟨c, q⟩
    · exact .inr ⟨u, w, h1, h2, h3, h4, q⟩
theorem s_ne {K : PySem.W.Frag} : OpS K dNe (rNe2 K) := by
  intro ρ h H d1 d2 x y W Q r z1 z2 p
  unfold dNe at p
  cases e : eqB d1 d2 h with
  | none => rw [e] at p; exact p.elim
  | some b =>
    rw [e] at p
    have q := p.use r (.bl (!b))
    rcases eqB_ok r z1 z2 e with ⟨c, rfl⟩ | ⟨u, w, h1, h2, h3, h4, rfl⟩
    · exact .inl ⟨c, q⟩
    · exact .inr ⟨u, w, h1, h2, h3, h4, q⟩

/-! ### < and its like -/
def dLt : D → D → HS → R D
  | .int i, .int j, h => .ok (.bl (decide (i < j))) h
  | _, _, _ => .bad
def dLe : D → D → HS → R D
  | .int i, .int j, h => .ok (.bl (decide (i ≤ j))) h
  | _, _, _ => .bad
def dGt : D → D → HS → R D
  | .int i, .int j, h => .ok (.bl (decide (j < i))) h
  | _, _, _ => .bad
def dGe : D → D → HS → R D
  | .int i, .int j, h => .ok (.bl (decide (j ≤ i))) h
  | _, _, _ => .bad
def dIsN : D → D → HS → R D
  | .non, .non, h => .ok (.bl true) h
  | _, .non, h => .ok (.bl false) h
  | _, _, _ => .bad
def dNotN : D → D → HS → R D
  | .non, .non, h => .ok (.bl false) h
  | _, .non, h => .ok (.bl true) h
  | _, _, _ => .bad
section
variable {K : PySem.W.Frag}
theorem s_lt : OpS K dLt (rI0 fun i j => .bl (decide (i < j))) := by
  intro ρ h H d1 d2 x y W Q r z1 z2 p
  cases z1 <;> cases z2 <;> first | exact p.elim | exact ⟨_, _, rfl, rfl, p.use r (.bl _)⟩
theorem s_le : OpS K dLe (rI0 fun i j => .bl (decide (i ≤ j))) := by
  intro ρ h H d1 d2 x y W Q r z1 z2 p
  cases z1 <;> cases z2 <;> first | exact p.elim | exact ⟨_, _, rfl, rfl, p.use r (.bl _)⟩
theorem s_gt : OpS K dGt (rI0 fun i j => .bl (decide (j < i))) := by
  intro ρ h H d1 d2 x y W Q r z1 z2 p
  cases z1 <;> cases z2 <;> first | exact p.elim | exact ⟨_, _, rfl, rfl, p.use r (.bl _)⟩
theorem s_ge : OpS K dGe (rI0 fun i j => .bl (decide (j ≤ i))) := by
  intro ρ h H d1 d2 x y W Q r z1 z2 p
  cases z1 <;> cases z2 <;> first | exact p.elim | exact ⟨_, _, rfl, rfl, p.use r (.bl _)⟩
theorem s_isN : OpS K dIsN (fun x y H Q => y = .non ∧ Q (.bl (decide (x = .non))) H) := by
  intro ρ h H d1 d2 x y W Q r z1 z2 p
  cases z1 <;> cases z2 <;> first | exact p.elim | exact ⟨rfl, p.use r (.bl _)⟩
theorem s_notN : OpS K dNotN (fun x y H Q => y = .non ∧ Q (.bl (!decide (x = .non))) H) := by
  intro ρ h H d1 d2 x y W Q r z1 z2 p
  cases z1 <;> cases z2 <;> first | exact p.elim | exact ⟨rfl, p.use r (.bl _)⟩
end

/-! ### dicts: keys ints and texts -/
def keyD : D → Option Key
  | .int i => some (.inl i)
  | .str x => some (.inr x)
  | _ => none
theorem keyD_rel {K : PySem.W.Frag} {ρ : List Addr} {H : Hp} {d : D} {v : V} {k : Key} (z : DV K ρ H d v) (e : keyD d = some k) : v = kV k := by
  cases z <;> simp [keyD] at e <;> subst e <;> rfl
def getK {κ α : Type} [DecidableEq κ] (kvs : List (κ × α)) (k : κ) : Option α := (kvs.find? fun kv => decide (kv.1 = k)).map (·.2)
def setK {κ α : Type} [DecidableEq κ] (kvs : List (κ × α)) (k : κ) (v : α) : List (κ × α) :=
  if (kvs.any fun kv => decide (kv.1 = k)) = true then kvs.map (fun kv => if kv.1 = k then (kv.1, v) else kv) else kvs ++ [(k, v)]
section
variable {κ : Type} [DecidableEq κ] {K : PySem.W.Frag} {ρ : List Addr} {h : HS} {H : Hp}
theorem KDs.length {ks : List (κ × D)} {vs : List (κ × V)} (q : KDs κ K ρ H ks vs) : ks.length = vs.length := Paired.length q
theorem KDs.keys {ks : List (κ × D)} {vs : List (κ × V)} (q : KDs κ K ρ H ks vs) : vs.map (·.1) = ks.map (·.1) := by
  unfold KDs at q
  induction q with
  | nil => rfl
  | cons z _ ih => rw [List.map_cons, List.map_cons, ih, z.1]
theorem KDs.get {ks : List (κ × D)} {vs : List (κ × V)} (q : KDs κ K ρ H ks vs) (k : κ) : (∀ d, getK ks k = some d → ∃ v, valV vs k = some v ∧ DV K ρ H d v) ∧ (getK ks k = none → valV vs k = none) := by
  unfold KDs at q
  induction q with
  | nil => exact ⟨(fun d e => by cases e), fun _ => rfl⟩
  | @cons p q ps qs z _ ih =>
    by_cases e : p.1 = k
    · have e2 : q.1 = k := z.1.symm.trans e
      have g1 : getK (p :: ps) k = some p.2 := by simp [getK, List.find?_cons, e]
      have g2 : valV (q :: qs) k = some q.2 := valV_pos e2
      exact ⟨(fun d ed => by rw [g1] at ed; cases ed; exact ⟨_, g2, z.2⟩), (fun en => by rw [g1] at en; cases en)⟩
    · have e2 : ¬ q.1 = k := fun y => e (z.1.trans y)
      have g1 : getK (p :: ps) k = getK ps k := by simp [getK, List.find?_cons, e]
      have g2 : valV (q :: qs) k = valV qs k := valV_neg e2
      rw [g1, g2]
      exact ih
theorem KDs.put {ks : List (κ × D)} {vs : List (κ × V)} (q : KDs κ K ρ H ks vs) (k : κ) {d : D} {v : V} (z : DV K ρ H d v) : KDs κ K ρ H (setK ks k d) (putK vs k v) := by
  have any : ∀ {ks : List (κ × D)} {vs : List (κ × V)}, KDs κ K ρ H ks vs → (ks.any fun kv => decide (kv.1 = k)) = (vs.any fun kv => decide (kv.1 = k)) := by
    intro ks vs q
    unfold KDs at q
    induction q with
    | nil => rfl
    | cons z _ ih => rw [List.any_cons, List.any_cons, ih, z.1]
  unfold setK putK
  rw [any q]
  split
  · rename_i hh
    clear hh any
    unfold KDs at q ⊢
    induction q with
    | nil => exact .nil
    | @cons p q ps qs z1 _ ih =>
      rw [List.map_cons, List.map_cons]
      refine .cons ?_ ih
      by_cases e : p.1 = k
      · have e2 : q.1 = k := z1.1.symm.trans e
        rw [if_pos e, if_pos e2]
        exact ⟨z1.1, z⟩
      · have e2 : ¬ q.1 = k := fun y => e (z1.1.trans y)
        rw [if_neg e, if_neg e2]
        exact z1
  · rename_i hh
    clear hh any
    unfold KDs at q ⊢
    induction q with
    | nil => exact .cons ⟨rfl, z⟩ .nil
    | cons z1 _ ih => exact .cons z1 ih
end

/-! ### subscripts: lists, tuples, texts by an int; dicts -/
def rIxK : R2 := fun x y H Q => ∃ a k kvs v, x = .ref a ∧ y = kV k ∧ Rd H a (.dK kvs) ∧ valV kvs k = some v ∧ Q v H
theorem ix_dK {X : Cx} (hu : X.A.units + 1 < cLine) : IxR X rIxK := by
  intro value slice pins s σ H x y v u Q I rx ry h hs
  obtain ⟨a, k, kvs, d, rfl, rfl, hr, hv, q⟩ := h
  obtain rfl : v = Value.ref a := rx
  have g : DGet H a (kV k) (some d) := .inl ⟨kvs, k, hr, rfl, hv.symm⟩
  exact PyProof.Rows.tail_any (dict_typeIs I g) PySem.F.slot_dict_getitem.lookup (d_getItem hu I g ry fun w' s3 I3 rw' => ⟨d, H, I3, rw', q⟩) hs
def rIxA (K : PySem.W.Frag) : R2 := fun x y H Q => rIx K x y H Q ∨ rIxK x y H Q
theorem o_ix {X : Cx} (hu : X.A.units + 1 < cLine) : IxR X (rIxA X.K) := IxR.or ix_seq (ix_dK hu)
def ixL (ds : List D) (h : HS) (i : Int) : R D := match atI ds i with
  | some d => .ok d h
  | none => .bad
def ixKD (kvs : List (Key × D)) (h : HS) (y : D) : R D := match keyD y with
  | some k => match getK kvs k with
    | some d => .ok d h
    | none => .bad
  | none => .bad
def dIx : D → D → HS → R D
  | .tup ds, .int i, h => ixL ds h i
  | .cst ds, .int i, h => ixL ds h i
  | .str z, .int i, h => if z.length ≤ sizeLine then match atI z.cps.toList i with
      | some c => .ok (.str ⟨#[c]⟩) h
      | none => .bad
    else .bad
  | .ref a, y, h => match h[a]? with
    | some (.lst ds) => match y with
      | .int i => ixL ds h i
      | _ => .bad
    | some (.dK kvs) => ixKD kvs h y
    | some (.fdK kvs) => ixKD kvs h y
    | _ => .bad
  | _, _, _ => .bad
theorem DVs.atI {K : PySem.W.Frag} {ρ : List Addr} {H : Hp} {ds : List D} {vs : List V} {i : Int} {d : D} (z : DVs K ρ H ds vs) (e : atI ds i = some d) : ∃ v, L2.atI vs i = some v ∧ DV K ρ H d v := by
  unfold L2.atI at e ⊢
  rw [← z.length]
  cases q : ixN ds.length i with
  | none => rw [q] at e; cases e
  | some j =>
    rw [q] at e
    exact z.get e
theorem s_ixL {K : PySem.W.Frag} {ρ : List Addr} {h : HS} {H : Hp} {ds : List D} {vs : List V} {i : Int} {W : XK} {Q : VK} (r : Rep K ρ h H) (z : DVs K ρ H ds vs) (p : Post K ρ H (DV K) W Q (ixL ds h i)) : ∃ v, atI vs i = some v ∧ Q v H := by
  unfold ixL at p
  cases e : atI ds i with
  | none => rw [e] at p; exact p.elim
  | some d =>
    rw [e] at p
    obtain ⟨v, ev, zv⟩ := z.atI e
    exact ⟨v, ev, p.use r zv⟩
theorem s_ixKD {K : PySem.W.Frag} {ρ : List Addr} {h : HS} {H : Hp} {kvs : List (Key × D)} {vs : List (Key × V)} {d : D} {y : V} {W : XK} {Q : VK} (r : Rep K ρ h H) (z : KDs Key K ρ H kvs vs) (zy : DV K ρ H d y)
    (p : Post K ρ H (DV K) W Q (ixKD kvs h d)) : ∃ k v, y = kV k ∧ valV vs k = some v ∧ Q v H := by
  unfold ixKD at p
  cases e : keyD d with
  | none => rw [e] at p; exact p.elim
  | some k =>
    rw [e] at p
    simp only at p
    cases e2 : getK kvs k with
    | none => rw [e2] at p; exact p.elim
    | some g =>
      rw [e2] at p
      obtain ⟨v, ev, zv⟩ := (z.get k).1 g e2
      exact ⟨k, v, keyD_rel zy e, ev, p.use r zv⟩
theorem s_ix {K : PySem.W.Frag} : OpS K dIx (rIxA K) := by
  intro ρ h H d1 d2 x y W Q r z1 z2 p
  cases z1 with
  | tup q zs =>
    cases z2 <;> first | exact p.elim | skip
    obtain ⟨v, e, qv⟩ := s_ixL r zs p
    exact .inl (.inr (.inl ⟨_, _, _, v, rfl, rfl, q, e, qv⟩))
  | cst q zs =>
    cases z2 <;> first | exact p.elim | skip
    obtain ⟨v, e, qv⟩ := s_ixL r zs p
    exact .inl (.inl ⟨_, _, _, v, rfl, rfl, q.sq, e, qv⟩)
  | str z =>
    cases z2 <;> first | exact p.elim | skip
    rename_i i
    by_cases c : z.length ≤ sizeLine
    · simp only [dIx, if_pos c] at p
      cases e : atI z.cps.toList i with
      | none => rw [e] at p; exact p.elim
      | some k => rw [e] at p; exact .inl (.inr (.inr ⟨_, _, k, rfl, rfl, c, e, p.use r (.str _)⟩))
    · simp only [dIx, if_neg c] at p; exact p.elim
  | ref q =>
    rename_i a ad
    cases e : h[a]? with
    | none => simp only [dIx, e] at p; exact p.elim
    | some o =>
      obtain ⟨a', ea, z⟩ := r.look e
      rw [q] at ea; cases ea
      cases o with
      | lst ds =>
        simp only [dIx, e] at p
        obtain ⟨vs, hv, zs⟩ := z
        cases z2 <;> first | exact p.elim | skip
        obtain ⟨v, e, qv⟩ := s_ixL r zs p
        exact .inl (.inl ⟨_, _, _, v, rfl, rfl, SqL.of hv, e, qv⟩)
      | dK kvs =>
        simp only [dIx, e] at p
        obtain ⟨vs, hv, zs⟩ := z
        obtain ⟨k, v, ey, ev, qv⟩ := s_ixKD r zs z2 p
        exact .inr ⟨_, k, vs, v, rfl, ey, .inl hv, ev, qv⟩
      | fdK kvs =>
        simp only [dIx, e] at p
        obtain ⟨ob, vs, hv, zs⟩ := z
        obtain ⟨k, v, ey, ev, qv⟩ := s_ixKD r zs z2 p
        exact .inr ⟨_, k, vs, v, rfl, ey, .inr ⟨ob, hv⟩, ev, qv⟩
      | ins C fs => simp only [dIx, e] at p; exact p.elim
  | _ => exact p.elim

/-! ### in -/
def fEq : D → D → Bool
  | .non, .non => true
  | .bl a, .bl b => a == b
  | .bl a, .int b => (if a then 1 else 0) == b
  | .int a, .bl b => a == (if b then 1 else 0)
  | .int a, .int b => a == b
  | .str a, .str b => a == b
  | _, _ => false
def flatD (d : D) : Bool := (scD d).isSome
theorem fEq_rel {K : PySem.W.Frag} {ρ : List Addr} {H : Hp} {d e : D} {v u : V} (z : DV K ρ H d v) (w : DV K ρ H e u) (f : flatD d = true) (g : flatD e = true) : fEq d e = eqV v u ∧ flatV v = true ∧ flatV u = true := by
  cases z <;> cases w <;> first | exact ⟨rfl, rfl, rfl⟩ | (simp [flatD, scD] at f g)
theorem fIn_rel {K : PySem.W.Frag} {ρ : List Addr} {H : Hp} {d : D} {v : V} (z : DV K ρ H d v) (f : flatD d = true) : ∀ {ds : List D} {vs : List V}, DVs K ρ H ds vs → ds.all flatD = true →
    (ds.any fun y => fEq y d) = inV v vs ∧ flatV v = true ∧ vs.all flatV = true
  | _, _, .nil, _ => ⟨rfl, by cases z <;> first | rfl | (simp [flatD, scD] at f), rfl⟩
  | e :: ds, u :: vs, .cons w s, g => by
    rw [List.all_cons, Bool.and_eq_true] at g
    obtain ⟨h1, h2, h3⟩ := fIn_rel z f s g.2
    obtain ⟨k1, k2, k3⟩ := fEq_rel w z g.1 f
    refine ⟨?_, h2, by rw [List.all_cons, k2, h3]; rfl⟩
    show (fEq e d || ds.any fun y => fEq y d) = (eqV u v || inV v vs)
    rw [k1, h1]
def itemsD (h : HS) : D → Option (List D)
  | .tup ds => some ds
  | .cst ds => some ds
  | .ref i => match h[i]? with
    | some (.lst ds) => some ds
    | _ => none
  | _ => none
theorem itemsD_ok {K : PySem.W.Frag} {ρ : List Addr} {h : HS} {H : Hp} (r : Rep K ρ h H) {d : D} {v : V} {ds : List D} (z : DV K ρ H d v) (e : itemsD h d = some ds) : ∃ a vs, v = .ref a ∧ (SqL K H a vs ∨ SqT K H a vs) ∧ DVs K ρ H ds vs := by
  cases z <;> first | (simp [itemsD] at e; done) | skip
  · rename_i i a q
    cases q1 : h[i]? with
    | none => simp only [itemsD, q1] at e; cases e
    | some o =>
      cases o with
      | lst ds =>
        simp only [itemsD, q1] at e
        cases e
        obtain ⟨a', ea, va, ha, za⟩ := r.look q1
        rw [q] at ea; cases ea
        exact ⟨_, va, rfl, .inl (SqL.of ha), za⟩
      | _ => simp only [itemsD, q1] at e; cases e
  · rename_i q z; cases e; exact ⟨_, _, rfl, .inr q, z⟩
  · rename_i q z; cases e; exact ⟨_, _, rfl, .inl q.sq, z⟩
def dictD (h : HS) : D → Option (List (Key × D))
  | .ref i => match h[i]? with
    | some (.dK ds) => some ds
    | some (.fdK ds) => some ds
    | _ => none
  | _ => none
theorem dictD_ok {K : PySem.W.Frag} {ρ : List Addr} {h : HS} {H : Hp} (r : Rep K ρ h H) {d : D} {v : V} {ks : List (Key × D)} (z : DV K ρ H d v) (e : dictD h d = some ks) : ∃ a vs, v = .ref a ∧ Rd H a (.dK vs) ∧ KDs Key K ρ H ks vs := by
  cases z <;> first | (simp [dictD] at e; done) | skip
  rename_i i a q
  cases q1 : h[i]? with
  | none => simp only [dictD, q1] at e; cases e
  | some o =>
    obtain ⟨a', ea, z⟩ := r.look q1
    rw [q] at ea; cases ea
    cases o with
    | dK ds => simp only [dictD, q1] at e; cases e; obtain ⟨va, ha, za⟩ := z; exact ⟨_, va, rfl, .inl ha, za⟩
    | fdK ds => simp only [dictD, q1] at e; cases e; obtain ⟨ob, va, ha, za⟩ := z; exact ⟨_, va, rfl, .inr ⟨ob, ha⟩, za⟩
    | _ => simp only [dictD, q1] at e; cases e
/-- x in y, as a truth -/
def inB (x y : D) (h : HS) : Option Bool := match itemsD h y with
  | some ds => if flatD x && ds.all flatD then some (ds.any fun y => fEq y x) else none
  | none => match dictD h y with
    | some ks => (keyD x).map fun k => (getK ks k).isSome
    | none => match x, y with
      | .str a, .str b => if a.length = 1 then some (decide (a.cps.getD 0 0 ∈ b.cps.toList)) else some (!(Builtin.Str.occurrences b a 0 b.length 1).isEmpty)
      | _, _ => none
def dIn (x y : D) (h : HS) : R D := match inB x y h with
  | some b => .ok (.bl b) h
  | none => .bad
def dNotIn (x y : D) (h : HS) : R D := match inB x y h with
  | some b => .ok (.bl !b) h
  | none => .bad
def rInK : R2 := fun x y H Q => ∃ a o, y = .ref a ∧ DGet H a x o ∧ Q (.bl o.isSome) H
def rNotInK : R2 := fun x y H Q => ∃ a o, y = .ref a ∧ DGet H a x o ∧ Q (.bl (!o.isSome)) H
theorem op_inK {X : Cx} (hu : X.A.units + 1 < cLine) : OpR X (compareOp .In) rInK := by
  intro pins s σ H x y v u Q I rx ry h
  obtain ⟨a, o, rfl, g, q⟩ := h
  obtain rfl : u = Value.ref a := ry
  exact d_in hu I g rx fun s3 I3 => ⟨.bl o.isSome, H, I3, rfl, q⟩
theorem op_notInK {X : Cx} (hu : X.A.units + 1 < cLine) : OpR X (compareOp .NotIn) rNotInK := by
  intro pins s σ H x y v u Q I rx ry h
  obtain ⟨a, o, rfl, g, q⟩ := h
  obtain rfl : u = Value.ref a := ry
  exact d_notIn hu I g rx fun s3 I3 => ⟨.bl (!o.isSome), H, I3, rfl, q⟩
abbrev rInSg : R2 := fun x y H Q => ∃ (c : Nat) (z : Str), x = .str ⟨#[c]⟩ ∧ y = .str z ∧ Q (.bl (decide (c ∈ z.cps.toList))) H
abbrev rNotInSg : R2 := fun x y H Q => ∃ (c : Nat) (z : Str), x = .str ⟨#[c]⟩ ∧ y = .str z ∧ Q (.bl (!decide (c ∈ z.cps.toList))) H
abbrev rInSt : R2 := fun x y H Q => ∃ i j, x = .str i ∧ y = .str j ∧ Q (.bl (!(Builtin.Str.occurrences j i 0 j.length 1).isEmpty)) H
abbrev rNotInSt : R2 := fun x y H Q => ∃ i j, x = .str i ∧ y = .str j ∧ Q (.bl (!(!(Builtin.Str.occurrences j i 0 j.length 1).isEmpty))) H
def rInA (K : PySem.W.Frag) : R2 := fun x y H Q => rIn K false x y H Q ∨ (rInK x y H Q ∨ (rInSg x y H Q ∨ rInSt x y H Q))
def rNotInA (K : PySem.W.Frag) : R2 := fun x y H Q => rIn K true x y H Q ∨ (rNotInK x y H Q ∨ (rNotInSg x y H Q ∨ rNotInSt x y H Q))
theorem o_in {X : Cx} (hu : X.A.units + 1 < cLine) : OpR X (compareOp .In) (rInA X.K) := OpR.or op_in_seq (OpR.or (op_inK hu) (OpR.or op_in_sign op_in_str))
theorem o_notIn {X : Cx} (hu : X.A.units + 1 < cLine) : OpR X (compareOp .NotIn) (rNotInA X.K) := OpR.or op_notIn_seq (OpR.or (op_notInK hu) (OpR.or op_notIn_sign op_notin_str))
theorem str_one {a : Str} (h : a.length = 1) : a = ⟨#[a.cps.getD 0 0]⟩ := by
  obtain ⟨⟨l⟩⟩ := a
  match l, h with
  | [c], _ => rfl
theorem inB_ok {K : PySem.W.Frag} {ρ : List Addr} {h : HS} {H : Hp} (r : Rep K ρ h H) {d1 d2 : D} {x y : V} {b : Bool} (z1 : DV K ρ H d1 x) (z2 : DV K ρ H d2 y) (e : inB d1 d2 h = some b) :
    ∀ Q : VK, (Q (.bl b) H → rInA K x y H Q) ∧ (Q (.bl (!b)) H → rNotInA K x y H Q) := by
  unfold inB at e
  cases e1 : itemsD h d2 with
  | some ds =>
    rw [e1] at e
    simp only at e
    obtain ⟨a, vs, rfl, hq, zs⟩ := itemsD_ok r z2 e1
    by_cases c : (flatD d1 && ds.all flatD) = true
    · rw [if_pos c] at e
      rw [Bool.and_eq_true] at c
      obtain ⟨h1, h2, h3⟩ := fIn_rel z1 c.1 zs c.2
      rw [h1] at e
      cases e
      exact fun Q => ⟨fun q => .inl ⟨a, vs, rfl, hq, h2, h3, q⟩, fun q => .inl ⟨a, vs, rfl, hq, h2, h3, q⟩⟩
    · rw [if_neg c] at e; cases e
  | none =>
    rw [e1] at e
    simp only at e
    cases e2 : dictD h d2 with
    | some ks =>
      rw [e2] at e
      simp only at e
      obtain ⟨a, vs, rfl, hq, zs⟩ := dictD_ok r z2 e2
      obtain ⟨k, ek, eb⟩ := Option.map_eq_some_iff.mp e
      have ex := keyD_rel z1 ek
      subst ex
      have g : DGet H a (kV k) (valV vs k) := .inl ⟨vs, k, hq, rfl, rfl⟩
      have eo : (valV vs k).isSome = b := by
        rw [← eb]
        cases q : getK ks k with
        | none => rw [(zs.get k).2 q]; rfl
        | some d => obtain ⟨v, ev, _⟩ := (zs.get k).1 d q; rw [ev]; rfl
      exact fun Q => ⟨fun q => .inr (.inl ⟨a, _, rfl, g, by rw [eo]; exact q⟩), fun q => .inr (.inl ⟨a, _, rfl, g, by rw [eo]; exact q⟩)⟩
    | none =>
      rw [e2] at e
      cases z1 <;> cases z2 <;> first | (cases e; done) | skip
      rename_i a c
      simp only at e
      by_cases hl : a.length = 1
      · rw [if_pos hl] at e
        cases e
        exact fun Q => ⟨fun q => .inr (.inr (.inl ⟨_, _, congrArg V.str (str_one hl), rfl, q⟩)), fun q => .inr (.inr (.inl ⟨_, _, congrArg V.str (str_one hl), rfl, q⟩))⟩
      · rw [if_neg hl] at e
        cases e
        exact fun Q => ⟨fun q => .inr (.inr (.inr ⟨_, _, rfl, rfl, q⟩)), fun q => .inr (.inr (.inr ⟨_, _, rfl, rfl, q⟩))⟩
theorem s_in {K : PySem.W.Frag} : OpS K dIn (rInA K) := by
  intro ρ h H d1 d2 x y W Q r z1 z2 p
  unfold dIn at p
  cases e : inB d1 d2 h with
  | none => rw [e] at p; exact p.elim
  | some b => rw [e] at p; exact (inB_ok r z1 z2 e Q).1 (p.use r (.bl b))
theorem s_notIn {K : PySem.W.Frag} : OpS K dNotIn (rNotInA K) := by
  intro ρ h H d1 d2 x y W Q r z1 z2 p
  unfold dNotIn at p
  cases e : inB d1 d2 h with
  | none => rw [e] at p; exact p.elim
  | some b => rw [e] at p; exact (inB_ok r z1 z2 e Q).2 (p.use r (.bl (!b)))

/-! ### a value as a test -/
def truB (h : HS) : D → Option Bool
  | .non => some false
  | .bl b => some b
  | .int i => some (i != 0)
  | .str y => if y.length ≤ sizeLine then some ((y.length : Int) != 0) else none
  | .tup ds => some (!ds.isEmpty)
  | .cst ds => some (!ds.isEmpty)
  | .ref i => match h[i]? with
    | some (.lst ds) => some (!ds.isEmpty)
    | some (.dK ds) => some (!ds.isEmpty)
    | _ => none
  | _ => none
theorem isEmpty_len {α β : Type} {xs : List α} {ys : List β} (e : xs.length = ys.length) : xs.isEmpty = ys.isEmpty := by
  cases xs <;> cases ys <;> first | rfl | (simp at e)
theorem truB_ok {K : PySem.W.Frag} {ρ : List Addr} {h : HS} {H : Hp} (r : Rep K ρ h H) {d : D} {v : V} {b : Bool} (z : DV K ρ H d v) (e : truB h d = some b) : TruV K v H b := by
  cases z with
  | non => cases e; rfl
  | bl b => cases e; rfl
  | int i => cases e; rfl
  | str y =>
    simp only [truB] at e
    by_cases c : y.length ≤ sizeLine
    · rw [if_pos c] at e; cases e; exact ⟨c, rfl⟩
    · rw [if_neg c] at e; cases e
  | ty n => cases e
  | tup q zs => cases e; exact .inr (.inl ⟨_, q, by rw [isEmpty_len zs.length]⟩)
  | cst q zs => cases e; exact .inl ⟨_, q.sq, by rw [isEmpty_len zs.length]⟩
  | ref q =>
    rename_i i a
    cases q1 : h[i]? with
    | none => simp only [truB, q1] at e; cases e
    | some o =>
      obtain ⟨a', ea, z⟩ := r.look q1
      rw [q] at ea; cases ea
      cases o with
      | lst ds => simp only [truB, q1] at e; cases e; obtain ⟨va, ha, za⟩ := z; exact .inl ⟨_, SqL.of ha, by rw [isEmpty_len za.length]⟩
      | dK ds => simp only [truB, q1] at e; cases e; obtain ⟨va, ha, za⟩ := z; exact .inr (.inr ⟨_, ha, by rw [isEmpty_len za.length]⟩)
      | _ => simp only [truB, q1] at e; cases e
def mTru (m : FE) : FT := fun σ h => (m σ h).bind fun d h1 => match truB h1 d with
  | some b => .ok b h1
  | none => .bad
section
variable {X : Cx} {W : WX} {pos : Pos} {e a b : Expr} {es rest : List Expr} {m ma mb : FE} {ta tb : FT}
theorem gt_val (ha : GE X W a ma) (he : ∀ whole, isTrue a X.env whole = (do let v ← whole; standAt a.pos; holding [v] (truthy v)) := by intro _; rfl) : GT X W a (mTru ma) :=
  pt_mono (pt_truth ha he) fun σ H Q ⟨ρ, σh, h, rr, s, p⟩ => ⟨ρ, σh, h, rr, s, Post.of_bind p fun d h1 ρ1 v H1 e1 r1 z1 p1 => by
    cases e : truB h1 d with
    | none => rw [e] at p1; exact p1.elim
    | some b => rw [e] at p1; exact ⟨b, truB_ok r1 z1 e, p1.use r1 rfl⟩⟩
/-- a comparison as a test -/
def mBl (m : FE) : FT := fun σ h => (m σ h).bind fun d h1 => match d with
  | .bl b => .ok b h1
  | _ => .bad
theorem lBl {m : FE} {t : TE} (k : ∀ σ H Q, lE X.K W m σ H Q → t σ H Q) (σ : L2.St) (H : Hp) (Q : Bool → Hp → Prop) (q : lT X.K W (mBl m) σ H Q) : tTest t σ H Q := by
  obtain ⟨ρ, σh, h, rr, s, p⟩ := q
  refine k σ H _ ⟨ρ, σh, h, rr, s, Post.of_bind p fun d h1 ρ1 v H1 e1 r1 z1 p1 => ?_⟩
  cases z1 <;> first | exact p1.elim | exact ⟨_, rfl, p1.use r1 rfl⟩
theorem gt_cmp {op : CmpOp} {f : D → D → HS → R D} {r : R2} (ho : OpR X (compareOp op) r) (hf : OpS X.K f r) (ha : GE X W a ma) (hb : GE X W b mb) (hm : behindInMarks op b = false := by rfl) :
    GT X W (.Compare a [op] [b] pos) (mBl (mOp f ma mb)) := pt_mono (pt_cmpR ho ha hb hm) (lBl (lOp hf))
/-- and, or, not -/
def mAnd (ta tb : FT) : FT := fun σ h => (ta σ h).bind fun c h1 => if c = true then tb σ h1 else .ok false h1
def mOr (ta tb : FT) : FT := fun σ h => (ta σ h).bind fun c h1 => if c = true then .ok true h1 else tb σ h1
def mNot (ta : FT) : FT := fun σ h => (ta σ h).bind fun c h1 => .ok (!c) h1
theorem gw_and1 (ha : GT X W a ta) : GW X W (.BoolOp .And [a] pos) ta := pw_and1 ha
theorem gw_or1 (ha : GT X W a ta) : GW X W (.BoolOp .Or [a] pos) ta := pw_or1 ha
theorem gw_and (ha : GT X W a ta) (hb : GW X W (.BoolOp .And (b :: rest) pos) tb) : GW X W (.BoolOp .And (a :: b :: rest) pos) (mAnd ta tb) :=
  pw_mono (pw_and ha hb) fun σ H Q ⟨ρ, σh, h, rr, s, p⟩ => ⟨ρ, σh, h, rr, s, Post.of_bind p fun d h1 ρ1 v H1 e1 r1 z1 p1 => by
    cases z1
    cases d with
    | true => exact ⟨ρ1, σh, h1, r1, s.mono rr e1, p1⟩
    | false => exact p1.use r1 rfl⟩
theorem gw_or (ha : GT X W a ta) (hb : GW X W (.BoolOp .Or (b :: rest) pos) tb) : GW X W (.BoolOp .Or (a :: b :: rest) pos) (mOr ta tb) :=
  pw_mono (pw_or ha hb) fun σ H Q ⟨ρ, σh, h, rr, s, p⟩ => ⟨ρ, σh, h, rr, s, Post.of_bind p fun d h1 ρ1 v H1 e1 r1 z1 p1 => by
    cases z1
    cases d with
    | false => exact ⟨ρ1, σh, h1, r1, s.mono rr e1, p1⟩
    | true => exact p1.use r1 rfl⟩
theorem gt_w (h : GW X W e ta) : GT X W e ta := PW.pt h
theorem gt_not (ha : GT X W a ta) : GT X W (.UnaryOp .Not a pos) (mNot ta) :=
  pt_mono (pt_not ha) fun σ H Q ⟨ρ, σh, h, rr, s, p⟩ => ⟨ρ, σh, h, rr, s, Post.of_bind p fun d h1 ρ1 v H1 e1 r1 z1 p1 => by
    cases z1
    exact p1.use r1 rfl⟩
/-- the same as values: of truths -/
def mAndV (ma mb : FE) : FE := fun σ h => (ma σ h).bind fun d h1 => match d with
  | .bl true => mb σ h1
  | .bl false => .ok (.bl false) h1
  | _ => .bad
def mOrV (ma mb : FE) : FE := fun σ h => (ma σ h).bind fun d h1 => match d with
  | .bl false => mb σ h1
  | .bl true => .ok (.bl true) h1
  | _ => .bad
def mNotV (ma : FE) : FE := fun σ h => (ma σ h).bind fun d h1 => match d with
  | .bl b => .ok (.bl !b) h1
  | _ => .bad
theorem g_one {op} (h : GE X W a m) : GE X W (.BoolOp op [a] pos) m := pe_one h
theorem g_and (ha : GE X W a ma) (hb : GE X W (.BoolOp .And (b :: rest) pos) mb) : GE X W (.BoolOp .And (a :: b :: rest) pos) (mAndV ma mb) :=
  pe_mono (pe_and ha hb) fun σ H Q ⟨ρ, σh, h, rr, s, p⟩ => ⟨ρ, σh, h, rr, s, Post.of_bind p fun d h1 ρ1 v H1 e1 r1 z1 p1 => by
    cases z1 <;> first | exact p1.elim | skip
    rename_i c
    cases c with
    | true => exact ⟨true, rfl, ⟨ρ1, σh, h1, r1, s.mono rr e1, p1⟩⟩
    | false => exact ⟨false, rfl, p1.use r1 (.bl false)⟩⟩
theorem g_or (ha : GE X W a ma) (hb : GE X W (.BoolOp .Or (b :: rest) pos) mb) : GE X W (.BoolOp .Or (a :: b :: rest) pos) (mOrV ma mb) :=
  pe_mono (pe_or ha hb) fun σ H Q ⟨ρ, σh, h, rr, s, p⟩ => ⟨ρ, σh, h, rr, s, Post.of_bind p fun d h1 ρ1 v H1 e1 r1 z1 p1 => by
    cases z1 <;> first | exact p1.elim | skip
    rename_i c
    cases c with
    | false => exact ⟨false, rfl, ⟨ρ1, σh, h1, r1, s.mono rr e1, p1⟩⟩
    | true => exact ⟨true, rfl, p1.use r1 (.bl true)⟩⟩
theorem g_not (ha : GE X W a ma) : GE X W (.UnaryOp .Not a pos) (mNotV ma) :=
  pe_mono (pe_not ha) fun σ H Q ⟨ρ, σh, h, rr, s, p⟩ => ⟨ρ, σh, h, rr, s, Post.of_bind p fun d h1 ρ1 v H1 e1 r1 z1 p1 => by
    cases z1 <;> first | exact p1.elim | exact ⟨_, rfl, p1.use r1 (.bl _)⟩⟩
def mIf (t : FT) (ma mb : FE) : FE := fun σ h => (t σ h).bind fun c h1 => if c = true then ma σ h1 else mb σ h1
theorem g_if {c : Expr} (hc : GT X W c ta) (ha : GE X W a ma) (hb : GE X W b mb) : GE X W (.IfExp c a b pos) (mIf ta ma mb) :=
  pe_mono (pe_ifExp hc ha hb) fun σ H Q ⟨ρ, σh, h, rr, s, p⟩ => ⟨ρ, σh, h, rr, s, Post.of_bind p fun d h1 ρ1 v H1 e1 r1 z1 p1 => by
    cases z1
    cases d with
    | true => exact ⟨ρ1, σh, h1, r1, s.mono rr e1, p1⟩
    | false => exact ⟨ρ1, σh, h1, r1, s.mono rr e1, p1⟩⟩
end
end FL

set_option Elab.async false
set_option linter.all false
set_option maxRecDepth 100000
/-! FL, part c: statements, loops, comprehensions, calls. -/
namespace FL
open PySem PySem.Spec PyProof.Rows L2

inductive RS where
  | bad | nx (σ : Sl) (h : HS) | rt (d : D) (h : HS) | bk (σ : Sl) (h : HS) | ct (σ : Sl) (h : HS) | ex (x : XV) (σ : Sl) (h : HS)
abbrev FS := Sl → HS → RS
def R.on {α : Type} (m : R α) (σ : Sl) (k : α → HS → RS) : RS := match m with
  | .bad => .bad
  | .ok a h => k a h
  | .ex x h => .ex x σ h

def PostS (K : PySem.W.Frag) (ρ : List Addr) (H : Hp) (W : WX) (T : Ends) : RS → Prop
  | .bad => False
  | .nx σh h' => ∀ ρ' σ' H', Ext ρ H ρ' H' → Rep K ρ' h' H' → RepS K ρ' H' σh σ' → T.nx σ' H'
  | .bk σh h' => ∀ ρ' σ' H', Ext ρ H ρ' H' → Rep K ρ' h' H' → RepS K ρ' H' σh σ' → T.bk σ' H'
  | .ct σh h' => ∀ ρ' σ' H', Ext ρ H ρ' H' → Rep K ρ' h' H' → RepS K ρ' H' σh σ' → T.ct σ' H'
  | .rt d h' => ∀ ρ' v H', Ext ρ H ρ' H' → Rep K ρ' h' H' → DV K ρ' H' d v → T.rt v H'
  | .ex x σh h' => ∀ ρ' dx σ' H', Ext ρ H ρ' H' → Rep K ρ' h' H' → RepS K ρ' H' σh σ' → XRep K ρ' H' x dx → W (.ref x.cls) dx σ' H'
section
variable {K : PySem.W.Frag} {ρ ρ1 : List Addr} {h h1 : HS} {H H1 : Hp} {W : WX} {T T' : Ends}
theorem PostS.ext (e : Ext ρ H ρ1 H1) {m : RS} (p : PostS K ρ H W T m) : PostS K ρ1 H1 W T m := by
  cases m with
  | bad => exact p
  | nx => exact fun ρ' v H' e2 r q => p ρ' v H' (e.trans e2 r.nd) r q
  | bk => exact fun ρ' v H' e2 r q => p ρ' v H' (e.trans e2 r.nd) r q
  | ct => exact fun ρ' v H' e2 r q => p ρ' v H' (e.trans e2 r.nd) r q
  | rt => exact fun ρ' v H' e2 r q => p ρ' v H' (e.trans e2 r.nd) r q
  | ex => exact fun ρ' v σ' H' e2 r q => p ρ' v σ' H' (e.trans e2 r.nd) r q
theorem PostS.of_on {α β : Type} {rel : List Addr → Hp → α → β → Prop} {m : R α} {σh : Sl} {σ : L2.St} {k : α → HS → RS} {Q : β → Hp → Prop} (p : PostS K ρ H W T (m.on σh k)) (r : Rep K ρ h H) (s : RepS K ρ H σh σ)
    (q : ∀ d h1 ρ1 v H1, Ext ρ H ρ1 H1 → Rep K ρ1 h1 H1 → rel ρ1 H1 d v → PostS K ρ1 H1 W T (k d h1) → Q v H1) : Post K ρ H rel (fun c d H' => W c d σ H') Q m := by
  cases m with
  | bad => exact p
  | ok d h' => exact fun ρ' v H' e r' z => q d h' ρ' v H' e r' z (PostS.ext e p)
  | ex x h' => exact fun ρ' dx H' e r' z => p ρ' dx σ H' e r' (s.mono r e) z
theorem PostS.useN {σh : Sl} {σ : L2.St} (p : PostS K ρ H W T (.nx σh h)) (r : Rep K ρ h H) (s : RepS K ρ H σh σ) : T.nx σ H := p ρ σ H .refl r s
end
def lS (K : PySem.W.Frag) (W : WX) (m : FS) : TS := fun T σ H => ∃ ρ σh h, Rep K ρ h H ∧ RepS K ρ H σh σ ∧ PostS K ρ H W T (m σh h)
def GS (X : Cx) (W : WX) (st : Stmt) (m : FS) : Prop := PS X st (lS X.K W m)
def GSs (X : Cx) (W : WX) (st : List Stmt) (m : FS) : Prop := PSs X st (lS X.K W m)

/-- the context of a body -/
structure CK (X : Cx) (W : WX) (k : Nat) : Prop where
  calm : X.calm = true
  nd : X.N.Nodup
  tk : Takes X W
  po : PassesOwn (model X.prog X.w) X.A X.env X.xe
  hr : Room k X.A
abbrev W0 : WX := fun _ _ _ _ => False
theorem CK.u64 {X : Cx} {W : WX} {k : Nat} (c : CK X W k) : X.A.units + 64 < cLine := c.hr.units
theorem CK.u1 {X : Cx} {W : WX} {k : Nat} (c : CK X W k) : X.A.units + 1 < cLine := hu_of c.hr
theorem CK.blk {X : Cx} {W : WX} {k : Nat} (c : CK X W k) (s : Shared) (H : Hp) (scope : Scope) (env : Env) (fp : List Addr) : CK (X.blk s H scope env fp) W0 k :=
  ⟨c.calm, c.nd, takes0, PassesOwn.never, c.hr⟩

section
variable {X : Cx} {W : WX} {pos : Pos} {e a b : Expr} {es rest : List Expr} {st : Stmt} {sts : List Stmt} {m ma mb : FE} {ta tb : FT} {u v : FS}
/-! ### small statements, blocks -/
def mSkip : FS := fun σ h => .nx σ h
def mSeq (u v : FS) : FS := fun σ h => match u σ h with
  | .nx σ' h' => v σ' h'
  | r => r
theorem lSeq (T : Ends) (σ : L2.St) (H : Hp) (q : lS X.K W (mSeq u v) T σ H) : tSeq (lS X.K W u) (lS X.K W v) T σ H := by
  obtain ⟨ρ, σh, h, rr, s, p⟩ := q
  refine ⟨ρ, σh, h, rr, s, ?_⟩
  unfold mSeq at p
  cases c : u σh h with
  | nx σ1 h1 =>
    rw [c] at p
    exact fun ρ' σ' H' e r z => ⟨ρ', σ1, h1, r, z, PostS.ext e p⟩
  | bad => rw [c] at p; exact p
  | rt => rw [c] at p; exact p
  | bk => rw [c] at p; exact p
  | ct => rw [c] at p; exact p
  | ex => rw [c] at p; exact p
theorem gs_nil : GSs X W [] mSkip := pss_mono pss_nil fun T σ H ⟨ρ, σh, h, r, s, p⟩ => p.useN r s
theorem gs_cons (h1 : GS X W st u) (h2 : GSs X W sts v) : GSs X W (st :: sts) (mSeq u v) := pss_mono (pss_cons h1 h2) lSeq
theorem gs_one (h1 : GS X W st u) : GSs X W [st] u := pss_one h1
theorem g_pass : GS X W (.Pass pos) mSkip := ps_mono ps_pass fun T σ H ⟨ρ, σh, h, r, s, p⟩ => p.useN r s
def mBrk : FS := fun σ h => .bk σ h
def mCnt : FS := fun σ h => .ct σ h
theorem g_break : GS X W (.Break pos) mBrk := ps_mono ps_break fun T σ H ⟨ρ, σh, h, r, s, p⟩ => p ρ σ H .refl r s
theorem g_continue : GS X W (.Continue pos) mCnt := ps_mono ps_continue fun T σ H ⟨ρ, σh, h, r, s, p⟩ => p ρ σ H .refl r s
theorem g_doc {x j pos pos'} : GS X W (.Expr (.Constant (.str x) j pos) pos') mSkip := ps_mono ps_doc fun T σ H ⟨ρ, σh, h, r, s, p⟩ => p.useN r s
def mDrop (m : FE) : FS := fun σ h => (m σ h).on σ fun _ h1 => .nx σ h1
theorem g_expr (he : GE X W e m) (hs : swapsWith e none pos.line X.env = pure false := by rfl) : GS X W (.Expr e pos) (mDrop m) :=
  ps_mono (ps_expr he hs) fun T σ H ⟨ρ, σh, h, r, s, p⟩ => ⟨ρ, σh, h, r, s, PostS.of_on p r s fun d h1 ρ1 v H1 e1 r1 z1 p1 => p1.useN r1 (s.mono r e1)⟩
def mRet (m : FE) : FS := fun σ h => (m σ h).on σ fun d h1 => .rt d h1
theorem g_ret (he : GE X W e m) : GS X W (.Return (some e) pos) (mRet m) :=
  ps_mono (ps_ret he) fun T σ H ⟨ρ, σh, h, r, s, p⟩ => ⟨ρ, σh, h, r, s, PostS.of_on p r s fun d h1 ρ1 v H1 e1 r1 z1 p1 => p1 ρ1 v H1 .refl r1 z1⟩
def mRetN : FS := fun σ h => .rt .non h
theorem g_retN : GS X W (.Return none pos) mRetN := ps_mono ps_retN fun T σ H ⟨ρ, σh, h, r, s, p⟩ => p ρ _ H .refl r .non
def mIfS (t : FT) (u v : FS) : FS := fun σ h => (t σ h).on σ fun c h1 => if c = true then u σ h1 else v σ h1
theorem g_ifS {c : Expr} {as bs : List Stmt} (hc : GT X W c ta) (ha : GSs X W as u) (hb : GSs X W bs v) : GS X W (.If c as bs pos) (mIfS ta u v) :=
  ps_mono (ps_if hc ha hb) fun T σ H ⟨ρ, σh, h, r, s, p⟩ => ⟨ρ, σh, h, r, s, PostS.of_on p r s fun d h1 ρ1 v H1 e1 r1 z1 p1 => by
    cases z1
    cases d with
    | true => exact ⟨ρ1, σh, h1, r1, s.mono r e1, p1⟩
    | false => exact ⟨ρ1, σh, h1, r1, s.mono r e1, p1⟩⟩
def mNever : FS := fun _ _ => .bad
theorem g_never : GS X W st mNever := ps_mono ps_never fun T σ H ⟨ρ, σh, h, r, s, p⟩ => p.elim
theorem gs_never : GSs X W sts mNever := pss_mono pss_never fun T σ H ⟨ρ, σh, h, r, s, p⟩ => p.elim

/-! ### targets -/
abbrev FG := D → Sl → HS → R Sl
def lG (K : PySem.W.Frag) (W : WX) (m : FG) : TG := fun v σ H Q => ∃ ρ σh h d, Rep K ρ h H ∧ RepS K ρ H σh σ ∧ DV K ρ H d v ∧ Post K ρ H (RepS K) (fun c d H' => W c d σ H') Q (m d σh h)
def GG (X : Cx) (W : WX) (e : Expr) (m : FG) : Prop := PG X e (lG X.K W m)
def mTo (i : Nat) : FG := fun d σ h => .ok (σ.set i (some d)) h
theorem gg_name {i : Nat} {x : Str} (hN : X.N.Nodup) (hi : X.N[i]? = some x := by rfl) (hx : Loc X.env.scope x := by first | exact Or.inl rfl | exact Or.inr rfl) (hf : X.fn x = true ∨ X.env.scope.names.lookup x = some .local := by first | exact .inl rfl | exact .inr rfl) : GG X W (.Name x pos) (mTo i) :=
  pg_mono (pg_name hN hi hx hf) fun v σ H Q ⟨ρ, σh, h, d, r, s, z, p⟩ => p.use r (s.set i z)
/-- several names -/
def setAll : List Nat → List D → Sl → Option Sl
  | [], [], σ => some σ
  | i :: is, d :: ds, σ => setAll is ds (σ.set i (some d))
  | _, _, _ => none
def mTos (is : List Nat) : FG := fun d σ h => match d with
  | .tup ds => match setAll is ds σ with
    | some σ' => .ok σ' h
    | none => .bad
  | _ => .bad
def tNames : List Nat → TGs
  | [] => gNil
  | i :: is => gCons (gName i) (tNames is)
theorem setAll_len : ∀ {is : List Nat} {ds : List D} {σ σ' : Sl}, setAll is ds σ = some σ' → is.length = ds.length
  | [], [], _, _, _ => rfl
  | i :: is, d :: ds, _, _, e => by rw [List.length_cons, List.length_cons, setAll_len (is := is) (ds := ds) e]
  | [], _ :: _, _, _, e => by cases e
  | _ :: _, [], _, _, e => by cases e
theorem tNames_ok {K : PySem.W.Frag} {ρ : List Addr} {H : Hp} : ∀ {is : List Nat} {ds : List D} {vs : List V} {σh σh' : Sl} {σ : L2.St} {Q : L2.St → Hp → Prop}, DVs K ρ H ds vs → RepS K ρ H σh σ → setAll is ds σh = some σh' →
    (∀ σ', RepS K ρ H σh' σ' → (∀ js : List Nat, (∀ i ∈ is, i ∈ js) → wipe σ' js = wipe σ js) → Q σ' H) → tNames is vs σ H Q
  | [], [], _, _, _, _, _, z, s, e, q => by cases z; cases e; exact ⟨rfl, q _ s fun _ _ => rfl⟩
  | i :: is, d :: ds, _, _, _, _, _, z, s, e, q => by
    cases z with
    | cons z1 z2 =>
      refine ⟨_, _, rfl, tNames_ok (is := is) (ds := ds) z2 (s.set i z1) e fun σ' s' hw => q σ' s' fun js hj => ?_⟩
      rw [hw js fun k hk => hj k (List.mem_cons_of_mem _ hk)]
      have hi : i ∈ js := hj i List.mem_cons_self
      clear hj hw
      induction js with
      | nil => cases hi
      | cons j js ih =>
        unfold wipe
        by_cases hij : i ∈ js
        · rw [ih hij]
        · have : i = j := by
            rcases List.mem_cons.mp hi with z | z
            · exact z
            · exact absurd z hij
          subst this
          have comm : ∀ (js : List Nat) (σ : L2.St) (x : Option V), i ∉ js → wipe (σ.set i x) js = (wipe σ js).set i x := by
            intro js
            induction js with
            | nil => intro σ x _; rfl
            | cons k js ih2 =>
              intro σ x hn
              unfold wipe
              rw [ih2 σ x fun z => hn (List.mem_cons_of_mem _ z)]
              exact List.set_comm _ _ fun e => hn (by rw [e]; exact List.mem_cons_self)
          rw [comm js _ _ hij, List.set_set]
  | [], _ :: _, _, _, _, _, _, _, _, e, _ => by cases e
  | _ :: _, [], _, _, _, _, _, _, _, e, _ => by cases e
theorem gg_names {is : List Nat} {k : Nat} (hc : X.calm = true) (hp : PGs X es (tNames is)) (hn : (assignEach es X.env).length = is.length := by rfl) (hst : (assignEach es X.env).findIdx? (·.1) = none := by rfl) : GG X W (.Tuple es k pos) (mTos is) :=
  pg_mono (pg_tup hc hp hn hst) fun v σ H Q ⟨ρ, σh, h, d, r, s, z, p⟩ => by
    cases z with
    | tup q zs =>
      unfold mTos at p
      simp only at p
      rename_i a vs ds _
      cases e : setAll is ds σh with
      | none => rw [e] at p; exact p.elim
      | some σ' =>
        rw [e] at p
        exact ⟨_, vs, rfl, q, by rw [setAll_len e, zs.length], tNames_ok zs s e fun σ' s' _ => p.use r s'⟩
    | _ => exact p.elim
/-- o[i] = .. -/
def dSet (o i d : D) (h : HS) : Option HS := match o with
  | .ref a => match h[a]? with
    | some (.lst ds) => match i with
      | .int k => (ixN ds.length k).map fun j => h.set a (.lst (ds.set j d))
      | _ => none
    | some (.dK kvs) => match keyD i with
      | some k => if kvs.length < sizeLine then some (h.set a (.dK (setK kvs k d))) else none
      | none => none
    | _ => none
  | _ => none
def rSet2 : TSet := fun o i v H Q => rSetL o i v H Q ∨ rSetD o i v H Q
theorem p_set {k : Nat} (c : CK X W k) : PSet X rSet2 := by
  intro pins s σ H o i v ov iv u Q I ro ri rv h
  rcases h with h | h
  · exact set_list pins s σ H o i v ov iv u Q I ro ri rv h
  · exact set_dict c.u1 pins s σ H o i v ov iv u Q I ro ri rv h
theorem dSet_ok {K : PySem.W.Frag} {ρ : List Addr} {h h' : HS} {H : Hp} (r : Rep K ρ h H) {o i d : D} {x y v : V} {Q : Hp → Prop} (z1 : DV K ρ H o x) (z2 : DV K ρ H i y) (z3 : DV K ρ H d v) (e : dSet o i d h = some h')
    (q : ∀ H', Ext ρ H ρ H' → Rep K ρ h' H' → Q H') : rSet2 x y v H Q := by
  cases z1 <;> first | (cases e; done) | skip
  rename_i a ad qa
  unfold dSet at e
  simp only at e
  cases q1 : h[a]? with
  | none => rw [q1] at e; cases e
  | some ob =>
    obtain ⟨a', ea, z⟩ := r.look q1
    rw [qa] at ea; cases ea
    rw [q1] at e
    cases ob with
    | lst ds =>
      obtain ⟨vs, hv, zs⟩ := z
      cases z2 <;> first | (cases e; done) | skip
      rename_i k
      obtain ⟨j, ej, eh⟩ := Option.map_eq_some_iff.mp e
      subst eh
      refine .inl ⟨_, vs, k, j, rfl, rfl, hv, by rw [← zs.length]; exact ej, q _ (Ext.wrote qa hv) (r.wrote qa hv rfl ⟨_, upd_same, (zs.set z3 j).mono r (Ext.wrote qa hv)⟩)⟩
    | dK kvs =>
      obtain ⟨vs, hv, zs⟩ := z
      simp only at e
      cases ek : keyD i with
      | none => rw [ek] at e; cases e
      | some k =>
        rw [ek] at e
        simp only at e
        by_cases hl : kvs.length < sizeLine
        · rw [if_pos hl] at e
          cases e
          have ey := keyD_rel z2 ek
          subst ey
          exact .inr ⟨_, _, rfl, DPut.k hv (by rw [← zs.length]; exact hl), q _ (Ext.wrote qa hv) (r.wrote qa hv rfl ⟨_, upd_same, KDs.mono r (Ext.wrote qa hv) (zs.put k z3)⟩)⟩
        · rw [if_neg hl] at e; cases e
    | _ => cases e
def mToIx (mo mi : FE) : FG := fun d σ h => (mo σ h).bind fun o h1 => (mi σ h1).bind fun i h2 => match dSet o i d h2 with
  | some h3 => .ok σ h3
  | none => .bad
theorem gg_sub {k : Nat} (c : CK X W k) (ho : GE X W a ma) (hi : GE X W b mb)
    (hs : ∀ v, assign (.Subscript a b pos) X.env v = (do
      let ov ← holding [v] (eval a X.env)
      let iv ← holding [v, ov] (eval b X.env)
      standAt pos
      holding [v, ov, iv] (setItem ov iv v)
      release [v, ov, iv] []) := by intro _; rfl) : GG X W (.Subscript a b pos) (mToIx ma mb) :=
  pg_mono (pg_sub ho hi (p_set c) hs) fun v σ H Q ⟨ρ, σh, h, d, r, s, z, p⟩ => ⟨ρ, σh, h, r, s, Post.of_bind p fun o h1 ρ1 x H1 e1 r1 z1 p1 =>
    ⟨ρ1, σh, h1, r1, s.mono r e1, Post.of_bind p1 fun i h2 ρ2 y H2 e2 r2 z2 p2 => by
      cases e : dSet o i d h2 with
      | none => rw [e] at p2; exact p2.elim
      | some h3 =>
        rw [e] at p2
        exact dSet_ok r2 (z1.mono r1 e2) z2 ((z.mono r e1).mono r1 e2) e fun H' e3 r3 => p2 ρ2 σ H' e3 r3 (((s.mono r e1).mono r1 e2).mono r2 e3)⟩⟩
def mAsg (m : FE) (g : FG) : FS := fun σ h => (m σ h).on σ fun d h1 => (g d σ h1).on σ fun σ' h2 => .nx σ' h2
theorem lAsg {g : FG} (T : Ends) (σ : L2.St) (H : Hp) (q : lS X.K W (mAsg m g) T σ H) : tAsg (lE X.K W m) (lG X.K W g) T σ H := by
  obtain ⟨ρ, σh, h, r, s, p⟩ := q
  refine ⟨ρ, σh, h, r, s, PostS.of_on p r s fun d h1 ρ1 v H1 e1 r1 z1 p1 => ?_⟩
  exact ⟨ρ1, σh, h1, d, r1, s.mono r e1, z1, PostS.of_on p1 r1 (s.mono r e1) fun σ' h2 ρ2 σ2 H2 e2 r2 z2 p2 => p2.useN r2 z2⟩
theorem g_asg {tg : Expr} {g : FG} (he : GE X W e m) (hg : GG X W tg g) (hs : swapsWithSole [tg] e pos.line X.env = pure false := by rfl) (hw : swappedStores [tg] e X.env = pure none := by rfl)
    (h1 : (assignEach [tg] X.env).map (·.2) = [assign tg X.env] := by rfl) : GS X W (.Assign [tg] e pos) (mAsg m g) := ps_mono (ps_asg he hg hs hw h1) lAsg

/-! ### op= -/
def mAug (i : Nat) (f : D → D → HS → R D) (m : FE) : FS := fun σ h => match σ[i]? with
  | some (some d) => (m σ h).on σ fun e h1 => (f d e h1).on σ fun z h2 => .nx (σ.set i (some z)) h2
  | _ => .bad
theorem g_aug {i : Nat} {x : Str} {op : Operator} {f : D → D → HS → R D} {r : R2} {pos' : Pos} (hN : X.N.Nodup) (ho : OpR X (inplaceOp op) r) (hf : OpS X.K f r) (he : GE X W e m) (hi : X.N[i]? = some x := by rfl) (hx : Loc X.env.scope x := by first | exact Or.inl rfl | exact Or.inr rfl)
    (hfn : X.fn x = true ∨ X.env.scope.names.lookup x = some .local := by first | exact .inl rfl | exact .inr rfl) : GS X W (.AugAssign (.Name x pos') op e pos) (mAug i f m) :=
  ps_mono (ps_aug hN hi hx he ho hfn) fun T σ H ⟨ρ, σh, h, rr, s, p⟩ => by
    unfold mAug at p
    cases q : σh[i]? with
    | none => rw [q] at p; exact p.elim
    | some o =>
      cases o with
      | none => rw [q] at p; exact p.elim
      | some d =>
        rw [q] at p
        obtain ⟨v, e1, z⟩ := s.2 i d q
        refine ⟨v, e1, ρ, σh, h, rr, s, PostS.of_on p rr s fun d2 h1 ρ1 v2 H1 e1 r1 z1 p1 => ?_⟩
        refine hf ρ1 h1 H1 d d2 v v2 (fun c d H' => W c d σ H') _ r1 (z.mono rr e1) z1 (PostS.of_on p1 r1 (s.mono rr e1) fun d3 h2 ρ2 v3 H2 e2 r2 z2 p2 => ?_)
        exact p2.useN r2 (((s.mono rr e1).mono r1 e2).set i z2)
/-- d[k] op= e, d a dict -/
def dSetK (o i d : D) (h : HS) : Option HS := match o with
  | .ref a => match h[a]? with
    | some (.dK kvs) => match keyD i with
      | some k => if kvs.length < sizeLine then some (h.set a (.dK (setK kvs k d))) else none
      | none => none
    | _ => none
  | _ => none
theorem dSetK_ok {K : PySem.W.Frag} {ρ : List Addr} {h h' : HS} {H : Hp} (r : Rep K ρ h H) {o i d : D} {a : Addr} {y v : V} (z1 : DV K ρ H o (.ref a)) (z2 : DV K ρ H i y) (z3 : DV K ρ H d v) (e : dSetK o i d h = some h') :
    ∃ H', DPut H a y v H' ∧ Ext ρ H ρ H' ∧ Rep K ρ h' H' := by
  cases z1 <;> first | (cases e; done) | skip
  rename_i ai qa
  unfold dSetK at e
  simp only at e
  cases q1 : h[ai]? with
  | none => rw [q1] at e; cases e
  | some ob =>
    obtain ⟨a', ea, z⟩ := r.look q1
    rw [qa] at ea; cases ea
    rw [q1] at e
    cases ob with
    | dK kvs =>
      obtain ⟨vs, hv, zs⟩ := z
      simp only at e
      cases ek : keyD i with
      | none => rw [ek] at e; cases e
      | some k =>
        rw [ek] at e
        simp only at e
        by_cases hl : kvs.length < sizeLine
        · rw [if_pos hl] at e
          cases e
          have ey := keyD_rel z2 ek
          subst ey
          exact ⟨_, DPut.k hv (by rw [← zs.length]; exact hl), Ext.wrote qa hv, r.wrote qa hv rfl ⟨_, upd_same, KDs.mono r (Ext.wrote qa hv) (zs.put k z3)⟩⟩
        · rw [if_neg hl] at e; cases e
    | _ => cases e
def mAugK (mo mi : FE) (f : D → D → HS → R D) (m : FE) : FS := fun σ h => (mo σ h).on σ fun o h1 => (mi σ h1).on σ fun i h2 => match dictD h2 o, keyD i with
  | some kvs, some k => match getK kvs k with
    | some d => (m σ h2).on σ fun e h3 => (f d e h3).on σ fun z h4 => match dSetK o i z h4 with
      | some h5 => .nx σ h5
      | none => .bad
    | none => .bad
  | _, _ => .bad
theorem g_augK {k : Nat} {op : Operator} {f : D → D → HS → R D} {r : R2} {tpos : Pos} (c : CK X W k) (ho : OpR X (inplaceOp op) r) (hf : OpS X.K f r) (hd : GE X W a ma) (hi : GE X W b mb) (he : GE X W e m)
    (ha : ∀ ov iv new, augStore b ov iv new = (do holding [new, ov, iv] (setItem ov iv new); release [new, ov, iv] []; pure .next) := by intros; rfl) : GS X W (.AugAssign (.Subscript a b tpos) op e pos) (mAugK ma mb f m) :=
  ps_mono (ps_daug c.u1 hd hi he ho ha) fun T σ H ⟨ρ, σh, h, rr, s, p⟩ => ⟨ρ, σh, h, rr, s, PostS.of_on p rr s fun o h1 ρ1 x H1 e1 r1 z1 p1 =>
    ⟨ρ1, σh, h1, r1, s.mono rr e1, PostS.of_on p1 r1 (s.mono rr e1) fun i h2 ρ2 y H2 e2 r2 z2 p2 => by
      have s2 := (s.mono rr e1).mono r1 e2
      have z1' := z1.mono r1 e2
      cases q1 : dictD h2 o with
      | none => rw [q1] at p2; exact p2.elim
      | some kvs =>
        cases q2 : keyD i with
        | none => rw [q1, q2] at p2; exact p2.elim
        | some kk =>
          rw [q1, q2] at p2
          simp only at p2
          cases q3 : getK kvs kk with
          | none => rw [q3] at p2; exact p2.elim
          | some d =>
            rw [q3] at p2
            simp only at p2
            obtain ⟨ad, vs, ex, hv, zs⟩ := dictD_ok r2 z1' q1
            subst ex
            obtain ⟨v, ev, zv⟩ := (zs.get kk).1 d q3
            have ey := keyD_rel z2 q2
            refine ⟨ad, v, rfl, .inl ⟨vs, kk, hv, ey, ev.symm⟩, ρ2, σh, h2, r2, s2, PostS.of_on p2 r2 s2 fun d2 h3 ρ3 v2 H3 e3 r3 z3 p3 => ?_⟩
            have s3 := s2.mono r2 e3
            refine hf ρ3 h3 H3 d d2 v v2 (fun c d H' => W c d σ H') _ r3 (zv.mono r2 e3) z3 (PostS.of_on p3 r3 s3 fun d3 h4 ρ4 v3 H4 e4 r4 z4 p4 => ?_)
            have s4 := s3.mono r3 e4
            cases q4 : dSetK o i d3 h4 with
            | none => rw [q4] at p4; exact p4.elim
            | some h5 =>
              rw [q4] at p4
              obtain ⟨H5, g, e5, r5⟩ := dSetK_ok r4 ((z1'.mono r2 e3).mono r3 e4) ((z2.mono r2 e3).mono r3 e4) z4 q4
              exact ⟨H5, g, p4 ρ4 σ H5 e5 r5 (s4.mono r4 e5)⟩⟩⟩
end

/-! ### attributes of instances -/
def putA {α : Type} (f : Str) (v : α) : List (Str × α) → List (Str × α)
  | [] => [(f, v)]
  | (g, x) :: r => if g = f then (g, v) :: r else (g, x) :: putA f v r
section
variable {K : PySem.W.Frag} {ρ : List Addr} {H : Hp}
theorem FDs.look {fs : List (Str × D)} {vs : List (Str × V)} (q : KDs Str K ρ H fs vs) (f : Str) : (∀ d, fs.lookup f = some d → ∃ v, vs.lookup f = some v ∧ DV K ρ H d v) ∧ (fs.lookup f = none → vs.lookup f = none) := by
  unfold KDs at q
  induction q with
  | nil => exact ⟨(fun d e => by cases e), fun _ => rfl⟩
  | @cons p q ps qs z _ ih =>
    obtain ⟨g, d⟩ := p
    obtain ⟨g', v⟩ := q
    obtain ⟨e1, z⟩ := z
    have e1 : g = g' := e1
    subst e1
    rw [List.lookup_cons, List.lookup_cons]
    by_cases e : (f == g) = true
    · rw [e]; exact ⟨(fun d' e' => by cases e'; exact ⟨v, rfl, z⟩), (fun e' => by cases e')⟩
    · have e' : (f == g) = false := by simpa using e
      rw [e']; exact ih
theorem FDs.put {fs : List (Str × D)} {vs : List (Str × V)} (q : KDs Str K ρ H fs vs) (f : Str) {d : D} {v : V} (z : DV K ρ H d v) : KDs Str K ρ H (putA f d fs) (putF f v vs) := by
  unfold KDs at q
  induction q with
  | nil => exact .cons ⟨rfl, z⟩ .nil
  | @cons p q ps qs y t ih =>
    obtain ⟨g, d'⟩ := p
    obtain ⟨g', v'⟩ := q
    obtain ⟨e1, y⟩ := y
    have e1 : g = g' := e1
    subst e1
    show KDs Str K ρ H (if g = f then (g, d) :: ps else (g, d') :: putA f d ps) (if g = f then (g, v) :: qs else (g, v') :: putF f v qs)
    by_cases e : g = f
    · rw [if_pos e, if_pos e]; exact .cons ⟨rfl, z⟩ t
    · rw [if_neg e, if_neg e]; exact .cons ⟨rfl, y⟩ ih
end
/-- an instance of one of the classes -/
def insD (Cs : List Addr) (h : HS) : D → Option (Nat × Addr × List (Str × D))
  | .ref i => match h[i]? with
    | some (.ins C fs) => if C ∈ Cs then some (i, C, fs) else none
    | _ => none
  | _ => none
theorem insD_ok {K : PySem.W.Frag} {ρ : List Addr} {h : HS} {H : Hp} (r : Rep K ρ h H) {Cs : List Addr} {d : D} {v : V} {i : Nat} {C : Addr} {fs : List (Str × D)} (z : DV K ρ H d v) (e : insD Cs h d = some (i, C, fs)) :
    ∃ a dx vs, v = .ref a ∧ d = .ref i ∧ ρ[i]? = some a ∧ h[i]? = some (.ins C fs) ∧ C ∈ Cs ∧ H a = some (.ins C dx vs) ∧ KDs Str K ρ H fs vs := by
  cases z <;> first | (simp [insD] at e; done) | skip
  rename_i j a q
  cases q1 : h[j]? with
  | none => simp only [insD, q1] at e; cases e
  | some o =>
    obtain ⟨a', ea, z⟩ := r.look q1
    rw [q] at ea; cases ea
    cases o with
    | ins C' fs' =>
      simp only [insD, q1] at e
      by_cases hc : C' ∈ Cs
      · rw [if_pos hc] at e
        cases e
        obtain ⟨dx, va, ha, za⟩ := z
        exact ⟨a, dx, va, rfl, rfl, q, q1, hc, ha, za⟩
      · rw [if_neg hc] at e; cases e
    | _ => simp only [insD, q1] at e; cases e
section
variable {X : Cx} {W : WX} {pos : Pos} {e a b : Expr} {es rest : List Expr} {m ma mb : FE} {f : Str} {Cs : List Addr}
def HasF (K : PySem.W.Frag) (Cs : List Addr) (f : Str) : Prop := ∀ C ∈ Cs, Cls K C ∧ NoAttr K C f
def mFld (Cs : List Addr) (f : Str) (m : FE) : FE := fun σ h => (m σ h).bind fun d h1 => match insD Cs h1 d with
  | some (_, _, fs) => match fs.lookup f with
    | some v => .ok v h1
    | none => .bad
  | none => .bad
theorem g_fld (hC : HasF X.K Cs f) (ha : GE X W a ma) (hb : attributeBase a f X.env (eval a X.env) = eval a X.env := by rfl) : GE X W (.Attribute a f pos) (mFld Cs f ma) :=
  pe_mono (pe_fld ha hb) fun σ H Q ⟨ρ, σh, h, rr, s, p⟩ => ⟨ρ, σh, h, rr, s, Post.of_bind p fun d h1 ρ1 v H1 e1 r1 z1 p1 => by
    cases q : insD Cs h1 d with
    | none => rw [q] at p1; exact p1.elim
    | some t =>
      obtain ⟨i, C, fs⟩ := t
      rw [q] at p1
      simp only at p1
      obtain ⟨ad, dx, vs, rfl, rfl, _, _, hc, hv, zs⟩ := insD_ok r1 z1 q
      cases q2 : fs.lookup f with
      | none => rw [q2] at p1; exact p1.elim
      | some w =>
        rw [q2] at p1
        obtain ⟨u, eu, zu⟩ := (FDs.look zs f).1 w q2
        exact ⟨ad, C, dx, vs, u, rfl, hv, (hC C hc).1, (hC C hc).2, eu, p1.use r1 zu⟩⟩
def mFldSet (Cs : List Addr) (f : Str) (mo mv : FE) : FS := fun σ h => (mv σ h).on σ fun y h1 => (mo σ h1).on σ fun o h2 => match insD Cs h2 o with
  | some (i, C, fs) => if fs.length < 1000 then .nx σ (h2.set i (.ins C (putA f y fs))) else .bad
  | none => .bad
theorem g_fldSet (hC : HasF X.K Cs f) (ha : GE X W a ma) (hv : GE X W e m) {pos' : Pos} (hs : swapsWith e (some (.Attribute a f pos')) pos.line X.env = pure false := by rfl) : GS X W (.Assign [.Attribute a f pos'] e pos) (mFldSet Cs f ma m) :=
  ps_mono (ps_fld ha hv hs) fun T σ H ⟨ρ, σh, h, rr, s, p⟩ => ⟨ρ, σh, h, rr, s, PostS.of_on p rr s fun y h1 ρ1 x H1 e1 r1 z1 p1 =>
    ⟨ρ1, σh, h1, r1, s.mono rr e1, PostS.of_on p1 r1 (s.mono rr e1) fun o h2 ρ2 v H2 e2 r2 z2 p2 => by
      have s2 := (s.mono rr e1).mono r1 e2
      have zy := z1.mono r1 e2
      cases q : insD Cs h2 o with
      | none => rw [q] at p2; exact p2.elim
      | some t =>
        obtain ⟨i, C, fs⟩ := t
        rw [q] at p2
        simp only at p2
        obtain ⟨ad, dx, vs, rfl, rfl, qa, _, hc, hv, zs⟩ := insD_ok r2 z2 q
        by_cases hl : fs.length < 1000
        · rw [if_pos hl] at p2
          have ex := Ext.wrote (H := H2) (o := .ins C dx (putF f x vs)) qa hv
          exact ⟨ad, C, dx, vs, rfl, hv, (hC C hc).1, (hC C hc).2, by rw [← KDs.length zs]; exact hl, p2 ρ2 σ _ ex (r2.wrote qa hv rfl ⟨dx, _, upd_same, KDs.mono r2 ex (FDs.put zs f zy)⟩) (s2.mono r2 ex)⟩
        · rw [if_neg hl] at p2; exact p2.elim⟩⟩
def mFldAug (Cs : List Addr) (f : Str) (mo : FE) (g : D → D → HS → R D) (mv : FE) : FS := fun σ h => (mo σ h).on σ fun o h1 => match insD Cs h1 o with
  | some (i, C, fs) => match fs.lookup f with
    | some d => (mv σ h1).on σ fun y h2 => (g d y h2).on σ fun z h3 => match insD [C] h3 o with
      | some (_, _, fs') => if fs'.length < 1000 then .nx σ (h3.set i (.ins C (putA f z fs'))) else .bad
      | none => .bad
    | none => .bad
  | none => .bad
theorem g_fldAug {op : Operator} {g : D → D → HS → R D} {r : R2} (hC : HasF X.K Cs f) (ho : OpR X (inplaceOp op) r) (hf : OpS X.K g r) (ha : GE X W a ma) (hv : GE X W e m) {tpos : Pos} : GS X W (.AugAssign (.Attribute a f tpos) op e pos) (mFldAug Cs f ma g m) :=
  ps_mono (ps_fldaug ha hv ho) fun T σ H ⟨ρ, σh, h, rr, s, p⟩ => ⟨ρ, σh, h, rr, s, PostS.of_on p rr s fun o h1 ρ1 x H1 e1 r1 z1 p1 => by
    have s1 := s.mono rr e1
    cases q : insD Cs h1 o with
    | none => rw [q] at p1; exact p1.elim
    | some t =>
      obtain ⟨i, C, fs⟩ := t
      rw [q] at p1
      simp only at p1
      obtain ⟨ad, dx, vs, rfl, rfl, qa, _, hc, hv, zs⟩ := insD_ok r1 z1 q
      cases q2 : fs.lookup f with
      | none => rw [q2] at p1; exact p1.elim
      | some w =>
        rw [q2] at p1
        simp only at p1
        obtain ⟨u, eu, zu⟩ := (FDs.look zs f).1 w q2
        refine ⟨ad, C, dx, vs, u, rfl, hv, (hC C hc).1, (hC C hc).2, eu, ρ1, σh, h1, r1, s1, PostS.of_on p1 r1 s1 fun y h2 ρ2 v2 H2 e2 r2 z2 p2 => ?_⟩
        have s2 := s1.mono r1 e2
        refine hf ρ2 h2 H2 w y u v2 (fun c d H' => W c d σ H') _ r2 (zu.mono r1 e2) z2 (PostS.of_on p2 r2 s2 fun d3 h3 ρ3 v3 H3 e3 r3 z3 p3 => ?_)
        have s3 := s2.mono r2 e3
        cases q3 : insD [C] h3 (.ref i) with
        | none => rw [q3] at p3; exact p3.elim
        | some t =>
          obtain ⟨j, C', fs'⟩ := t
          rw [q3] at p3
          simp only at p3
          obtain ⟨ad', dx', vs', ea, ei, qa', _, hc', hv', zs'⟩ := insD_ok r3 ((z1.mono r1 e2).mono r2 e3) q3
          cases ea
          cases ei
          have ec : C' = C := by simpa using hc'
          subst ec
          by_cases hl : fs'.length < 1000
          · rw [if_pos hl] at p3
            have ex := Ext.wrote (H := H3) (o := .ins C' dx' (putF f v3 vs')) qa' hv'
            exact ⟨dx', vs', hv', by rw [← KDs.length zs']; exact hl, p3 ρ3 σ _ ex (r3.wrote qa' hv' rfl ⟨dx', _, upd_same, KDs.mono r3 ex (FDs.put zs' f z3)⟩) (s3.mono r3 ex)⟩
          · rw [if_neg hl] at p3; exact p3.elim⟩
end
end FL

set_option Elab.async false
set_option linter.all false
set_option maxRecDepth 100000
/-! FL, part d: slices, loops, comprehensions, calls. -/
namespace FL
open PySem PySem.Spec PyProof.Rows L2

/-! ### slices -/
abbrev FO := Sl → HS → R (Option Int)
def lO (K : PySem.W.Frag) (W : WX) (m : FO) : TO := fun σ H Q => ∃ ρ σh h, Rep K ρ h H ∧ RepS K ρ H σh σ ∧ Post K ρ H bEq (fun c d H' => W c d σ H') Q (m σh h)
def GO (X : Cx) (W : WX) (e : Option Expr) (m : FO) : Prop := PO X e (lO X.K W m)
theorem po_mono {X : Cx} {e : Option Expr} {t t' : TO} (p : PO X e t) (k : ∀ σ H Q, t' σ H Q → t σ H Q) : PO X e t' := ⟨fun pins s σ H Q I q => p.run pins s σ H Q I (k σ H Q q)⟩
def mNoPart : FO := fun _ h => .ok none h
def mPart (m : FE) : FO := fun σ h => (m σ h).bind fun d h1 => match d with
  | .int i => .ok (some i) h1
  | _ => .bad
section
variable {X : Cx} {W : WX} {pos p2 : Pos} {e a b : Expr} {lo hi : Option Expr} {m ma mb : FE} {ml mh : FO}
theorem go_none : GO X W none mNoPart := po_mono po_none fun σ H Q ⟨ρ, σh, h, r, s, p⟩ => p.use r rfl
theorem go_some (he : GE X W e m) : GO X W (some e) (mPart m) := po_mono (po_some he) fun σ H Q ⟨ρ, σh, h, r, s, p⟩ => ⟨ρ, σh, h, r, s, Post.of_bind p fun d h1 ρ1 v H1 e1 r1 z1 p1 => by
  cases z1 <;> first | exact p1.elim | exact ⟨_, rfl, p1.use r1 rfl⟩⟩
def cutD (xs : List D) (lo hi : Option Int) : List D := (xs.drop (HT.sIx xs.length 0 lo)).take (HT.sIx xs.length xs.length hi - HT.sIx xs.length 0 lo)
def dSl (x : D) (lo hi : Option Int) (h : HS) : R D := match x with
  | .tup ds => .ok (.tup (cutD ds lo hi)) h
  | .cst ds => .ok (.ref h.length) (h ++ [.lst (cutD ds lo hi)])
  | .str z => if z.length ≤ sizeLine then .ok (.str (cutS z lo hi)) h else .bad
  | .ref i => match h[i]? with
    | some (.lst ds) => .ok (.ref h.length) (h ++ [.lst (cutD ds lo hi)])
    | _ => .bad
  | _ => .bad
def rSl3 (K : PySem.W.Frag) : V → Option Int → Option Int → Hp → VK → Prop := fun x lo hi H Q => rSlL K x lo hi H Q ∨ (rSlS x lo hi H Q ∨ rSlA K x lo hi H Q)
theorem o_sl {X : Cx} : SlR X (rSl3 X.K) := SlR.or sl_list (SlR.or sl_str sl_tupA)
theorem DVs.cut {K : PySem.W.Frag} {ρ : List Addr} {H : Hp} {ds : List D} {vs : List V} (z : DVs K ρ H ds vs) (lo hi : Option Int) : DVs K ρ H (cutD ds lo hi) (cutV vs lo hi) := by
  unfold cutD cutV
  rw [← z.length]
  exact (z.drop _).take _
theorem s_sl {K : PySem.W.Frag} {ρ : List Addr} {h : HS} {H : Hp} {d : D} {v : V} {lo hi : Option Int} {W : XK} {Q : VK} (r : Rep K ρ h H) (z : DV K ρ H d v) (p : Post K ρ H (DV K) W Q (dSl d lo hi h)) : rSl3 K v lo hi H Q := by
  cases z with
  | tup q zs =>
    rename_i a vs ds
    refine .inr (.inr ⟨_, vs, rfl, q, fun e => ?_, fun e => post_tup r (zs.cut lo hi) p⟩)
    have ec : cutD ds lo hi = ds := by
      unfold cutD
      rw [zs.length, e.1, e.2]
      simp [← zs.length]
    have p' : Post K ρ H (DV K) W Q (.ok (.tup ds) h) := by
      rw [← ec]; exact p
    exact p'.use r (.tup q zs)
  | cst q zs => exact .inl ⟨_, _, rfl, q.sq, post_lst r (zs.cut lo hi) p⟩
  | str z =>
    by_cases c : z.length ≤ sizeLine
    · simp only [dSl, if_pos c] at p
      exact .inr (.inl ⟨z, rfl, c, p.use r (.str _)⟩)
    · simp only [dSl, if_neg c] at p; exact p.elim
  | ref q =>
    rename_i i a
    cases q1 : h[i]? with
    | none => simp only [dSl, q1] at p; exact p.elim
    | some o =>
      obtain ⟨a', ea, z⟩ := r.look q1
      rw [q] at ea; cases ea
      cases o with
      | lst ds =>
        simp only [dSl, q1] at p
        obtain ⟨vs, hv, zs⟩ := z
        exact .inl ⟨_, _, rfl, SqL.of hv, post_lst r (zs.cut lo hi) p⟩
      | _ => simp only [dSl, q1] at p; exact p.elim
  | _ => exact p.elim
def mSl (m : FE) (ml mh : FO) : FE := fun σ h => (m σ h).bind fun x h1 => (ml σ h1).bind fun l h2 => (mh σ h2).bind fun u h3 => dSl x l u h3
theorem g_slice (he : GE X W e m) (hl : GO X W lo ml) (hu : GO X W hi mh) : GE X W (.Subscript e (.Slice lo hi none p2) pos) (mSl m ml mh) :=
  pe_mono (pe_slice o_sl he hl hu) fun σ H Q ⟨ρ, σh, h, r, s, p⟩ => ⟨ρ, σh, h, r, s, Post.of_bind p fun x h1 ρ1 v H1 e1 r1 z1 p1 =>
    ⟨ρ1, σh, h1, r1, s.mono r e1, Post.of_bind p1 fun l h2 ρ2 l' H2 e2 r2 z2 p2 =>
      ⟨ρ2, σh, h2, r2, (s.mono r e1).mono r1 e2, Post.of_bind p2 fun u h3 ρ3 u' H3 e3 r3 z3 p3 => by
        cases z2
        cases z3
        exact s_sl r3 ((z1.mono r1 e2).mono r2 e3) p3⟩⟩⟩
end

/-! ### what a loop walks -/
structure ItD where
  n : Nat
  get : Nat → HS → Option D
  fin : HS → Bool
abbrev FI := Sl → HS → R ItD
def ItRel (K : PySem.W.Frag) (ρ0 : List Addr) (H0 : Hp) (Jh : ItD) (J : It) : Prop := ∀ (ρ : List Addr) (h : HS) (H : Hp), Rep K ρ h H → Ext ρ0 H0 ρ H →
  (∀ j d, j < Jh.n → Jh.get j h = some d → J.go j H ∧ ∀ x H', J.yld j H x H' → Ext ρ H ρ H' ∧ Rep K ρ h H' ∧ DV K ρ H' d x) ∧ (Jh.fin h = true → J.stop Jh.n H)
def lI (K : PySem.W.Frag) (W : WX) (m : FI) : TI := fun σ H Q => ∃ ρ σh h, Rep K ρ h H ∧ RepS K ρ H σh σ ∧ Post K ρ H (ItRel K) (fun c d H' => W c d σ H') Q (m σh h)
def GI (X : Cx) (W : WX) (tg e : Expr) (m : FI) : Prop := PI X tg e (lI X.K W m)

/-- a list, a tuple, a text -/
def iAny (K : PySem.W.Frag) (t : TE) : TI := fun σ H Q => t σ H fun x H1 => (∃ a, x = .ref a ∧ (∃ xs, SqL K H1 a xs) ∧ Q (Itl K a) H1) ∨ (∃ a, x = .ref a ∧ (∃ xs, SqT K H1 a xs) ∧ Q (Itt K a) H1) ∨ (∃ z, x = .str z ∧ Q (Its z) H1)
section
variable {X : Cx} {W : WX} {tg e : Expr} {t : TE} {m : FE}
theorem pi_any (he : PE X e t) : PI X tg e (iAny X.K t) := by
  refine ⟨fun pins s σ H R I h => ?_⟩
  refine thn (he.run pins s σ H _ I h) fun v s1 ⟨x, H1, I1, r1, q1⟩ => ?_
  rcases q1 with ⟨a, e, ⟨xs, hq⟩, q⟩ | ⟨a, e, ⟨xs, hq⟩, q⟩ | ⟨z, e, q⟩
  · subst e
    cases r1
    obtain ⟨its, rv, p, hz⟩ := I1.list hq
    refine wpAny_pyIter_list p.isList ?_
    refine ⟨s1.heap.objs.size, [s1.heap.objs.size], _, _, H1, rfl, I1.kept (t' := s1.toks) fun b o e => Heap.get?_push_of_some _ e, turn_list a _, ⟨_, Heap.get?_push_size _ rfl, rfl, rfl⟩, fun b hb => ?_, q⟩
    have e : b = s1.heap.objs.size := by simpa using hb
    subst e
    exact I1.fpOk (Nat.le_refl _) (I1.hok.fresh (Nat.le_refl _))
  · subst e
    cases r1
    obtain ⟨its, rv, p, hz⟩ := I1.tuple hq
    refine wpAny_pyIter_tuple (show s1.heap.IsTuple a its.toArray from p) ?_
    refine ⟨s1.heap.objs.size, [s1.heap.objs.size], _, _, H1, rfl, I1.kept (t' := s1.toks) fun b o e => Heap.get?_push_of_some _ e, turn_tuple a _, ⟨_, Heap.get?_push_size _ rfl, rfl, rfl⟩, fun b hb => ?_, q⟩
    have e : b = s1.heap.objs.size := by simpa using hb
    subst e
    exact I1.fpOk (Nat.le_refl _) (I1.hok.fresh (Nat.le_refl _))
  · subst e
    obtain ⟨t, rfl⟩ := r1
    cases ha : z.cps.all (· < 128)
    · exact wpAny_pyIter_wide ha (pi_one (tk := s1.toks) I1 _ (turn_str _ z t "str_iterator" (.inr rfl)) ⟨_, Heap.get?_push_size _ rfl, rfl, rfl⟩ q)
    · exact wpAny_pyIter_ascii ha (pi_one (tk := s1.toks) I1 _ (turn_str _ z t "str_ascii_iterator" (.inl rfl)) ⟨_, Heap.get?_push_size _ rfl, rfl, rfl⟩ q)
def lstAt (h : HS) (i : Nat) : Option (List D) := match h[i]? with
  | some (.lst ds) => some ds
  | _ => none
theorem lstAt_ok {K : PySem.W.Frag} {ρ : List Addr} {h : HS} {H : Hp} (r : Rep K ρ h H) {i : Nat} {a : Addr} {ds : List D} (q : ρ[i]? = some a) (e : lstAt h i = some ds) : ∃ vs, H a = some (.lst vs) ∧ DVs K ρ H ds vs := by
  unfold lstAt at e
  cases q1 : h[i]? with
  | none => rw [q1] at e; cases e
  | some o =>
    obtain ⟨a', ea, z⟩ := r.look q1
    rw [q] at ea; cases ea
    rw [q1] at e
    cases o with
    | lst ds => cases e; exact z
    | _ => cases e
theorem SqL.one {K : PySem.W.Frag} {H : Hp} {a : Addr} {vs ws : List V} (h : H a = some (.lst vs)) (s : ∀ xs, SqL K H a xs → xs[0]? = ws[0]?) : True := trivial
def itSeq (d : D) (h : HS) : R ItD := match d with
  | .tup ds => .ok ⟨ds.length, fun j _ => ds[j]?, fun _ => true⟩ h
  | .cst ds => .ok ⟨ds.length, fun j _ => ds[j]?, fun _ => true⟩ h
  | .str z => .ok ⟨z.cps.size, fun j _ => (z.cps[j]?).map fun c => .str ⟨#[c]⟩, fun _ => true⟩ h
  | .ref i => match lstAt h i with
    | some ds => .ok ⟨ds.length, fun j h' => (lstAt h' i).bind fun ds' => ds'[j]?, fun h' => (lstAt h' i).any fun ds' => ds'.length ≤ ds.length⟩ h
    | none => .bad
  | _ => .bad
def mSeqI (m : FE) : FI := fun σ h => (m σ h).bind itSeq
theorem gi_seq (he : GE X W e m) : GI X W tg e (mSeqI m) := pi_mono (pi_any he) fun σ H Q ⟨ρ, σh, h, r, s, p⟩ => ⟨ρ, σh, h, r, s, Post.of_bind p fun d h1 ρ1 v H1 e1 r1 z1 p1 => by
  cases z1 with
  | tup q zs =>
    rename_i a vs ds
    refine .inr (.inl ⟨_, rfl, ⟨vs, q⟩, p1.use r1 fun ρ h H r e => ?_⟩)
    have q' := sqT_kp (.of r1 e) q
    have zs' := zs.mono r1 e
    refine ⟨fun j d hj hd => ?_, fun _ => ⟨vs, q', by rw [zs.length]; exact Nat.le_refl _⟩⟩
    obtain ⟨v, ev, zv⟩ := zs'.get hd
    exact ⟨⟨vs, v, q', ev⟩, fun x H' ⟨eH, hx⟩ => by
      subst eH
      have := hx vs q'
      rw [ev] at this; cases this
      exact ⟨.refl, r, zv⟩⟩
  | cst q zs =>
    rename_i a vs ds
    refine .inl ⟨_, rfl, ⟨vs, q.sq⟩, p1.use r1 fun ρ h H r e => ?_⟩
    have q' := (csL_kp (.of r1 e) q).sq
    have zs' := zs.mono r1 e
    refine ⟨fun j d hj hd => ?_, fun _ => ⟨vs, q', by rw [zs.length]; exact Nat.le_refl _⟩⟩
    obtain ⟨v, ev, zv⟩ := zs'.get hd
    exact ⟨⟨vs, v, q', ev⟩, fun x H' ⟨eH, hx⟩ => by
      subst eH
      have := hx vs q'
      rw [ev] at this; cases this
      exact ⟨.refl, r, zv⟩⟩
  | str z =>
    refine .inr (.inr ⟨z, rfl, p1.use r1 fun ρ h H r e => ⟨fun j d hj hd => ⟨hj, fun x H' ⟨eH, c, ec, ex⟩ => ?_⟩, fun _ => Nat.le_refl _⟩⟩)
    subst eH
    simp only [ec, Option.map_some, Option.some.injEq] at hd
    subst hd
    subst ex
    exact ⟨.refl, r, .str _⟩
  | ref q =>
    rename_i i a
    unfold itSeq at p1
    simp only at p1
    cases q1 : lstAt h1 i with
    | none => rw [q1] at p1; exact p1.elim
    | some ds =>
      rw [q1] at p1
      obtain ⟨vs, hv, zs⟩ := lstAt_ok r1 q q1
      refine .inl ⟨_, rfl, ⟨vs, SqL.of hv⟩, p1.use r1 fun ρ h H r e => ?_⟩
      have q' := e.ix q
      refine ⟨fun j d hj hd => ?_, fun hf => ?_⟩
      · obtain ⟨ds', e2, e3⟩ := Option.bind_eq_some_iff.mp hd
        obtain ⟨vs', hv', zs'⟩ := lstAt_ok r q' e2
        obtain ⟨v, ev, zv⟩ := zs'.get e3
        exact ⟨⟨vs', v, SqL.of hv', ev⟩, fun x H' ⟨eH, hx⟩ => by
          subst eH
          have := hx vs' (SqL.of hv')
          rw [ev] at this; cases this
          exact ⟨.refl, r, zv⟩⟩
      · cases q2 : lstAt h i with
        | none => simp [q2] at hf
        | some ds' =>
          obtain ⟨vs', hv', zs'⟩ := lstAt_ok r q' q2
          simp [q2] at hf
          exact ⟨vs', SqL.of hv', by rw [← zs'.length]; exact hf⟩
  | _ => exact p1.elim⟩
/-- range -/
def itRange (lo : Int) (n : Nat) : ItD := ⟨n, fun j _ => some (.int (lo + j)), fun _ => true⟩
theorem itRange_rel {K : PySem.W.Frag} {ρ0 : List Addr} {H0 : Hp} {lo : Int} {n : Nat} : ItRel K ρ0 H0 (itRange lo n) (Itr lo n) := fun ρ h H r e =>
  ⟨fun j d hj hd => ⟨hj, fun x H' ⟨eH, ex⟩ => by subst eH; subst ex; cases hd; exact ⟨.refl, r, .int _⟩⟩, fun _ => Nat.le_refl _⟩
def mRange1 (ma : FA) : FI := fun σ h => (ma σ h).bind fun ds h1 => match ds with
  | [.int j] => if -(2 ^ 62) ≤ j ∧ j < 2 ^ 62 then .ok (itRange 0 j.toNat) h1 else .bad
  | _ => .bad
def mRange2 (ma : FA) : FI := fun σ h => (ma σ h).bind fun ds h1 => match ds with
  | [.int i, .int j] => if -(2 ^ 62) ≤ i ∧ i < 2 ^ 62 ∧ -(2 ^ 62) ≤ j ∧ j < 2 ^ 62 then .ok (itRange i (j - i).toNat) h1 else .bad
  | _ => .bad
theorem DVs.one {K : PySem.W.Frag} {ρ : List Addr} {H : Hp} {d : D} {vs : List V} (z : DVs K ρ H [d] vs) : ∃ v, vs = [v] ∧ DV K ρ H d v := by
  cases z with
  | cons a b => cases b; exact ⟨_, rfl, a⟩
theorem DVs.two {K : PySem.W.Frag} {ρ : List Addr} {H : Hp} {d e : D} {vs : List V} (z : DVs K ρ H [d, e] vs) : ∃ v w, vs = [v, w] ∧ DV K ρ H d v ∧ DV K ρ H e w := by
  cases z with
  | cons a b => obtain ⟨w, rfl, c⟩ := b.one; exact ⟨_, _, rfl, a, c⟩
variable {a b : Expr} {ma : FA} {p pos : Pos}
theorem gi_range1 (hm : X.mg "range" = none) (ha : GA X W [a] ma) (hg : Gl X "range" := by rfl) (hs : starEach [a] X.env = [(false, eval a X.env)] := by rfl) : GI X W tg (.Call (.Name "range" p) [a] [] pos) (mRange1 ma) :=
  pi_mono (pi_range1 hg hm ha hs) fun σ H Q ⟨ρ, σh, h, r, s, p⟩ => ⟨ρ, σh, h, r, s, Post.of_bind p fun ds h1 ρ1 vs H1 e1 r1 z1 p1 => by
    match ds, z1, p1 with
    | [.int j], z1, p1 =>
      obtain ⟨v, rfl, z⟩ := z1.one
      cases z
      simp only at p1
      by_cases c : -(2 ^ 62) ≤ j ∧ j < 2 ^ 62
      · rw [if_pos c] at p1
        exact ⟨j, rfl, c.1, c.2, p1.use r1 itRange_rel⟩
      · rw [if_neg c] at p1; exact p1.elim⟩
theorem gi_range2 (hm : X.mg "range" = none) (ha : GA X W [a, b] ma) (hg : Gl X "range" := by rfl) (hs : starEach [a, b] X.env = [(false, eval a X.env), (false, eval b X.env)] := by rfl) (hs2 : starEach [b] X.env = [(false, eval b X.env)] := by rfl) :
    GI X W tg (.Call (.Name "range" p) [a, b] [] pos) (mRange2 ma) :=
  pi_mono (pi_range2 hg hm ha hs hs2) fun σ H Q ⟨ρ, σh, h, r, s, p⟩ => ⟨ρ, σh, h, r, s, Post.of_bind p fun ds h1 ρ1 vs H1 e1 r1 z1 p1 => by
    match ds, z1, p1 with
    | [.int i, .int j], z1, p1 =>
      obtain ⟨v, w, rfl, za, zb⟩ := z1.two
      cases za
      cases zb
      simp only at p1
      by_cases c : -(2 ^ 62) ≤ i ∧ i < 2 ^ 62 ∧ -(2 ^ 62) ≤ j ∧ j < 2 ^ 62
      · rw [if_pos c] at p1
        exact ⟨i, j, rfl, c, p1.use r1 itRange_rel⟩
      · rw [if_neg c] at p1; exact p1.elim⟩
/-- the values of a dict that is locked -/
def fdAt (h : HS) (i : Nat) : Option (List (Key × D)) := match h[i]? with
  | some (.fdK ds) => some ds
  | _ => none
theorem fdAt_ok {K : PySem.W.Frag} {ρ : List Addr} {h : HS} {H : Hp} (r : Rep K ρ h H) {i : Nat} {a : Addr} {ds : List (Key × D)} (q : ρ[i]? = some a) (e : fdAt h i = some ds) : ∃ o vs, H a = some (.frz o (.dK vs)) ∧ KDs Key K ρ H ds vs := by
  unfold fdAt at e
  cases q1 : h[i]? with
  | none => rw [q1] at e; cases e
  | some o =>
    obtain ⟨a', ea, z⟩ := r.look q1
    rw [q] at ea; cases ea
    rw [q1] at e
    cases o with
    | fdK ds => cases e; exact z
    | _ => cases e
theorem KDs.getI {κ : Type} {K : PySem.W.Frag} {ρ : List Addr} {H : Hp} {ks : List (κ × D)} {vs : List (κ × V)} (q : KDs κ K ρ H ks vs) {i : Nat} {k : κ} {d : D} (e : ks[i]? = some (k, d)) : ∃ v, vs[i]? = some (k, v) ∧ DV K ρ H d v := by
  unfold KDs at q
  induction q generalizing i with
  | nil => simp at e
  | @cons p q ps qs z _ ih =>
    cases i with
    | zero =>
      simp at e
      subst e
      obtain ⟨g, v⟩ := q
      obtain ⟨e1, z⟩ := z
      have e1 : k = g := e1
      subst e1
      exact ⟨v, by simp, z⟩
    | succ i =>
      obtain ⟨v, e1, z⟩ := ih (i := i) (by simpa using e)
      exact ⟨v, by simpa using e1, z⟩
def itVals (d : D) (h : HS) : R ItD := match d with
  | .ref i => match fdAt h i with
    | some ds => .ok ⟨ds.length, fun j _ => (ds[j]?).map (·.2), fun _ => true⟩ h
    | none => .bad
  | _ => .bad
def dKey : Key → D
  | .inl i => .int i
  | .inr x => .str x
theorem dKey_rel {K : PySem.W.Frag} {ρ : List Addr} {H : Hp} (k : Key) : DV K ρ H (dKey k) (kV k) := by
  cases k
  · exact .int _
  · exact .str _
def itKeys (d : D) (h : HS) : R ItD := match d with
  | .ref i => match fdAt h i with
    | some ds => .ok ⟨ds.length, fun j _ => (ds[j]?).map fun kv => dKey kv.1, fun _ => true⟩ h
    | none => .bad
  | _ => .bad
theorem itVals_ok {K : PySem.W.Frag} {ρ : List Addr} {h : HS} {H : Hp} {d : D} {x : V} {W : XK} {Q : It → Hp → Prop} (r : Rep K ρ h H) (z : DV K ρ H d x) (p : Post K ρ H (ItRel K) W Q (itVals d h)) : ∃ a o kvs, x = .ref a ∧ H a = some (.frz o (.dK kvs)) ∧ Q (Itd a o kvs) H := by
  cases z <;> first | exact p.elim | skip
  rename_i i a q
  unfold itVals at p
  simp only at p
  cases q1 : fdAt h i with
  | none => rw [q1] at p; exact p.elim
  | some ds =>
    rw [q1] at p
    obtain ⟨o, vs, hv, zs⟩ := fdAt_ok r q q1
    refine ⟨a, o, vs, rfl, hv, p.use r fun ρ' h' H' r' e => ?_⟩
    have hv' := e.frz _ _ _ hv
    have zs' := KDs.mono r e zs
    refine ⟨fun j d hj hd => ⟨⟨hv', by rw [← KDs.length zs]; exact hj⟩, fun x H2 ⟨eH, k, ek⟩ => ?_⟩, fun _ => ⟨hv', by rw [← KDs.length zs]; exact Nat.le_refl _⟩⟩
    subst eH
    obtain ⟨⟨k', d'⟩, e1, e2⟩ := Option.map_eq_some_iff.mp hd
    simp only at e2
    subst e2
    obtain ⟨v, ev, zv⟩ := zs'.getI e1
    rw [ek] at ev
    cases ev
    exact ⟨.refl, r', zv⟩
theorem itKeys_ok {K : PySem.W.Frag} {ρ : List Addr} {h : HS} {H : Hp} {d : D} {x : V} {W : XK} {Q : It → Hp → Prop} (r : Rep K ρ h H) (z : DV K ρ H d x) (p : Post K ρ H (ItRel K) W Q (itKeys d h)) : ∃ a o kvs, x = .ref a ∧ H a = some (.frz o (.dK kvs)) ∧ Q (Itk a o kvs) H := by
  cases z <;> first | exact p.elim | skip
  rename_i i a q
  unfold itKeys at p
  simp only at p
  cases q1 : fdAt h i with
  | none => rw [q1] at p; exact p.elim
  | some ds =>
    rw [q1] at p
    obtain ⟨o, vs, hv, zs⟩ := fdAt_ok r q q1
    refine ⟨a, o, vs, rfl, hv, p.use r fun ρ' h' H' r' e => ?_⟩
    have hv' := e.frz _ _ _ hv
    have zs' := KDs.mono r e zs
    refine ⟨fun j d hj hd => ⟨⟨hv', by rw [← KDs.length zs]; exact hj⟩, fun x H2 ⟨eH, k, v, ek, ex⟩ => ?_⟩, fun _ => ⟨hv', by rw [← KDs.length zs]; exact Nat.le_refl _⟩⟩
    subst eH
    subst ex
    obtain ⟨⟨k', d'⟩, e1, e2⟩ := Option.map_eq_some_iff.mp hd
    simp only at e2
    subst e2
    obtain ⟨v', ev, zv⟩ := zs'.getI e1
    rw [ek] at ev
    cases ev
    exact ⟨.refl, r', dKey_rel _⟩
def mValsI (m : FE) : FI := fun σ h => (m σ h).bind itVals
def mKeysI (m : FE) : FI := fun σ h => (m σ h).bind itKeys
theorem gi_vals {apos : Pos} (he : GE X W e m) (hbase : attributeBase e "values" X.env (eval e X.env) = eval e X.env := by rfl) (hline : (apos.endLine == pos.line) = true := by rfl) : GI X W tg (.Call (.Attribute e "values" apos) [] [] pos) (mValsI m) :=
  pi_mono (pi_values he hbase hline) fun σ H Q ⟨ρ, σh, h, r, s, p⟩ => ⟨ρ, σh, h, r, s, Post.of_bind p fun d h1 ρ1 v H1 e1 r1 z1 p1 => itVals_ok r1 z1 p1⟩
theorem gi_keys (he : GE X W e m) : GI X W tg e (mKeysI m) :=
  pi_mono (pi_keys he) fun σ H Q ⟨ρ, σh, h, r, s, p⟩ => ⟨ρ, σh, h, r, s, Post.of_bind p fun d h1 ρ1 v H1 e1 r1 z1 p1 => by
    obtain ⟨a, o, kvs, e, hv, q⟩ := itKeys_ok r1 z1 p1
    exact ⟨a, o, e, .inl ⟨kvs, hv, q⟩⟩⟩
end

/-! ### for -/
def forL (g : FG) (body : FS) (J : ItD) : Nat → Nat → Sl → HS → RS
  | 0, _, σ, h => if J.fin h = true then .nx σ h else .bad
  | n + 1, j, σ, h => match J.get j h with
    | none => .bad
    | some d => (g d σ h).on σ fun σ1 h1 => match body σ1 h1 with
      | .nx σ2 h2 => forL g body J n (j + 1) σ2 h2
      | .ct σ2 h2 => forL g body J n (j + 1) σ2 h2
      | .bk σ2 h2 => .nx σ2 h2
      | r => r
def mFor (it : FI) (g : FG) (body : FS) : FS := fun σ h => (it σ h).on σ fun J h1 => forL g body J J.n 0 σ h1
section
variable {X : Cx} {W : WX} {pos : Pos} {tg iter c : Expr} {body : List Stmt} {it : FI} {g : FG} {mb : FS} {tc : FT}
theorem g_for {k : Nat} (C : CK X W k) (hi : GI X W tg iter it) (hg : GG X W tg g) (hb : GSs X W body mb) (hs : ∀ x, foldedSetIterable iter X.env x = pure x := by intro _; rfl) : GS X W (.For tg iter body [] pos) (mFor it g mb) :=
  ps_mono (ps_for C.po C.calm hi hg hb hs) fun T σ H ⟨ρ, σh, h, r, s, p⟩ => ⟨ρ, σh, h, r, s, PostS.of_on p r s fun J h1 ρ1 Ji H1 e1 r1 z1 p1 => by
    refine ⟨fun i m σ H => ∃ ρ σh h, Rep X.K ρ h H ∧ RepS X.K ρ H σh σ ∧ Ext ρ1 H1 ρ H ∧ i + m = J.n ∧ PostS X.K ρ H W T (forL g mb J m i σh h), ⟨J.n, ρ1, σh, h1, r1, s.mono r e1, .refl, by omega, p1⟩, ?_⟩
    rintro i m σ2 H2 ⟨ρ2, σh2, h2, r2, s2, e2, hm, p2⟩
    obtain ⟨z3, z4⟩ := z1 ρ2 h2 H2 r2 e2
    cases m with
    | zero =>
      unfold forL at p2
      by_cases hf : J.fin h2 = true
      · rw [if_pos hf] at p2
        have ei : i = J.n := by omega
        subst ei
        exact .inl ⟨z4 hf, p2.useN r2 s2⟩
      · rw [if_neg hf] at p2; exact p2.elim
    | succ m =>
      unfold forL at p2
      cases q : J.get i h2 with
      | none => rw [q] at p2; exact p2.elim
      | some d =>
        rw [q] at p2
        simp only at p2
        obtain ⟨hgo, hy⟩ := z3 i d (by omega) q
        refine .inr ⟨hgo, fun σ' H' => ∃ ρ σh h, Rep X.K ρ h H' ∧ RepS X.K ρ H' σh σ' ∧ Ext ρ1 H1 ρ H' ∧ i + 1 + m = J.n ∧ PostS X.K ρ H' W T (forL g mb J m (i + 1) σh h), fun σ' H' q => ⟨m, by omega, q⟩, fun x H3 hyl => ?_⟩
        obtain ⟨e3, r3, zd⟩ := hy x H3 hyl
        refine ⟨ρ2, σh2, h2, d, r3, s2.mono r2 e3, zd, PostS.of_on (PostS.ext e3 p2) r3 (s2.mono r2 e3) fun σ4 h4 ρ4 σ5 H4 e4 r4 s4 p4 => ?_⟩
        have e14 := (e2.trans e3 r3.nd).trans e4 r4.nd
        refine ⟨ρ4, σ4, h4, r4, s4, ?_⟩
        cases q5 : mb σ4 h4 with
        | bad => rw [q5] at p4; exact p4
        | nx σ6 h6 => rw [q5] at p4; exact fun ρ' σ' H' e r z => ⟨ρ', σ6, h6, r, z, e14.trans e r.nd, by omega, PostS.ext e p4⟩
        | ct σ6 h6 => rw [q5] at p4; exact fun ρ' σ' H' e r z => ⟨ρ', σ6, h6, r, z, e14.trans e r.nd, by omega, PostS.ext e p4⟩
        | bk σ6 h6 => rw [q5] at p4; exact p4
        | rt d h6 => rw [q5] at p4; exact p4
        | ex x σ6 h6 => rw [q5] at p4; exact p4⟩

/-! ### while -/
def whileF (c : FT) (b : FS) : Nat → Sl → HS → RS
  | 0, _, _ => .bad
  | n + 1, σ, h => (c σ h).on σ fun t h1 => if t = true then match b σ h1 with
      | .nx σ2 h2 => whileF c b n σ2 h2
      | .ct σ2 h2 => whileF c b n σ2 h2
      | .bk σ2 h2 => .nx σ2 h2
      | r => r
    else .nx σ h1
theorem whileF_up (c : FT) (b : FS) : ∀ (n : Nat) (σ : Sl) (h : HS), whileF c b n σ h ≠ .bad → whileF c b (n + 1) σ h = whileF c b n σ h
  | 0, _, _, hb => absurd rfl hb
  | n + 1, σ, h, hb => by
    unfold whileF at hb ⊢
    cases q : c σ h with
    | bad => rfl
    | ex => rfl
    | ok t h1 =>
      rw [q] at hb
      simp only [R.on] at hb ⊢
      cases t with
      | false => rfl
      | true =>
        simp only [if_true] at hb ⊢
        cases q2 : b σ h1 with
        | nx σ2 h2 => rw [q2] at hb; exact whileF_up c b n σ2 h2 hb
        | ct σ2 h2 => rw [q2] at hb; exact whileF_up c b n σ2 h2 hb
        | _ => rfl
theorem whileF_ge (c : FT) (b : FS) {n m : Nat} (hnm : n ≤ m) (σ : Sl) (h : HS) (hb : whileF c b n σ h ≠ .bad) : whileF c b m σ h = whileF c b n σ h := by
  induction hnm with
  | refl => rfl
  | step _ ih => rw [whileF_up c b _ σ h (by rw [ih]; exact hb), ih]
open Classical in
noncomputable def mWhile (c : FT) (b : FS) : FS := fun σ h => if H : ∃ n, whileF c b n σ h ≠ .bad then whileF c b (Classical.choose H) σ h else .bad
theorem mWhile_of {c : FT} {b : FS} {n : Nat} {σ : Sl} {h : HS} (hb : whileF c b n σ h ≠ .bad) : mWhile c b σ h = whileF c b n σ h := by
  have H : ∃ n, whileF c b n σ h ≠ .bad := ⟨n, hb⟩
  unfold mWhile
  rw [dif_pos H]
  have h2 := Classical.choose_spec H
  rcases Nat.le_total n (Classical.choose H) with l | l
  · exact whileF_ge c b l σ h hb
  · exact (whileF_ge c b l σ h h2).symm
theorem mWhile_bad {c : FT} {b : FS} {σ : Sl} {h : HS} (hb : mWhile c b σ h ≠ .bad) : ∃ n, whileF c b n σ h = mWhile c b σ h := by
  unfold mWhile at hb ⊢
  split
  · exact ⟨_, rfl⟩
  · rename_i H; rw [dif_neg H] at hb; exact absurd rfl hb
theorem mWhile_eq (c : FT) (b : FS) (σ : Sl) (h : HS) : mWhile c b σ h = (c σ h).on σ fun t h1 => if t = true then match b σ h1 with
      | .nx σ2 h2 => mWhile c b σ2 h2
      | .ct σ2 h2 => mWhile c b σ2 h2
      | .bk σ2 h2 => .nx σ2 h2
      | r => r
    else .nx σ h1 := by
  -- one turn more of the counted loop
  have turn : ∀ n, whileF c b (n + 1) σ h = (c σ h).on σ fun t h1 => if t = true then match b σ h1 with
      | .nx σ2 h2 => whileF c b n σ2 h2
      | .ct σ2 h2 => whileF c b n σ2 h2
      | .bk σ2 h2 => .nx σ2 h2
      | r => r
    else .nx σ h1 := fun n => rfl
  by_cases H : ∃ n, whileF c b n σ h ≠ .bad
  · obtain ⟨n, hn⟩ := H
    rw [mWhile_of hn]
    cases n with
    | zero => exact absurd rfl hn
    | succ n =>
      rw [turn n] at hn ⊢
      cases q : c σ h with
      | bad => rfl
      | ex => rfl
      | ok t h1 =>
        rw [q] at hn
        simp only [R.on] at hn ⊢
        cases t with
        | false => rfl
        | true =>
          simp only [if_true] at hn ⊢
          cases q2 : b σ h1 with
          | nx σ2 h2 => rw [q2] at hn; exact (mWhile_of hn).symm
          | ct σ2 h2 => rw [q2] at hn; exact (mWhile_of hn).symm
          | _ => rfl
  · have hb : mWhile c b σ h = .bad := by unfold mWhile; rw [dif_neg H]
    rw [hb]
    have all : ∀ n, whileF c b n σ h = .bad := fun n => Classical.byContradiction fun z => H ⟨n, z⟩
    cases q : c σ h with
    | bad => rfl
    | ex x h1 =>
      have := all 1
      rw [turn 0, q] at this; cases this
    | ok t h1 =>
      cases t with
      | false =>
        have := all 1
        rw [turn 0, q] at this; cases this
      | true =>
        show RS.bad = match b σ h1 with
          | .nx σ2 h2 => mWhile c b σ2 h2
          | .ct σ2 h2 => mWhile c b σ2 h2
          | .bk σ2 h2 => .nx σ2 h2
          | r => r
        have step : ∀ n, (match b σ h1 with
          | .nx σ2 h2 => whileF c b n σ2 h2
          | .ct σ2 h2 => whileF c b n σ2 h2
          | .bk σ2 h2 => .nx σ2 h2
          | r => r) = RS.bad := fun n => by
          have := all (n + 1)
          rw [turn n, q] at this
          exact this
        cases q2 : b σ h1 with
        | nx σ2 h2 =>
          have : ¬ ∃ n, whileF c b n σ2 h2 ≠ .bad := fun ⟨n, z⟩ => z (by have := step n; rw [q2] at this; exact this)
          show RS.bad = mWhile c b σ2 h2
          unfold mWhile; rw [dif_neg this]
        | ct σ2 h2 =>
          have : ¬ ∃ n, whileF c b n σ2 h2 ≠ .bad := fun ⟨n, z⟩ => z (by have := step n; rw [q2] at this; exact this)
          show RS.bad = mWhile c b σ2 h2
          unfold mWhile; rw [dif_neg this]
        | bad => rfl
        | bk => have := step 0; rw [q2] at this; cases this
        | rt => have := step 0; rw [q2] at this; cases this
        | ex => have := step 0; rw [q2] at this; cases this
theorem g_while {k : Nat} (C : CK X W k) (hc : GT X W c tc) (hb : GSs X W body mb) : GS X W (.While c body [] pos) (mWhile tc mb) :=
  ps_mono (ps_while C.po hc hb) fun T σ H ⟨ρ, σh, h, r, s, p⟩ => by
    have nb : mWhile tc mb σh h ≠ .bad := fun z => by rw [z] at p; exact p
    obtain ⟨n, en⟩ := mWhile_bad nb
    rw [← en] at p
    refine ⟨fun m σ H => ∃ ρ σh h, Rep X.K ρ h H ∧ RepS X.K ρ H σh σ ∧ PostS X.K ρ H W T (whileF tc mb m σh h), ⟨n, ρ, σh, h, r, s, p⟩, ?_⟩
    rintro m σ2 H2 ⟨ρ2, σh2, h2, r2, s2, p2⟩
    cases m with
    | zero => exact p2.elim
    | succ m =>
      refine ⟨ρ2, σh2, h2, r2, s2, PostS.of_on (rel := bEq) p2 r2 s2 fun t h3 ρ3 t' H3 e3 r3 z3 p3 => ?_⟩
      cases z3
      have s3 := s2.mono r2 e3
      cases t with
      | false => exact p3.useN r3 s3
      | true =>
        simp only [if_true] at p3 ⊢
        refine ⟨fun σ' H' => ∃ ρ σh h, Rep X.K ρ h H' ∧ RepS X.K ρ H' σh σ' ∧ PostS X.K ρ H' W T (whileF tc mb m σh h), fun σ' H' q => ⟨m, by omega, q⟩, ρ3, σh2, h3, r3, s3, ?_⟩
        cases q5 : mb σh2 h3 with
        | bad => rw [q5] at p3; exact p3
        | nx σ6 h6 => rw [q5] at p3; exact fun ρ' σ' H' e r z => ⟨ρ', σ6, h6, r, z, PostS.ext e p3⟩
        | ct σ6 h6 => rw [q5] at p3; exact fun ρ' σ' H' e r z => ⟨ρ', σ6, h6, r, z, PostS.ext e p3⟩
        | bk σ6 h6 => rw [q5] at p3; exact p3
        | rt d h6 => rw [q5] at p3; exact p3
        | ex x σ6 h6 => rw [q5] at p3; exact p3
end
end FL

set_option Elab.async false
set_option linter.all false
set_option maxRecDepth 100000
/-! FL, part e: comprehensions, calls, defs. -/
namespace FL
open PySem PySem.Spec PyProof.Rows L2

/-! ### comprehensions -/
inductive Tgt where
  | one (i : Nat) | many (is : List Nat)
def Tgt.m : Tgt → FG
  | .one i => mTo i
  | .many is => mTos is
def Tgt.g (K : PySem.W.Frag) : Tgt → TG
  | .one i => gName i
  | .many is => gTup K is.length (tNames is)
def Tgt.ixs : Tgt → List Nat
  | .one i => [i]
  | .many is => is
theorem wipe_set {i : Nat} {x : Option V} : ∀ {js : List Nat} {σ : L2.St}, i ∈ js → wipe (σ.set i x) js = wipe σ js := by
  intro js
  have comm : ∀ (js : List Nat) (σ : L2.St) (x : Option V) (i : Nat), i ∉ js → wipe (σ.set i x) js = (wipe σ js).set i x := by
    intro js
    induction js with
    | nil => intro σ x i _; rfl
    | cons k js ih2 =>
      intro σ x i hn
      unfold wipe
      rw [ih2 σ x i fun z => hn (List.mem_cons_of_mem _ z)]
      exact List.set_comm _ _ fun e => hn (by rw [e]; exact List.mem_cons_self)
  induction js with
  | nil => intro σ h; cases h
  | cons j js ih =>
    intro σ hi
    unfold wipe
    by_cases hij : i ∈ js
    · rw [ih hij]
    · have : i = j := by
        rcases List.mem_cons.mp hi with z | z
        · exact z
        · exact absurd z hij
      subst this
      rw [comm js _ _ _ hij, List.set_set]
theorem wipe_wipe {σ : L2.St} : ∀ {js ks : List Nat}, (∀ i ∈ ks, i ∈ js) → wipe (wipe σ ks) js = wipe σ js
  | js, [], _ => rfl
  | js, k :: ks, h => by
    show wipe ((wipe σ ks).set k none) js = _
    rw [wipe_set (h k List.mem_cons_self), wipe_wipe fun i hi => h i (List.mem_cons_of_mem _ hi)]
theorem Tgt.ok {K : PySem.W.Frag} {ρ : List Addr} {h : HS} {H : Hp} {t : Tgt} {d : D} {v : V} {σh σh' : Sl} {h' : HS} {σ : L2.St} {js : List Nat} {Q : L2.St → Hp → Prop} (z : DV K ρ H d v) (s : RepS K ρ H σh σ) (e : t.m d σh h = .ok σh' h')
    (hj : ∀ i ∈ t.ixs, i ∈ js) (q : h' = h → ∀ σ', RepS K ρ H σh' σ' → wipe σ' js = wipe σ js → Q σ' H) : t.g K v σ H Q := by
  cases t with
  | one i =>
    cases e
    exact q rfl _ (s.set i z) (wipe_set (hj i (by simp [Tgt.ixs])))
  | many is =>
    cases z with
    | tup q' zs =>
      rename_i a vs ds
      simp only [Tgt.m, mTos] at e
      cases e1 : setAll is ds σh with
      | none => rw [e1] at e; cases e
      | some σ' =>
        rw [e1] at e
        cases e
        exact ⟨_, vs, rfl, q', by rw [setAll_len e1, zs.length], tNames_ok zs s e1 fun σ' s' hw => q rfl σ' s' (hw js hj)⟩
    | _ => cases e
def wipeD (σ : Sl) : List Nat → Sl
  | [] => σ
  | v :: vs => (wipeD σ vs).set v none
theorem wipeD_ok {K : PySem.W.Frag} {ρ : List Addr} {H : Hp} {σh : Sl} {σ : L2.St} (s : RepS K ρ H σh σ) : ∀ vs : List Nat, RepS K ρ H (wipeD σh vs) (wipe σ vs)
  | [] => s
  | v :: vs => by
    have ih := wipeD_ok s vs
    refine ⟨by unfold wipeD wipe; rw [List.length_set, List.length_set]; exact ih.1, fun i d hd => ?_⟩
    unfold wipeD at hd
    unfold wipe
    by_cases e : v = i
    · subst e
      by_cases hl : v < (wipeD σh vs).length
      · rw [List.getElem?_set_self hl] at hd; cases hd
      · rw [List.getElem?_eq_none (by simpa using hl)] at hd; cases hd
    · rw [List.getElem?_set_ne e] at hd ⊢
      exact ih.2 i d hd
def R.nox {α : Type} : R α → R α
  | .ex _ _ => .bad
  | r => r
def lcL (t : Tgt) (tt : FT) (te : FE) (J : ItD) (σ : Sl) : Nat → Nat → List D → HS → R (List D)
  | 0, _, acc, h => if J.fin h = true then .ok acc h else .bad
  | n + 1, j, acc, h => match J.get j h with
    | none => .bad
    | some d => match t.m d σ h with
      | .ok σ1 h1 => match tt σ1 h1 with
        | .ok true h2 => match te σ1 h2 with
          | .ok y h3 => if acc.length < sizeLine then lcL t tt te J σ n (j + 1) (acc ++ [y]) h3 else .bad
          | _ => .bad
        | .ok false h2 => lcL t tt te J σ n (j + 1) acc h2
        | _ => .bad
      | _ => .bad
def mLc (it : FI) (t : Tgt) (tt : FT) (te : FE) (vs : List Nat) : FE := fun σ h => (it σ h).bind fun J h1 => (lcL t tt te J (wipeD σ vs) J.n 0 [] h1).bind fun ds h2 => .ok (.ref h2.length) (h2 ++ [.lst ds])
theorem Kp.off {ρ : List Addr} {H : Hp} {a : Addr} {o : HO} {xs : List V} (e : H a = some (.lst xs)) : Kp ρ H ρ (upd H a o) :=
  .upd1 e (fun _ z => by cases z) (fun _ _ z => by cases z) (fun _ _ z => by cases z)
theorem lcL_nox {t : Tgt} {tt : FT} {te : FE} {J : ItD} {σ : Sl} {x : XV} {h2 : HS} : ∀ (n j : Nat) (acc : List D) (h : HS), lcL t tt te J σ n j acc h ≠ .ex x h2
  | 0, j, acc, h => fun z => by
    unfold lcL at z
    split at z <;> cases z
  | n + 1, j, acc, h => fun z => by
    unfold lcL at z
    cases g1 : J.get j h with
    | none => rw [g1] at z; cases z
    | some d =>
      rw [g1] at z
      simp only at z
      cases g2 : t.m d σ h with
      | bad => rw [g2] at z; cases z
      | ex => rw [g2] at z; cases z
      | ok σ1 h1 =>
        rw [g2] at z
        simp only at z
        cases g3 : tt σ1 h1 with
        | bad => rw [g3] at z; cases z
        | ex => rw [g3] at z; cases z
        | ok b h2 =>
          rw [g3] at z
          cases b with
          | false => exact lcL_nox n _ _ _ z
          | true =>
            simp only at z
            cases g4 : te σ1 h2 with
            | bad => rw [g4] at z; cases z
            | ex => rw [g4] at z; cases z
            | ok y h3 =>
              rw [g4] at z
              simp only at z
              split at z
              · exact lcL_nox n _ _ _ z
              · cases z
theorem lLc {K : PySem.W.Frag} {W : WX} {it : FI} {t : Tgt} {tt : FT} {te : FE} {vs : List Nat} (hvs : ∀ i ∈ t.ixs, i ∈ vs) (σ : L2.St) (H : Hp) (Q : VK) (q : lE K W (mLc it t tt te vs) σ H Q) :
    tLc (lI K W it) (t.g K) (lT K W0 tt) (lE K W0 te) vs σ H Q := by
  obtain ⟨ρ, σh, h, r, s, p⟩ := q
  refine ⟨ρ, σh, h, r, s, Post.of_bind p fun J h1 ρ1 Ji H1 e1 r1 z1 p1 => fun Dn hDn => ?_⟩
  have s1 := wipeD_ok (s.mono r e1) vs
  -- what the rest of the list is to give
  refine ⟨fun i m H => ∃ ρ h acc vacc, Rep K ρ h H ∧ Dn ∉ ρ ∧ H Dn = some (.lst vacc) ∧ DVs K ρ H acc vacc ∧ Ext ρ1 H1 ρ H ∧ RepS K ρ H (wipeD σh vs) (wipe σ vs) ∧ i + m = J.n ∧
      ∃ ds h2, lcL t tt te J (wipeD σh vs) m i acc h = .ok ds h2 ∧ ∀ ρ' v H', Ext ρ1 H1 ρ' H' → Rep K ρ' (h2 ++ [.lst ds]) H' → DV K ρ' H' (.ref h2.length) v → Q v H', ?_, ?_⟩
  · refine ⟨J.n, ρ1, h1, [], [], r1.laid hDn, fun z => ?_, upd_same, .nil, .laid hDn, s1.mono r1 (.laid hDn), by omega, ?_⟩
    · obtain ⟨_, _, _, _, w⟩ := r1.mem z
      obtain ⟨u, eu, _⟩ := w.some
      rw [hDn] at eu; cases eu
    · cases q1 : lcL t tt te J (wipeD σh vs) J.n 0 [] h1 with
      | bad => rw [q1] at p1; exact p1.elim
      | ok ds h2 => rw [q1] at p1; exact ⟨ds, h2, rfl, p1⟩
      | ex x h2 =>
        exact absurd q1 (lcL_nox _ _ _ _)
  · rintro i m H2 ⟨ρ2, h2, acc, vacc, r2, nD, hD, za, e2, s2, hm, ds, h9, q9, k9⟩
    obtain ⟨z3, z4⟩ := z1 ρ2 h2 H2 r2 e2
    cases m with
    | zero =>
      unfold lcL at q9
      by_cases hf : J.fin h2 = true
      · rw [if_pos hf] at q9
        cases q9
        have ei : i = J.n := by omega
        subst ei
        have hix : (ρ2 ++ [Dn])[h2.length]? = some Dn := by rw [← r2.len]; simp
        refine .inl ⟨z4 hf, k9 (ρ2 ++ [Dn]) _ H2 ?_ ?_ (.ref hix)⟩
        · obtain ⟨x, rfl, hx⟩ := e2.pre
          refine ⟨⟨x ++ [Dn], by rw [List.append_assoc], fun a ha => ?_⟩, e2.keep, e2.frz⟩
          rcases List.mem_append.mp ha with z | z
          · exact hx a z
          · rw [List.mem_singleton.mp z]; exact hDn
        · have kp : Kp ρ2 H2 (ρ2 ++ [Dn]) H2 := ⟨fun j a q => by rw [List.getElem?_append_left (List.getElem?_eq_some_iff.mp q).1]; exact q, fun _ _ q => q, fun _ _ _ q => q, fun _ _ _ q => q⟩
          refine ⟨by simp [r2.len], List.nodup_append.mpr ⟨r2.nd, by simp, fun a ha b hb => by rw [List.mem_singleton.mp hb]; rintro rfl; exact nD ha⟩, fun j u a ea eb => ?_⟩
          by_cases hj : j < h2.length
          · rw [List.getElem?_append_left hj] at ea
            rw [List.getElem?_append_left (by rw [r2.len]; exact hj)] at eb
            exact (r2.obj j u a ea eb).kp kp rfl
          · have hl : j < (h2 ++ [MO.lst acc]).length := (List.getElem?_eq_some_iff.mp ea).1
            have ej : j = h2.length := by rw [List.length_append] at hl; simp at hl; omega
            subst ej
            rw [List.getElem?_append_right (Nat.le_refl _), Nat.sub_self] at ea
            rw [hix] at eb
            cases eb
            simp at ea
            subst ea
            exact ⟨vacc, hD, za.kp kp⟩
      · rw [if_neg hf] at q9; cases q9
    | succ m =>
      unfold lcL at q9
      cases g1 : J.get i h2 with
      | none => rw [g1] at q9; cases q9
      | some d =>
        rw [g1] at q9
        simp only at q9
        obtain ⟨hgo, hy⟩ := z3 i d (by omega) g1
        refine .inr ⟨hgo, fun H => ∃ ρ h acc vacc, Rep K ρ h H ∧ Dn ∉ ρ ∧ H Dn = some (.lst vacc) ∧ DVs K ρ H acc vacc ∧ Ext ρ1 H1 ρ H ∧ RepS K ρ H (wipeD σh vs) (wipe σ vs) ∧ i + 1 + m = J.n ∧
          ∃ ds h2, lcL t tt te J (wipeD σh vs) m (i + 1) acc h = .ok ds h2 ∧ ∀ ρ' v H', Ext ρ1 H1 ρ' H' → Rep K ρ' (h2 ++ [.lst ds]) H' → DV K ρ' H' (.ref h2.length) v → Q v H', fun H' q => ⟨m, by omega, q⟩, fun x H3 hyl => ?_⟩
        obtain ⟨e3, r3, zd⟩ := hy x H3 hyl
        have s3 := s2.mono r2 e3
        have hD3 := e3.keep _ _ hD nD
        cases g2 : t.m d (wipeD σh vs) h2 with
        | bad => rw [g2] at q9; cases q9
        | ex x h => rw [g2] at q9; cases q9
        | ok σ1 h3 =>
          rw [g2] at q9
          simp only at q9
          refine Tgt.ok (js := vs) zd s3 g2 hvs fun eh σ4 s4 hw => ⟨by rw [hw, wipe_wipe fun i hi => hi], ?_⟩
          subst eh
          refine ⟨ρ2, σ1, h3, r3, s4, ?_⟩
          cases g3 : tt σ1 h3 with
          | bad => rw [g3] at q9; cases q9
          | ex x h => rw [g3] at q9; cases q9
          | ok b h4 =>
            rw [g3] at q9
            intro ρ4 b' H4 e4 r4 eb
            cases eb
            have off : ∀ {ρ4 : List Addr} {H4 : Hp}, Ext ρ2 H3 ρ4 H4 → Dn ∉ ρ4 := fun {ρ4 H4} e4 z => by
              obtain ⟨x, rfl, hx⟩ := e4.pre
              rcases List.mem_append.mp z with z | z
              · exact nD z
              · rw [hx _ z] at hD3; cases hD3
            have nD4 := off e4
            have hD4 := e4.keep _ _ hD3 nD
            have za4 := (za.mono r2 e3).mono r3 e4
            have e24 := (e2.trans e3 r3.nd).trans e4 r4.nd
            cases b with
            | false => exact ⟨ρ4, h4, acc, vacc, r4, nD4, hD4, za4, e24, s3.mono r3 e4, by omega, ds, h9, q9, k9⟩
            | true =>
              simp only [if_true] at q9 ⊢
              refine ⟨ρ4, σ1, h4, r4, s4.mono r3 e4, ?_⟩
              cases g4 : te σ1 h4 with
              | bad => rw [g4] at q9; cases q9
              | ex x h => rw [g4] at q9; cases q9
              | ok y h5 =>
                rw [g4] at q9
                simp only at q9
                intro ρ5 y' H5 e5 r5 zy
                by_cases hl : acc.length < sizeLine
                · rw [if_pos hl] at q9
                  have e45 := e4.trans e5 r5.nd
                  have nD5 := off e45
                  have hD5 := e5.keep _ _ hD4 nD4
                  have za5 := za4.mono r4 e5
                  have kp : Kp ρ5 H5 ρ5 (upd H5 Dn (.lst (vacc ++ [y']))) := .off hD5
                  refine ⟨vacc, hD5, by rw [← za.length]; exact hl, ρ5, h5, acc ++ [y], vacc ++ [y'], ?_, nD5, upd_same, (za5.kp kp).append (.cons (zy.kp kp) .nil), ?_, ?_, by omega, ds, h9, q9, k9⟩
                  · refine ⟨r5.len, r5.nd, fun j u a ea eb => (r5.obj j u a ea eb).kp kp (upd_ne fun z => ?_)⟩
                    subst z
                    exact nD5 (List.mem_of_getElem? eb)
                  · have e25 := e24.trans e5 r5.nd
                    refine ⟨e25.pre, fun a o ha hn => ?_, fun a o u ha => ?_⟩
                    · rw [upd_ne (ne_of_none ha hDn)]; exact e25.keep a o ha hn
                    · rw [upd_ne (ne_of_none ha hDn)]; exact e25.frz a o u ha
                  · have s5 := (s3.mono r3 e4).mono r4 e5
                    exact ⟨s5.1, fun j d hj => let ⟨v, e1, z⟩ := s5.2 j d hj; ⟨v, e1, z.kp kp⟩⟩
                · rw [if_neg hl] at q9; cases q9
section
variable {X : Cx} {W : WX} {pos : Pos} {tg iter elt : Expr} {ifs : List Expr} {scope : Scope} {own : List (Str × Nat)} {it : FI} {t : Tgt} {tt : FT} {te : FE} {k : Nat}
def mYes : FT := fun _ h => .ok true h
abbrev GTs (X : Cx) (W : WX) (ifs : List Expr) (m : FT) : Prop := PTs X ifs (lT X.K W m)
theorem gts_nil : GTs X W [] mYes := ⟨fun pins s σ H Q I ⟨ρ, σh, h, r, sl, p⟩ => pts_nil.run pins s σ H Q I (p.use r rfl)⟩
theorem gts_one {c : Expr} (h : GT X W c tt) : GTs X W [c] tt := pts_one h
theorem g_lc (C : CK X W k) (hi : GI X W tg iter it) (ok : BlkOk X.N X.env.scope scope own) (hvs : ∀ i ∈ t.ixs, i ∈ own.map (·.2))
    (hg : ∀ (s : Shared) (H : Hp) (C : Addr) (cl : List (Str × Addr)) (fp : List Addr), PG (X.blk s H scope (compEnvC scope cl C X.env) fp) tg (t.g X.K))
    (ht : ∀ (s : Shared) (H : Hp) (C : Addr) (cl : List (Str × Addr)) (fp : List Addr), GTs (X.blk s H scope (compEnvC scope cl C X.env) fp) W0 ifs tt)
    (he : ∀ (s : Shared) (H : Hp) (C : Addr) (cl : List (Str × Addr)) (fp : List Addr), GE (X.blk s H scope (compEnvC scope cl C X.env) fp) W0 elt te) (hs : ∀ x, foldedSetIterable iter X.env x = pure x := by intro _; rfl) :
    GE X W (.ListComp elt [⟨tg, iter, ifs, 0⟩] scope pos) (mLc it t tt te (own.map (·.2))) :=
  pe_mono (pe_lc (tt := lT X.K W0 tt) (te := lE X.K W0 te) C.calm C.nd hi ok hg ht he hs) (lLc hvs)
theorem g_setLc {i : Nat} {y : Str} {py : Pos} {spos : Pos} (C : CK X W k) (hyl : X.env.scope.names.lookup y = some .local)
    (hsw : swapsWith (.ListComp elt [⟨tg, iter, ifs, 0⟩] scope pos) (some (.Name y py)) spos.line X.env = pure true) (hi : GI X W tg iter it) (ok : BlkOk X.N X.env.scope scope own) (hvs : ∀ i ∈ t.ixs, i ∈ own.map (·.2))
    (hg : ∀ (s : Shared) (H : Hp) (C : Addr) (cl : List (Str × Addr)) (fp : List Addr), PG (X.blk s H scope (compEnvC scope cl C X.env) fp) tg (t.g X.K))
    (ht : ∀ (s : Shared) (H : Hp) (C : Addr) (cl : List (Str × Addr)) (fp : List Addr), GTs (X.blk s H scope (compEnvC scope cl C X.env) fp) W0 ifs tt)
    (he : ∀ (s : Shared) (H : Hp) (C : Addr) (cl : List (Str × Addr)) (fp : List Addr), GE (X.blk s H scope (compEnvC scope cl C X.env) fp) W0 elt te) (hy : X.N[i]? = some y := by rfl) (hs : ∀ x, foldedSetIterable iter X.env x = pure x := by intro _; rfl) :
    GS X W (.Assign [.Name y py] (.ListComp elt [⟨tg, iter, ifs, 0⟩] scope pos) spos) (mAsg (mLc it t tt te (own.map (·.2))) (mTo i)) :=
  ps_mono (ps_setLc (tt := lT X.K W0 tt) (te := lE X.K W0 te) C.calm C.nd hy hyl hsw hi ok hg ht he hs) fun T σ H ⟨ρ, σh, h, r, s, p⟩ => lLc hvs σ H _ ⟨ρ, σh, h, r, s, PostS.of_on p r s fun d h1 ρ1 v H1 e1 r1 z1 p1 => p1.useN r1 ((s.mono r e1).set i z1)⟩
end

/-! ### a thing that is locked while an expression runs -/
def mLockE (i : Nat) (m : FE) : FE := fun σ h => match σ[i]? with
  | some (some (.ref a)) => match h[a]? with
    | some (.dK kvs) => match m σ (h.set a (.fdK kvs)) with
      | .ok d h' => .ok d (h'.set a (.dK kvs))
      | _ => .bad
    | _ => .bad
  | _ => .bad
theorem g_lockE {X : Cx} {W : WX} {e : Expr} {m : FE} (i : Nat) (he : GE X W e m) : GE X W e (mLockE i m) :=
  pe_mono (pe_lock he) fun σ H Q ⟨ρ, σh, h, r, s, p⟩ => by
    unfold mLockE at p
    split at p
    · rename_i a q1
      split at p
      · rename_i kvs q2
        obtain ⟨v, ev, zv⟩ := s.2 i _ q1
        obtain ⟨ad, ea, vk, hv, zs⟩ := r.look q2
        refine ⟨ad, .dK vk, hv, trivial, fun od => ?_⟩
        have kp : Kp ρ H ρ (upd H ad (.frz od (.dK vk))) := .upd1 hv (fun _ z => by cases z) (fun _ _ z => by cases z) (fun _ _ z => by cases z)
        have r2 : Rep X.K ρ (h.set a (.fdK kvs)) (upd H ad (.frz od (.dK vk))) := r.wrote ea hv rfl ⟨od, vk, upd_same, KDs.kp kp zs⟩
        refine ⟨ρ, σh, _, r2, ⟨s.1, fun j d hj => let ⟨v, e1, z⟩ := s.2 j d hj; ⟨v, e1, z.kp kp⟩⟩, ?_⟩
        cases q3 : m σh (h.set a (.fdK kvs)) with
        | bad => rw [q3] at p; exact p
        | ex x h' => rw [q3] at p; exact p.elim
        | ok d h' =>
          rw [q3] at p
          intro ρ' v' H' e' r' z'
          have hf : H' ad = some (.frz od (.dK vk)) := e'.frz _ _ _ upd_same
          refine ⟨hf, ?_⟩
          have ea' := e'.ix ea
          have kp' : Kp ρ' H' ρ' (upd H' ad (.dK vk)) := .upd1 hf (fun _ z => by cases z) (fun _ _ z => by cases z) (fun _ _ z => by cases z)
          have ne : ∀ b, H b ≠ some (.dK vk) → b ≠ ad := fun b hb z => hb (by rw [z]; exact hv)
          refine p ρ' v' _ ⟨?_, fun b u hb hn => ?_, fun b ob u hb => ?_⟩ ?_ (z'.kp kp')
          · obtain ⟨x, hx, hn⟩ := e'.pre
            refine ⟨x, hx, fun b hb => ?_⟩
            have := hn b hb
            by_cases hba : b = ad
            · subst hba; rw [upd_same] at this; cases this
            · rw [upd_ne hba] at this; exact this
          · have hba : b ≠ ad := fun z => hn (by rw [z]; exact List.mem_of_getElem? ea)
            rw [upd_ne hba]
            exact e'.keep b u (by rw [upd_ne hba]; exact hb) hn
          · have hba : b ≠ ad := fun z => by subst z; rw [hv] at hb; cases hb
            rw [upd_ne hba]
            exact e'.frz b ob u (by rw [upd_ne hba]; exact hb)
          · refine ⟨by rw [List.length_set]; exact r'.len, r'.nd, fun j u b e1 e2 => ?_⟩
            by_cases hj : j = a
            · subst hj
              rw [ea'] at e2; cases e2
              have hl : j < h'.length := by
                have := (List.getElem?_eq_some_iff.mp ea').1
                rw [← r'.len]; exact this
              rw [List.getElem?_set_self hl] at e1
              cases e1
              exact ⟨vk, upd_same, (KDs.kp (Kp.of r2 e') (KDs.kp kp zs)).kp kp'⟩
            · rw [List.getElem?_set_ne (Ne.symm hj)] at e1
              have hb : b ≠ ad := fun z => hj (by subst z; exact (List.getElem?_inj (List.getElem?_eq_some_iff.mp e2).1 r'.nd).mp (e2.trans ea'.symm))
              exact (r'.obj j u b e1 e2).kp kp' (upd_ne hb)
      · exact p.elim
    · exact p.elim
end FL

set_option Elab.async false
set_option linter.all false
set_option maxRecDepth 100000
/-! FL, part f: calls of built-ins, methods, defs; the def's own rule. -/
namespace FL
open PySem PySem.Spec PyProof.Rows L2

/-! ### calls by values -/
abbrev RL := List V → Hp → VK → Prop
def CallS (K : PySem.W.Frag) (f : List D → HS → R D) (r : RL) : Prop := ∀ (ρ : List Addr) (h : HS) (H : Hp) (ds : List D) (vs : List V) (W : XK) (Q : VK), Rep K ρ h H → DVs K ρ H ds vs → Post K ρ H (DV K) W Q (f ds h) → r vs H Q
def mCall (f : List D → HS → R D) (ma : FA) : FE := fun σ h => (ma σ h).bind f
section
variable {X : Cx} {W : WX} {pos p apos : Pos} {x : Str} {e o : Expr} {es : List Expr} {m mo : FE} {ma : FA} {f : List D → HS → R D} {r : RL} {id T : String}
theorem lCall (hf : CallS X.K f r) (σ : L2.St) (H : Hp) (Q : VK) (q : lE X.K W (mCall f ma) σ H Q) : tCB r (lA X.K W ma) σ H Q := by
  obtain ⟨ρ, σh, h, rr, s, p⟩ := q
  exact ⟨ρ, σh, h, rr, s, Post.of_bind p fun ds h1 ρ1 vs H1 e1 r1 z1 p1 => hf ρ1 h1 H1 ds vs _ Q r1 z1 p1⟩
theorem g_callB (hc : CallR X (.builtin id) r) (hf : CallS X.K f r) (hm : X.mg x = none) (hv : bootBuiltins x = some (.builtin id)) (ha : GA X W (e :: es) ma) (hg : Gl X x := by rfl) (hn : x ≠ "__name__" := by decide) (hdb : (x == ("__debug__" : Str)) = false := by decide)
    (he : starEach (e :: es) X.env = (false, eval e X.env) :: starEach es X.env := by rfl) (hpl : (backTo pos (starEach es X.env)).any (·.1) = false := by rfl) : GE X W (.Call (.Name x p) (e :: es) [] pos) (mCall f ma) :=
  pe_mono (pe_callB hc hg hm hv ha hn hdb he hpl) (lCall hf)
theorem g_callTy (hc : CallR X (.type T) r) (hf : CallS X.K f r) (hm : X.mg x = none) (hv : bootBuiltins x = some (.type T)) (ha : GA X W (e :: es) ma) (hg : Gl X x := by rfl) (hn : x ≠ "__name__" := by decide) (hdb : (x == ("__debug__" : Str)) = false := by decide)
    (he : starEach (e :: es) X.env = (false, eval e X.env) :: starEach es X.env := by rfl) (hpl : (backTo pos (starEach es X.env)).any (·.1) = false := by rfl) : GE X W (.Call (.Name x p) (e :: es) [] pos) (mCall f ma) :=
  pe_mono (pe_callTy hc hg hm hv ha hn hdb he hpl) (lCall hf)
end

/-! ### len, abs, int, max, min, sum, sorted, tuple, list, dict -/
def lenD (h : HS) : D → Option Nat
  | .str y => if y.length ≤ sizeLine then some y.length else none
  | .tup ds => some ds.length
  | .cst ds => some ds.length
  | .ref i => match h[i]? with
    | some (.lst ds) => some ds.length
    | some (.dK ds) => some ds.length
    | _ => none
  | _ => none
def dLen (ds : List D) (h : HS) : R D := match ds with
  | [d] => match lenD h d with
    | some n => .ok (.int n) h
    | none => .bad
  | _ => .bad
def rLen2 (K : PySem.W.Frag) : RL := fun xs H Q => (∃ x n, xs = [x] ∧ LenV K x H n ∧ Q (.int n) H) ∨ (∃ a kvs, xs = [V.ref a] ∧ H a = some (.dK kvs) ∧ Q (.int kvs.length) H)
theorem o_len {X : Cx} : CallR X (.builtin "len") (rLen2 X.K) := CallR.or call_len call_lenD
theorem s_len {K : PySem.W.Frag} : CallS K dLen (rLen2 K) := by
  intro ρ h H ds vs W Q r z0 p
  match ds, z0, p with
  | [d], zz, p =>
    obtain ⟨v, rfl, z⟩ := zz.one
    unfold dLen at p
    simp only at p
    cases e : lenD h d with
    | none => rw [e] at p; exact p.elim
    | some n =>
      rw [e] at p
      have q := p.use r (.int _)
      cases z with
      | str y =>
        simp only [lenD] at e
        by_cases c : y.length ≤ sizeLine
        · rw [if_pos c] at e; cases e; exact .inl ⟨_, _, rfl, ⟨c, rfl⟩, q⟩
        · rw [if_neg c] at e; cases e
      | tup q' zs => cases e; exact .inl ⟨_, _, rfl, .inr ⟨_, q', zs.length⟩, q⟩
      | cst q' zs => cases e; exact .inl ⟨_, _, rfl, .inl ⟨_, q'.sq, zs.length⟩, q⟩
      | ref q' =>
        rename_i i a
        cases q1 : h[i]? with
        | none => simp only [lenD, q1] at e; cases e
        | some o =>
          obtain ⟨a', ea, z⟩ := r.look q1
          rw [q'] at ea; cases ea
          cases o with
          | lst ds => simp only [lenD, q1] at e; cases e; obtain ⟨va, ha, za⟩ := z; exact .inl ⟨_, _, rfl, .inl ⟨_, SqL.of ha, za.length⟩, q⟩
          | dK ds => simp only [lenD, q1] at e; cases e; obtain ⟨va, ha, za⟩ := z; exact .inr ⟨_, _, rfl, ha, by rw [← KDs.length za]; exact q⟩
          | _ => simp only [lenD, q1] at e; cases e
      | _ => cases e
def dAbs (ds : List D) (h : HS) : R D := match ds with
  | [.int i] => .ok (.int (if i < 0 then -i else i)) h
  | _ => .bad
theorem s_abs {K : PySem.W.Frag} : CallS K dAbs (fun xs H Q => ∃ i, xs = [.int i] ∧ Q (.int (if i < 0 then -i else i)) H) := by
  intro ρ h H ds vs W Q r z0 p
  match ds, z0, p with
  | [.int i], zz, p => obtain ⟨v, rfl, z⟩ := zz.one; cases z; exact ⟨i, rfl, p.use r (.int _)⟩
def dInt (ds : List D) (h : HS) : R D := match ds with
  | [.int i] => .ok (.int i) h
  | [.bl k] => .ok (.int (if k then 1 else 0)) h
  | _ => .bad
theorem s_int {K : PySem.W.Frag} : CallS K dInt (fun xs H Q => (∃ i, xs = [.int i] ∧ Q (.int i) H) ∨ ∃ k, xs = [.bl k] ∧ Q (.int (if k then 1 else 0)) H) := by
  intro ρ h H ds vs W Q r z0 p
  match ds, z0, p with
  | [.int i], zz, p => obtain ⟨v, rfl, z⟩ := zz.one; cases z; exact .inl ⟨i, rfl, p.use r (.int _)⟩
  | [.bl k], zz, p => obtain ⟨v, rfl, z⟩ := zz.one; cases z; exact .inr ⟨k, rfl, p.use r (.int _)⟩
def dMax2 (ds : List D) (h : HS) : R D := match ds with
  | [.int i, .int j] => .ok (.int (if j > i then j else i)) h
  | _ => .bad
def dMin2 (ds : List D) (h : HS) : R D := match ds with
  | [.int i, .int j] => .ok (.int (if j < i then j else i)) h
  | _ => .bad
theorem s_max2 {K : PySem.W.Frag} : CallS K dMax2 (fun xs H Q => ∃ i j, xs = [.int i, .int j] ∧ Q (.int (if j > i then j else i)) H) := by
  intro ρ h H ds vs W Q r z0 p
  match ds, z0, p with
  | [.int i, .int j], z, p => obtain ⟨v, w, rfl, z1, z2⟩ := z.two; cases z1; cases z2; exact ⟨i, j, rfl, p.use r (.int _)⟩
theorem s_min2 {K : PySem.W.Frag} : CallS K dMin2 (fun xs H Q => ∃ i j, xs = [.int i, .int j] ∧ Q (.int (if j < i then j else i)) H) := by
  intro ρ h H ds vs W Q r z0 p
  match ds, z0, p with
  | [.int i, .int j], z, p => obtain ⟨v, w, rfl, z1, z2⟩ := z.two; cases z1; cases z2; exact ⟨i, j, rfl, p.use r (.int _)⟩
def unI : D → Option Int
  | .int i => some i
  | _ => none
/-- all are ints -/
def intsD : List D → Option (List Int)
  | [] => some []
  | d :: ds => match unI d, intsD ds with
    | some i, some is => some (i :: is)
    | _, _ => none
theorem intsD_eq : ∀ {ds : List D} {ns : List Int}, intsD ds = some ns → ds = ns.map D.int
  | [], ns, e => by cases e; rfl
  | d :: ds, ns, e => by
    unfold intsD at e
    cases d <;> simp only [unI] at e <;> first | (cases e; done) | skip
    cases q : intsD ds with
    | none => rw [q] at e; cases e
    | some is => rw [q] at e; cases e; rw [intsD_eq q]; rfl
theorem intsD_map : ∀ ns : List Int, intsD (ns.map D.int) = some ns
  | [] => rfl
  | n :: ns => by
    show (match some n, intsD (ns.map D.int) with
      | some i, some is => some (i :: is)
      | _, _ => none) = _
    rw [intsD_map ns]
/-- a list's items: a numbered list, or one that stays -/
def listD (h : HS) : D → Option (List D)
  | .cst ds => some ds
  | .ref i => lstAt h i
  | _ => none
theorem listD_ok {K : PySem.W.Frag} {ρ : List Addr} {h : HS} {H : Hp} (r : Rep K ρ h H) {d : D} {v : V} {ds : List D} (z : DV K ρ H d v) (e : listD h d = some ds) : ∃ a vs, v = .ref a ∧ SqL K H a vs ∧ DVs K ρ H ds vs := by
  cases z with
  | cst q zs => cases e; exact ⟨_, _, rfl, q.sq, zs⟩
  | ref q =>
    obtain ⟨vs, hv, zs⟩ := lstAt_ok r q e
    exact ⟨_, vs, rfl, SqL.of hv, zs⟩
  | _ => cases e
def dSum (ds : List D) (h : HS) : R D := match ds with
  | [d] => match (listD h d).bind intsD with
    | some ns => .ok (.int ns.sum) h
    | none => .bad
  | _ => .bad
theorem s_sum {K : PySem.W.Frag} : CallS K dSum (rSum K) := by
  intro ρ h H ds vs W Q r z0 p
  match ds, z0, p with
  | [d], zz, p =>
    obtain ⟨v, rfl, z⟩ := zz.one
    unfold dSum at p
    simp only at p
    cases e : (listD h d).bind intsD with
    | none => rw [e] at p; exact p.elim
    | some ns =>
      rw [e] at p
      obtain ⟨es, e1, e2⟩ := Option.bind_eq_some_iff.mp e
      obtain ⟨a, vs, rfl, hq, zs⟩ := listD_ok r z e1
      rw [intsD_eq e2] at zs
      rw [zs.toInts] at hq
      exact ⟨a, ns, rfl, hq, p.use r (.int _)⟩
def sortI (ns : List Int) : List Int := ns.mergeSort (fun a b => decide (a ≤ b))
theorem sortI_perm (ns : List Int) : (sortI ns).Perm ns := List.mergeSort_perm ns _
theorem sortI_sorted (ns : List Int) : (sortI ns).Pairwise (· ≤ ·) := by
  have h := List.pairwise_mergeSort (le := fun a b : Int => decide (a ≤ b)) (fun a b c h1 h2 => by simp only [decide_eq_true_eq] at *; omega) (fun a b => by simp only [Bool.or_eq_true, decide_eq_true_eq]; omega) ns
  exact h.imp fun h => of_decide_eq_true h
theorem sortI_eq {ns ms : List Int} (hp : ms.Perm ns) (hs : ms.Pairwise (· ≤ ·)) : ms = sortI ns :=
  PySem.W.ksm_same (hp.trans (sortI_perm ns).symm) hs (sortI_sorted ns)
def keysI : List (Key × D) → Option (List Int)
  | [] => some []
  | (.inl i, _) :: r => (keysI r).map (i :: ·)
  | (.inr _, _) :: _ => none
theorem keysI_eq : ∀ {ks : List (Key × D)} {ns : List Int}, keysI ks = some ns → ks.map (·.1) = ns.map Sum.inl
  | [], ns, e => by cases e; rfl
  | (.inl i, d) :: r, ns, e => by
    obtain ⟨ms, e1, e2⟩ := Option.map_eq_some_iff.mp e
    subst e2
    rw [List.map_cons, keysI_eq e1]; rfl
  | (.inr x, d) :: r, ns, e => by cases e
def dSorted (ds : List D) (h : HS) : R D := match ds with
  | [d] => match (listD h d).bind intsD with
    | some ns => .ok (.ref h.length) (h ++ [.lst ((sortI ns).map D.int)])
    | none => match (dictD h d).bind keysI with
      | some ns => if ns.length < 64 then .ok (.ref h.length) (h ++ [.lst ((sortI ns).map D.int)]) else .bad
      | none => .bad
  | _ => .bad
def rSortedDI : RL := fun xs H Q => ∃ (a : Addr) (kvs : List (Key × V)) (ks : List Int), xs = [.ref a] ∧ Rd H a (.dK kvs) ∧ kvs.map (·.1) = ks.map Sum.inl ∧ ks.length < 64 ∧
    ∀ (ys : List Int) (p : Addr), ys.Perm ks → ys.Pairwise (· ≤ ·) → H p = none → Q (.ref p) (upd H p (.lst (ys.map V.int)))
def rSorted2 (K : PySem.W.Frag) : RL := fun vs H Q => rSortedI K vs H Q ∨ rSortedDI vs H Q
theorem o_sorted {X : Cx} (hc : X.calm = true) : CallR X (.builtin "sorted") (rSorted2 X.K) := CallR.or cr_sortedI (call_sortedDI hc)
theorem s_sorted {K : PySem.W.Frag} : CallS K dSorted (rSorted2 K) := by
  intro ρ h H ds vs W Q r z0 p
  match ds, z0, p with
  | [d], zz, p =>
    obtain ⟨v, rfl, z⟩ := zz.one
    unfold dSorted at p
    simp only at p
    cases e : (listD h d).bind intsD with
    | some ns =>
      rw [e] at p
      obtain ⟨es, e1, e2⟩ := Option.bind_eq_some_iff.mp e
      obtain ⟨a, vs, rfl, hq, zs⟩ := listD_ok r z e1
      rw [intsD_eq e2] at zs
      rw [zs.toInts] at hq
      exact .inl ⟨a, ns, rfl, hq, fun ns' p' hp hs hn => by rw [sortI_eq hp hs]; exact post_lst r (DVs.ints _) p p' hn⟩
    | none =>
      rw [e] at p
      simp only at p
      cases e3 : (dictD h d).bind keysI with
      | none => rw [e3] at p; exact p.elim
      | some ns =>
        rw [e3] at p
        simp only at p
        obtain ⟨ks, e1, e2⟩ := Option.bind_eq_some_iff.mp e3
        obtain ⟨a, vs, rfl, hq, zs⟩ := dictD_ok r z e1
        by_cases hl : ns.length < 64
        · rw [if_pos hl] at p
          exact .inr ⟨a, vs, ns, rfl, hq, by rw [zs.keys, keysI_eq e2], hl, fun ns' p' hp hs hn => by rw [sortI_eq hp hs]; exact post_lst r (DVs.ints _) p p' hn⟩
        · rw [if_neg hl] at p; exact p.elim
def dTuple (ds : List D) (h : HS) : R D := match ds with
  | [.tup xs] => .ok (.tup xs) h
  | [d] => match listD h d with
    | some xs => .ok (.tup xs) h
    | none => .bad
  | _ => .bad
def rTuple (K : PySem.W.Frag) : RL := fun xs H Q => ∃ p ys, xs = [.ref p] ∧ ((SqL K H p ys ∧ ∀ l, H l = none → Q (.ref l) (upd H l (.tup ys))) ∨ (SqT K H p ys ∧ Q (.ref p) H))
theorem s_tuple {K : PySem.W.Frag} : CallS K dTuple (rTuple K) := by
  intro ρ h H ds vs W Q r z0 p
  match ds, z0, p with
  | [d], zz, p =>
    obtain ⟨v, rfl, z⟩ := zz.one
    have lst : ∀ xs, listD h d = some xs → Post K ρ H (DV K) W Q (.ok (.tup xs) h) → rTuple K [v] H Q := fun xs e p => by
      obtain ⟨a, vs, rfl, hq, zs⟩ := listD_ok r z e
      exact ⟨a, vs, rfl, .inl ⟨hq, post_tup r zs p⟩⟩
    cases z with
    | tup q zs => exact ⟨_, _, rfl, .inr ⟨q, p.use r (.tup q zs)⟩⟩
    | cst q zs => exact lst _ rfl p
    | ref q =>
      rename_i i a
      unfold dTuple at p
      simp only at p
      cases e : listD h (.ref i) with
      | none => rw [e] at p; exact p.elim
      | some xs => rw [e] at p; exact lst xs e p
    | _ => exact p.elim
  | a :: _ :: _, zz, p => cases a <;> exact p.elim
def dList (ds : List D) (h : HS) : R D := match ds with
  | [d] => match itemsD h d with
    | some xs => .ok (.ref h.length) (h ++ [.lst xs])
    | none => match dictD h d with
      | some ks => .ok (.ref h.length) (h ++ [.lst (ks.map fun kv => dKey kv.1)])
      | none => .bad
  | _ => .bad
def rList (K : PySem.W.Frag) : RL := fun xs H Q => (∃ p ys, xs = [.ref p] ∧ (SqL K H p ys ∨ SqT K H p ys) ∧ ∀ l, H l = none → Q (.ref l) (upd H l (.lst ys))) ∨
  ∃ (a : Addr) (kvs : List (Key × V)), xs = [.ref a] ∧ Rd H a (.dK kvs) ∧ ∀ p, H p = none → Q (.ref p) (upd H p (.lst (kvs.map fun kv => kV kv.1)))
theorem o_list {X : Cx} (hc : X.calm = true) : CallR X (.type "list") (rList X.K) := CallR.or call_list_of (call_listD hc)
theorem DVs.keysOf {K : PySem.W.Frag} {ρ : List Addr} {H : Hp} {ks : List (Key × D)} {vs : List (Key × V)} (z : KDs Key K ρ H ks vs) : DVs K ρ H (ks.map fun kv => dKey kv.1) (vs.map fun kv => kV kv.1) := by
  unfold KDs at z
  induction z with
  | nil => exact .nil
  | cons z _ ih => exact .cons (by show DV K ρ H (dKey _) (kV _); rw [← z.1]; exact dKey_rel _) ih
theorem s_list {K : PySem.W.Frag} : CallS K dList (rList K) := by
  intro ρ h H ds vs W Q r z0 p
  match ds, z0, p with
  | [d], zz, p =>
    obtain ⟨v, rfl, z⟩ := zz.one
    unfold dList at p
    simp only at p
    cases e : itemsD h d with
    | some xs =>
      rw [e] at p
      obtain ⟨a, vs, rfl, hq, zs⟩ := itemsD_ok r z e
      exact .inl ⟨a, vs, rfl, hq, post_lst r zs p⟩
    | none =>
      rw [e] at p
      simp only at p
      cases e2 : dictD h d with
      | none => rw [e2] at p; exact p.elim
      | some ks =>
        rw [e2] at p
        obtain ⟨a, vs, rfl, hq, zs⟩ := dictD_ok r z e2
        exact .inr ⟨a, vs, rfl, hq, post_lst r (DVs.keysOf zs) p⟩
def dDict (ds : List D) (h : HS) : R D := match ds with
  | [d] => match dictD h d with
    | some ks => .ok (.ref h.length) (h ++ [.dK ks])
    | none => .bad
  | _ => .bad
theorem s_dict {K : PySem.W.Frag} : CallS K dDict (fun xs H Q => ∃ (a : Addr) (kvs : List (Key × V)), xs = [.ref a] ∧ Rd H a (.dK kvs) ∧ ∀ p, H p = none → Q (.ref p) (upd H p (.dK kvs))) := by
  intro ρ h H ds vs W Q r z0 p
  match ds, z0, p with
  | [d], zz, p =>
    obtain ⟨v, rfl, z⟩ := zz.one
    unfold dDict at p
    simp only at p
    cases e : dictD h d with
    | none => rw [e] at p; exact p.elim
    | some ks =>
      rw [e] at p
      obtain ⟨a, vs, rfl, hq, zs⟩ := dictD_ok r z e
      exact ⟨a, vs, rfl, hq, post_dK r zs p⟩
/-- isinstance: the answer by a table of the types -/
def tyOfD (h : HS) : D → Option String
  | .non => some "NoneType" | .bl _ => some "bool" | .int _ => some "int" | .str _ => some "str" | .tup _ => some "tuple"
  | .ref i => match h[i]? with
    | some (.lst _) => some "list"
    | some (.dK _) => some "dict"
    | _ => none
  | _ => none
def dIsi (tab : List (String × String × Bool)) (ds : List D) (h : HS) : R D := match ds with
  | [d, .ty c] => match tyOfD h d with
    | some t => if t = c then .ok (.bl true) h else match tab.find? (fun p => p.1 = t ∧ p.2.1 = c) with
      | some p => .ok (.bl p.2.2) h
      | none => .bad
    | none => .bad
  | _ => .bad
theorem tyX_tup {K : PySem.W.Frag} {H : Hp} {a : Addr} {vs : List V} (q : SqT K H a vs) : TyX K H (.ref a) (.type "tuple") := by
  rcases q with (q | ⟨o, q⟩) | ⟨o, its, n, hk, hc, _⟩
  · exact .base (.tup q)
  · exact .fTuple q
  · exact .kTuple hk hc
theorem s_isi {K : PySem.W.Frag} {tab : List (String × String × Bool)} (ht : ∀ p ∈ tab, PySem.W.kitOne K (.type p.1) (.type p.2.1) = some p.2.2) : CallS K (dIsi tab) (rIsi K) := by
  intro ρ h H ds vs W Q r z0 p
  match ds, z0, p with
  | [d, .ty c], z, p =>
    obtain ⟨v, w, rfl, z1, z2⟩ := z.two
    cases z2
    unfold dIsi at p
    simp only at p
    cases e : tyOfD h d with
    | none => rw [e] at p; exact p.elim
    | some t =>
      rw [e] at p
      simp only at p
      have tx : TyX K H v (.type t) := by
        cases z1 with
        | non => cases e; exact .base .non
        | bl b => cases e; exact .base (.bl b)
        | int i => cases e; exact .base (.int i)
        | str x => cases e; exact .base (.str x)
        | tup q zs => cases e; exact tyX_tup q
        | ref q =>
          rename_i i a
          cases q1 : h[i]? with
          | none => simp only [tyOfD, q1] at e; cases e
          | some o =>
            obtain ⟨a', ea, z⟩ := r.look q1
            rw [q] at ea; cases ea
            cases o with
            | lst ds => simp only [tyOfD, q1] at e; cases e; obtain ⟨va, ha, za⟩ := z; exact .base (.lst ha)
            | dK ds => simp only [tyOfD, q1] at e; cases e; obtain ⟨va, ha, za⟩ := z; exact .base (.dK ha)
            | _ => simp only [tyOfD, q1] at e; cases e
        | _ => cases e
      by_cases hc : t = c
      · rw [if_pos hc] at p
        subst hc
        refine ⟨v, .ty t, .type t, .type t, true, rfl, .ty t, tx, ?_, p.use r (.bl _)⟩
        unfold PySem.W.kitOne
        rw [if_pos (by simp)]
      · rw [if_neg hc] at p
        cases q : tab.find? (fun p => p.1 = t ∧ p.2.1 = c) with
        | none => rw [q] at p; exact p.elim
        | some pr =>
          rw [q] at p
          have hm := List.mem_of_find?_eq_some q
          have hp := List.find?_some q
          simp only [decide_eq_true_eq] at hp
          obtain ⟨h1, h2⟩ := hp
          subst h1; subst h2
          exact ⟨v, .ty _, _, _, pr.2.2, rfl, .ty _, tx, ht pr hm, p.use r (.bl _)⟩
theorem g_tyName {X : Cx} {W : WX} {x : Str} {T : String} {pos : Pos} (hm : X.mg x = none) (hv : bootBuiltins x = some (.type T)) (hg : Gl X x := by rfl) (hn : x ≠ "__name__" := by decide) (hd : (x == ("__debug__" : Str)) = false := by decide) : GE X W (.Name x pos) (mC (.ty T)) :=
  gC (pe_bltn hg hm hv (show RelV (.ty T) (.type T) from rfl) hn hd) fun _ _ => .ty T

/-! ### methods of built-in types -/
def MtS (K : PySem.W.Frag) (f : D → List D → HS → R D) (r : V → List V → Hp → VK → Prop) : Prop := ∀ (ρ : List Addr) (h : HS) (H : Hp) (d : D) (v : V) (ds : List D) (vs : List V) (W : XK) (Q : VK), Rep K ρ h H → DV K ρ H d v → DVs K ρ H ds vs →
  Post K ρ H (DV K) W Q (f d ds h) → r v vs H Q
def tyMD (T : String) (h : HS) : D → Bool
  | .str _ => T == "str"
  | .ref i => match h[i]? with
    | some (.lst _) => T == "list"
    | some (.dK _) => T == "dict"
    | _ => false
  | _ => false
def mBM (T : String) (f : D → List D → HS → R D) (mo : FE) (ma : FA) : FE := fun σ h => (mo σ h).bind fun d h1 => if tyMD T h1 d = true then (ma σ h1).bind fun ds h2 => f d ds h2 else .bad
theorem tyMD_ok {K : PySem.W.Frag} {ρ : List Addr} {h : HS} {H : Hp} (r : Rep K ρ h H) {T : String} {d : D} {v : V} (z : DV K ρ H d v) (e : tyMD T h d = true) : tyV K T v H := by
  cases z with
  | str y => exact beq_iff_eq.mp e
  | ref q =>
    rename_i i a
    cases q1 : h[i]? with
    | none => simp only [tyMD, q1] at e; cases e
    | some o =>
      obtain ⟨a', ea, z⟩ := r.look q1
      rw [q] at ea; cases ea
      cases o with
      | lst ds => simp only [tyMD, q1] at e; obtain ⟨va, ha, za⟩ := z; exact .inl ⟨beq_iff_eq.mp e, _, SqL.of ha⟩
      | dK ds => simp only [tyMD, q1] at e; obtain ⟨va, ha, za⟩ := z; exact .inr (.inr (.inl ⟨beq_iff_eq.mp e, .inl ⟨_, ha⟩⟩))
      | _ => simp only [tyMD, q1] at e; cases e
  | _ => cases e
section
variable {X : Cx} {W : WX} {pos p apos cpos : Pos} {name : Str} {e o : Expr} {es : List Expr} {m mo : FE} {ma : FA} {f : D → List D → HS → R D} {r : V → List V → Hp → VK → Prop} {id T : String}
theorem g_bm (pa : PlainAttrs T) (slot : Slot T name id) (hty : typeOf (.builtin id) = pure (.type "method_descriptor")) (hm : MtR X id r) (hf : MtS X.K f r) (ho : GE X W o mo) (ha : GA X W (e :: es) ma)
    (hbase : attributeBase o name X.env (eval o X.env) = eval o X.env := by rfl)
    (hfew : ((backTo cpos (starEach (e :: es) X.env)).all (fun x => !x.1) && (backToKw cpos (keywordEach [] X.env)).all (fun x => x.1.isSome)
      && decide ((e :: es).length + ([] : List Keyword).length + (if ([] : List Keyword).isEmpty then 0 else 1) < 30)) = true := by rfl)
    (hline : (apos.endLine == cpos.line) = true := by rfl) (hs : starEach (e :: es) X.env = (false, eval e X.env) :: starEach es X.env := by rfl) (hplain : (backTo cpos (starEach es X.env)).any (·.1) = false := by rfl) :
    GE X W (.Call (.Attribute o name apos) (e :: es) [] cpos) (mBM T f mo ma) :=
  pe_mono (pe_bm pa slot hty hm ho ha hbase hfew hline hs hplain) fun σ H Q ⟨ρ, σh, h, rr, s, p⟩ => ⟨ρ, σh, h, rr, s, Post.of_bind p fun d h1 ρ1 v H1 e1 r1 z1 p1 => by
    by_cases c : tyMD T h1 d = true
    · rw [if_pos c] at p1
      exact ⟨tyMD_ok r1 z1 c, ρ1, σh, h1, r1, s.mono rr e1, Post.of_bind p1 fun ds h2 ρ2 vs H2 e2 r2 z2 p2 => hf ρ2 h2 H2 d v ds vs _ Q r2 (z1.mono r1 e2) z2 p2⟩
    · rw [if_neg c] at p1; exact p1.elim⟩
theorem g_bm0 (pa : PlainAttrs T) (slot : Slot T name id) (hty : typeOf (.builtin id) = pure (.type "method_descriptor")) (hm : MtR X id r) (hf : MtS X.K f r) (ho : GE X W o mo)
    (hbase : attributeBase o name X.env (eval o X.env) = eval o X.env := by rfl) (hline : (apos.endLine == cpos.line) = true := by rfl) : GE X W (.Call (.Attribute o name apos) [] [] cpos) (mBM T f mo mNil) :=
  pe_mono (pe_bm0 pa slot hty hm ho hbase hline) fun σ H Q ⟨ρ, σh, h, rr, s, p⟩ => ⟨ρ, σh, h, rr, s, Post.of_bind p fun d h1 ρ1 v H1 e1 r1 z1 p1 => by
    by_cases c : tyMD T h1 d = true
    · rw [if_pos c] at p1
      exact ⟨tyMD_ok r1 z1 c, hf ρ1 h1 H1 d v [] [] _ Q r1 z1 .nil p1⟩
    · rw [if_neg c] at p1; exact p1.elim⟩
end
def dAppend (d : D) (ds : List D) (h : HS) : R D := match d, ds with
  | .ref i, [y] => match lstAt h i with
    | some xs => if xs.length < sizeLine then .ok .non (h.set i (.lst (xs ++ [y]))) else .bad
    | none => .bad
  | _, _ => .bad
theorem s_append {K : PySem.W.Frag} : MtS K dAppend rAppend := by
  intro ρ h H d v ds vs W Q r z zs0 p
  cases z <;> first | exact p.elim | skip
  rename_i i a q
  match ds, zs0, p with
  | [y], zs, p =>
    obtain ⟨w, rfl, zw⟩ := zs.one
    unfold dAppend at p
    simp only at p
    cases e : lstAt h i with
    | none => rw [e] at p; exact p.elim
    | some xs =>
      rw [e] at p
      simp only at p
      obtain ⟨us, hv, zu⟩ := lstAt_ok r q e
      by_cases hl : xs.length < sizeLine
      · rw [if_pos hl] at p
        have ex := Ext.wrote (o := .lst (us ++ [w])) q hv
        exact ⟨_, us, w, rfl, rfl, hv, by rw [← zu.length]; exact hl, p ρ .non _ ex (r.wrote q hv rfl ⟨_, upd_same, (zu.append (.cons zw .nil)).mono r ex⟩) .non⟩
      · rw [if_neg hl] at p; exact p.elim
def dPop0 (d : D) (ds : List D) (h : HS) : R D := match d, ds with
  | .ref i, [] => match lstAt h i with
    | some xs => match xs[xs.length - 1]? with
      | some y => .ok y (h.set i (.lst xs.dropLast))
      | none => .bad
    | none => .bad
  | _, _ => .bad
theorem DVs.dropLast {K : PySem.W.Frag} {ρ : List Addr} {H : Hp} {ds : List D} {vs : List V} (z : DVs K ρ H ds vs) : DVs K ρ H ds.dropLast vs.dropLast := by
  rw [List.dropLast_eq_take, List.dropLast_eq_take, z.length]
  exact z.take _
theorem s_pop0 {K : PySem.W.Frag} : MtS K dPop0 rPop := by
  intro ρ h H d v ds vs W Q r z zs0 p
  cases z <;> first | exact p.elim | skip
  rename_i i a q
  match ds, zs0, p with
  | [], zs, p =>
    cases zs
    cases zs0
    unfold dPop0 at p
    simp only at p
    cases e : lstAt h i with
    | none => rw [e] at p; exact p.elim
    | some xs =>
      rw [e] at p
      simp only at p
      obtain ⟨us, hv, zu⟩ := lstAt_ok r q e
      cases e2 : xs[xs.length - 1]? with
      | none => rw [e2] at p; exact p.elim
      | some y =>
        rw [e2] at p
        obtain ⟨w, ew, zw⟩ := zu.get e2
        have ex := Ext.wrote (o := .lst us.dropLast) q hv
        exact ⟨_, us, w, rfl, rfl, hv, by rw [← zu.length]; exact ew, p ρ w _ ex (r.wrote q hv rfl ⟨_, upd_same, zu.dropLast.mono r ex⟩) (zw.mono r ex)⟩
def dExtend (d : D) (ds : List D) (h : HS) : R D := match d, ds with
  | .ref i, [.ref j] => match lstAt h i, lstAt h j with
    | some xs, some ys => if xs.length + ys.length ≤ sizeLine then .ok .non (h.set i (.lst (xs ++ ys))) else .bad
    | _, _ => .bad
  | _, _ => .bad
theorem s_extend {K : PySem.W.Frag} : MtS K dExtend rExtend := by
  intro ρ h H d v ds vs W Q r z zs0 p
  cases z <;> first | exact p.elim | skip
  rename_i i a q
  match ds, zs0, p with
  | [.ref j], zs, p =>
    obtain ⟨w, rfl, zw⟩ := zs.one
    cases zw with
    | ref q2 =>
      unfold dExtend at p
      simp only at p
      cases e : lstAt h i with
      | none => rw [e] at p; exact p.elim
      | some xs =>
        cases e2 : lstAt h j with
        | none => rw [e, e2] at p; exact p.elim
        | some ys =>
          rw [e, e2] at p
          simp only at p
          obtain ⟨us, hv, zu⟩ := lstAt_ok r q e
          obtain ⟨ws, hw, zw⟩ := lstAt_ok r q2 e2
          by_cases hl : xs.length + ys.length ≤ sizeLine
          · rw [if_pos hl] at p
            have ex := Ext.wrote (o := .lst (us ++ ws)) q hv
            exact ⟨_, _, us, ws, rfl, rfl, hv, hw, by rw [← zu.length, ← zw.length]; exact hl, p ρ .non _ ex (r.wrote q hv rfl ⟨_, upd_same, (zu.append zw).mono r ex⟩) .non⟩
          · rw [if_neg hl] at p; exact p.elim

/-! ### dict displays -/
abbrev FPs := List (FE × FE)
def mPairs : List (FE × FE) → Sl → HS → R (List (Key × D))
  | [], _, h => .ok [] h
  | (mk, mv) :: r, σ, h => (mk σ h).bind fun k h1 => (mv σ h1).bind fun v h2 => match keyD k with
    | some k => (mPairs r σ h2).bind fun ps h3 => .ok ((k, v) :: ps) h3
    | none => .bad
def mergeD (kvs more : List (Key × D)) : List (Key × D) := more.foldl (fun acc kv => setK acc kv.1 kv.2) kvs
def mDict0 : FE := fun _ h => .ok (.ref h.length) (h ++ [.dK []])
/-- the new dict is numbered when it is done -/
def mDict (prs : List (FE × FE)) : FE := fun σ h => (mPairs prs σ h).bind fun ps h1 => if ps.length ≤ 15 then .ok (.ref h1.length) (h1 ++ [.dK (mergeD [] ps)]) else .bad
section
variable {X : Cx} {W : WX} {pos : Pos}
theorem g_dict0 : GE X W (.Dict [] [] pos) mDict0 := pe_mono pe_dnewK fun σ H Q ⟨ρ, σh, h, r, s, p⟩ => post_dK r Paired.nil p
theorem KDs.merge {K : PySem.W.Frag} {ρ : List Addr} {H : Hp} {ms : List (Key × D)} {ns : List (Key × V)} (q : KDs Key K ρ H ms ns) : ∀ {ks : List (Key × D)} {vs : List (Key × V)}, KDs Key K ρ H ks vs → KDs Key K ρ H (mergeD ks ms) (mergeK vs ns) := by
  unfold KDs at q
  induction q with
  | nil => intro ks vs z; exact z
  | @cons p q ps qs z _ ih =>
    intro ks vs w
    show KDs Key K ρ H (mergeD (setK ks p.1 p.2) ps) (mergeK (putK vs q.1 q.2) qs)
    rw [← z.1]
    exact ih (KDs.put w p.1 z.2)
/-- the pairs, beside a new dict at a that is not numbered yet -/
def PP (K : PySem.W.Frag) (ρ0 : List Addr) (H0 : Hp) (a : Addr) (W : XK) (Q : List (V × V) → Hp → Prop) : R (List (Key × D)) → Prop
  | .bad => False
  | .ok ps h2 => ∀ ρ' H' vs, Rep K ρ' h2 H' → KDs Key K ρ' H' ps vs → H' a = some (.dK []) → a ∉ ρ' → Ext ρ0 H0 ρ' H' → Q (vs.map fun (kv : Key × V) => (kV kv.1, kv.2)) H'
  | .ex x h2 => ∀ ρ' dx H', Ext ρ0 H0 ρ' H' → Rep K ρ' h2 H' → XRep K ρ' H' x dx → W (.ref x.cls) dx H'
theorem pairs_ok {K : PySem.W.Frag} {a : Addr} {σ : L2.St} {σh : Sl} : ∀ (prs : List (FE × FE)) (ρ : List Addr) (h : HS) (H : Hp) (Q : List (V × V) → Hp → Prop), Rep K ρ h H → RepS K ρ H σh σ → H a = some (.dK []) → a ∉ ρ →
    PP K ρ H a (fun c d H' => W c d σ H') Q (mPairs prs σh h) → tPairs (prs.map fun p => (lE K W p.1, lE K W p.2)) σ H Q
  | [], ρ, h, H, Q, r, s, ha, hn, p => p ρ H [] r .nil ha hn .refl
  | (mk, mv) :: prs, ρ, h, H, Q, r, s, ha, hn, p => by
    have off : ∀ {ρ1 : List Addr} {H1 : Hp} {ρ : List Addr} {H : Hp}, H a = some (.dK []) → a ∉ ρ → Ext ρ H ρ1 H1 → H1 a = some (.dK []) ∧ a ∉ ρ1 := fun {ρ1 H1 ρ H} ha hn e => by
      refine ⟨e.keep a _ ha hn, fun z => ?_⟩
      obtain ⟨x, rfl, hx⟩ := e.pre
      rcases List.mem_append.mp z with z | z
      · exact hn z
      · rw [hx a z] at ha; cases ha
    have p : PP K ρ H a (fun c d H' => W c d σ H') Q ((mk σh h).bind fun k h1 => (mv σh h1).bind fun v h2 => match keyD k with
      | some k => (mPairs prs σh h2).bind fun ps h3 => .ok ((k, v) :: ps) h3
      | none => .bad) := p
    refine ⟨ρ, σh, h, r, s, ?_⟩
    show Post K ρ H (DV K) _ _ (mk σh h)
    cases g1 : mk σh h with
    | bad => rw [g1] at p; exact p
    | ex x h1 => rw [g1] at p; exact fun ρ' dx H' e r' z => p ρ' dx H' e r' z
    | ok k h1 =>
      rw [g1] at p
      intro ρ1 kv H1 e1 r1 z1
      obtain ⟨ha1, hn1⟩ := off ha hn e1
      refine ⟨ρ1, σh, h1, r1, s.mono r e1, ?_⟩
      show Post K ρ1 H1 (DV K) _ _ (mv σh h1)
      simp only [R.bind] at p
      cases g2 : mv σh h1 with
      | bad => rw [g2] at p; exact p
      | ex x h2 => rw [g2] at p; exact fun ρ' dx H' e r' z => p ρ' dx H' (e1.trans e r'.nd) r' z
      | ok v h2 =>
        rw [g2] at p
        intro ρ2 vv H2 e2 r2 z2
        obtain ⟨ha2, hn2⟩ := off ha1 hn1 e2
        have e02 := e1.trans e2 r2.nd
        simp only at p
        cases ek : keyD k with
        | none => rw [ek] at p; exact p.elim
        | some kk =>
          rw [ek] at p
          simp only at p
          have s2 := (s.mono r e1).mono r1 e2
          refine pairs_ok prs ρ2 h2 H2 _ r2 s2 ha2 hn2 ?_
          cases g3 : mPairs prs σh h2 with
          | bad => rw [g3] at p; exact p
          | ex x h3 => rw [g3] at p; exact fun ρ' dx H' e r' z => p ρ' dx H' (e02.trans e r'.nd) r' z
          | ok ps h3 =>
            rw [g3] at p
            intro ρ3 H3 vs r3 zv ha3 hn3 e23
            have zk := keyD_rel z1 ek
            subst zk
            exact p ρ3 H3 ((kk, vv) :: vs) r3 (.cons ⟨rfl, z2.mono r2 e23⟩ zv) ha3 hn3 (e02.trans e23 r3.nd)
/-- a thing that stands beside is numbered -/
theorem Rep.adopt {K : PySem.W.Frag} {ρ : List Addr} {h : HS} {H : Hp} {a : Addr} {o : HO} {m : MO} (r : Rep K ρ h H) (nD : a ∉ ρ) (kp : Kp ρ H (ρ ++ [a]) (upd H a o)) (q : RepO K (ρ ++ [a]) (upd H a o) a m) : Rep K (ρ ++ [a]) (h ++ [m]) (upd H a o) := by
  have hix : (ρ ++ [a])[h.length]? = some a := by rw [← r.len]; simp
  refine ⟨by simp [r.len], List.nodup_append.mpr ⟨r.nd, by simp, fun b hb c hc => by rw [List.mem_singleton.mp hc]; rintro rfl; exact nD hb⟩, fun j u b ea eb => ?_⟩
  by_cases hj : j < h.length
  · rw [List.getElem?_append_left hj] at ea
    rw [List.getElem?_append_left (by rw [r.len]; exact hj)] at eb
    exact (r.obj j u b ea eb).kp kp (upd_ne fun z => nD (by rw [← z]; exact List.mem_of_getElem? eb))
  · have hl : j < (h ++ [m]).length := (List.getElem?_eq_some_iff.mp ea).1
    have ej : j = h.length := by rw [List.length_append] at hl; simp at hl; omega
    subst ej
    rw [List.getElem?_append_right (Nat.le_refl _), Nat.sub_self] at ea
    rw [hix] at eb
    cases eb
    simp at ea
    subst ea
    exact q
theorem g_dict {keys : List (Option Expr)} {values : List Expr} {prs : List (FE × FE)} (h : PPs X pos keys values (prs.map fun p => (lE X.K W p.1, lE X.K W p.2))) (hall : keys.all (·.isSome) = true := by rfl) (hl : keys.length = values.length := by rfl) (h0 : keys ≠ [] := by simp)
    (h15 : keys.length ≤ 15 := by decide) : GE X W (.Dict keys values pos) (mDict prs) :=
  pe_mono (pe_disp h hall hl h0 h15) fun σ H Q ⟨ρ, σh, hh, r, s, p⟩ => fun a ha => by
    have r' := r.laid (o := .dK []) ha
    have na : a ∉ ρ := fun z => by
      obtain ⟨_, _, _, _, w⟩ := r.mem z
      obtain ⟨u, eu, _⟩ := w.some
      rw [ha] at eu; cases eu
    have p : Post X.K ρ H (DV X.K) (fun c d H' => W c d σ H') Q ((mPairs prs σh hh).bind fun ps h1 => if ps.length ≤ 15 then .ok (.ref h1.length) (h1 ++ [.dK (mergeD [] ps)]) else .bad) := p
    have e0 : Ext ρ H ρ (upd H a (.dK [])) := .laid ha
    refine pairs_ok prs ρ hh _ _ r' (s.mono r e0) upd_same na ?_
    cases g1 : mPairs prs σh hh with
    | bad => rw [g1] at p; exact p
    | ex x h1 => rw [g1] at p; exact fun ρ' dx H' e r' z => p ρ' dx H' (e0.trans e r'.nd) r' z
    | ok ps h1 =>
      rw [g1] at p
      simp only [R.bind] at p
      intro ρ1 H1 vs r1 zv ha1 hn1 e01
      by_cases c : ps.length ≤ 15
      · rw [if_pos c] at p
        have e01 := e0.trans e01 r1.nd
        have kp : Kp ρ1 H1 (ρ1 ++ [a]) (upd H1 a (.dK (mergeK [] vs))) := by
          have k1 : Kp ρ1 H1 ρ1 (upd H1 a (.dK (mergeK [] vs))) := .upd1 ha1 (fun _ z => by cases z) (fun _ _ z => by cases z) (fun _ _ z => by cases z)
          exact ⟨fun j b q => by rw [List.getElem?_append_left (List.getElem?_eq_some_iff.mp q).1]; exact q, k1.tup, k1.frt, k1.frl⟩
        refine ⟨ha1, vs, rfl, by rw [← zv.length]; exact c, p (ρ1 ++ [a]) _ _ ⟨?_, fun b o hb hn => ?_, fun b o u hb => ?_⟩ (r1.adopt hn1 kp ⟨_, upd_same, (KDs.merge zv Paired.nil).kp kp⟩) (.ref (by rw [← r1.len]; simp))⟩
        · obtain ⟨x, rfl, hx⟩ := e01.pre
          refine ⟨x ++ [a], by rw [List.append_assoc], fun b hb => ?_⟩
          rcases List.mem_append.mp hb with z | z
          · exact hx b z
          · rw [List.mem_singleton.mp z]; exact ha
        · rw [upd_ne (ne_of_none hb ha)]; exact e01.keep b o hb hn
        · rw [upd_ne (ne_of_none hb ha)]; exact e01.frz b o u hb
      · rw [if_neg c] at p; exact p.elim
theorem gp_nil : PPs X pos [] [] (([] : List (FE × FE)).map fun p => (lE X.K W p.1, lE X.K W p.2)) := pps_nil
theorem gp_cons {k v : Expr} {ks : List (Option Expr)} {vs : List Expr} {mk mv : FE} {prs : List (FE × FE)} (hk : GE X W k mk) (hv : GE X W v mv) (hr : PPs X pos ks vs (prs.map fun p => (lE X.K W p.1, lE X.K W p.2))) :
    PPs X pos (some k :: ks) (v :: vs) (((mk, mv) :: prs).map fun p => (lE X.K W p.1, lE X.K W p.2)) := pps_cons hk hv hr
end
end FL

set_option Elab.async false
set_option linter.all false
set_option maxRecDepth 100000
/-! FL, part g: defs, methods, classes of one's own; the law's end. -/
namespace FL
open PySem PySem.Spec PyProof.Rows L2

def spF (K : PySem.W.Frag) (n : Nat) (g : List D → HS → R D) : Sp := fun vs H Q E => ∃ ρ h ds, Rep K ρ h H ∧ DVs K ρ H ds vs ∧ vs.length = n ∧ Post K ρ H (DV K) E Q (g ds h)
/-- a def by its name, as a function of data -/
structure FD (P : Program) (w : World) (K : PySem.W.Frag) (mg : Str → Option Value) (base : Heap) (k : Nat) (x : Str) (n : Nat) (g : List D → HS → R D) : Prop where
  ex : ∃ (f : Addr) (fd : FuncData) (ps : List Str), FnOk P w K mg base (L2.CX P w) k f fd ps (spF K n g) ∧ mg x = some (.ref f) ∧ PySem.W.keepIn K (.ref f) = true ∧ Binds K fd ps []
/-- a method -/
structure MD (P : Program) (w : World) (K : PySem.W.Frag) (mg : Str → Option Value) (base : Heap) (k : Nat) (C : Addr) (m : Str) (n : Nat) (g : List D → HS → R D) : Prop where
  cls : Cls K C
  ex : ∃ (f : Addr) (fd : FuncData) (ps : List Str), FnOk P w K mg base (L2.CX P w) k f fd ps (spF K n g) ∧ Meth K C m f ∧ Binds K fd ps []
/-- a class that is made by its __init__ -/
structure CD (P : Program) (w : World) (K : PySem.W.Frag) (mg : Str → Option Value) (base : Heap) (k : Nat) (x : Str) (C : Addr) (n : Nat) (g : List D → HS → R D) : Prop where
  at_ : mg x = some (.ref C)
  ex : ∃ (f : Addr) (fd : FuncData) (ps : List Str), FnOk P w K mg base (L2.CX P w) k f fd ps (spF K n g) ∧ Mk K C f ∧ Binds K fd ps []
section
variable {X : Cx} {W : WX} {pos p apos : Pos} {x m : Str} {e o : Expr} {es : List Expr} {mo : FE} {ma : FA} {g : List D → HS → R D} {j k n : Nat} {C : Addr}
theorem call_ok {σ : L2.St} {H : Hp} {Q : VK} (hn : ∀ ds h, ∀ b, g ds h = b → True) {ρ : List Addr} {h : HS} {ds : List D} {vs : List V} (r : Rep X.K ρ h H) (z : DVs X.K ρ H ds vs) (hl : vs.length = n) (p : Post X.K ρ H (DV X.K) (fun c d H' => W c d σ H') Q (g ds h)) :
    spF X.K n g vs H Q (WE W σ) := ⟨ρ, h, ds, r, z, hl, p⟩
/-- a call with as many arguments as the def has parameters -/
def mCallF (n : Nat) (g : List D → HS → R D) (ma : FA) : FE := fun σ h => (ma σ h).bind fun ds h1 => if ds.length = n then g ds h1 else .bad
theorem lCallF {K : PySem.W.Frag} (σ : L2.St) (H : Hp) (Q : VK) (q : lE K W (mCallF n g ma) σ H Q) : tCallS (spF K n g) (WE W) (lA K W ma) σ H Q := by
  obtain ⟨ρ, σh, h, rr, s, p⟩ := q
  refine ⟨ρ, σh, h, rr, s, Post.of_bind p fun ds h1 ρ1 vs H1 e1 r1 z1 p1 => ?_⟩
  by_cases c : ds.length = n
  · rw [if_pos c] at p1; exact ⟨ρ1, h1, ds, r1, z1, by rw [← z1.length]; exact c, p1⟩
  · rw [if_neg c] at p1; exact p1.elim
theorem g_call (F : FD X.prog X.w X.K X.mg X.base k x n g) (c : CK X W j) (hk : k ≤ j) (ha : GA X W (e :: es) ma) (hg : Gl X x := by rfl) (hdb : (x == ("__debug__" : Str)) = false := by decide)
    (he : starEach (e :: es) X.env = (false, eval e X.env) :: starEach es X.env := by rfl) (hpl : (backTo pos (starEach es X.env)).any (·.1) = false := by rfl) : GE X W (.Call (.Name x p) (e :: es) [] pos) (mCallF n g ma) := by
  obtain ⟨f, fd, ps, F, hm, hk2, hb⟩ := F.ex
  exact pe_mono (pe_callS F (c.hr.mono hk) hg hm hk2 hb (fun σ => passAt c.tk σ) ha hdb he hpl) lCallF
theorem g_call0 (F : FD X.prog X.w X.K X.mg X.base k x n g) (c : CK X W j) (hk : k ≤ j) (hg : Gl X x := by rfl) (hdb : (x == ("__debug__" : Str)) = false := by decide) : GE X W (.Call (.Name x p) [] [] pos) (mCallF n g mNil) := by
  obtain ⟨f, fd, ps, F, hm, hk2, hb⟩ := F.ex
  refine pe_mono (t := tCallS (spF X.K n g) (WE W) tNil) ⟨fun pins s σ H Q I h => ?_⟩ fun σ H Q q => ?_
  · refine wpAny_Call_Name_kw (ld_glob I hg hm ?_ hdb)
    exact PySem.W.callWith_K0 I.kIn hk2 (run_fnS (us := []) (vs := []) (E := WE W) F (c.hr.mono hk) hb (passAt c.tk σ) I .nil h)
  · obtain ⟨ρ, σh, h, rr, s, p⟩ := q
    show spF X.K n g [] H Q (WE W σ)
    simp only [mCallF, mNil, R.bind] at p
    by_cases c : ([] : List D).length = n
    · rw [if_pos c] at p; exact ⟨ρ, h, [], rr, .nil, c, p⟩
    · rw [if_neg c] at p; exact p.elim
def tMethS (C : Addr) (m : Str) (sp : Sp) (E : L2.St → XK) (ta : TE) (t : TA) : TE := fun σ H Q => ta σ H fun x H1 => ∃ a dx fs, x = .ref a ∧ H1 a = some (.ins C dx fs) ∧ fs.lookup m = none ∧
  t σ H1 fun vs H2 => sp (x :: vs) H2 Q (E σ)
def mMeth (C : Addr) (m : Str) (n : Nat) (g : List D → HS → R D) (mo : FE) (ma : FA) : FE := fun σ h => (mo σ h).bind fun d h1 => match insD [C] h1 d with
  | some (_, _, fs) => if (fs.lookup m).isNone = true then (ma σ h1).bind fun ds h2 => if ds.length + 1 = n then g (d :: ds) h2 else .bad else .bad
  | none => .bad
theorem lMeth {K : PySem.W.Frag} (σ : L2.St) (H : Hp) (Q : VK) (q : lE K W (mMeth C m n g mo ma) σ H Q) : tMethS C m (spF K n g) (WE W) (lE K W mo) (lA K W ma) σ H Q := by
  obtain ⟨ρ, σh, h, rr, s, p⟩ := q
  refine ⟨ρ, σh, h, rr, s, Post.of_bind p fun d h1 ρ1 v H1 e1 r1 z1 p1 => ?_⟩
  cases q : insD [C] h1 d with
  | none => rw [q] at p1; exact p1.elim
  | some t =>
    obtain ⟨i, C', fs⟩ := t
    rw [q] at p1
    simp only at p1
    obtain ⟨ad, dx, vs, rfl, rfl, _, _, hc, hv, zs⟩ := insD_ok r1 z1 q
    have ec : C' = C := by simpa using hc
    subst ec
    by_cases hl : (fs.lookup m).isNone = true
    · rw [if_pos hl] at p1
      refine ⟨ad, dx, vs, rfl, hv, (FDs.look zs m).2 (Option.isNone_iff_eq_none.mp hl), ρ1, σh, h1, r1, s.mono rr e1, Post.of_bind p1 fun ds h2 ρ2 vs2 H2 e2 r2 z2 p2 => ?_⟩
      by_cases c : ds.length + 1 = n
      · rw [if_pos c] at p2; exact ⟨ρ2, h2, _, r2, .cons (z1.mono r1 e2) z2, by rw [List.length_cons, ← z2.length]; exact c, p2⟩
      · rw [if_neg c] at p2; exact p2.elim
    · rw [if_neg hl] at p1; exact p1.elim
theorem g_meth {pl : Sem Bool} (F : MD X.prog X.w X.K X.mg X.base k C m n g) (c : CK X W j) (hk : k ≤ j) (ho : GE X W o mo) (ha : GA X W (e :: es) ma)
    (hst : starEach (e :: es) X.env = (false, eval e X.env) :: starEach es X.env := by rfl) (hpl : (backTo pos (starEach es X.env)).any (·.1) = false := by rfl)
    (ht : eval (.Call (.Attribute o m apos) (e :: es) [] pos) X.env = (do
      let ov ← eval o X.env
      standAt apos.atName
      let (f, first) ← holding [ov] (getMethod ov m pl)
      callWith pos f first (backTo pos (starEach (e :: es) X.env)) (backToKw pos (keywordEach [] X.env))) := by rfl) : GE X W (.Call (.Attribute o m apos) (e :: es) [] pos) (mMeth C m n g mo ma) := by
  obtain ⟨f, fd, ps, Fn, hm, hb⟩ := F.ex
  refine pe_mono (t := tMethS C m (spF X.K n g) (WE W) (lE X.K W mo) (lA X.K W ma)) ⟨fun pins s σ H Q I h => ?_⟩ lMeth
  refine PySem.W.methodCall_KW (pl := pl) (thn (PE.run ho pins s σ H _ I h) fun u s1 ⟨x, H1, I1, rx, a, dx, fs, ex, ea, l, q⟩ => ?_) ht
  subst ex
  obtain rfl : u = Value.ref a := rx
  refine getmeth_ok I1 ea F.cls hm l ?_
  refine PySem.W.callWith_K (first := [.ref a]) (h₀ := X.base) I.ok.mod.kin hm.kp (thn (PA.run ha pos pins s1 σ H1 _ I1 q) fun us s2 ⟨vs, H2, I2, r, q2⟩ => ⟨I2.kIn, ?_⟩) hst hpl
  exact run_fnS (us := .ref a :: us) (vs := .ref a :: vs) (E := WE W) Fn (c.hr.mono hk) hb (passAt c.tk σ) I2 (.cons rfl r) q2
theorem g_meth0 {pl : Sem Bool} (F : MD X.prog X.w X.K X.mg X.base k C m n g) (c : CK X W j) (hk : k ≤ j) (ho : GE X W o mo)
    (ht : eval (.Call (.Attribute o m apos) [] [] pos) X.env = (do
      let ov ← eval o X.env
      standAt apos.atName
      let (f, first) ← holding [ov] (getMethod ov m pl)
      callWith pos f first (backTo pos (starEach [] X.env)) (backToKw pos (keywordEach [] X.env))) := by rfl) : GE X W (.Call (.Attribute o m apos) [] [] pos) (mMeth C m n g mo mNil) := by
  obtain ⟨f, fd, ps, Fn, hm, hb⟩ := F.ex
  refine pe_mono (t := tMethS C m (spF X.K n g) (WE W) (lE X.K W mo) (lA X.K W mNil)) ⟨fun pins s σ H Q I h => ?_⟩ lMeth
  refine PySem.W.methodCall_KW (pl := pl) (thn (PE.run ho pins s σ H _ I h) fun u s1 ⟨x, H1, I1, rx, a, dx, fs, ex, ea, l, q⟩ => ?_) ht
  subst ex
  obtain rfl : u = Value.ref a := rx
  refine getmeth_ok I1 ea F.cls hm l ?_
  have q : spF X.K n g [.ref a] H1 Q (WE W σ) := by
    obtain ⟨ρ, σh, h, rr, s, p⟩ := q
    exact p.use rr .nil
  exact PySem.W.callWith_K0 (first := [.ref a]) I1.kIn hm.kp (run_fnS (us := [.ref a]) (vs := [.ref a]) (E := WE W) Fn (c.hr.mono hk) hb (passAt c.tk σ) I1 (.cons rfl .nil) q)
/-- C(..) -/
def mMake (C : Addr) (n : Nat) (g : List D → HS → R D) (ma : FA) : FE := fun σ h => (ma σ h).bind fun ds h1 => if ds.length + 1 = n then (g (.ref h1.length :: ds) (h1 ++ [.ins C []])).bind fun v h2 => match v with
  | .non => .ok (.ref h1.length) h2
  | _ => .bad
  else .bad
theorem make_ok {K : PySem.W.Frag} {ρ : List Addr} {h : HS} {H : Hp} {ds : List D} {vs : List V} {W : XK} {Q : VK} (r : Rep K ρ h H) (z : DVs K ρ H ds vs) (hl : ds.length + 1 = n)
    (p : Post K ρ H (DV K) W Q ((g (.ref h.length :: ds) (h ++ [.ins C []])).bind fun v h2 => match v with
      | .non => .ok (.ref h.length) h2
      | _ => .bad)) : ∀ x dx, H x = none → H dx = none → dx ≠ x → spF K n g (.ref x :: vs) (upd (upd H dx (.own x)) x (.ins C dx [])) (fun v H2 => v = .non ∧ Q (.ref x) H2) W := by
  intro x dx hx hdx hne
  have e1 : Ext ρ H ρ (upd H dx (.own x)) := .laid hdx
  have r1 := r.laid (o := .own x) hdx
  have hx1 : (upd H dx (.own x)) x = none := by rw [upd_ne (Ne.symm hne)]; exact hx
  have e2 : Ext ρ (upd H dx (.own x)) (ρ ++ [x]) (upd (upd H dx (.own x)) x (.ins C dx [])) := .push hx1
  have r2 := r1.push (m := .ins C []) hx1 (o := .ins C dx []) ⟨dx, [], upd_same, .nil⟩
  have e12 := e1.trans e2 r2.nd
  refine ⟨ρ ++ [x], h ++ [.ins C []], .ref h.length :: ds, r2, .cons (.ref (by rw [← r.len]; simp)) (z.mono r e12), by rw [List.length_cons, ← z.length]; exact hl, ?_⟩
  refine Post.of_bind (Post.ext e12 p) fun v h2 ρ2 u H2 e3 r3 zv p3 => ?_
  cases zv <;> first | exact p3.elim | skip
  exact ⟨rfl, p3.use r3 (.ref (e3.ix (by rw [← r.len]; simp)))⟩
def tMakeS (C : Addr) (sp : Sp) (E : L2.St → XK) (t : TA) : TE := fun σ H Q => t σ H fun vs H1 => ∀ x dx, H1 x = none → H1 dx = none → dx ≠ x →
  sp (.ref x :: vs) (upd (upd H1 dx (.own x)) x (.ins C dx [])) (fun v H2 => v = .non ∧ Q (.ref x) H2) (E σ)
theorem lMake {K : PySem.W.Frag} (σ : L2.St) (H : Hp) (Q : VK) (q : lE K W (mMake C n g ma) σ H Q) : tMakeS C (spF K n g) (WE W) (lA K W ma) σ H Q := by
  obtain ⟨ρ, σh, h, rr, s, p⟩ := q
  refine ⟨ρ, σh, h, rr, s, Post.of_bind p fun ds h1 ρ1 vs H1 e1 r1 z1 p1 => ?_⟩
  by_cases c : ds.length + 1 = n
  · rw [if_pos c] at p1; exact make_ok r1 z1 c p1
  · rw [if_neg c] at p1; exact p1.elim
theorem run_makeS {CX : CXT} {f : Addr} {fd : FuncData} {ps : List Str} {sp : Sp} {E : XK} {pins : List (Addr × Obj)} {σ : L2.St} {H : Hp} {s : Shared} {Q : VK} {us : List Value} {vs : List V} (M : Mk X.K C f) (F : FnOk X.prog X.w X.K X.mg X.base CX k f fd ps sp) (hr : Room (k + 1) X.A) (hb : Binds X.K fd ps [])
    (hx : PassesAt CX X σ E) (I : Inv X pins σ H s) (r : Vals vs us)
    (h : ∀ x dx, H x = none → H dx = none → dx ≠ x → sp (.ref x :: vs) (upd (upd H dx (.own x)) x (.ins C dx [])) (fun v H2 => v = .non ∧ Q (.ref x) H2) E) :
    wpAny (model X.prog X.w) X.A (call (.ref C) us) (EP X pins σ Q) X.xe s := by
  have hq := h (s.heap.objs.size + 1) s.heap.objs.size (I.hok.fresh (Nat.le_succ _)) (I.hok.fresh (Nat.le_refl _)) (Nat.ne_of_lt (Nat.lt_succ_self _))
  have I2 := Inv.made (C := C) I
  have r2 : Vals (V.ref (s.heap.objs.size + 1) :: vs) (Value.ref (s.heap.objs.size + 1) :: us) := .cons rfl r
  have hl : (Value.ref (s.heap.objs.size + 1) :: us).length = ps.length := by
    have e := r2.length
    rw [F.len _ _ _ _ hq] at e
    exact e.symm
  have b := hb _ (Value.ref (s.heap.objs.size + 1) :: us) I2.kIn (by rw [List.append_nil]; exact hl)
  rw [List.append_nil] at b
  refine wpAny_call (make_map (f := f) I.kIn M.makes M.init (beq_iff_eq.mp M.fn) (codeAny_mono (F.run _ X.stack _ _ ⟨Value.ref (s.heap.objs.size + 1) :: us, []⟩ (Value.ref (s.heap.objs.size + 1) :: us) _ _ E (hr.make C us [])
    (I2.env0.make C us []) b r2 hq) fun r s' hq' => ?_))
  cases r with
  | error e => exact hx pins _ _ e s' I2 hq'
  | ok fl =>
    cases fl with
    | ret u =>
      obtain ⟨v, H', I3, rv, ev, q3⟩ := I2.after hq'
      subst ev
      exact ⟨rv, ⟨V.ref (s.heap.objs.size + 1), H', I3, rfl, q3⟩⟩
    | next => exact False.elim hq'
    | brk => exact False.elim hq'
    | cont => exact False.elim hq'
theorem g_make (F : CD X.prog X.w X.K X.mg X.base k x C n g) (c : CK X W j) (hk : k + 1 ≤ j) (ha : GA X W (e :: es) ma) (hg : Gl X x := by rfl) (hdb : (x == ("__debug__" : Str)) = false := by decide)
    (he : starEach (e :: es) X.env = (false, eval e X.env) :: starEach es X.env := by rfl) (hpl : (backTo pos (starEach es X.env)).any (·.1) = false := by rfl) : GE X W (.Call (.Name x p) (e :: es) [] pos) (mMake C n g ma) := by
  obtain ⟨f, fd, ps, Fn, M, hb⟩ := F.ex
  refine pe_mono (t := tMakeS C (spF X.K n g) (WE W) (lA X.K W ma)) ⟨fun pins s σ H Q I h => ?_⟩ lMake
  refine wpAny_Call_Name_kw (ld_glob I hg F.at_ ?_ hdb)
  refine PySem.W.callWith_K (h₀ := X.base) I.ok.mod.kin M.kp (thn (PA.run ha pos pins s σ H _ I h) fun us s1 ⟨vs, H1, I1, r, q⟩ => ⟨I1.kIn, ?_⟩) he hpl
  exact run_makeS M Fn (c.hr.mono hk) hb (passAt c.tk σ) I1 r q
theorem g_make0 (F : CD X.prog X.w X.K X.mg X.base k x C n g) (c : CK X W j) (hk : k + 1 ≤ j) (hg : Gl X x := by rfl) (hdb : (x == ("__debug__" : Str)) = false := by decide) : GE X W (.Call (.Name x p) [] [] pos) (mMake C n g mNil) := by
  obtain ⟨f, fd, ps, Fn, M, hb⟩ := F.ex
  refine pe_mono (t := tMakeS C (spF X.K n g) (WE W) (lA X.K W mNil)) ⟨fun pins s σ H Q I h => ?_⟩ lMake
  refine wpAny_Call_Name_kw (ld_glob I hg F.at_ ?_ hdb)
  obtain ⟨ρ, σh, hh, rr, s', p⟩ := h
  exact PySem.W.callWith_K0 I.kIn M.kp (run_makeS (us := []) (vs := []) M Fn (c.hr.mono hk) hb (passAt c.tk σ) I .nil (p.use rr .nil))
end

/-! ### a def's own rule -/
def runB (N : Nat) (m : FS) : List D → HS → R D := fun ds h => match m (ds.map some ++ List.replicate (N - ds.length) none) h with
  | .nx _ h' => .ok .non h'
  | .rt d h' => .ok d h'
  | .ex x _ h' => .ex x h'
  | _ => .bad
section
variable {P : Program} {w : World} {K : PySem.W.Frag} {mg : Str → Option Value} {base : Heap}
abbrev WD (E : XK) : WX := fun c d _ H => E c d H
theorem start_rep {ρ : List Addr} {H : Hp} {N : List Str} {ds : List D} {vs : List V} (z : DVs K ρ H ds vs) : RepS K ρ H (ds.map some ++ List.replicate (N.length - ds.length) none) (L2.start N vs) := by
  refine ⟨by unfold L2.start; rw [List.length_append, List.length_append, List.length_map, List.length_map, List.length_replicate, List.length_replicate, z.length], fun i d hd => ?_⟩
  by_cases hi : i < ds.length
  · rw [List.getElem?_append_left (by simpa using hi), List.getElem?_map] at hd
    obtain ⟨d', e1, e2⟩ := Option.map_eq_some_iff.mp hd
    cases e2
    obtain ⟨v, ev, zv⟩ := z.get e1
    refine ⟨v, ?_, zv⟩
    unfold L2.start
    rw [List.getElem?_append_left (by rw [List.length_map, ← z.length]; exact hi), List.getElem?_map, ev]
    rfl
  · rw [List.getElem?_append_right (by simpa using hi), List.getElem?_replicate] at hd
    split at hd <;> cases hd
theorem fn_ok {x qual : Str} {st : Stmt} {f : Addr} {fd : FuncData} {N ps : List Str} {k : Nat} {m : FS} (F : Fun K x qual st f fd) (S : FnScope N ps (defScope st))
    (hbody : ∀ (cdv : Value) (A : Around) (outer : List Env) (s : Shared) (H : Hp) (E : XK), CK (cxOf (L2.CX P w) P w K mg base N qual (defScope st) f cdv A outer s H E) (WD E) k →
      GSs (cxOf (L2.CX P w) P w K mg base N qual (defScope st) f cdv A outer s H E) (WD E) (defBody st) m) : FnOk P w K mg base (L2.CX P w) (k + 1) f fd ps (spF K ps.length (runB N.length m)) := by
  refine F.okX S (fun vs H Q E h => ?_) (fun cdv A outer s H vs Q E hr h => ?_)
  · obtain ⟨_, _, _, _, _, hl, _⟩ := h; exact hl
  · obtain ⟨ρ, hh, ds, r, z, hl, p⟩ := h
    have C : CK (cxOf (L2.CX P w) P w K mg base N qual (defScope st) f cdv A outer s H E) (WD E) k := ⟨rfl, S.nd, takes_of rfl rfl rfl rfl, passes_of rfl, hr⟩
    refine ⟨_, hbody cdv A outer s H E C, ρ, _, hh, r, start_rep z, ?_⟩
    show PostS K ρ H (WD E) _ (m (ds.map some ++ List.replicate (N.length - ds.length) none) hh)
    unfold runB at p
    cases q : m (ds.map some ++ List.replicate (N.length - ds.length) none) hh with
    | bad => rw [q] at p; exact p
    | nx σ' h' => rw [q] at p; exact fun ρ' σ' H' e r' s' => p ρ' .non H' e r' .non
    | rt d h' => rw [q] at p; exact p
    | bk => rw [q] at p; exact p.elim
    | ct => rw [q] at p; exact p.elim
    | ex x σ' h' => rw [q] at p; exact fun ρ' dx σ' H' e r' s' z' => p ρ' dx H' e r' z'
theorem fn_imp {k : Nat} {f : Addr} {fd : FuncData} {ps : List Str} {n : Nat} {g g' : List D → HS → R D} (F : FnOk P w K mg base (L2.CX P w) k f fd ps (spF K n g)) (h : ∀ ds hh, ds.length = n → g' ds hh ≠ .bad → g ds hh = g' ds hh) : FnOk P w K mg base (L2.CX P w) k f fd ps (spF K n g') :=
  F.imp fun vs H Q E ⟨ρ, hh, ds, r, z, hl, p⟩ => ⟨ρ, hh, ds, r, z, hl, by
    rw [h ds hh (by rw [z.length]; exact hl) (fun e => by rw [e] at p; exact p)]; exact p⟩
end

/-! ### the law's end -/
theorem law_hsp {K : PySem.W.Frag} {g : List D → HS → R D} {P : List Int → Prop} (hg : ∀ ns : List Int, P ns → ∃ h', g [.cst (ns.map D.int)] [] = .ok (.bl true) h') (H : Hp) (a : Addr) (ns : List Int) (hp : P ns) (hO : Only H) (hS : SqL K H a (ns.map V.int)) :
    spF K 1 g [.ref a] H (fun v _ => v = .bl true) fun _ _ _ => False := by
  obtain ⟨h', e⟩ := hg ns hp
  have c : CsL K H a (ns.map V.int) := by
    rcases hS with (h | ⟨o, h⟩) | h
    · rcases hO a with z | ⟨o, xs, z⟩
      · rw [h] at z; cases z
      · rw [h] at z; cases z
    · exact .inl ⟨o, h⟩
    · exact .inr h
  refine ⟨[], [], [.cst (ns.map D.int)], ⟨rfl, List.nodup_nil, fun i o a e => by simp at e⟩, .cons (.cst c (DVs.ints ns)) .nil, rfl, ?_⟩
  rw [e]
  intro ρ' v H' _ _ z
  cases z
  rfl
theorem law_CX {P : Program} {w : World} {H : Hp} {s : Shared} {e : Value} {s' : Shared} (h : L2.CX P w [] H s (fun _ _ _ => False) e s') : False := by
  obtain ⟨_, _, _, _, _, _, _, _, _, _, _, _, z⟩ := h
  exact z.elim
end FL

set_option Elab.async false
set_option linter.all false
set_option maxRecDepth 100000
/-! FL, part h: further operations. -/
namespace FL
open PySem PySem.Spec PyProof.Rows L2
/-! ### += -/
def dIAdd : D → D → HS → R D
  | .int i, .int j, h => .ok (.int (i + j)) h
  | .str i, .str j, h => if i.length + j.length ≤ sizeLine then .ok (.str (i ++ j)) h else .bad
  | .ref a, .ref b, h => match lstAt h a, lstAt h b with
    | some x, some y => if x.length + y.length ≤ sizeLine then .ok (.ref a) (h.set a (.lst (x ++ y))) else .bad
    | _, _ => .bad
  | _, _, _ => .bad
def rIAdd : R2 := fun x y H Q => rAddI x y H Q ∨ (rAddS x y H Q ∨ rExt2 x y H Q)
theorem o_iadd {X : Cx} : OpR X (inplaceOp .Add) rIAdd := OpR.or iop_add (OpR.or iop_add_str iop_ext)
theorem s_iadd {K : PySem.W.Frag} : OpS K dIAdd rIAdd := by
  intro ρ h H d1 d2 x y W Q r z1 z2 p
  cases z1 <;> cases z2 <;> first | exact p.elim | skip
  · exact .inl ⟨_, _, rfl, rfl, p.use r (.int _)⟩
  · rename_i i j
    by_cases c : i.length + j.length ≤ sizeLine
    · simp only [dIAdd, if_pos c] at p; exact .inr (.inl ⟨_, _, rfl, rfl, c, p.use r (.str _)⟩)
    · simp only [dIAdd, if_neg c] at p; exact p.elim
  · rename_i i a q1 j b q2
    unfold dIAdd at p
    simp only at p
    cases e : lstAt h i with
    | none => rw [e] at p; exact p.elim
    | some xs =>
      cases e2 : lstAt h j with
      | none => rw [e, e2] at p; exact p.elim
      | some ys =>
        rw [e, e2] at p
        simp only at p
        obtain ⟨us, hv, zu⟩ := lstAt_ok r q1 e
        obtain ⟨ws, hw, zw⟩ := lstAt_ok r q2 e2
        by_cases hl : xs.length + ys.length ≤ sizeLine
        · rw [if_pos hl] at p
          have ex := Ext.wrote (o := .lst (us ++ ws)) q1 hv
          exact .inr (.inr ⟨_, _, us, ws, rfl, rfl, hv, hw, by rw [← zu.length, ← zw.length]; exact hl, p ρ _ _ ex (r.wrote q1 hv rfl ⟨_, upd_same, (zu.append zw).mono r ex⟩) (.ref q1)⟩)
        · rw [if_neg hl] at p; exact p.elim
end FL

set_option Elab.async false
set_option linter.all false
set_option maxRecDepth 100000
/-! FL, part i: reading what a def does as a weakest condition. -/
namespace FL
open PySem PySem.Spec PyProof.Rows L2

abbrev XP := XV → HS → Prop
abbrev X0 : XP := fun _ _ => False
/-- it comes to a value that P wants, or raises as X wants -/
def wpR0 {α : Type} (m : R α) (P : α → HS → Prop) (X : XP) : Prop := match m with
  | .ok a h => P a h
  | .ex x h => X x h
  | .bad => False
/-- what is wanted behind a statement -/
structure Tl where
  rt : D → HS → Prop
  bk : Sl → HS → Prop
  ct : Sl → HS → Prop
  ex : XV → Sl → HS → Prop
def wpS0 (m : RS) (N : Sl → HS → Prop) (T : Tl) : Prop := match m with
  | .bad => False
  | .nx σ h => N σ h
  | .rt d h => T.rt d h
  | .bk σ h => T.bk σ h
  | .ct σ h => T.ct σ h
  | .ex x σ h => T.ex x σ h
/-- a return and an exception are wanted -/
abbrev Tl.ret (Q : D → HS → Prop) (X : XP) : Tl := ⟨Q, fun _ _ => False, fun _ _ => False, fun x _ h => X x h⟩
section
variable {α β : Type} {m : R α} {P P' : α → HS → Prop} {X X' : XP} {N N' : Sl → HS → Prop} {T : Tl} {σ : Sl} {h : HS}
theorem wqR_ok {a : α} : wpR0 (.ok a h) P X ↔ P a h := Iff.rfl
theorem wqR_bad : wpR0 (.bad : R α) P X ↔ False := Iff.rfl
theorem wqR_ex {x : XV} : wpR0 (.ex x h : R α) P X ↔ X x h := Iff.rfl
theorem wqR_mono (w : wpR0 m P X) (k : ∀ a h, P a h → P' a h) : wpR0 m P' X := by
  cases m with
  | ok a h => exact k _ _ w
  | bad => exact w
  | ex => exact w
theorem wqR_monoX (w : wpR0 m P X) (k : ∀ a h, P a h → P' a h) (kx : ∀ x h, X x h → X' x h) : wpR0 m P' X' := by
  cases m with
  | ok a h => exact k _ _ w
  | bad => exact w
  | ex => exact kx _ _ w
theorem wqR_elim (w : wpR0 m P X0) : ∃ a h, m = .ok a h ∧ P a h := by
  cases m with
  | ok a h => exact ⟨a, h, rfl, w⟩
  | bad => exact w.elim
  | ex => exact w.elim
theorem wqR_bind {f : α → HS → R β} {Q : β → HS → Prop} : wpR0 (m.bind f) Q X ↔ wpR0 m (fun a h => wpR0 (f a h) Q X) X := by
  cases m <;> exact Iff.rfl
theorem wqR_ite {c : Prop} [Decidable c] {a b : R α} : wpR0 (if c then a else b) P X ↔ if c then wpR0 a P X else wpR0 b P X := by split <;> exact Iff.rfl
theorem wqS_on {k : α → HS → RS} : wpS0 (m.on σ k) N T ↔ wpR0 m (fun a h => wpS0 (k a h) N T) (fun x h => T.ex x σ h) := by
  cases m <;> exact Iff.rfl
theorem wqS_nx : wpS0 (.nx σ h) N T ↔ N σ h := Iff.rfl
theorem wqS_rt {d : D} : wpS0 (.rt d h) N T ↔ T.rt d h := Iff.rfl
theorem wqS_ite {c : Prop} [Decidable c] {a b : RS} : wpS0 (if c then a else b) N T ↔ if c then wpS0 a N T else wpS0 b N T := by split <;> exact Iff.rfl
theorem wqS_mono {s : RS} (w : wpS0 s N T) (k : ∀ σ h, N σ h → N' σ h) : wpS0 s N' T := by
  cases s with
  | nx σ h => exact k _ _ w
  | _ => exact w

/-! ### statements -/
variable {u v : FS} {e ma mb : FE} {t tb : FT} {g : FG} {it : FI} {XE : XP}
theorem wq_skip : wpS0 (mSkip σ h) N T ↔ N σ h := Iff.rfl
theorem wq_seq : wpS0 (mSeq u v σ h) N T ↔ wpS0 (u σ h) (fun σ h => wpS0 (v σ h) N T) T := by
  unfold mSeq
  cases u σ h <;> exact Iff.rfl
theorem wq_drop : wpS0 (mDrop e σ h) N T ↔ wpR0 (e σ h) (fun _ h => N σ h) (fun x h => T.ex x σ h) := wqS_on
theorem wq_ret : wpS0 (mRet e σ h) N T ↔ wpR0 (e σ h) T.rt (fun x h => T.ex x σ h) := wqS_on
theorem wq_retN : wpS0 (mRetN σ h) N T ↔ T.rt .non h := Iff.rfl
theorem wq_brk : wpS0 (mBrk σ h) N T ↔ T.bk σ h := Iff.rfl
theorem wq_cnt : wpS0 (mCnt σ h) N T ↔ T.ct σ h := Iff.rfl
theorem wq_if : wpS0 (mIfS t u v σ h) N T ↔ wpR0 (t σ h) (fun c h => if c = true then wpS0 (u σ h) N T else wpS0 (v σ h) N T) (fun x h => T.ex x σ h) := by
  unfold mIfS
  rw [wqS_on]
  simp only [wqS_ite]
theorem wq_asg : wpS0 (mAsg e g σ h) N T ↔ wpR0 (e σ h) (fun d h => wpR0 (g d σ h) N (fun x h => T.ex x σ h)) (fun x h => T.ex x σ h) := by
  unfold mAsg
  rw [wqS_on]
  simp only [wqS_on]
  exact Iff.rfl
theorem wq_to {i : Nat} {d : D} {P : Sl → HS → Prop} : wpR0 (mTo i d σ h) P X ↔ P (σ.set i (some d)) h := Iff.rfl
theorem wq_tos {is : List Nat} {d : D} {P : Sl → HS → Prop} : wpR0 (mTos is d σ h) P X ↔ match d with
  | .tup ds => match setAll is ds σ with
    | some σ' => P σ' h
    | none => False
  | _ => False := by
  unfold mTos
  cases d <;> first | exact Iff.rfl | skip
  rename_i ds
  simp only
  cases setAll is ds σ <;> exact Iff.rfl
theorem wq_toIx {mo mi : FE} {d : D} {P : Sl → HS → Prop} : wpR0 (mToIx mo mi d σ h) P X ↔ wpR0 (mo σ h) (fun o h => wpR0 (mi σ h) (fun i h => match dSet o i d h with
  | some h => P σ h
  | none => False) X) X := by
  unfold mToIx
  rw [wqR_bind]
  simp only [wqR_bind]
  refine iff_of_eq (congrArg (fun f => wpR0 (mo σ h) f X) (funext fun o => funext fun h => congrArg (fun f => wpR0 (mi σ h) f X) (funext fun i => funext fun h => ?_)))
  cases dSet o i d h <;> rfl
theorem wq_aug {i : Nat} {f : D → D → HS → R D} : wpS0 (mAug i f e σ h) N T ↔ match σ[i]? with
  | some (some d) => wpR0 (e σ h) (fun y h => wpR0 (f d y h) (fun z h => N (σ.set i (some z)) h) (fun x h => T.ex x σ h)) (fun x h => T.ex x σ h)
  | _ => False := by
  unfold mAug
  rcases σ[i]? with _ | _ | d
  · exact Iff.rfl
  · exact Iff.rfl
  · simp only
    rw [wqS_on]
    simp only [wqS_on]
    exact Iff.rfl
theorem wq_augK {mo mi : FE} {f : D → D → HS → R D} : wpS0 (mAugK mo mi f e σ h) N T ↔ wpR0 (mo σ h) (fun o h => wpR0 (mi σ h) (fun i h => match dictD h o, keyD i with
  | some kvs, some k => match getK kvs k with
    | some d => wpR0 (e σ h) (fun y h => wpR0 (f d y h) (fun z h => match dSetK o i z h with
      | some h => N σ h
      | none => False) (fun x h => T.ex x σ h)) (fun x h => T.ex x σ h)
    | none => False
  | _, _ => False) (fun x h => T.ex x σ h)) (fun x h => T.ex x σ h) := by
  unfold mAugK
  rw [wqS_on]
  simp only [wqS_on]
  refine iff_of_eq (congrArg (fun f => wpR0 (mo σ h) f _) (funext fun o => funext fun h => congrArg (fun f => wpR0 (mi σ h) f _) (funext fun i => funext fun h => ?_)))
  cases dictD h o with
  | none => rfl
  | some kvs =>
    cases keyD i with
    | none => rfl
    | some k =>
      simp only
      cases getK kvs k with
      | none => rfl
      | some d =>
        simp only [wqS_on]
        refine congrArg (fun f => wpR0 (e σ h) f _) (funext fun y => funext fun h => congrArg (fun f => wpR0 _ f _) (funext fun z => funext fun h => ?_))
        cases dSetK o i z h <;> rfl
theorem wq_fldSet {Cs : List Addr} {f : Str} {mo : FE} : wpS0 (mFldSet Cs f mo e σ h) N T ↔ wpR0 (e σ h) (fun y h => wpR0 (mo σ h) (fun o h => match insD Cs h o with
  | some (i, C, fs) => if fs.length < 1000 then N σ (h.set i (.ins C (putA f y fs))) else False
  | none => False) (fun x h => T.ex x σ h)) (fun x h => T.ex x σ h) := by
  unfold mFldSet
  rw [wqS_on]
  simp only [wqS_on]
  refine iff_of_eq (congrArg (fun f => wpR0 (e σ h) f _) (funext fun y => funext fun h => congrArg (fun f => wpR0 (mo σ h) f _) (funext fun o => funext fun h => ?_)))
  cases insD Cs h o with
  | none => rfl
  | some t =>
    obtain ⟨i, C, fs⟩ := t
    simp only
    split <;> rfl
theorem wq_fldAug {Cs : List Addr} {f : Str} {mo : FE} {g : D → D → HS → R D} : wpS0 (mFldAug Cs f mo g e σ h) N T ↔ wpR0 (mo σ h) (fun o h => match insD Cs h o with
  | some (i, C, fs) => match fs.lookup f with
    | some d => wpR0 (e σ h) (fun y h => wpR0 (g d y h) (fun z h => match insD [C] h o with
      | some (_, _, fs') => if fs'.length < 1000 then N σ (h.set i (.ins C (putA f z fs'))) else False
      | none => False) (fun x h => T.ex x σ h)) (fun x h => T.ex x σ h)
    | none => False
  | none => False) (fun x h => T.ex x σ h) := by
  unfold mFldAug
  rw [wqS_on]
  refine iff_of_eq (congrArg (fun f => wpR0 (mo σ h) f _) (funext fun o => funext fun h => ?_))
  cases insD Cs h o with
  | none => rfl
  | some t =>
    obtain ⟨i, C, fs⟩ := t
    simp only
    cases fs.lookup f with
    | none => rfl
    | some d =>
      simp only [wqS_on]
      refine congrArg (fun f => wpR0 (e σ h) f _) (funext fun y => funext fun h => congrArg (fun f => wpR0 _ f _) (funext fun z => funext fun h => ?_))
      cases insD [C] h o with
      | none => rfl
      | some t =>
        obtain ⟨j, C', fs'⟩ := t
        simp only
        split <;> rfl

/-! ### expressions -/
theorem wq_var {i : Nat} {P : D → HS → Prop} : wpR0 (mVar i σ h) P X ↔ match σ[i]? with
  | some (some d) => P d h
  | _ => False := by
  unfold mVar
  rcases σ[i]? with _ | _ | d <;> exact Iff.rfl
theorem wq_c {d : D} {P : D → HS → Prop} : wpR0 (mC d σ h) P X ↔ P d h := Iff.rfl
theorem wq_op {f : D → D → HS → R D} {P : D → HS → Prop} : wpR0 (mOp f ma mb σ h) P X ↔ wpR0 (ma σ h) (fun x h => wpR0 (mb σ h) (fun y h => wpR0 (f x y h) P X) X) X := by
  unfold mOp
  rw [wqR_bind]
  simp only [wqR_bind]
theorem wq_un {f : D → HS → R D} {P : D → HS → Prop} : wpR0 (mUn f ma σ h) P X ↔ wpR0 (ma σ h) (fun x h => wpR0 (f x h) P X) X := wqR_bind
theorem wq_nil {P : List D → HS → Prop} : wpR0 (mNil σ h) P X ↔ P [] h := Iff.rfl
theorem wq_cons {mr : FA} {P : List D → HS → Prop} : wpR0 (mCons ma mr σ h) P X ↔ wpR0 (ma σ h) (fun x h => wpR0 (mr σ h) (fun xs h => P (x :: xs) h) X) X := by
  unfold mCons
  rw [wqR_bind]
  simp only [wqR_bind]
  exact Iff.rfl
theorem wq_tup {mr : FA} {P : D → HS → Prop} : wpR0 (mTup mr σ h) P X ↔ wpR0 (mr σ h) (fun xs h => if xs.length ≤ sizeLine then P (.tup xs) h else False) X := by
  unfold mTup
  rw [wqR_bind]
  simp only [wqR_ite]
  exact Iff.rfl
theorem wq_lst {mr : FA} {P : D → HS → Prop} : wpR0 (mLst mr σ h) P X ↔ wpR0 (mr σ h) (fun xs h => if xs.length ≤ sizeLine then P (.ref h.length) (h ++ [.lst xs]) else False) X := by
  unfold mLst
  rw [wqR_bind]
  simp only [wqR_ite]
  exact Iff.rfl
theorem wq_dict0 {P : D → HS → Prop} : wpR0 (mDict0 σ h) P X ↔ P (.ref h.length) (h ++ [.dK []]) := Iff.rfl
theorem wq_dict {prs : List (FE × FE)} {P : D → HS → Prop} : wpR0 (mDict prs σ h) P X ↔ wpR0 (mPairs prs σ h) (fun ps h => if ps.length ≤ 15 then P (.ref h.length) (h ++ [.dK (mergeD [] ps)]) else False) X := by
  unfold mDict
  rw [wqR_bind]
  simp only [wqR_ite]
  exact Iff.rfl
theorem wq_pairs0 {P : List (Key × D) → HS → Prop} : wpR0 (mPairs [] σ h) P X ↔ P [] h := Iff.rfl
theorem wq_pairs {mk mv : FE} {r : List (FE × FE)} {P : List (Key × D) → HS → Prop} : wpR0 (mPairs ((mk, mv) :: r) σ h) P X ↔ wpR0 (mk σ h) (fun k h => wpR0 (mv σ h) (fun v h => match keyD k with
  | some k => wpR0 (mPairs r σ h) (fun ps h => P ((k, v) :: ps) h) X
  | none => False) X) X := by
  show wpR0 ((mk σ h).bind fun k h1 => (mv σ h1).bind fun v h2 => match keyD k with
    | some k => (mPairs r σ h2).bind fun ps h3 => .ok ((k, v) :: ps) h3
    | none => .bad) P X ↔ _
  rw [wqR_bind]
  simp only [wqR_bind]
  refine iff_of_eq (congrArg (fun f => wpR0 (mk σ h) f _) (funext fun o => funext fun h => congrArg (fun f => wpR0 (mv σ h) f _) (funext fun i => funext fun h => ?_)))
  cases keyD o with
  | none => rfl
  | some k => simp only [wqR_bind]; rfl
theorem wq_call {f : List D → HS → R D} {mr : FA} {P : D → HS → Prop} : wpR0 (mCall f mr σ h) P X ↔ wpR0 (mr σ h) (fun xs h => wpR0 (f xs h) P X) X := wqR_bind
theorem wq_callF {n : Nat} {f : List D → HS → R D} {mr : FA} {P : D → HS → Prop} : wpR0 (mCallF n f mr σ h) P X ↔ wpR0 (mr σ h) (fun xs h => if xs.length = n then wpR0 (f xs h) P X else False) X := by
  unfold mCallF
  rw [wqR_bind]
  simp only [wqR_ite]
  exact Iff.rfl
theorem wq_tru {P : Bool → HS → Prop} : wpR0 (mTru e σ h) P X ↔ wpR0 (e σ h) (fun d h => match truB h d with
  | some b => P b h
  | none => False) X := by
  unfold mTru
  rw [wqR_bind]
  refine iff_of_eq (congrArg (fun f => wpR0 (e σ h) f X) (funext fun d => funext fun h => ?_))
  cases truB h d <;> rfl
theorem wq_bl {P : Bool → HS → Prop} : wpR0 (mBl e σ h) P X ↔ wpR0 (e σ h) (fun d h => match d with
  | .bl b => P b h
  | _ => False) X := by
  unfold mBl
  rw [wqR_bind]
  refine iff_of_eq (congrArg (fun f => wpR0 (e σ h) f X) (funext fun d => funext fun h => ?_))
  cases d <;> rfl
theorem wq_and {P : Bool → HS → Prop} : wpR0 (mAnd t tb σ h) P X ↔ wpR0 (t σ h) (fun c h => if c = true then wpR0 (tb σ h) P X else P false h) X := by
  unfold mAnd
  rw [wqR_bind]
  simp only [wqR_ite]
  exact Iff.rfl
theorem wq_or {P : Bool → HS → Prop} : wpR0 (mOr t tb σ h) P X ↔ wpR0 (t σ h) (fun c h => if c = true then P true h else wpR0 (tb σ h) P X) X := by
  unfold mOr
  rw [wqR_bind]
  simp only [wqR_ite]
  exact Iff.rfl
theorem wq_not {P : Bool → HS → Prop} : wpR0 (mNot t σ h) P X ↔ wpR0 (t σ h) (fun c h => P (!c) h) X := wqR_bind
theorem wq_andV {P : D → HS → Prop} : wpR0 (mAndV ma mb σ h) P X ↔ wpR0 (ma σ h) (fun d h => match d with
  | .bl b => if b = true then wpR0 (mb σ h) P X else P (.bl false) h
  | _ => False) X := by
  unfold mAndV
  rw [wqR_bind]
  refine iff_of_eq (congrArg (fun f => wpR0 (ma σ h) f X) (funext fun d => funext fun h => ?_))
  cases d <;> first | rfl | skip
  rename_i b
  cases b
  · simp [wpR0]
  · simp
theorem wq_orV {P : D → HS → Prop} : wpR0 (mOrV ma mb σ h) P X ↔ wpR0 (ma σ h) (fun d h => match d with
  | .bl b => if b = true then P (.bl true) h else wpR0 (mb σ h) P X
  | _ => False) X := by
  unfold mOrV
  rw [wqR_bind]
  refine iff_of_eq (congrArg (fun f => wpR0 (ma σ h) f X) (funext fun d => funext fun h => ?_))
  cases d <;> first | rfl | skip
  rename_i b
  cases b
  · simp
  · simp [wpR0]
theorem wq_notV {P : D → HS → Prop} : wpR0 (mNotV ma σ h) P X ↔ wpR0 (ma σ h) (fun d h => match d with
  | .bl b => P (.bl !b) h
  | _ => False) X := by
  unfold mNotV
  rw [wqR_bind]
  refine iff_of_eq (congrArg (fun f => wpR0 (ma σ h) f X) (funext fun d => funext fun h => ?_))
  cases d <;> rfl
theorem wq_part {P : Option Int → HS → Prop} : wpR0 (mPart e σ h) P X ↔ wpR0 (e σ h) (fun d h => match d with
  | .int i => P (some i) h
  | _ => False) X := by
  unfold mPart
  rw [wqR_bind]
  refine iff_of_eq (congrArg (fun f => wpR0 (e σ h) f X) (funext fun d => funext fun h => ?_))
  cases d <;> rfl
theorem wq_noPart {P : Option Int → HS → Prop} : wpR0 (mNoPart σ h) P X ↔ P none h := Iff.rfl
theorem wq_sl {ml mh : FO} {P : D → HS → Prop} : wpR0 (mSl e ml mh σ h) P X ↔ wpR0 (e σ h) (fun x h => wpR0 (ml σ h) (fun l h => wpR0 (mh σ h) (fun u h => wpR0 (dSl x l u h) P X) X) X) X := by
  unfold mSl
  rw [wqR_bind]
  simp only [wqR_bind]
theorem wq_bm {S : String} {f : D → List D → HS → R D} {mr : FA} {P : D → HS → Prop} : wpR0 (mBM S f e mr σ h) P X ↔ wpR0 (e σ h) (fun d h => if tyMD S h d = true then wpR0 (mr σ h) (fun xs h => wpR0 (f d xs h) P X) X else False) X := by
  unfold mBM
  rw [wqR_bind]
  simp only [wqR_ite, wqR_bind]
  exact Iff.rfl
theorem wq_ifE {P : D → HS → Prop} : wpR0 (mIf t ma mb σ h) P X ↔ wpR0 (t σ h) (fun c h => if c = true then wpR0 (ma σ h) P X else wpR0 (mb σ h) P X) X := by
  unfold mIf
  rw [wqR_bind]
  simp only [wqR_ite]
theorem wq_fld {Cs : List Addr} {f : Str} {P : D → HS → Prop} : wpR0 (mFld Cs f e σ h) P X ↔ wpR0 (e σ h) (fun d h => match insD Cs h d with
  | some (_, _, fs) => match fs.lookup f with
    | some v => P v h
    | none => False
  | none => False) X := by
  unfold mFld
  rw [wqR_bind]
  refine iff_of_eq (congrArg (fun f => wpR0 (e σ h) f X) (funext fun d => funext fun h => ?_))
  cases insD Cs h d with
  | none => rfl
  | some t =>
    obtain ⟨i, C, fs⟩ := t
    simp only
    cases fs.lookup f <;> rfl
theorem wq_meth {C : Addr} {mn : Str} {n : Nat} {f : List D → HS → R D} {mr : FA} {P : D → HS → Prop} : wpR0 (mMeth C mn n f e mr σ h) P X ↔ wpR0 (e σ h) (fun d h => match insD [C] h d with
  | some (_, _, fs) => if (fs.lookup mn).isNone = true then wpR0 (mr σ h) (fun xs h => if xs.length + 1 = n then wpR0 (f (d :: xs) h) P X else False) X else False
  | none => False) X := by
  unfold mMeth
  rw [wqR_bind]
  refine iff_of_eq (congrArg (fun f => wpR0 (e σ h) f X) (funext fun d => funext fun h => ?_))
  cases insD [C] h d with
  | none => rfl
  | some t =>
    obtain ⟨i, C, fs⟩ := t
    simp only [wqR_ite, wqR_bind]
    rfl
theorem wq_make {C : Addr} {n : Nat} {f : List D → HS → R D} {mr : FA} {P : D → HS → Prop} : wpR0 (mMake C n f mr σ h) P X ↔ wpR0 (mr σ h) (fun xs h => if xs.length + 1 = n then wpR0 (f (.ref h.length :: xs) (h ++ [.ins C []])) (fun v h2 => match v with
  | .non => P (.ref h.length) h2
  | _ => False) X else False) X := by
  unfold mMake
  rw [wqR_bind]
  refine iff_of_eq (congrArg (fun f => wpR0 (mr σ h) f X) (funext fun d => funext fun h => ?_))
  by_cases q : d.length + 1 = n
  · rw [if_pos q, if_pos q, wqR_bind]
    refine congrArg (fun f => wpR0 _ f X) (funext fun v => funext fun h => ?_)
    cases v <;> rfl
  · rw [if_neg q, if_neg q]; rfl
theorem wq_lockE {i : Nat} {P : D → HS → Prop} : wpR0 (mLockE i e σ h) P X ↔ match σ[i]? with
  | some (some (.ref a)) => match h[a]? with
    | some (.dK kvs) => wpR0 (e σ (h.set a (.fdK kvs))) (fun d h' => P d (h'.set a (.dK kvs))) X0
    | _ => False
  | _ => False := by
  unfold mLockE
  rcases σ[i]? with _ | _ | d
  · exact Iff.rfl
  · exact Iff.rfl
  · cases d <;> first | exact Iff.rfl | skip
    rename_i a
    simp only
    rcases h[a]? with _ | o
    · exact Iff.rfl
    · cases o <;> first | exact Iff.rfl | skip
      rename_i kvs
      simp only
      cases e σ (h.set a (.fdK kvs)) <;> exact Iff.rfl
/-! ### a def -/
theorem wq_runB {n : Nat} {m : FS} {ds : List D} {Q : D → HS → Prop} : wpR0 (runB n m ds h) Q X ↔ wpS0 (m (ds.map some ++ List.replicate (n - ds.length) none) h) (fun _ h => Q .non h) (.ret Q X) := by
  unfold runB
  cases q : m (ds.map some ++ List.replicate (n - ds.length) none) h <;> exact Iff.rfl

/-! ### loops -/
theorem wq_forE : wpS0 (mFor it g u σ h) N T ↔ wpR0 (it σ h) (fun J h => wpS0 (forL g u J J.n 0 σ h) N T) (fun x h => T.ex x σ h) := wqS_on
theorem wq_rng1 {ma : FA} {P : ItD → HS → Prop} : wpR0 (mRange1 ma σ h) P X ↔ wpR0 (ma σ h) (fun ds h => match ds with
  | [.int j] => if -(2 ^ 62) ≤ j ∧ j < 2 ^ 62 then P (itRange 0 j.toNat) h else False
  | _ => False) X := by
  unfold mRange1
  rw [wqR_bind]
  refine iff_of_eq (congrArg (fun f => wpR0 (ma σ h) f X) (funext fun ds => funext fun h => ?_))
  split
  · rw [wqR_ite]; rfl
  · rename_i q
    first
      | rfl
      | (show False = _
         split
         · exact (q _ rfl).elim
         · rfl)
theorem wq_rng2 {ma : FA} {P : ItD → HS → Prop} : wpR0 (mRange2 ma σ h) P X ↔ wpR0 (ma σ h) (fun ds h => match ds with
  | [.int i, .int j] => if -(2 ^ 62) ≤ i ∧ i < 2 ^ 62 ∧ -(2 ^ 62) ≤ j ∧ j < 2 ^ 62 then P (itRange i (j - i).toNat) h else False
  | _ => False) X := by
  unfold mRange2
  rw [wqR_bind]
  refine iff_of_eq (congrArg (fun f => wpR0 (ma σ h) f X) (funext fun ds => funext fun h => ?_))
  split
  · rw [wqR_ite]; rfl
  · rename_i q
    first
      | rfl
      | (show False = _
         split
         · exact (q _ _ rfl).elim
         · rfl)
theorem wq_seqI {P : ItD → HS → Prop} : wpR0 (mSeqI e σ h) P X ↔ wpR0 (e σ h) (fun d h => wpR0 (itSeq d h) P X) X := wqR_bind
theorem wq_forL (J : ItD) (I : Nat → Sl → HS → Prop) (h0 : I 0 σ h)
    (step : ∀ j σ h, I j σ h → j < J.n → ∃ d, J.get j h = some d ∧ wpR0 (g d σ h) (fun σ h => wpS0 (u σ h) (I (j + 1)) { T with ct := I (j + 1), bk := N }) (fun x h => T.ex x σ h))
    (fin : ∀ σ h, I J.n σ h → J.fin h = true ∧ N σ h) : wpS0 (forL g u J J.n 0 σ h) N T := by
  have go : ∀ n j σ h, j + n = J.n → I j σ h → wpS0 (forL g u J n j σ h) N T := by
    intro n
    induction n with
    | zero =>
      intro j σ h e i
      have : j = J.n := by omega
      subst this
      obtain ⟨f1, f2⟩ := fin σ h i
      unfold forL
      rw [if_pos f1]
      exact f2
    | succ n ih =>
      intro j σ h e i
      obtain ⟨d, e1, w⟩ := step j σ h i (by omega)
      unfold forL
      rw [e1]
      refine wqS_on.mpr (wqR_mono w fun σ1 h1 w1 => ?_)
      cases q : u σ1 h1 with
      | nx σ2 h2 => rw [q] at w1; exact ih (j + 1) σ2 h2 (by omega) w1
      | ct σ2 h2 => rw [q] at w1; exact ih (j + 1) σ2 h2 (by omega) w1
      | bk σ2 h2 => rw [q] at w1; exact w1
      | rt d h2 => rw [q] at w1; exact w1
      | ex x σ2 h2 => rw [q] at w1; exact w1
      | bad => rw [q] at w1; exact w1
  exact go J.n 0 σ h (by omega) h0
/-- while, by an invariant and a number that falls -/
theorem wq_while (I : Sl → HS → Prop) (μ : Sl → HS → Nat) (h0 : I σ h)
    (step : ∀ σ h, I σ h → wpR0 (t σ h) (fun c h1 => if c = true then wpS0 (u σ h1) (fun σ' h' => I σ' h' ∧ μ σ' h' < μ σ h) { T with ct := fun σ' h' => I σ' h' ∧ μ σ' h' < μ σ h, bk := N } else N σ h1) (fun x h => T.ex x σ h)) : wpS0 (mWhile t u σ h) N T := by
  have go : ∀ n σ h, μ σ h < n → I σ h → wpS0 (mWhile t u σ h) N T := by
    intro n
    induction n with
    | zero => intro σ h hl; omega
    | succ n ih =>
      intro σ h hl i
      rw [mWhile_eq]
      refine wqS_on.mpr (wqR_mono (step σ h i) fun c h1 w => ?_)
      cases c with
      | false => exact w
      | true =>
        simp only [if_true] at w ⊢
        cases q : u σ h1 with
        | nx σ2 h2 => rw [q] at w; exact ih σ2 h2 (by have := w.2; omega) w.1
        | ct σ2 h2 => rw [q] at w; exact ih σ2 h2 (by have := w.2; omega) w.1
        | bk σ2 h2 => rw [q] at w; exact w
        | rt d h2 => rw [q] at w; exact w
        | ex x σ2 h2 => rw [q] at w; exact w
        | bad => rw [q] at w; exact w
  exact go _ σ h (Nat.lt_succ_self _) h0
/-- a comprehension -/
theorem wq_lcE {tg : Tgt} {tt : FT} {te : FE} {vs : List Nat} {P : D → HS → Prop} : wpR0 (mLc it tg tt te vs σ h) P X ↔ wpR0 (it σ h) (fun J h => wpR0 (lcL tg tt te J (wipeD σ vs) J.n 0 [] h) (fun ds h => P (.ref h.length) (h ++ [.lst ds])) X) X := by
  unfold mLc
  rw [wqR_bind]
  simp only [wqR_bind]
  exact Iff.rfl
theorem wq_lcL {tg : Tgt} {tt : FT} {te : FE} {P : List D → HS → Prop} (J : ItD) (I : Nat → List D → HS → Prop) (h0 : I 0 [] h)
    (step : ∀ j acc h, I j acc h → j < J.n → ∃ d, J.get j h = some d ∧ wpR0 (tg.m d σ h) (fun σ h => wpR0 (tt σ h) (fun b h => if b = true then wpR0 (te σ h) (fun y h => acc.length < sizeLine ∧ I (j + 1) (acc ++ [y]) h) X0 else I (j + 1) acc h) X0) X0)
    (fin : ∀ acc h, I J.n acc h → J.fin h = true ∧ P acc h) : wpR0 (lcL tg tt te J σ J.n 0 [] h) P X := by
  have go : ∀ n j acc h, j + n = J.n → I j acc h → wpR0 (lcL tg tt te J σ n j acc h) P X := by
    intro n
    induction n with
    | zero =>
      intro j acc h e i
      have : j = J.n := by omega
      subst this
      obtain ⟨f1, f2⟩ := fin acc h i
      unfold lcL
      rw [if_pos f1]
      exact f2
    | succ n ih =>
      intro j acc h e i
      obtain ⟨d, e1, w⟩ := step j acc h i (by omega)
      unfold lcL
      rw [e1]
      simp only
      obtain ⟨σ1, h1, q1, w⟩ := wqR_elim w
      rw [q1]
      simp only
      obtain ⟨b, h2, q2, w⟩ := wqR_elim w
      rw [q2]
      cases b with
      | false => exact ih (j + 1) acc h2 (by omega) w
      | true =>
        simp only [if_true] at w ⊢
        obtain ⟨y, h3, q3, hl, w⟩ := wqR_elim w
        rw [q3]
        simp only
        rw [if_pos hl]
        exact ih (j + 1) _ h3 (by omega) w
  exact go J.n 0 [] h (by omega) h0
end
/-- the same, closed -/
@[irreducible] def wpR {α : Type} (m : R α) (P : α → HS → Prop) (X : XP) : Prop := wpR0 m P X
@[irreducible] def wpS (m : RS) (N : Sl → HS → Prop) (T : Tl) : Prop := wpS0 m N T
theorem wpR_eq {α : Type} : @wpR α = @wpR0 α := by
  funext m P X
  unfold wpR
  rfl
theorem wpS_eq : wpS = wpS0 := by
  funext m N T
  unfold wpS
  rfl

theorem wpR_ok {a : α} : wpR (.ok a h) P X ↔ P a h := by
  have q := @wqR_ok
  simp only [← wpR_eq, ← wpS_eq] at q
  exact q 
theorem wpR_bad : wpR (.bad : R α) P X ↔ False := by
  have q := @wqR_bad
  simp only [← wpR_eq, ← wpS_eq] at q
  exact q 
theorem wpR_ex {x : XV} : wpR (.ex x h : R α) P X ↔ X x h := by
  have q := @wqR_ex
  simp only [← wpR_eq, ← wpS_eq] at q
  exact q 
theorem wpR_mono (w : wpR m P X) (k : ∀ a h, P a h → P' a h) : wpR m P' X := by
  have q := @wqR_mono
  simp only [← wpR_eq, ← wpS_eq] at q
  exact q w k
theorem wpR_monoX (w : wpR m P X) (k : ∀ a h, P a h → P' a h) (kx : ∀ x h, X x h → X' x h) : wpR m P' X' := by
  have q := @wqR_monoX
  simp only [← wpR_eq, ← wpS_eq] at q
  exact q w k kx
theorem wpR_elim (w : wpR m P X0) : ∃ a h, m = .ok a h ∧ P a h := by
  have q := @wqR_elim
  simp only [← wpR_eq, ← wpS_eq] at q
  exact q w
theorem wpR_bind {f : α → HS → R β} {Q : β → HS → Prop} : wpR (m.bind f) Q X ↔ wpR m (fun a h => wpR (f a h) Q X) X := by
  have q := @wqR_bind
  simp only [← wpR_eq, ← wpS_eq] at q
  exact q 
theorem wpR_ite {c : Prop} [Decidable c] {a b : R α} : wpR (if c then a else b) P X ↔ if c then wpR a P X else wpR b P X := by
  have q := @wqR_ite
  simp only [← wpR_eq, ← wpS_eq] at q
  exact q 
theorem wpS_on {k : α → HS → RS} : wpS (m.on σ k) N T ↔ wpR m (fun a h => wpS (k a h) N T) (fun x h => T.ex x σ h) := by
  have q := @wqS_on
  simp only [← wpR_eq, ← wpS_eq] at q
  exact q 
theorem wpS_nx : wpS (.nx σ h) N T ↔ N σ h := by
  have q := @wqS_nx
  simp only [← wpR_eq, ← wpS_eq] at q
  exact q 
theorem wpS_rt {d : D} : wpS (.rt d h) N T ↔ T.rt d h := by
  have q := @wqS_rt
  simp only [← wpR_eq, ← wpS_eq] at q
  exact q 
theorem wpS_ite {c : Prop} [Decidable c] {a b : RS} : wpS (if c then a else b) N T ↔ if c then wpS a N T else wpS b N T := by
  have q := @wqS_ite
  simp only [← wpR_eq, ← wpS_eq] at q
  exact q 
theorem wpS_mono {s : RS} (w : wpS s N T) (k : ∀ σ h, N σ h → N' σ h) : wpS s N' T := by
  have q := @wqS_mono
  simp only [← wpR_eq, ← wpS_eq] at q
  exact q w k
theorem wp_skip : wpS (mSkip σ h) N T ↔ N σ h := by
  have q := @wq_skip
  simp only [← wpR_eq, ← wpS_eq] at q
  exact q 
theorem wp_seq : wpS (mSeq u v σ h) N T ↔ wpS (u σ h) (fun σ h => wpS (v σ h) N T) T := by
  have q := @wq_seq
  simp only [← wpR_eq, ← wpS_eq] at q
  exact q 
theorem wp_drop : wpS (mDrop e σ h) N T ↔ wpR (e σ h) (fun _ h => N σ h) (fun x h => T.ex x σ h) := by
  have q := @wq_drop
  simp only [← wpR_eq, ← wpS_eq] at q
  exact q 
theorem wp_ret : wpS (mRet e σ h) N T ↔ wpR (e σ h) T.rt (fun x h => T.ex x σ h) := by
  have q := @wq_ret
  simp only [← wpR_eq, ← wpS_eq] at q
  exact q 
theorem wp_retN : wpS (mRetN σ h) N T ↔ T.rt .non h := by
  have q := @wq_retN
  simp only [← wpR_eq, ← wpS_eq] at q
  exact q 
theorem wp_brk : wpS (mBrk σ h) N T ↔ T.bk σ h := by
  have q := @wq_brk
  simp only [← wpR_eq, ← wpS_eq] at q
  exact q 
theorem wp_cnt : wpS (mCnt σ h) N T ↔ T.ct σ h := by
  have q := @wq_cnt
  simp only [← wpR_eq, ← wpS_eq] at q
  exact q 
theorem wp_if : wpS (mIfS t u v σ h) N T ↔ wpR (t σ h) (fun c h => if c = true then wpS (u σ h) N T else wpS (v σ h) N T) (fun x h => T.ex x σ h) := by
  have q := @wq_if
  simp only [← wpR_eq, ← wpS_eq] at q
  exact q 
theorem wp_asg : wpS (mAsg e g σ h) N T ↔ wpR (e σ h) (fun d h => wpR (g d σ h) N (fun x h => T.ex x σ h)) (fun x h => T.ex x σ h) := by
  have q := @wq_asg
  simp only [← wpR_eq, ← wpS_eq] at q
  exact q 
theorem wp_to {i : Nat} {d : D} {P : Sl → HS → Prop} : wpR (mTo i d σ h) P X ↔ P (σ.set i (some d)) h := by
  have q := @wq_to
  simp only [← wpR_eq, ← wpS_eq] at q
  exact q 
theorem wp_tos {is : List Nat} {d : D} {P : Sl → HS → Prop} : wpR (mTos is d σ h) P X ↔ match d with
  | .tup ds => match setAll is ds σ with
    | some σ' => P σ' h
    | none => False
  | _ => False := by
  have q := @wq_tos
  simp only [← wpR_eq, ← wpS_eq] at q
  exact q 
theorem wp_toIx {mo mi : FE} {d : D} {P : Sl → HS → Prop} : wpR (mToIx mo mi d σ h) P X ↔ wpR (mo σ h) (fun o h => wpR (mi σ h) (fun i h => match dSet o i d h with
  | some h => P σ h
  | none => False) X) X := by
  have q := @wq_toIx
  simp only [← wpR_eq, ← wpS_eq] at q
  exact q 
theorem wp_aug {i : Nat} {f : D → D → HS → R D} : wpS (mAug i f e σ h) N T ↔ match σ[i]? with
  | some (some d) => wpR (e σ h) (fun y h => wpR (f d y h) (fun z h => N (σ.set i (some z)) h) (fun x h => T.ex x σ h)) (fun x h => T.ex x σ h)
  | _ => False := by
  have q := @wq_aug
  simp only [← wpR_eq, ← wpS_eq] at q
  exact q 
theorem wp_augK {mo mi : FE} {f : D → D → HS → R D} : wpS (mAugK mo mi f e σ h) N T ↔ wpR (mo σ h) (fun o h => wpR (mi σ h) (fun i h => match dictD h o, keyD i with
  | some kvs, some k => match getK kvs k with
    | some d => wpR (e σ h) (fun y h => wpR (f d y h) (fun z h => match dSetK o i z h with
      | some h => N σ h
      | none => False) (fun x h => T.ex x σ h)) (fun x h => T.ex x σ h)
    | none => False
  | _, _ => False) (fun x h => T.ex x σ h)) (fun x h => T.ex x σ h) := by
  have q := @wq_augK
  simp only [← wpR_eq, ← wpS_eq] at q
  exact q 
theorem wp_fldSet {Cs : List Addr} {f : Str} {mo : FE} : wpS (mFldSet Cs f mo e σ h) N T ↔ wpR (e σ h) (fun y h => wpR (mo σ h) (fun o h => match insD Cs h o with
  | some (i, C, fs) => if fs.length < 1000 then N σ (h.set i (.ins C (putA f y fs))) else False
  | none => False) (fun x h => T.ex x σ h)) (fun x h => T.ex x σ h) := by
  have q := @wq_fldSet
  simp only [← wpR_eq, ← wpS_eq] at q
  exact q 
theorem wp_fldAug {Cs : List Addr} {f : Str} {mo : FE} {g : D → D → HS → R D} : wpS (mFldAug Cs f mo g e σ h) N T ↔ wpR (mo σ h) (fun o h => match insD Cs h o with
  | some (i, C, fs) => match fs.lookup f with
    | some d => wpR (e σ h) (fun y h => wpR (g d y h) (fun z h => match insD [C] h o with
      | some (_, _, fs') => if fs'.length < 1000 then N σ (h.set i (.ins C (putA f z fs'))) else False
      | none => False) (fun x h => T.ex x σ h)) (fun x h => T.ex x σ h)
    | none => False
  | none => False) (fun x h => T.ex x σ h) := by
  have q := @wq_fldAug
  simp only [← wpR_eq, ← wpS_eq] at q
  exact q 
theorem wp_var {i : Nat} {P : D → HS → Prop} : wpR (mVar i σ h) P X ↔ match σ[i]? with
  | some (some d) => P d h
  | _ => False := by
  have q := @wq_var
  simp only [← wpR_eq, ← wpS_eq] at q
  exact q 
theorem wp_c {d : D} {P : D → HS → Prop} : wpR (mC d σ h) P X ↔ P d h := by
  have q := @wq_c
  simp only [← wpR_eq, ← wpS_eq] at q
  exact q 
theorem wp_op {f : D → D → HS → R D} {P : D → HS → Prop} : wpR (mOp f ma mb σ h) P X ↔ wpR (ma σ h) (fun x h => wpR (mb σ h) (fun y h => wpR (f x y h) P X) X) X := by
  have q := @wq_op
  simp only [← wpR_eq, ← wpS_eq] at q
  exact q 
theorem wp_un {f : D → HS → R D} {P : D → HS → Prop} : wpR (mUn f ma σ h) P X ↔ wpR (ma σ h) (fun x h => wpR (f x h) P X) X := by
  have q := @wq_un
  simp only [← wpR_eq, ← wpS_eq] at q
  exact q 
theorem wp_nil {P : List D → HS → Prop} : wpR (mNil σ h) P X ↔ P [] h := by
  have q := @wq_nil
  simp only [← wpR_eq, ← wpS_eq] at q
  exact q 
theorem wp_cons {mr : FA} {P : List D → HS → Prop} : wpR (mCons ma mr σ h) P X ↔ wpR (ma σ h) (fun x h => wpR (mr σ h) (fun xs h => P (x :: xs) h) X) X := by
  have q := @wq_cons
  simp only [← wpR_eq, ← wpS_eq] at q
  exact q 
theorem wp_tup {mr : FA} {P : D → HS → Prop} : wpR (mTup mr σ h) P X ↔ wpR (mr σ h) (fun xs h => if xs.length ≤ sizeLine then P (.tup xs) h else False) X := by
  have q := @wq_tup
  simp only [← wpR_eq, ← wpS_eq] at q
  exact q 
theorem wp_lst {mr : FA} {P : D → HS → Prop} : wpR (mLst mr σ h) P X ↔ wpR (mr σ h) (fun xs h => if xs.length ≤ sizeLine then P (.ref h.length) (h ++ [.lst xs]) else False) X := by
  have q := @wq_lst
  simp only [← wpR_eq, ← wpS_eq] at q
  exact q 
theorem wp_dict0 {P : D → HS → Prop} : wpR (mDict0 σ h) P X ↔ P (.ref h.length) (h ++ [.dK []]) := by
  have q := @wq_dict0
  simp only [← wpR_eq, ← wpS_eq] at q
  exact q 
theorem wp_dict {prs : List (FE × FE)} {P : D → HS → Prop} : wpR (mDict prs σ h) P X ↔ wpR (mPairs prs σ h) (fun ps h => if ps.length ≤ 15 then P (.ref h.length) (h ++ [.dK (mergeD [] ps)]) else False) X := by
  have q := @wq_dict
  simp only [← wpR_eq, ← wpS_eq] at q
  exact q 
theorem wp_pairs0 {P : List (Key × D) → HS → Prop} : wpR (mPairs [] σ h) P X ↔ P [] h := by
  have q := @wq_pairs0
  simp only [← wpR_eq, ← wpS_eq] at q
  exact q 
theorem wp_pairs {mk mv : FE} {r : List (FE × FE)} {P : List (Key × D) → HS → Prop} : wpR (mPairs ((mk, mv) :: r) σ h) P X ↔ wpR (mk σ h) (fun k h => wpR (mv σ h) (fun v h => match keyD k with
  | some k => wpR (mPairs r σ h) (fun ps h => P ((k, v) :: ps) h) X
  | none => False) X) X := by
  have q := @wq_pairs
  simp only [← wpR_eq, ← wpS_eq] at q
  exact q 
theorem wp_call {f : List D → HS → R D} {mr : FA} {P : D → HS → Prop} : wpR (mCall f mr σ h) P X ↔ wpR (mr σ h) (fun xs h => wpR (f xs h) P X) X := by
  have q := @wq_call
  simp only [← wpR_eq, ← wpS_eq] at q
  exact q 
theorem wp_callF {n : Nat} {f : List D → HS → R D} {mr : FA} {P : D → HS → Prop} : wpR (mCallF n f mr σ h) P X ↔ wpR (mr σ h) (fun xs h => if xs.length = n then wpR (f xs h) P X else False) X := by
  have q := @wq_callF
  simp only [← wpR_eq, ← wpS_eq] at q
  exact q 
theorem wp_tru {P : Bool → HS → Prop} : wpR (mTru e σ h) P X ↔ wpR (e σ h) (fun d h => match truB h d with
  | some b => P b h
  | none => False) X := by
  have q := @wq_tru
  simp only [← wpR_eq, ← wpS_eq] at q
  exact q 
theorem wp_bl {P : Bool → HS → Prop} : wpR (mBl e σ h) P X ↔ wpR (e σ h) (fun d h => match d with
  | .bl b => P b h
  | _ => False) X := by
  have q := @wq_bl
  simp only [← wpR_eq, ← wpS_eq] at q
  exact q 
theorem wp_and {P : Bool → HS → Prop} : wpR (mAnd t tb σ h) P X ↔ wpR (t σ h) (fun c h => if c = true then wpR (tb σ h) P X else P false h) X := by
  have q := @wq_and
  simp only [← wpR_eq, ← wpS_eq] at q
  exact q 
theorem wp_or {P : Bool → HS → Prop} : wpR (mOr t tb σ h) P X ↔ wpR (t σ h) (fun c h => if c = true then P true h else wpR (tb σ h) P X) X := by
  have q := @wq_or
  simp only [← wpR_eq, ← wpS_eq] at q
  exact q 
theorem wp_not {P : Bool → HS → Prop} : wpR (mNot t σ h) P X ↔ wpR (t σ h) (fun c h => P (!c) h) X := by
  have q := @wq_not
  simp only [← wpR_eq, ← wpS_eq] at q
  exact q 
theorem wp_andV {P : D → HS → Prop} : wpR (mAndV ma mb σ h) P X ↔ wpR (ma σ h) (fun d h => match d with
  | .bl b => if b = true then wpR (mb σ h) P X else P (.bl false) h
  | _ => False) X := by
  have q := @wq_andV
  simp only [← wpR_eq, ← wpS_eq] at q
  exact q 
theorem wp_orV {P : D → HS → Prop} : wpR (mOrV ma mb σ h) P X ↔ wpR (ma σ h) (fun d h => match d with
  | .bl b => if b = true then P (.bl true) h else wpR (mb σ h) P X
  | _ => False) X := by
  have q := @wq_orV
  simp only [← wpR_eq, ← wpS_eq] at q
  exact q 
theorem wp_notV {P : D → HS → Prop} : wpR (mNotV ma σ h) P X ↔ wpR (ma σ h) (fun d h => match d with
  | .bl b => P (.bl !b) h
  | _ => False) X := by
  have q := @wq_notV
  simp only [← wpR_eq, ← wpS_eq] at q
  exact q 
theorem wp_part {P : Option Int → HS → Prop} : wpR (mPart e σ h) P X ↔ wpR (e σ h) (fun d h => match d with
  | .int i => P (some i) h
  | _ => False) X := by
  have q := @wq_part
  simp only [← wpR_eq, ← wpS_eq] at q
  exact q 
theorem wp_noPart {P : Option Int → HS → Prop} : wpR (mNoPart σ h) P X ↔ P none h := by
  have q := @wq_noPart
  simp only [← wpR_eq, ← wpS_eq] at q
  exact q 
theorem wp_sl {ml mh : FO} {P : D → HS → Prop} : wpR (mSl e ml mh σ h) P X ↔ wpR (e σ h) (fun x h => wpR (ml σ h) (fun l h => wpR (mh σ h) (fun u h => wpR (dSl x l u h) P X) X) X) X := by
  have q := @wq_sl
  simp only [← wpR_eq, ← wpS_eq] at q
  exact q 
theorem wp_bm {S : String} {f : D → List D → HS → R D} {mr : FA} {P : D → HS → Prop} : wpR (mBM S f e mr σ h) P X ↔ wpR (e σ h) (fun d h => if tyMD S h d = true then wpR (mr σ h) (fun xs h => wpR (f d xs h) P X) X else False) X := by
  have q := @wq_bm
  simp only [← wpR_eq, ← wpS_eq] at q
  exact q 
theorem wp_ifE {P : D → HS → Prop} : wpR (mIf t ma mb σ h) P X ↔ wpR (t σ h) (fun c h => if c = true then wpR (ma σ h) P X else wpR (mb σ h) P X) X := by
  have q := @wq_ifE
  simp only [← wpR_eq, ← wpS_eq] at q
  exact q 
theorem wp_fld {Cs : List Addr} {f : Str} {P : D → HS → Prop} : wpR (mFld Cs f e σ h) P X ↔ wpR (e σ h) (fun d h => match insD Cs h d with
  | some (_, _, fs) => match fs.lookup f with
    | some v => P v h
    | none => False
  | none => False) X := by
  have q := @wq_fld
  simp only [← wpR_eq, ← wpS_eq] at q
  exact q 
theorem wp_meth {C : Addr} {mn : Str} {n : Nat} {f : List D → HS → R D} {mr : FA} {P : D → HS → Prop} : wpR (mMeth C mn n f e mr σ h) P X ↔ wpR (e σ h) (fun d h => match insD [C] h d with
  | some (_, _, fs) => if (fs.lookup mn).isNone = true then wpR (mr σ h) (fun xs h => if xs.length + 1 = n then wpR (f (d :: xs) h) P X else False) X else False
  | none => False) X := by
  have q := @wq_meth
  simp only [← wpR_eq, ← wpS_eq] at q
  exact q 
theorem wp_make {C : Addr} {n : Nat} {f : List D → HS → R D} {mr : FA} {P : D → HS → Prop} : wpR (mMake C n f mr σ h) P X ↔ wpR (mr σ h) (fun xs h => if xs.length + 1 = n then wpR (f (.ref h.length :: xs) (h ++ [.ins C []])) (fun v h2 => match v with
  | .non => P (.ref h.length) h2
  | _ => False) X else False) X := by
  have q := @wq_make
  simp only [← wpR_eq, ← wpS_eq] at q
  exact q 
theorem wp_lockE {i : Nat} {P : D → HS → Prop} : wpR (mLockE i e σ h) P X ↔ match σ[i]? with
  | some (some (.ref a)) => match h[a]? with
    | some (.dK kvs) => wpR (e σ (h.set a (.fdK kvs))) (fun d h' => P d (h'.set a (.dK kvs))) X0
    | _ => False
  | _ => False := by
  have q := @wq_lockE
  simp only [← wpR_eq, ← wpS_eq] at q
  exact q 
theorem wp_runB {n : Nat} {m : FS} {ds : List D} {Q : D → HS → Prop} : wpR (runB n m ds h) Q X ↔ wpS (m (ds.map some ++ List.replicate (n - ds.length) none) h) (fun _ h => Q .non h) (.ret Q X) := by
  have q := @wq_runB
  simp only [← wpR_eq, ← wpS_eq] at q
  exact q 
theorem wp_forE : wpS (mFor it g u σ h) N T ↔ wpR (it σ h) (fun J h => wpS (forL g u J J.n 0 σ h) N T) (fun x h => T.ex x σ h) := by
  have q := @wq_forE
  simp only [← wpR_eq, ← wpS_eq] at q
  exact q 
theorem wp_rng1 {ma : FA} {P : ItD → HS → Prop} : wpR (mRange1 ma σ h) P X ↔ wpR (ma σ h) (fun ds h => match ds with
  | [.int j] => if -(2 ^ 62) ≤ j ∧ j < 2 ^ 62 then P (itRange 0 j.toNat) h else False
  | _ => False) X := by
  have q := @wq_rng1
  simp only [← wpR_eq, ← wpS_eq] at q
  exact q 
theorem wp_rng2 {ma : FA} {P : ItD → HS → Prop} : wpR (mRange2 ma σ h) P X ↔ wpR (ma σ h) (fun ds h => match ds with
  | [.int i, .int j] => if -(2 ^ 62) ≤ i ∧ i < 2 ^ 62 ∧ -(2 ^ 62) ≤ j ∧ j < 2 ^ 62 then P (itRange i (j - i).toNat) h else False
  | _ => False) X := by
  have q := @wq_rng2
  simp only [← wpR_eq, ← wpS_eq] at q
  exact q 
theorem wp_seqI {P : ItD → HS → Prop} : wpR (mSeqI e σ h) P X ↔ wpR (e σ h) (fun d h => wpR (itSeq d h) P X) X := by
  have q := @wq_seqI
  simp only [← wpR_eq, ← wpS_eq] at q
  exact q 
theorem wp_forL (J : ItD) (I : Nat → Sl → HS → Prop) (h0 : I 0 σ h)
    (step : ∀ j σ h, I j σ h → j < J.n → ∃ d, J.get j h = some d ∧ wpR (g d σ h) (fun σ h => wpS (u σ h) (I (j + 1)) { T with ct := I (j + 1), bk := N }) (fun x h => T.ex x σ h))
    (fin : ∀ σ h, I J.n σ h → J.fin h = true ∧ N σ h) : wpS (forL g u J J.n 0 σ h) N T := by
  have q := @wq_forL
  simp only [← wpR_eq, ← wpS_eq] at q
  exact q J I h0 step fin
theorem wp_while (I : Sl → HS → Prop) (μ : Sl → HS → Nat) (h0 : I σ h)
    (step : ∀ σ h, I σ h → wpR (t σ h) (fun c h1 => if c = true then wpS (u σ h1) (fun σ' h' => I σ' h' ∧ μ σ' h' < μ σ h) { T with ct := fun σ' h' => I σ' h' ∧ μ σ' h' < μ σ h, bk := N } else N σ h1) (fun x h => T.ex x σ h)) : wpS (mWhile t u σ h) N T := by
  have q := @wq_while
  simp only [← wpR_eq, ← wpS_eq] at q
  exact q I μ h0 step
theorem wp_lcE {tg : Tgt} {tt : FT} {te : FE} {vs : List Nat} {P : D → HS → Prop} : wpR (mLc it tg tt te vs σ h) P X ↔ wpR (it σ h) (fun J h => wpR (lcL tg tt te J (wipeD σ vs) J.n 0 [] h) (fun ds h => P (.ref h.length) (h ++ [.lst ds])) X) X := by
  have q := @wq_lcE
  simp only [← wpR_eq, ← wpS_eq] at q
  exact q 
theorem wp_lcL {tg : Tgt} {tt : FT} {te : FE} {P : List D → HS → Prop} (J : ItD) (I : Nat → List D → HS → Prop) (h0 : I 0 [] h)
    (step : ∀ j acc h, I j acc h → j < J.n → ∃ d, J.get j h = some d ∧ wpR (tg.m d σ h) (fun σ h => wpR (tt σ h) (fun b h => if b = true then wpR (te σ h) (fun y h => acc.length < sizeLine ∧ I (j + 1) (acc ++ [y]) h) X0 else I (j + 1) acc h) X0) X0)
    (fin : ∀ acc h, I J.n acc h → J.fin h = true ∧ P acc h) : wpR (lcL tg tt te J σ J.n 0 [] h) P X := by
  have q := @wq_lcL
  simp only [← wpR_eq, ← wpS_eq] at q
  exact q J I h0 step fin
end FL

set_option Elab.async false
set_option linter.all false
set_option maxRecDepth 100000
set_option maxHeartbeats 400000
/-! FL, part j: the law's draws. -/
namespace FL
open PySem PySem.Spec PyProof.Rows L2
/-! ### what an operation gives at data of a known kind -/
section
variable {h : HS} {i j : Int} {a b : Str} {ds : List D} {d e : D}
theorem ev_add : dAdd (.int i) (.int j) h = .ok (.int (i + j)) h := rfl
theorem ev_iadd : dIAdd (.int i) (.int j) h = .ok (.int (i + j)) h := rfl
theorem ev_addT {es : List D} (q : ds.length + es.length ≤ sizeLine) : dAdd (.tup ds) (.tup es) h = .ok (.tup (ds ++ es)) h := if_pos q
theorem ev_addS (q : a.length + b.length ≤ sizeLine) : dAdd (.str a) (.str b) h = .ok (.str (a ++ b)) h := if_pos q
theorem ev_sub : dSub (.int i) (.int j) h = .ok (.int (i - j)) h := rfl
theorem ev_mul (q : CMul i j) : dMul (.int i) (.int j) h = .ok (.int (i * j)) h := if_pos q
theorem ev_fdiv (q : CDivW i j) : dFdiv (.int i) (.int j) h = .ok (.int (i / j)) h := if_pos q
theorem ev_mod (q : 0 < j) : dMod (.int i) (.int j) h = .ok (.int (i % j)) h := if_pos q
theorem ev_pow (q : CPow i j) : dPow (.int i) (.int j) h = .ok (.int (i ^ j.toNat)) h := if_pos q
theorem ev_neg : dNeg (.int i) h = .ok (.int (-i)) h := rfl
theorem ev_lt : dLt (.int i) (.int j) h= .ok (D.bl (decide (i < j))) h := rfl
theorem ev_le : dLe (.int i) (.int j) h= .ok (D.bl (decide (i ≤ j))) h := rfl
theorem ev_gt : dGt (.int i) (.int j) h= .ok (D.bl (decide (j < i))) h := rfl
theorem ev_ge : dGe (.int i) (.int j) h= .ok (D.bl (decide (j ≤ i))) h := rfl
theorem ev_eqI : dEq (.int i) (.int j) h= .ok (D.bl (decide (i = j))) h := by
  show R.ok (D.bl (decide (V.int i = V.int j))) h = _
  simp
theorem ev_neI : dNe (.int i) (.int j) h= .ok (D.bl (!decide (i = j))) h := by
  show R.ok (D.bl (!decide (V.int i = V.int j))) h = _
  simp
theorem ev_eqS : dEq (.str a) (.str b) h= .ok (D.bl (decide (a = b))) h := by
  show R.ok (D.bl (decide (V.str a = V.str b))) h = _
  simp
theorem ev_neS : dNe (.str a) (.str b) h= .ok (D.bl (!decide (a = b))) h := by
  show R.ok (D.bl (!decide (V.str a = V.str b))) h = _
  simp
theorem ev_isN : dIsN .non .non h= .ok (D.bl true) h := rfl
theorem ev_int : dInt [.int i] h = .ok (.int i) h := rfl
theorem ev_abs : dAbs [.int i] h = .ok (.int (if i < 0 then -i else i)) h := rfl
theorem ev_max : dMax2 [.int i, .int j] h = .ok (.int (if j > i then j else i)) h := rfl
theorem ev_min : dMin2 [.int i, .int j] h = .ok (.int (if j < i then j else i)) h := rfl
theorem ev_ixT (q : atI ds i = some d) : dIx (.tup ds) (.int i) h = .ok d h := by
  show ixL ds h i = _
  rw [ixL, q]
theorem ev_ixC (q : atI ds i = some d) : dIx (.cst ds) (.int i) h = .ok d h := by
  show ixL ds h i = _
  rw [ixL, q]
theorem ev_ixL {n : Nat} (hn : h[n]? = some (.lst ds)) (q : atI ds i = some d) : dIx (.ref n) (.int i) h = .ok d h := by
  simp only [dIx, hn, ixL, q]
theorem ev_lenT : dLen [.tup ds] h = .ok (.int ds.length) h := rfl
theorem ev_lenC : dLen [.cst ds] h = .ok (.int ds.length) h := rfl
theorem ev_lenL {n : Nat} (hn : h[n]? = some (.lst ds)) : dLen [.ref n] h = .ok (.int ds.length) h := by
  simp only [dLen, lenD, hn]
theorem ev_tupL {n : Nat} (hn : h[n]? = some (.lst ds)) : dTuple [.ref n] h = .ok (.tup ds) h := by
  simp only [dTuple, listD, lstAt, hn]
theorem ev_tupT : dTuple [.tup ds] h = .ok (.tup ds) h := rfl
theorem ev_tyL {n : Nat} (hn : h[n]? = some (.lst ds)) : tyMD "list" h (.ref n) = true := by
  simp only [tyMD, hn]; rfl
theorem ev_app {n : Nat} (hn : h[n]? = some (.lst ds)) (hl : ds.length < sizeLine) : dAppend (.ref n) [d] h = .ok .non (h.set n (.lst (ds ++ [d]))) := by
  simp only [dAppend, lstAt, hn, if_pos hl]
end
noncomputable def m_nextB : FS :=
    mSeq (mAugK (mVar 0) (mC (.str "at")) dIAdd (mC (.int 1)))
    (mSeq (mIfS (mBl (mOp dGt (mOp dIx (mVar 0) (mC (.str "at"))) (mCall (dLen) (mCons (mOp dIx (mVar 0) (mC (.str "draws"))) (mNil)))))
    (mRet (mC (.int 0)))
    (mSkip))
    (mRet (mOp dMod (mCall (dInt) (mCons (mOp dIx (mOp dIx (mVar 0) (mC (.str "draws"))) (mOp dSub (mOp dIx (mVar 0) (mC (.str "at"))) (mC (.int 1)))) (mNil))) (mVar 1))))
/-- the bag of a law's draws: the list's place, how many were taken -/
abbrev bagB (r : Nat) (a : Nat) : MO := .dK [(.inr "draws", .ref r), (.inr "at", .int a)]
def nxB (ds : List Int) (a : Nat) (m : Int) : Int := if ds.length ≤ a then 0 else ds.getD a 0 % m
theorem nextB_ok {h : HS} {w r a : Nat} {ds : List Int} {m : Int} (hw : h[w]? = some (bagB r a)) (hr : h[r]? = some (.lst (ds.map .int))) (hm : 0 < m) :
    runB 2 m_nextB [.ref w, .int m] h = .ok (.int (nxB ds a m)) (h.set w (bagB r (a + 1))) := by
  have key : wpR (runB 2 m_nextB [.ref w, .int m] h) (fun d h' => d = .int (nxB ds a m) ∧ h' = h.set w (bagB r (a + 1))) X0 := by
    unfold m_nextB
    simp only [↓wp_seq, ↓wp_skip, ↓wp_drop, ↓wp_ret, ↓wp_retN, ↓wp_brk, ↓wp_cnt, ↓wp_if, ↓wp_asg, ↓wp_to, ↓wp_tos, ↓wp_toIx, ↓wp_aug, ↓wp_augK, ↓wp_fldSet, ↓wp_fldAug, ↓wp_var, ↓wp_c, ↓wp_op, ↓wp_un, ↓wp_nil, ↓wp_cons, ↓wp_tup, ↓wp_lst, ↓wp_dict0, ↓wp_dict, ↓wp_pairs0, ↓wp_pairs, ↓wp_call, ↓wp_callF, ↓wp_tru, ↓wp_bl, ↓wp_and, ↓wp_or, ↓wp_not, ↓wp_andV, ↓wp_orV, ↓wp_notV, ↓wp_part, ↓wp_noPart, ↓wp_sl, ↓wp_bm, ↓wp_ifE, ↓wp_fld, ↓wp_meth, ↓wp_make, ↓wp_lockE, ↓wp_rng1, ↓wp_rng2, ↓wp_seqI, ↓wpR_ok, ↓wpS_nx, ↓wpS_rt, List.getElem?_cons_zero, List.getElem?_cons_succ, List.set_cons_zero, List.set_cons_succ, List.length_cons, List.length_nil, ↓reduceIte, decide_eq_true_eq, ev_add, ev_iadd, ev_sub, ev_mod, ev_neg, ev_lt, ev_le, ev_gt, ev_ge, ev_eqI, ev_neI, ev_eqS, ev_neS, ev_isN, ev_int, ev_abs, ev_max, ev_min, ev_lenT, ev_lenC, ev_tupT, Int.reduceLT, Int.reduceLE, Int.reduceNeg, Int.reduceAdd, Int.reduceSub, Int.reduceEq, Nat.reduceAdd, Nat.reduceSub, and_self, ↓List.map_cons, ↓List.map_nil, ↓List.cons_append, ↓List.nil_append, List.replicate, ↓wp_runB, List.map_cons, List.map_nil, List.cons_append, List.nil_append, Nat.sub_self, List.replicate_zero]
    have kd : keyD (D.str "at") = some (.inr "at") := rfl
    have kr : keyD (D.str "draws") = some (.inr "draws") := rfl
    have g1 : ∀ a : Nat, getK [((Sum.inr "draws" : Key), D.ref r), (.inr "at", .int a)] (.inr "at") = some (.int a) := fun a => rfl
    have g2 : ∀ a : Nat, getK [((Sum.inr "draws" : Key), D.ref r), (.inr "at", .int a)] (.inr "draws") = some (.ref r) := fun a => rfl
    have g3 : setK [((Sum.inr "draws" : Key), D.ref r), (.inr "at", .int a)] (.inr "at") (.int (a + 1)) = [((Sum.inr "draws" : Key), D.ref r), (.inr "at", .int (a + 1 : Nat))] := rfl
    have lw : w < h.length := (List.getElem?_eq_some_iff.mp hw).1
    have nwr : w ≠ r := by
      intro e
      rw [e, hr] at hw
      cases hw
    have hw2 : ∀ o, (h.set w o)[w]? = some o := fun o => by rw [List.getElem?_set_self lw]
    have hr2 : ∀ o, (h.set w o)[r]? = some (.lst (ds.map .int)) := fun o => by rw [List.getElem?_set_ne nwr, hr]
    simp only [dictD, hw, kd, kr, g1, dIAdd, dSetK, ↓wpR_ok, List.length_cons, List.length_nil, show (0 + 1 + 1 < sizeLine) = True from by decide, if_true, g3, dIx, ixKD, hw2, hr2, g2, dLen, lenD, List.length_map, dGt, decide_eq_true_eq, dSub, dInt, dMod, ixL]
    by_cases c : ds.length ≤ a
    · rw [if_pos (by omega), nxB, if_pos c]
      exact ⟨rfl, trivial⟩
    · rw [if_neg (by omega)]
      have e : atI (ds.map D.int) (((a : Int) + 1) - 1) = some (.int (ds.getD a 0)) := by
        rw [show ((a : Int) + 1) - 1 = (a : Int) from by omega]
        refine atI_nat ?_
        rw [List.getElem?_map, List.getElem?_eq_getElem (by omega : a < ds.length), List.getD_eq_getElem?_getD, List.getElem?_eq_getElem (by omega : a < ds.length)]
        rfl
      rw [show (((a + 1 : Nat) : Int) - 1) = ((a : Int) + 1) - 1 from by omega, e]
      simp only [↓wpR_ok, hm, if_true, nxB, if_neg c]
      exact ⟨trivial, trivial⟩
  obtain ⟨d, h', e, rfl, rfl⟩ := wpR_elim key
  exact e
noncomputable def m_drawsB_b1 : FS :=
    mIfS (mBl (mOp dGt (mVar 6) (mC (.int 0))))
    (mSeq (mDrop (mBM "list" dAppend (mVar 2) (mCons (mOp dMod (mCall (dInt) (mCons (mVar 6) (mNil))) (mC (.int 997))) (mNil))))
    (mAsg (mOp dFdiv (mVar 6) (mC (.int 997))) (mTo 6)))
    (mSkip)
noncomputable def m_drawsB_r2 : FS :=
    mFor (mRange1 (mCons (mC (.int 60)) (mNil))) (mTo 7)
    (m_drawsB_b1)
noncomputable def m_drawsB_b3 : FS :=
    mSeq (mAsg (mCall (dAbs) (mCons (mCall (dInt) (mCons (mOp dIx (mVar 0) (mVar 4)) (mNil))) (mNil))) (mTo 5))
    (mSeq (mAsg (mOp dMod (mCall (dInt) (mCons (mOp dAdd (mOp dAdd (mOp dMul (mVar 3) (mC (.int 48271))) (mOp dMod (mVar 5) (mC (.int 1000003)))) (mVar 4)) (mNil))) (mC (.int 65537))) (mTo 3))
    (mSeq (mAsg (mC (.int 0)) (mTo 6))
    (mSeq (mIfS (mBl (mOp dGe (mVar 5) (mOp dPow (mC (.int 10)) (mC (.int 18)))))
    (mAsg (mVar 5) (mTo 6))
    (mSeq (mDrop (mBM "list" dAppend (mVar 2) (mCons (mOp dMod (mCall (dInt) (mCons (mVar 5) (mNil))) (mC (.int 997))) (mNil))))
    (mDrop (mBM "list" dAppend (mVar 2) (mCons (mOp dMod (mOp dMod (mCall (dInt) (mCons (mOp dAdd (mOp dMul (mVar 3) (mC (.int 69621))) (mC (.int 5))) (mNil))) (mC (.int 65521))) (mC (.int 997))) (mNil))))))
    (m_drawsB_r2))))
noncomputable def m_drawsB_b4 : FS :=
    mSeq (mAsg (mOp dMod (mCall (dInt) (mCons (mOp dAdd (mOp dAdd (mOp dMul (mVar 3) (mC (.int 16807))) (mVar 4)) (mC (.int 1))) (mNil))) (mC (.int 65537))) (mTo 3))
    (mDrop (mBM "list" dAppend (mVar 2) (mCons (mOp dMod (mCall (dInt) (mCons (mVar 3) (mNil))) (mC (.int 997))) (mNil))))
noncomputable def m_drawsB_r5 : FS :=
    mRet (mSl (mVar 2) (mNoPart) (mPart (mVar 1)))
noncomputable def m_drawsB_r6 : FS :=
    mSeq (mFor (mRange1 (mCons (mVar 1) (mNil))) (mTo 4)
    (m_drawsB_b4))
    (m_drawsB_r5)
noncomputable def m_drawsB : FS :=
    mSeq (mAsg (mLst (mNil)) (mTo 2))
    (mSeq (mAsg (mC (.int 7)) (mTo 3))
    (mSeq (mFor (mRange1 (mCons (mCall (dLen) (mCons (mVar 0) (mNil))) (mNil))) (mTo 4)
    (m_drawsB_b3))
    (m_drawsB_r6)))
def inR (m : Int) (l : List Int) : Prop := ∀ d ∈ l, 0 ≤ d ∧ d < m
theorem inR.app {m : Int} {l : List Int} {x : Int} (h : inR m l) (h0 : 0 ≤ x) (h1 : x < m) : inR m (l ++ [x]) := by
  intro d hd
  rcases List.mem_append.mp hd with e | e
  · exact h d e
  · rw [List.mem_singleton.mp e]; exact ⟨h0, h1⟩
theorem app_int {l : List Int} {x : Int} : l.map D.int ++ [.int x] = (l ++ [x]).map D.int := by simp
/-- the heap while the draws are made: one list more -/
theorem lst_at {h : HS} {l : List D} : lstAt (h ++ [.lst l]) h.length = some l := by simp [lstAt]
theorem lst_set {h : HS} {o o' : MO} : (h ++ [o]).set h.length o' = h ++ [o'] := by simp
theorem ty_lst {h : HS} {l : List D} : tyMD "list" (h ++ [.lst l]) (.ref h.length) = true := by simp [tyMD]
theorem wp_forR {lo : Int} {n : Nat} {g : FG} {u : FS} {σ : Sl} {h : HS} {N : Sl → HS → Prop} {T : Tl} (I : Nat → Sl → HS → Prop) (h0 : I 0 σ h)
    (step : ∀ j σ h, I j σ h → j < n → wpR (g (.int (lo + j)) σ h) (fun σ h => wpS (u σ h) (I (j + 1)) { T with ct := I (j + 1), bk := N }) (fun x h => T.ex x σ h))
    (fin : ∀ σ h, I n σ h → N σ h) : wpS (forL g u (itRange lo n) (itRange lo n).n 0 σ h) N T :=
  wp_forL (itRange lo n) I h0 (fun j σ h i hj => ⟨_, rfl, step j σ h i hj⟩) fun σ h i => ⟨rfl, fin σ h i⟩
theorem mod997 {x : Int} : 0 ≤ x % 997 ∧ x % 997 < 997 := ⟨by omega, by omega⟩
theorem cdiv997 {r : Int} : CDivW r 997 := ⟨by decide, by decide⟩
section
variable {h : HS} {acc : List Int} {T : Tl}
/-- a draw more -/
theorem app_draw {P : D → HS → Prop} {X : XP} {x : Int} (hl : acc.length < 1000000) (k : P .non (h ++ [.lst ((acc ++ [x]).map .int)])) : wpR (dAppend (.ref h.length) [.int x] (h ++ [.lst (acc.map .int)])) P X := by
  simp only [dAppend, lst_at, List.length_map, lst_set, app_int]
  rw [if_pos (Nat.lt_of_lt_of_le hl (by decide)), wpR_ok]
  exact k
theorem draws_b1 {a0 a1 a3 a4 a5 a7 : Option D} {r : Int} (hr : 0 ≤ r) (ha : inR 997 acc) (hl : acc.length < 100000) :
    wpS (m_drawsB_b1 [a0, a1, some (.ref h.length), a3, a4, a5, some (.int r), a7] (h ++ [.lst (acc.map .int)]))
      (fun σ h' => ∃ (acc' : List Int) (r' : Int), σ = [a0, a1, some (.ref h.length), a3, a4, a5, some (.int r'), a7] ∧ h' = h ++ [.lst (acc'.map .int)] ∧ 0 ≤ r' ∧ inR 997 acc' ∧ acc'.length ≤ acc.length + 1) T := by
  unfold m_drawsB_b1
  simp only [↓wp_seq, ↓wp_skip, ↓wp_drop, ↓wp_ret, ↓wp_retN, ↓wp_brk, ↓wp_cnt, ↓wp_if, ↓wp_asg, ↓wp_to, ↓wp_tos, ↓wp_toIx, ↓wp_aug, ↓wp_augK, ↓wp_fldSet, ↓wp_fldAug, ↓wp_var, ↓wp_c, ↓wp_op, ↓wp_un, ↓wp_nil, ↓wp_cons, ↓wp_tup, ↓wp_lst, ↓wp_dict0, ↓wp_dict, ↓wp_pairs0, ↓wp_pairs, ↓wp_call, ↓wp_callF, ↓wp_tru, ↓wp_bl, ↓wp_and, ↓wp_or, ↓wp_not, ↓wp_andV, ↓wp_orV, ↓wp_notV, ↓wp_part, ↓wp_noPart, ↓wp_sl, ↓wp_bm, ↓wp_ifE, ↓wp_fld, ↓wp_meth, ↓wp_make, ↓wp_lockE, ↓wp_rng1, ↓wp_rng2, ↓wp_seqI, ↓wpR_ok, ↓wpS_nx, ↓wpS_rt, List.getElem?_cons_zero, List.getElem?_cons_succ, List.set_cons_zero, List.set_cons_succ, List.length_cons, List.length_nil, ↓reduceIte, decide_eq_true_eq, ev_add, ev_iadd, ev_sub, ev_mod, ev_neg, ev_lt, ev_le, ev_gt, ev_ge, ev_eqI, ev_neI, ev_eqS, ev_neS, ev_isN, ev_int, ev_abs, ev_max, ev_min, ev_lenT, ev_lenC, ev_tupT, Int.reduceLT, Int.reduceLE, Int.reduceNeg, Int.reduceAdd, Int.reduceSub, Int.reduceEq, Nat.reduceAdd, Nat.reduceSub, and_self, ↓List.map_cons, ↓List.map_nil, ↓List.cons_append, ↓List.nil_append, List.replicate, ty_lst]
  by_cases c : 0 < r
  · rw [if_pos c]
    refine app_draw (by omega) ?_
    simp only [ev_fdiv cdiv997, wpR_ok]
    exact ⟨_, _, rfl, rfl, Int.ediv_nonneg hr (by decide), ha.app mod997.1 mod997.2, by simp⟩
  · rw [if_neg c]
    exact ⟨acc, r, rfl, rfl, hr, ha, Nat.le_succ _⟩
theorem draws_r2 {a0 a1 a3 a4 a5 a7 : Option D} {r : Int} (hr : 0 ≤ r) (ha : inR 997 acc) (hl : acc.length < 90000) :
    wpS (m_drawsB_r2 [a0, a1, some (.ref h.length), a3, a4, a5, some (.int r), a7] (h ++ [.lst (acc.map .int)]))
      (fun σ h' => ∃ (acc' : List Int) (a6 a7 : Option D), σ = [a0, a1, some (.ref h.length), a3, a4, a5, a6, a7] ∧ h' = h ++ [.lst (acc'.map .int)] ∧ inR 997 acc' ∧ acc'.length ≤ acc.length + 60) T := by
  unfold m_drawsB_r2
  simp only [↓wp_seq, ↓wp_skip, ↓wp_drop, ↓wp_ret, ↓wp_retN, ↓wp_brk, ↓wp_cnt, ↓wp_if, ↓wp_asg, ↓wp_to, ↓wp_tos, ↓wp_toIx, ↓wp_aug, ↓wp_augK, ↓wp_fldSet, ↓wp_fldAug, ↓wp_var, ↓wp_c, ↓wp_op, ↓wp_un, ↓wp_nil, ↓wp_cons, ↓wp_tup, ↓wp_lst, ↓wp_dict0, ↓wp_dict, ↓wp_pairs0, ↓wp_pairs, ↓wp_call, ↓wp_callF, ↓wp_tru, ↓wp_bl, ↓wp_and, ↓wp_or, ↓wp_not, ↓wp_andV, ↓wp_orV, ↓wp_notV, ↓wp_part, ↓wp_noPart, ↓wp_sl, ↓wp_bm, ↓wp_ifE, ↓wp_fld, ↓wp_meth, ↓wp_make, ↓wp_lockE, ↓wp_rng1, ↓wp_rng2, ↓wp_seqI, ↓wpR_ok, ↓wpS_nx, ↓wpS_rt, List.getElem?_cons_zero, List.getElem?_cons_succ, List.set_cons_zero, List.set_cons_succ, List.length_cons, List.length_nil, ↓reduceIte, decide_eq_true_eq, ev_add, ev_iadd, ev_sub, ev_mod, ev_neg, ev_lt, ev_le, ev_gt, ev_ge, ev_eqI, ev_neI, ev_eqS, ev_neS, ev_isN, ev_int, ev_abs, ev_max, ev_min, ev_lenT, ev_lenC, ev_tupT, Int.reduceLT, Int.reduceLE, Int.reduceNeg, Int.reduceAdd, Int.reduceSub, Int.reduceEq, Nat.reduceAdd, Nat.reduceSub, and_self, ↓List.map_cons, ↓List.map_nil, ↓List.cons_append, ↓List.nil_append, List.replicate, ↓wp_forE]
  rw [if_pos (by decide)]
  refine wp_forR (fun j σ h' => ∃ (acc' : List Int) (r' : Int) (a7 : Option D), σ = [a0, a1, some (.ref h.length), a3, a4, a5, some (.int r'), a7] ∧ h' = h ++ [.lst (acc'.map .int)] ∧ 0 ≤ r' ∧ inR 997 acc' ∧ acc'.length ≤ acc.length + j)
    ⟨acc, r, a7, rfl, rfl, hr, ha, Nat.le_refl _⟩ ?_ ?_
  · rintro j σ h' ⟨acc', r', a7, rfl, rfl, hr', ha', hl'⟩ hj
    simp only [↓wp_seq, ↓wp_skip, ↓wp_drop, ↓wp_ret, ↓wp_retN, ↓wp_brk, ↓wp_cnt, ↓wp_if, ↓wp_asg, ↓wp_to, ↓wp_tos, ↓wp_toIx, ↓wp_aug, ↓wp_augK, ↓wp_fldSet, ↓wp_fldAug, ↓wp_var, ↓wp_c, ↓wp_op, ↓wp_un, ↓wp_nil, ↓wp_cons, ↓wp_tup, ↓wp_lst, ↓wp_dict0, ↓wp_dict, ↓wp_pairs0, ↓wp_pairs, ↓wp_call, ↓wp_callF, ↓wp_tru, ↓wp_bl, ↓wp_and, ↓wp_or, ↓wp_not, ↓wp_andV, ↓wp_orV, ↓wp_notV, ↓wp_part, ↓wp_noPart, ↓wp_sl, ↓wp_bm, ↓wp_ifE, ↓wp_fld, ↓wp_meth, ↓wp_make, ↓wp_lockE, ↓wp_rng1, ↓wp_rng2, ↓wp_seqI, ↓wpR_ok, ↓wpS_nx, ↓wpS_rt, List.getElem?_cons_zero, List.getElem?_cons_succ, List.set_cons_zero, List.set_cons_succ, List.length_cons, List.length_nil, ↓reduceIte, decide_eq_true_eq, ev_add, ev_iadd, ev_sub, ev_mod, ev_neg, ev_lt, ev_le, ev_gt, ev_ge, ev_eqI, ev_neI, ev_eqS, ev_neS, ev_isN, ev_int, ev_abs, ev_max, ev_min, ev_lenT, ev_lenC, ev_tupT, Int.reduceLT, Int.reduceLE, Int.reduceNeg, Int.reduceAdd, Int.reduceSub, Int.reduceEq, Nat.reduceAdd, Nat.reduceSub, and_self, ↓List.map_cons, ↓List.map_nil, ↓List.cons_append, ↓List.nil_append, List.replicate]
    refine wpS_mono (draws_b1 hr' ha' (by have : j < 60 := hj; omega)) ?_
    rintro σ h2 ⟨acc2, r2, rfl, rfl, q1, q2, q3⟩
    exact ⟨acc2, r2, _, rfl, rfl, q1, q2, by omega⟩
  · rintro σ h' ⟨acc', r', a7, rfl, rfl, hr', ha', hl'⟩
    exact ⟨acc', _, _, rfl, rfl, ha', hl'⟩
theorem draws_b3 {ns : List Int} {a1 a5 a6 a7 : Option D} {j : Nat} {mx : Int} (h0 : 0 ≤ mx) (h1 : mx < 65537) (hj : j < ns.length) (ha : inR 997 acc) (hl : acc.length < 80000) :
    wpS (m_drawsB_b3 [some (.cst (ns.map .int)), a1, some (.ref h.length), some (.int mx), some (.int j), a5, a6, a7] (h ++ [.lst (acc.map .int)]))
      (fun σ h' => ∃ (acc' : List Int) (mx' : Int) (a4 a5 a6 a7 : Option D), σ = [some (.cst (ns.map .int)), a1, some (.ref h.length), some (.int mx'), a4, a5, a6, a7] ∧ h' = h ++ [.lst (acc'.map .int)] ∧ 0 ≤ mx' ∧ mx' < 65537 ∧ inR 997 acc' ∧ acc'.length ≤ acc.length + 62) T := by
  unfold m_drawsB_b3
  have e : atI (ns.map D.int) (j : Int) = some (.int ns[j]) := atI_nat (by rw [List.getElem?_map, List.getElem?_eq_getElem hj]; rfl)
  have cm : ∀ y : Int, 0 ≤ y → y < 65537 → ∀ z, CMul y z := fun y h0 h1 z => .inl ⟨by omega, by omega⟩
  simp only [↓wp_seq, ↓wp_skip, ↓wp_drop, ↓wp_ret, ↓wp_retN, ↓wp_brk, ↓wp_cnt, ↓wp_if, ↓wp_asg, ↓wp_to, ↓wp_tos, ↓wp_toIx, ↓wp_aug, ↓wp_augK, ↓wp_fldSet, ↓wp_fldAug, ↓wp_var, ↓wp_c, ↓wp_op, ↓wp_un, ↓wp_nil, ↓wp_cons, ↓wp_tup, ↓wp_lst, ↓wp_dict0, ↓wp_dict, ↓wp_pairs0, ↓wp_pairs, ↓wp_call, ↓wp_callF, ↓wp_tru, ↓wp_bl, ↓wp_and, ↓wp_or, ↓wp_not, ↓wp_andV, ↓wp_orV, ↓wp_notV, ↓wp_part, ↓wp_noPart, ↓wp_sl, ↓wp_bm, ↓wp_ifE, ↓wp_fld, ↓wp_meth, ↓wp_make, ↓wp_lockE, ↓wp_rng1, ↓wp_rng2, ↓wp_seqI, ↓wpR_ok, ↓wpS_nx, ↓wpS_rt, List.getElem?_cons_zero, List.getElem?_cons_succ, List.set_cons_zero, List.set_cons_succ, List.length_cons, List.length_nil, ↓reduceIte, decide_eq_true_eq, ev_add, ev_iadd, ev_sub, ev_mod, ev_neg, ev_lt, ev_le, ev_gt, ev_ge, ev_eqI, ev_neI, ev_eqS, ev_neS, ev_isN, ev_int, ev_abs, ev_max, ev_min, ev_lenT, ev_lenC, ev_tupT, Int.reduceLT, Int.reduceLE, Int.reduceNeg, Int.reduceAdd, Int.reduceSub, Int.reduceEq, Nat.reduceAdd, Nat.reduceSub, and_self, ↓List.map_cons, ↓List.map_nil, ↓List.cons_append, ↓List.nil_append, List.replicate, ev_ixC e, ev_mul (cm _ h0 h1 _), ev_pow (show CPow 10 18 from by decide)]
  have hc : 0 ≤ (if ns[j] < 0 then -ns[j] else ns[j]) := by split <;> omega
  generalize (if ns[j] < 0 then -ns[j] else ns[j]) = c at hc ⊢
  have g0 : 0 ≤ (mx * 48271 + c % 1000003 + (j : Int)) % 65537 := by omega
  have g1 : (mx * 48271 + c % 1000003 + (j : Int)) % 65537 < 65537 := by omega
  generalize (mx * 48271 + c % 1000003 + (j : Int)) % 65537 = mx2 at g0 g1 ⊢
  split
  · rename_i hb
    clear hb
    refine wpS_mono (draws_r2 hc ha (by omega)) ?_
    rintro σ h' ⟨acc', a6, a7, rfl, rfl, q1, q2⟩
    exact ⟨acc', _, _, _, _, _, rfl, rfl, g0, g1, q1, by omega⟩
  · rename_i hb
    clear hb
    rw [if_pos ty_lst]
    refine app_draw (by omega) ?_
    rw [if_pos ty_lst]
    simp only [ev_mul (cm _ g0 g1 _), wpR_ok, ev_add, ev_int, ev_mod, Int.reduceLT]
    refine app_draw (by simp; omega) ?_
    have ha2 : inR 997 ((acc ++ [c % 997]) ++ [(mx2 * 69621 + 5) % 65521 % 997]) := (ha.app mod997.1 mod997.2).app mod997.1 mod997.2
    have hl2 : ((acc ++ [c % 997]) ++ [(mx2 * 69621 + 5) % 65521 % 997]).length = acc.length + 2 := by simp
    generalize (acc ++ [c % 997]) ++ [(mx2 * 69621 + 5) % 65521 % 997] = acc2 at ha2 hl2 ⊢
    have hl3 : acc2.length < 90000 := by omega
    have hz : (0 : Int) ≤ 0 := Int.le_refl 0
    clear cm e h0 h1 hj hl
    have w := draws_r2 (h := h) (T := T) (a0 := some (.cst (ns.map .int))) (a1 := a1) (a3 := some (.int mx2)) (a4 := some (.int j)) (a5 := some (.int c)) (a7 := a7) hz ha2 hl3
    refine wpS_mono w ?_
    rintro σ h' ⟨acc', a6, a7, rfl, rfl, q1, q2⟩
    refine ⟨acc', _, _, _, _, _, rfl, rfl, g0, g1, q1, ?_⟩
    omega
theorem draws_b4 {a0 a1 a5 a6 a7 : Option D} {mx : Int} {k : Nat} (h0 : 0 ≤ mx) (h1 : mx < 65537) (ha : inR 997 acc) (hl : acc.length < 900000) :
    wpS (m_drawsB_b4 [a0, a1, some (.ref h.length), some (.int mx), some (.int k), a5, a6, a7] (h ++ [.lst (acc.map .int)]))
      (fun σ h' => ∃ (acc' : List Int) (mx' : Int), σ = [a0, a1, some (.ref h.length), some (.int mx'), some (.int k), a5, a6, a7] ∧ h' = h ++ [.lst (acc'.map .int)] ∧ 0 ≤ mx' ∧ mx' < 65537 ∧ inR 997 acc' ∧ acc'.length ≤ acc.length + 1) T := by
  unfold m_drawsB_b4
  have cm : ∀ z, CMul mx z := fun z => .inl ⟨by omega, by omega⟩
  simp only [↓wp_seq, ↓wp_skip, ↓wp_drop, ↓wp_ret, ↓wp_retN, ↓wp_brk, ↓wp_cnt, ↓wp_if, ↓wp_asg, ↓wp_to, ↓wp_tos, ↓wp_toIx, ↓wp_aug, ↓wp_augK, ↓wp_fldSet, ↓wp_fldAug, ↓wp_var, ↓wp_c, ↓wp_op, ↓wp_un, ↓wp_nil, ↓wp_cons, ↓wp_tup, ↓wp_lst, ↓wp_dict0, ↓wp_dict, ↓wp_pairs0, ↓wp_pairs, ↓wp_call, ↓wp_callF, ↓wp_tru, ↓wp_bl, ↓wp_and, ↓wp_or, ↓wp_not, ↓wp_andV, ↓wp_orV, ↓wp_notV, ↓wp_part, ↓wp_noPart, ↓wp_sl, ↓wp_bm, ↓wp_ifE, ↓wp_fld, ↓wp_meth, ↓wp_make, ↓wp_lockE, ↓wp_rng1, ↓wp_rng2, ↓wp_seqI, ↓wpR_ok, ↓wpS_nx, ↓wpS_rt, List.getElem?_cons_zero, List.getElem?_cons_succ, List.set_cons_zero, List.set_cons_succ, List.length_cons, List.length_nil, ↓reduceIte, decide_eq_true_eq, ev_add, ev_iadd, ev_sub, ev_mod, ev_neg, ev_lt, ev_le, ev_gt, ev_ge, ev_eqI, ev_neI, ev_eqS, ev_neS, ev_isN, ev_int, ev_abs, ev_max, ev_min, ev_lenT, ev_lenC, ev_tupT, Int.reduceLT, Int.reduceLE, Int.reduceNeg, Int.reduceAdd, Int.reduceSub, Int.reduceEq, Nat.reduceAdd, Nat.reduceSub, and_self, ↓List.map_cons, ↓List.map_nil, ↓List.cons_append, ↓List.nil_append, List.replicate, ev_mul (cm _)]
  rw [if_pos ty_lst]
  refine app_draw (by omega) ?_
  exact ⟨_, _, rfl, rfl, by omega, by omega, ha.app mod997.1 mod997.2, by simp⟩
theorem draws_r6 {a0 a4 a5 a6 a7 : Option D} {mx : Int} {m : Nat} (hm : m ≤ 100000) (h0 : 0 ≤ mx) (h1 : mx < 65537) (ha : inR 997 acc) (hl : acc.length < 100000) 
    (k : ∀ acc' ds : List Int, inR 997 ds → T.rt (.ref (h.length + 1)) (h ++ [.lst (acc'.map .int), .lst (ds.map .int)])) :
    wpS (m_drawsB_r6 [a0, some (.int m), some (.ref h.length), some (.int mx), a4, a5, a6, a7] (h ++ [.lst (acc.map .int)])) (fun _ _ => False) T := by
  unfold m_drawsB_r6
  simp only [↓wp_seq, ↓wp_skip, ↓wp_drop, ↓wp_ret, ↓wp_retN, ↓wp_brk, ↓wp_cnt, ↓wp_if, ↓wp_asg, ↓wp_to, ↓wp_tos, ↓wp_toIx, ↓wp_aug, ↓wp_augK, ↓wp_fldSet, ↓wp_fldAug, ↓wp_var, ↓wp_c, ↓wp_op, ↓wp_un, ↓wp_nil, ↓wp_cons, ↓wp_tup, ↓wp_lst, ↓wp_dict0, ↓wp_dict, ↓wp_pairs0, ↓wp_pairs, ↓wp_call, ↓wp_callF, ↓wp_tru, ↓wp_bl, ↓wp_and, ↓wp_or, ↓wp_not, ↓wp_andV, ↓wp_orV, ↓wp_notV, ↓wp_part, ↓wp_noPart, ↓wp_sl, ↓wp_bm, ↓wp_ifE, ↓wp_fld, ↓wp_meth, ↓wp_make, ↓wp_lockE, ↓wp_rng1, ↓wp_rng2, ↓wp_seqI, ↓wpR_ok, ↓wpS_nx, ↓wpS_rt, List.getElem?_cons_zero, List.getElem?_cons_succ, List.set_cons_zero, List.set_cons_succ, List.length_cons, List.length_nil, ↓reduceIte, decide_eq_true_eq, ev_add, ev_iadd, ev_sub, ev_mod, ev_neg, ev_lt, ev_le, ev_gt, ev_ge, ev_eqI, ev_neI, ev_eqS, ev_neS, ev_isN, ev_int, ev_abs, ev_max, ev_min, ev_lenT, ev_lenC, ev_tupT, Int.reduceLT, Int.reduceLE, Int.reduceNeg, Int.reduceAdd, Int.reduceSub, Int.reduceEq, Nat.reduceAdd, Nat.reduceSub, and_self, ↓List.map_cons, ↓List.map_nil, ↓List.cons_append, ↓List.nil_append, List.replicate, ↓wp_forE]
  rw [if_pos (by omega)]
  refine wp_forR (fun j σ h' => ∃ (acc' : List Int) (mx' : Int) (a4 : Option D), σ = [a0, some (.int m), some (.ref h.length), some (.int mx'), a4, a5, a6, a7] ∧ h' = h ++ [.lst (acc'.map .int)] ∧ 0 ≤ mx' ∧ mx' < 65537 ∧ inR 997 acc' ∧ acc'.length ≤ acc.length + j)
    ⟨acc, mx, a4, rfl, rfl, h0, h1, ha, Nat.le_refl _⟩ ?_ ?_
  · rintro j σ h' ⟨acc', mx', a4, rfl, rfl, q0, q1, q2, q3⟩ hj
    simp only [↓wp_seq, ↓wp_skip, ↓wp_drop, ↓wp_ret, ↓wp_retN, ↓wp_brk, ↓wp_cnt, ↓wp_if, ↓wp_asg, ↓wp_to, ↓wp_tos, ↓wp_toIx, ↓wp_aug, ↓wp_augK, ↓wp_fldSet, ↓wp_fldAug, ↓wp_var, ↓wp_c, ↓wp_op, ↓wp_un, ↓wp_nil, ↓wp_cons, ↓wp_tup, ↓wp_lst, ↓wp_dict0, ↓wp_dict, ↓wp_pairs0, ↓wp_pairs, ↓wp_call, ↓wp_callF, ↓wp_tru, ↓wp_bl, ↓wp_and, ↓wp_or, ↓wp_not, ↓wp_andV, ↓wp_orV, ↓wp_notV, ↓wp_part, ↓wp_noPart, ↓wp_sl, ↓wp_bm, ↓wp_ifE, ↓wp_fld, ↓wp_meth, ↓wp_make, ↓wp_lockE, ↓wp_rng1, ↓wp_rng2, ↓wp_seqI, ↓wpR_ok, ↓wpS_nx, ↓wpS_rt, List.getElem?_cons_zero, List.getElem?_cons_succ, List.set_cons_zero, List.set_cons_succ, List.length_cons, List.length_nil, ↓reduceIte, decide_eq_true_eq, ev_add, ev_iadd, ev_sub, ev_mod, ev_neg, ev_lt, ev_le, ev_gt, ev_ge, ev_eqI, ev_neI, ev_eqS, ev_neS, ev_isN, ev_int, ev_abs, ev_max, ev_min, ev_lenT, ev_lenC, ev_tupT, Int.reduceLT, Int.reduceLE, Int.reduceNeg, Int.reduceAdd, Int.reduceSub, Int.reduceEq, Nat.reduceAdd, Nat.reduceSub, and_self, ↓List.map_cons, ↓List.map_nil, ↓List.cons_append, ↓List.nil_append, List.replicate]
    rw [show (0 : Int) + (j : Int) = (j : Int) from by omega]
    refine wpS_mono (draws_b4 q0 q1 q2 (by omega)) ?_
    rintro σ h2 ⟨acc2, mx2, rfl, rfl, p1, p2, p3, p4⟩
    exact ⟨acc2, mx2, _, rfl, rfl, p1, p2, p3, by omega⟩
  · rintro σ h' ⟨acc', mx', a4, rfl, rfl, q0, q1, q2, q3⟩
    unfold m_drawsB_r5
    simp only [↓wp_seq, ↓wp_skip, ↓wp_drop, ↓wp_ret, ↓wp_retN, ↓wp_brk, ↓wp_cnt, ↓wp_if, ↓wp_asg, ↓wp_to, ↓wp_tos, ↓wp_toIx, ↓wp_aug, ↓wp_augK, ↓wp_fldSet, ↓wp_fldAug, ↓wp_var, ↓wp_c, ↓wp_op, ↓wp_un, ↓wp_nil, ↓wp_cons, ↓wp_tup, ↓wp_lst, ↓wp_dict0, ↓wp_dict, ↓wp_pairs0, ↓wp_pairs, ↓wp_call, ↓wp_callF, ↓wp_tru, ↓wp_bl, ↓wp_and, ↓wp_or, ↓wp_not, ↓wp_andV, ↓wp_orV, ↓wp_notV, ↓wp_part, ↓wp_noPart, ↓wp_sl, ↓wp_bm, ↓wp_ifE, ↓wp_fld, ↓wp_meth, ↓wp_make, ↓wp_lockE, ↓wp_rng1, ↓wp_rng2, ↓wp_seqI, ↓wpR_ok, ↓wpS_nx, ↓wpS_rt, List.getElem?_cons_zero, List.getElem?_cons_succ, List.set_cons_zero, List.set_cons_succ, List.length_cons, List.length_nil, ↓reduceIte, decide_eq_true_eq, ev_add, ev_iadd, ev_sub, ev_mod, ev_neg, ev_lt, ev_le, ev_gt, ev_ge, ev_eqI, ev_neI, ev_eqS, ev_neS, ev_isN, ev_int, ev_abs, ev_max, ev_min, ev_lenT, ev_lenC, ev_tupT, Int.reduceLT, Int.reduceLE, Int.reduceNeg, Int.reduceAdd, Int.reduceSub, Int.reduceEq, Nat.reduceAdd, Nat.reduceSub, and_self, ↓List.map_cons, ↓List.map_nil, ↓List.cons_append, ↓List.nil_append, List.replicate]
    have e : dSl (D.ref h.length) none (some (m : Int)) (h ++ [.lst (acc'.map D.int)]) = .ok (.ref (h.length + 1)) (h ++ [.lst (acc'.map .int), .lst ((acc'.take m).map .int)]) := by
      have e1 : cutD (acc'.map D.int) none (some (m : Int)) = (acc'.take m).map .int := by
        unfold cutD
        have e2 : HT.sIx (acc'.map D.int).length 0 none = 0 := rfl
        have e3 : HT.sIx (acc'.map D.int).length (acc'.map D.int).length (some (m : Int)) = min m (acc'.map D.int).length := HT.sIx_nat _ _ _
        rw [e2, e3, List.drop_zero, Nat.sub_zero, List.map_take, List.take_eq_take_iff]
        omega
      simp only [dSl, List.getElem?_append_right (Nat.le_refl _), Nat.sub_self, List.getElem?_cons_zero, e1, List.length_append, List.length_cons, List.length_nil, List.append_assoc, List.cons_append, List.nil_append]
    rw [e, wpR_ok]
    exact k _ _ fun d hd => q2 d (List.mem_of_mem_take hd)
theorem drawsB_ok {h : HS} {ns : List Int} {m : Nat} (hl : ns.length ≤ 63) (hm : m ≤ 100000) :
    ∃ junk ds : List Int, runB 8 m_drawsB [.cst (ns.map .int), .int m] h = .ok (.ref (h.length + 1)) (h ++ [.lst (junk.map .int), .lst (ds.map .int)]) ∧ inR 997 ds := by
  have key : wpR (runB 8 m_drawsB [.cst (ns.map .int), .int m] h) (fun d h' => ∃ junk ds : List Int, d = .ref (h.length + 1) ∧ h' = h ++ [.lst (junk.map .int), .lst (ds.map .int)] ∧ inR 997 ds) X0 := by
    unfold m_drawsB
    simp only [↓wp_seq, ↓wp_skip, ↓wp_drop, ↓wp_ret, ↓wp_retN, ↓wp_brk, ↓wp_cnt, ↓wp_if, ↓wp_asg, ↓wp_to, ↓wp_tos, ↓wp_toIx, ↓wp_aug, ↓wp_augK, ↓wp_fldSet, ↓wp_fldAug, ↓wp_var, ↓wp_c, ↓wp_op, ↓wp_un, ↓wp_nil, ↓wp_cons, ↓wp_tup, ↓wp_lst, ↓wp_dict0, ↓wp_dict, ↓wp_pairs0, ↓wp_pairs, ↓wp_call, ↓wp_callF, ↓wp_tru, ↓wp_bl, ↓wp_and, ↓wp_or, ↓wp_not, ↓wp_andV, ↓wp_orV, ↓wp_notV, ↓wp_part, ↓wp_noPart, ↓wp_sl, ↓wp_bm, ↓wp_ifE, ↓wp_fld, ↓wp_meth, ↓wp_make, ↓wp_lockE, ↓wp_rng1, ↓wp_rng2, ↓wp_seqI, ↓wpR_ok, ↓wpS_nx, ↓wpS_rt, List.getElem?_cons_zero, List.getElem?_cons_succ, List.set_cons_zero, List.set_cons_succ, List.length_cons, List.length_nil, ↓reduceIte, decide_eq_true_eq, ev_add, ev_iadd, ev_sub, ev_mod, ev_neg, ev_lt, ev_le, ev_gt, ev_ge, ev_eqI, ev_neI, ev_eqS, ev_neS, ev_isN, ev_int, ev_abs, ev_max, ev_min, ev_lenT, ev_lenC, ev_tupT, Int.reduceLT, Int.reduceLE, Int.reduceNeg, Int.reduceAdd, Int.reduceSub, Int.reduceEq, Nat.reduceAdd, Nat.reduceSub, and_self, ↓List.map_cons, ↓List.map_nil, ↓List.cons_append, ↓List.nil_append, List.replicate, ↓wp_runB, ↓wp_forE, List.length_map, Nat.sub_self]
    rw [if_pos (by decide), if_pos (by omega)]
    refine wp_forR (fun j σ h' => ∃ (acc' : List Int) (mx' : Int) (a4 a5 a6 a7 : Option D), σ = [some (.cst (ns.map .int)), some (.int m), some (.ref h.length), some (.int mx'), a4, a5, a6, a7] ∧ h' = h ++ [.lst (acc'.map .int)] ∧ 0 ≤ mx' ∧ mx' < 65537 ∧ inR 997 acc' ∧ acc'.length ≤ 62 * j)
      ⟨[], 7, _, _, _, _, rfl, rfl, by decide, by decide, (fun _ h => by cases h), Nat.le_refl _⟩ ?_ ?_
    · rintro j σ h' ⟨acc', mx', a4, a5, a6, a7, rfl, rfl, q0, q1, q2, q3⟩ hj
      simp only [↓wp_seq, ↓wp_skip, ↓wp_drop, ↓wp_ret, ↓wp_retN, ↓wp_brk, ↓wp_cnt, ↓wp_if, ↓wp_asg, ↓wp_to, ↓wp_tos, ↓wp_toIx, ↓wp_aug, ↓wp_augK, ↓wp_fldSet, ↓wp_fldAug, ↓wp_var, ↓wp_c, ↓wp_op, ↓wp_un, ↓wp_nil, ↓wp_cons, ↓wp_tup, ↓wp_lst, ↓wp_dict0, ↓wp_dict, ↓wp_pairs0, ↓wp_pairs, ↓wp_call, ↓wp_callF, ↓wp_tru, ↓wp_bl, ↓wp_and, ↓wp_or, ↓wp_not, ↓wp_andV, ↓wp_orV, ↓wp_notV, ↓wp_part, ↓wp_noPart, ↓wp_sl, ↓wp_bm, ↓wp_ifE, ↓wp_fld, ↓wp_meth, ↓wp_make, ↓wp_lockE, ↓wp_rng1, ↓wp_rng2, ↓wp_seqI, ↓wpR_ok, ↓wpS_nx, ↓wpS_rt, List.getElem?_cons_zero, List.getElem?_cons_succ, List.set_cons_zero, List.set_cons_succ, List.length_cons, List.length_nil, ↓reduceIte, decide_eq_true_eq, ev_add, ev_iadd, ev_sub, ev_mod, ev_neg, ev_lt, ev_le, ev_gt, ev_ge, ev_eqI, ev_neI, ev_eqS, ev_neS, ev_isN, ev_int, ev_abs, ev_max, ev_min, ev_lenT, ev_lenC, ev_tupT, Int.reduceLT, Int.reduceLE, Int.reduceNeg, Int.reduceAdd, Int.reduceSub, Int.reduceEq, Nat.reduceAdd, Nat.reduceSub, and_self, ↓List.map_cons, ↓List.map_nil, ↓List.cons_append, ↓List.nil_append, List.replicate]
      rw [show (0 : Int) + (j : Int) = (j : Int) from by omega]
      refine wpS_mono (draws_b3 q0 q1 (by omega) q2 (by omega)) ?_
      rintro σ h2 ⟨acc2, mx2, _, _, _, _, rfl, rfl, p1, p2, p3, p4⟩
      exact ⟨acc2, mx2, _, _, _, _, rfl, rfl, p1, p2, p3, by omega⟩
    · intro σ h' hh
      obtain ⟨acc', mx', a4, a5, a6, a7, e1, e2, q0, q1, q2, q3⟩ := hh
      rw [Int.toNat_natCast] at q3
      rw [e1, e2]
      have hl2 : acc'.length < 100000 := by
        have q4 : 62 * ns.length ≤ 62 * 63 := Nat.mul_le_mul_left _ hl
        exact Nat.lt_of_le_of_lt q3 (Nat.lt_of_le_of_lt q4 (by decide))
      refine wpS_mono (draws_r6 hm q0 q1 q2 hl2 fun acc' ds hd => ⟨acc', ds, rfl, rfl, hd⟩) fun _ _ f => f.elim
  obtain ⟨d, h', e, junk, ds, rfl, rfl, q⟩ := wpR_elim key
  exact ⟨junk, ds, e, q⟩
end
end FL

set_option Elab.async false
set_option linter.all false
set_option maxRecDepth 100000
set_option maxHeartbeats 400000
/-! FL, part k: data without places compares as itself; the bag of draws at its place. -/
namespace FL
open PySem PySem.Spec PyProof.Rows L2
/-- data of a depth, without places -/
def okD : Nat → D → Bool
  | 0, _ => false
  | n + 1, d => match d with
    | .non => true
    | .bl _ => true
    | .int _ => true
    | .str x => PyData.strOk x
    | .tup ds => ds.all (okD n)
    | _ => false
theorem okD_up : ∀ {n : Nat} {d : D}, okD n d = true → okD (n + 1) d = true
  | 0, d, e => by cases e
  | n + 1, d, e => by
    cases d <;> first | rfl | exact e | skip
    rename_i ds
    simp only [okD, List.all_eq_true] at e ⊢
    intro x hx
    exact okD_up (e x hx)
theorem okD_le {n m : Nat} {d : D} (h : n ≤ m) (e : okD n d = true) : okD m d = true := by
  induction h with
  | refl => exact e
  | step _ ih => exact okD_up ih
/-- what it reads as -/
theorem okD_py : ∀ {n : Nat} {d : D}, okD n d = true → ∃ p : PyData, (∀ (m : Nat) (h : HS), n ≤ m → pyD m h d = some p) ∧ p.canLay0 = true ∧ p.depth ≤ n
  | 0, d, e => by cases e
  | n + 1, d, e => by
    cases d with
    | non => exact ⟨.none, fun m h hm => by obtain ⟨k, rfl⟩ := Nat.exists_eq_add_of_lt hm; rfl, rfl, Nat.zero_le _⟩
    | bl b => exact ⟨.bool b, fun m h hm => by obtain ⟨k, rfl⟩ := Nat.exists_eq_add_of_lt hm; rfl, rfl, Nat.zero_le _⟩
    | int i => exact ⟨.int i, fun m h hm => by obtain ⟨k, rfl⟩ := Nat.exists_eq_add_of_lt hm; rfl, rfl, Nat.zero_le _⟩
    | str x => exact ⟨.str x, fun m h hm => by obtain ⟨k, rfl⟩ := Nat.exists_eq_add_of_lt hm; rfl, by simp only [PyData.canLay0]; exact e, Nat.zero_le _⟩
    | ty _ => cases e
    | ref _ => cases e
    | cst _ => cases e
    | tup ds =>
      have all : ∀ l : List D, l.all (okD n) = true → ∃ ps : List PyData, (∀ (m : Nat) (h : HS), n ≤ m → l.mapM (pyD m h) = some ps) ∧ PyData.canLayAll0 ps = true ∧ PyData.depthAll ps ≤ n := by
        intro l
        induction l with
        | nil => intro _; exact ⟨[], fun m h _ => rfl, rfl, Nat.zero_le _⟩
        | cons x l ih =>
          intro hl
          rw [List.all_cons, Bool.and_eq_true] at hl
          obtain ⟨p, p1, p2, p3⟩ := okD_py hl.1
          obtain ⟨ps, q1, q2, q3⟩ := ih hl.2
          refine ⟨p :: ps, fun m h hm => ?_, ?_, ?_⟩
          · rw [List.mapM_cons, p1 m h hm, q1 m h hm]; rfl
          · simp only [PyData.canLayAll0, p2, q2, Bool.and_self]
          · simp only [PyData.depthAll]
            exact Nat.max_le.mpr ⟨p3, q3⟩
      obtain ⟨ps, q1, q2, q3⟩ := all ds e
      refine ⟨.tuple ps, fun m h hm => ?_, ?_, ?_⟩
      · obtain ⟨k, rfl⟩ := Nat.exists_eq_add_of_lt hm
        show (ds.mapM (pyD (n + k) h)).map PyData.tuple = _
        rw [q1 _ h (by omega)]
        rfl
      · simp only [PyData.canLay0, q2]
      · simp only [PyData.depth]
        omega
theorem okDs_py {n : Nat} : ∀ {l : List D}, l.all (okD n) = true → ∃ ps : List PyData, (∀ (m : Nat) (h : HS), n ≤ m → l.mapM (pyD m h) = some ps) ∧ PyData.canLayAll0 ps = true ∧ PyData.depthAll ps ≤ n
  | [], _ => ⟨[], fun m h _ => rfl, rfl, Nat.zero_le _⟩
  | x :: l, hl => by
    rw [List.all_cons, Bool.and_eq_true] at hl
    obtain ⟨p, p1, p2, p3⟩ := okD_py hl.1
    obtain ⟨ps, q1, q2, q3⟩ := okDs_py hl.2
    refine ⟨p :: ps, fun m h hm => ?_, ?_, ?_⟩
    · rw [List.mapM_cons, p1 m h hm, q1 m h hm]; rfl
    · simp only [PyData.canLayAll0, p2, q2, Bool.and_self]
    · simp only [PyData.depthAll]
      exact Nat.max_le.mpr ⟨p3, q3⟩
theorem shaped_ok {p : PyData} (h : p.canLay0 = true) (hd : p.depth ≤ 64) : SeqAt.shaped p = true := by
  unfold SeqAt.shaped
  rw [h, decide_eq_true hd]; rfl
section
variable {h : HS} {ds : List D} {n i j : Nat}
/-- two places with the same list -/
theorem eqB_lst (hi : h[i]? = some (.lst ds)) (hj : h[j]? = some (.lst ds)) (ok : ds.all (okD n) = true) (hn : n ≤ 60) : eqB (.ref i) (.ref j) h = some true := by
  obtain ⟨ps, q1, q2, q3⟩ := okDs_py ok
  have c : PyData.canLay0 (.list ps) = true := by simp only [PyData.canLay0, q2]
  have s : SeqAt.shaped (.list ps) = true := shaped_ok c (by simp only [PyData.depth]; omega)
  have e1 : ∀ k, h[k]? = some (.lst ds) → pyD 66 h (.ref k) = some (.list ps) := fun k hk => by
    show (match h[k]? with
      | some (.lst ds) => (ds.mapM (pyD 65 h)).map PyData.list
      | _ => none) = _
    rw [hk]
    show (ds.mapM (pyD 65 h)).map PyData.list = _
    rw [q1 65 h (by omega)]; rfl
  show eqDeep (.ref i) (.ref j) h = _
  unfold eqDeep
  rw [e1 i hi, e1 j hj]
  simp only [s, Bool.and_self, if_true]
  rw [SeqAt.eqv_refl _ c]
theorem eqB_tup (ok : ds.all (okD n) = true) (hn : n ≤ 60) : eqB (.tup ds) (.tup ds) h = some true := by
  obtain ⟨p, q1, q2, q3⟩ := okD_py (n := n + 1) (d := .tup ds) ok
  have s : SeqAt.shaped p = true := shaped_ok q2 (by omega)
  show eqDeep (.tup ds) (.tup ds) h = _
  unfold eqDeep
  rw [q1 66 h (by omega)]
  simp only [s, Bool.and_self, if_true]
  rw [SeqAt.eqv_refl _ q2]
theorem dNe_lst (hi : h[i]? = some (.lst ds)) (hj : h[j]? = some (.lst ds)) (ok : ds.all (okD n) = true) (hn : n ≤ 60) : dNe (.ref i) (.ref j) h = .ok (.bl false) h := by
  unfold dNe
  rw [eqB_lst hi hj ok hn]; rfl
theorem dEq_lst (hi : h[i]? = some (.lst ds)) (hj : h[j]? = some (.lst ds)) (ok : ds.all (okD n) = true) (hn : n ≤ 60) : dEq (.ref i) (.ref j) h = .ok (.bl true) h := by
  unfold dEq
  rw [eqB_lst hi hj ok hn]
theorem dNe_tup (ok : ds.all (okD n) = true) (hn : n ≤ 60) : dNe (.tup ds) (.tup ds) h = .ok (.bl false) h := by
  unfold dNe
  rw [eqB_tup ok hn]; rfl
theorem dEq_tup (ok : ds.all (okD n) = true) (hn : n ≤ 60) : dEq (.tup ds) (.tup ds) h = .ok (.bl true) h := by
  unfold dEq
  rw [eqB_tup ok hn]
end
theorem sz0 : (0 ≤ sizeLine) = True := eq_true (by decide)
theorem sz1 : (1 ≤ sizeLine) = True := eq_true (by decide)
theorem sz2 : (2 ≤ sizeLine) = True := eq_true (by decide)
theorem sz3 : (3 ≤ sizeLine) = True := eq_true (by decide)
theorem sz4 : (4 ≤ sizeLine) = True := eq_true (by decide)
theorem sz5 : (5 ≤ sizeLine) = True := eq_true (by decide)
theorem sz6 : (6 ≤ sizeLine) = True := eq_true (by decide)
theorem sz7 : (7 ≤ sizeLine) = True := eq_true (by decide)
theorem sz8 : (8 ≤ sizeLine) = True := eq_true (by decide)
theorem sz9 : (9 ≤ sizeLine) = True := eq_true (by decide)
theorem ev_keyI {i : Int} : keyD (.int i) = some (.inl i) := rfl
theorem ev_keyS {x : Str} : keyD (.str x) = some (.inr x) := rfl
/-! ### members of short tuples; a part at a heap's end -/
section
variable {h l x : HS} {ds : List D} {u v w z : D} {o : MO} {k : Nat}
theorem ixT0 : dIx (.tup (u :: ds)) (.int 0) h = .ok u h := ev_ixT (atI_nat (j := 0) rfl)
theorem ixT1 : dIx (.tup (u :: v :: ds)) (.int 1) h = .ok v h := ev_ixT (atI_nat (j := 1) rfl)
theorem ixT2 : dIx (.tup (u :: v :: w :: ds)) (.int 2) h = .ok w h := ev_ixT (atI_nat (j := 2) rfl)
theorem ixT3 : dIx (.tup (u :: v :: w :: z :: ds)) (.int 3) h = .ok z h := ev_ixT (atI_nat (j := 3) rfl)
theorem ixTm1 : dIx (.tup [u]) (.int (-1)) h = .ok u h := rfl
theorem ixTm2 : dIx (.tup [u, v]) (.int (-1)) h = .ok v h := rfl
theorem ixTm3 : dIx (.tup [u, v, w]) (.int (-1)) h = .ok w h := rfl
def onH (h l : HS) : HS := h ++ l
theorem onH_nil (h : HS) : onH h [] = h := List.append_nil h
theorem onH_get : (onH h l)[h.length + k]? = l[k]? := by
  unfold onH
  rw [List.getElem?_append_right (by omega)]
  congr 1
  omega
theorem onH_set : (onH h l).set (h.length + k) o = onH h (l.set k o) := by
  unfold onH
  rw [List.set_append_right _ _ (by omega), show h.length + k - h.length = k from by omega]
theorem onH_push : onH h l ++ x = onH h (l ++ x) := List.append_assoc _ _ _
theorem onH_len : (onH h l).length = h.length + l.length := List.length_append
theorem dSet_dK {kvs : List (Key × D)} {i : D} {q : Key} {p : Nat} {d : D} (hp : h[p]? = some (.dK kvs)) (hi : keyD i = some q) (hl : kvs.length < sizeLine) : dSet (.ref p) i d h = some (h.set p (.dK (setK kvs q d))) := by
  simp only [dSet, hp, hi, if_pos hl]
end
/-! ### loops over a list at a place, a tuple; places that stay -/
theorem get_push {h l : HS} {i : Nat} {o : MO} (e : h[i]? = some o) : (h ++ l)[i]? = some o := by
  rw [List.getElem?_append_left (List.getElem?_eq_some_iff.mp e).1, e]
theorem get_set {h : HS} {i : Nat} {o o' : MO} (e : h[i]? = some o) : (h.set i o')[i]? = some o' := List.getElem?_set_self (List.getElem?_eq_some_iff.mp e).1
theorem get_other {h : HS} {i j : Nat} {x : Option MO} {o : MO} (n : i ≠ j) (e : h[j]? = x) : (h.set i o)[j]? = x := by rw [List.getElem?_set_ne n, e]
theorem insD_at {h : HS} {i : Nat} {C : Addr} {fs : List (Str × D)} {Cs : List Addr} (e : h[i]? = some (.ins C fs)) (hc : C ∈ Cs) : insD Cs h (.ref i) = some (i, C, fs) := by
  simp only [insD, e, if_pos hc]
theorem ev_eqB {h : HS} {a b : Bool} : dEq (.bl a) (.bl b) h = .ok (D.bl (decide (a = b))) h := by
  show R.ok (D.bl (decide (V.bl a = V.bl b))) h = _
  simp
theorem ev_neB {h : HS} {a b : Bool} : dNe (.bl a) (.bl b) h = .ok (D.bl (!decide (a = b))) h := by
  show R.ok (D.bl (!decide (V.bl a = V.bl b))) h = _
  simp
section
variable {σ : Sl} {h : HS} {g : FG} {u : FS} {N : Sl → HS → Prop} {T : Tl} {X : XP} {p : Nat} {ds : List D}
theorem wp_forS (hp : h[p]? = some (.lst ds)) (I : Nat → Sl → HS → Prop) (h0 : I 0 σ h) (keep : ∀ j σ h, I j σ h → h[p]? = some (.lst ds))
    (step : ∀ (j : Nat) (hj : j < ds.length) (σ : Sl) (h : HS), I j σ h → wpR (g ds[j] σ h) (fun σ h => wpS (u σ h) (I (j + 1)) { T with ct := I (j + 1), bk := N }) (fun x h => T.ex x σ h))
    (fin : ∀ σ h, I ds.length σ h → N σ h) : wpR (itSeq (.ref p) h) (fun J h => wpS (forL g u J J.n 0 σ h) N T) X := by
  have e : lstAt h p = some ds := by simp only [lstAt, hp]
  simp only [itSeq, e, wpR_ok]
  refine wp_forL _ I h0 (fun j σ h i hj => ⟨ds[j], ?_, step j hj σ h i⟩) fun σ h i => ⟨?_, fin σ h i⟩
  · have e2 : lstAt h p = some ds := by simp only [lstAt, keep j σ h i]
    simp only [e2, Option.bind]
    exact List.getElem?_eq_getElem hj
  · have e2 : lstAt h p = some ds := by simp only [lstAt, keep _ σ h i]
    simp only [e2, Option.any, Nat.le_refl, decide_true]
theorem wp_forT (I : Nat → Sl → HS → Prop) (h0 : I 0 σ h)
    (step : ∀ (j : Nat) (hj : j < ds.length) (σ : Sl) (h : HS), I j σ h → wpR (g ds[j] σ h) (fun σ h => wpS (u σ h) (I (j + 1)) { T with ct := I (j + 1), bk := N }) (fun x h => T.ex x σ h))
    (fin : ∀ σ h, I ds.length σ h → N σ h) : wpR (itSeq (.tup ds) h) (fun J h => wpS (forL g u J J.n 0 σ h) N T) X := by
  simp only [itSeq, wpR_ok]
  exact wp_forL _ I h0 (fun j σ h i hj => ⟨ds[j], List.getElem?_eq_getElem hj, step j hj σ h i⟩) fun σ h i => ⟨rfl, fin σ h i⟩
variable {tg : Tgt} {tt : FT} {te : FE} {P : List D → HS → Prop} {X' : XP}
theorem wp_lcS (hp : h[p]? = some (.lst ds)) (I : Nat → List D → HS → Prop) (h0 : I 0 [] h) (keep : ∀ j acc h, I j acc h → h[p]? = some (.lst ds))
    (step : ∀ (j : Nat) (hj : j < ds.length) (acc : List D) (h : HS), I j acc h → wpR (tg.m ds[j] σ h) (fun σ h => wpR (tt σ h) (fun b h => if b = true then wpR (te σ h) (fun y h => acc.length < sizeLine ∧ I (j + 1) (acc ++ [y]) h) X0 else I (j + 1) acc h) X0) X0)
    (fin : ∀ acc h, I ds.length acc h → P acc h) : wpR (itSeq (.ref p) h) (fun J h => wpR (lcL tg tt te J σ J.n 0 [] h) P X') X := by
  have e : lstAt h p = some ds := by simp only [lstAt, hp]
  simp only [itSeq, e, wpR_ok]
  refine wp_lcL _ I h0 (fun j acc h i hj => ⟨ds[j], ?_, step j hj acc h i⟩) fun acc h i => ⟨?_, fin acc h i⟩
  · have e2 : lstAt h p = some ds := by simp only [lstAt, keep j acc h i]
    simp only [e2, Option.bind]
    exact List.getElem?_eq_getElem hj
  · have e2 : lstAt h p = some ds := by simp only [lstAt, keep _ acc h i]
    simp only [e2, Option.any, Nat.le_refl, decide_true]
theorem wp_lcR {lo : Int} {n : Nat} (I : Nat → List D → HS → Prop) (h0 : I 0 [] h)
    (step : ∀ (j : Nat), j < n → ∀ (acc : List D) (h : HS), I j acc h → wpR (tg.m (.int (lo + j)) σ h) (fun σ h => wpR (tt σ h) (fun b h => if b = true then wpR (te σ h) (fun y h => acc.length < sizeLine ∧ I (j + 1) (acc ++ [y]) h) X0 else I (j + 1) acc h) X0) X0)
    (fin : ∀ acc h, I n acc h → P acc h) : wpR (lcL tg tt te (itRange lo n) σ (itRange lo n).n 0 [] h) P X' :=
  wp_lcL _ I h0 (fun j acc h i hj => ⟨_, rfl, step j hj acc h i⟩) fun acc h i => ⟨rfl, fin acc h i⟩
theorem wp_lcV {kvs : List (Key × D)} (hp : h[p]? = some (.fdK kvs)) (I : Nat → List D → HS → Prop) (h0 : I 0 [] h)
    (step : ∀ (j : Nat) (hj : j < kvs.length) (acc : List D) (h : HS), I j acc h → wpR (tg.m (kvs[j]).2 σ h) (fun σ h => wpR (tt σ h) (fun b h => if b = true then wpR (te σ h) (fun y h => acc.length < sizeLine ∧ I (j + 1) (acc ++ [y]) h) X0 else I (j + 1) acc h) X0) X0)
    (fin : ∀ acc h, I kvs.length acc h → P acc h) : wpR (itVals (.ref p) h) (fun J h => wpR (lcL tg tt te J σ J.n 0 [] h) P X') X := by
  have e : fdAt h p = some kvs := by simp only [fdAt, hp]
  simp only [itVals, e, wpR_ok]
  refine wp_lcL _ I h0 (fun j acc h i hj => ⟨(kvs[j]).2, ?_, step j hj acc h i⟩) fun acc h i => ⟨rfl, fin acc h i⟩
  show (kvs[j]?).map (·.2) = _
  rw [List.getElem?_eq_getElem hj]; rfl
theorem wp_one {i : Nat} {d : D} {Q : Sl → HS → Prop} : wpR ((Tgt.one i).m d σ h) Q X ↔ Q (σ.set i (some d)) h := wp_to
theorem wp_many {is : List Nat} {d : D} {Q : Sl → HS → Prop} : wpR ((Tgt.many is).m d σ h) Q X ↔ match d with
  | .tup ds => match setAll is ds σ with
    | some σ' => Q σ' h
    | none => False
  | _ => False := wp_tos
theorem wp_yes {Q : Bool → HS → Prop} : wpR (mYes σ h) Q X ↔ Q true h := wpR_ok
theorem wp_valsI {e : FE} {Q : ItD → HS → Prop} : wpR (mValsI e σ h) Q X ↔ wpR (e σ h) (fun d h => wpR (itVals d h) Q X) X := wpR_bind
theorem wp_keysI {e : FE} {Q : ItD → HS → Prop} : wpR (mKeysI e σ h) Q X ↔ wpR (e σ h) (fun d h => wpR (itKeys d h) Q X) X := wpR_bind
end
/-! ### the heap of a law of the k60 family: draws, bag, then what else there is -/
theorem nxB_lt {ds : List Int} {a : Nat} {m : Int} (hd : inR 997 ds) (hm : 0 < m) : 0 ≤ nxB ds a m ∧ nxB ds a m < m := by
  unfold nxB
  split
  · omega
  · exact ⟨Int.emod_nonneg _ (by omega), Int.emod_lt_of_pos _ hm⟩
/-- the fixed part, the part of before, the part at work -/
def mkB (js ds : List Int) (a : Nat) (r l : HS) : HS := .lst (js.map .int) :: .lst (ds.map .int) :: bagB 1 a :: (r ++ l)
def pB (r : HS) : Nat := r.length + 3
section
variable {js ds : List Int} {a : Nat} {r l : HS} {m : Int} {o : MO} {k : Nat}
theorem mkB_next (hm : 0 < m) : runB 2 m_nextB [.ref 2, .int m] (mkB js ds a r l) = .ok (.int (nxB ds a m)) (mkB js ds (a + 1) r l) := nextB_ok (r := 1) rfl rfl hm
theorem mkB_get : (mkB js ds a r l)[pB r + k]? = l[k]? := by
  have e : pB r + k = r.length + k + 1 + 1 + 1 := by unfold pB; omega
  rw [e]
  show (r ++ l)[r.length + k]? = _
  rw [List.getElem?_append_right (by omega)]
  congr 1
  omega
theorem mkB_set : (mkB js ds a r l).set (pB r + k) o = mkB js ds a r (l.set k o) := by
  have e : pB r + k = r.length + k + 1 + 1 + 1 := by unfold pB; omega
  rw [e]
  show MO.lst (js.map .int) :: .lst (ds.map .int) :: bagB 1 a :: ((r ++ l).set (r.length + k) o) = _
  rw [List.set_append_right _ _ (by omega), show r.length + k - r.length = k from by omega]
  rfl
theorem mkB_push {x : HS} : mkB js ds a r l ++ x = mkB js ds a r (l ++ x) := by simp [mkB]
theorem mkB_len : (mkB js ds a r l).length = pB r + l.length := by
  simp [mkB, pB]
  omega
end
/-! ### a heap that grew while draws were taken -/
theorem set_self {h : HS} {p : Nat} {o : MO} (e : h[p]? = some o) : h.set p o = h := by
  obtain ⟨hp, e⟩ := List.getElem?_eq_some_iff.mp e
  subst e
  exact List.set_getElem_self hp
theorem set_setp {h l : HS} {i : Nat} {o o' : MO} (hi : i < h.length) : (h.set i o ++ l).set i o' = h.set i o' ++ l := by
  rw [List.set_append_left _ _ (by rw [List.length_set]; exact hi), List.set_set]
/-- h is h0 but for the draws taken and what was laid behind -/
def Dw (ds : List Int) (h0 h : HS) : Prop := h0[1]? = some (.lst (ds.map .int)) ∧ 2 < h0.length ∧ ∃ (a : Nat) (l : HS), h = h0.set 2 (bagB 1 a) ++ l
section
variable {ds : List Int} {h0 h h1 l : HS} {a i : Nat} {m : Int} {P : D → HS → Prop} {X : XP} {o : MO}
theorem Dw.refl (hb : h0[2]? = some (bagB 1 a)) (hd : h0[1]? = some (.lst (ds.map .int))) : Dw ds h0 h0 :=
  ⟨hd, (List.getElem?_eq_some_iff.mp hb).1, a, [], by rw [set_self hb, List.append_nil]⟩
theorem Dw.push (w : Dw ds h0 h) : Dw ds h0 (h ++ l) := by
  obtain ⟨w1, w2, a, l1, rfl⟩ := w
  exact ⟨w1, w2, a, l1 ++ l, List.append_assoc _ _ _⟩
theorem Dw.get (w : Dw ds h0 h) (n : i ≠ 2) (e : h0[i]? = some o) : h[i]? = some o := by
  obtain ⟨w1, w2, a, l1, rfl⟩ := w
  exact get_push (get_other (Ne.symm n) e)
theorem Dw.bag (w : Dw ds h0 h) : ∃ a, h[2]? = some (bagB 1 a) ∧ h[1]? = some (.lst (ds.map .int)) := by
  obtain ⟨w1, w2, a, l1, rfl⟩ := w
  exact ⟨a, get_push (List.getElem?_set_self w2), get_push (get_other (by decide) w1)⟩
theorem Dw.le (w : Dw ds h0 h) : h0.length ≤ h.length := by
  obtain ⟨w1, w2, a, l1, rfl⟩ := w
  rw [List.length_append, List.length_set]
  omega
theorem Dw.trans (w : Dw ds h0 h) (v : Dw ds h h1) : Dw ds h0 h1 := by
  obtain ⟨w1, w2, a, l1, rfl⟩ := w
  obtain ⟨v1, v2, b, l2, rfl⟩ := v
  refine ⟨w1, w2, b, l1 ++ l2, ?_⟩
  rw [set_setp w2, List.append_assoc]
theorem Dw.self (w : Dw ds h0 h) : Dw ds h h := by
  obtain ⟨a, e1, e2⟩ := w.bag
  exact Dw.refl e1 e2
/-- a draw -/
theorem Dw.next (hd : inR 997 ds) (w : Dw ds h0 h) (hm : 0 < m) (k : ∀ (v : Int) (h' : HS), 0 ≤ v → v < m → Dw ds h0 h' → P (.int v) h') : wpR (runB 2 m_nextB [.ref 2, .int m] h) P X := by
  obtain ⟨b, e1, e2⟩ := w.bag
  rw [nextB_ok e1 e2 hm, wpR_ok]
  obtain ⟨q1, q2⟩ := nxB_lt (a := b) hd hm
  refine k _ _ q1 q2 ?_
  obtain ⟨w1, w2, a, l1, rfl⟩ := w
  exact ⟨w1, w2, b + 1, l1, set_setp w2⟩
end
end FL

set_option Elab.async false
set_option linter.all false
set_option maxRecDepth 100000
/-! FL, part l: defs that call themselves; reversed; constants of the module. -/
namespace FL
open PySem PySem.Spec PyProof.Rows L2
section
variable {P : Program} {w : World} {K : PySem.W.Frag} {mg : Str → Option Value} {base : Heap}
/-- no fuel left: nothing is promised -/
theorem fn_bad {k : Nat} {f : Addr} {fd : FuncData} {ps : List Str} {n : Nat} (hn : n = ps.length) : FnOk P w K mg base (L2.CX P w) k f fd ps (spF K n fun _ _ => .bad) :=
  ⟨fun vs H Q E q => by obtain ⟨_, _, _, _, _, hl, _⟩ := q; rw [hl, hn], fun A outer s H args us vs Q E hr he hb hv hs => by obtain ⟨_, _, _, _, _, _, p⟩ := hs; exact p.elim⟩
end
/-! ### reversed -/
def itRev (d : D) (h : HS) : R ItD := match d with
  | .tup ds => .ok ⟨ds.length, fun j _ => ds[ds.length - 1 - j]?, fun _ => true⟩ h
  | .cst ds => .ok ⟨ds.length, fun j _ => ds[ds.length - 1 - j]?, fun _ => true⟩ h
  | .ref i => match lstAt h i with
    | some ds => .ok ⟨ds.length, fun j h' => (lstAt h' i).bind fun ds' => ds'[ds.length - 1 - j]?, fun _ => true⟩ h
    | none => .bad
  | _ => .bad
def mRevI (m : FE) : FI := fun σ h => (m σ h).bind itRev
section
variable {X : Cx} {W : WX} {tg e : Expr} {m : FE}
theorem gi_rev {p pos : Pos} (hm : X.mg "reversed" = none) (he : GE X W e m) (hg : Gl X "reversed" := by rfl) (hs : starEach [e] X.env = (false, eval e X.env) :: starEach [] X.env := by rfl) : GI X W tg (.Call (.Name "reversed" p) [e] [] pos) (mRevI m) :=
  pi_mono (RT.pi_revA hg hm he hs) fun σ H Q ⟨ρ, σh, h, r, s, p⟩ => ⟨ρ, σh, h, r, s, Post.of_bind p fun d h1 ρ1 v H1 e1 r1 z1 p1 => by
    cases z1 with
    | tup q zs =>
      rename_i a vs ds
      refine ⟨_, vs, rfl, .inr ⟨q, p1.use r1 fun ρ h H r e => ?_⟩⟩
      have q' := sqT_kp (.of r1 e) q
      have zs' := zs.mono r1 e
      refine ⟨fun j d hj hd => ?_, fun _ => by rw [zs.length]; exact Nat.le_refl _⟩
      obtain ⟨v, ev, zv⟩ := zs'.get hd
      rw [zs.length] at hj ev
      exact ⟨⟨hj, vs, v, q', ev⟩, fun x H' ⟨eH, hx⟩ => by
        subst eH
        have := hx vs q'
        rw [ev] at this; cases this
        exact ⟨.refl, r, zv⟩⟩
    | cst q zs =>
      rename_i a vs ds
      refine ⟨_, vs, rfl, .inl ⟨q.sq, p1.use r1 fun ρ h H r e => ?_⟩⟩
      have q' := (csL_kp (.of r1 e) q).sq
      have zs' := zs.mono r1 e
      refine ⟨fun j d hj hd => ?_, fun _ => by rw [zs.length]; exact Nat.le_refl _⟩
      obtain ⟨v, ev, zv⟩ := zs'.get hd
      rw [zs.length] at hj ev
      exact ⟨⟨hj, vs, v, q', ev⟩, fun x H' ⟨eH, hx⟩ => by
        subst eH
        have := hx vs q'
        rw [ev] at this; cases this
        exact ⟨.refl, r, zv⟩⟩
    | ref q =>
      rename_i i a
      unfold itRev at p1
      simp only at p1
      cases q1 : lstAt h1 i with
      | none => rw [q1] at p1; exact p1.elim
      | some ds =>
        rw [q1] at p1
        obtain ⟨vs, hv, zs⟩ := lstAt_ok r1 q q1
        refine ⟨_, vs, rfl, .inl ⟨SqL.of hv, p1.use r1 fun ρ h H r e => ?_⟩⟩
        have q' := e.ix q
        refine ⟨fun j d hj hd => ?_, fun _ => by rw [zs.length]; exact Nat.le_refl _⟩
        obtain ⟨ds', e2, e3⟩ := Option.bind_eq_some_iff.mp hd
        obtain ⟨vs', hv', zs'⟩ := lstAt_ok r q' e2
        obtain ⟨v, ev, zv⟩ := zs'.get e3
        rw [zs.length] at hj ev
        exact ⟨⟨hj, vs', v, SqL.of hv', ev⟩, fun x H' ⟨eH, hx⟩ => by
          subst eH
          have := hx vs' (SqL.of hv')
          rw [ev] at this; cases this
          exact ⟨.refl, r, zv⟩⟩
    | _ => exact p1.elim⟩
end
/-! ### constants of the module -/
mutual
/-- a value of the written part that reads as data -/
inductive KDv (K : PySem.W.Frag) : D → Value → Prop where
  | non : KDv K .non .none
  | bl (b : Bool) : KDv K (.bl b) (.bool b)
  | int (i : Int) (t : Tok) : KDv K (.int i) (.int i t)
  | str (x : Str) (t : Tok) : KDv K (.str x) (.str x t)
  | tup {a : Addr} {ds : List D} {od : Option Addr} {its : Array Value} {n : Nat} {sl : Array (Option Value)} (l : K.lookup a = some ⟨.type "tuple", od, .seq its n, sl⟩) (hl : its.size ≤ sizeLine) (all : KDvs K ds its.toList) : KDv K (.tup ds) (.ref a)
inductive KDvs (K : PySem.W.Frag) : List D → List Value → Prop where
  | nil : KDvs K [] []
  | cons {d : D} {u : Value} {ds : List D} {us : List Value} (h : KDv K d u) (t : KDvs K ds us) : KDvs K (d :: ds) (u :: us)
end
mutual
theorem KDv.ok {K : PySem.W.Frag} : ∀ {d : D} {u : Value}, KDv K d u → ∃ v : V, RelV v u ∧ ∀ ρ H, DV K ρ H d v
  | _, _, .non => ⟨.non, rfl, fun _ _ => .non⟩
  | _, _, .bl b => ⟨.bl b, rfl, fun _ _ => .bl b⟩
  | _, _, .int i t => ⟨.int i, ⟨t, rfl⟩, fun _ _ => .int i⟩
  | _, _, .str x t => ⟨.str x, ⟨t, rfl⟩, fun _ _ => .str x⟩
  | _, _, .tup l hl all => by
    obtain ⟨vs, h1, h2⟩ := all.ok
    exact ⟨.ref _, rfl, fun ρ H => .tup (.inr ⟨_, _, _, l, rfl, rfl, hl, h1⟩) (h2 ρ H)⟩
theorem KDvs.ok {K : PySem.W.Frag} : ∀ {ds : List D} {us : List Value}, KDvs K ds us → ∃ vs : List V, Vals vs us ∧ ∀ ρ H, DVs K ρ H ds vs
  | _, _, .nil => ⟨[], .nil, fun _ _ => .nil⟩
  | _, _, .cons h t => by
    obtain ⟨v, h1, h2⟩ := h.ok
    obtain ⟨vs, t1, t2⟩ := t.ok
    exact ⟨v :: vs, .cons h1 t1, fun ρ H => .cons (h2 ρ H) (t2 ρ H)⟩
end
/-- what a name of the module stands for -/
def KName (K : PySem.W.Frag) (mg : Str → Option Value) (x : Str) (d : D) : Prop := ∃ u, mg x = some u ∧ KDv K d u
theorem g_glob {X : Cx} {W : WX} {x : Str} {d : D} {pos : Pos} (h : KName X.K X.mg x d) (hg : Gl X x := by rfl) (hd : (x == ("__debug__" : Str)) = false := by decide) : GE X W (.Name x pos) (mC d) := by
  obtain ⟨u, hm, k⟩ := h
  obtain ⟨v, r, z⟩ := k.ok
  exact pe_mono (pe_glob hg hm r hd) fun σ H Q ⟨ρ, σh, h, rr, s, p⟩ => p.use rr (z ρ H)
end FL

set_option Elab.async false
set_option linter.all false
set_option maxRecDepth 100000
/-! FL, part m: sorted of texts. -/
namespace FL
open PySem PySem.Spec PyProof.Rows L2
/-! ### the order of texts -/
def leS (a b : Str) : Prop := a.cps.toList ≤ b.cps.toList
instance (a b : Str) : Decidable (leS a b) := by unfold leS; infer_instance
def leB (a b : Str) : Bool := decide (leS a b)
theorem leS_trans {a b c : Str} (h1 : leS a b) (h2 : leS b c) : leS a c := List.le_trans h1 h2
theorem leS_total (a b : Str) : leS a b ∨ leS b a := List.le_total _ _
theorem leS_anti {a b : Str} (h1 : leS a b) (h2 : leS b a) : a = b := by
  have e := List.le_antisymm h1 h2
  obtain ⟨⟨l⟩⟩ := a
  obtain ⟨⟨m⟩⟩ := b
  simp only at e
  subst e
  rfl
def sortS (xs : List Str) : List Str := xs.mergeSort leB
theorem sortS_perm (xs : List Str) : (sortS xs).Perm xs := List.mergeSort_perm xs _
theorem sortS_sorted (xs : List Str) : (sortS xs).Pairwise leS := by
  have h := List.pairwise_mergeSort (le := leB) (fun a b c h1 h2 => decide_eq_true (leS_trans (of_decide_eq_true h1) (of_decide_eq_true h2))) (fun a b => by
    rw [Bool.or_eq_true]
    exact (leS_total a b).imp (fun h => decide_eq_true h) fun h => decide_eq_true h) xs
  exact h.imp fun h => of_decide_eq_true h
theorem rising_pw : ∀ (l : List Str) (p : Str), risingS p l = true → (p :: l).Pairwise leS
  | [], p, _ => List.pairwise_singleton _ _
  | x :: r, p, h => by
    have h0 : (!ltCps x.cps.toList p.cps.toList && risingS x r) = true := h
    rw [Bool.and_eq_true] at h0
    have ih := rising_pw r x h0.2
    have hp : leS p x := by
      have q := h0.1
      rw [ltCps_eq, Bool.not_eq_true', decide_eq_false_iff_not] at q
      exact List.not_lt.mp q
    refine List.pairwise_cons.mpr ⟨fun y hy => ?_, ih⟩
    rcases List.mem_cons.mp hy with e | e
    · rw [e]; exact hp
    · exact leS_trans hp ((List.pairwise_cons.mp ih).1 y e)
theorem sorted_pw {l : List Str} (h : sortedS l = true) : l.Pairwise leS := by
  cases l with
  | nil => exact List.Pairwise.nil
  | cons x r => exact rising_pw r x h
theorem sortS_eq {xs ys : List Str} (hp : ys.Perm xs) (hs : ys.Pairwise leS) : ys = sortS xs :=
  List.Perm.eq_of_pairwise (fun a b _ _ h1 h2 => leS_anti h1 h2) hs (sortS_sorted xs) (hp.trans (sortS_perm xs).symm)
/-! ### sorted -/
def unS : D → Option Str
  | .str x => some x
  | _ => none
def strsD : List D → Option (List Str)
  | [] => some []
  | d :: ds => match FL.unS d, strsD ds with
    | some i, some is => some (i :: is)
    | _, _ => none
theorem strsD_eq : ∀ {ds : List D} {xs : List Str}, strsD ds = some xs → ds = xs.map D.str
  | [], xs, e => by cases e; rfl
  | d :: ds, xs, e => by
    cases d <;> simp only [strsD, FL.unS] at e <;> first | (cases e; done) | skip
    cases q : strsD ds with
    | none => rw [q] at e; cases e
    | some is =>
      rw [q] at e
      cases e
      rw [strsD_eq q]; rfl
theorem strsD_map : ∀ xs : List Str, strsD (xs.map .str) = some xs
  | [] => rfl
  | x :: xs => by simp only [List.map_cons, strsD, FL.unS, strsD_map xs]
theorem DVs.strsM {K : PySem.W.Frag} {ρ : List Addr} {H : Hp} : ∀ (xs : List Str), DVs K ρ H (xs.map D.str) (xs.map V.str)
  | [] => .nil
  | x :: xs => .cons (.str x) (DVs.strsM xs)
theorem DVs.strs_back {K : PySem.W.Frag} {ρ : List Addr} {H : Hp} : ∀ {xs : List Str} {vs : List V}, DVs K ρ H (xs.map D.str) vs → vs = xs.map V.str
  | [], _, .nil => rfl
  | x :: xs, _, .cons (.str _) t => by rw [DVs.strs_back t]; rfl
def dSortA (ds : List D) (h : HS) : R D := match dSorted ds h with
  | .ok d h' => .ok d h'
  | .ex x h' => .ex x h'
  | .bad => match ds with
    | [d] => match (listD h d).bind strsD with
      | some xs => .ok (.ref h.length) (h ++ [.lst ((sortS xs).map D.str)])
      | none => .bad
    | _ => .bad
def rSortedSA (K : PySem.W.Frag) : RL := fun vs H Q => ∃ (a : Addr) (xs : List Str), vs = [V.ref a] ∧ SqL K H a (xs.map V.str) ∧
  ∀ (ys : List Str) (p : Addr), ys.Perm xs → sortedS ys = true → H p = none → Q (.ref p) (upd H p (.lst (ys.map V.str)))
theorem cr_sortedSA {X : Cx} : CallR X (.builtin "sorted") (rSortedSA X.K) := by
  intro pins s σ H vs us Q I r h
  obtain ⟨a, xs, rfl, hs, q⟩ := h
  obtain ⟨its, rv, hl, hz⟩ := I.list hs
  rw [Vals.ref1 r]
  refine PyProof.Rows.sorted_strsAny hl.isList rv.strs (by rw [← rv.length]; exact hz) fun out ys h1 h2 h3 => ?_
  obtain ⟨ep, he'⟩ := PyProof.Rows.sortedAll_at s.heap its out
  have hlen : (ys.map V.str).length ≤ sizeLine := by
    rw [List.length_map, h2.length_eq]
    rw [List.length_map] at hz
    exact hz
  exact ⟨.ref _, upd H (s.heap.objs.size + 1) (.lst (ys.map V.str)), I.laid (t' := s.toks) (fun _ _ => PyProof.Rows.sortedAll_old) (Nat.le_succ _) ⟨hlen, out.toList, ep, vals_of_strs h1, he'⟩, rfl, q ys _ h2 h3 (I.hok.fresh (Nat.le_succ _))⟩
def rSortA (K : PySem.W.Frag) : RL := fun vs H Q => rSorted2 K vs H Q ∨ rSortedSA K vs H Q
theorem o_sortA {X : Cx} (hc : X.calm = true) : CallR X (.builtin "sorted") (rSortA X.K) := CallR.or (o_sorted hc) cr_sortedSA
theorem s_sortA {K : PySem.W.Frag} : CallS K dSortA (rSortA K) := by
  intro ρ h H ds vs W Q r z0 p
  unfold dSortA at p
  cases e : dSorted ds h with
  | ok d h' =>
    rw [e] at p
    exact .inl (s_sorted ρ h H ds vs W Q r z0 (by rw [e]; exact p))
  | ex x h' =>
    rw [e] at p
    exact .inl (s_sorted ρ h H ds vs W Q r z0 (by rw [e]; exact p))
  | bad =>
    rw [e] at p
    match ds, z0, p with
    | [d], zz, p =>
      obtain ⟨v, rfl, z⟩ := zz.one
      simp only at p
      cases e1 : (listD h d).bind strsD with
      | none => rw [e1] at p; exact p.elim
      | some xs =>
        rw [e1] at p
        obtain ⟨ds', e2, e3⟩ := Option.bind_eq_some_iff.mp e1
        obtain ⟨a, vs', rfl, hs, zs⟩ := listD_ok r z e2
        have e4 := strsD_eq e3
        subst e4
        rw [DVs.strs_back zs] at hs
        refine .inr ⟨a, xs, rfl, hs, fun ys q hp hso hq => ?_⟩
        have ey := sortS_eq hp (sorted_pw hso)
        subst ey
        exact post_lst r (DVs.strsM _) p q hq
    | [], _, p => exact p.elim
    | _ :: _ :: _, _, p => exact p.elim
end FL

set_option Elab.async false
set_option linter.all false
set_option maxRecDepth 100000
set_option maxHeartbeats 400000
/-! FL, part n: the draws of the laws k20 to k34, k90. -/
namespace FL
open PySem PySem.Spec PyProof.Rows L2
abbrev bagA (a : Nat) (s : Int) : MO := .dK [(.inr "row", .ref 0), (.inr "at", .int a), (.inr "seed", .int s)]
noncomputable def m_nextA : FS :=
    mSeq (mAsg (mOp dIx (mVar 0) (mC (.str "at"))) (mTo 2))
    (mSeq (mAsg (mOp dAdd (mVar 2) (mC (.int 1))) (mToIx (mVar 0) (mC (.str "at"))))
    (mSeq (mIfS (mBl (mOp dLt (mVar 2) (mCall (dLen) (mCons (mOp dIx (mVar 0) (mC (.str "row"))) (mNil)))))
    (mRet (mOp dMod (mOp dIx (mOp dIx (mVar 0) (mC (.str "row"))) (mVar 2)) (mVar 1)))
    (mSkip))
    (mSeq (mAsg (mOp dMod (mCall (dInt) (mCons (mOp dMul (mOp dAdd (mOp dAdd (mOp dIx (mVar 0) (mC (.str "seed"))) (mOp dMul (mC (.int 17)) (mVar 2))) (mC (.int 3))) (mC (.int 48271))) (mNil))) (mC (.int 2147483647))) (mTo 3))
    (mRet (mOp dMod (mOp dFdiv (mOp dMod (mCall (dInt) (mCons (mOp dAdd (mOp dMul (mVar 3) (mVar 3)) (mVar 2)) (mNil))) (mC (.int 2147483629))) (mC (.int 7))) (mVar 1))))))
def nxA (ds : List Int) (s : Int) (a : Nat) (m : Int) : Int :=
  if a < ds.length then ds.getD a 0 % m else (((s + 17 * a + 3) * 48271 % 2147483647 * ((s + 17 * a + 3) * 48271 % 2147483647) + a) % 2147483629) / 7 % m
theorem nextA_ok {h : HS} {a : Nat} {ds : List Int} {m s : Int} (hw : h[1]? = some (bagA a s)) (hr : h[0]? = some (.lst (ds.map .int))) (hm : 0 < m) :
    runB 4 m_nextA [.ref 1, .int m] h = .ok (.int (nxA ds s a m)) (h.set 1 (bagA (a + 1) s)) := by
  have key : wpR (runB 4 m_nextA [.ref 1, .int m] h) (fun d h' => d = .int (nxA ds s a m) ∧ h' = h.set 1 (bagA (a + 1) s)) X0 := by
    unfold m_nextA
    have lw : 1 < h.length := (List.getElem?_eq_some_iff.mp hw).1
    have hw2 : ∀ o, (h.set 1 o)[1]? = some o := fun o => by rw [List.getElem?_set_self lw]
    have hr2 : ∀ o, (h.set 1 o)[0]? = some (.lst (ds.map .int)) := fun o => by rw [List.getElem?_set_ne (by decide), hr]
    have i1 : dIx (.ref 1) (.str "at") h = .ok (.int a) h := by simp only [dIx, hw]; rfl
    have e2 : dSet (.ref 1) (.str "at") (.int (a + 1)) h = some (h.set 1 (bagA (a + 1) s)) := by
      rw [dSet_dK hw rfl (show 3 < sizeLine by decide)]; rfl
    have i3 : dIx (.ref 1) (.str "row") (h.set 1 (bagA (a + 1) s)) = .ok (.ref 0) (h.set 1 (bagA (a + 1) s)) := by simp only [dIx, hw2]; rfl
    have i4 : dIx (.ref 1) (.str "seed") (h.set 1 (bagA (a + 1) s)) = .ok (.int s) (h.set 1 (bagA (a + 1) s)) := by simp only [dIx, hw2]; rfl
    have c1 : CMul 17 (a : Int) := .inl ⟨by decide, by decide⟩
    have c2 : CMul (s + 17 * (a : Int) + 3) 48271 := .inr ⟨by decide, by decide⟩
    have c3 : CMul ((s + 17 * (a : Int) + 3) * 48271 % 2147483647) ((s + 17 * (a : Int) + 3) * 48271 % 2147483647) := .inl ⟨by omega, by omega⟩
    have c4 : ∀ x : Int, CDivW x 7 := fun x => ⟨by decide, by decide⟩
    simp only [↓wp_seq, ↓wp_skip, ↓wp_drop, ↓wp_ret, ↓wp_retN, ↓wp_brk, ↓wp_cnt, ↓wp_if, ↓wp_asg, ↓wp_to, ↓wp_tos, ↓wp_toIx, ↓wp_aug, ↓wp_augK, ↓wp_fldSet, ↓wp_fldAug, ↓wp_var, ↓wp_c, ↓wp_op, ↓wp_un, ↓wp_nil, ↓wp_cons, ↓wp_tup, ↓wp_lst, ↓wp_dict0, ↓wp_dict, ↓wp_pairs0, ↓wp_pairs, ↓wp_call, ↓wp_callF, ↓wp_tru, ↓wp_bl, ↓wp_and, ↓wp_or, ↓wp_not, ↓wp_andV, ↓wp_orV, ↓wp_notV, ↓wp_part, ↓wp_noPart, ↓wp_sl, ↓wp_bm, ↓wp_ifE, ↓wp_fld, ↓wp_meth, ↓wp_make, ↓wp_lockE, ↓wp_rng1, ↓wp_rng2, ↓wp_seqI, ↓wpR_ok, ↓wpS_nx, ↓wpS_rt, List.getElem?_cons_zero, List.getElem?_cons_succ, List.set_cons_zero, List.set_cons_succ, List.length_cons, List.length_nil, ↓reduceIte, decide_eq_true_eq, ev_add, ev_iadd, ev_sub, ev_mod, ev_neg, ev_lt, ev_le, ev_gt, ev_ge, ev_eqI, ev_neI, ev_eqS, ev_neS, ev_isN, ev_int, ev_abs, ev_max, ev_min, ev_lenT, ev_lenC, ev_tupT, Int.reduceLT, Int.reduceLE, Int.reduceNeg, Int.reduceAdd, Int.reduceSub, Int.reduceEq, Nat.reduceAdd, Nat.reduceSub, and_self, ↓List.map_cons, ↓List.map_nil, ↓List.cons_append, ↓List.nil_append, List.replicate, ixT0, ixT1, ixT2, ixT3, ixTm1, ixTm2, ixTm3, onH_get, onH_set, onH_push, onH_len, mkB_get, mkB_set, mkB_push, mkB_len, mkB_next, Option.getD_some, Option.getD_none, sz0, sz1, sz2, sz3, sz4, sz5, sz6, sz7, sz8, sz9, ev_keyI, ev_keyS, ev_eqB, ev_neB, wp_one, wp_yes, wp_valsI, wp_keysI, wp_lcE, ↓wp_runB, i1, e2, i3, i4, ev_lenL (hr2 _), List.length_map, ev_mul c1, ev_mul c2, ev_mul c3, ev_fdiv (c4 _)]
    refine ite2 (fun c => ?_) (fun c => ?_)
    · have c' : a < ds.length := by omega
      have e : atI (ds.map D.int) (a : Int) = some (.int (ds.getD a 0)) := by
        refine atI_nat ?_
        rw [List.getElem?_map, List.getElem?_eq_getElem c', List.getD_eq_getElem?_getD, List.getElem?_eq_getElem c']
        rfl
      rw [ev_ixL (hr2 _) e, wpR_ok, ev_mod hm, wpR_ok]
      exact ⟨by rw [nxA, if_pos c'], rfl⟩
    · rw [ev_mod hm, wpR_ok]
      exact ⟨by rw [nxA, if_neg (by omega)], rfl⟩
  obtain ⟨d, h', e, rfl, rfl⟩ := wpR_elim key
  exact e
theorem nxA_lt {ds : List Int} {s : Int} {a : Nat} {m : Int} (hm : 0 < m) : 0 ≤ nxA ds s a m ∧ nxA ds s a m < m := by
  unfold nxA
  split
  · exact ⟨Int.emod_nonneg _ (by omega), Int.emod_lt_of_pos _ hm⟩
  · exact ⟨Int.emod_nonneg _ (by omega), Int.emod_lt_of_pos _ hm⟩
/-! ### a heap that grew while draws were taken -/
def DA (ds : List Int) (s : Int) (h0 h : HS) : Prop := h0[0]? = some (.lst (ds.map .int)) ∧ 1 < h0.length ∧ ∃ (a : Nat) (l : HS), h = h0.set 1 (bagA a s) ++ l
section
variable {ds : List Int} {s : Int} {h0 h h1 l : HS} {a i : Nat} {m : Int} {P : D → HS → Prop} {X : XP} {o : MO}
theorem DA.refl (hb : h0[1]? = some (bagA a s)) (hd : h0[0]? = some (.lst (ds.map .int))) : DA ds s h0 h0 :=
  ⟨hd, (List.getElem?_eq_some_iff.mp hb).1, a, [], by rw [set_self hb, List.append_nil]⟩
theorem DA.push (w : DA ds s h0 h) : DA ds s h0 (h ++ l) := by
  obtain ⟨w1, w2, a, l1, rfl⟩ := w
  exact ⟨w1, w2, a, l1 ++ l, List.append_assoc _ _ _⟩
theorem DA.get (w : DA ds s h0 h) (n : i ≠ 1) (e : h0[i]? = some o) : h[i]? = some o := by
  obtain ⟨w1, w2, a, l1, rfl⟩ := w
  exact get_push (get_other (Ne.symm n) e)
theorem DA.bag (w : DA ds s h0 h) : ∃ a, h[1]? = some (bagA a s) ∧ h[0]? = some (.lst (ds.map .int)) := by
  obtain ⟨w1, w2, a, l1, rfl⟩ := w
  exact ⟨a, get_push (List.getElem?_set_self w2), get_push (get_other (by decide) w1)⟩
theorem DA.self (w : DA ds s h0 h) : DA ds s h h := by
  obtain ⟨a, e1, e2⟩ := w.bag
  exact DA.refl e1 e2
theorem DA.le (w : DA ds s h0 h) : h0.length ≤ h.length := by
  obtain ⟨w1, w2, a, l1, rfl⟩ := w
  rw [List.length_append, List.length_set]
  omega
theorem DA.two (w : DA ds s h0 h) : 1 < h0.length := w.2.1
theorem DA.trans (w : DA ds s h0 h) (v : DA ds s h h1) : DA ds s h0 h1 := by
  obtain ⟨w1, w2, a, l1, rfl⟩ := w
  obtain ⟨v1, v2, b, l2, rfl⟩ := v
  refine ⟨w1, w2, b, l1 ++ l2, ?_⟩
  rw [set_setp w2, List.append_assoc]
/-- a change behind the old heap's end -/
theorem DA.setp (w : DA ds s h0 h) {p : Nat} (hp : h0.length ≤ p) : DA ds s h0 (h.set p o) := by
  obtain ⟨w1, w2, a, l1, rfl⟩ := w
  refine ⟨w1, w2, a, l1.set (p - h0.length) o, ?_⟩
  rw [List.set_append_right _ _ (by rw [List.length_set]; exact hp), List.length_set]
/-- a draw -/
theorem DA.next (w : DA ds s h0 h) (hm : 0 < m) (k : ∀ (v : Int) (h' : HS), 0 ≤ v → v < m → DA ds s h0 h' → P (.int v) h') : wpR (runB 4 m_nextA [.ref 1, .int m] h) P X := by
  obtain ⟨b, e1, e2⟩ := w.bag
  rw [nextA_ok e1 e2 hm, wpR_ok]
  obtain ⟨q1, q2⟩ := nxA_lt (ds := ds) (s := s) (a := b) hm
  refine k _ _ q1 q2 ?_
  obtain ⟨w1, w2, a, l1, rfl⟩ := w
  exact ⟨w1, w2, b + 1, l1, set_setp w2⟩
end
/-! ### the row -/
noncomputable def m_drawsA_b1 : FS :=
    mIfS (mBl (mOp dGt (mVar 3) (mC (.int 0))))
    (mSeq (mDrop (mBM "list" dAppend (mVar 1) (mCons (mOp dMod (mVar 3) (mC (.int 1000))) (mNil))))
    (mAsg (mOp dFdiv (mVar 3) (mC (.int 1000))) (mTo 3)))
    (mSkip)
noncomputable def m_drawsA_b2 : FS :=
    mSeq (mAsg (mOp dMod (mCall (dInt) (mCons (mOp dAdd (mOp dAdd (mOp dMul (mVar 5) (mVar 5)) (mOp dMul (mVar 4) (mC (.int 7919)))) (mC (.int 17))) (mNil))) (mC (.int 2147483629))) (mTo 5))
    (mDrop (mBM "list" dAppend (mVar 1) (mCons (mOp dMod (mVar 5) (mC (.int 1000))) (mNil))))
noncomputable def m_drawsA_b3 : FS :=
    mSeq (mAsg (mCall (dAbs) (mCons (mOp dIx (mVar 0) (mVar 2)) (mNil))) (mTo 3))
    (mIfS (mBl (mOp dGe (mVar 3) (mOp dPow (mC (.int 10)) (mC (.int 18)))))
    (mFor (mRange1 (mCons (mC (.int 20)) (mNil))) (mTo 4)
    (m_drawsA_b1))
    (mSeq (mAsg (mOp dMod (mCall (dInt) (mCons (mOp dAdd (mOp dAdd (mOp dMul (mOp dIx (mVar 0) (mVar 2)) (mC (.int 48271))) (mOp dMul (mVar 2) (mC (.int 69621)))) (mC (.int 12345))) (mNil))) (mC (.int 2147483647))) (mTo 5))
    (mFor (mRange1 (mCons (mC (.int 3)) (mNil))) (mTo 4)
    (m_drawsA_b2))))
noncomputable def m_drawsA_r4 : FS :=
    mRet (mVar 1)
noncomputable def m_drawsA : FS :=
    mSeq (mAsg (mLst (mNil)) (mTo 1))
    (mSeq (mFor (mRange1 (mCons (mCall (dMin2) (mCons (mCall (dLen) (mCons (mVar 0) (mNil))) (mCons (mC (.int 63)) (mNil)))) (mNil))) (mTo 2)
    (m_drawsA_b3))
    (m_drawsA_r4))
section
variable {h : HS} {acc : List Int} {T : Tl} {a0 a2 a3 a4 a5 : Option D}
theorem cdiv1000 {r : Int} : CDivW r 1000 := ⟨by decide, by decide⟩
theorem drawsA_b1 {r : Int} (hl : acc.length < 100000) :
    wpS (m_drawsA_b1 [a0, some (.ref h.length), a2, some (.int r), a4, a5] (h ++ [.lst (acc.map .int)]))
      (fun σ h' => ∃ (acc' : List Int) (r' : Int), σ = [a0, some (.ref h.length), a2, some (.int r'), a4, a5] ∧ h' = h ++ [.lst (acc'.map .int)] ∧ acc'.length ≤ acc.length + 1) T := by
  unfold m_drawsA_b1
  simp only [↓wp_seq, ↓wp_skip, ↓wp_drop, ↓wp_ret, ↓wp_retN, ↓wp_brk, ↓wp_cnt, ↓wp_if, ↓wp_asg, ↓wp_to, ↓wp_tos, ↓wp_toIx, ↓wp_aug, ↓wp_augK, ↓wp_fldSet, ↓wp_fldAug, ↓wp_var, ↓wp_c, ↓wp_op, ↓wp_un, ↓wp_nil, ↓wp_cons, ↓wp_tup, ↓wp_lst, ↓wp_dict0, ↓wp_dict, ↓wp_pairs0, ↓wp_pairs, ↓wp_call, ↓wp_callF, ↓wp_tru, ↓wp_bl, ↓wp_and, ↓wp_or, ↓wp_not, ↓wp_andV, ↓wp_orV, ↓wp_notV, ↓wp_part, ↓wp_noPart, ↓wp_sl, ↓wp_bm, ↓wp_ifE, ↓wp_fld, ↓wp_meth, ↓wp_make, ↓wp_lockE, ↓wp_rng1, ↓wp_rng2, ↓wp_seqI, ↓wpR_ok, ↓wpS_nx, ↓wpS_rt, List.getElem?_cons_zero, List.getElem?_cons_succ, List.set_cons_zero, List.set_cons_succ, List.length_cons, List.length_nil, ↓reduceIte, decide_eq_true_eq, ev_add, ev_iadd, ev_sub, ev_mod, ev_neg, ev_lt, ev_le, ev_gt, ev_ge, ev_eqI, ev_neI, ev_eqS, ev_neS, ev_isN, ev_int, ev_abs, ev_max, ev_min, ev_lenT, ev_lenC, ev_tupT, Int.reduceLT, Int.reduceLE, Int.reduceNeg, Int.reduceAdd, Int.reduceSub, Int.reduceEq, Nat.reduceAdd, Nat.reduceSub, and_self, ↓List.map_cons, ↓List.map_nil, ↓List.cons_append, ↓List.nil_append, List.replicate, ixT0, ixT1, ixT2, ixT3, ixTm1, ixTm2, ixTm3, onH_get, onH_set, onH_push, onH_len, mkB_get, mkB_set, mkB_push, mkB_len, mkB_next, Option.getD_some, Option.getD_none, sz0, sz1, sz2, sz3, sz4, sz5, sz6, sz7, sz8, sz9, ev_keyI, ev_keyS, ev_eqB, ev_neB, wp_one, wp_yes, wp_valsI, wp_keysI, wp_lcE, ty_lst]
  refine ite2 (fun c => ?_) (fun c => ?_)
  · refine app_draw (by omega) ?_
    simp only [ev_fdiv cdiv1000, wpR_ok]
    exact ⟨_, _, rfl, rfl, by simp⟩
  · exact ⟨acc, r, rfl, rfl, Nat.le_succ _⟩
theorem drawsA_b2 {r j : Int} (h0 : 0 ≤ r) (h1 : r < 2147483647) (hl : acc.length < 100000) :
    wpS (m_drawsA_b2 [a0, some (.ref h.length), a2, a3, some (.int j), some (.int r)] (h ++ [.lst (acc.map .int)]))
      (fun σ h' => ∃ (acc' : List Int) (r' : Int), σ = [a0, some (.ref h.length), a2, a3, some (.int j), some (.int r')] ∧ h' = h ++ [.lst (acc'.map .int)] ∧ 0 ≤ r' ∧ r' < 2147483647 ∧ acc'.length ≤ acc.length + 1) T := by
  unfold m_drawsA_b2
  have c1 : CMul r r := .inl ⟨by omega, by omega⟩
  have c2 : CMul j 7919 := .inr ⟨by decide, by decide⟩
  simp only [↓wp_seq, ↓wp_skip, ↓wp_drop, ↓wp_ret, ↓wp_retN, ↓wp_brk, ↓wp_cnt, ↓wp_if, ↓wp_asg, ↓wp_to, ↓wp_tos, ↓wp_toIx, ↓wp_aug, ↓wp_augK, ↓wp_fldSet, ↓wp_fldAug, ↓wp_var, ↓wp_c, ↓wp_op, ↓wp_un, ↓wp_nil, ↓wp_cons, ↓wp_tup, ↓wp_lst, ↓wp_dict0, ↓wp_dict, ↓wp_pairs0, ↓wp_pairs, ↓wp_call, ↓wp_callF, ↓wp_tru, ↓wp_bl, ↓wp_and, ↓wp_or, ↓wp_not, ↓wp_andV, ↓wp_orV, ↓wp_notV, ↓wp_part, ↓wp_noPart, ↓wp_sl, ↓wp_bm, ↓wp_ifE, ↓wp_fld, ↓wp_meth, ↓wp_make, ↓wp_lockE, ↓wp_rng1, ↓wp_rng2, ↓wp_seqI, ↓wpR_ok, ↓wpS_nx, ↓wpS_rt, List.getElem?_cons_zero, List.getElem?_cons_succ, List.set_cons_zero, List.set_cons_succ, List.length_cons, List.length_nil, ↓reduceIte, decide_eq_true_eq, ev_add, ev_iadd, ev_sub, ev_mod, ev_neg, ev_lt, ev_le, ev_gt, ev_ge, ev_eqI, ev_neI, ev_eqS, ev_neS, ev_isN, ev_int, ev_abs, ev_max, ev_min, ev_lenT, ev_lenC, ev_tupT, Int.reduceLT, Int.reduceLE, Int.reduceNeg, Int.reduceAdd, Int.reduceSub, Int.reduceEq, Nat.reduceAdd, Nat.reduceSub, and_self, ↓List.map_cons, ↓List.map_nil, ↓List.cons_append, ↓List.nil_append, List.replicate, ixT0, ixT1, ixT2, ixT3, ixTm1, ixTm2, ixTm3, onH_get, onH_set, onH_push, onH_len, mkB_get, mkB_set, mkB_push, mkB_len, mkB_next, Option.getD_some, Option.getD_none, sz0, sz1, sz2, sz3, sz4, sz5, sz6, sz7, sz8, sz9, ev_keyI, ev_keyS, ev_eqB, ev_neB, wp_one, wp_yes, wp_valsI, wp_keysI, wp_lcE, ev_mul c1, ev_mul c2, ty_lst]
  refine app_draw (by omega) ?_
  exact ⟨_, _, rfl, rfl, by omega, by omega, by simp⟩
theorem drawsA_b3 {ns : List Int} {j : Nat} (hj : j < ns.length) (hl : acc.length < 90000) :
    wpS (m_drawsA_b3 [some (.cst (ns.map .int)), some (.ref h.length), some (.int j), a3, a4, a5] (h ++ [.lst (acc.map .int)]))
      (fun σ h' => ∃ (acc' : List Int) (a3 a4 a5 : Option D), σ = [some (.cst (ns.map .int)), some (.ref h.length), some (.int j), a3, a4, a5] ∧ h' = h ++ [.lst (acc'.map .int)] ∧ acc'.length ≤ acc.length + 20) T := by
  unfold m_drawsA_b3
  have e : atI (ns.map D.int) (j : Int) = some (.int ns[j]) := atI_nat (by rw [List.getElem?_map, List.getElem?_eq_getElem hj]; rfl)
  have c1 : CMul ns[j] 48271 := .inr ⟨by decide, by decide⟩
  have c2 : CMul (j : Int) 69621 := .inr ⟨by decide, by decide⟩
  simp only [↓wp_seq, ↓wp_skip, ↓wp_drop, ↓wp_ret, ↓wp_retN, ↓wp_brk, ↓wp_cnt, ↓wp_if, ↓wp_asg, ↓wp_to, ↓wp_tos, ↓wp_toIx, ↓wp_aug, ↓wp_augK, ↓wp_fldSet, ↓wp_fldAug, ↓wp_var, ↓wp_c, ↓wp_op, ↓wp_un, ↓wp_nil, ↓wp_cons, ↓wp_tup, ↓wp_lst, ↓wp_dict0, ↓wp_dict, ↓wp_pairs0, ↓wp_pairs, ↓wp_call, ↓wp_callF, ↓wp_tru, ↓wp_bl, ↓wp_and, ↓wp_or, ↓wp_not, ↓wp_andV, ↓wp_orV, ↓wp_notV, ↓wp_part, ↓wp_noPart, ↓wp_sl, ↓wp_bm, ↓wp_ifE, ↓wp_fld, ↓wp_meth, ↓wp_make, ↓wp_lockE, ↓wp_rng1, ↓wp_rng2, ↓wp_seqI, ↓wpR_ok, ↓wpS_nx, ↓wpS_rt, List.getElem?_cons_zero, List.getElem?_cons_succ, List.set_cons_zero, List.set_cons_succ, List.length_cons, List.length_nil, ↓reduceIte, decide_eq_true_eq, ev_add, ev_iadd, ev_sub, ev_mod, ev_neg, ev_lt, ev_le, ev_gt, ev_ge, ev_eqI, ev_neI, ev_eqS, ev_neS, ev_isN, ev_int, ev_abs, ev_max, ev_min, ev_lenT, ev_lenC, ev_tupT, Int.reduceLT, Int.reduceLE, Int.reduceNeg, Int.reduceAdd, Int.reduceSub, Int.reduceEq, Nat.reduceAdd, Nat.reduceSub, and_self, ↓List.map_cons, ↓List.map_nil, ↓List.cons_append, ↓List.nil_append, List.replicate, ixT0, ixT1, ixT2, ixT3, ixTm1, ixTm2, ixTm3, onH_get, onH_set, onH_push, onH_len, mkB_get, mkB_set, mkB_push, mkB_len, mkB_next, Option.getD_some, Option.getD_none, sz0, sz1, sz2, sz3, sz4, sz5, sz6, sz7, sz8, sz9, ev_keyI, ev_keyS, ev_eqB, ev_neB, wp_one, wp_yes, wp_valsI, wp_keysI, wp_lcE, ev_ixC e, ev_mul c1, ev_mul c2, ev_pow (show CPow 10 18 from by decide), ↓wp_forE]
  generalize (if ns[j] < 0 then -ns[j] else ns[j]) = c
  split
  · rename_i hb
    clear hb
    rw [if_pos (by decide)]
    refine wp_forR (fun k σ h' => ∃ (acc' : List Int) (r : Int) (a4 : Option D), σ = [some (.cst (ns.map .int)), some (.ref h.length), some (.int j), some (.int r), a4, a5] ∧ h' = h ++ [.lst (acc'.map .int)] ∧ acc'.length ≤ acc.length + k) ⟨acc, c, a4, rfl, rfl, Nat.le_refl _⟩ ?_ ?_
    · rintro k σ h' ⟨acc', r, a4, rfl, rfl, q⟩ hk
      simp only [↓wp_seq, ↓wp_skip, ↓wp_drop, ↓wp_ret, ↓wp_retN, ↓wp_brk, ↓wp_cnt, ↓wp_if, ↓wp_asg, ↓wp_to, ↓wp_tos, ↓wp_toIx, ↓wp_aug, ↓wp_augK, ↓wp_fldSet, ↓wp_fldAug, ↓wp_var, ↓wp_c, ↓wp_op, ↓wp_un, ↓wp_nil, ↓wp_cons, ↓wp_tup, ↓wp_lst, ↓wp_dict0, ↓wp_dict, ↓wp_pairs0, ↓wp_pairs, ↓wp_call, ↓wp_callF, ↓wp_tru, ↓wp_bl, ↓wp_and, ↓wp_or, ↓wp_not, ↓wp_andV, ↓wp_orV, ↓wp_notV, ↓wp_part, ↓wp_noPart, ↓wp_sl, ↓wp_bm, ↓wp_ifE, ↓wp_fld, ↓wp_meth, ↓wp_make, ↓wp_lockE, ↓wp_rng1, ↓wp_rng2, ↓wp_seqI, ↓wpR_ok, ↓wpS_nx, ↓wpS_rt, List.getElem?_cons_zero, List.getElem?_cons_succ, List.set_cons_zero, List.set_cons_succ, List.length_cons, List.length_nil, ↓reduceIte, decide_eq_true_eq, ev_add, ev_iadd, ev_sub, ev_mod, ev_neg, ev_lt, ev_le, ev_gt, ev_ge, ev_eqI, ev_neI, ev_eqS, ev_neS, ev_isN, ev_int, ev_abs, ev_max, ev_min, ev_lenT, ev_lenC, ev_tupT, Int.reduceLT, Int.reduceLE, Int.reduceNeg, Int.reduceAdd, Int.reduceSub, Int.reduceEq, Nat.reduceAdd, Nat.reduceSub, and_self, ↓List.map_cons, ↓List.map_nil, ↓List.cons_append, ↓List.nil_append, List.replicate, ixT0, ixT1, ixT2, ixT3, ixTm1, ixTm2, ixTm3, onH_get, onH_set, onH_push, onH_len, mkB_get, mkB_set, mkB_push, mkB_len, mkB_next, Option.getD_some, Option.getD_none, sz0, sz1, sz2, sz3, sz4, sz5, sz6, sz7, sz8, sz9, ev_keyI, ev_keyS, ev_eqB, ev_neB, wp_one, wp_yes, wp_valsI, wp_keysI, wp_lcE]
      have hk2 : k < 20 := hk
      refine wpS_mono (drawsA_b1 (by omega)) ?_
      rintro σ h2 ⟨acc2, r2, rfl, rfl, q2⟩
      exact ⟨acc2, r2, _, rfl, rfl, by omega⟩
    · rintro σ h' ⟨acc', r, a4, rfl, rfl, q⟩
      exact ⟨acc', _, _, _, rfl, rfl, q⟩
  · rename_i hb
    clear hb
    rw [if_pos (by decide)]
    refine wp_forR (fun k σ h' => ∃ (acc' : List Int) (r : Int) (a4 : Option D), σ = [some (.cst (ns.map .int)), some (.ref h.length), some (.int j), some (.int c), a4, some (.int r)] ∧ h' = h ++ [.lst (acc'.map .int)] ∧ 0 ≤ r ∧ r < 2147483647 ∧ acc'.length ≤ acc.length + k) ⟨acc, _, a4, rfl, rfl, by omega, by omega, Nat.le_refl _⟩ ?_ ?_
    · rintro k σ h' ⟨acc', r, a4, rfl, rfl, q0, q1, q⟩ hk
      simp only [↓wp_seq, ↓wp_skip, ↓wp_drop, ↓wp_ret, ↓wp_retN, ↓wp_brk, ↓wp_cnt, ↓wp_if, ↓wp_asg, ↓wp_to, ↓wp_tos, ↓wp_toIx, ↓wp_aug, ↓wp_augK, ↓wp_fldSet, ↓wp_fldAug, ↓wp_var, ↓wp_c, ↓wp_op, ↓wp_un, ↓wp_nil, ↓wp_cons, ↓wp_tup, ↓wp_lst, ↓wp_dict0, ↓wp_dict, ↓wp_pairs0, ↓wp_pairs, ↓wp_call, ↓wp_callF, ↓wp_tru, ↓wp_bl, ↓wp_and, ↓wp_or, ↓wp_not, ↓wp_andV, ↓wp_orV, ↓wp_notV, ↓wp_part, ↓wp_noPart, ↓wp_sl, ↓wp_bm, ↓wp_ifE, ↓wp_fld, ↓wp_meth, ↓wp_make, ↓wp_lockE, ↓wp_rng1, ↓wp_rng2, ↓wp_seqI, ↓wpR_ok, ↓wpS_nx, ↓wpS_rt, List.getElem?_cons_zero, List.getElem?_cons_succ, List.set_cons_zero, List.set_cons_succ, List.length_cons, List.length_nil, ↓reduceIte, decide_eq_true_eq, ev_add, ev_iadd, ev_sub, ev_mod, ev_neg, ev_lt, ev_le, ev_gt, ev_ge, ev_eqI, ev_neI, ev_eqS, ev_neS, ev_isN, ev_int, ev_abs, ev_max, ev_min, ev_lenT, ev_lenC, ev_tupT, Int.reduceLT, Int.reduceLE, Int.reduceNeg, Int.reduceAdd, Int.reduceSub, Int.reduceEq, Nat.reduceAdd, Nat.reduceSub, and_self, ↓List.map_cons, ↓List.map_nil, ↓List.cons_append, ↓List.nil_append, List.replicate, ixT0, ixT1, ixT2, ixT3, ixTm1, ixTm2, ixTm3, onH_get, onH_set, onH_push, onH_len, mkB_get, mkB_set, mkB_push, mkB_len, mkB_next, Option.getD_some, Option.getD_none, sz0, sz1, sz2, sz3, sz4, sz5, sz6, sz7, sz8, sz9, ev_keyI, ev_keyS, ev_eqB, ev_neB, wp_one, wp_yes, wp_valsI, wp_keysI, wp_lcE]
      have hk2 : k < 3 := hk
      refine wpS_mono (drawsA_b2 q0 q1 (by omega)) ?_
      rintro σ h2 ⟨acc2, r2, rfl, rfl, p0, p1, q2⟩
      exact ⟨acc2, r2, _, rfl, rfl, p0, p1, by omega⟩
    · rintro σ h' ⟨acc', r, a4, rfl, rfl, q0, q1, q⟩
      have q2 : acc'.length ≤ acc.length + 3 := q
      exact ⟨acc', _, _, _, rfl, rfl, by omega⟩
theorem drawsA_ok {ns : List Int} (hl : ns.length ≤ 63) : ∃ ds : List Int, runB 6 m_drawsA [.cst (ns.map .int)] h = .ok (.ref h.length) (h ++ [.lst (ds.map .int)]) := by
  have key : wpR (runB 6 m_drawsA [.cst (ns.map .int)] h) (fun d h' => ∃ ds : List Int, d = .ref h.length ∧ h' = h ++ [.lst (ds.map .int)]) X0 := by
    unfold m_drawsA
    simp only [↓wp_seq, ↓wp_skip, ↓wp_drop, ↓wp_ret, ↓wp_retN, ↓wp_brk, ↓wp_cnt, ↓wp_if, ↓wp_asg, ↓wp_to, ↓wp_tos, ↓wp_toIx, ↓wp_aug, ↓wp_augK, ↓wp_fldSet, ↓wp_fldAug, ↓wp_var, ↓wp_c, ↓wp_op, ↓wp_un, ↓wp_nil, ↓wp_cons, ↓wp_tup, ↓wp_lst, ↓wp_dict0, ↓wp_dict, ↓wp_pairs0, ↓wp_pairs, ↓wp_call, ↓wp_callF, ↓wp_tru, ↓wp_bl, ↓wp_and, ↓wp_or, ↓wp_not, ↓wp_andV, ↓wp_orV, ↓wp_notV, ↓wp_part, ↓wp_noPart, ↓wp_sl, ↓wp_bm, ↓wp_ifE, ↓wp_fld, ↓wp_meth, ↓wp_make, ↓wp_lockE, ↓wp_rng1, ↓wp_rng2, ↓wp_seqI, ↓wpR_ok, ↓wpS_nx, ↓wpS_rt, List.getElem?_cons_zero, List.getElem?_cons_succ, List.set_cons_zero, List.set_cons_succ, List.length_cons, List.length_nil, ↓reduceIte, decide_eq_true_eq, ev_add, ev_iadd, ev_sub, ev_mod, ev_neg, ev_lt, ev_le, ev_gt, ev_ge, ev_eqI, ev_neI, ev_eqS, ev_neS, ev_isN, ev_int, ev_abs, ev_max, ev_min, ev_lenT, ev_lenC, ev_tupT, Int.reduceLT, Int.reduceLE, Int.reduceNeg, Int.reduceAdd, Int.reduceSub, Int.reduceEq, Nat.reduceAdd, Nat.reduceSub, and_self, ↓List.map_cons, ↓List.map_nil, ↓List.cons_append, ↓List.nil_append, List.replicate, ixT0, ixT1, ixT2, ixT3, ixTm1, ixTm2, ixTm3, onH_get, onH_set, onH_push, onH_len, mkB_get, mkB_set, mkB_push, mkB_len, mkB_next, Option.getD_some, Option.getD_none, sz0, sz1, sz2, sz3, sz4, sz5, sz6, sz7, sz8, sz9, ev_keyI, ev_keyS, ev_eqB, ev_neB, wp_one, wp_yes, wp_valsI, wp_keysI, wp_lcE, ↓wp_runB, ↓wp_forE, List.length_map, Nat.sub_self]
    rw [if_pos (by split <;> omega)]
    refine wp_forR (fun j σ h' => ∃ (acc : List Int) (a2 a3 a4 a5 : Option D), σ = [some (.cst (ns.map .int)), some (.ref h.length), a2, a3, a4, a5] ∧ h' = h ++ [.lst (acc.map .int)] ∧ acc.length ≤ 20 * j) ⟨[], _, _, _, _, rfl, rfl, Nat.le_refl _⟩ ?_ ?_
    · rintro j σ h' ⟨acc, a2, a3, a4, a5, rfl, rfl, q⟩ hj
      have hj2 : j < ns.length := by
        have : (if (63 : Int) < (ns.length : Int) then (63 : Int) else (ns.length : Int)) ≤ ns.length := by split <;> omega
        omega
      simp only [↓wp_seq, ↓wp_skip, ↓wp_drop, ↓wp_ret, ↓wp_retN, ↓wp_brk, ↓wp_cnt, ↓wp_if, ↓wp_asg, ↓wp_to, ↓wp_tos, ↓wp_toIx, ↓wp_aug, ↓wp_augK, ↓wp_fldSet, ↓wp_fldAug, ↓wp_var, ↓wp_c, ↓wp_op, ↓wp_un, ↓wp_nil, ↓wp_cons, ↓wp_tup, ↓wp_lst, ↓wp_dict0, ↓wp_dict, ↓wp_pairs0, ↓wp_pairs, ↓wp_call, ↓wp_callF, ↓wp_tru, ↓wp_bl, ↓wp_and, ↓wp_or, ↓wp_not, ↓wp_andV, ↓wp_orV, ↓wp_notV, ↓wp_part, ↓wp_noPart, ↓wp_sl, ↓wp_bm, ↓wp_ifE, ↓wp_fld, ↓wp_meth, ↓wp_make, ↓wp_lockE, ↓wp_rng1, ↓wp_rng2, ↓wp_seqI, ↓wpR_ok, ↓wpS_nx, ↓wpS_rt, List.getElem?_cons_zero, List.getElem?_cons_succ, List.set_cons_zero, List.set_cons_succ, List.length_cons, List.length_nil, ↓reduceIte, decide_eq_true_eq, ev_add, ev_iadd, ev_sub, ev_mod, ev_neg, ev_lt, ev_le, ev_gt, ev_ge, ev_eqI, ev_neI, ev_eqS, ev_neS, ev_isN, ev_int, ev_abs, ev_max, ev_min, ev_lenT, ev_lenC, ev_tupT, Int.reduceLT, Int.reduceLE, Int.reduceNeg, Int.reduceAdd, Int.reduceSub, Int.reduceEq, Nat.reduceAdd, Nat.reduceSub, and_self, ↓List.map_cons, ↓List.map_nil, ↓List.cons_append, ↓List.nil_append, List.replicate, ixT0, ixT1, ixT2, ixT3, ixTm1, ixTm2, ixTm3, onH_get, onH_set, onH_push, onH_len, mkB_get, mkB_set, mkB_push, mkB_len, mkB_next, Option.getD_some, Option.getD_none, sz0, sz1, sz2, sz3, sz4, sz5, sz6, sz7, sz8, sz9, ev_keyI, ev_keyS, ev_eqB, ev_neB, wp_one, wp_yes, wp_valsI, wp_keysI, wp_lcE]
      rw [show (0 : Int) + (j : Int) = (j : Int) from by omega]
      refine wpS_mono (drawsA_b3 hj2 (by omega)) ?_
      rintro σ h2 ⟨acc2, _, _, _, rfl, rfl, q2⟩
      exact ⟨acc2, _, _, _, _, rfl, rfl, by omega⟩
    · rintro σ h' ⟨acc, a2, a3, a4, a5, rfl, rfl, q⟩
      unfold m_drawsA_r4
      simp only [↓wp_seq, ↓wp_skip, ↓wp_drop, ↓wp_ret, ↓wp_retN, ↓wp_brk, ↓wp_cnt, ↓wp_if, ↓wp_asg, ↓wp_to, ↓wp_tos, ↓wp_toIx, ↓wp_aug, ↓wp_augK, ↓wp_fldSet, ↓wp_fldAug, ↓wp_var, ↓wp_c, ↓wp_op, ↓wp_un, ↓wp_nil, ↓wp_cons, ↓wp_tup, ↓wp_lst, ↓wp_dict0, ↓wp_dict, ↓wp_pairs0, ↓wp_pairs, ↓wp_call, ↓wp_callF, ↓wp_tru, ↓wp_bl, ↓wp_and, ↓wp_or, ↓wp_not, ↓wp_andV, ↓wp_orV, ↓wp_notV, ↓wp_part, ↓wp_noPart, ↓wp_sl, ↓wp_bm, ↓wp_ifE, ↓wp_fld, ↓wp_meth, ↓wp_make, ↓wp_lockE, ↓wp_rng1, ↓wp_rng2, ↓wp_seqI, ↓wpR_ok, ↓wpS_nx, ↓wpS_rt, List.getElem?_cons_zero, List.getElem?_cons_succ, List.set_cons_zero, List.set_cons_succ, List.length_cons, List.length_nil, ↓reduceIte, decide_eq_true_eq, ev_add, ev_iadd, ev_sub, ev_mod, ev_neg, ev_lt, ev_le, ev_gt, ev_ge, ev_eqI, ev_neI, ev_eqS, ev_neS, ev_isN, ev_int, ev_abs, ev_max, ev_min, ev_lenT, ev_lenC, ev_tupT, Int.reduceLT, Int.reduceLE, Int.reduceNeg, Int.reduceAdd, Int.reduceSub, Int.reduceEq, Nat.reduceAdd, Nat.reduceSub, and_self, ↓List.map_cons, ↓List.map_nil, ↓List.cons_append, ↓List.nil_append, List.replicate, ixT0, ixT1, ixT2, ixT3, ixTm1, ixTm2, ixTm3, onH_get, onH_set, onH_push, onH_len, mkB_get, mkB_set, mkB_push, mkB_len, mkB_next, Option.getD_some, Option.getD_none, sz0, sz1, sz2, sz3, sz4, sz5, sz6, sz7, sz8, sz9, ev_keyI, ev_keyS, ev_eqB, ev_neB, wp_one, wp_yes, wp_valsI, wp_keysI, wp_lcE]
      exact ⟨acc, trivial, rfl⟩
  obtain ⟨d, h', e, ds, rfl, rfl⟩ := wpR_elim key
  exact ⟨ds, e⟩
end
noncomputable def f_drawsA : List D → HS → R D := runB 6 m_drawsA
noncomputable def m_readerA_r1 : FS :=
    mRet (mDict [(mC (.str "row"), mVar 1), (mC (.str "at"), mC (.int 0)), (mC (.str "seed"), mVar 2)])
noncomputable def m_readerA : FS :=
    mSeq (mAsg (mCallF 1 (f_drawsA) (mCons (mVar 0) (mNil))) (mTo 1))
    (mSeq (mAsg (mC (.int 5)) (mTo 2))
    (mSeq (mIfS (mBl (mOp dGt (mCall (dLen) (mCons (mVar 0) (mNil))) (mC (.int 0))))
    (mAsg (mOp dMod (mCall (dAbs) (mCons (mOp dIx (mVar 0) (mUn dNeg (mC (.int 1)))) (mNil))) (mC (.int 1000003))) (mTo 2))
    (mSkip))
    (m_readerA_r1)))
theorem readerA_ok {ns : List Int} (hl : ns.length ≤ 63) : ∃ (ds : List Int) (s : Int), runB 3 m_readerA [.cst (ns.map .int)] [] = .ok (.ref 1) [.lst (ds.map .int), bagA 0 s] := by
  have key : wpR (runB 3 m_readerA [.cst (ns.map .int)] []) (fun d h' => ∃ (ds : List Int) (s : Int), d = .ref 1 ∧ h' = [.lst (ds.map .int), bagA 0 s]) X0 := by
    unfold m_readerA
    obtain ⟨ds, e⟩ := drawsA_ok (h := []) hl
    have e2 : f_drawsA [.cst (ns.map .int)] [] = .ok (.ref 0) [.lst (ds.map .int)] := e
    have fin : ∀ s : Int, wpS (m_readerA_r1 [some (.cst (ns.map .int)), some (.ref 0), some (.int s)] [.lst (ds.map .int)]) (fun _ h' => ∃ (ds : List Int) (s : Int), D.non = .ref 1 ∧ h' = [.lst (ds.map .int), bagA 0 s]) (Tl.ret (fun d h' => ∃ (ds : List Int) (s : Int), d = .ref 1 ∧ h' = [.lst (ds.map .int), bagA 0 s]) X0) := fun s => by
      unfold m_readerA_r1
      simp only [↓wp_seq, ↓wp_skip, ↓wp_drop, ↓wp_ret, ↓wp_retN, ↓wp_brk, ↓wp_cnt, ↓wp_if, ↓wp_asg, ↓wp_to, ↓wp_tos, ↓wp_toIx, ↓wp_aug, ↓wp_augK, ↓wp_fldSet, ↓wp_fldAug, ↓wp_var, ↓wp_c, ↓wp_op, ↓wp_un, ↓wp_nil, ↓wp_cons, ↓wp_tup, ↓wp_lst, ↓wp_dict0, ↓wp_dict, ↓wp_pairs0, ↓wp_pairs, ↓wp_call, ↓wp_callF, ↓wp_tru, ↓wp_bl, ↓wp_and, ↓wp_or, ↓wp_not, ↓wp_andV, ↓wp_orV, ↓wp_notV, ↓wp_part, ↓wp_noPart, ↓wp_sl, ↓wp_bm, ↓wp_ifE, ↓wp_fld, ↓wp_meth, ↓wp_make, ↓wp_lockE, ↓wp_rng1, ↓wp_rng2, ↓wp_seqI, ↓wpR_ok, ↓wpS_nx, ↓wpS_rt, List.getElem?_cons_zero, List.getElem?_cons_succ, List.set_cons_zero, List.set_cons_succ, List.length_cons, List.length_nil, ↓reduceIte, decide_eq_true_eq, ev_add, ev_iadd, ev_sub, ev_mod, ev_neg, ev_lt, ev_le, ev_gt, ev_ge, ev_eqI, ev_neI, ev_eqS, ev_neS, ev_isN, ev_int, ev_abs, ev_max, ev_min, ev_lenT, ev_lenC, ev_tupT, Int.reduceLT, Int.reduceLE, Int.reduceNeg, Int.reduceAdd, Int.reduceSub, Int.reduceEq, Nat.reduceAdd, Nat.reduceSub, and_self, ↓List.map_cons, ↓List.map_nil, ↓List.cons_append, ↓List.nil_append, List.replicate, ixT0, ixT1, ixT2, ixT3, ixTm1, ixTm2, ixTm3, onH_get, onH_set, onH_push, onH_len, mkB_get, mkB_set, mkB_push, mkB_len, mkB_next, Option.getD_some, Option.getD_none, sz0, sz1, sz2, sz3, sz4, sz5, sz6, sz7, sz8, sz9, ev_keyI, ev_keyS, ev_eqB, ev_neB, wp_one, wp_yes, wp_valsI, wp_keysI, wp_lcE]
      rw [if_pos (by decide)]
      exact ⟨ds, s, trivial, rfl⟩
    simp only [↓wp_seq, ↓wp_skip, ↓wp_drop, ↓wp_ret, ↓wp_retN, ↓wp_brk, ↓wp_cnt, ↓wp_if, ↓wp_asg, ↓wp_to, ↓wp_tos, ↓wp_toIx, ↓wp_aug, ↓wp_augK, ↓wp_fldSet, ↓wp_fldAug, ↓wp_var, ↓wp_c, ↓wp_op, ↓wp_un, ↓wp_nil, ↓wp_cons, ↓wp_tup, ↓wp_lst, ↓wp_dict0, ↓wp_dict, ↓wp_pairs0, ↓wp_pairs, ↓wp_call, ↓wp_callF, ↓wp_tru, ↓wp_bl, ↓wp_and, ↓wp_or, ↓wp_not, ↓wp_andV, ↓wp_orV, ↓wp_notV, ↓wp_part, ↓wp_noPart, ↓wp_sl, ↓wp_bm, ↓wp_ifE, ↓wp_fld, ↓wp_meth, ↓wp_make, ↓wp_lockE, ↓wp_rng1, ↓wp_rng2, ↓wp_seqI, ↓wpR_ok, ↓wpS_nx, ↓wpS_rt, List.getElem?_cons_zero, List.getElem?_cons_succ, List.set_cons_zero, List.set_cons_succ, List.length_cons, List.length_nil, ↓reduceIte, decide_eq_true_eq, ev_add, ev_iadd, ev_sub, ev_mod, ev_neg, ev_lt, ev_le, ev_gt, ev_ge, ev_eqI, ev_neI, ev_eqS, ev_neS, ev_isN, ev_int, ev_abs, ev_max, ev_min, ev_lenT, ev_lenC, ev_tupT, Int.reduceLT, Int.reduceLE, Int.reduceNeg, Int.reduceAdd, Int.reduceSub, Int.reduceEq, Nat.reduceAdd, Nat.reduceSub, and_self, ↓List.map_cons, ↓List.map_nil, ↓List.cons_append, ↓List.nil_append, List.replicate, ixT0, ixT1, ixT2, ixT3, ixTm1, ixTm2, ixTm3, onH_get, onH_set, onH_push, onH_len, mkB_get, mkB_set, mkB_push, mkB_len, mkB_next, Option.getD_some, Option.getD_none, sz0, sz1, sz2, sz3, sz4, sz5, sz6, sz7, sz8, sz9, ev_keyI, ev_keyS, ev_eqB, ev_neB, wp_one, wp_yes, wp_valsI, wp_keysI, wp_lcE, ↓wp_runB, e2, List.length_map, Nat.sub_self]
    refine ite2 (fun c => ?_) (fun c => fin 5)
    have hn : ns ≠ [] := fun z => by rw [z] at c; exact absurd c (by decide)
    have el : atI (ns.map D.int) (-1) = some (.int (ns.getLast hn)) := by
      have hz : ns.map D.int = ns.dropLast.map D.int ++ [.int (ns.getLast hn)] := by
        rw [← List.map_singleton, ← List.map_append, List.dropLast_concat_getLast]
      rw [hz]
      exact atI_last _ _
    simp only [↓wp_seq, ↓wp_skip, ↓wp_drop, ↓wp_ret, ↓wp_retN, ↓wp_brk, ↓wp_cnt, ↓wp_if, ↓wp_asg, ↓wp_to, ↓wp_tos, ↓wp_toIx, ↓wp_aug, ↓wp_augK, ↓wp_fldSet, ↓wp_fldAug, ↓wp_var, ↓wp_c, ↓wp_op, ↓wp_un, ↓wp_nil, ↓wp_cons, ↓wp_tup, ↓wp_lst, ↓wp_dict0, ↓wp_dict, ↓wp_pairs0, ↓wp_pairs, ↓wp_call, ↓wp_callF, ↓wp_tru, ↓wp_bl, ↓wp_and, ↓wp_or, ↓wp_not, ↓wp_andV, ↓wp_orV, ↓wp_notV, ↓wp_part, ↓wp_noPart, ↓wp_sl, ↓wp_bm, ↓wp_ifE, ↓wp_fld, ↓wp_meth, ↓wp_make, ↓wp_lockE, ↓wp_rng1, ↓wp_rng2, ↓wp_seqI, ↓wpR_ok, ↓wpS_nx, ↓wpS_rt, List.getElem?_cons_zero, List.getElem?_cons_succ, List.set_cons_zero, List.set_cons_succ, List.length_cons, List.length_nil, ↓reduceIte, decide_eq_true_eq, ev_add, ev_iadd, ev_sub, ev_mod, ev_neg, ev_lt, ev_le, ev_gt, ev_ge, ev_eqI, ev_neI, ev_eqS, ev_neS, ev_isN, ev_int, ev_abs, ev_max, ev_min, ev_lenT, ev_lenC, ev_tupT, Int.reduceLT, Int.reduceLE, Int.reduceNeg, Int.reduceAdd, Int.reduceSub, Int.reduceEq, Nat.reduceAdd, Nat.reduceSub, and_self, ↓List.map_cons, ↓List.map_nil, ↓List.cons_append, ↓List.nil_append, List.replicate, ixT0, ixT1, ixT2, ixT3, ixTm1, ixTm2, ixTm3, onH_get, onH_set, onH_push, onH_len, mkB_get, mkB_set, mkB_push, mkB_len, mkB_next, Option.getD_some, Option.getD_none, sz0, sz1, sz2, sz3, sz4, sz5, sz6, sz7, sz8, sz9, ev_keyI, ev_keyS, ev_eqB, ev_neB, wp_one, wp_yes, wp_valsI, wp_keysI, wp_lcE, ev_ixC el]
    exact fin _
  obtain ⟨d, h', e, ds, s, rfl, rfl⟩ := wpR_elim key
  exact ⟨ds, s, e⟩
/-! ### comprehensions over a tuple; slices; in -/
section
variable {σ : Sl} {h : HS} {X X' : XP} {ds : List D} {tg : Tgt} {tt : FT} {te : FE} {P : List D → HS → Prop}
theorem wp_lcT (I : Nat → List D → HS → Prop) (h0 : I 0 [] h)
    (step : ∀ (j : Nat) (hj : j < ds.length) (acc : List D) (h : HS), I j acc h → wpR (tg.m ds[j] σ h) (fun σ h => wpR (tt σ h) (fun b h => if b = true then wpR (te σ h) (fun y h => acc.length < sizeLine ∧ I (j + 1) (acc ++ [y]) h) X0 else I (j + 1) acc h) X0) X0)
    (fin : ∀ acc h, I ds.length acc h → P acc h) : wpR (itSeq (.tup ds) h) (fun J h => wpR (lcL tg tt te J σ J.n 0 [] h) P X') X := by
  simp only [itSeq, wpR_ok]
  exact wp_lcL _ I h0 (fun j acc h i hj => ⟨ds[j], List.getElem?_eq_getElem hj, step j hj acc h i⟩) fun acc h i => ⟨rfl, fin acc h i⟩
/-- a filter and a map, the heap as it is -/
theorem lcT_fm {α : Type} {xs : List α} (g : α → D) (p : α → Bool) (f : α → D) (hl : xs.length < 10000)
    (step : ∀ d ∈ xs, wpR (tg.m (g d) σ h) (fun σ2 h2 => wpR (tt σ2 h2) (fun b h3 => b = p d ∧ if b = true then wpR (te σ2 h3) (fun y h4 => y = f d ∧ h4 = h) X0 else h3 = h) X0) X0)
    (k : P ((xs.filter p).map f) h) : wpR (itSeq (.tup (xs.map g)) h) (fun J h => wpR (lcL tg tt te J σ J.n 0 [] h) P X') X := by
  refine wp_lcT (fun j acc h' => acc = ((xs.take j).filter p).map f ∧ h' = h) ⟨rfl, rfl⟩ ?_ ?_
  · rintro j hj0 acc h' ⟨rfl, rfl⟩
    have hj : j < xs.length := by rw [List.length_map] at hj0; exact hj0
    have eg : (xs.map g)[j] = g xs[j] := List.getElem_map _
    rw [eg]
    refine wpR_mono (step _ (List.getElem_mem hj)) fun σ2 h2 w => wpR_mono w fun b h3 w => ?_
    obtain ⟨eb, w⟩ := w
    have ht : (xs.take (j + 1)).filter p = (xs.take j).filter p ++ (if p xs[j] = true then [xs[j]] else []) := by
      rw [List.take_add_one, List.getElem?_eq_getElem hj, Option.toList_some, List.filter_append]
      congr 1
      by_cases q : p xs[j] = true
      · simp [q]
      · simp [q]
    by_cases q : b = true
    · rw [if_pos q] at w ⊢
      refine wpR_mono w fun y h4 w => ?_
      obtain ⟨rfl, rfl⟩ := w
      refine ⟨?_, ?_, rfl⟩
      · rw [List.length_map]
        have h1 : ((xs.take j).filter p).length ≤ (xs.take j).length := List.length_filter_le _ _
        have h2 : (xs.take j).length ≤ j := by rw [List.length_take]; exact Nat.min_le_left _ _
        exact Nat.lt_trans (show ((xs.take j).filter p).length < 10000 by omega) (by decide)
      · rw [ht, if_pos (eb ▸ q), List.map_append]; rfl
    · rw [if_neg q] at w ⊢
      refine ⟨?_, w⟩
      rw [ht, if_neg (by rw [← eb]; exact q), List.append_nil]
  · rintro acc h' ⟨rfl, rfl⟩
    rw [List.length_map, List.take_length]
    exact k
/-- the same over a list at a place -/
theorem lcS_fm {α : Type} {xs : List α} {q : Nat} (g : α → D) (hq : h[q]? = some (.lst (xs.map g))) (p : α → Bool) (f : α → D) (hl : xs.length < 10000)
    (step : ∀ d ∈ xs, wpR (tg.m (g d) σ h) (fun σ2 h2 => wpR (tt σ2 h2) (fun b h3 => b = p d ∧ if b = true then wpR (te σ2 h3) (fun y h4 => y = f d ∧ h4 = h) X0 else h3 = h) X0) X0)
    (k : P ((xs.filter p).map f) h) : wpR (itSeq (.ref q) h) (fun J h => wpR (lcL tg tt te J σ J.n 0 [] h) P X') X := by
  refine wp_lcS hq (fun j acc h' => acc = ((xs.take j).filter p).map f ∧ h' = h) ⟨rfl, rfl⟩ (fun j acc h' q => q.2 ▸ hq) ?_ ?_
  · rintro j hj0 acc h' ⟨rfl, rfl⟩
    have hj : j < xs.length := by rw [List.length_map] at hj0; exact hj0
    have eg : (xs.map g)[j] = g xs[j] := List.getElem_map _
    rw [eg]
    refine wpR_mono (step _ (List.getElem_mem hj)) fun σ2 h2 w => wpR_mono w fun b h3 w => ?_
    obtain ⟨eb, w⟩ := w
    have ht : (xs.take (j + 1)).filter p = (xs.take j).filter p ++ (if p xs[j] = true then [xs[j]] else []) := by
      rw [List.take_add_one, List.getElem?_eq_getElem hj, Option.toList_some, List.filter_append]
      congr 1
      by_cases q : p xs[j] = true
      · simp [q]
      · simp [q]
    by_cases q : b = true
    · rw [if_pos q] at w ⊢
      refine wpR_mono w fun y h4 w => ?_
      obtain ⟨rfl, rfl⟩ := w
      refine ⟨?_, ?_, rfl⟩
      · rw [List.length_map]
        have h1 : ((xs.take j).filter p).length ≤ (xs.take j).length := List.length_filter_le _ _
        have h2 : (xs.take j).length ≤ j := by rw [List.length_take]; exact Nat.min_le_left _ _
        exact Nat.lt_trans (show ((xs.take j).filter p).length < 10000 by omega) (by decide)
      · rw [ht, if_pos (eb ▸ q), List.map_append]; rfl
    · rw [if_neg q] at w ⊢
      refine ⟨?_, w⟩
      rw [ht, if_neg (by rw [← eb]; exact q), List.append_nil]
  · rintro acc h' ⟨rfl, rfl⟩
    rw [List.length_map, List.take_length]
    exact k
theorem lcT_map (f : D → D) (hl : ds.length < 10000)
    (step : ∀ d ∈ ds, wpR (tg.m d σ h) (fun σ2 h2 => wpR (te σ2 h2) (fun y h4 => y = f d ∧ h4 = h) X0) X0)
    (k : P (ds.map f) h) : wpR (itSeq (.tup ds) h) (fun J h => wpR (lcL tg mYes te J σ J.n 0 [] h) P X') X := by
  have e : ds = ds.map id := (List.map_id ds).symm
  have q := lcT_fm (tg := tg) (tt := mYes) (te := te) (P := P) (X := X) (X' := X') (σ := σ) (h := h) (xs := ds) id (fun _ => true) f hl (fun d hd => wpR_mono (step d hd) fun σ2 h2 w => wp_yes.mpr ⟨rfl, by rw [if_pos rfl]; exact w⟩) (by rw [List.filter_eq_self.mpr fun _ _ => rfl]; exact k)
  rw [← e] at q
  exact q
end
section
variable {h : HS} {l : List D} {x y z w : D} {a b c e : Str}
theorem sl1 : dSl (.tup (x :: l)) (some 1) none h = .ok (.tup l) h := by
  have e : cutD (x :: l) (some 1) none = l := by
    unfold cutD
    have e1 : HT.sIx (x :: l).length 0 (some 1) = 1 := by
      show (if (1 : Int) < 0 then ((1 : Int) + ((x :: l).length : Int)).toNat else min (Int.toNat 1) (x :: l).length) = 1
      rw [if_neg (by decide), List.length_cons]
      exact Nat.min_eq_left (Nat.succ_le_succ (Nat.zero_le _))
    rw [e1, HT.sIx_none]
    simp
  show R.ok (D.tup (cutD (x :: l) (some 1) none)) h = _
  rw [e]
theorem sl2 : dSl (.tup (x :: y :: l)) (some 2) none h = .ok (.tup l) h := by
  have e : cutD (x :: y :: l) (some 2) none = l := by
    unfold cutD
    have e1 : HT.sIx (x :: y :: l).length 0 (some 2) = 2 := by
      show (if (2 : Int) < 0 then ((2 : Int) + ((x :: y :: l).length : Int)).toNat else min (Int.toNat 2) (x :: y :: l).length) = 2
      rw [if_neg (by decide), List.length_cons, List.length_cons]
      exact Nat.min_eq_left (Nat.succ_le_succ (Nat.succ_le_succ (Nat.zero_le _)))
    rw [e1, HT.sIx_none]
    simp
  show R.ok (D.tup (cutD (x :: y :: l) (some 2) none)) h = _
  rw [e]
theorem in2 : dIn (.str e) (.tup [.str a, .str b]) h = .ok (.bl (decide (a = e ∨ b = e))) h := by
  show R.ok (D.bl ([D.str a, .str b].any fun y => fEq y (.str e))) h = _
  congr 2
  rw [Bool.eq_iff_iff]
  simp [fEq]
end
end FL

set_option Elab.async false
set_option linter.all false
set_option maxRecDepth 100000
/-! FL, part o: a dict of the module with text keys. -/
namespace FL
open PySem PySem.Spec PyProof.Rows L2
inductive KEnts (K : PySem.W.Frag) : List (Str × D) → List DictEntry → Prop where
  | nil : KEnts K [] []
  | cons {z : Str} {t : Tok} {d : D} {e : DictEntry} {tab : List (Str × D)} {es : List DictEntry} (hk : e.key = .str z t) (h : KDv K d e.val) (r : KEnts K tab es) : KEnts K ((z, d) :: tab) (e :: es)
def tabGet (tab : List (Str × D)) (z : Str) : Option D := (tab.find? fun p => decide (p.1 = z)).map (·.2)
structure KTab (K : PySem.W.Frag) (w : World) (mg : Str → Option Value) (x : Str) (tab : List (Str × D)) : Prop where
  ex : ∃ (d : Addr) (es : Array DictEntry) (n : Nat), mg x = some (.ref d) ∧ KDict K w d es n ∧ KEnts K tab es.toList
theorem KEnts.find {K : PySem.W.Frag} {z : Str} : ∀ {tab : List (Str × D)} {es : List DictEntry}, KEnts K tab es →
    (∃ r : Option Value, (match es.find? (·.key.isStr z) with
      | some e => some (some e.val)
      | none => if es.any (·.refKey) then none else some none) = some r ∧ match tabGet tab z with
        | some d => ∃ u, r = some u ∧ KDv K d u
        | none => r = none) ∧ es.any (·.refKey) = false
  | _, _, .nil => ⟨⟨none, rfl, rfl⟩, rfl⟩
  | _, _, .cons (z := y) (t := t) (e := e) (tab := tab) (es := es) hk h r => by
    obtain ⟨⟨r0, e1, e2⟩, e3⟩ := r.find (z := z)
    have ek : e.key.isStr z = (y == z) := by rw [hk]; rfl
    have er : e.refKey = false := by
      unfold DictEntry.refKey
      rw [hk]
    refine ⟨?_, by rw [List.any_cons, er, e3]; rfl⟩
    by_cases c : y = z
    · refine ⟨some e.val, ?_, ?_⟩
      · rw [List.find?_cons, ek, beq_iff_eq.mpr c]
      · rw [tabGet, List.find?_cons, decide_eq_true c]
        exact ⟨_, rfl, h⟩
    · refine ⟨r0, ?_, ?_⟩
      · rw [List.find?_cons, ek, beq_false_of_ne c, List.any_cons, er, Bool.false_or]
        exact e1
      · rw [tabGet, List.find?_cons, decide_eq_false c]
        exact e2
theorem KTab.get {K : PySem.W.Frag} {d : Addr} {es : Array DictEntry} {n : Nat} {w : World} {tab : List (Str × D)} (k : KDict K w d es n) (r : KEnts K tab es.toList) (z : Str) :
    ∃ r : Option Value, PySem.W.nsIn K d z = some r ∧ match tabGet tab z with
      | some d => ∃ u, r = some u ∧ KDv K d u
      | none => r = none := by
  obtain ⟨⟨r0, e1, e2⟩, _⟩ := r.find (z := z)
  refine ⟨r0, ?_, e2⟩
  unfold PySem.W.nsIn
  rw [k.at_]
  exact e1
def dKIn (tab : List (Str × D)) : D → HS → R D
  | .str z, h => .ok (.bl (tabGet tab z).isSome) h
  | _, _ => .bad
def dKNotIn (tab : List (Str × D)) : D → HS → R D
  | .str z, h => .ok (.bl !(tabGet tab z).isSome) h
  | _, _ => .bad
def dKGet (tab : List (Str × D)) : D → HS → R D
  | .str z, h => match tabGet tab z with
    | some d => .ok d h
    | none => .bad
  | _, _ => .bad
section
variable {X : Cx} {W : WX} {e : Expr} {m : FE} {x : Str} {tab : List (Str × D)} {p pos : Pos}
theorem lKIn {d : Addr} {es : Array DictEntry} {n : Nat} (k : KDict X.K X.w d es n) (r : KEnts X.K tab es.toList) (σ : L2.St) (H : Hp) (Q : VK) (q : lE X.K W (mUn (dKIn tab) m) σ H Q) :
    tOp (fun x y H Q => ∃ (z : Str) (r : Option Value), x = .str z ∧ y = .ref d ∧ PySem.W.nsIn X.K d z = some r ∧ Q (.bl r.isSome) H) (lE X.K W m) (tC (.ref d)) σ H Q := by
  obtain ⟨ρ, σh, h, rr, s, p⟩ := q
  refine ⟨ρ, σh, h, rr, s, Post.of_bind p fun d1 h1 ρ1 v H1 e1 r1 z1 p1 => ?_⟩
  cases z1 <;> first | exact p1.elim | skip
  rename_i z
  obtain ⟨r0, e1, e2⟩ := KTab.get k r z
  refine ⟨z, r0, rfl, rfl, e1, ?_⟩
  have p2 : Post X.K ρ1 H1 (DV X.K) _ Q (.ok (.bl (tabGet tab z).isSome) h1) := p1
  have e3 : (tabGet tab z).isSome = r0.isSome := by
    cases q : tabGet tab z with
    | none => rw [q] at e2; rw [e2]; rfl
    | some d => rw [q] at e2; obtain ⟨u, e4, _⟩ := e2; rw [e4]; rfl
  rw [e3] at p2
  exact p2.use r1 (.bl _)
theorem g_kin (K : KTab X.K X.w X.mg x tab) (he : GE X W e m) (hg : Gl X x := by rfl) (hd : (x == ("__debug__" : Str)) = false := by decide) : GE X W (.Compare e [.In] [.Name x p] pos) (mUn (dKIn tab) m) := by
  obtain ⟨d, es, n, hm, k, r⟩ := K.ex
  exact pe_mono (pe_cmpR (op_in_kd k) he (pe_glob (v := V.ref d) hg hm rfl hd) rfl) (lKIn k r)
theorem gt_kin (K : KTab X.K X.w X.mg x tab) (he : GE X W e m) (hg : Gl X x := by rfl) (hd : (x == ("__debug__" : Str)) = false := by decide) : GT X W (.Compare e [.In] [.Name x p] pos) (mBl (mUn (dKIn tab) m)) := by
  obtain ⟨d, es, n, hm, k, r⟩ := K.ex
  exact pt_mono (pt_cmpR (op_in_kd k) he (pe_glob (v := V.ref d) hg hm rfl hd) rfl) (lBl (lKIn k r))
theorem g_kget (K : KTab X.K X.w X.mg x tab) (he : GE X W e m) (hg : Gl X x := by rfl) (hd : (x == ("__debug__" : Str)) = false := by decide) (hp : PlainIx e := by exact fun _ _ => rfl) : GE X W (.Subscript (.Name x p) e pos) (mUn (dKGet tab) m) := by
  obtain ⟨d, es, n, hm, k, r⟩ := K.ex
  refine pe_mono (pe_ix ix_kdict (pe_glob (v := V.ref d) hg hm rfl hd) he hp) fun σ H Q ⟨ρ, σh, h, rr, s, p⟩ => ⟨ρ, σh, h, rr, s, Post.of_bind p fun d1 h1 ρ1 v H1 e1 r1 z1 p1 => ?_⟩
  cases z1 <;> first | exact p1.elim | skip
  rename_i z
  obtain ⟨r0, e1, e2⟩ := KTab.get k r z
  cases q : tabGet tab z with
  | none =>
    simp only [dKGet, q] at p1
    exact p1.elim
  | some dd =>
    rw [q] at e2
    obtain ⟨u, e4, kd⟩ := e2
    simp only [dKGet, q] at p1
    obtain ⟨v, rv, zv⟩ := kd.ok
    exact ⟨d, z, v, rfl, rfl, ⟨es, n, u, k.at_, k.lit, by rw [e1, e4], rv⟩, p1.use r1 (zv _ _)⟩
end
end FL

set_option Elab.async false
set_option linter.all false
set_option maxRecDepth 100000
set_option maxHeartbeats 400000
/-! FL, part p: the draws of the laws k00 to k10, k97, k98. -/
namespace FL
open PySem PySem.Spec PyProof.Rows L2
noncomputable def m_mixK : FS :=
    mSeq (mAsg (mOp dMod (mCall (dInt) (mCons (mOp dAdd (mOp dAdd (mOp dMul (mVar 0) (mC (.int 48271))) (mOp dMul (mVar 1) (mC (.int 69621)))) (mC (.int 11))) (mNil))) (mC (.int 2147483647))) (mTo 2))
    (mRet (mOp dMod (mOp dMod (mCall (dInt) (mCons (mOp dAdd (mOp dAdd (mOp dAdd (mOp dMul (mVar 2) (mVar 2)) (mOp dMul (mVar 0) (mC (.int 40692)))) (mOp dMul (mVar 1) (mC (.int 7)))) (mC (.int 3))) (mNil))) (mC (.int 1000003))) (mC (.int 1000))))
noncomputable def f_mixK : List D → HS → R D := runB 3 m_mixK
def mixI (a k : Int) : Int := (((a * 48271 + k * 69621 + 11) % 2147483647) * ((a * 48271 + k * 69621 + 11) % 2147483647) + a * 40692 + k * 7 + 3) % 1000003 % 1000
theorem mixK_ok {a k : Int} {h : HS} : f_mixK [.int a, .int k] h = .ok (.int (mixI a k)) h := by
  have key : wpR (f_mixK [.int a, .int k] h) (fun d h' => d = .int (mixI a k) ∧ h' = h) X0 := by
    unfold f_mixK m_mixK
    have c1 : CMul a 48271 := .inr ⟨by decide, by decide⟩
    have c2 : CMul k 69621 := .inr ⟨by decide, by decide⟩
    have c3 : CMul ((a * 48271 + k * 69621 + 11) % 2147483647) ((a * 48271 + k * 69621 + 11) % 2147483647) := .inl ⟨by omega, by omega⟩
    have c4 : CMul a 40692 := .inr ⟨by decide, by decide⟩
    have c5 : CMul k 7 := .inr ⟨by decide, by decide⟩
    simp only [↓wp_seq, ↓wp_skip, ↓wp_drop, ↓wp_ret, ↓wp_retN, ↓wp_brk, ↓wp_cnt, ↓wp_if, ↓wp_asg, ↓wp_to, ↓wp_tos, ↓wp_toIx, ↓wp_aug, ↓wp_augK, ↓wp_fldSet, ↓wp_fldAug, ↓wp_var, ↓wp_c, ↓wp_op, ↓wp_un, ↓wp_nil, ↓wp_cons, ↓wp_tup, ↓wp_lst, ↓wp_dict0, ↓wp_dict, ↓wp_pairs0, ↓wp_pairs, ↓wp_call, ↓wp_callF, ↓wp_tru, ↓wp_bl, ↓wp_and, ↓wp_or, ↓wp_not, ↓wp_andV, ↓wp_orV, ↓wp_notV, ↓wp_part, ↓wp_noPart, ↓wp_sl, ↓wp_bm, ↓wp_ifE, ↓wp_fld, ↓wp_meth, ↓wp_make, ↓wp_lockE, ↓wp_rng1, ↓wp_rng2, ↓wp_seqI, ↓wpR_ok, ↓wpS_nx, ↓wpS_rt, List.getElem?_cons_zero, List.getElem?_cons_succ, List.set_cons_zero, List.set_cons_succ, List.length_cons, List.length_nil, ↓reduceIte, decide_eq_true_eq, ev_add, ev_iadd, ev_sub, ev_mod, ev_neg, ev_lt, ev_le, ev_gt, ev_ge, ev_eqI, ev_neI, ev_eqS, ev_neS, ev_isN, ev_int, ev_abs, ev_max, ev_min, ev_lenT, ev_lenC, ev_tupT, Int.reduceLT, Int.reduceLE, Int.reduceNeg, Int.reduceAdd, Int.reduceSub, Int.reduceEq, Nat.reduceAdd, Nat.reduceSub, and_self, ↓List.map_cons, ↓List.map_nil, ↓List.cons_append, ↓List.nil_append, List.replicate, ixT0, ixT1, ixT2, ixT3, ixTm1, ixTm2, ixTm3, onH_get, onH_set, onH_push, onH_len, mkB_get, mkB_set, mkB_push, mkB_len, mkB_next, Option.getD_some, Option.getD_none, sz0, sz1, sz2, sz3, sz4, sz5, sz6, sz7, sz8, sz9, ev_keyI, ev_keyS, ev_eqB, ev_neB, wp_one, wp_yes, wp_valsI, wp_keysI, wp_lcE, ↓wp_runB, ev_mul c1, ev_mul c2, ev_mul c3, ev_mul c4, ev_mul c5]
    exact ⟨rfl, trivial⟩
  obtain ⟨d, h', e, rfl, rfl⟩ := wpR_elim key
  exact e
noncomputable def m_streamK_b1 : FS :=
    mIfS (mAnd (mBl (mOp dGt (mVar 4) (mC (.int 0)))) (mBl (mOp dLt (mCall (dLen) (mCons (mVar 2) (mNil))) (mVar 1))))
    (mSeq (mDrop (mBM "list" dAppend (mVar 2) (mCons (mOp dMod (mCall (dInt) (mCons (mVar 4) (mNil))) (mC (.int 1000))) (mNil))))
    (mAsg (mOp dFdiv (mVar 4) (mC (.int 1000))) (mTo 4)))
    (mSkip)
noncomputable def m_streamK_b2 : FS :=
    mIfS (mBl (mOp dLt (mCall (dLen) (mCons (mVar 2) (mNil))) (mVar 1)))
    (mDrop (mBM "list" dAppend (mVar 2) (mCons (mCallF 2 (f_mixK) (mCons (mVar 4) (mCons (mOp dAdd (mOp dMul (mC (.int 64)) (mVar 5)) (mVar 3)) (mNil)))) (mNil))))
    (mSkip)
noncomputable def m_streamK_b3 : FS :=
    mSeq (mAsg (mOp dIx (mVar 0) (mVar 3)) (mTo 4))
    (mIfS (mBl (mOp dGe (mVar 4) (mOp dPow (mC (.int 10)) (mC (.int 18)))))
    (mFor (mRange1 (mCons (mC (.int 60)) (mNil))) (mTo 5)
    (m_streamK_b1))
    (mFor (mRange1 (mCons (mC (.int 3)) (mNil))) (mTo 5)
    (m_streamK_b2)))
noncomputable def m_streamK_r4 : FS :=
    mRet (mDict [(mC (.str "row"), mVar 2), (mC (.str "at"), mC (.int 0)), (mC (.str "seed"), mCall (dLen) (mCons (mVar 2) (mNil)))])
noncomputable def m_streamK : FS :=
    mSeq (mAsg (mLst (mNil)) (mTo 2))
    (mSeq (mFor (mRange1 (mCons (mCall (dMin2) (mCons (mCall (dLen) (mCons (mVar 0) (mNil))) (mCons (mC (.int 63)) (mNil)))) (mNil))) (mTo 3)
    (m_streamK_b3))
    (m_streamK_r4))
noncomputable def m_pickK_r1 : FS :=
    mRet (mOp dMod (mCall (dInt) (mCons (mVar 3) (mNil))) (mVar 1))
noncomputable def m_pickK : FS :=
    mSeq (mAsg (mOp dIx (mVar 0) (mC (.str "at"))) (mTo 2))
    (mSeq (mAsg (mOp dAdd (mVar 2) (mC (.int 1))) (mToIx (mVar 0) (mC (.str "at"))))
    (mSeq (mAsg (mCallF 2 (f_mixK) (mCons (mOp dIx (mVar 0) (mC (.str "seed"))) (mCons (mVar 2) (mNil)))) (mTo 3))
    (mSeq (mIfS (mBl (mOp dLt (mVar 2) (mCall (dLen) (mCons (mOp dIx (mVar 0) (mC (.str "row"))) (mNil)))))
    (mAsg (mOp dIx (mOp dIx (mVar 0) (mC (.str "row"))) (mVar 2)) (mTo 3))
    (mSkip))
    (m_pickK_r1))))
noncomputable def f_pickK : List D → HS → R D := runB 4 m_pickK
noncomputable def f_streamK : List D → HS → R D := runB 6 m_streamK
def nxK (ds : List Int) (s : Int) (a : Nat) (m : Int) : Int := (if a < ds.length then ds.getD a 0 else mixI s a) % m
theorem pickK_eq {h : HS} {a : Nat} {ds : List Int} {m s : Int} (hw : h[1]? = some (bagA a s)) (hr : h[0]? = some (.lst (ds.map .int))) (hm : 0 < m) :
    f_pickK [.ref 1, .int m] h = .ok (.int (nxK ds s a m)) (h.set 1 (bagA (a + 1) s)) := by
  have key : wpR (f_pickK [.ref 1, .int m] h) (fun d h' => d = .int (nxK ds s a m) ∧ h' = h.set 1 (bagA (a + 1) s)) X0 := by
    unfold f_pickK m_pickK
    have lw : 1 < h.length := (List.getElem?_eq_some_iff.mp hw).1
    have hw2 : ∀ o, (h.set 1 o)[1]? = some o := fun o => by rw [List.getElem?_set_self lw]
    have hr2 : ∀ o, (h.set 1 o)[0]? = some (.lst (ds.map .int)) := fun o => by rw [List.getElem?_set_ne (by decide), hr]
    have i1 : dIx (.ref 1) (.str "at") h = .ok (.int a) h := by simp only [dIx, hw]; rfl
    have e2 : dSet (.ref 1) (.str "at") (.int (a + 1)) h = some (h.set 1 (bagA (a + 1) s)) := by
      rw [dSet_dK hw rfl (show 3 < sizeLine by decide)]; rfl
    have i3 : dIx (.ref 1) (.str "row") (h.set 1 (bagA (a + 1) s)) = .ok (.ref 0) (h.set 1 (bagA (a + 1) s)) := by simp only [dIx, hw2]; rfl
    have i4 : dIx (.ref 1) (.str "seed") (h.set 1 (bagA (a + 1) s)) = .ok (.int s) (h.set 1 (bagA (a + 1) s)) := by simp only [dIx, hw2]; rfl
    simp only [↓wp_seq, ↓wp_skip, ↓wp_drop, ↓wp_ret, ↓wp_retN, ↓wp_brk, ↓wp_cnt, ↓wp_if, ↓wp_asg, ↓wp_to, ↓wp_tos, ↓wp_toIx, ↓wp_aug, ↓wp_augK, ↓wp_fldSet, ↓wp_fldAug, ↓wp_var, ↓wp_c, ↓wp_op, ↓wp_un, ↓wp_nil, ↓wp_cons, ↓wp_tup, ↓wp_lst, ↓wp_dict0, ↓wp_dict, ↓wp_pairs0, ↓wp_pairs, ↓wp_call, ↓wp_callF, ↓wp_tru, ↓wp_bl, ↓wp_and, ↓wp_or, ↓wp_not, ↓wp_andV, ↓wp_orV, ↓wp_notV, ↓wp_part, ↓wp_noPart, ↓wp_sl, ↓wp_bm, ↓wp_ifE, ↓wp_fld, ↓wp_meth, ↓wp_make, ↓wp_lockE, ↓wp_rng1, ↓wp_rng2, ↓wp_seqI, ↓wpR_ok, ↓wpS_nx, ↓wpS_rt, List.getElem?_cons_zero, List.getElem?_cons_succ, List.set_cons_zero, List.set_cons_succ, List.length_cons, List.length_nil, ↓reduceIte, decide_eq_true_eq, ev_add, ev_iadd, ev_sub, ev_mod, ev_neg, ev_lt, ev_le, ev_gt, ev_ge, ev_eqI, ev_neI, ev_eqS, ev_neS, ev_isN, ev_int, ev_abs, ev_max, ev_min, ev_lenT, ev_lenC, ev_tupT, Int.reduceLT, Int.reduceLE, Int.reduceNeg, Int.reduceAdd, Int.reduceSub, Int.reduceEq, Nat.reduceAdd, Nat.reduceSub, and_self, ↓List.map_cons, ↓List.map_nil, ↓List.cons_append, ↓List.nil_append, List.replicate, ixT0, ixT1, ixT2, ixT3, ixTm1, ixTm2, ixTm3, onH_get, onH_set, onH_push, onH_len, mkB_get, mkB_set, mkB_push, mkB_len, mkB_next, Option.getD_some, Option.getD_none, sz0, sz1, sz2, sz3, sz4, sz5, sz6, sz7, sz8, sz9, ev_keyI, ev_keyS, ev_eqB, ev_neB, wp_one, wp_yes, wp_valsI, wp_keysI, wp_lcE, ↓wp_runB, i1, e2, i3, i4, mixK_ok, ev_lenL (hr2 _), List.length_map]
    refine ite2 (fun c => ?_) (fun c => ?_)
    · have c' : a < ds.length := by omega
      have e : atI (ds.map D.int) (a : Int) = some (.int (ds.getD a 0)) := by
        refine atI_nat ?_
        rw [List.getElem?_map, List.getElem?_eq_getElem c', List.getD_eq_getElem?_getD, List.getElem?_eq_getElem c']
        rfl
      unfold m_pickK_r1
      rw [ev_ixL (hr2 _) e, wpR_ok]
      simp only [↓wp_seq, ↓wp_skip, ↓wp_drop, ↓wp_ret, ↓wp_retN, ↓wp_brk, ↓wp_cnt, ↓wp_if, ↓wp_asg, ↓wp_to, ↓wp_tos, ↓wp_toIx, ↓wp_aug, ↓wp_augK, ↓wp_fldSet, ↓wp_fldAug, ↓wp_var, ↓wp_c, ↓wp_op, ↓wp_un, ↓wp_nil, ↓wp_cons, ↓wp_tup, ↓wp_lst, ↓wp_dict0, ↓wp_dict, ↓wp_pairs0, ↓wp_pairs, ↓wp_call, ↓wp_callF, ↓wp_tru, ↓wp_bl, ↓wp_and, ↓wp_or, ↓wp_not, ↓wp_andV, ↓wp_orV, ↓wp_notV, ↓wp_part, ↓wp_noPart, ↓wp_sl, ↓wp_bm, ↓wp_ifE, ↓wp_fld, ↓wp_meth, ↓wp_make, ↓wp_lockE, ↓wp_rng1, ↓wp_rng2, ↓wp_seqI, ↓wpR_ok, ↓wpS_nx, ↓wpS_rt, List.getElem?_cons_zero, List.getElem?_cons_succ, List.set_cons_zero, List.set_cons_succ, List.length_cons, List.length_nil, ↓reduceIte, decide_eq_true_eq, ev_add, ev_iadd, ev_sub, ev_mod, ev_neg, ev_lt, ev_le, ev_gt, ev_ge, ev_eqI, ev_neI, ev_eqS, ev_neS, ev_isN, ev_int, ev_abs, ev_max, ev_min, ev_lenT, ev_lenC, ev_tupT, Int.reduceLT, Int.reduceLE, Int.reduceNeg, Int.reduceAdd, Int.reduceSub, Int.reduceEq, Nat.reduceAdd, Nat.reduceSub, and_self, ↓List.map_cons, ↓List.map_nil, ↓List.cons_append, ↓List.nil_append, List.replicate, ixT0, ixT1, ixT2, ixT3, ixTm1, ixTm2, ixTm3, onH_get, onH_set, onH_push, onH_len, mkB_get, mkB_set, mkB_push, mkB_len, mkB_next, Option.getD_some, Option.getD_none, sz0, sz1, sz2, sz3, sz4, sz5, sz6, sz7, sz8, sz9, ev_keyI, ev_keyS, ev_eqB, ev_neB, wp_one, wp_yes, wp_valsI, wp_keysI, wp_lcE]
      rw [ev_mod hm, wpR_ok]
      exact ⟨by rw [nxK, if_pos c'], rfl⟩
    · unfold m_pickK_r1
      simp only [↓wp_seq, ↓wp_skip, ↓wp_drop, ↓wp_ret, ↓wp_retN, ↓wp_brk, ↓wp_cnt, ↓wp_if, ↓wp_asg, ↓wp_to, ↓wp_tos, ↓wp_toIx, ↓wp_aug, ↓wp_augK, ↓wp_fldSet, ↓wp_fldAug, ↓wp_var, ↓wp_c, ↓wp_op, ↓wp_un, ↓wp_nil, ↓wp_cons, ↓wp_tup, ↓wp_lst, ↓wp_dict0, ↓wp_dict, ↓wp_pairs0, ↓wp_pairs, ↓wp_call, ↓wp_callF, ↓wp_tru, ↓wp_bl, ↓wp_and, ↓wp_or, ↓wp_not, ↓wp_andV, ↓wp_orV, ↓wp_notV, ↓wp_part, ↓wp_noPart, ↓wp_sl, ↓wp_bm, ↓wp_ifE, ↓wp_fld, ↓wp_meth, ↓wp_make, ↓wp_lockE, ↓wp_rng1, ↓wp_rng2, ↓wp_seqI, ↓wpR_ok, ↓wpS_nx, ↓wpS_rt, List.getElem?_cons_zero, List.getElem?_cons_succ, List.set_cons_zero, List.set_cons_succ, List.length_cons, List.length_nil, ↓reduceIte, decide_eq_true_eq, ev_add, ev_iadd, ev_sub, ev_mod, ev_neg, ev_lt, ev_le, ev_gt, ev_ge, ev_eqI, ev_neI, ev_eqS, ev_neS, ev_isN, ev_int, ev_abs, ev_max, ev_min, ev_lenT, ev_lenC, ev_tupT, Int.reduceLT, Int.reduceLE, Int.reduceNeg, Int.reduceAdd, Int.reduceSub, Int.reduceEq, Nat.reduceAdd, Nat.reduceSub, and_self, ↓List.map_cons, ↓List.map_nil, ↓List.cons_append, ↓List.nil_append, List.replicate, ixT0, ixT1, ixT2, ixT3, ixTm1, ixTm2, ixTm3, onH_get, onH_set, onH_push, onH_len, mkB_get, mkB_set, mkB_push, mkB_len, mkB_next, Option.getD_some, Option.getD_none, sz0, sz1, sz2, sz3, sz4, sz5, sz6, sz7, sz8, sz9, ev_keyI, ev_keyS, ev_eqB, ev_neB, wp_one, wp_yes, wp_valsI, wp_keysI, wp_lcE]
      rw [ev_mod hm, wpR_ok]
      exact ⟨by rw [nxK, if_neg (by omega)], rfl⟩
  obtain ⟨d, h', e, rfl, rfl⟩ := wpR_elim key
  exact e
theorem DA.pickK {ds : List Int} {s : Int} {h0 h : HS} {m : Int} {P : D → HS → Prop} {X : XP} (w : DA ds s h0 h) (hm : 0 < m) (k : ∀ (v : Int) (h' : HS), 0 ≤ v → v < m → DA ds s h0 h' → P (.int v) h') : wpR (f_pickK [.ref 1, .int m] h) P X := by
  obtain ⟨b, e1, e2⟩ := w.bag
  rw [pickK_eq e1 e2 hm, wpR_ok]
  refine k _ _ (Int.emod_nonneg _ (by omega)) (Int.emod_lt_of_pos _ hm) ?_
  obtain ⟨w1, w2, a, l1, rfl⟩ := w
  exact ⟨w1, w2, b + 1, l1, set_setp w2⟩
section
variable {h : HS} {acc : List Int} {T : Tl} {a0 a3 a4 a5 : Option D} {m : Int}
theorem len_last {h : HS} {l : List D} : dLen [.ref h.length] (h ++ [.lst l]) = .ok (.int l.length) (h ++ [.lst l]) := ev_lenL (by simp)
theorem streamK_b1 {r : Int} (hl : acc.length < 100000) :
    wpS (m_streamK_b1 [a0, some (.int m), some (.ref h.length), a3, some (.int r), a5] (h ++ [.lst (acc.map .int)]))
      (fun σ h' => ∃ (acc' : List Int) (r' : Int), σ = [a0, some (.int m), some (.ref h.length), a3, some (.int r'), a5] ∧ h' = h ++ [.lst (acc'.map .int)] ∧ acc'.length ≤ acc.length + 1) T := by
  unfold m_streamK_b1
  simp only [↓wp_seq, ↓wp_skip, ↓wp_drop, ↓wp_ret, ↓wp_retN, ↓wp_brk, ↓wp_cnt, ↓wp_if, ↓wp_asg, ↓wp_to, ↓wp_tos, ↓wp_toIx, ↓wp_aug, ↓wp_augK, ↓wp_fldSet, ↓wp_fldAug, ↓wp_var, ↓wp_c, ↓wp_op, ↓wp_un, ↓wp_nil, ↓wp_cons, ↓wp_tup, ↓wp_lst, ↓wp_dict0, ↓wp_dict, ↓wp_pairs0, ↓wp_pairs, ↓wp_call, ↓wp_callF, ↓wp_tru, ↓wp_bl, ↓wp_and, ↓wp_or, ↓wp_not, ↓wp_andV, ↓wp_orV, ↓wp_notV, ↓wp_part, ↓wp_noPart, ↓wp_sl, ↓wp_bm, ↓wp_ifE, ↓wp_fld, ↓wp_meth, ↓wp_make, ↓wp_lockE, ↓wp_rng1, ↓wp_rng2, ↓wp_seqI, ↓wpR_ok, ↓wpS_nx, ↓wpS_rt, List.getElem?_cons_zero, List.getElem?_cons_succ, List.set_cons_zero, List.set_cons_succ, List.length_cons, List.length_nil, ↓reduceIte, decide_eq_true_eq, ev_add, ev_iadd, ev_sub, ev_mod, ev_neg, ev_lt, ev_le, ev_gt, ev_ge, ev_eqI, ev_neI, ev_eqS, ev_neS, ev_isN, ev_int, ev_abs, ev_max, ev_min, ev_lenT, ev_lenC, ev_tupT, Int.reduceLT, Int.reduceLE, Int.reduceNeg, Int.reduceAdd, Int.reduceSub, Int.reduceEq, Nat.reduceAdd, Nat.reduceSub, and_self, ↓List.map_cons, ↓List.map_nil, ↓List.cons_append, ↓List.nil_append, List.replicate, ixT0, ixT1, ixT2, ixT3, ixTm1, ixTm2, ixTm3, onH_get, onH_set, onH_push, onH_len, mkB_get, mkB_set, mkB_push, mkB_len, mkB_next, Option.getD_some, Option.getD_none, sz0, sz1, sz2, sz3, sz4, sz5, sz6, sz7, sz8, sz9, ev_keyI, ev_keyS, ev_eqB, ev_neB, wp_one, wp_yes, wp_valsI, wp_keysI, wp_lcE, ty_lst, len_last]
  refine ite2 (fun c => ?_) (fun c => ?_)
  · refine ite2 (fun c2 => ?_) (fun c2 => ?_)
    · refine app_draw (by omega) ?_
      simp only [ev_fdiv cdiv1000, wpR_ok]
      exact ⟨_, _, rfl, rfl, by simp⟩
    · exact ⟨acc, r, rfl, rfl, Nat.le_succ _⟩
  · exact ⟨acc, r, rfl, rfl, Nat.le_succ _⟩
theorem streamK_b2 {r j k : Int} (hl : acc.length < 100000) :
    wpS (m_streamK_b2 [a0, some (.int m), some (.ref h.length), some (.int k), some (.int r), some (.int j)] (h ++ [.lst (acc.map .int)]))
      (fun σ h' => ∃ (acc' : List Int), σ = [a0, some (.int m), some (.ref h.length), some (.int k), some (.int r), some (.int j)] ∧ h' = h ++ [.lst (acc'.map .int)] ∧ acc'.length ≤ acc.length + 1) T := by
  unfold m_streamK_b2
  have c2 : CMul 64 j := .inl ⟨by decide, by decide⟩
  simp only [↓wp_seq, ↓wp_skip, ↓wp_drop, ↓wp_ret, ↓wp_retN, ↓wp_brk, ↓wp_cnt, ↓wp_if, ↓wp_asg, ↓wp_to, ↓wp_tos, ↓wp_toIx, ↓wp_aug, ↓wp_augK, ↓wp_fldSet, ↓wp_fldAug, ↓wp_var, ↓wp_c, ↓wp_op, ↓wp_un, ↓wp_nil, ↓wp_cons, ↓wp_tup, ↓wp_lst, ↓wp_dict0, ↓wp_dict, ↓wp_pairs0, ↓wp_pairs, ↓wp_call, ↓wp_callF, ↓wp_tru, ↓wp_bl, ↓wp_and, ↓wp_or, ↓wp_not, ↓wp_andV, ↓wp_orV, ↓wp_notV, ↓wp_part, ↓wp_noPart, ↓wp_sl, ↓wp_bm, ↓wp_ifE, ↓wp_fld, ↓wp_meth, ↓wp_make, ↓wp_lockE, ↓wp_rng1, ↓wp_rng2, ↓wp_seqI, ↓wpR_ok, ↓wpS_nx, ↓wpS_rt, List.getElem?_cons_zero, List.getElem?_cons_succ, List.set_cons_zero, List.set_cons_succ, List.length_cons, List.length_nil, ↓reduceIte, decide_eq_true_eq, ev_add, ev_iadd, ev_sub, ev_mod, ev_neg, ev_lt, ev_le, ev_gt, ev_ge, ev_eqI, ev_neI, ev_eqS, ev_neS, ev_isN, ev_int, ev_abs, ev_max, ev_min, ev_lenT, ev_lenC, ev_tupT, Int.reduceLT, Int.reduceLE, Int.reduceNeg, Int.reduceAdd, Int.reduceSub, Int.reduceEq, Nat.reduceAdd, Nat.reduceSub, and_self, ↓List.map_cons, ↓List.map_nil, ↓List.cons_append, ↓List.nil_append, List.replicate, ixT0, ixT1, ixT2, ixT3, ixTm1, ixTm2, ixTm3, onH_get, onH_set, onH_push, onH_len, mkB_get, mkB_set, mkB_push, mkB_len, mkB_next, Option.getD_some, Option.getD_none, sz0, sz1, sz2, sz3, sz4, sz5, sz6, sz7, sz8, sz9, ev_keyI, ev_keyS, ev_eqB, ev_neB, wp_one, wp_yes, wp_valsI, wp_keysI, wp_lcE, ty_lst, len_last, ev_mul c2, mixK_ok]
  refine ite2 (fun c => ?_) (fun c => ?_)
  · refine app_draw (by omega) ?_
    exact ⟨_, trivial, rfl, by simp⟩
  · exact ⟨acc, trivial, rfl, Nat.le_succ _⟩
theorem streamK_b3 {ns : List Int} {j : Nat} (hj : j < ns.length) (hl : acc.length < 90000) :
    wpS (m_streamK_b3 [some (.cst (ns.map .int)), some (.int m), some (.ref h.length), some (.int j), a4, a5] (h ++ [.lst (acc.map .int)]))
      (fun σ h' => ∃ (acc' : List Int) (a4 a5 : Option D), σ = [some (.cst (ns.map .int)), some (.int m), some (.ref h.length), some (.int j), a4, a5] ∧ h' = h ++ [.lst (acc'.map .int)] ∧ acc'.length ≤ acc.length + 60) T := by
  unfold m_streamK_b3
  have e : atI (ns.map D.int) (j : Int) = some (.int ns[j]) := atI_nat (by rw [List.getElem?_map, List.getElem?_eq_getElem hj]; rfl)
  simp only [↓wp_seq, ↓wp_skip, ↓wp_drop, ↓wp_ret, ↓wp_retN, ↓wp_brk, ↓wp_cnt, ↓wp_if, ↓wp_asg, ↓wp_to, ↓wp_tos, ↓wp_toIx, ↓wp_aug, ↓wp_augK, ↓wp_fldSet, ↓wp_fldAug, ↓wp_var, ↓wp_c, ↓wp_op, ↓wp_un, ↓wp_nil, ↓wp_cons, ↓wp_tup, ↓wp_lst, ↓wp_dict0, ↓wp_dict, ↓wp_pairs0, ↓wp_pairs, ↓wp_call, ↓wp_callF, ↓wp_tru, ↓wp_bl, ↓wp_and, ↓wp_or, ↓wp_not, ↓wp_andV, ↓wp_orV, ↓wp_notV, ↓wp_part, ↓wp_noPart, ↓wp_sl, ↓wp_bm, ↓wp_ifE, ↓wp_fld, ↓wp_meth, ↓wp_make, ↓wp_lockE, ↓wp_rng1, ↓wp_rng2, ↓wp_seqI, ↓wpR_ok, ↓wpS_nx, ↓wpS_rt, List.getElem?_cons_zero, List.getElem?_cons_succ, List.set_cons_zero, List.set_cons_succ, List.length_cons, List.length_nil, ↓reduceIte, decide_eq_true_eq, ev_add, ev_iadd, ev_sub, ev_mod, ev_neg, ev_lt, ev_le, ev_gt, ev_ge, ev_eqI, ev_neI, ev_eqS, ev_neS, ev_isN, ev_int, ev_abs, ev_max, ev_min, ev_lenT, ev_lenC, ev_tupT, Int.reduceLT, Int.reduceLE, Int.reduceNeg, Int.reduceAdd, Int.reduceSub, Int.reduceEq, Nat.reduceAdd, Nat.reduceSub, and_self, ↓List.map_cons, ↓List.map_nil, ↓List.cons_append, ↓List.nil_append, List.replicate, ixT0, ixT1, ixT2, ixT3, ixTm1, ixTm2, ixTm3, onH_get, onH_set, onH_push, onH_len, mkB_get, mkB_set, mkB_push, mkB_len, mkB_next, Option.getD_some, Option.getD_none, sz0, sz1, sz2, sz3, sz4, sz5, sz6, sz7, sz8, sz9, ev_keyI, ev_keyS, ev_eqB, ev_neB, wp_one, wp_yes, wp_valsI, wp_keysI, wp_lcE, ev_ixC e, ev_pow (show CPow 10 18 from by decide), ↓wp_forE]
  generalize ns[j] = c
  split
  · rename_i hb
    clear hb
    rw [if_pos (by decide)]
    refine wp_forR (fun k σ h' => ∃ (acc' : List Int) (r : Int) (a5 : Option D), σ = [some (.cst (ns.map .int)), some (.int m), some (.ref h.length), some (.int j), some (.int r), a5] ∧ h' = h ++ [.lst (acc'.map .int)] ∧ acc'.length ≤ acc.length + k) ⟨acc, c, a5, rfl, rfl, Nat.le_refl _⟩ ?_ ?_
    · rintro k σ h' ⟨acc', r, a5, rfl, rfl, q⟩ hk
      simp only [↓wp_seq, ↓wp_skip, ↓wp_drop, ↓wp_ret, ↓wp_retN, ↓wp_brk, ↓wp_cnt, ↓wp_if, ↓wp_asg, ↓wp_to, ↓wp_tos, ↓wp_toIx, ↓wp_aug, ↓wp_augK, ↓wp_fldSet, ↓wp_fldAug, ↓wp_var, ↓wp_c, ↓wp_op, ↓wp_un, ↓wp_nil, ↓wp_cons, ↓wp_tup, ↓wp_lst, ↓wp_dict0, ↓wp_dict, ↓wp_pairs0, ↓wp_pairs, ↓wp_call, ↓wp_callF, ↓wp_tru, ↓wp_bl, ↓wp_and, ↓wp_or, ↓wp_not, ↓wp_andV, ↓wp_orV, ↓wp_notV, ↓wp_part, ↓wp_noPart, ↓wp_sl, ↓wp_bm, ↓wp_ifE, ↓wp_fld, ↓wp_meth, ↓wp_make, ↓wp_lockE, ↓wp_rng1, ↓wp_rng2, ↓wp_seqI, ↓wpR_ok, ↓wpS_nx, ↓wpS_rt, List.getElem?_cons_zero, List.getElem?_cons_succ, List.set_cons_zero, List.set_cons_succ, List.length_cons, List.length_nil, ↓reduceIte, decide_eq_true_eq, ev_add, ev_iadd, ev_sub, ev_mod, ev_neg, ev_lt, ev_le, ev_gt, ev_ge, ev_eqI, ev_neI, ev_eqS, ev_neS, ev_isN, ev_int, ev_abs, ev_max, ev_min, ev_lenT, ev_lenC, ev_tupT, Int.reduceLT, Int.reduceLE, Int.reduceNeg, Int.reduceAdd, Int.reduceSub, Int.reduceEq, Nat.reduceAdd, Nat.reduceSub, and_self, ↓List.map_cons, ↓List.map_nil, ↓List.cons_append, ↓List.nil_append, List.replicate, ixT0, ixT1, ixT2, ixT3, ixTm1, ixTm2, ixTm3, onH_get, onH_set, onH_push, onH_len, mkB_get, mkB_set, mkB_push, mkB_len, mkB_next, Option.getD_some, Option.getD_none, sz0, sz1, sz2, sz3, sz4, sz5, sz6, sz7, sz8, sz9, ev_keyI, ev_keyS, ev_eqB, ev_neB, wp_one, wp_yes, wp_valsI, wp_keysI, wp_lcE]
      have hk2 : k < 60 := hk
      refine wpS_mono (streamK_b1 (by omega)) ?_
      rintro σ h2 ⟨acc2, r2, rfl, rfl, q2⟩
      exact ⟨acc2, r2, _, rfl, rfl, by omega⟩
    · rintro σ h' ⟨acc', r, a5, rfl, rfl, q⟩
      exact ⟨acc', _, _, rfl, rfl, q⟩
  · rename_i hb
    clear hb
    rw [if_pos (by decide)]
    refine wp_forR (fun k σ h' => ∃ (acc' : List Int) (a5 : Option D), σ = [some (.cst (ns.map .int)), some (.int m), some (.ref h.length), some (.int j), some (.int c), a5] ∧ h' = h ++ [.lst (acc'.map .int)] ∧ acc'.length ≤ acc.length + k) ⟨acc, a5, rfl, rfl, Nat.le_refl _⟩ ?_ ?_
    · rintro k σ h' ⟨acc', a5, rfl, rfl, q⟩ hk
      simp only [↓wp_seq, ↓wp_skip, ↓wp_drop, ↓wp_ret, ↓wp_retN, ↓wp_brk, ↓wp_cnt, ↓wp_if, ↓wp_asg, ↓wp_to, ↓wp_tos, ↓wp_toIx, ↓wp_aug, ↓wp_augK, ↓wp_fldSet, ↓wp_fldAug, ↓wp_var, ↓wp_c, ↓wp_op, ↓wp_un, ↓wp_nil, ↓wp_cons, ↓wp_tup, ↓wp_lst, ↓wp_dict0, ↓wp_dict, ↓wp_pairs0, ↓wp_pairs, ↓wp_call, ↓wp_callF, ↓wp_tru, ↓wp_bl, ↓wp_and, ↓wp_or, ↓wp_not, ↓wp_andV, ↓wp_orV, ↓wp_notV, ↓wp_part, ↓wp_noPart, ↓wp_sl, ↓wp_bm, ↓wp_ifE, ↓wp_fld, ↓wp_meth, ↓wp_make, ↓wp_lockE, ↓wp_rng1, ↓wp_rng2, ↓wp_seqI, ↓wpR_ok, ↓wpS_nx, ↓wpS_rt, List.getElem?_cons_zero, List.getElem?_cons_succ, List.set_cons_zero, List.set_cons_succ, List.length_cons, List.length_nil, ↓reduceIte, decide_eq_true_eq, ev_add, ev_iadd, ev_sub, ev_mod, ev_neg, ev_lt, ev_le, ev_gt, ev_ge, ev_eqI, ev_neI, ev_eqS, ev_neS, ev_isN, ev_int, ev_abs, ev_max, ev_min, ev_lenT, ev_lenC, ev_tupT, Int.reduceLT, Int.reduceLE, Int.reduceNeg, Int.reduceAdd, Int.reduceSub, Int.reduceEq, Nat.reduceAdd, Nat.reduceSub, and_self, ↓List.map_cons, ↓List.map_nil, ↓List.cons_append, ↓List.nil_append, List.replicate, ixT0, ixT1, ixT2, ixT3, ixTm1, ixTm2, ixTm3, onH_get, onH_set, onH_push, onH_len, mkB_get, mkB_set, mkB_push, mkB_len, mkB_next, Option.getD_some, Option.getD_none, sz0, sz1, sz2, sz3, sz4, sz5, sz6, sz7, sz8, sz9, ev_keyI, ev_keyS, ev_eqB, ev_neB, wp_one, wp_yes, wp_valsI, wp_keysI, wp_lcE]
      have hk2 : k < 3 := hk
      refine wpS_mono (streamK_b2 (by omega)) ?_
      rintro σ h2 ⟨acc2, rfl, rfl, q2⟩
      exact ⟨acc2, _, rfl, rfl, by omega⟩
    · rintro σ h' ⟨acc', a5, rfl, rfl, q⟩
      have q2 : acc'.length ≤ acc.length + 3 := q
      exact ⟨acc', _, _, rfl, rfl, by omega⟩
theorem streamK_ok {ns : List Int} (hl : ns.length ≤ 63) : ∃ ds : List Int, f_streamK [.cst (ns.map .int), .int m] [] = .ok (.ref 1) [.lst (ds.map .int), bagA 0 ds.length] := by
  have key : wpR (f_streamK [.cst (ns.map .int), .int m] []) (fun d h' => ∃ ds : List Int, d = .ref 1 ∧ h' = [.lst (ds.map .int), bagA 0 ds.length]) X0 := by
    unfold f_streamK m_streamK
    simp only [↓wp_seq, ↓wp_skip, ↓wp_drop, ↓wp_ret, ↓wp_retN, ↓wp_brk, ↓wp_cnt, ↓wp_if, ↓wp_asg, ↓wp_to, ↓wp_tos, ↓wp_toIx, ↓wp_aug, ↓wp_augK, ↓wp_fldSet, ↓wp_fldAug, ↓wp_var, ↓wp_c, ↓wp_op, ↓wp_un, ↓wp_nil, ↓wp_cons, ↓wp_tup, ↓wp_lst, ↓wp_dict0, ↓wp_dict, ↓wp_pairs0, ↓wp_pairs, ↓wp_call, ↓wp_callF, ↓wp_tru, ↓wp_bl, ↓wp_and, ↓wp_or, ↓wp_not, ↓wp_andV, ↓wp_orV, ↓wp_notV, ↓wp_part, ↓wp_noPart, ↓wp_sl, ↓wp_bm, ↓wp_ifE, ↓wp_fld, ↓wp_meth, ↓wp_make, ↓wp_lockE, ↓wp_rng1, ↓wp_rng2, ↓wp_seqI, ↓wpR_ok, ↓wpS_nx, ↓wpS_rt, List.getElem?_cons_zero, List.getElem?_cons_succ, List.set_cons_zero, List.set_cons_succ, List.length_cons, List.length_nil, ↓reduceIte, decide_eq_true_eq, ev_add, ev_iadd, ev_sub, ev_mod, ev_neg, ev_lt, ev_le, ev_gt, ev_ge, ev_eqI, ev_neI, ev_eqS, ev_neS, ev_isN, ev_int, ev_abs, ev_max, ev_min, ev_lenT, ev_lenC, ev_tupT, Int.reduceLT, Int.reduceLE, Int.reduceNeg, Int.reduceAdd, Int.reduceSub, Int.reduceEq, Nat.reduceAdd, Nat.reduceSub, and_self, ↓List.map_cons, ↓List.map_nil, ↓List.cons_append, ↓List.nil_append, List.replicate, ixT0, ixT1, ixT2, ixT3, ixTm1, ixTm2, ixTm3, onH_get, onH_set, onH_push, onH_len, mkB_get, mkB_set, mkB_push, mkB_len, mkB_next, Option.getD_some, Option.getD_none, sz0, sz1, sz2, sz3, sz4, sz5, sz6, sz7, sz8, sz9, ev_keyI, ev_keyS, ev_eqB, ev_neB, wp_one, wp_yes, wp_valsI, wp_keysI, wp_lcE, ↓wp_runB, ↓wp_forE, List.length_map, Nat.sub_self]
    rw [if_pos (by split <;> omega)]
    refine wp_forR (fun j σ h' => ∃ (acc : List Int) (a3 a4 a5 : Option D), σ = [some (.cst (ns.map .int)), some (.int m), some (.ref 0), a3, a4, a5] ∧ h' = [.lst (acc.map .int)] ∧ acc.length ≤ 60 * j) ⟨[], _, _, _, rfl, rfl, Nat.le_refl _⟩ ?_ ?_
    · rintro j σ h' ⟨acc, a3, a4, a5, rfl, rfl, q⟩ hj
      have hj2 : j < ns.length := by
        have : (if (63 : Int) < (ns.length : Int) then (63 : Int) else (ns.length : Int)) ≤ ns.length := by split <;> omega
        omega
      simp only [↓wp_seq, ↓wp_skip, ↓wp_drop, ↓wp_ret, ↓wp_retN, ↓wp_brk, ↓wp_cnt, ↓wp_if, ↓wp_asg, ↓wp_to, ↓wp_tos, ↓wp_toIx, ↓wp_aug, ↓wp_augK, ↓wp_fldSet, ↓wp_fldAug, ↓wp_var, ↓wp_c, ↓wp_op, ↓wp_un, ↓wp_nil, ↓wp_cons, ↓wp_tup, ↓wp_lst, ↓wp_dict0, ↓wp_dict, ↓wp_pairs0, ↓wp_pairs, ↓wp_call, ↓wp_callF, ↓wp_tru, ↓wp_bl, ↓wp_and, ↓wp_or, ↓wp_not, ↓wp_andV, ↓wp_orV, ↓wp_notV, ↓wp_part, ↓wp_noPart, ↓wp_sl, ↓wp_bm, ↓wp_ifE, ↓wp_fld, ↓wp_meth, ↓wp_make, ↓wp_lockE, ↓wp_rng1, ↓wp_rng2, ↓wp_seqI, ↓wpR_ok, ↓wpS_nx, ↓wpS_rt, List.getElem?_cons_zero, List.getElem?_cons_succ, List.set_cons_zero, List.set_cons_succ, List.length_cons, List.length_nil, ↓reduceIte, decide_eq_true_eq, ev_add, ev_iadd, ev_sub, ev_mod, ev_neg, ev_lt, ev_le, ev_gt, ev_ge, ev_eqI, ev_neI, ev_eqS, ev_neS, ev_isN, ev_int, ev_abs, ev_max, ev_min, ev_lenT, ev_lenC, ev_tupT, Int.reduceLT, Int.reduceLE, Int.reduceNeg, Int.reduceAdd, Int.reduceSub, Int.reduceEq, Nat.reduceAdd, Nat.reduceSub, and_self, ↓List.map_cons, ↓List.map_nil, ↓List.cons_append, ↓List.nil_append, List.replicate, ixT0, ixT1, ixT2, ixT3, ixTm1, ixTm2, ixTm3, onH_get, onH_set, onH_push, onH_len, mkB_get, mkB_set, mkB_push, mkB_len, mkB_next, Option.getD_some, Option.getD_none, sz0, sz1, sz2, sz3, sz4, sz5, sz6, sz7, sz8, sz9, ev_keyI, ev_keyS, ev_eqB, ev_neB, wp_one, wp_yes, wp_valsI, wp_keysI, wp_lcE]
      rw [show (0 : Int) + (j : Int) = (j : Int) from by omega]
      refine wpS_mono (streamK_b3 (h := []) hj2 (by omega)) ?_
      rintro σ h2 ⟨acc2, _, _, rfl, rfl, q2⟩
      exact ⟨acc2, _, _, _, rfl, rfl, by omega⟩
    · rintro σ h' ⟨acc, a3, a4, a5, rfl, rfl, q⟩
      unfold m_streamK_r4
      have e1 : dLen [.ref 0] [.lst (acc.map D.int)] = .ok (.int acc.length) [.lst (acc.map D.int)] := by
        have := ev_lenL (h := [.lst (acc.map D.int)]) (n := 0) (ds := acc.map D.int) rfl
        rw [List.length_map] at this
        exact this
      simp only [↓wp_seq, ↓wp_skip, ↓wp_drop, ↓wp_ret, ↓wp_retN, ↓wp_brk, ↓wp_cnt, ↓wp_if, ↓wp_asg, ↓wp_to, ↓wp_tos, ↓wp_toIx, ↓wp_aug, ↓wp_augK, ↓wp_fldSet, ↓wp_fldAug, ↓wp_var, ↓wp_c, ↓wp_op, ↓wp_un, ↓wp_nil, ↓wp_cons, ↓wp_tup, ↓wp_lst, ↓wp_dict0, ↓wp_dict, ↓wp_pairs0, ↓wp_pairs, ↓wp_call, ↓wp_callF, ↓wp_tru, ↓wp_bl, ↓wp_and, ↓wp_or, ↓wp_not, ↓wp_andV, ↓wp_orV, ↓wp_notV, ↓wp_part, ↓wp_noPart, ↓wp_sl, ↓wp_bm, ↓wp_ifE, ↓wp_fld, ↓wp_meth, ↓wp_make, ↓wp_lockE, ↓wp_rng1, ↓wp_rng2, ↓wp_seqI, ↓wpR_ok, ↓wpS_nx, ↓wpS_rt, List.getElem?_cons_zero, List.getElem?_cons_succ, List.set_cons_zero, List.set_cons_succ, List.length_cons, List.length_nil, ↓reduceIte, decide_eq_true_eq, ev_add, ev_iadd, ev_sub, ev_mod, ev_neg, ev_lt, ev_le, ev_gt, ev_ge, ev_eqI, ev_neI, ev_eqS, ev_neS, ev_isN, ev_int, ev_abs, ev_max, ev_min, ev_lenT, ev_lenC, ev_tupT, Int.reduceLT, Int.reduceLE, Int.reduceNeg, Int.reduceAdd, Int.reduceSub, Int.reduceEq, Nat.reduceAdd, Nat.reduceSub, and_self, ↓List.map_cons, ↓List.map_nil, ↓List.cons_append, ↓List.nil_append, List.replicate, ixT0, ixT1, ixT2, ixT3, ixTm1, ixTm2, ixTm3, onH_get, onH_set, onH_push, onH_len, mkB_get, mkB_set, mkB_push, mkB_len, mkB_next, Option.getD_some, Option.getD_none, sz0, sz1, sz2, sz3, sz4, sz5, sz6, sz7, sz8, sz9, ev_keyI, ev_keyS, ev_eqB, ev_neB, wp_one, wp_yes, wp_valsI, wp_keysI, wp_lcE, e1]
      rw [if_pos (by decide)]
      exact ⟨acc, trivial, rfl⟩
  obtain ⟨d, h', e, ds, rfl, rfl⟩ := wpR_elim key
  exact ⟨ds, e⟩
end
theorem ite_and2 {a b : Prop} [Decidable a] [Decidable b] {p q : Prop} : (if a then (if b then p else q) else q) = (if a ∧ b then p else q) := by
  by_cases x : a <;> by_cases y : b <;> simp [x, y]
theorem ite_tand {b : Prop} [Decidable b] {p q : Prop} : (if True ∧ b then p else q) = (if b then p else q) := by
  by_cases y : b <;> simp [y]
theorem ite_or2 {a b : Prop} [Decidable a] [Decidable b] {p q : Prop} : (if a then p else (if b then p else q)) = (if a ∨ b then p else q) := by
  by_cases x : a <;> by_cases y : b <;> simp [x, y]
theorem ite_not2 {a : Prop} [Decidable a] {p q : Prop} : (if ¬a then p else q) = (if a then q else p) := by
  by_cases x : a <;> simp [x]
end FL

set_option Elab.async false
set_option linter.all false
set_option maxRecDepth 100000
/-! FL, part q: methods of texts, int(text), str(int), ord, all, any, tuple.index, methods of one name in two classes. -/
namespace FL
open PySem PySem.Spec PyProof.Rows L2
theorem sz10 : (10 ≤ sizeLine) = True := eq_true (by decide)
theorem sz11 : (11 ≤ sizeLine) = True := eq_true (by decide)
theorem sz12 : (12 ≤ sizeLine) = True := eq_true (by decide)
theorem sz13 : (13 ≤ sizeLine) = True := eq_true (by decide)
theorem sz14 : (14 ≤ sizeLine) = True := eq_true (by decide)
theorem sz15 : (15 ≤ sizeLine) = True := eq_true (by decide)
theorem sz16 : (16 ≤ sizeLine) = True := eq_true (by decide)
theorem sz17 : (17 ≤ sizeLine) = True := eq_true (by decide)
theorem sz18 : (18 ≤ sizeLine) = True := eq_true (by decide)
theorem sz19 : (19 ≤ sizeLine) = True := eq_true (by decide)
theorem sz20 : (20 ≤ sizeLine) = True := eq_true (by decide)
theorem sz21 : (21 ≤ sizeLine) = True := eq_true (by decide)
theorem sz22 : (22 ≤ sizeLine) = True := eq_true (by decide)
theorem sz23 : (23 ≤ sizeLine) = True := eq_true (by decide)
theorem sz24 : (24 ≤ sizeLine) = True := eq_true (by decide)
theorem sz25 : (25 ≤ sizeLine) = True := eq_true (by decide)
theorem sz26 : (26 ≤ sizeLine) = True := eq_true (by decide)
theorem sz27 : (27 ≤ sizeLine) = True := eq_true (by decide)
theorem sz28 : (28 ≤ sizeLine) = True := eq_true (by decide)
theorem sz29 : (29 ≤ sizeLine) = True := eq_true (by decide)
theorem sz30 : (30 ≤ sizeLine) = True := eq_true (by decide)
/-- one text -/
def one1 (ds : List D) : Option D := match ds with
  | [y] => some y
  | _ => none
def two2 (ds : List D) : Option (D × D) := match ds with
  | [y, z] => some (y, z)
  | _ => none
theorem one1_ok {K : PySem.W.Frag} {ρ : List Addr} {H : Hp} {ds : List D} {vs : List V} {d : D} (z : DVs K ρ H ds vs) (e : one1 ds = some d) : ∃ v, vs = [v] ∧ DV K ρ H d v := by
  match ds, z, e with
  | [y], z, e =>
    cases e
    exact z.one
theorem two2_ok {K : PySem.W.Frag} {ρ : List Addr} {H : Hp} {ds : List D} {vs : List V} {d1 d2 : D} (z : DVs K ρ H ds vs) (e : two2 ds = some (d1, d2)) : ∃ v w, vs = [v, w] ∧ DV K ρ H d1 v ∧ DV K ρ H d2 w := by
  match ds, z, e with
  | [y, y2], z, e =>
    cases e
    exact z.two
/-- s.m(t) gives a number -/
def dS1I (f : Str → Str → Int) (d : D) (ds : List D) (h : HS) : R D := match one1 ds with
  | some y => match d, y with
    | .str a, .str b => .ok (.int (f a b)) h
    | _, _ => .bad
  | none => .bad
theorem s_S1I {K : PySem.W.Frag} {f : Str → Str → Int} : MtS K (dS1I f) (fun x xs H Q => ∃ a b, x = .str a ∧ xs = [.str b] ∧ Q (.int (f a b)) H) := by
  intro ρ h H d v ds vs W Q r z zs p
  unfold dS1I at p
  cases e : one1 ds with
  | none => rw [e] at p; exact p.elim
  | some y =>
    rw [e] at p
    obtain ⟨w, rfl, zw⟩ := one1_ok zs e
    cases z with
    | str a =>
      cases zw with
      | str b => exact ⟨a, b, rfl, rfl, p.use r (.int _)⟩
      | _ => exact p.elim
    | _ => exact p.elim
def dS1B (f : Str → Str → Bool) (d : D) (ds : List D) (h : HS) : R D := match one1 ds with
  | some y => match d, y with
    | .str a, .str b => .ok (.bl (f a b)) h
    | _, _ => .bad
  | none => .bad
theorem s_S1B {K : PySem.W.Frag} {f : Str → Str → Bool} : MtS K (dS1B f) (fun x xs H Q => ∃ a b, x = .str a ∧ xs = [.str b] ∧ Q (.bl (f a b)) H) := by
  intro ρ h H d v ds vs W Q r z zs p
  unfold dS1B at p
  cases e : one1 ds with
  | none => rw [e] at p; exact p.elim
  | some y =>
    rw [e] at p
    obtain ⟨w, rfl, zw⟩ := one1_ok zs e
    cases z with
    | str a =>
      cases zw with
      | str b => exact ⟨a, b, rfl, rfl, p.use r (.bl _)⟩
      | _ => exact p.elim
    | _ => exact p.elim
/-- s.m(t, i) gives a number -/
def dS2I (f : Str → Str → Int → Int) (d : D) (ds : List D) (h : HS) : R D := match two2 ds with
  | some (y, z) => match d, y, z with
    | .str a, .str b, .int i => .ok (.int (f a b i)) h
    | _, _, _ => .bad
  | none => .bad
theorem s_S2I {K : PySem.W.Frag} {f : Str → Str → Int → Int} : MtS K (dS2I f) (fun x xs H Q => ∃ (a b : Str) (i : Int), x = .str a ∧ xs = [.str b, .int i] ∧ Q (.int (f a b i)) H) := by
  intro ρ h H d v ds vs W Q r z zs p
  unfold dS2I at p
  cases e : two2 ds with
  | none => rw [e] at p; exact p.elim
  | some y =>
    obtain ⟨y, y2⟩ := y
    rw [e] at p
    obtain ⟨w, w2, rfl, zw, zw2⟩ := two2_ok zs e
    cases z with
    | str a =>
      cases zw with
      | str b =>
        cases zw2 with
        | int i => exact ⟨a, b, i, rfl, rfl, p.use r (.int _)⟩
        | _ => exact p.elim
      | _ => exact p.elim
    | _ => exact p.elim
/-! int of a number, a truth, a text; str of a number; ord -/
def dIntA (ds : List D) (h : HS) : R D := match one1 ds with
  | some (.int i) => .ok (.int i) h
  | some (.bl k) => .ok (.int (if k then 1 else 0)) h
  | some (.str a) => match PySem.intText? a with
    | some n => if a.length ≤ 640 then .ok (.int n) h else .bad
    | none => .bad
  | _ => .bad
def rIntA : RL := fun xs H Q => ((∃ i, xs = [.int i] ∧ Q (.int i) H) ∨ ∃ k, xs = [.bl k] ∧ Q (.int (if k then 1 else 0)) H) ∨ (∃ a n, xs = [.str a] ∧ PySem.intText? a = some n ∧ a.length ≤ 640 ∧ Q (.int n) H)
theorem o_intA {X : Cx} : CallR X (.type "int") rIntA := CallR.or call_int1 call_int_str
theorem s_intA {K : PySem.W.Frag} : CallS K dIntA rIntA := by
  intro ρ h H ds vs W Q r z p
  unfold dIntA at p
  cases e : one1 ds with
  | none => rw [e] at p; exact p.elim
  | some y =>
    rw [e] at p
    obtain ⟨w, rfl, zw⟩ := one1_ok z e
    cases zw with
    | bl k => exact .inl (.inr ⟨_, rfl, p.use r (.int _)⟩)
    | int i => exact .inl (.inl ⟨_, rfl, p.use r (.int _)⟩)
    | str a =>
      simp only at p
      cases q : PySem.intText? a with
      | none => rw [q] at p; exact p.elim
      | some n =>
        rw [q] at p
        simp only at p
        by_cases hl : a.length ≤ 640
        · rw [if_pos hl] at p
          exact .inr ⟨a, n, rfl, q, hl, p.use r (.int _)⟩
        · rw [if_neg hl] at p; exact p.elim
    | _ => exact p.elim
def dStrI (ds : List D) (h : HS) : R D := match one1 ds with
  | some (.int i) => if i.natAbs.log2 < 1920 then .ok (.str (toString i)) h else .bad
  | _ => .bad
theorem s_strI {K : PySem.W.Frag} : CallS K dStrI (fun xs H Q => ∃ i, xs = [.int i] ∧ i.natAbs.log2 < 1920 ∧ Q (.str (toString i)) H) := by
  intro ρ h H ds vs W Q r z p
  unfold dStrI at p
  cases e : one1 ds with
  | none => rw [e] at p; exact p.elim
  | some y =>
    rw [e] at p
    obtain ⟨w, rfl, zw⟩ := one1_ok z e
    cases zw with
    | int i =>
      simp only at p
      by_cases hl : i.natAbs.log2 < 1920
      · rw [if_pos hl] at p
        exact ⟨i, rfl, hl, p.use r (.str _)⟩
      · rw [if_neg hl] at p; exact p.elim
    | _ => exact p.elim
/-- a value that reads in one of two ways -/
theorem ge_or {X : Cx} {W : WX} {e : Expr} {m m1 m2 : FE} (h1 : GE X W e m1) (h2 : GE X W e m2) (k : ∀ σ h, m σ h = m1 σ h ∨ m σ h = m2 σ h) : GE X W e m := by
  refine ⟨fun pins s σ H Q I q => ?_⟩
  obtain ⟨ρ, σh, h, r, sl, p⟩ := q
  rcases k σh h with e | e
  · rw [e] at p
    exact h1.run pins s σ H Q I ⟨ρ, σh, h, r, sl, p⟩
  · rw [e] at p
    exact h2.run pins s σ H Q I ⟨ρ, σh, h, r, sl, p⟩
/-- a method that two classes have -/
def mMeth2 (C1 : Addr) (n1 : Nat) (g1 : List D → HS → R D) (C2 : Addr) (n2 : Nat) (g2 : List D → HS → R D) (m : Str) (mo : FE) (ma : FA) : FE := fun σ h => (mo σ h).bind fun d h1 => match insD [C1] h1 d with
  | some (_, _, fs) => if (fs.lookup m).isNone = true then (ma σ h1).bind fun ds h2 => if ds.length + 1 = n1 then g1 (d :: ds) h2 else .bad else .bad
  | none => match insD [C2] h1 d with
    | some (_, _, fs) => if (fs.lookup m).isNone = true then (ma σ h1).bind fun ds h2 => if ds.length + 1 = n2 then g2 (d :: ds) h2 else .bad else .bad
    | none => .bad
end FL

set_option Elab.async false
set_option linter.all false
set_option maxRecDepth 100000
/-! FL, part r: a sign's places in a text. -/
namespace FL
open PySem PySem.Spec PyProof.Rows L2
open PySem.Builtin PySem.Builtin.Str
abbrev cd (x : Str) : List Nat := x.cps.toList
theorem str_ext {x y : Str} (h : cd x = cd y) : x = y := by
  cases x; cases y
  congr
  exact Array.toList_inj.mp h
theorem cd_len (x : Str) : (cd x).length = x.length := rfl
theorem cd_app (x y : Str) : cd (x ++ y) = cd x ++ cd y := by
  show (x.cps ++ y.cps).toList = _
  simp [cd]
theorem sub1 (x : Str) (c i : Nat) : subAt x ⟨#[c]⟩ i = decide ((cd x)[i]? = some c) := by
  obtain ⟨⟨l⟩⟩ := x
  rw [Bool.eq_iff_iff, decide_eq_true_eq]
  unfold subAt
  rw [beq_iff_eq]
  show (Array.mk l).extract i (i + 1) = #[c] ↔ l[i]? = some c
  rw [← Array.toList_inj, Array.toList_extract]
  show (l.drop i).take (i + 1 - i) = [c] ↔ _
  rw [Nat.add_sub_cancel_left]
  cases h : l.drop i with
  | nil =>
    have := List.drop_eq_nil_iff.mp h
    rw [List.getElem?_eq_none this]
    simp
  | cons a r =>
    have e : l[i]? = some a := by
      have := congrArg List.head? h
      rw [List.head?_drop] at this
      exact this
    rw [e]
    simp
/-- the places of c among some indices -/
def idx (l : List Nat) (c : Nat) (is : List Nat) : List Nat := is.filter fun i => decide (l[i]? = some c)
theorem idx_yes {l : List Nat} {c a : Nat} {is : List Nat} (h : l[a]? = some c) : idx l c (a :: is) = a :: idx l c is := by simp [idx, h]
theorem idx_no {l : List Nat} {c a : Nat} {is : List Nat} (h : ¬l[a]? = some c) : idx l c (a :: is) = idx l c is := by simp [idx, h]
theorem occ_idx (x : Str) (c hi limit : Nat) (hh : hi = x.length) : ∀ (n a free : Nat) (found : Array Nat), free ≤ a →
    (forIn (List.range' a n) (found, free) (StrLaws.occBody x ⟨#[c]⟩ hi limit)).run.fst.toList = found.toList ++ (idx (cd x) c (List.range' a n)).take (limit - found.size)
  | 0, a, free, found, h => by simp [idx]
  | n + 1, a, free, found, h => by
    rw [List.range'_succ, List.forIn_cons]
    unfold StrLaws.occBody
    by_cases c1 : (cd x)[a]? = some c
    · have hlt : a < x.length := (List.getElem?_eq_some_iff.mp c1).1
      have e1 : idx (cd x) c (a :: List.range' (a + 1) n) = a :: idx (cd x) c (List.range' (a + 1) n) := idx_yes c1
      by_cases c2 : found.size < limit
      · rw [if_pos ⟨⟨⟨c2, h⟩, by subst hh; show a + 1 ≤ x.length; omega⟩, by rw [sub1, decide_eq_true c1]⟩]
        show (forIn (List.range' (a + 1) n) (found.push a, a + 1) (StrLaws.occBody x ⟨#[c]⟩ hi limit)).run.fst.toList = _
        rw [occ_idx x c hi limit hh n (a + 1) (a + 1) (found.push a) (Nat.le_refl _), e1]
        obtain ⟨k, hk⟩ : ∃ k, limit - found.size = k + 1 := ⟨limit - found.size - 1, by omega⟩
        rw [hk, List.take_succ_cons, Array.toList_push, Array.size_push, show limit - (found.size + 1) = k by omega, List.append_assoc]
        rfl
      · rw [if_neg fun z => c2 z.1.1.1]
        show (forIn (List.range' (a + 1) n) (found, free) (StrLaws.occBody x ⟨#[c]⟩ hi limit)).run.fst.toList = _
        rw [occ_idx x c hi limit hh n (a + 1) free found (by omega), show limit - found.size = 0 by omega]
        simp
    · have e1 : idx (cd x) c (a :: List.range' (a + 1) n) = idx (cd x) c (List.range' (a + 1) n) := idx_no c1
      rw [if_neg fun z => c1 (by have := z.2; rw [sub1] at this; exact of_decide_eq_true this)]
      show (forIn (List.range' (a + 1) n) (found, free) (StrLaws.occBody x ⟨#[c]⟩ hi limit)).run.fst.toList = _
      rw [occ_idx x c hi limit hh n (a + 1) free found (by omega), e1]
theorem occ_one (x : Str) (c lo limit : Nat) : occurrences x ⟨#[c]⟩ lo x.length limit = (idx (cd x) c (List.range' lo (x.length + 1 - lo))).take limit := by
  rw [StrLaws.occ_eq, occ_idx x c x.length limit rfl _ lo lo #[] (Nat.le_refl _)]
  simp
theorem last_idx (x : Str) (c hi : Nat) (hh : hi = x.length) : ∀ (n a : Nat) (o : Option Nat),
    (forIn (List.range' a n) o (fun i last => (if i + (⟨#[c]⟩ : Str).length ≤ hi ∧ subAt x ⟨#[c]⟩ i = true then pure (ForInStep.yield (some i)) else pure (ForInStep.yield last) : Id (ForInStep (Option Nat))))).run
      = match (idx (cd x) c (List.range' a n)).getLast? with
        | some k => some k
        | none => o
  | 0, a, o => by simp [idx]
  | n + 1, a, o => by
    rw [List.range'_succ, List.forIn_cons]
    by_cases c1 : (cd x)[a]? = some c
    · have hlt : a < x.length := (List.getElem?_eq_some_iff.mp c1).1
      have e1 : idx (cd x) c (a :: List.range' (a + 1) n) = a :: idx (cd x) c (List.range' (a + 1) n) := idx_yes c1
      rw [if_pos ⟨by subst hh; show a + 1 ≤ x.length; omega, by rw [sub1, decide_eq_true c1]⟩, e1]
      have ih := last_idx x c hi hh n (a + 1) (some a)
      refine Eq.trans ih ?_
      cases h : idx (cd x) c (List.range' (a + 1) n) with
      | nil => simp
      | cons u r =>
        obtain ⟨z, hz⟩ : ∃ z, (u :: r).getLast? = some z := ⟨_, List.getLast?_eq_some_getLast (by simp)⟩
        rw [List.getLast?_cons_cons, hz]
    · have e1 : idx (cd x) c (a :: List.range' (a + 1) n) = idx (cd x) c (List.range' (a + 1) n) := idx_no c1
      rw [if_neg fun z => c1 (by have := z.2; rw [sub1] at this; exact of_decide_eq_true this), e1]
      exact last_idx x c hi hh n (a + 1) o
theorem last_one (x : Str) (c : Nat) : lastOccurrence x ⟨#[c]⟩ 0 x.length = (idx (cd x) c (List.range' 0 (x.length + 1))).getLast? := by
  have h := last_idx x c x.length rfl (x.length + 1) 0 none
  have e : lastOccurrence x ⟨#[c]⟩ 0 x.length = (forIn (List.range' 0 (x.length + 1)) (none : Option Nat) (fun i last => (if i + (⟨#[c]⟩ : Str).length ≤ x.length ∧ subAt x ⟨#[c]⟩ i = true then pure (ForInStep.yield (some i)) else pure (ForInStep.yield last) : Id (ForInStep (Option Nat))))).run := by
    unfold lastOccurrence
    simp
  rw [e, h]
  cases (idx (cd x) c (List.range' 0 (x.length + 1))).getLast? <;> rfl
/-! what count, rfind and find say -/
theorem idx_snoc {l : List Nat} {c n : Nat} : idx l c (List.range' 0 (n + 1)) = idx l c (List.range' 0 n) ++ (if l[n]? = some c then [n] else []) := by
  rw [List.range'_1_concat]
  unfold idx
  rw [List.filter_append, Nat.zero_add]
  congr 1
  by_cases h : l[n]? = some c
  · simp [h]
  · simp [h]
theorem idx_pre {l m : List Nat} {c : Nat} : ∀ {is : List Nat}, (∀ i ∈ is, i < l.length) → idx (l ++ m) c is = idx l c is
  | [], _ => rfl
  | i :: is, h => by
    have hi : (l ++ m)[i]? = l[i]? := List.getElem?_append_left (h i List.mem_cons_self)
    have ih := idx_pre (l := l) (m := m) (c := c) (is := is) fun j hj => h j (List.mem_cons_of_mem _ hj)
    by_cases q : l[i]? = some c
    · rw [idx_yes (hi.trans q), idx_yes q, ih]
    · rw [idx_no (by rw [hi]; exact q), idx_no q, ih]
/-- the places of c in l -/
def plc (l : List Nat) (c : Nat) : List Nat := idx l c (List.range' 0 (l.length + 1))
theorem plc_nil (c : Nat) : plc [] c = [] := rfl
theorem plc_snoc (l : List Nat) (c d : Nat) : plc (l ++ [d]) c = plc l c ++ if d = c then [l.length] else [] := by
  unfold plc
  rw [idx_snoc, idx_snoc (n := l.length), List.length_append, List.length_singleton]
  rw [List.getElem?_eq_none (by simp), if_neg (by simp), List.append_nil, List.getElem?_eq_none (Nat.le_refl _), if_neg (by simp), List.append_nil, idx_snoc, idx_pre (by intro i hi; simp at hi; omega)]
  congr 1
  simp
theorem count_eq (x : Str) (c : Nat) : Txt.count x ⟨#[c]⟩ = ((plc (cd x) c).length : Nat) := by
  unfold Txt.count
  rw [occ_one, List.take_of_length_le]
  · rfl
  · unfold idx
    have := List.length_filter_le (fun i => decide ((cd x)[i]? = some c)) (List.range' 0 (x.length + 1 - 0))
    simp only [List.length_range'] at this
    omega
theorem rfind_eq (x : Str) (c : Nat) : Txt.rfind x ⟨#[c]⟩ = match (plc (cd x) c).getLast? with
    | some i => (i : Int)
    | none => -1 := by
  unfold Txt.rfind
  rw [last_one]
  rfl
/-- row and column behind a text -/
def adv (p : Int × Int) (l : List Nat) : Int × Int := l.foldl (fun p d => if d = 10 then (p.1 + 1, 1) else (p.1, p.2 + 1)) p
theorem adv_app (p : Int × Int) (l m : List Nat) : adv p (l ++ m) = adv (adv p l) m := List.foldl_append
theorem adv_plc : ∀ (n : Nat) (l : List Nat), l.length = n → adv (1, 1) l = ((((plc l 10).length : Nat) : Int) + 1, (l.length : Int) - match (plc l 10).getLast? with
    | some i => (i : Int)
    | none => -1)
  | 0, l, h => by
    rw [List.length_eq_zero_iff.mp h]
    rfl
  | n + 1, l, h => by
    have hn : l ≠ [] := fun z => by rw [z] at h; cases h
    obtain ⟨m, d, rfl⟩ : ∃ m d, l = m ++ [d] := ⟨l.dropLast, l.getLast hn, (List.dropLast_concat_getLast hn).symm⟩
    have hm : m.length = n := by rw [List.length_append, List.length_singleton] at h; omega
    have ih := adv_plc n m hm
    rw [adv_app, ih, plc_snoc]
    by_cases c : d = 10
    · rw [if_pos c]
      simp only [adv, List.foldl_cons, List.foldl_nil, if_pos c, List.length_append, List.length_singleton, List.getLast?_concat]
      congr 1
      omega
    · rw [if_neg c, List.append_nil]
      simp only [adv, List.foldl_cons, List.foldl_nil, if_neg c, List.length_append, List.length_singleton]
      congr 1
      omega
/-- the first c from a place on -/
theorem find_none {l pre r : List Nat} {c : Nat} (hl : l = pre ++ r) (hr : c ∉ r) : ∀ (n a : Nat), pre.length ≤ a → idx l c (List.range' a n) = []
  | 0, a, _ => rfl
  | n + 1, a, h => by
    rw [List.range'_succ, idx_no, find_none hl hr n (a + 1) (by omega)]
    subst hl
    rw [List.getElem?_append_right h]
    exact fun z => hr (List.mem_of_getElem? z)
theorem find_some {l : List Nat} {c : Nat} : ∀ (b : List Nat) (pre r : List Nat) (n : Nat), l = pre ++ (b ++ c :: r) → c ∉ b → b.length < n → (idx l c (List.range' pre.length n)).head? = some (pre.length + b.length)
  | [], pre, r, n + 1, hl, _, _ => by
    rw [List.range'_succ, idx_yes]
    · rfl
    · subst hl
      rw [List.getElem?_append_right (Nat.le_refl _), Nat.sub_self]
      rfl
  | d :: b, pre, r, n + 1, hl, hb, hn => by
    have h1 : l[pre.length]? = some d := by
      subst hl
      rw [List.getElem?_append_right (Nat.le_refl _), Nat.sub_self]
      rfl
    rw [List.range'_succ, idx_no (by rw [h1]; intro z; exact hb (by rw [Option.some.inj z]; exact List.mem_cons_self))]
    have ih := find_some (l := l) b (pre ++ [d]) r n (by rw [hl]; simp) (fun z => hb (List.mem_cons_of_mem _ z)) (by simp at hn; omega)
    rw [List.length_append, List.length_singleton] at ih
    rw [ih, List.length_cons]
    congr 1
    omega
theorem find3_some {x : Str} {c : Nat} {pre b r : List Nat} (h : cd x = pre ++ (b ++ c :: r)) (hb : c ∉ b) : Txt.find3 x ⟨#[c]⟩ pre.length = ((pre.length + b.length : Nat) : Int) := by
  have hlen : x.length = pre.length + (b.length + (r.length + 1)) := by
    rw [← cd_len, h, List.length_append, List.length_append, List.length_cons]
  have hf : fromIndex x.length (pre.length : Int) = pre.length := by
    simp only [fromIndex]
    omega
  have e := occ_one x c pre.length 1
  have e2 := find_some (c := c) b pre r (x.length + 1 - pre.length) h hb (by omega)
  unfold Txt.find3
  rw [hf, e]
  cases q : idx (cd x) c (List.range' pre.length (x.length + 1 - pre.length)) with
  | nil => rw [q] at e2; cases e2
  | cons u w =>
    rw [q] at e2
    cases e2
    rfl
theorem find3_none {x : Str} {c : Nat} {pre r : List Nat} (h : cd x = pre ++ r) (hr : c ∉ r) : Txt.find3 x ⟨#[c]⟩ pre.length = -1 := by
  have hlen : x.length = pre.length + r.length := by
    rw [← cd_len, h, List.length_append]
  have hf : fromIndex x.length (pre.length : Int) = pre.length := by
    simp only [fromIndex]
    omega
  unfold Txt.find3
  rw [hf, occ_one, find_none h hr _ _ (Nat.le_refl _)]
  rfl
end FL

set_option Elab.async false
set_option linter.all false
set_option maxRecDepth 100000
set_option maxHeartbeats 1000000
/-! FL, part s: what the program's tokens answers. -/
namespace FL
open PySem PySem.Spec PyProof.Rows L2
noncomputable def mt_word_end_b1 : FS :=
    mAug 2 dIAdd (mC (.int 1))
noncomputable def mt_word_end_r2 : FS :=
    mRet (mVar 2)
noncomputable def mt_word_end : FS :=
    mSeq (mAsg (mVar 1) (mTo 2))
    (mSeq (mWhile (mAnd (mBl (mOp dLt (mVar 2) (mCall (dLen) (mCons (mVar 0) (mNil))))) (mOr (mBl (mOp dIn (mOp dIx (mVar 0) (mVar 2)) (mC (D.str "abcdefghijklmnopqrstuvwxyz")))) (mOr (mBl (mOp dIn (mOp dIx (mVar 0) (mVar 2)) (mC (D.str "ABCDEFGHIJKLMNOPQRSTUVWXYZ")))) (mOr (mBl (mOp dIn (mOp dIx (mVar 0) (mVar 2)) (mC (D.str "0123456789")))) (mBl (mOp dIn (mOp dIx (mVar 0) (mVar 2)) (mC (.str "_'"))))))))
    (mt_word_end_b1))
    (mt_word_end_r2))
noncomputable def ft_word_end : List D → HS → R D := runB 3 (mt_word_end)
noncomputable def mt_is_number_b1 : FS :=
    mIfS (mBl (mOp dNotIn (mVar 1) (mC (D.str "0123456789"))))
    (mRet (mC (.bl false)))
    (mSkip)
noncomputable def mt_is_number_r2 : FS :=
    mSeq (mIfS (mOr (mBl (mOp dGt (mCall (dLen) (mCons (mVar 0) (mNil))) (mC (.int 13)))) (mAnd (mBl (mOp dEq (mOp dIx (mVar 0) (mC (.int 0))) (mC (.str "0")))) (mBl (mOp dGt (mCall (dLen) (mCons (mVar 0) (mNil))) (mC (.int 1))))))
    (mRet (mC (.bl false)))
    (mSkip))
    (mRet (mOp dLe (mCall (dIntA) (mCons (mVar 0) (mNil))) (mC (D.int 1000000000000))))
noncomputable def mt_is_number : FS :=
    mSeq (mFor (mSeqI (mVar 0)) (mTo 1)
    (mt_is_number_b1))
    (mt_is_number_r2)
noncomputable def ft_is_number : List D → HS → R D := runB 2 (mt_is_number)
noncomputable def mt_word_kind (fn : FS) : FS :=
    mSeq (mIfS (mBl (mOp dIn (mOp dIx (mVar 0) (mC (.int 0))) (mC (D.str "0123456789"))))
    (mSeq (mIfS (mNot (mTru (mCallF 1 (ft_is_number) (mCons (mVar 0) (mNil)))))
    (fn)
    (mSkip))
    (mRet (mC (.str "number"))))
    (mSkip))
    (mSeq (mIfS (mBl (mOp dIn (mVar 0) (mC (D.tup [D.str "data", D.str "class", D.str "instance", D.str "where", D.str "let", D.str "in", D.str "case", D.str "of", D.str "if", D.str "then", D.str "else", D.str "div", D.str "mod", D.str "note"]))))
    (mRet (mC (.str "keyword")))
    (mSkip))
    (mSeq (mIfS (mBl (mOp dIn (mOp dIx (mVar 0) (mC (.int 0))) (mC (D.str "abcdefghijklmnopqrstuvwxyz"))))
    (mRet (mC (.str "name")))
    (mSkip))
    (mRet (mC (.str "con")))))
noncomputable def ft_word_kind (fn : FS) : List D → HS → R D := runB 3 (mt_word_kind fn)
noncomputable def mt_token_at (fb fn : FS) : FS :=
    mSeq (mAsg (mOp dIx (mVar 0) (mVar 1)) (mTo 4))
    (mSeq (mIfS (mOr (mBl (mOp dIn (mVar 4) (mC (D.str "abcdefghijklmnopqrstuvwxyz")))) (mOr (mBl (mOp dIn (mVar 4) (mC (D.str "ABCDEFGHIJKLMNOPQRSTUVWXYZ")))) (mBl (mOp dIn (mVar 4) (mC (D.str "0123456789"))))))
    (mSeq (mAsg (mSl (mVar 0) (mPart (mVar 1)) (mPart (mCallF 2 (ft_word_end) (mCons (mVar 0) (mCons (mVar 1) (mNil)))))) (mTo 5))
    (mRet (mTup (mCons (mCallF 3 (ft_word_kind fn) (mCons (mVar 5) (mCons (mVar 2) (mCons (mVar 3) (mNil))))) (mCons (mVar 5) (mCons (mVar 2) (mCons (mVar 3) (mNil))))))))
    (mSkip))
    (mSeq (mIfS (mBl (mOp dIn (mSl (mVar 0) (mPart (mVar 1)) (mPart (mOp dAdd (mVar 1) (mC (.int 2))))) (mC (D.tup [D.str "->", D.str "=>", D.str "::", D.str "==", D.str "<="]))))
    (mRet (mTup (mCons (mC (.str "sign")) (mCons (mSl (mVar 0) (mPart (mVar 1)) (mPart (mOp dAdd (mVar 1) (mC (.int 2))))) (mCons (mVar 2) (mCons (mVar 3) (mNil)))))))
    (mSkip))
    (mSeq (mIfS (mBl (mOp dIn (mVar 4) (mC (D.str "=|\\()[],;{}+-*<:"))))
    (mRet (mTup (mCons (mC (.str "sign")) (mCons (mVar 4) (mCons (mVar 2) (mCons (mVar 3) (mNil)))))))
    (mSkip))
    (fb))))
noncomputable def ft_token_at (fb fn : FS) : List D → HS → R D := runB 6 (mt_token_at fb fn)
noncomputable def mt_comment_end : FS :=
    mSeq (mAsg (mBM "str" (dS2I Txt.find3) (mVar 0) (mCons (mC (.str "\n")) (mCons (mVar 1) (mNil)))) (mTo 2))
    (mSeq (mIfS (mBl (mOp dLt (mVar 2) (mC (.int 0))))
    (mRet (mCall (dLen) (mCons (mVar 0) (mNil))))
    (mSkip))
    (mRet (mVar 2)))
noncomputable def ft_comment_end : List D → HS → R D := runB 3 (mt_comment_end)
noncomputable def mt_tokens_b1 (fb fn : FS) : FS :=
    mIfS (mBl (mOp dEq (mOp dIx (mVar 0) (mVar 2)) (mC (.str "\n"))))
    (mSeq (mAug 2 dIAdd (mC (.int 1)))
    (mSeq (mAug 3 dIAdd (mC (.int 1)))
    (mAsg (mVar 2) (mTo 4))))
    (mIfS (mBl (mOp dEq (mOp dIx (mVar 0) (mVar 2)) (mC (.str " "))))
    (mAug 2 dIAdd (mC (.int 1)))
    (mIfS (mBl (mOp dEq (mSl (mVar 0) (mPart (mVar 2)) (mPart (mOp dAdd (mVar 2) (mC (.int 2))))) (mC (.str "--"))))
    (mAsg (mCallF 2 (ft_comment_end) (mCons (mVar 0) (mCons (mVar 2) (mNil)))) (mTo 2))
    (mSeq (mAsg (mCallF 4 (ft_token_at fb fn) (mCons (mVar 0) (mCons (mVar 2) (mCons (mVar 3) (mCons (mOp dAdd (mOp dSub (mVar 2) (mVar 4)) (mC (.int 1))) (mNil)))))) (mTo 5))
    (mSeq (mDrop (mBM "list" dAppend (mVar 1) (mCons (mVar 5) (mNil))))
    (mAug 2 dIAdd (mCall (dLen) (mCons (mOp dIx (mVar 5) (mC (.int 1))) (mNil))))))))
noncomputable def mt_tokens_r2 : FS :=
    mSeq (mDrop (mBM "list" dAppend (mVar 1) (mCons (mTup (mCons (mC (.str "end")) (mCons (mC (.str "")) (mCons (mVar 3) (mCons (mOp dAdd (mOp dSub (mVar 2) (mVar 4)) (mC (.int 1))) (mNil)))))) (mNil))))
    (mRet (mVar 1))
noncomputable def mt_tokens (fb fn : FS) : FS :=
    mSeq (mAsg (mLst (mNil)) (mTo 1))
    (mSeq (mAsg (mC (.int 0)) (mTo 2))
    (mSeq (mAsg (mC (.int 1)) (mTo 3))
    (mSeq (mAsg (mC (.int 0)) (mTo 4))
    (mSeq (mWhile (mBl (mOp dLt (mVar 2) (mCall (dLen) (mCons (mVar 0) (mNil)))))
    (mt_tokens_b1 fb fn))
    (mt_tokens_r2)))))
noncomputable def ft_tokens (fb fn : FS) : List D → HS → R D := runB 6 (mt_tokens fb fn)
/-! ### signs -/
def SM : Str := "abcdefghijklmnopqrstuvwxyz"
def LG : Str := "ABCDEFGHIJKLMNOPQRSTUVWXYZ"
def DG : Str := "0123456789"
def US : Str := "_'"
def SS : Str := "=|\\()[],;{}+-*<:"
def isA (c : Nat) : Bool := decide (c ∈ cd SM) || (decide (c ∈ cd LG) || decide (c ∈ cd DG))
def isW (c : Nat) : Bool := decide (c ∈ cd SM) || (decide (c ∈ cd LG) || (decide (c ∈ cd DG) || decide (c ∈ cd US)))
def ofL (l : List Nat) : Str := ⟨l.toArray⟩
theorem cd_ofL (l : List Nat) : cd (ofL l) = l := rfl
theorem ofL_len (l : List Nat) : (ofL l).length = l.length := rfl
theorem ofL_cd (x : Str) : ofL (cd x) = x := str_ext rfl
section
variable {h : HS} {T S : Str} {pre r w : List Nat} {c : Nat} {P : D → HS → Prop} {X : XP} {fb fn : FS}
theorem in1 : dIn (.str (ofL [c])) (.str S) h = .ok (.bl (decide (c ∈ cd S))) h := rfl
theorem notin1 : dNotIn (.str (ofL [c])) (.str S) h = .ok (.bl (!decide (c ∈ cd S))) h := rfl
theorem ixS (hT : T.length ≤ sizeLine) (e : cd T = pre ++ c :: r) {i : Int} (hi : i = pre.length) : dIx (.str T) (.int i) h = .ok (.str (ofL [c])) h := by
  subst hi
  have q : atI T.cps.toList (pre.length : Int) = some c := by
    refine atI_nat ?_
    show (cd T)[pre.length]? = _
    rw [e, List.getElem?_append_right (Nat.le_refl _), Nat.sub_self]
    rfl
  simp only [dIx, if_pos hT, q]
  rfl
theorem lenS (hT : T.length ≤ sizeLine) : dLen [.str T] h = .ok (.int T.length) h := by
  simp only [dLen, lenD, if_pos hT]
theorem cut_eq {lo hi : Int} (e : cd T = pre ++ r) (hlo : lo = pre.length) (n : Nat) (hhi : hi = pre.length + n) : cutS T (some lo) (some hi) = ofL (r.take n) := by
  subst hlo hhi
  refine str_ext ?_
  have hl : T.length = pre.length + r.length := by rw [← cd_len, e, List.length_append]
  have e1 : HT.sIx T.length 0 (some (pre.length : Int)) = pre.length := by
    rw [HT.sIx_nat]; omega
  have e2 : HT.sIx T.length T.length (some ((pre.length : Int) + n)) = min (pre.length + n) T.length := by
    rw [show (pre.length : Int) + n = ((pre.length + n : Nat) : Int) by omega, HT.sIx_nat]
  show ((cd T).drop (HT.sIx T.length 0 (some (pre.length : Int)))).take _ = r.take n
  rw [e1, e2, e, List.drop_left]
  by_cases q : n ≤ r.length
  · rw [show min (pre.length + n) T.length - pre.length = n by omega]
  · rw [show min (pre.length + n) T.length - pre.length = r.length by omega, List.take_length, List.take_of_length_le (by omega)]
theorem slS (hT : T.length ≤ sizeLine) {lo hi : Int} (e : cd T = pre ++ r) (hlo : lo = pre.length) (n : Nat) (hhi : hi = pre.length + n) : dSl (.str T) (some lo) (some hi) h = .ok (.str (ofL (r.take n))) h := by
  simp only [dSl, if_pos hT, cut_eq e hlo n hhi]
theorem any_strT (xs : List Str) (x : Str) : ((xs.map D.str).any fun y => fEq y (.str x)) = decide (x ∈ xs) := by
  rw [Bool.eq_iff_iff, List.any_eq_true, decide_eq_true_eq]
  constructor
  · rintro ⟨d, hd, e⟩
    obtain ⟨y, hy, rfl⟩ := List.mem_map.mp hd
    have : y = x := by simpa [fEq] using e
    exact this ▸ hy
  · intro hx
    exact ⟨_, List.mem_map.mpr ⟨x, hx, rfl⟩, by simp [fEq]⟩
theorem all_strT (xs : List Str) : (xs.map D.str).all flatD = true := by
  rw [List.all_eq_true]
  intro d hd
  obtain ⟨y, _, rfl⟩ := List.mem_map.mp hd
  rfl
theorem inStrs {x : Str} {xs : List Str} : dIn (.str x) (.tup (xs.map .str)) h = .ok (.bl (decide (x ∈ xs))) h := by
  have e : itemsD h (.tup (xs.map .str)) = some (xs.map .str) := rfl
  unfold dIn inB
  rw [e]
  simp only [show flatD (.str x) = true from rfl, all_strT, Bool.and_self, if_true, any_strT]
def KWs : List Str := ["data", "class", "instance", "where", "let", "in", "case", "of", "if", "then", "else", "div", "mod", "note"]
def LSs : List Str := ["->", "=>", "::", "==", "<="]
theorem inKW {x : Str} : dIn (.str x) (.tup [D.str "data", D.str "class", D.str "instance", D.str "where", D.str "let", D.str "in", D.str "case", D.str "of", D.str "if", D.str "then", D.str "else", D.str "div", D.str "mod", D.str "note"]) h = .ok (.bl (decide (x ∈ KWs))) h := inStrs (xs := KWs)
theorem inLS {x : Str} : dIn (.str x) (.tup [D.str "->", D.str "=>", D.str "::", D.str "==", D.str "<="]) h = .ok (.bl (decide (x ∈ LSs))) h := inStrs (xs := LSs)
/-- no sign of a word stands at its head -/
def Stop (r : List Nat) : Prop := ∀ c t, r = c :: t → isW c = false
theorem word_end_ok (hT : T.length ≤ sizeLine) (e : cd T = pre ++ (w ++ r)) (hw : ∀ c ∈ w, isW c = true) (hr : Stop r) (k : P (.int (pre.length + w.length : Nat)) h) : wpR (ft_word_end [.str T, .int pre.length] h) P X := by
  unfold ft_word_end mt_word_end
  have hl : T.length = pre.length + (w.length + r.length) := by rw [← cd_len, e, List.length_append, List.length_append]
  simp only [↓wp_seq, ↓wp_skip, ↓wp_drop, ↓wp_ret, ↓wp_retN, ↓wp_brk, ↓wp_cnt, ↓wp_if, ↓wp_asg, ↓wp_to, ↓wp_tos, ↓wp_toIx, ↓wp_aug, ↓wp_augK, ↓wp_fldSet, ↓wp_fldAug, ↓wp_var, ↓wp_c, ↓wp_op, ↓wp_un, ↓wp_nil, ↓wp_cons, ↓wp_tup, ↓wp_lst, ↓wp_dict0, ↓wp_dict, ↓wp_pairs0, ↓wp_pairs, ↓wp_call, ↓wp_callF, ↓wp_tru, ↓wp_bl, ↓wp_and, ↓wp_or, ↓wp_not, ↓wp_andV, ↓wp_orV, ↓wp_notV, ↓wp_part, ↓wp_noPart, ↓wp_sl, ↓wp_bm, ↓wp_ifE, ↓wp_fld, ↓wp_meth, ↓wp_make, ↓wp_lockE, ↓wp_rng1, ↓wp_rng2, ↓wp_seqI, ↓wpR_ok, ↓wpS_nx, ↓wpS_rt, List.getElem?_cons_zero, List.getElem?_cons_succ, List.set_cons_zero, List.set_cons_succ, List.length_cons, List.length_nil, ↓reduceIte, decide_eq_true_eq, ev_add, ev_iadd, ev_sub, ev_mod, ev_neg, ev_lt, ev_le, ev_gt, ev_ge, ev_eqI, ev_neI, ev_eqS, ev_neS, ev_isN, ev_int, ev_abs, ev_max, ev_min, ev_lenT, ev_lenC, ev_tupT, Int.reduceLT, Int.reduceLE, Int.reduceNeg, Int.reduceAdd, Int.reduceSub, Int.reduceEq, Nat.reduceAdd, Nat.reduceSub, and_self, ↓List.map_cons, ↓List.map_nil, ↓List.cons_append, ↓List.nil_append, List.replicate, ixT0, ixT1, ixT2, ixT3, ixTm1, ixTm2, ixTm3, onH_get, onH_set, onH_push, onH_len, mkB_get, mkB_set, mkB_push, mkB_len, mkB_next, Option.getD_some, Option.getD_none, sz0, sz1, sz2, sz3, sz4, sz5, sz6, sz7, sz8, sz9, ev_keyI, ev_keyS, ev_eqB, ev_neB, wp_one, wp_yes, wp_valsI, wp_keysI, wp_lcE, sz10, sz11, sz12, sz13, sz14, sz15, sz16, sz17, sz18, sz19, sz20, sz21, sz22, sz23, sz24, sz25, sz26, sz27, sz28, sz29, sz30, Bool.false_eq_true, Bool.not_eq_true', decide_eq_false_iff_not, Bool.not_true, Bool.not_false, ite_and2, ite_or2, ite_tand, not_true_eq_false, not_false_eq_true, ↓wp_runB]
  refine wp_while (fun σ h' => h' = h ∧ ∃ j, j ≤ w.length ∧ σ = [some (.str T), some (.int pre.length), some (.int (pre.length + j : Nat))]) (fun σ _ => match (σ : Sl)[2]? with | some (some (D.int i)) => (T.length - i.toNat) | _ => 0) ⟨rfl, 0, Nat.zero_le _, rfl⟩ ?_
  rintro σ h' ⟨rfl, j, hj, rfl⟩
  simp only [↓wp_seq, ↓wp_skip, ↓wp_drop, ↓wp_ret, ↓wp_retN, ↓wp_brk, ↓wp_cnt, ↓wp_if, ↓wp_asg, ↓wp_to, ↓wp_tos, ↓wp_toIx, ↓wp_aug, ↓wp_augK, ↓wp_fldSet, ↓wp_fldAug, ↓wp_var, ↓wp_c, ↓wp_op, ↓wp_un, ↓wp_nil, ↓wp_cons, ↓wp_tup, ↓wp_lst, ↓wp_dict0, ↓wp_dict, ↓wp_pairs0, ↓wp_pairs, ↓wp_call, ↓wp_callF, ↓wp_tru, ↓wp_bl, ↓wp_and, ↓wp_or, ↓wp_not, ↓wp_andV, ↓wp_orV, ↓wp_notV, ↓wp_part, ↓wp_noPart, ↓wp_sl, ↓wp_bm, ↓wp_ifE, ↓wp_fld, ↓wp_meth, ↓wp_make, ↓wp_lockE, ↓wp_rng1, ↓wp_rng2, ↓wp_seqI, ↓wpR_ok, ↓wpS_nx, ↓wpS_rt, List.getElem?_cons_zero, List.getElem?_cons_succ, List.set_cons_zero, List.set_cons_succ, List.length_cons, List.length_nil, ↓reduceIte, decide_eq_true_eq, ev_add, ev_iadd, ev_sub, ev_mod, ev_neg, ev_lt, ev_le, ev_gt, ev_ge, ev_eqI, ev_neI, ev_eqS, ev_neS, ev_isN, ev_int, ev_abs, ev_max, ev_min, ev_lenT, ev_lenC, ev_tupT, Int.reduceLT, Int.reduceLE, Int.reduceNeg, Int.reduceAdd, Int.reduceSub, Int.reduceEq, Nat.reduceAdd, Nat.reduceSub, and_self, ↓List.map_cons, ↓List.map_nil, ↓List.cons_append, ↓List.nil_append, List.replicate, ixT0, ixT1, ixT2, ixT3, ixTm1, ixTm2, ixTm3, onH_get, onH_set, onH_push, onH_len, mkB_get, mkB_set, mkB_push, mkB_len, mkB_next, Option.getD_some, Option.getD_none, sz0, sz1, sz2, sz3, sz4, sz5, sz6, sz7, sz8, sz9, ev_keyI, ev_keyS, ev_eqB, ev_neB, wp_one, wp_yes, wp_valsI, wp_keysI, wp_lcE, sz10, sz11, sz12, sz13, sz14, sz15, sz16, sz17, sz18, sz19, sz20, sz21, sz22, sz23, sz24, sz25, sz26, sz27, sz28, sz29, sz30, Bool.false_eq_true, Bool.not_eq_true', decide_eq_false_iff_not, Bool.not_true, Bool.not_false, ite_and2, ite_or2, ite_tand, not_true_eq_false, not_false_eq_true, lenS hT]
  by_cases c1 : j < w.length
  · rw [if_pos (by omega)]
    have e2 : cd T = (pre ++ w.take j) ++ w[j] :: (w.drop (j + 1) ++ r) := by
      rw [e, List.append_assoc, ← List.cons_append, ← List.drop_eq_getElem_cons c1, ← List.append_assoc (w.take j), List.take_append_drop]
    have hx := hw _ (List.getElem_mem c1)
    have el : ((pre.length + j : Nat) : Int) = ((pre ++ w.take j).length : Nat) := by
      rw [List.length_append, List.length_take, Nat.min_eq_left hj]
    rw [ixS hT e2 el, wpR_ok]
    generalize w[j] = c at hx e2
    unfold isW at hx
    unfold mt_word_end_b1
    have i1 : dIn (.str (ofL [c])) (.str "abcdefghijklmnopqrstuvwxyz") h' = .ok (.bl (decide (c ∈ cd SM))) h' := rfl
    have i2 : dIn (.str (ofL [c])) (.str "ABCDEFGHIJKLMNOPQRSTUVWXYZ") h' = .ok (.bl (decide (c ∈ cd LG))) h' := rfl
    have i3 : dIn (.str (ofL [c])) (.str "0123456789") h' = .ok (.bl (decide (c ∈ cd DG))) h' := rfl
    have i4 : dIn (.str (ofL [c])) (.str "_'") h' = .ok (.bl (decide (c ∈ cd US))) h' := rfl
    simp only [Bool.or_eq_true, decide_eq_true_eq] at hx
    simp only [↓wp_seq, ↓wp_skip, ↓wp_drop, ↓wp_ret, ↓wp_retN, ↓wp_brk, ↓wp_cnt, ↓wp_if, ↓wp_asg, ↓wp_to, ↓wp_tos, ↓wp_toIx, ↓wp_aug, ↓wp_augK, ↓wp_fldSet, ↓wp_fldAug, ↓wp_var, ↓wp_c, ↓wp_op, ↓wp_un, ↓wp_nil, ↓wp_cons, ↓wp_tup, ↓wp_lst, ↓wp_dict0, ↓wp_dict, ↓wp_pairs0, ↓wp_pairs, ↓wp_call, ↓wp_callF, ↓wp_tru, ↓wp_bl, ↓wp_and, ↓wp_or, ↓wp_not, ↓wp_andV, ↓wp_orV, ↓wp_notV, ↓wp_part, ↓wp_noPart, ↓wp_sl, ↓wp_bm, ↓wp_ifE, ↓wp_fld, ↓wp_meth, ↓wp_make, ↓wp_lockE, ↓wp_rng1, ↓wp_rng2, ↓wp_seqI, ↓wpR_ok, ↓wpS_nx, ↓wpS_rt, List.getElem?_cons_zero, List.getElem?_cons_succ, List.set_cons_zero, List.set_cons_succ, List.length_cons, List.length_nil, ↓reduceIte, decide_eq_true_eq, ev_add, ev_iadd, ev_sub, ev_mod, ev_neg, ev_lt, ev_le, ev_gt, ev_ge, ev_eqI, ev_neI, ev_eqS, ev_neS, ev_isN, ev_int, ev_abs, ev_max, ev_min, ev_lenT, ev_lenC, ev_tupT, Int.reduceLT, Int.reduceLE, Int.reduceNeg, Int.reduceAdd, Int.reduceSub, Int.reduceEq, Nat.reduceAdd, Nat.reduceSub, and_self, ↓List.map_cons, ↓List.map_nil, ↓List.cons_append, ↓List.nil_append, List.replicate, ixT0, ixT1, ixT2, ixT3, ixTm1, ixTm2, ixTm3, onH_get, onH_set, onH_push, onH_len, mkB_get, mkB_set, mkB_push, mkB_len, mkB_next, Option.getD_some, Option.getD_none, sz0, sz1, sz2, sz3, sz4, sz5, sz6, sz7, sz8, sz9, ev_keyI, ev_keyS, ev_eqB, ev_neB, wp_one, wp_yes, wp_valsI, wp_keysI, wp_lcE, sz10, sz11, sz12, sz13, sz14, sz15, sz16, sz17, sz18, sz19, sz20, sz21, sz22, sz23, sz24, sz25, sz26, sz27, sz28, sz29, sz30, Bool.false_eq_true, Bool.not_eq_true', decide_eq_false_iff_not, Bool.not_true, Bool.not_false, ite_and2, ite_or2, ite_tand, not_true_eq_false, not_false_eq_true, i1, i2, i3, i4, ixS hT e2 el]
    rw [if_pos hx]
    refine ⟨⟨by trivial, j + 1, c1, ?_⟩, ?_⟩
    · rw [show ((pre.length + j : Nat) : Int) + 1 = ((pre.length + (j + 1) : Nat) : Int) by omega]
    · simp only [Int.toNat_natCast]
      rw [show (((pre.length + j : Nat) : Int) + 1).toNat = pre.length + j + 1 by omega]
      omega
  · have ej : j = w.length := by omega
    subst ej
    have fin : wpS (mt_word_end_r2 [some (.str T), some (.int pre.length), some (.int (pre.length + w.length : Nat))] h') (fun _ h => P .non h) (Tl.ret P X) := by
      unfold mt_word_end_r2
      simp only [↓wp_seq, ↓wp_skip, ↓wp_drop, ↓wp_ret, ↓wp_retN, ↓wp_brk, ↓wp_cnt, ↓wp_if, ↓wp_asg, ↓wp_to, ↓wp_tos, ↓wp_toIx, ↓wp_aug, ↓wp_augK, ↓wp_fldSet, ↓wp_fldAug, ↓wp_var, ↓wp_c, ↓wp_op, ↓wp_un, ↓wp_nil, ↓wp_cons, ↓wp_tup, ↓wp_lst, ↓wp_dict0, ↓wp_dict, ↓wp_pairs0, ↓wp_pairs, ↓wp_call, ↓wp_callF, ↓wp_tru, ↓wp_bl, ↓wp_and, ↓wp_or, ↓wp_not, ↓wp_andV, ↓wp_orV, ↓wp_notV, ↓wp_part, ↓wp_noPart, ↓wp_sl, ↓wp_bm, ↓wp_ifE, ↓wp_fld, ↓wp_meth, ↓wp_make, ↓wp_lockE, ↓wp_rng1, ↓wp_rng2, ↓wp_seqI, ↓wpR_ok, ↓wpS_nx, ↓wpS_rt, List.getElem?_cons_zero, List.getElem?_cons_succ, List.set_cons_zero, List.set_cons_succ, List.length_cons, List.length_nil, ↓reduceIte, decide_eq_true_eq, ev_add, ev_iadd, ev_sub, ev_mod, ev_neg, ev_lt, ev_le, ev_gt, ev_ge, ev_eqI, ev_neI, ev_eqS, ev_neS, ev_isN, ev_int, ev_abs, ev_max, ev_min, ev_lenT, ev_lenC, ev_tupT, Int.reduceLT, Int.reduceLE, Int.reduceNeg, Int.reduceAdd, Int.reduceSub, Int.reduceEq, Nat.reduceAdd, Nat.reduceSub, and_self, ↓List.map_cons, ↓List.map_nil, ↓List.cons_append, ↓List.nil_append, List.replicate, ixT0, ixT1, ixT2, ixT3, ixTm1, ixTm2, ixTm3, onH_get, onH_set, onH_push, onH_len, mkB_get, mkB_set, mkB_push, mkB_len, mkB_next, Option.getD_some, Option.getD_none, sz0, sz1, sz2, sz3, sz4, sz5, sz6, sz7, sz8, sz9, ev_keyI, ev_keyS, ev_eqB, ev_neB, wp_one, wp_yes, wp_valsI, wp_keysI, wp_lcE, sz10, sz11, sz12, sz13, sz14, sz15, sz16, sz17, sz18, sz19, sz20, sz21, sz22, sz23, sz24, sz25, sz26, sz27, sz28, sz29, sz30, Bool.false_eq_true, Bool.not_eq_true', decide_eq_false_iff_not, Bool.not_true, Bool.not_false, ite_and2, ite_or2, ite_tand, not_true_eq_false, not_false_eq_true]
      exact k
    cases hr2 : r with
    | nil =>
      rw [hr2] at hl
      rw [if_neg (by simp only [List.length_nil] at hl; omega)]
      exact fin
    | cons c t =>
      rw [hr2, List.length_cons] at hl
      rw [if_pos (by omega)]
      have e2 : cd T = (pre ++ w) ++ c :: t := by rw [e, hr2, List.append_assoc]
      have hx := hr c t hr2
      have el : ((pre.length + w.length : Nat) : Int) = ((pre ++ w).length : Nat) := by rw [List.length_append]
      rw [ixS hT e2 el, wpR_ok]
      unfold isW at hx
      have i1 : dIn (.str (ofL [c])) (.str "abcdefghijklmnopqrstuvwxyz") h' = .ok (.bl (decide (c ∈ cd SM))) h' := rfl
      have i2 : dIn (.str (ofL [c])) (.str "ABCDEFGHIJKLMNOPQRSTUVWXYZ") h' = .ok (.bl (decide (c ∈ cd LG))) h' := rfl
      have i3 : dIn (.str (ofL [c])) (.str "0123456789") h' = .ok (.bl (decide (c ∈ cd DG))) h' := rfl
      have i4 : dIn (.str (ofL [c])) (.str "_'") h' = .ok (.bl (decide (c ∈ cd US))) h' := rfl
      simp only [Bool.or_eq_false_iff, decide_eq_false_iff_not] at hx
      obtain ⟨x1, x2, x3, x4⟩ := hx
      simp only [↓wp_seq, ↓wp_skip, ↓wp_drop, ↓wp_ret, ↓wp_retN, ↓wp_brk, ↓wp_cnt, ↓wp_if, ↓wp_asg, ↓wp_to, ↓wp_tos, ↓wp_toIx, ↓wp_aug, ↓wp_augK, ↓wp_fldSet, ↓wp_fldAug, ↓wp_var, ↓wp_c, ↓wp_op, ↓wp_un, ↓wp_nil, ↓wp_cons, ↓wp_tup, ↓wp_lst, ↓wp_dict0, ↓wp_dict, ↓wp_pairs0, ↓wp_pairs, ↓wp_call, ↓wp_callF, ↓wp_tru, ↓wp_bl, ↓wp_and, ↓wp_or, ↓wp_not, ↓wp_andV, ↓wp_orV, ↓wp_notV, ↓wp_part, ↓wp_noPart, ↓wp_sl, ↓wp_bm, ↓wp_ifE, ↓wp_fld, ↓wp_meth, ↓wp_make, ↓wp_lockE, ↓wp_rng1, ↓wp_rng2, ↓wp_seqI, ↓wpR_ok, ↓wpS_nx, ↓wpS_rt, List.getElem?_cons_zero, List.getElem?_cons_succ, List.set_cons_zero, List.set_cons_succ, List.length_cons, List.length_nil, ↓reduceIte, decide_eq_true_eq, ev_add, ev_iadd, ev_sub, ev_mod, ev_neg, ev_lt, ev_le, ev_gt, ev_ge, ev_eqI, ev_neI, ev_eqS, ev_neS, ev_isN, ev_int, ev_abs, ev_max, ev_min, ev_lenT, ev_lenC, ev_tupT, Int.reduceLT, Int.reduceLE, Int.reduceNeg, Int.reduceAdd, Int.reduceSub, Int.reduceEq, Nat.reduceAdd, Nat.reduceSub, and_self, ↓List.map_cons, ↓List.map_nil, ↓List.cons_append, ↓List.nil_append, List.replicate, ixT0, ixT1, ixT2, ixT3, ixTm1, ixTm2, ixTm3, onH_get, onH_set, onH_push, onH_len, mkB_get, mkB_set, mkB_push, mkB_len, mkB_next, Option.getD_some, Option.getD_none, sz0, sz1, sz2, sz3, sz4, sz5, sz6, sz7, sz8, sz9, ev_keyI, ev_keyS, ev_eqB, ev_neB, wp_one, wp_yes, wp_valsI, wp_keysI, wp_lcE, sz10, sz11, sz12, sz13, sz14, sz15, sz16, sz17, sz18, sz19, sz20, sz21, sz22, sz23, sz24, sz25, sz26, sz27, sz28, sz29, sz30, Bool.false_eq_true, Bool.not_eq_true', decide_eq_false_iff_not, Bool.not_true, Bool.not_false, ite_and2, ite_or2, ite_tand, not_true_eq_false, not_false_eq_true, i1, i2, i3, i4, ixS hT e2 el]
      rw [if_neg (by rintro (z | z | z | z) <;> contradiction)]
      exact fin
/-- a number of the language, as written -/
structure NumW (w : List Nat) : Prop where
  dig : ∀ c ∈ w, c ∈ cd DG
  len : w.length ≤ 13
  lead : ¬(w.head? = some 48 ∧ 1 < w.length)
  val : ∃ n : Int, PySem.intText? (ofL w) = some n ∧ n ≤ 1000000000000
theorem is_number_ok (hw : NumW w) (h0 : w ≠ []) (k : P (.bl true) h) : wpR (ft_is_number [.str (ofL w)] h) P X := by
  unfold ft_is_number mt_is_number
  have hl := hw.len
  have hT : (ofL w).length ≤ sizeLine := Nat.le_trans (show w.length ≤ 13 from hl) (by decide)
  simp only [↓wp_seq, ↓wp_skip, ↓wp_drop, ↓wp_ret, ↓wp_retN, ↓wp_brk, ↓wp_cnt, ↓wp_if, ↓wp_asg, ↓wp_to, ↓wp_tos, ↓wp_toIx, ↓wp_aug, ↓wp_augK, ↓wp_fldSet, ↓wp_fldAug, ↓wp_var, ↓wp_c, ↓wp_op, ↓wp_un, ↓wp_nil, ↓wp_cons, ↓wp_tup, ↓wp_lst, ↓wp_dict0, ↓wp_dict, ↓wp_pairs0, ↓wp_pairs, ↓wp_call, ↓wp_callF, ↓wp_tru, ↓wp_bl, ↓wp_and, ↓wp_or, ↓wp_not, ↓wp_andV, ↓wp_orV, ↓wp_notV, ↓wp_part, ↓wp_noPart, ↓wp_sl, ↓wp_bm, ↓wp_ifE, ↓wp_fld, ↓wp_meth, ↓wp_make, ↓wp_lockE, ↓wp_rng1, ↓wp_rng2, ↓wp_seqI, ↓wpR_ok, ↓wpS_nx, ↓wpS_rt, List.getElem?_cons_zero, List.getElem?_cons_succ, List.set_cons_zero, List.set_cons_succ, List.length_cons, List.length_nil, ↓reduceIte, decide_eq_true_eq, ev_add, ev_iadd, ev_sub, ev_mod, ev_neg, ev_lt, ev_le, ev_gt, ev_ge, ev_eqI, ev_neI, ev_eqS, ev_neS, ev_isN, ev_int, ev_abs, ev_max, ev_min, ev_lenT, ev_lenC, ev_tupT, Int.reduceLT, Int.reduceLE, Int.reduceNeg, Int.reduceAdd, Int.reduceSub, Int.reduceEq, Nat.reduceAdd, Nat.reduceSub, and_self, ↓List.map_cons, ↓List.map_nil, ↓List.cons_append, ↓List.nil_append, List.replicate, ixT0, ixT1, ixT2, ixT3, ixTm1, ixTm2, ixTm3, onH_get, onH_set, onH_push, onH_len, mkB_get, mkB_set, mkB_push, mkB_len, mkB_next, Option.getD_some, Option.getD_none, sz0, sz1, sz2, sz3, sz4, sz5, sz6, sz7, sz8, sz9, ev_keyI, ev_keyS, ev_eqB, ev_neB, wp_one, wp_yes, wp_valsI, wp_keysI, wp_lcE, sz10, sz11, sz12, sz13, sz14, sz15, sz16, sz17, sz18, sz19, sz20, sz21, sz22, sz23, sz24, sz25, sz26, sz27, sz28, sz29, sz30, Bool.false_eq_true, Bool.not_eq_true', decide_eq_false_iff_not, Bool.not_true, Bool.not_false, ite_and2, ite_or2, ite_tand, not_true_eq_false, not_false_eq_true, ↓wp_runB, ↓wp_forE, itSeq]
  refine wp_forL _ (fun j σ h' => h' = h ∧ ∃ s1, σ = [some (.str (ofL w)), s1]) ⟨rfl, _, rfl⟩ ?_ ?_
  · rintro j σ h' ⟨rfl, s1, rfl⟩ hj
    have hj2 : j < w.length := hj
    refine ⟨.str (ofL [w[j]]), ?_, ?_⟩
    · show ((ofL w).cps[j]?).map (fun c => D.str ⟨#[c]⟩) = _
      simp [ofL, hj2]
    · have hx := hw.dig _ (List.getElem_mem hj2)
      generalize w[j] = c at hx
      have i3 : dNotIn (.str (ofL [c])) (.str "0123456789") h' = .ok (.bl (!decide (c ∈ cd DG))) h' := rfl
      unfold mt_is_number_b1
      simp only [↓wp_seq, ↓wp_skip, ↓wp_drop, ↓wp_ret, ↓wp_retN, ↓wp_brk, ↓wp_cnt, ↓wp_if, ↓wp_asg, ↓wp_to, ↓wp_tos, ↓wp_toIx, ↓wp_aug, ↓wp_augK, ↓wp_fldSet, ↓wp_fldAug, ↓wp_var, ↓wp_c, ↓wp_op, ↓wp_un, ↓wp_nil, ↓wp_cons, ↓wp_tup, ↓wp_lst, ↓wp_dict0, ↓wp_dict, ↓wp_pairs0, ↓wp_pairs, ↓wp_call, ↓wp_callF, ↓wp_tru, ↓wp_bl, ↓wp_and, ↓wp_or, ↓wp_not, ↓wp_andV, ↓wp_orV, ↓wp_notV, ↓wp_part, ↓wp_noPart, ↓wp_sl, ↓wp_bm, ↓wp_ifE, ↓wp_fld, ↓wp_meth, ↓wp_make, ↓wp_lockE, ↓wp_rng1, ↓wp_rng2, ↓wp_seqI, ↓wpR_ok, ↓wpS_nx, ↓wpS_rt, List.getElem?_cons_zero, List.getElem?_cons_succ, List.set_cons_zero, List.set_cons_succ, List.length_cons, List.length_nil, ↓reduceIte, decide_eq_true_eq, ev_add, ev_iadd, ev_sub, ev_mod, ev_neg, ev_lt, ev_le, ev_gt, ev_ge, ev_eqI, ev_neI, ev_eqS, ev_neS, ev_isN, ev_int, ev_abs, ev_max, ev_min, ev_lenT, ev_lenC, ev_tupT, Int.reduceLT, Int.reduceLE, Int.reduceNeg, Int.reduceAdd, Int.reduceSub, Int.reduceEq, Nat.reduceAdd, Nat.reduceSub, and_self, ↓List.map_cons, ↓List.map_nil, ↓List.cons_append, ↓List.nil_append, List.replicate, ixT0, ixT1, ixT2, ixT3, ixTm1, ixTm2, ixTm3, onH_get, onH_set, onH_push, onH_len, mkB_get, mkB_set, mkB_push, mkB_len, mkB_next, Option.getD_some, Option.getD_none, sz0, sz1, sz2, sz3, sz4, sz5, sz6, sz7, sz8, sz9, ev_keyI, ev_keyS, ev_eqB, ev_neB, wp_one, wp_yes, wp_valsI, wp_keysI, wp_lcE, sz10, sz11, sz12, sz13, sz14, sz15, sz16, sz17, sz18, sz19, sz20, sz21, sz22, sz23, sz24, sz25, sz26, sz27, sz28, sz29, sz30, Bool.false_eq_true, Bool.not_eq_true', decide_eq_false_iff_not, Bool.not_true, Bool.not_false, ite_and2, ite_or2, ite_tand, not_true_eq_false, not_false_eq_true, i3, hx, decide_true]
      exact ⟨by trivial, _, by trivial⟩
  · rintro σ h' ⟨rfl, s1, rfl⟩
    refine ⟨rfl, ?_⟩
    obtain ⟨n, hn, hb⟩ := hw.val
    have ii : ∀ h, dIntA [.str (ofL w)] h = .ok (.int n) h := fun h => by
      simp only [dIntA, one1, hn]
      rw [if_pos (show (ofL w).length ≤ 640 by rw [ofL_len]; omega)]
    unfold mt_is_number_r2
    cases w with
    | nil => exact absurd rfl h0
    | cons c t =>
      have e0 : cd (ofL (c :: t)) = [] ++ c :: t := rfl
      simp only [↓wp_seq, ↓wp_skip, ↓wp_drop, ↓wp_ret, ↓wp_retN, ↓wp_brk, ↓wp_cnt, ↓wp_if, ↓wp_asg, ↓wp_to, ↓wp_tos, ↓wp_toIx, ↓wp_aug, ↓wp_augK, ↓wp_fldSet, ↓wp_fldAug, ↓wp_var, ↓wp_c, ↓wp_op, ↓wp_un, ↓wp_nil, ↓wp_cons, ↓wp_tup, ↓wp_lst, ↓wp_dict0, ↓wp_dict, ↓wp_pairs0, ↓wp_pairs, ↓wp_call, ↓wp_callF, ↓wp_tru, ↓wp_bl, ↓wp_and, ↓wp_or, ↓wp_not, ↓wp_andV, ↓wp_orV, ↓wp_notV, ↓wp_part, ↓wp_noPart, ↓wp_sl, ↓wp_bm, ↓wp_ifE, ↓wp_fld, ↓wp_meth, ↓wp_make, ↓wp_lockE, ↓wp_rng1, ↓wp_rng2, ↓wp_seqI, ↓wpR_ok, ↓wpS_nx, ↓wpS_rt, List.getElem?_cons_zero, List.getElem?_cons_succ, List.set_cons_zero, List.set_cons_succ, List.length_cons, List.length_nil, ↓reduceIte, decide_eq_true_eq, ev_add, ev_iadd, ev_sub, ev_mod, ev_neg, ev_lt, ev_le, ev_gt, ev_ge, ev_eqI, ev_neI, ev_eqS, ev_neS, ev_isN, ev_int, ev_abs, ev_max, ev_min, ev_lenT, ev_lenC, ev_tupT, Int.reduceLT, Int.reduceLE, Int.reduceNeg, Int.reduceAdd, Int.reduceSub, Int.reduceEq, Nat.reduceAdd, Nat.reduceSub, and_self, ↓List.map_cons, ↓List.map_nil, ↓List.cons_append, ↓List.nil_append, List.replicate, ixT0, ixT1, ixT2, ixT3, ixTm1, ixTm2, ixTm3, onH_get, onH_set, onH_push, onH_len, mkB_get, mkB_set, mkB_push, mkB_len, mkB_next, Option.getD_some, Option.getD_none, sz0, sz1, sz2, sz3, sz4, sz5, sz6, sz7, sz8, sz9, ev_keyI, ev_keyS, ev_eqB, ev_neB, wp_one, wp_yes, wp_valsI, wp_keysI, wp_lcE, sz10, sz11, sz12, sz13, sz14, sz15, sz16, sz17, sz18, sz19, sz20, sz21, sz22, sz23, sz24, sz25, sz26, sz27, sz28, sz29, sz30, Bool.false_eq_true, Bool.not_eq_true', decide_eq_false_iff_not, Bool.not_true, Bool.not_false, ite_and2, ite_or2, ite_tand, not_true_eq_false, not_false_eq_true, lenS hT, ixS (i := 0) hT e0 rfl, ii]
      rw [if_neg ?_, decide_eq_true hb]
      · exact k
      · rintro (z | ⟨z1, z2⟩)
        · have : (ofL (c :: t)).length = (c :: t).length := rfl
          omega
        · refine hw.lead ⟨?_, ?_⟩
          · have := congrArg cd z1
            rw [show cd (ofL [c]) = [c] from rfl, show cd ("0" : Str) = [48] by decide +kernel] at this
            rw [List.head?_cons, List.head_eq_of_cons_eq this]
          · have : (ofL (c :: t)).length = (c :: t).length := rfl
            omega
/-- the kind of a word -/
inductive KindW : Str → List Nat → Prop where
  | num {w : List Nat} {c : Nat} {t : List Nat} : w = c :: t → c ∈ cd DG → NumW w → KindW "number" w
  | key {w : List Nat} {c : Nat} {t : List Nat} : w = c :: t → c ∉ cd DG → ofL w ∈ KWs → KindW "keyword" w
  | name {w : List Nat} {c : Nat} {t : List Nat} : w = c :: t → c ∉ cd DG → ofL w ∉ KWs → c ∈ cd SM → KindW "name" w
  | con {w : List Nat} {c : Nat} {t : List Nat} : w = c :: t → c ∉ cd DG → ofL w ∉ KWs → c ∉ cd SM → KindW "con" w
theorem KindW.ne {k : Str} (q : KindW k w) : w ≠ [] := by
  cases q <;> (rename_i e _; subst e; simp) <;> done
theorem word_kind_ok {kd : Str} {row col : D} (q : KindW kd w) (hT : w.length ≤ sizeLine) (k : P (.str kd) h) : wpR (ft_word_kind fn [.str (ofL w), row, col] h) P X := by
  unfold ft_word_kind mt_word_kind
  have hT2 : (ofL w).length ≤ sizeLine := hT
  cases q with
  | num e hc hn =>
    rename_i c t
    have e0 : cd (ofL w) = [] ++ c :: t := e
    have i1 : ∀ h, dIn (.str (ofL [c])) (.str "0123456789") h = .ok (.bl (decide (c ∈ cd DG))) h := fun h => rfl
    simp only [↓wp_seq, ↓wp_skip, ↓wp_drop, ↓wp_ret, ↓wp_retN, ↓wp_brk, ↓wp_cnt, ↓wp_if, ↓wp_asg, ↓wp_to, ↓wp_tos, ↓wp_toIx, ↓wp_aug, ↓wp_augK, ↓wp_fldSet, ↓wp_fldAug, ↓wp_var, ↓wp_c, ↓wp_op, ↓wp_un, ↓wp_nil, ↓wp_cons, ↓wp_tup, ↓wp_lst, ↓wp_dict0, ↓wp_dict, ↓wp_pairs0, ↓wp_pairs, ↓wp_call, ↓wp_callF, ↓wp_tru, ↓wp_bl, ↓wp_and, ↓wp_or, ↓wp_not, ↓wp_andV, ↓wp_orV, ↓wp_notV, ↓wp_part, ↓wp_noPart, ↓wp_sl, ↓wp_bm, ↓wp_ifE, ↓wp_fld, ↓wp_meth, ↓wp_make, ↓wp_lockE, ↓wp_rng1, ↓wp_rng2, ↓wp_seqI, ↓wpR_ok, ↓wpS_nx, ↓wpS_rt, List.getElem?_cons_zero, List.getElem?_cons_succ, List.set_cons_zero, List.set_cons_succ, List.length_cons, List.length_nil, ↓reduceIte, decide_eq_true_eq, ev_add, ev_iadd, ev_sub, ev_mod, ev_neg, ev_lt, ev_le, ev_gt, ev_ge, ev_eqI, ev_neI, ev_eqS, ev_neS, ev_isN, ev_int, ev_abs, ev_max, ev_min, ev_lenT, ev_lenC, ev_tupT, Int.reduceLT, Int.reduceLE, Int.reduceNeg, Int.reduceAdd, Int.reduceSub, Int.reduceEq, Nat.reduceAdd, Nat.reduceSub, and_self, ↓List.map_cons, ↓List.map_nil, ↓List.cons_append, ↓List.nil_append, List.replicate, ixT0, ixT1, ixT2, ixT3, ixTm1, ixTm2, ixTm3, onH_get, onH_set, onH_push, onH_len, mkB_get, mkB_set, mkB_push, mkB_len, mkB_next, Option.getD_some, Option.getD_none, sz0, sz1, sz2, sz3, sz4, sz5, sz6, sz7, sz8, sz9, ev_keyI, ev_keyS, ev_eqB, ev_neB, wp_one, wp_yes, wp_valsI, wp_keysI, wp_lcE, sz10, sz11, sz12, sz13, sz14, sz15, sz16, sz17, sz18, sz19, sz20, sz21, sz22, sz23, sz24, sz25, sz26, sz27, sz28, sz29, sz30, Bool.false_eq_true, Bool.not_eq_true', decide_eq_false_iff_not, Bool.not_true, Bool.not_false, ite_and2, ite_or2, ite_tand, not_true_eq_false, not_false_eq_true, ↓wp_runB, ixS (i := 0) hT2 e0 rfl, i1, hc, decide_true]
    refine is_number_ok hn (by rw [e]; simp) ?_
    simp only [↓wp_seq, ↓wp_skip, ↓wp_drop, ↓wp_ret, ↓wp_retN, ↓wp_brk, ↓wp_cnt, ↓wp_if, ↓wp_asg, ↓wp_to, ↓wp_tos, ↓wp_toIx, ↓wp_aug, ↓wp_augK, ↓wp_fldSet, ↓wp_fldAug, ↓wp_var, ↓wp_c, ↓wp_op, ↓wp_un, ↓wp_nil, ↓wp_cons, ↓wp_tup, ↓wp_lst, ↓wp_dict0, ↓wp_dict, ↓wp_pairs0, ↓wp_pairs, ↓wp_call, ↓wp_callF, ↓wp_tru, ↓wp_bl, ↓wp_and, ↓wp_or, ↓wp_not, ↓wp_andV, ↓wp_orV, ↓wp_notV, ↓wp_part, ↓wp_noPart, ↓wp_sl, ↓wp_bm, ↓wp_ifE, ↓wp_fld, ↓wp_meth, ↓wp_make, ↓wp_lockE, ↓wp_rng1, ↓wp_rng2, ↓wp_seqI, ↓wpR_ok, ↓wpS_nx, ↓wpS_rt, List.getElem?_cons_zero, List.getElem?_cons_succ, List.set_cons_zero, List.set_cons_succ, List.length_cons, List.length_nil, ↓reduceIte, decide_eq_true_eq, ev_add, ev_iadd, ev_sub, ev_mod, ev_neg, ev_lt, ev_le, ev_gt, ev_ge, ev_eqI, ev_neI, ev_eqS, ev_neS, ev_isN, ev_int, ev_abs, ev_max, ev_min, ev_lenT, ev_lenC, ev_tupT, Int.reduceLT, Int.reduceLE, Int.reduceNeg, Int.reduceAdd, Int.reduceSub, Int.reduceEq, Nat.reduceAdd, Nat.reduceSub, and_self, ↓List.map_cons, ↓List.map_nil, ↓List.cons_append, ↓List.nil_append, List.replicate, ixT0, ixT1, ixT2, ixT3, ixTm1, ixTm2, ixTm3, onH_get, onH_set, onH_push, onH_len, mkB_get, mkB_set, mkB_push, mkB_len, mkB_next, Option.getD_some, Option.getD_none, sz0, sz1, sz2, sz3, sz4, sz5, sz6, sz7, sz8, sz9, ev_keyI, ev_keyS, ev_eqB, ev_neB, wp_one, wp_yes, wp_valsI, wp_keysI, wp_lcE, sz10, sz11, sz12, sz13, sz14, sz15, sz16, sz17, sz18, sz19, sz20, sz21, sz22, sz23, sz24, sz25, sz26, sz27, sz28, sz29, sz30, Bool.false_eq_true, Bool.not_eq_true', decide_eq_false_iff_not, Bool.not_true, Bool.not_false, ite_and2, ite_or2, ite_tand, not_true_eq_false, not_false_eq_true, truB]
    exact k
  | key e hc hk =>
    rename_i c t
    have e0 : cd (ofL w) = [] ++ c :: t := e
    have i1 : ∀ h, dIn (.str (ofL [c])) (.str "0123456789") h = .ok (.bl (decide (c ∈ cd DG))) h := fun h => rfl
    simp only [↓wp_seq, ↓wp_skip, ↓wp_drop, ↓wp_ret, ↓wp_retN, ↓wp_brk, ↓wp_cnt, ↓wp_if, ↓wp_asg, ↓wp_to, ↓wp_tos, ↓wp_toIx, ↓wp_aug, ↓wp_augK, ↓wp_fldSet, ↓wp_fldAug, ↓wp_var, ↓wp_c, ↓wp_op, ↓wp_un, ↓wp_nil, ↓wp_cons, ↓wp_tup, ↓wp_lst, ↓wp_dict0, ↓wp_dict, ↓wp_pairs0, ↓wp_pairs, ↓wp_call, ↓wp_callF, ↓wp_tru, ↓wp_bl, ↓wp_and, ↓wp_or, ↓wp_not, ↓wp_andV, ↓wp_orV, ↓wp_notV, ↓wp_part, ↓wp_noPart, ↓wp_sl, ↓wp_bm, ↓wp_ifE, ↓wp_fld, ↓wp_meth, ↓wp_make, ↓wp_lockE, ↓wp_rng1, ↓wp_rng2, ↓wp_seqI, ↓wpR_ok, ↓wpS_nx, ↓wpS_rt, List.getElem?_cons_zero, List.getElem?_cons_succ, List.set_cons_zero, List.set_cons_succ, List.length_cons, List.length_nil, ↓reduceIte, decide_eq_true_eq, ev_add, ev_iadd, ev_sub, ev_mod, ev_neg, ev_lt, ev_le, ev_gt, ev_ge, ev_eqI, ev_neI, ev_eqS, ev_neS, ev_isN, ev_int, ev_abs, ev_max, ev_min, ev_lenT, ev_lenC, ev_tupT, Int.reduceLT, Int.reduceLE, Int.reduceNeg, Int.reduceAdd, Int.reduceSub, Int.reduceEq, Nat.reduceAdd, Nat.reduceSub, and_self, ↓List.map_cons, ↓List.map_nil, ↓List.cons_append, ↓List.nil_append, List.replicate, ixT0, ixT1, ixT2, ixT3, ixTm1, ixTm2, ixTm3, onH_get, onH_set, onH_push, onH_len, mkB_get, mkB_set, mkB_push, mkB_len, mkB_next, Option.getD_some, Option.getD_none, sz0, sz1, sz2, sz3, sz4, sz5, sz6, sz7, sz8, sz9, ev_keyI, ev_keyS, ev_eqB, ev_neB, wp_one, wp_yes, wp_valsI, wp_keysI, wp_lcE, sz10, sz11, sz12, sz13, sz14, sz15, sz16, sz17, sz18, sz19, sz20, sz21, sz22, sz23, sz24, sz25, sz26, sz27, sz28, sz29, sz30, Bool.false_eq_true, Bool.not_eq_true', decide_eq_false_iff_not, Bool.not_true, Bool.not_false, ite_and2, ite_or2, ite_tand, not_true_eq_false, not_false_eq_true, ↓wp_runB, ixS (i := 0) hT2 e0 rfl, i1, hc, decide_false, inKW, hk, decide_true]
    exact k
  | name e hc hk hs =>
    rename_i c t
    have e0 : cd (ofL w) = [] ++ c :: t := e
    have i1 : ∀ h, dIn (.str (ofL [c])) (.str "0123456789") h = .ok (.bl (decide (c ∈ cd DG))) h := fun h => rfl
    have i2 : ∀ h, dIn (.str (ofL [c])) (.str "abcdefghijklmnopqrstuvwxyz") h = .ok (.bl (decide (c ∈ cd SM))) h := fun h => rfl
    simp only [↓wp_seq, ↓wp_skip, ↓wp_drop, ↓wp_ret, ↓wp_retN, ↓wp_brk, ↓wp_cnt, ↓wp_if, ↓wp_asg, ↓wp_to, ↓wp_tos, ↓wp_toIx, ↓wp_aug, ↓wp_augK, ↓wp_fldSet, ↓wp_fldAug, ↓wp_var, ↓wp_c, ↓wp_op, ↓wp_un, ↓wp_nil, ↓wp_cons, ↓wp_tup, ↓wp_lst, ↓wp_dict0, ↓wp_dict, ↓wp_pairs0, ↓wp_pairs, ↓wp_call, ↓wp_callF, ↓wp_tru, ↓wp_bl, ↓wp_and, ↓wp_or, ↓wp_not, ↓wp_andV, ↓wp_orV, ↓wp_notV, ↓wp_part, ↓wp_noPart, ↓wp_sl, ↓wp_bm, ↓wp_ifE, ↓wp_fld, ↓wp_meth, ↓wp_make, ↓wp_lockE, ↓wp_rng1, ↓wp_rng2, ↓wp_seqI, ↓wpR_ok, ↓wpS_nx, ↓wpS_rt, List.getElem?_cons_zero, List.getElem?_cons_succ, List.set_cons_zero, List.set_cons_succ, List.length_cons, List.length_nil, ↓reduceIte, decide_eq_true_eq, ev_add, ev_iadd, ev_sub, ev_mod, ev_neg, ev_lt, ev_le, ev_gt, ev_ge, ev_eqI, ev_neI, ev_eqS, ev_neS, ev_isN, ev_int, ev_abs, ev_max, ev_min, ev_lenT, ev_lenC, ev_tupT, Int.reduceLT, Int.reduceLE, Int.reduceNeg, Int.reduceAdd, Int.reduceSub, Int.reduceEq, Nat.reduceAdd, Nat.reduceSub, and_self, ↓List.map_cons, ↓List.map_nil, ↓List.cons_append, ↓List.nil_append, List.replicate, ixT0, ixT1, ixT2, ixT3, ixTm1, ixTm2, ixTm3, onH_get, onH_set, onH_push, onH_len, mkB_get, mkB_set, mkB_push, mkB_len, mkB_next, Option.getD_some, Option.getD_none, sz0, sz1, sz2, sz3, sz4, sz5, sz6, sz7, sz8, sz9, ev_keyI, ev_keyS, ev_eqB, ev_neB, wp_one, wp_yes, wp_valsI, wp_keysI, wp_lcE, sz10, sz11, sz12, sz13, sz14, sz15, sz16, sz17, sz18, sz19, sz20, sz21, sz22, sz23, sz24, sz25, sz26, sz27, sz28, sz29, sz30, Bool.false_eq_true, Bool.not_eq_true', decide_eq_false_iff_not, Bool.not_true, Bool.not_false, ite_and2, ite_or2, ite_tand, not_true_eq_false, not_false_eq_true, ↓wp_runB, ixS (i := 0) hT2 e0 rfl, i1, i2, hc, hs, decide_false, inKW, hk, decide_true]
    exact k
  | con e hc hk hs =>
    rename_i c t
    have e0 : cd (ofL w) = [] ++ c :: t := e
    have i1 : ∀ h, dIn (.str (ofL [c])) (.str "0123456789") h = .ok (.bl (decide (c ∈ cd DG))) h := fun h => rfl
    have i2 : ∀ h, dIn (.str (ofL [c])) (.str "abcdefghijklmnopqrstuvwxyz") h = .ok (.bl (decide (c ∈ cd SM))) h := fun h => rfl
    simp only [↓wp_seq, ↓wp_skip, ↓wp_drop, ↓wp_ret, ↓wp_retN, ↓wp_brk, ↓wp_cnt, ↓wp_if, ↓wp_asg, ↓wp_to, ↓wp_tos, ↓wp_toIx, ↓wp_aug, ↓wp_augK, ↓wp_fldSet, ↓wp_fldAug, ↓wp_var, ↓wp_c, ↓wp_op, ↓wp_un, ↓wp_nil, ↓wp_cons, ↓wp_tup, ↓wp_lst, ↓wp_dict0, ↓wp_dict, ↓wp_pairs0, ↓wp_pairs, ↓wp_call, ↓wp_callF, ↓wp_tru, ↓wp_bl, ↓wp_and, ↓wp_or, ↓wp_not, ↓wp_andV, ↓wp_orV, ↓wp_notV, ↓wp_part, ↓wp_noPart, ↓wp_sl, ↓wp_bm, ↓wp_ifE, ↓wp_fld, ↓wp_meth, ↓wp_make, ↓wp_lockE, ↓wp_rng1, ↓wp_rng2, ↓wp_seqI, ↓wpR_ok, ↓wpS_nx, ↓wpS_rt, List.getElem?_cons_zero, List.getElem?_cons_succ, List.set_cons_zero, List.set_cons_succ, List.length_cons, List.length_nil, ↓reduceIte, decide_eq_true_eq, ev_add, ev_iadd, ev_sub, ev_mod, ev_neg, ev_lt, ev_le, ev_gt, ev_ge, ev_eqI, ev_neI, ev_eqS, ev_neS, ev_isN, ev_int, ev_abs, ev_max, ev_min, ev_lenT, ev_lenC, ev_tupT, Int.reduceLT, Int.reduceLE, Int.reduceNeg, Int.reduceAdd, Int.reduceSub, Int.reduceEq, Nat.reduceAdd, Nat.reduceSub, and_self, ↓List.map_cons, ↓List.map_nil, ↓List.cons_append, ↓List.nil_append, List.replicate, ixT0, ixT1, ixT2, ixT3, ixTm1, ixTm2, ixTm3, onH_get, onH_set, onH_push, onH_len, mkB_get, mkB_set, mkB_push, mkB_len, mkB_next, Option.getD_some, Option.getD_none, sz0, sz1, sz2, sz3, sz4, sz5, sz6, sz7, sz8, sz9, ev_keyI, ev_keyS, ev_eqB, ev_neB, wp_one, wp_yes, wp_valsI, wp_keysI, wp_lcE, sz10, sz11, sz12, sz13, sz14, sz15, sz16, sz17, sz18, sz19, sz20, sz21, sz22, sz23, sz24, sz25, sz26, sz27, sz28, sz29, sz30, Bool.false_eq_true, Bool.not_eq_true', decide_eq_false_iff_not, Bool.not_true, Bool.not_false, ite_and2, ite_or2, ite_tand, not_true_eq_false, not_false_eq_true, ↓wp_runB, ixS (i := 0) hT2 e0 rfl, i1, i2, hc, hs, decide_false, inKW, hk, decide_true]
    exact k
/-- a token at the head of what is left -/
inductive IsTok : Str → List Nat → List Nat → Prop where
  | word {kd : Str} {w r : List Nat} (q : KindW kd w) (ha : ∃ c t, w = c :: t ∧ isA c = true) (hw : ∀ c ∈ w, isW c = true) (hr : Stop r) : IsTok kd w r
  | long {w r : List Nat} {a b : Nat} (e : w = [a, b]) (hl : ofL w ∈ LSs) : IsTok "sign" w r
  | short {w r : List Nat} {c : Nat} (e : w = [c]) (hc : c ∈ cd SS) (hn : ∀ d t, r = d :: t → ofL [c, d] ∉ LSs ∧ ¬(c = 45 ∧ d = 45)) : IsTok "sign" w r
theorem long_head {a b : Nat} (h : ofL [a, b] ∈ LSs) : isA a = false ∧ a ≠ 10 ∧ a ≠ 32 ∧ ¬(a = 45 ∧ b = 45) := by
  have e : ofL [a, b] = "->" ∨ ofL [a, b] = "=>" ∨ ofL [a, b] = "::" ∨ ofL [a, b] = "==" ∨ ofL [a, b] = "<=" := by
    simpa only [LSs, List.mem_cons, List.not_mem_nil, or_false] using h
  rcases e with e | e | e | e | e
  all_goals
    have := congrArg cd e
    rw [show cd (ofL [a, b]) = [a, b] from rfl] at this
  · rw [show cd ("->" : Str) = [45, 62] by decide +kernel] at this
    obtain ⟨rfl, h2⟩ := List.cons.inj this
    obtain ⟨rfl, _⟩ := List.cons.inj h2
    decide +kernel
  · rw [show cd ("=>" : Str) = [61, 62] by decide +kernel] at this
    obtain ⟨rfl, h2⟩ := List.cons.inj this
    exact ⟨by decide +kernel, by decide, by decide, fun z => absurd z.1 (by decide)⟩
  · rw [show cd ("::" : Str) = [58, 58] by decide +kernel] at this
    obtain ⟨rfl, h2⟩ := List.cons.inj this
    exact ⟨by decide +kernel, by decide, by decide, fun z => absurd z.1 (by decide)⟩
  · rw [show cd ("==" : Str) = [61, 61] by decide +kernel] at this
    obtain ⟨rfl, h2⟩ := List.cons.inj this
    exact ⟨by decide +kernel, by decide, by decide, fun z => absurd z.1 (by decide)⟩
  · rw [show cd ("<=" : Str) = [60, 61] by decide +kernel] at this
    obtain ⟨rfl, h2⟩ := List.cons.inj this
    exact ⟨by decide +kernel, by decide, by decide, fun z => absurd z.1 (by decide)⟩
theorem ss_head : ∀ c ∈ cd SS, isA c = false ∧ c ≠ 10 ∧ c ≠ 32 := by decide +kernel
theorem isA_head : ∀ {c : Nat}, isA c = true → c ≠ 10 ∧ c ≠ 32 ∧ c ≠ 45 := by
  intro c hc
  refine ⟨?_, ?_, ?_⟩ <;> (rintro rfl; exact absurd hc (by decide +kernel))
theorem ls_two {x : Str} (h : x ∈ LSs) : x.length = 2 := by
  have e : x = "->" ∨ x = "=>" ∨ x = "::" ∨ x = "==" ∨ x = "<=" := by
    simpa only [LSs, List.mem_cons, List.not_mem_nil, or_false] using h
  rcases e with rfl | rfl | rfl | rfl | rfl <;> decide +kernel
theorem IsTok.ne {kd : Str} (q : IsTok kd w r) : w ≠ [] := by
  cases q with
  | word q ha hw hr => exact q.ne
  | long e hl => rw [e]; simp
  | short e hc hn => rw [e]; simp
theorem token_at_ok {kd : Str} {row col : Int} (hT : T.length ≤ 100000) (e : cd T = pre ++ (w ++ r)) (q : IsTok kd w r) (k : P (.tup [.str kd, .str (ofL w), .int row, .int col]) h) :
    wpR (ft_token_at fb fn [.str T, .int pre.length, .int row, .int col] h) P X := by
  have hT2 : T.length ≤ sizeLine := Nat.le_trans hT (by decide)
  have hl : T.length = pre.length + (w.length + r.length) := by rw [← cd_len, e, List.length_append, List.length_append]
  unfold ft_token_at mt_token_at
  have i1 : ∀ c h, dIn (.str (ofL [c])) (.str "abcdefghijklmnopqrstuvwxyz") h = .ok (.bl (decide (c ∈ cd SM))) h := fun c h => rfl
  have i2 : ∀ c h, dIn (.str (ofL [c])) (.str "ABCDEFGHIJKLMNOPQRSTUVWXYZ") h = .ok (.bl (decide (c ∈ cd LG))) h := fun c h => rfl
  have i3 : ∀ c h, dIn (.str (ofL [c])) (.str "0123456789") h = .ok (.bl (decide (c ∈ cd DG))) h := fun c h => rfl
  have i4 : ∀ c h, dIn (.str (ofL [c])) (.str "=|\\()[],;{}+-*<:") h = .ok (.bl (decide (c ∈ cd SS))) h := fun c h => rfl
  cases q with
  | word q ha hw hr =>
    obtain ⟨c, t, ew, hc⟩ := ha
    have e2 : cd T = pre ++ c :: (t ++ r) := by rw [e, ew]; rfl
    unfold isA at hc
    simp only [Bool.or_eq_true, decide_eq_true_eq] at hc
    simp only [↓wp_seq, ↓wp_skip, ↓wp_drop, ↓wp_ret, ↓wp_retN, ↓wp_brk, ↓wp_cnt, ↓wp_if, ↓wp_asg, ↓wp_to, ↓wp_tos, ↓wp_toIx, ↓wp_aug, ↓wp_augK, ↓wp_fldSet, ↓wp_fldAug, ↓wp_var, ↓wp_c, ↓wp_op, ↓wp_un, ↓wp_nil, ↓wp_cons, ↓wp_tup, ↓wp_lst, ↓wp_dict0, ↓wp_dict, ↓wp_pairs0, ↓wp_pairs, ↓wp_call, ↓wp_callF, ↓wp_tru, ↓wp_bl, ↓wp_and, ↓wp_or, ↓wp_not, ↓wp_andV, ↓wp_orV, ↓wp_notV, ↓wp_part, ↓wp_noPart, ↓wp_sl, ↓wp_bm, ↓wp_ifE, ↓wp_fld, ↓wp_meth, ↓wp_make, ↓wp_lockE, ↓wp_rng1, ↓wp_rng2, ↓wp_seqI, ↓wpR_ok, ↓wpS_nx, ↓wpS_rt, List.getElem?_cons_zero, List.getElem?_cons_succ, List.set_cons_zero, List.set_cons_succ, List.length_cons, List.length_nil, ↓reduceIte, decide_eq_true_eq, ev_add, ev_iadd, ev_sub, ev_mod, ev_neg, ev_lt, ev_le, ev_gt, ev_ge, ev_eqI, ev_neI, ev_eqS, ev_neS, ev_isN, ev_int, ev_abs, ev_max, ev_min, ev_lenT, ev_lenC, ev_tupT, Int.reduceLT, Int.reduceLE, Int.reduceNeg, Int.reduceAdd, Int.reduceSub, Int.reduceEq, Nat.reduceAdd, Nat.reduceSub, and_self, ↓List.map_cons, ↓List.map_nil, ↓List.cons_append, ↓List.nil_append, List.replicate, ixT0, ixT1, ixT2, ixT3, ixTm1, ixTm2, ixTm3, onH_get, onH_set, onH_push, onH_len, mkB_get, mkB_set, mkB_push, mkB_len, mkB_next, Option.getD_some, Option.getD_none, sz0, sz1, sz2, sz3, sz4, sz5, sz6, sz7, sz8, sz9, ev_keyI, ev_keyS, ev_eqB, ev_neB, wp_one, wp_yes, wp_valsI, wp_keysI, wp_lcE, sz10, sz11, sz12, sz13, sz14, sz15, sz16, sz17, sz18, sz19, sz20, sz21, sz22, sz23, sz24, sz25, sz26, sz27, sz28, sz29, sz30, Bool.false_eq_true, Bool.not_eq_true', decide_eq_false_iff_not, Bool.not_true, Bool.not_false, ite_and2, ite_or2, ite_tand, not_true_eq_false, not_false_eq_true, ↓wp_runB, ixS (i := pre.length) hT2 e2 rfl, i1, i2, i3]
    rw [if_pos hc]
    refine word_end_ok hT2 e hw hr ?_
    have sl := fun h => slS (h := h) (lo := pre.length) (hi := (pre.length + w.length : Nat)) hT2 e rfl w.length (by omega)
    rw [List.take_left] at sl
    simp only [↓wp_seq, ↓wp_skip, ↓wp_drop, ↓wp_ret, ↓wp_retN, ↓wp_brk, ↓wp_cnt, ↓wp_if, ↓wp_asg, ↓wp_to, ↓wp_tos, ↓wp_toIx, ↓wp_aug, ↓wp_augK, ↓wp_fldSet, ↓wp_fldAug, ↓wp_var, ↓wp_c, ↓wp_op, ↓wp_un, ↓wp_nil, ↓wp_cons, ↓wp_tup, ↓wp_lst, ↓wp_dict0, ↓wp_dict, ↓wp_pairs0, ↓wp_pairs, ↓wp_call, ↓wp_callF, ↓wp_tru, ↓wp_bl, ↓wp_and, ↓wp_or, ↓wp_not, ↓wp_andV, ↓wp_orV, ↓wp_notV, ↓wp_part, ↓wp_noPart, ↓wp_sl, ↓wp_bm, ↓wp_ifE, ↓wp_fld, ↓wp_meth, ↓wp_make, ↓wp_lockE, ↓wp_rng1, ↓wp_rng2, ↓wp_seqI, ↓wpR_ok, ↓wpS_nx, ↓wpS_rt, List.getElem?_cons_zero, List.getElem?_cons_succ, List.set_cons_zero, List.set_cons_succ, List.length_cons, List.length_nil, ↓reduceIte, decide_eq_true_eq, ev_add, ev_iadd, ev_sub, ev_mod, ev_neg, ev_lt, ev_le, ev_gt, ev_ge, ev_eqI, ev_neI, ev_eqS, ev_neS, ev_isN, ev_int, ev_abs, ev_max, ev_min, ev_lenT, ev_lenC, ev_tupT, Int.reduceLT, Int.reduceLE, Int.reduceNeg, Int.reduceAdd, Int.reduceSub, Int.reduceEq, Nat.reduceAdd, Nat.reduceSub, and_self, ↓List.map_cons, ↓List.map_nil, ↓List.cons_append, ↓List.nil_append, List.replicate, ixT0, ixT1, ixT2, ixT3, ixTm1, ixTm2, ixTm3, onH_get, onH_set, onH_push, onH_len, mkB_get, mkB_set, mkB_push, mkB_len, mkB_next, Option.getD_some, Option.getD_none, sz0, sz1, sz2, sz3, sz4, sz5, sz6, sz7, sz8, sz9, ev_keyI, ev_keyS, ev_eqB, ev_neB, wp_one, wp_yes, wp_valsI, wp_keysI, wp_lcE, sz10, sz11, sz12, sz13, sz14, sz15, sz16, sz17, sz18, sz19, sz20, sz21, sz22, sz23, sz24, sz25, sz26, sz27, sz28, sz29, sz30, Bool.false_eq_true, Bool.not_eq_true', decide_eq_false_iff_not, Bool.not_true, Bool.not_false, ite_and2, ite_or2, ite_tand, not_true_eq_false, not_false_eq_true, sl]
    refine word_kind_ok q (Nat.le_trans (show w.length ≤ 100000 by omega) (by decide)) ?_
    exact k
  | long ew hl =>
    rename_i a b
    subst ew
    have e2 : cd T = pre ++ a :: (b :: r) := e
    obtain ⟨h1, _⟩ := long_head hl
    unfold isA at h1
    simp only [Bool.or_eq_false_iff, decide_eq_false_iff_not] at h1
    obtain ⟨x1, x2, x3⟩ := h1
    have sl := fun h => slS (h := h) (lo := pre.length) (hi := pre.length + 2) hT2 e2 rfl 2 rfl
    have et : (a :: b :: r).take 2 = [a, b] := rfl
    rw [et] at sl
    simp only [↓wp_seq, ↓wp_skip, ↓wp_drop, ↓wp_ret, ↓wp_retN, ↓wp_brk, ↓wp_cnt, ↓wp_if, ↓wp_asg, ↓wp_to, ↓wp_tos, ↓wp_toIx, ↓wp_aug, ↓wp_augK, ↓wp_fldSet, ↓wp_fldAug, ↓wp_var, ↓wp_c, ↓wp_op, ↓wp_un, ↓wp_nil, ↓wp_cons, ↓wp_tup, ↓wp_lst, ↓wp_dict0, ↓wp_dict, ↓wp_pairs0, ↓wp_pairs, ↓wp_call, ↓wp_callF, ↓wp_tru, ↓wp_bl, ↓wp_and, ↓wp_or, ↓wp_not, ↓wp_andV, ↓wp_orV, ↓wp_notV, ↓wp_part, ↓wp_noPart, ↓wp_sl, ↓wp_bm, ↓wp_ifE, ↓wp_fld, ↓wp_meth, ↓wp_make, ↓wp_lockE, ↓wp_rng1, ↓wp_rng2, ↓wp_seqI, ↓wpR_ok, ↓wpS_nx, ↓wpS_rt, List.getElem?_cons_zero, List.getElem?_cons_succ, List.set_cons_zero, List.set_cons_succ, List.length_cons, List.length_nil, ↓reduceIte, decide_eq_true_eq, ev_add, ev_iadd, ev_sub, ev_mod, ev_neg, ev_lt, ev_le, ev_gt, ev_ge, ev_eqI, ev_neI, ev_eqS, ev_neS, ev_isN, ev_int, ev_abs, ev_max, ev_min, ev_lenT, ev_lenC, ev_tupT, Int.reduceLT, Int.reduceLE, Int.reduceNeg, Int.reduceAdd, Int.reduceSub, Int.reduceEq, Nat.reduceAdd, Nat.reduceSub, and_self, ↓List.map_cons, ↓List.map_nil, ↓List.cons_append, ↓List.nil_append, List.replicate, ixT0, ixT1, ixT2, ixT3, ixTm1, ixTm2, ixTm3, onH_get, onH_set, onH_push, onH_len, mkB_get, mkB_set, mkB_push, mkB_len, mkB_next, Option.getD_some, Option.getD_none, sz0, sz1, sz2, sz3, sz4, sz5, sz6, sz7, sz8, sz9, ev_keyI, ev_keyS, ev_eqB, ev_neB, wp_one, wp_yes, wp_valsI, wp_keysI, wp_lcE, sz10, sz11, sz12, sz13, sz14, sz15, sz16, sz17, sz18, sz19, sz20, sz21, sz22, sz23, sz24, sz25, sz26, sz27, sz28, sz29, sz30, Bool.false_eq_true, Bool.not_eq_true', decide_eq_false_iff_not, Bool.not_true, Bool.not_false, ite_and2, ite_or2, ite_tand, not_true_eq_false, not_false_eq_true, ↓wp_runB, ixS (i := pre.length) hT2 e2 rfl, i1, i2, i3]
    rw [if_neg (by rintro (z | z | z) <;> contradiction), sl]
    simp only [↓wp_seq, ↓wp_skip, ↓wp_drop, ↓wp_ret, ↓wp_retN, ↓wp_brk, ↓wp_cnt, ↓wp_if, ↓wp_asg, ↓wp_to, ↓wp_tos, ↓wp_toIx, ↓wp_aug, ↓wp_augK, ↓wp_fldSet, ↓wp_fldAug, ↓wp_var, ↓wp_c, ↓wp_op, ↓wp_un, ↓wp_nil, ↓wp_cons, ↓wp_tup, ↓wp_lst, ↓wp_dict0, ↓wp_dict, ↓wp_pairs0, ↓wp_pairs, ↓wp_call, ↓wp_callF, ↓wp_tru, ↓wp_bl, ↓wp_and, ↓wp_or, ↓wp_not, ↓wp_andV, ↓wp_orV, ↓wp_notV, ↓wp_part, ↓wp_noPart, ↓wp_sl, ↓wp_bm, ↓wp_ifE, ↓wp_fld, ↓wp_meth, ↓wp_make, ↓wp_lockE, ↓wp_rng1, ↓wp_rng2, ↓wp_seqI, ↓wpR_ok, ↓wpS_nx, ↓wpS_rt, List.getElem?_cons_zero, List.getElem?_cons_succ, List.set_cons_zero, List.set_cons_succ, List.length_cons, List.length_nil, ↓reduceIte, decide_eq_true_eq, ev_add, ev_iadd, ev_sub, ev_mod, ev_neg, ev_lt, ev_le, ev_gt, ev_ge, ev_eqI, ev_neI, ev_eqS, ev_neS, ev_isN, ev_int, ev_abs, ev_max, ev_min, ev_lenT, ev_lenC, ev_tupT, Int.reduceLT, Int.reduceLE, Int.reduceNeg, Int.reduceAdd, Int.reduceSub, Int.reduceEq, Nat.reduceAdd, Nat.reduceSub, and_self, ↓List.map_cons, ↓List.map_nil, ↓List.cons_append, ↓List.nil_append, List.replicate, ixT0, ixT1, ixT2, ixT3, ixTm1, ixTm2, ixTm3, onH_get, onH_set, onH_push, onH_len, mkB_get, mkB_set, mkB_push, mkB_len, mkB_next, Option.getD_some, Option.getD_none, sz0, sz1, sz2, sz3, sz4, sz5, sz6, sz7, sz8, sz9, ev_keyI, ev_keyS, ev_eqB, ev_neB, wp_one, wp_yes, wp_valsI, wp_keysI, wp_lcE, sz10, sz11, sz12, sz13, sz14, sz15, sz16, sz17, sz18, sz19, sz20, sz21, sz22, sz23, sz24, sz25, sz26, sz27, sz28, sz29, sz30, Bool.false_eq_true, Bool.not_eq_true', decide_eq_false_iff_not, Bool.not_true, Bool.not_false, ite_and2, ite_or2, ite_tand, not_true_eq_false, not_false_eq_true, inLS, sl]
    rw [if_pos hl]
    exact k
  | short ew hc hn =>
    rename_i c
    subst ew
    have e2 : cd T = pre ++ c :: r := e
    obtain ⟨h1, _⟩ := ss_head c hc
    unfold isA at h1
    simp only [Bool.or_eq_false_iff, decide_eq_false_iff_not] at h1
    obtain ⟨x1, x2, x3⟩ := h1
    have sl := fun h => slS (h := h) (lo := pre.length) (hi := pre.length + 2) hT2 e2 rfl 2 rfl
    have hno : ofL ((c :: r).take 2) ∉ LSs := by
      cases r with
      | nil => intro z; exact absurd (ls_two z) (by show ¬(1 = 2); decide)
      | cons d t => exact (hn d t rfl).1
    simp only [↓wp_seq, ↓wp_skip, ↓wp_drop, ↓wp_ret, ↓wp_retN, ↓wp_brk, ↓wp_cnt, ↓wp_if, ↓wp_asg, ↓wp_to, ↓wp_tos, ↓wp_toIx, ↓wp_aug, ↓wp_augK, ↓wp_fldSet, ↓wp_fldAug, ↓wp_var, ↓wp_c, ↓wp_op, ↓wp_un, ↓wp_nil, ↓wp_cons, ↓wp_tup, ↓wp_lst, ↓wp_dict0, ↓wp_dict, ↓wp_pairs0, ↓wp_pairs, ↓wp_call, ↓wp_callF, ↓wp_tru, ↓wp_bl, ↓wp_and, ↓wp_or, ↓wp_not, ↓wp_andV, ↓wp_orV, ↓wp_notV, ↓wp_part, ↓wp_noPart, ↓wp_sl, ↓wp_bm, ↓wp_ifE, ↓wp_fld, ↓wp_meth, ↓wp_make, ↓wp_lockE, ↓wp_rng1, ↓wp_rng2, ↓wp_seqI, ↓wpR_ok, ↓wpS_nx, ↓wpS_rt, List.getElem?_cons_zero, List.getElem?_cons_succ, List.set_cons_zero, List.set_cons_succ, List.length_cons, List.length_nil, ↓reduceIte, decide_eq_true_eq, ev_add, ev_iadd, ev_sub, ev_mod, ev_neg, ev_lt, ev_le, ev_gt, ev_ge, ev_eqI, ev_neI, ev_eqS, ev_neS, ev_isN, ev_int, ev_abs, ev_max, ev_min, ev_lenT, ev_lenC, ev_tupT, Int.reduceLT, Int.reduceLE, Int.reduceNeg, Int.reduceAdd, Int.reduceSub, Int.reduceEq, Nat.reduceAdd, Nat.reduceSub, and_self, ↓List.map_cons, ↓List.map_nil, ↓List.cons_append, ↓List.nil_append, List.replicate, ixT0, ixT1, ixT2, ixT3, ixTm1, ixTm2, ixTm3, onH_get, onH_set, onH_push, onH_len, mkB_get, mkB_set, mkB_push, mkB_len, mkB_next, Option.getD_some, Option.getD_none, sz0, sz1, sz2, sz3, sz4, sz5, sz6, sz7, sz8, sz9, ev_keyI, ev_keyS, ev_eqB, ev_neB, wp_one, wp_yes, wp_valsI, wp_keysI, wp_lcE, sz10, sz11, sz12, sz13, sz14, sz15, sz16, sz17, sz18, sz19, sz20, sz21, sz22, sz23, sz24, sz25, sz26, sz27, sz28, sz29, sz30, Bool.false_eq_true, Bool.not_eq_true', decide_eq_false_iff_not, Bool.not_true, Bool.not_false, ite_and2, ite_or2, ite_tand, not_true_eq_false, not_false_eq_true, ↓wp_runB, ixS (i := pre.length) hT2 e2 rfl, i1, i2, i3]
    rw [if_neg (by rintro (z | z | z) <;> contradiction), sl]
    simp only [↓wp_seq, ↓wp_skip, ↓wp_drop, ↓wp_ret, ↓wp_retN, ↓wp_brk, ↓wp_cnt, ↓wp_if, ↓wp_asg, ↓wp_to, ↓wp_tos, ↓wp_toIx, ↓wp_aug, ↓wp_augK, ↓wp_fldSet, ↓wp_fldAug, ↓wp_var, ↓wp_c, ↓wp_op, ↓wp_un, ↓wp_nil, ↓wp_cons, ↓wp_tup, ↓wp_lst, ↓wp_dict0, ↓wp_dict, ↓wp_pairs0, ↓wp_pairs, ↓wp_call, ↓wp_callF, ↓wp_tru, ↓wp_bl, ↓wp_and, ↓wp_or, ↓wp_not, ↓wp_andV, ↓wp_orV, ↓wp_notV, ↓wp_part, ↓wp_noPart, ↓wp_sl, ↓wp_bm, ↓wp_ifE, ↓wp_fld, ↓wp_meth, ↓wp_make, ↓wp_lockE, ↓wp_rng1, ↓wp_rng2, ↓wp_seqI, ↓wpR_ok, ↓wpS_nx, ↓wpS_rt, List.getElem?_cons_zero, List.getElem?_cons_succ, List.set_cons_zero, List.set_cons_succ, List.length_cons, List.length_nil, ↓reduceIte, decide_eq_true_eq, ev_add, ev_iadd, ev_sub, ev_mod, ev_neg, ev_lt, ev_le, ev_gt, ev_ge, ev_eqI, ev_neI, ev_eqS, ev_neS, ev_isN, ev_int, ev_abs, ev_max, ev_min, ev_lenT, ev_lenC, ev_tupT, Int.reduceLT, Int.reduceLE, Int.reduceNeg, Int.reduceAdd, Int.reduceSub, Int.reduceEq, Nat.reduceAdd, Nat.reduceSub, and_self, ↓List.map_cons, ↓List.map_nil, ↓List.cons_append, ↓List.nil_append, List.replicate, ixT0, ixT1, ixT2, ixT3, ixTm1, ixTm2, ixTm3, onH_get, onH_set, onH_push, onH_len, mkB_get, mkB_set, mkB_push, mkB_len, mkB_next, Option.getD_some, Option.getD_none, sz0, sz1, sz2, sz3, sz4, sz5, sz6, sz7, sz8, sz9, ev_keyI, ev_keyS, ev_eqB, ev_neB, wp_one, wp_yes, wp_valsI, wp_keysI, wp_lcE, sz10, sz11, sz12, sz13, sz14, sz15, sz16, sz17, sz18, sz19, sz20, sz21, sz22, sz23, sz24, sz25, sz26, sz27, sz28, sz29, sz30, Bool.false_eq_true, Bool.not_eq_true', decide_eq_false_iff_not, Bool.not_true, Bool.not_false, ite_and2, ite_or2, ite_tand, not_true_eq_false, not_false_eq_true, inLS]
    rw [if_neg hno]
    simp only [↓wp_seq, ↓wp_skip, ↓wp_drop, ↓wp_ret, ↓wp_retN, ↓wp_brk, ↓wp_cnt, ↓wp_if, ↓wp_asg, ↓wp_to, ↓wp_tos, ↓wp_toIx, ↓wp_aug, ↓wp_augK, ↓wp_fldSet, ↓wp_fldAug, ↓wp_var, ↓wp_c, ↓wp_op, ↓wp_un, ↓wp_nil, ↓wp_cons, ↓wp_tup, ↓wp_lst, ↓wp_dict0, ↓wp_dict, ↓wp_pairs0, ↓wp_pairs, ↓wp_call, ↓wp_callF, ↓wp_tru, ↓wp_bl, ↓wp_and, ↓wp_or, ↓wp_not, ↓wp_andV, ↓wp_orV, ↓wp_notV, ↓wp_part, ↓wp_noPart, ↓wp_sl, ↓wp_bm, ↓wp_ifE, ↓wp_fld, ↓wp_meth, ↓wp_make, ↓wp_lockE, ↓wp_rng1, ↓wp_rng2, ↓wp_seqI, ↓wpR_ok, ↓wpS_nx, ↓wpS_rt, List.getElem?_cons_zero, List.getElem?_cons_succ, List.set_cons_zero, List.set_cons_succ, List.length_cons, List.length_nil, ↓reduceIte, decide_eq_true_eq, ev_add, ev_iadd, ev_sub, ev_mod, ev_neg, ev_lt, ev_le, ev_gt, ev_ge, ev_eqI, ev_neI, ev_eqS, ev_neS, ev_isN, ev_int, ev_abs, ev_max, ev_min, ev_lenT, ev_lenC, ev_tupT, Int.reduceLT, Int.reduceLE, Int.reduceNeg, Int.reduceAdd, Int.reduceSub, Int.reduceEq, Nat.reduceAdd, Nat.reduceSub, and_self, ↓List.map_cons, ↓List.map_nil, ↓List.cons_append, ↓List.nil_append, List.replicate, ixT0, ixT1, ixT2, ixT3, ixTm1, ixTm2, ixTm3, onH_get, onH_set, onH_push, onH_len, mkB_get, mkB_set, mkB_push, mkB_len, mkB_next, Option.getD_some, Option.getD_none, sz0, sz1, sz2, sz3, sz4, sz5, sz6, sz7, sz8, sz9, ev_keyI, ev_keyS, ev_eqB, ev_neB, wp_one, wp_yes, wp_valsI, wp_keysI, wp_lcE, sz10, sz11, sz12, sz13, sz14, sz15, sz16, sz17, sz18, sz19, sz20, sz21, sz22, sz23, sz24, sz25, sz26, sz27, sz28, sz29, sz30, Bool.false_eq_true, Bool.not_eq_true', decide_eq_false_iff_not, Bool.not_true, Bool.not_false, ite_and2, ite_or2, ite_tand, not_true_eq_false, not_false_eq_true, i4, hc, decide_true]
    exact k
theorem comment_end_ok {b : List Nat} (hT : T.length ≤ 100000) (e : cd T = pre ++ (b ++ r)) (hb : 10 ∉ b) (hr : r = [] ∨ ∃ t, r = 10 :: t) (k : P (.int (pre.length + b.length : Nat)) h) : wpR (ft_comment_end [.str T, .int pre.length] h) P X := by
  have hT2 : T.length ≤ sizeLine := Nat.le_trans hT (by decide)
  have hl : T.length = pre.length + (b.length + r.length) := by rw [← cd_len, e, List.length_append, List.length_append]
  unfold ft_comment_end mt_comment_end
  have nl : (("\n" : Str)) = ⟨#[10]⟩ := by decide +kernel
  have ty : ∀ h, tyMD "str" h (.str T) = true := fun h => rfl
  simp only [↓wp_seq, ↓wp_skip, ↓wp_drop, ↓wp_ret, ↓wp_retN, ↓wp_brk, ↓wp_cnt, ↓wp_if, ↓wp_asg, ↓wp_to, ↓wp_tos, ↓wp_toIx, ↓wp_aug, ↓wp_augK, ↓wp_fldSet, ↓wp_fldAug, ↓wp_var, ↓wp_c, ↓wp_op, ↓wp_un, ↓wp_nil, ↓wp_cons, ↓wp_tup, ↓wp_lst, ↓wp_dict0, ↓wp_dict, ↓wp_pairs0, ↓wp_pairs, ↓wp_call, ↓wp_callF, ↓wp_tru, ↓wp_bl, ↓wp_and, ↓wp_or, ↓wp_not, ↓wp_andV, ↓wp_orV, ↓wp_notV, ↓wp_part, ↓wp_noPart, ↓wp_sl, ↓wp_bm, ↓wp_ifE, ↓wp_fld, ↓wp_meth, ↓wp_make, ↓wp_lockE, ↓wp_rng1, ↓wp_rng2, ↓wp_seqI, ↓wpR_ok, ↓wpS_nx, ↓wpS_rt, List.getElem?_cons_zero, List.getElem?_cons_succ, List.set_cons_zero, List.set_cons_succ, List.length_cons, List.length_nil, ↓reduceIte, decide_eq_true_eq, ev_add, ev_iadd, ev_sub, ev_mod, ev_neg, ev_lt, ev_le, ev_gt, ev_ge, ev_eqI, ev_neI, ev_eqS, ev_neS, ev_isN, ev_int, ev_abs, ev_max, ev_min, ev_lenT, ev_lenC, ev_tupT, Int.reduceLT, Int.reduceLE, Int.reduceNeg, Int.reduceAdd, Int.reduceSub, Int.reduceEq, Nat.reduceAdd, Nat.reduceSub, and_self, ↓List.map_cons, ↓List.map_nil, ↓List.cons_append, ↓List.nil_append, List.replicate, ixT0, ixT1, ixT2, ixT3, ixTm1, ixTm2, ixTm3, onH_get, onH_set, onH_push, onH_len, mkB_get, mkB_set, mkB_push, mkB_len, mkB_next, Option.getD_some, Option.getD_none, sz0, sz1, sz2, sz3, sz4, sz5, sz6, sz7, sz8, sz9, ev_keyI, ev_keyS, ev_eqB, ev_neB, wp_one, wp_yes, wp_valsI, wp_keysI, wp_lcE, sz10, sz11, sz12, sz13, sz14, sz15, sz16, sz17, sz18, sz19, sz20, sz21, sz22, sz23, sz24, sz25, sz26, sz27, sz28, sz29, sz30, Bool.false_eq_true, Bool.not_eq_true', decide_eq_false_iff_not, Bool.not_true, Bool.not_false, ite_and2, ite_or2, ite_tand, not_true_eq_false, not_false_eq_true, ↓wp_runB, ty, dS2I, two2]
  rcases hr with rfl | ⟨t, rfl⟩
  · rw [nl, find3_none e (by simpa using hb)]
    simp only [↓wp_seq, ↓wp_skip, ↓wp_drop, ↓wp_ret, ↓wp_retN, ↓wp_brk, ↓wp_cnt, ↓wp_if, ↓wp_asg, ↓wp_to, ↓wp_tos, ↓wp_toIx, ↓wp_aug, ↓wp_augK, ↓wp_fldSet, ↓wp_fldAug, ↓wp_var, ↓wp_c, ↓wp_op, ↓wp_un, ↓wp_nil, ↓wp_cons, ↓wp_tup, ↓wp_lst, ↓wp_dict0, ↓wp_dict, ↓wp_pairs0, ↓wp_pairs, ↓wp_call, ↓wp_callF, ↓wp_tru, ↓wp_bl, ↓wp_and, ↓wp_or, ↓wp_not, ↓wp_andV, ↓wp_orV, ↓wp_notV, ↓wp_part, ↓wp_noPart, ↓wp_sl, ↓wp_bm, ↓wp_ifE, ↓wp_fld, ↓wp_meth, ↓wp_make, ↓wp_lockE, ↓wp_rng1, ↓wp_rng2, ↓wp_seqI, ↓wpR_ok, ↓wpS_nx, ↓wpS_rt, List.getElem?_cons_zero, List.getElem?_cons_succ, List.set_cons_zero, List.set_cons_succ, List.length_cons, List.length_nil, ↓reduceIte, decide_eq_true_eq, ev_add, ev_iadd, ev_sub, ev_mod, ev_neg, ev_lt, ev_le, ev_gt, ev_ge, ev_eqI, ev_neI, ev_eqS, ev_neS, ev_isN, ev_int, ev_abs, ev_max, ev_min, ev_lenT, ev_lenC, ev_tupT, Int.reduceLT, Int.reduceLE, Int.reduceNeg, Int.reduceAdd, Int.reduceSub, Int.reduceEq, Nat.reduceAdd, Nat.reduceSub, and_self, ↓List.map_cons, ↓List.map_nil, ↓List.cons_append, ↓List.nil_append, List.replicate, ixT0, ixT1, ixT2, ixT3, ixTm1, ixTm2, ixTm3, onH_get, onH_set, onH_push, onH_len, mkB_get, mkB_set, mkB_push, mkB_len, mkB_next, Option.getD_some, Option.getD_none, sz0, sz1, sz2, sz3, sz4, sz5, sz6, sz7, sz8, sz9, ev_keyI, ev_keyS, ev_eqB, ev_neB, wp_one, wp_yes, wp_valsI, wp_keysI, wp_lcE, sz10, sz11, sz12, sz13, sz14, sz15, sz16, sz17, sz18, sz19, sz20, sz21, sz22, sz23, sz24, sz25, sz26, sz27, sz28, sz29, sz30, Bool.false_eq_true, Bool.not_eq_true', decide_eq_false_iff_not, Bool.not_true, Bool.not_false, ite_and2, ite_or2, ite_tand, not_true_eq_false, not_false_eq_true, lenS hT2]
    have e9 : T.length = pre.length + b.length := by simpa using hl
    rw [e9]
    exact k
  · rw [nl, find3_some e hb]
    rw [if_neg (by omega)]
    exact k
end
structure TkP where
  kd : Str
  w : List Nat
  row : Int
  col : Int
def tpD (t : TkP) : D := .tup [.str t.kd, .str (ofL t.w), .int t.row, .int t.col]
/-- what is left reads as these tokens -/
inductive Lex : List Nat → Int → Int → List TkP → Prop where
  | nil {row col : Int} : Lex [] row col []
  | nl {r : List Nat} {row col : Int} {ts : List TkP} : Lex r (row + 1) 1 ts → Lex (10 :: r) row col ts
  | sp {r : List Nat} {row col : Int} {ts : List TkP} : Lex r row (col + 1) ts → Lex (32 :: r) row col ts
  | cm {b r : List Nat} {row col : Int} {ts : List TkP} : 10 ∉ b → (r = [] ∨ ∃ t, r = 10 :: t) → Lex r row (col + (2 + b.length : Nat)) ts → Lex (45 :: 45 :: (b ++ r)) row col ts
  | tok {w r : List Nat} {kd : Str} {row col : Int} {ts : List TkP} : IsTok kd w r → 10 ∉ w → Lex r row (col + w.length) ts → Lex (w ++ r) row col (⟨kd, w, row, col⟩ :: ts)
theorem adv_no : ∀ (w : List Nat) (row col : Int), 10 ∉ w → adv (row, col) w = (row, col + w.length)
  | [], row, col, _ => by simp [adv]
  | c :: w, row, col, h => by
    have hc : c ≠ 10 := fun z => h (by rw [z]; exact List.mem_cons_self)
    have ih := adv_no w row (col + 1) fun z => h (List.mem_cons_of_mem _ z)
    show adv (if c = 10 then _ else _) w = _
    rw [if_neg hc, ih, List.length_cons]
    congr 1
    omega
/-- the number of tokens -/
theorem Lex.few : ∀ {r : List Nat} {row col : Int} {ts : List TkP}, Lex r row col ts → ts.length ≤ r.length
  | _, _, _, _, .nil => Nat.le_refl _
  | _, _, _, _, .nl q => Nat.le_succ_of_le q.few
  | _, _, _, _, .sp q => Nat.le_succ_of_le q.few
  | _, _, _, _, .cm _ _ q => by
    have := q.few
    simp only [List.length_cons, List.length_append]
    omega
  | _, _, _, _, .tok q _ p => by
    have := p.few
    have := List.length_pos_iff.mpr q.ne
    simp only [List.length_cons, List.length_append]
    omega
section
variable {h : HS} {T : Str} {P : D → HS → Prop} {X : XP} {fb fn : FS}
def endD (p : Int × Int) : D := .tup [.str "end", .str "", .int p.1, .int p.2]
theorem get_lastT {h : HS} {o : MO} : (h ++ [o])[h.length]? = some o := by simp
theorem set_last {h : HS} {o o' : MO} : (h ++ [o]).set h.length o' = h ++ [o'] := by simp
theorem IsTok.head {kd : Str} {w r : List Nat} (q : IsTok kd w r) : ∃ c t, w ++ r = c :: t ∧ c ≠ 10 ∧ c ≠ 32 ∧ (w ++ r).take 2 ≠ [45, 45] := by
  cases q with
  | word q ha hw hr =>
    obtain ⟨c, t, rfl, hc⟩ := ha
    obtain ⟨h1, h2, h3⟩ := isA_head hc
    refine ⟨c, t ++ r, rfl, h1, h2, fun z => ?_⟩
    rw [List.cons_append, List.take_succ_cons] at z
    exact h3 (List.cons.inj z).1
  | long e hl =>
    rename_i a b
    subst e
    obtain ⟨_, h1, h2, h3⟩ := long_head hl
    refine ⟨a, b :: r, rfl, h1, h2, fun z => ?_⟩
    have z2 : [a, b] = [45, 45] := z
    obtain ⟨z3, z4⟩ := List.cons.inj z2
    exact h3 ⟨z3, (List.cons.inj z4).1⟩
  | short e hc hn =>
    rename_i c
    subst e
    obtain ⟨_, h1, h2⟩ := ss_head c hc
    refine ⟨c, r, rfl, h1, h2, fun z => ?_⟩
    cases r with
    | nil => cases z
    | cons d t =>
      have z2 : [c, d] = [45, 45] := z
      obtain ⟨z3, z4⟩ := List.cons.inj z2
      exact (hn d t rfl).2 ⟨z3, (List.cons.inj z4).1⟩
/-- a turn of the loop -/
theorem tokens_b1_ok {pre r : List Nat} {row col : Int} {ts : List TkP} {fd : List D} {a5 : Option D} {N : Sl → HS → Prop} {Tt : Tl} (hT : T.length ≤ 100000) (e : cd T = pre ++ r) (lx : Lex r row col ts) (hne : r ≠ []) (hf : fd.length ≤ 100000)
    (k : ∀ (pre2 r2 : List Nat) (row2 col2 : Int) (ts1 ts2 : List TkP) (a5 : Option D), cd T = pre2 ++ r2 → Lex r2 row2 col2 ts2 → ts = ts1 ++ ts2 → pre.length < pre2.length → ts1.length + pre.length ≤ pre2.length → adv (row2, col2) r2 = adv (row, col) r →
      N [some (.str T), some (.ref h.length), some (.int pre2.length), some (.int row2), some (.int (pre2.length + 1 - col2)), a5] (h ++ [.lst (fd ++ ts1.map tpD)])) :
    wpS (mt_tokens_b1 fb fn [some (.str T), some (.ref h.length), some (.int pre.length), some (.int row), some (.int (pre.length + 1 - col)), a5] (h ++ [.lst fd])) N Tt := by
  have hT2 : T.length ≤ sizeLine := Nat.le_trans hT (by decide)
  unfold mt_tokens_b1
  have nl : (("\n" : Str)) = ofL [10] := by decide +kernel
  have sp : ((" " : Str)) = ofL [32] := by decide +kernel
  have dd : (("--" : Str)) = ofL [45, 45] := by decide +kernel
  have inj : ∀ {a b : List Nat}, ofL a = ofL b ↔ a = b := fun {a b} => ⟨fun z => congrArg cd z, fun z => by rw [z]⟩
  cases lx with
  | nil => exact absurd rfl hne
  | nl q =>
    rename_i r
    simp only [↓wp_seq, ↓wp_skip, ↓wp_drop, ↓wp_ret, ↓wp_retN, ↓wp_brk, ↓wp_cnt, ↓wp_if, ↓wp_asg, ↓wp_to, ↓wp_tos, ↓wp_toIx, ↓wp_aug, ↓wp_augK, ↓wp_fldSet, ↓wp_fldAug, ↓wp_var, ↓wp_c, ↓wp_op, ↓wp_un, ↓wp_nil, ↓wp_cons, ↓wp_tup, ↓wp_lst, ↓wp_dict0, ↓wp_dict, ↓wp_pairs0, ↓wp_pairs, ↓wp_call, ↓wp_callF, ↓wp_tru, ↓wp_bl, ↓wp_and, ↓wp_or, ↓wp_not, ↓wp_andV, ↓wp_orV, ↓wp_notV, ↓wp_part, ↓wp_noPart, ↓wp_sl, ↓wp_bm, ↓wp_ifE, ↓wp_fld, ↓wp_meth, ↓wp_make, ↓wp_lockE, ↓wp_rng1, ↓wp_rng2, ↓wp_seqI, ↓wpR_ok, ↓wpS_nx, ↓wpS_rt, List.getElem?_cons_zero, List.getElem?_cons_succ, List.set_cons_zero, List.set_cons_succ, List.length_cons, List.length_nil, ↓reduceIte, decide_eq_true_eq, ev_add, ev_iadd, ev_sub, ev_mod, ev_neg, ev_lt, ev_le, ev_gt, ev_ge, ev_eqI, ev_neI, ev_eqS, ev_neS, ev_isN, ev_int, ev_abs, ev_max, ev_min, ev_lenT, ev_lenC, ev_tupT, Int.reduceLT, Int.reduceLE, Int.reduceNeg, Int.reduceAdd, Int.reduceSub, Int.reduceEq, Nat.reduceAdd, Nat.reduceSub, and_self, ↓List.map_cons, ↓List.map_nil, ↓List.cons_append, ↓List.nil_append, List.replicate, ixT0, ixT1, ixT2, ixT3, ixTm1, ixTm2, ixTm3, onH_get, onH_set, onH_push, onH_len, mkB_get, mkB_set, mkB_push, mkB_len, mkB_next, Option.getD_some, Option.getD_none, sz0, sz1, sz2, sz3, sz4, sz5, sz6, sz7, sz8, sz9, ev_keyI, ev_keyS, ev_eqB, ev_neB, wp_one, wp_yes, wp_valsI, wp_keysI, wp_lcE, sz10, sz11, sz12, sz13, sz14, sz15, sz16, sz17, sz18, sz19, sz20, sz21, sz22, sz23, sz24, sz25, sz26, sz27, sz28, sz29, sz30, Bool.false_eq_true, Bool.not_eq_true', decide_eq_false_iff_not, Bool.not_true, Bool.not_false, ite_and2, ite_or2, ite_tand, not_true_eq_false, not_false_eq_true, ixS (i := pre.length) hT2 e rfl, nl, inj]
    have := k (pre ++ [10]) r (row + 1) 1 [] ts a5 (by rw [e]; simp) q rfl (by simp) (by simp) rfl
    simp only [List.length_append, List.length_singleton, List.map_nil, List.append_nil] at this
    rw [show ((pre.length : Int) + 1) = ((pre.length + 1 : Nat) : Int) by omega]
    rw [show ((pre.length + 1 : Nat) : Int) + 1 - 1 = ((pre.length + 1 : Nat) : Int) by omega] at this
    exact this
  | sp q =>
    rename_i r
    simp only [↓wp_seq, ↓wp_skip, ↓wp_drop, ↓wp_ret, ↓wp_retN, ↓wp_brk, ↓wp_cnt, ↓wp_if, ↓wp_asg, ↓wp_to, ↓wp_tos, ↓wp_toIx, ↓wp_aug, ↓wp_augK, ↓wp_fldSet, ↓wp_fldAug, ↓wp_var, ↓wp_c, ↓wp_op, ↓wp_un, ↓wp_nil, ↓wp_cons, ↓wp_tup, ↓wp_lst, ↓wp_dict0, ↓wp_dict, ↓wp_pairs0, ↓wp_pairs, ↓wp_call, ↓wp_callF, ↓wp_tru, ↓wp_bl, ↓wp_and, ↓wp_or, ↓wp_not, ↓wp_andV, ↓wp_orV, ↓wp_notV, ↓wp_part, ↓wp_noPart, ↓wp_sl, ↓wp_bm, ↓wp_ifE, ↓wp_fld, ↓wp_meth, ↓wp_make, ↓wp_lockE, ↓wp_rng1, ↓wp_rng2, ↓wp_seqI, ↓wpR_ok, ↓wpS_nx, ↓wpS_rt, List.getElem?_cons_zero, List.getElem?_cons_succ, List.set_cons_zero, List.set_cons_succ, List.length_cons, List.length_nil, ↓reduceIte, decide_eq_true_eq, ev_add, ev_iadd, ev_sub, ev_mod, ev_neg, ev_lt, ev_le, ev_gt, ev_ge, ev_eqI, ev_neI, ev_eqS, ev_neS, ev_isN, ev_int, ev_abs, ev_max, ev_min, ev_lenT, ev_lenC, ev_tupT, Int.reduceLT, Int.reduceLE, Int.reduceNeg, Int.reduceAdd, Int.reduceSub, Int.reduceEq, Nat.reduceAdd, Nat.reduceSub, and_self, ↓List.map_cons, ↓List.map_nil, ↓List.cons_append, ↓List.nil_append, List.replicate, ixT0, ixT1, ixT2, ixT3, ixTm1, ixTm2, ixTm3, onH_get, onH_set, onH_push, onH_len, mkB_get, mkB_set, mkB_push, mkB_len, mkB_next, Option.getD_some, Option.getD_none, sz0, sz1, sz2, sz3, sz4, sz5, sz6, sz7, sz8, sz9, ev_keyI, ev_keyS, ev_eqB, ev_neB, wp_one, wp_yes, wp_valsI, wp_keysI, wp_lcE, sz10, sz11, sz12, sz13, sz14, sz15, sz16, sz17, sz18, sz19, sz20, sz21, sz22, sz23, sz24, sz25, sz26, sz27, sz28, sz29, sz30, Bool.false_eq_true, Bool.not_eq_true', decide_eq_false_iff_not, Bool.not_true, Bool.not_false, ite_and2, ite_or2, ite_tand, not_true_eq_false, not_false_eq_true, ixS (i := pre.length) hT2 e rfl, nl, sp, inj]
    rw [if_neg (by decide)]
    have := k (pre ++ [32]) r row (col + 1) [] ts a5 (by rw [e]; simp) q rfl (by simp) (by simp) rfl
    simp only [List.length_append, List.length_singleton, List.map_nil, List.append_nil] at this
    rw [show ((pre.length : Int) + 1) = ((pre.length + 1 : Nat) : Int) by omega]
    rw [show ((pre.length + 1 : Nat) : Int) + 1 - (col + 1) = ((pre.length + 1 : Nat) : Int) - col by omega] at this
    exact this
  | cm hb hr q =>
    rename_i b r
    have sl := fun h => slS (h := h) (lo := pre.length) (hi := pre.length + 2) hT2 e rfl 2 rfl
    have e3 : cd T = pre ++ ((45 :: 45 :: b) ++ r) := e
    have hb2 : 10 ∉ 45 :: 45 :: b := by simp [hb]
    simp only [↓wp_seq, ↓wp_skip, ↓wp_drop, ↓wp_ret, ↓wp_retN, ↓wp_brk, ↓wp_cnt, ↓wp_if, ↓wp_asg, ↓wp_to, ↓wp_tos, ↓wp_toIx, ↓wp_aug, ↓wp_augK, ↓wp_fldSet, ↓wp_fldAug, ↓wp_var, ↓wp_c, ↓wp_op, ↓wp_un, ↓wp_nil, ↓wp_cons, ↓wp_tup, ↓wp_lst, ↓wp_dict0, ↓wp_dict, ↓wp_pairs0, ↓wp_pairs, ↓wp_call, ↓wp_callF, ↓wp_tru, ↓wp_bl, ↓wp_and, ↓wp_or, ↓wp_not, ↓wp_andV, ↓wp_orV, ↓wp_notV, ↓wp_part, ↓wp_noPart, ↓wp_sl, ↓wp_bm, ↓wp_ifE, ↓wp_fld, ↓wp_meth, ↓wp_make, ↓wp_lockE, ↓wp_rng1, ↓wp_rng2, ↓wp_seqI, ↓wpR_ok, ↓wpS_nx, ↓wpS_rt, List.getElem?_cons_zero, List.getElem?_cons_succ, List.set_cons_zero, List.set_cons_succ, List.length_cons, List.length_nil, ↓reduceIte, decide_eq_true_eq, ev_add, ev_iadd, ev_sub, ev_mod, ev_neg, ev_lt, ev_le, ev_gt, ev_ge, ev_eqI, ev_neI, ev_eqS, ev_neS, ev_isN, ev_int, ev_abs, ev_max, ev_min, ev_lenT, ev_lenC, ev_tupT, Int.reduceLT, Int.reduceLE, Int.reduceNeg, Int.reduceAdd, Int.reduceSub, Int.reduceEq, Nat.reduceAdd, Nat.reduceSub, and_self, ↓List.map_cons, ↓List.map_nil, ↓List.cons_append, ↓List.nil_append, List.replicate, ixT0, ixT1, ixT2, ixT3, ixTm1, ixTm2, ixTm3, onH_get, onH_set, onH_push, onH_len, mkB_get, mkB_set, mkB_push, mkB_len, mkB_next, Option.getD_some, Option.getD_none, sz0, sz1, sz2, sz3, sz4, sz5, sz6, sz7, sz8, sz9, ev_keyI, ev_keyS, ev_eqB, ev_neB, wp_one, wp_yes, wp_valsI, wp_keysI, wp_lcE, sz10, sz11, sz12, sz13, sz14, sz15, sz16, sz17, sz18, sz19, sz20, sz21, sz22, sz23, sz24, sz25, sz26, sz27, sz28, sz29, sz30, Bool.false_eq_true, Bool.not_eq_true', decide_eq_false_iff_not, Bool.not_true, Bool.not_false, ite_and2, ite_or2, ite_tand, not_true_eq_false, not_false_eq_true, ixS (i := pre.length) hT2 e rfl, nl, sp, inj, sl]
    rw [if_neg (by decide), if_neg (by decide)]
    have et : (45 :: 45 :: (b ++ r)).take 2 = [45, 45] := rfl
    rw [et, dd]
    simp only [↓wp_seq, ↓wp_skip, ↓wp_drop, ↓wp_ret, ↓wp_retN, ↓wp_brk, ↓wp_cnt, ↓wp_if, ↓wp_asg, ↓wp_to, ↓wp_tos, ↓wp_toIx, ↓wp_aug, ↓wp_augK, ↓wp_fldSet, ↓wp_fldAug, ↓wp_var, ↓wp_c, ↓wp_op, ↓wp_un, ↓wp_nil, ↓wp_cons, ↓wp_tup, ↓wp_lst, ↓wp_dict0, ↓wp_dict, ↓wp_pairs0, ↓wp_pairs, ↓wp_call, ↓wp_callF, ↓wp_tru, ↓wp_bl, ↓wp_and, ↓wp_or, ↓wp_not, ↓wp_andV, ↓wp_orV, ↓wp_notV, ↓wp_part, ↓wp_noPart, ↓wp_sl, ↓wp_bm, ↓wp_ifE, ↓wp_fld, ↓wp_meth, ↓wp_make, ↓wp_lockE, ↓wp_rng1, ↓wp_rng2, ↓wp_seqI, ↓wpR_ok, ↓wpS_nx, ↓wpS_rt, List.getElem?_cons_zero, List.getElem?_cons_succ, List.set_cons_zero, List.set_cons_succ, List.length_cons, List.length_nil, ↓reduceIte, decide_eq_true_eq, ev_add, ev_iadd, ev_sub, ev_mod, ev_neg, ev_lt, ev_le, ev_gt, ev_ge, ev_eqI, ev_neI, ev_eqS, ev_neS, ev_isN, ev_int, ev_abs, ev_max, ev_min, ev_lenT, ev_lenC, ev_tupT, Int.reduceLT, Int.reduceLE, Int.reduceNeg, Int.reduceAdd, Int.reduceSub, Int.reduceEq, Nat.reduceAdd, Nat.reduceSub, and_self, ↓List.map_cons, ↓List.map_nil, ↓List.cons_append, ↓List.nil_append, List.replicate, ixT0, ixT1, ixT2, ixT3, ixTm1, ixTm2, ixTm3, onH_get, onH_set, onH_push, onH_len, mkB_get, mkB_set, mkB_push, mkB_len, mkB_next, Option.getD_some, Option.getD_none, sz0, sz1, sz2, sz3, sz4, sz5, sz6, sz7, sz8, sz9, ev_keyI, ev_keyS, ev_eqB, ev_neB, wp_one, wp_yes, wp_valsI, wp_keysI, wp_lcE, sz10, sz11, sz12, sz13, sz14, sz15, sz16, sz17, sz18, sz19, sz20, sz21, sz22, sz23, sz24, sz25, sz26, sz27, sz28, sz29, sz30, Bool.false_eq_true, Bool.not_eq_true', decide_eq_false_iff_not, Bool.not_true, Bool.not_false, ite_and2, ite_or2, ite_tand, not_true_eq_false, not_false_eq_true, inj]
    refine comment_end_ok hT e3 hb2 hr ?_
    have := k (pre ++ (45 :: 45 :: b)) r row (col + (2 + b.length : Nat)) [] ts a5 (by rw [e3]; simp) q rfl (by simp) (by simp) (by
      rw [show 45 :: 45 :: (b ++ r) = (45 :: 45 :: b) ++ r from rfl, adv_app, adv_no _ _ _ hb2]
      simp only [List.length_cons]
      rw [show ((b.length + 1 + 1 : Nat) : Int) = ((2 + b.length : Nat) : Int) by omega])
    simp only [List.length_append, List.map_nil, List.append_nil] at this
    rw [show (((pre.length + (45 :: 45 :: b).length : Nat) : Int) + 1 - (col + (2 + b.length : Nat))) = (pre.length : Int) + 1 - col by simp only [List.length_cons]; omega] at this
    exact this
  | tok tk hn q =>
    rename_i w r kd ts
    obtain ⟨c, t, ec, c1, c2, c3⟩ := tk.head
    have e2 : cd T = pre ++ c :: t := by rw [e, ec]
    have sl := fun h => slS (h := h) (lo := pre.length) (hi := pre.length + 2) hT2 e rfl 2 rfl
    simp only [↓wp_seq, ↓wp_skip, ↓wp_drop, ↓wp_ret, ↓wp_retN, ↓wp_brk, ↓wp_cnt, ↓wp_if, ↓wp_asg, ↓wp_to, ↓wp_tos, ↓wp_toIx, ↓wp_aug, ↓wp_augK, ↓wp_fldSet, ↓wp_fldAug, ↓wp_var, ↓wp_c, ↓wp_op, ↓wp_un, ↓wp_nil, ↓wp_cons, ↓wp_tup, ↓wp_lst, ↓wp_dict0, ↓wp_dict, ↓wp_pairs0, ↓wp_pairs, ↓wp_call, ↓wp_callF, ↓wp_tru, ↓wp_bl, ↓wp_and, ↓wp_or, ↓wp_not, ↓wp_andV, ↓wp_orV, ↓wp_notV, ↓wp_part, ↓wp_noPart, ↓wp_sl, ↓wp_bm, ↓wp_ifE, ↓wp_fld, ↓wp_meth, ↓wp_make, ↓wp_lockE, ↓wp_rng1, ↓wp_rng2, ↓wp_seqI, ↓wpR_ok, ↓wpS_nx, ↓wpS_rt, List.getElem?_cons_zero, List.getElem?_cons_succ, List.set_cons_zero, List.set_cons_succ, List.length_cons, List.length_nil, ↓reduceIte, decide_eq_true_eq, ev_add, ev_iadd, ev_sub, ev_mod, ev_neg, ev_lt, ev_le, ev_gt, ev_ge, ev_eqI, ev_neI, ev_eqS, ev_neS, ev_isN, ev_int, ev_abs, ev_max, ev_min, ev_lenT, ev_lenC, ev_tupT, Int.reduceLT, Int.reduceLE, Int.reduceNeg, Int.reduceAdd, Int.reduceSub, Int.reduceEq, Nat.reduceAdd, Nat.reduceSub, and_self, ↓List.map_cons, ↓List.map_nil, ↓List.cons_append, ↓List.nil_append, List.replicate, ixT0, ixT1, ixT2, ixT3, ixTm1, ixTm2, ixTm3, onH_get, onH_set, onH_push, onH_len, mkB_get, mkB_set, mkB_push, mkB_len, mkB_next, Option.getD_some, Option.getD_none, sz0, sz1, sz2, sz3, sz4, sz5, sz6, sz7, sz8, sz9, ev_keyI, ev_keyS, ev_eqB, ev_neB, wp_one, wp_yes, wp_valsI, wp_keysI, wp_lcE, sz10, sz11, sz12, sz13, sz14, sz15, sz16, sz17, sz18, sz19, sz20, sz21, sz22, sz23, sz24, sz25, sz26, sz27, sz28, sz29, sz30, Bool.false_eq_true, Bool.not_eq_true', decide_eq_false_iff_not, Bool.not_true, Bool.not_false, ite_and2, ite_or2, ite_tand, not_true_eq_false, not_false_eq_true, ixS (i := pre.length) hT2 e2 rfl, nl, sp, inj, sl]
    rw [if_neg (by simpa using c1), if_neg (by simpa using c2), dd]
    simp only [↓wp_seq, ↓wp_skip, ↓wp_drop, ↓wp_ret, ↓wp_retN, ↓wp_brk, ↓wp_cnt, ↓wp_if, ↓wp_asg, ↓wp_to, ↓wp_tos, ↓wp_toIx, ↓wp_aug, ↓wp_augK, ↓wp_fldSet, ↓wp_fldAug, ↓wp_var, ↓wp_c, ↓wp_op, ↓wp_un, ↓wp_nil, ↓wp_cons, ↓wp_tup, ↓wp_lst, ↓wp_dict0, ↓wp_dict, ↓wp_pairs0, ↓wp_pairs, ↓wp_call, ↓wp_callF, ↓wp_tru, ↓wp_bl, ↓wp_and, ↓wp_or, ↓wp_not, ↓wp_andV, ↓wp_orV, ↓wp_notV, ↓wp_part, ↓wp_noPart, ↓wp_sl, ↓wp_bm, ↓wp_ifE, ↓wp_fld, ↓wp_meth, ↓wp_make, ↓wp_lockE, ↓wp_rng1, ↓wp_rng2, ↓wp_seqI, ↓wpR_ok, ↓wpS_nx, ↓wpS_rt, List.getElem?_cons_zero, List.getElem?_cons_succ, List.set_cons_zero, List.set_cons_succ, List.length_cons, List.length_nil, ↓reduceIte, decide_eq_true_eq, ev_add, ev_iadd, ev_sub, ev_mod, ev_neg, ev_lt, ev_le, ev_gt, ev_ge, ev_eqI, ev_neI, ev_eqS, ev_neS, ev_isN, ev_int, ev_abs, ev_max, ev_min, ev_lenT, ev_lenC, ev_tupT, Int.reduceLT, Int.reduceLE, Int.reduceNeg, Int.reduceAdd, Int.reduceSub, Int.reduceEq, Nat.reduceAdd, Nat.reduceSub, and_self, ↓List.map_cons, ↓List.map_nil, ↓List.cons_append, ↓List.nil_append, List.replicate, ixT0, ixT1, ixT2, ixT3, ixTm1, ixTm2, ixTm3, onH_get, onH_set, onH_push, onH_len, mkB_get, mkB_set, mkB_push, mkB_len, mkB_next, Option.getD_some, Option.getD_none, sz0, sz1, sz2, sz3, sz4, sz5, sz6, sz7, sz8, sz9, ev_keyI, ev_keyS, ev_eqB, ev_neB, wp_one, wp_yes, wp_valsI, wp_keysI, wp_lcE, sz10, sz11, sz12, sz13, sz14, sz15, sz16, sz17, sz18, sz19, sz20, sz21, sz22, sz23, sz24, sz25, sz26, sz27, sz28, sz29, sz30, Bool.false_eq_true, Bool.not_eq_true', decide_eq_false_iff_not, Bool.not_true, Bool.not_false, ite_and2, ite_or2, ite_tand, not_true_eq_false, not_false_eq_true, inj]
    rw [if_neg c3, show (pre.length : Int) - (pre.length + 1 - col) + 1 = col by omega]
    refine token_at_ok hT e tk ?_
    have hl : T.length = pre.length + (w.length + r.length) := by rw [← cd_len, e, List.length_append, List.length_append]
    have hw : (ofL w).length ≤ sizeLine := Nat.le_trans (show w.length ≤ 100000 by omega) (by decide)
    have lw : ∀ h, dLen [.str (ofL w)] h = .ok (.int w.length) h := fun h => lenS hw
    rw [if_pos ty_lst, ev_app get_lastT (Nat.lt_of_le_of_lt hf (by decide)), wpR_ok]
    simp only [↓wp_seq, ↓wp_skip, ↓wp_drop, ↓wp_ret, ↓wp_retN, ↓wp_brk, ↓wp_cnt, ↓wp_if, ↓wp_asg, ↓wp_to, ↓wp_tos, ↓wp_toIx, ↓wp_aug, ↓wp_augK, ↓wp_fldSet, ↓wp_fldAug, ↓wp_var, ↓wp_c, ↓wp_op, ↓wp_un, ↓wp_nil, ↓wp_cons, ↓wp_tup, ↓wp_lst, ↓wp_dict0, ↓wp_dict, ↓wp_pairs0, ↓wp_pairs, ↓wp_call, ↓wp_callF, ↓wp_tru, ↓wp_bl, ↓wp_and, ↓wp_or, ↓wp_not, ↓wp_andV, ↓wp_orV, ↓wp_notV, ↓wp_part, ↓wp_noPart, ↓wp_sl, ↓wp_bm, ↓wp_ifE, ↓wp_fld, ↓wp_meth, ↓wp_make, ↓wp_lockE, ↓wp_rng1, ↓wp_rng2, ↓wp_seqI, ↓wpR_ok, ↓wpS_nx, ↓wpS_rt, List.getElem?_cons_zero, List.getElem?_cons_succ, List.set_cons_zero, List.set_cons_succ, List.length_cons, List.length_nil, ↓reduceIte, decide_eq_true_eq, ev_add, ev_iadd, ev_sub, ev_mod, ev_neg, ev_lt, ev_le, ev_gt, ev_ge, ev_eqI, ev_neI, ev_eqS, ev_neS, ev_isN, ev_int, ev_abs, ev_max, ev_min, ev_lenT, ev_lenC, ev_tupT, Int.reduceLT, Int.reduceLE, Int.reduceNeg, Int.reduceAdd, Int.reduceSub, Int.reduceEq, Nat.reduceAdd, Nat.reduceSub, and_self, ↓List.map_cons, ↓List.map_nil, ↓List.cons_append, ↓List.nil_append, List.replicate, ixT0, ixT1, ixT2, ixT3, ixTm1, ixTm2, ixTm3, onH_get, onH_set, onH_push, onH_len, mkB_get, mkB_set, mkB_push, mkB_len, mkB_next, Option.getD_some, Option.getD_none, sz0, sz1, sz2, sz3, sz4, sz5, sz6, sz7, sz8, sz9, ev_keyI, ev_keyS, ev_eqB, ev_neB, wp_one, wp_yes, wp_valsI, wp_keysI, wp_lcE, sz10, sz11, sz12, sz13, sz14, sz15, sz16, sz17, sz18, sz19, sz20, sz21, sz22, sz23, sz24, sz25, sz26, sz27, sz28, sz29, sz30, Bool.false_eq_true, Bool.not_eq_true', decide_eq_false_iff_not, Bool.not_true, Bool.not_false, ite_and2, ite_or2, ite_tand, not_true_eq_false, not_false_eq_true, lw]
    have := k (pre ++ w) r row (col + w.length) [⟨kd, w, row, col⟩] ts (some (tpD ⟨kd, w, row, col⟩)) (by rw [e]; simp) q rfl (by simp; exact List.length_pos_iff.mpr tk.ne) (by
      have := List.length_pos_iff.mpr tk.ne
      simp; omega) (by rw [adv_app, adv_no _ _ _ hn])
    simp only [List.length_append] at this
    rw [show (((pre.length + w.length : Nat) : Int) + 1 - (col + w.length)) = (pre.length : Int) + 1 - col by omega] at this
    rw [show ((pre.length : Int) + (w.length : Int)) = ((pre.length + w.length : Nat) : Int) by omega, show (h ++ [MO.lst fd]).set h.length (.lst (fd ++ [.tup [.str kd, .str (ofL w), .int row, .int col]])) = h ++ [MO.lst (fd ++ [TkP.mk kd w row col].map tpD)] by simp [tpD]]
    exact this
theorem tokens_ok {ts : List TkP} (hT : T.length ≤ 100000) (lx : Lex (cd T) 1 1 ts) (k : P (.ref h.length) (h ++ [.lst (ts.map tpD ++ [endD (adv (1, 1) (cd T))])])) : wpR (ft_tokens fb fn [.str T] h) P X := by
  have hT2 : T.length ≤ sizeLine := Nat.le_trans hT (by decide)
  have hfew := lx.few
  rw [cd_len] at hfew
  unfold ft_tokens mt_tokens
  simp only [↓wp_seq, ↓wp_skip, ↓wp_drop, ↓wp_ret, ↓wp_retN, ↓wp_brk, ↓wp_cnt, ↓wp_if, ↓wp_asg, ↓wp_to, ↓wp_tos, ↓wp_toIx, ↓wp_aug, ↓wp_augK, ↓wp_fldSet, ↓wp_fldAug, ↓wp_var, ↓wp_c, ↓wp_op, ↓wp_un, ↓wp_nil, ↓wp_cons, ↓wp_tup, ↓wp_lst, ↓wp_dict0, ↓wp_dict, ↓wp_pairs0, ↓wp_pairs, ↓wp_call, ↓wp_callF, ↓wp_tru, ↓wp_bl, ↓wp_and, ↓wp_or, ↓wp_not, ↓wp_andV, ↓wp_orV, ↓wp_notV, ↓wp_part, ↓wp_noPart, ↓wp_sl, ↓wp_bm, ↓wp_ifE, ↓wp_fld, ↓wp_meth, ↓wp_make, ↓wp_lockE, ↓wp_rng1, ↓wp_rng2, ↓wp_seqI, ↓wpR_ok, ↓wpS_nx, ↓wpS_rt, List.getElem?_cons_zero, List.getElem?_cons_succ, List.set_cons_zero, List.set_cons_succ, List.length_cons, List.length_nil, ↓reduceIte, decide_eq_true_eq, ev_add, ev_iadd, ev_sub, ev_mod, ev_neg, ev_lt, ev_le, ev_gt, ev_ge, ev_eqI, ev_neI, ev_eqS, ev_neS, ev_isN, ev_int, ev_abs, ev_max, ev_min, ev_lenT, ev_lenC, ev_tupT, Int.reduceLT, Int.reduceLE, Int.reduceNeg, Int.reduceAdd, Int.reduceSub, Int.reduceEq, Nat.reduceAdd, Nat.reduceSub, and_self, ↓List.map_cons, ↓List.map_nil, ↓List.cons_append, ↓List.nil_append, List.replicate, ixT0, ixT1, ixT2, ixT3, ixTm1, ixTm2, ixTm3, onH_get, onH_set, onH_push, onH_len, mkB_get, mkB_set, mkB_push, mkB_len, mkB_next, Option.getD_some, Option.getD_none, sz0, sz1, sz2, sz3, sz4, sz5, sz6, sz7, sz8, sz9, ev_keyI, ev_keyS, ev_eqB, ev_neB, wp_one, wp_yes, wp_valsI, wp_keysI, wp_lcE, sz10, sz11, sz12, sz13, sz14, sz15, sz16, sz17, sz18, sz19, sz20, sz21, sz22, sz23, sz24, sz25, sz26, sz27, sz28, sz29, sz30, Bool.false_eq_true, Bool.not_eq_true', decide_eq_false_iff_not, Bool.not_true, Bool.not_false, ite_and2, ite_or2, ite_tand, not_true_eq_false, not_false_eq_true, ↓wp_runB]
  refine wp_while (fun σ h' => ∃ (pre r : List Nat) (row col : Int) (t1 t2 : List TkP) (a5 : Option D), cd T = pre ++ r ∧ Lex r row col t2 ∧ ts = t1 ++ t2 ∧ t1.length ≤ pre.length ∧ adv (row, col) r = adv (1, 1) (cd T) ∧
    σ = [some (.str T), some (.ref h.length), some (.int pre.length), some (.int row), some (.int (pre.length + 1 - col)), a5] ∧ h' = h ++ [.lst (t1.map tpD)]) (fun σ _ => match (σ : Sl)[2]? with | some (some (D.int i)) => (T.length - i.toNat) | _ => 0)
    ⟨[], cd T, 1, 1, [], ts, _, rfl, lx, rfl, Nat.le_refl _, rfl, rfl, rfl⟩ ?_
  rintro σ h' ⟨pre, r, row, col, t1, t2, a5, e, lx2, ets, hlen, hadv, rfl, rfl⟩
  have hl : T.length = pre.length + r.length := by rw [← cd_len, e, List.length_append]
  simp only [↓wp_seq, ↓wp_skip, ↓wp_drop, ↓wp_ret, ↓wp_retN, ↓wp_brk, ↓wp_cnt, ↓wp_if, ↓wp_asg, ↓wp_to, ↓wp_tos, ↓wp_toIx, ↓wp_aug, ↓wp_augK, ↓wp_fldSet, ↓wp_fldAug, ↓wp_var, ↓wp_c, ↓wp_op, ↓wp_un, ↓wp_nil, ↓wp_cons, ↓wp_tup, ↓wp_lst, ↓wp_dict0, ↓wp_dict, ↓wp_pairs0, ↓wp_pairs, ↓wp_call, ↓wp_callF, ↓wp_tru, ↓wp_bl, ↓wp_and, ↓wp_or, ↓wp_not, ↓wp_andV, ↓wp_orV, ↓wp_notV, ↓wp_part, ↓wp_noPart, ↓wp_sl, ↓wp_bm, ↓wp_ifE, ↓wp_fld, ↓wp_meth, ↓wp_make, ↓wp_lockE, ↓wp_rng1, ↓wp_rng2, ↓wp_seqI, ↓wpR_ok, ↓wpS_nx, ↓wpS_rt, List.getElem?_cons_zero, List.getElem?_cons_succ, List.set_cons_zero, List.set_cons_succ, List.length_cons, List.length_nil, ↓reduceIte, decide_eq_true_eq, ev_add, ev_iadd, ev_sub, ev_mod, ev_neg, ev_lt, ev_le, ev_gt, ev_ge, ev_eqI, ev_neI, ev_eqS, ev_neS, ev_isN, ev_int, ev_abs, ev_max, ev_min, ev_lenT, ev_lenC, ev_tupT, Int.reduceLT, Int.reduceLE, Int.reduceNeg, Int.reduceAdd, Int.reduceSub, Int.reduceEq, Nat.reduceAdd, Nat.reduceSub, and_self, ↓List.map_cons, ↓List.map_nil, ↓List.cons_append, ↓List.nil_append, List.replicate, ixT0, ixT1, ixT2, ixT3, ixTm1, ixTm2, ixTm3, onH_get, onH_set, onH_push, onH_len, mkB_get, mkB_set, mkB_push, mkB_len, mkB_next, Option.getD_some, Option.getD_none, sz0, sz1, sz2, sz3, sz4, sz5, sz6, sz7, sz8, sz9, ev_keyI, ev_keyS, ev_eqB, ev_neB, wp_one, wp_yes, wp_valsI, wp_keysI, wp_lcE, sz10, sz11, sz12, sz13, sz14, sz15, sz16, sz17, sz18, sz19, sz20, sz21, sz22, sz23, sz24, sz25, sz26, sz27, sz28, sz29, sz30, Bool.false_eq_true, Bool.not_eq_true', decide_eq_false_iff_not, Bool.not_true, Bool.not_false, ite_and2, ite_or2, ite_tand, not_true_eq_false, not_false_eq_true, lenS hT2]
  cases hr : r with
  | nil =>
    rw [hr] at hl lx2 hadv
    simp only [List.length_nil] at hl
    rw [if_neg (by omega)]
    have et2 : t2 = [] := List.length_eq_zero_iff.mp (Nat.le_zero.mp lx2.few)
    rw [et2] at ets
    unfold mt_tokens_r2
    simp only [↓wp_seq, ↓wp_skip, ↓wp_drop, ↓wp_ret, ↓wp_retN, ↓wp_brk, ↓wp_cnt, ↓wp_if, ↓wp_asg, ↓wp_to, ↓wp_tos, ↓wp_toIx, ↓wp_aug, ↓wp_augK, ↓wp_fldSet, ↓wp_fldAug, ↓wp_var, ↓wp_c, ↓wp_op, ↓wp_un, ↓wp_nil, ↓wp_cons, ↓wp_tup, ↓wp_lst, ↓wp_dict0, ↓wp_dict, ↓wp_pairs0, ↓wp_pairs, ↓wp_call, ↓wp_callF, ↓wp_tru, ↓wp_bl, ↓wp_and, ↓wp_or, ↓wp_not, ↓wp_andV, ↓wp_orV, ↓wp_notV, ↓wp_part, ↓wp_noPart, ↓wp_sl, ↓wp_bm, ↓wp_ifE, ↓wp_fld, ↓wp_meth, ↓wp_make, ↓wp_lockE, ↓wp_rng1, ↓wp_rng2, ↓wp_seqI, ↓wpR_ok, ↓wpS_nx, ↓wpS_rt, List.getElem?_cons_zero, List.getElem?_cons_succ, List.set_cons_zero, List.set_cons_succ, List.length_cons, List.length_nil, ↓reduceIte, decide_eq_true_eq, ev_add, ev_iadd, ev_sub, ev_mod, ev_neg, ev_lt, ev_le, ev_gt, ev_ge, ev_eqI, ev_neI, ev_eqS, ev_neS, ev_isN, ev_int, ev_abs, ev_max, ev_min, ev_lenT, ev_lenC, ev_tupT, Int.reduceLT, Int.reduceLE, Int.reduceNeg, Int.reduceAdd, Int.reduceSub, Int.reduceEq, Nat.reduceAdd, Nat.reduceSub, and_self, ↓List.map_cons, ↓List.map_nil, ↓List.cons_append, ↓List.nil_append, List.replicate, ixT0, ixT1, ixT2, ixT3, ixTm1, ixTm2, ixTm3, onH_get, onH_set, onH_push, onH_len, mkB_get, mkB_set, mkB_push, mkB_len, mkB_next, Option.getD_some, Option.getD_none, sz0, sz1, sz2, sz3, sz4, sz5, sz6, sz7, sz8, sz9, ev_keyI, ev_keyS, ev_eqB, ev_neB, wp_one, wp_yes, wp_valsI, wp_keysI, wp_lcE, sz10, sz11, sz12, sz13, sz14, sz15, sz16, sz17, sz18, sz19, sz20, sz21, sz22, sz23, sz24, sz25, sz26, sz27, sz28, sz29, sz30, Bool.false_eq_true, Bool.not_eq_true', decide_eq_false_iff_not, Bool.not_true, Bool.not_false, ite_and2, ite_or2, ite_tand, not_true_eq_false, not_false_eq_true]
    rw [if_pos ty_lst, ev_app get_lastT (Nat.lt_of_le_of_lt (show (t1.map tpD).length ≤ 100000 by rw [List.length_map]; omega) (by decide)), wpR_ok, show (pre.length : Int) - (pre.length + 1 - col) + 1 = col by omega]
    have ea : adv (1, 1) (cd T) = (row, col) := hadv.symm
    rw [ea, ets, List.append_nil] at k
    rw [set_last]
    exact k
  | cons c t =>
    rw [if_pos (by rw [hl, hr, List.length_cons]; omega)]
    refine tokens_b1_ok hT e lx2 (by rw [hr]; simp) (by rw [List.length_map]; omega) fun pre2 r2 row2 col2 ts1 ts2 a5 e2 l2 e3 h3 h4 h5 => ?_
    refine ⟨⟨pre2, r2, row2, col2, t1 ++ ts1, ts2, a5, e2, l2, by rw [ets, e3, List.append_assoc], by rw [List.length_append]; omega, h5.trans hadv, rfl, by rw [List.map_append]⟩, ?_⟩
    have hl2 : T.length = pre2.length + r2.length := by rw [← cd_len, e2, List.length_append]
    have hlr : 0 < r.length := by rw [hr]; simp
    simp only [List.getElem?_cons_succ, List.getElem?_cons_zero, Int.toNat_natCast]
    omega
end
end FL

set_option Elab.async false
set_option linter.all false
set_option maxRecDepth 100000
set_option maxHeartbeats 4000000
namespace K00
open PySem PySem.Spec PyProof.Rows L2 FL
def topS (i : Nat) : Stmt := PySem.Challenge.pw_needonce_k00_tokens_of_a_text.main.body.getD i (.Pass ⟨0, 0, 0, 0⟩)
def isiTab : List (String × String × Bool) := [("int", "list", false), ("bool", "list", false), ("str", "list", false), ("list", "list", true), ("tuple", "list", false), ("dict", "list", false)]
/-! ### what each def is, as a function of data -/
abbrev s_word_end : Stmt := topS 13
noncomputable def m_word_end_b1 : FS :=
    mAug 2 dIAdd (mC (.int 1))
noncomputable def m_word_end_r2 : FS :=
    mRet (mVar 2)
noncomputable def m_word_end : FS :=
    mSeq (mAsg (mVar 1) (mTo 2))
    (mSeq (mWhile (mAnd (mBl (mOp dLt (mVar 2) (mCall (dLen) (mCons (mVar 0) (mNil))))) (mOr (mBl (mOp dIn (mOp dIx (mVar 0) (mVar 2)) (mC (D.str "abcdefghijklmnopqrstuvwxyz")))) (mOr (mBl (mOp dIn (mOp dIx (mVar 0) (mVar 2)) (mC (D.str "ABCDEFGHIJKLMNOPQRSTUVWXYZ")))) (mOr (mBl (mOp dIn (mOp dIx (mVar 0) (mVar 2)) (mC (D.str "0123456789")))) (mBl (mOp dIn (mOp dIx (mVar 0) (mVar 2)) (mC (.str "_'"))))))))
    (m_word_end_b1))
    (m_word_end_r2))
noncomputable def f_word_end : List D → HS → R D := runB 3 (m_word_end)
abbrev s_is_number : Stmt := topS 14
noncomputable def m_is_number_b1 : FS :=
    mIfS (mBl (mOp dNotIn (mVar 1) (mC (D.str "0123456789"))))
    (mRet (mC (.bl false)))
    (mSkip)
noncomputable def m_is_number_r2 : FS :=
    mSeq (mIfS (mOr (mBl (mOp dGt (mCall (dLen) (mCons (mVar 0) (mNil))) (mC (.int 13)))) (mAnd (mBl (mOp dEq (mOp dIx (mVar 0) (mC (.int 0))) (mC (.str "0")))) (mBl (mOp dGt (mCall (dLen) (mCons (mVar 0) (mNil))) (mC (.int 1))))))
    (mRet (mC (.bl false)))
    (mSkip))
    (mRet (mOp dLe (mCall (dIntA) (mCons (mVar 0) (mNil))) (mC (D.int 1000000000000))))
noncomputable def m_is_number : FS :=
    mSeq (mFor (mSeqI (mVar 0)) (mTo 1)
    (m_is_number_b1))
    (m_is_number_r2)
noncomputable def f_is_number : List D → HS → R D := runB 2 (m_is_number)
abbrev s_word_kind : Stmt := topS 15
noncomputable def m_word_kind : FS :=
    mSeq (mIfS (mBl (mOp dIn (mOp dIx (mVar 0) (mC (.int 0))) (mC (D.str "0123456789"))))
    (mSeq (mIfS (mNot (mTru (mCallF 1 (f_is_number) (mCons (mVar 0) (mNil)))))
    (mNever)
    (mSkip))
    (mRet (mC (.str "number"))))
    (mSkip))
    (mSeq (mIfS (mBl (mOp dIn (mVar 0) (mC (D.tup [D.str "data", D.str "class", D.str "instance", D.str "where", D.str "let", D.str "in", D.str "case", D.str "of", D.str "if", D.str "then", D.str "else", D.str "div", D.str "mod", D.str "note"]))))
    (mRet (mC (.str "keyword")))
    (mSkip))
    (mSeq (mIfS (mBl (mOp dIn (mOp dIx (mVar 0) (mC (.int 0))) (mC (D.str "abcdefghijklmnopqrstuvwxyz"))))
    (mRet (mC (.str "name")))
    (mSkip))
    (mRet (mC (.str "con")))))
noncomputable def f_word_kind : List D → HS → R D := runB 3 (m_word_kind)
abbrev s_token_at : Stmt := topS 16
noncomputable def m_token_at : FS :=
    mSeq (mAsg (mOp dIx (mVar 0) (mVar 1)) (mTo 4))
    (mSeq (mIfS (mOr (mBl (mOp dIn (mVar 4) (mC (D.str "abcdefghijklmnopqrstuvwxyz")))) (mOr (mBl (mOp dIn (mVar 4) (mC (D.str "ABCDEFGHIJKLMNOPQRSTUVWXYZ")))) (mBl (mOp dIn (mVar 4) (mC (D.str "0123456789"))))))
    (mSeq (mAsg (mSl (mVar 0) (mPart (mVar 1)) (mPart (mCallF 2 (f_word_end) (mCons (mVar 0) (mCons (mVar 1) (mNil)))))) (mTo 5))
    (mRet (mTup (mCons (mCallF 3 (f_word_kind) (mCons (mVar 5) (mCons (mVar 2) (mCons (mVar 3) (mNil))))) (mCons (mVar 5) (mCons (mVar 2) (mCons (mVar 3) (mNil))))))))
    (mSkip))
    (mSeq (mIfS (mBl (mOp dIn (mSl (mVar 0) (mPart (mVar 1)) (mPart (mOp dAdd (mVar 1) (mC (.int 2))))) (mC (D.tup [D.str "->", D.str "=>", D.str "::", D.str "==", D.str "<="]))))
    (mRet (mTup (mCons (mC (.str "sign")) (mCons (mSl (mVar 0) (mPart (mVar 1)) (mPart (mOp dAdd (mVar 1) (mC (.int 2))))) (mCons (mVar 2) (mCons (mVar 3) (mNil)))))))
    (mSkip))
    (mSeq (mIfS (mBl (mOp dIn (mVar 4) (mC (D.str "=|\\()[],;{}+-*<:"))))
    (mRet (mTup (mCons (mC (.str "sign")) (mCons (mVar 4) (mCons (mVar 2) (mCons (mVar 3) (mNil)))))))
    (mSkip))
    (mNever))))
noncomputable def f_token_at : List D → HS → R D := runB 6 (m_token_at)
abbrev s_comment_end : Stmt := topS 17
noncomputable def m_comment_end : FS :=
    mSeq (mAsg (mBM "str" (dS2I Txt.find3) (mVar 0) (mCons (mC (.str "\n")) (mCons (mVar 1) (mNil)))) (mTo 2))
    (mSeq (mIfS (mBl (mOp dLt (mVar 2) (mC (.int 0))))
    (mRet (mCall (dLen) (mCons (mVar 0) (mNil))))
    (mSkip))
    (mRet (mVar 2)))
noncomputable def f_comment_end : List D → HS → R D := runB 3 (m_comment_end)
abbrev s_tokens : Stmt := topS 18
noncomputable def m_tokens_b1 : FS :=
    mIfS (mBl (mOp dEq (mOp dIx (mVar 0) (mVar 2)) (mC (.str "\n"))))
    (mSeq (mAug 2 dIAdd (mC (.int 1)))
    (mSeq (mAug 3 dIAdd (mC (.int 1)))
    (mAsg (mVar 2) (mTo 4))))
    (mIfS (mBl (mOp dEq (mOp dIx (mVar 0) (mVar 2)) (mC (.str " "))))
    (mAug 2 dIAdd (mC (.int 1)))
    (mIfS (mBl (mOp dEq (mSl (mVar 0) (mPart (mVar 2)) (mPart (mOp dAdd (mVar 2) (mC (.int 2))))) (mC (.str "--"))))
    (mAsg (mCallF 2 (f_comment_end) (mCons (mVar 0) (mCons (mVar 2) (mNil)))) (mTo 2))
    (mSeq (mAsg (mCallF 4 (f_token_at) (mCons (mVar 0) (mCons (mVar 2) (mCons (mVar 3) (mCons (mOp dAdd (mOp dSub (mVar 2) (mVar 4)) (mC (.int 1))) (mNil)))))) (mTo 5))
    (mSeq (mDrop (mBM "list" dAppend (mVar 1) (mCons (mVar 5) (mNil))))
    (mAug 2 dIAdd (mCall (dLen) (mCons (mOp dIx (mVar 5) (mC (.int 1))) (mNil))))))))
noncomputable def m_tokens_r2 : FS :=
    mSeq (mDrop (mBM "list" dAppend (mVar 1) (mCons (mTup (mCons (mC (.str "end")) (mCons (mC (.str "")) (mCons (mVar 3) (mCons (mOp dAdd (mOp dSub (mVar 2) (mVar 4)) (mC (.int 1))) (mNil)))))) (mNil))))
    (mRet (mVar 1))
noncomputable def m_tokens : FS :=
    mSeq (mAsg (mLst (mNil)) (mTo 1))
    (mSeq (mAsg (mC (.int 0)) (mTo 2))
    (mSeq (mAsg (mC (.int 1)) (mTo 3))
    (mSeq (mAsg (mC (.int 0)) (mTo 4))
    (mSeq (mWhile (mBl (mOp dLt (mVar 2) (mCall (dLen) (mCons (mVar 0) (mNil)))))
    (m_tokens_b1))
    (m_tokens_r2)))))
noncomputable def f_tokens : List D → HS → R D := runB 6 (m_tokens)
abbrev s_z_mix : Stmt := topS 20
noncomputable def m_z_mix : FS :=
    mSeq (mAsg (mOp dMod (mCall (dInt) (mCons (mOp dAdd (mOp dAdd (mOp dMul (mVar 0) (mC (.int 48271))) (mOp dMul (mVar 1) (mC (.int 69621)))) (mC (.int 11))) (mNil))) (mC (.int 2147483647))) (mTo 2))
    (mRet (mOp dMod (mOp dMod (mCall (dInt) (mCons (mOp dAdd (mOp dAdd (mOp dAdd (mOp dMul (mVar 2) (mVar 2)) (mOp dMul (mVar 0) (mC (.int 40692)))) (mOp dMul (mVar 1) (mC (.int 7)))) (mC (.int 3))) (mNil))) (mC (.int 1000003))) (mC (.int 1000))))
noncomputable def f_z_mix : List D → HS → R D := runB 3 (m_z_mix)
abbrev s_z_stream : Stmt := topS 21
noncomputable def m_z_stream_b1 : FS :=
    mIfS (mAnd (mBl (mOp dGt (mVar 4) (mC (.int 0)))) (mBl (mOp dLt (mCall (dLen) (mCons (mVar 2) (mNil))) (mVar 1))))
    (mSeq (mDrop (mBM "list" dAppend (mVar 2) (mCons (mOp dMod (mCall (dInt) (mCons (mVar 4) (mNil))) (mC (.int 1000))) (mNil))))
    (mAsg (mOp dFdiv (mVar 4) (mC (.int 1000))) (mTo 4)))
    (mSkip)
noncomputable def m_z_stream_b2 : FS :=
    mIfS (mBl (mOp dLt (mCall (dLen) (mCons (mVar 2) (mNil))) (mVar 1)))
    (mDrop (mBM "list" dAppend (mVar 2) (mCons (mCallF 2 (f_z_mix) (mCons (mVar 4) (mCons (mOp dAdd (mOp dMul (mC (.int 64)) (mVar 5)) (mVar 3)) (mNil)))) (mNil))))
    (mSkip)
noncomputable def m_z_stream_b3 : FS :=
    mSeq (mAsg (mOp dIx (mVar 0) (mVar 3)) (mTo 4))
    (mIfS (mBl (mOp dGe (mVar 4) (mOp dPow (mC (.int 10)) (mC (.int 18)))))
    (mFor (mRange1 (mCons (mC (.int 60)) (mNil))) (mTo 5)
    (m_z_stream_b1))
    (mFor (mRange1 (mCons (mC (.int 3)) (mNil))) (mTo 5)
    (m_z_stream_b2)))
noncomputable def m_z_stream_r4 : FS :=
    mRet (mDict [(mC (.str "row"), mVar 2), (mC (.str "at"), mC (.int 0)), (mC (.str "seed"), mCall (dLen) (mCons (mVar 2) (mNil)))])
noncomputable def m_z_stream : FS :=
    mSeq (mAsg (mLst (mNil)) (mTo 2))
    (mSeq (mFor (mRange1 (mCons (mCall (dMin2) (mCons (mCall (dLen) (mCons (mVar 0) (mNil))) (mCons (mC (.int 63)) (mNil)))) (mNil))) (mTo 3)
    (m_z_stream_b3))
    (m_z_stream_r4))
noncomputable def f_z_stream : List D → HS → R D := runB 6 (m_z_stream)
abbrev s_z_pick : Stmt := topS 22
noncomputable def m_z_pick_r1 : FS :=
    mRet (mOp dMod (mCall (dInt) (mCons (mVar 3) (mNil))) (mVar 1))
noncomputable def m_z_pick : FS :=
    mSeq (mAsg (mOp dIx (mVar 0) (mC (.str "at"))) (mTo 2))
    (mSeq (mAsg (mOp dAdd (mVar 2) (mC (.int 1))) (mToIx (mVar 0) (mC (.str "at"))))
    (mSeq (mAsg (mCallF 2 (f_z_mix) (mCons (mOp dIx (mVar 0) (mC (.str "seed"))) (mCons (mVar 2) (mNil)))) (mTo 3))
    (mSeq (mIfS (mBl (mOp dLt (mVar 2) (mCall (dLen) (mCons (mOp dIx (mVar 0) (mC (.str "row"))) (mNil)))))
    (mAsg (mOp dIx (mOp dIx (mVar 0) (mC (.str "row"))) (mVar 2)) (mTo 3))
    (mSkip))
    (m_z_pick_r1))))
noncomputable def f_z_pick : List D → HS → R D := runB 4 (m_z_pick)
abbrev s_z_word : Stmt := topS 23
noncomputable def m_z_word : FS :=
    mSeq (mAsg (mCallF 2 (f_z_pick) (mCons (mVar 0) (mCons (mC (.int 10)) (mNil)))) (mTo 1))
    (mSeq (mIfS (mBl (mOp dLt (mVar 1) (mC (.int 2))))
    (mSeq (mAsg (mLst (mCons (mC (.str "a")) (mCons (mC (.str "x1")) (mCons (mC (.str "go'")) (mCons (mC (.str "a_b")) (mCons (mC (.str "ofx")) (mCons (mC (.str "data1")) (mCons (mC (.str "letter")) (mCons (mC (.str "inn")) (mCons (mC (.str "z9'")) (mCons (mC (.str "modx")) (mCons (mC (.str "thenn")) (mCons (mC (.str "note_")) (mCons (mC (.str "ifs")) (mNil))))))))))))))) (mTo 2))
    (mRet (mTup (mCons (mC (.str "name")) (mCons (mOp dIx (mVar 2) (mCallF 2 (f_z_pick) (mCons (mVar 0) (mCons (mC (.int 13)) (mNil))))) (mNil))))))
    (mSkip))
    (mSeq (mIfS (mBl (mOp dEq (mVar 1) (mC (.int 2))))
    (mRet (mTup (mCons (mC (.str "con")) (mCons (mOp dIx (mLst (mCons (mC (.str "A")) (mCons (mC (.str "Tree")) (mCons (mC (.str "X9")) (mCons (mC (.str "B_c'")) (mCons (mC (.str "Of")) (mCons (mC (.str "Let")) (mNil)))))))) (mCallF 2 (f_z_pick) (mCons (mVar 0) (mCons (mC (.int 6)) (mNil))))) (mNil)))))
    (mSkip))
    (mSeq (mIfS (mBl (mOp dEq (mVar 1) (mC (.int 3))))
    (mRet (mTup (mCons (mC (.str "number")) (mCons (mOp dIx (mLst (mCons (mC (.str "0")) (mCons (mC (.str "7")) (mCons (mC (.str "10")) (mCons (mC (.str "1000000000000")) (mCons (mC (.str "999999999999")) (mCons (mC (.str "12345")) (mCons (mC (.str "90")) (mNil))))))))) (mCallF 2 (f_z_pick) (mCons (mVar 0) (mCons (mC (.int 7)) (mNil))))) (mNil)))))
    (mSkip))
    (mSeq (mIfS (mBl (mOp dLt (mVar 1) (mC (.int 6))))
    (mSeq (mAsg (mLst (mCons (mC (.str "data")) (mCons (mC (.str "class")) (mCons (mC (.str "instance")) (mCons (mC (.str "where")) (mCons (mC (.str "let")) (mCons (mC (.str "in")) (mCons (mC (.str "case")) (mCons (mC (.str "of")) (mCons (mC (.str "if")) (mCons (mC (.str "then")) (mCons (mC (.str "else")) (mCons (mC (.str "div")) (mCons (mC (.str "mod")) (mCons (mC (.str "note")) (mNil)))))))))))))))) (mTo 3))
    (mRet (mTup (mCons (mC (.str "keyword")) (mCons (mOp dIx (mVar 3) (mCallF 2 (f_z_pick) (mCons (mVar 0) (mCons (mC (.int 14)) (mNil))))) (mNil))))))
    (mSkip))
    (mSeq (mIfS (mBl (mOp dLt (mVar 1) (mC (.int 8))))
    (mRet (mTup (mCons (mC (.str "sign")) (mCons (mOp dIx (mLst (mCons (mC (.str "=")) (mCons (mC (.str "|")) (mCons (mC (.str "->")) (mCons (mC (.str "=>")) (mCons (mC (.str "::")) (mCons (mC (.str "\\")) (mCons (mC (.str "+")) (mCons (mC (.str "-")) (mCons (mC (.str "*")) (mCons (mC (.str "==")) (mCons (mC (.str "<")) (mCons (mC (.str "<=")) (mCons (mC (.str ":")) (mNil))))))))))))))) (mCallF 2 (f_z_pick) (mCons (mVar 0) (mCons (mC (.int 13)) (mNil))))) (mNil)))))
    (mSkip))
    (mRet (mTup (mCons (mC (.str "sign")) (mCons (mOp dIx (mLst (mCons (mC (.str "(")) (mCons (mC (.str ")")) (mCons (mC (.str "[")) (mCons (mC (.str "]")) (mCons (mC (.str ",")) (mCons (mC (.str ";")) (mCons (mC (.str "{")) (mCons (mC (.str "}")) (mNil)))))))))) (mCallF 2 (f_z_pick) (mCons (mVar 0) (mCons (mC (.int 8)) (mNil))))) (mNil))))))))))
noncomputable def f_z_word : List D → HS → R D := runB 4 (m_z_word)
abbrev s_z_alone : Stmt := topS 24
noncomputable def m_z_alone : FS :=
    mRet (mOp dIn (mVar 0) (mTup (mCons (mC (.str "(")) (mCons (mC (.str ")")) (mCons (mC (.str "[")) (mCons (mC (.str "]")) (mCons (mC (.str ",")) (mCons (mC (.str ";")) (mCons (mC (.str "{")) (mCons (mC (.str "}")) (mNil)))))))))))
noncomputable def f_z_alone : List D → HS → R D := runB 1 (m_z_alone)
abbrev s_z_between : Stmt := topS 25
noncomputable def m_z_between : FS :=
    mSeq (mAsg (mOp dIx (mLst (mCons (mC (.str " ")) (mCons (mC (.str "\n")) (mCons (mC (.str "  ")) (mCons (mC (.str " ")) (mNil)))))) (mCallF 2 (f_z_pick) (mCons (mVar 0) (mCons (mC (.int 4)) (mNil))))) (mTo 1))
    (mSeq (mAsg (mOp dIx (mLst (mCons (mC (.str "")) (mCons (mC (.str "")) (mCons (mC (.str "")) (mCons (mC (.str "-- a comment -- of = data\n")) (mCons (mC (.str "--\n ")) (mCons (mC (.str "\n   ")) (mCons (mC (.str "--x\n\n")) (mNil))))))))) (mCallF 2 (f_z_pick) (mCons (mVar 0) (mCons (mC (.int 7)) (mNil))))) (mTo 2))
    (mRet (mOp dAdd (mVar 1) (mVar 2))))
noncomputable def f_z_between : List D → HS → R D := runB 3 (m_z_between)
abbrev s_z_place : Stmt := topS 26
noncomputable def m_z_place : FS :=
    mSeq (mAsg (mOp dAdd (mBM "str" (dS1I Txt.count) (mVar 0) (mCons (mC (.str "\n")) (mNil))) (mC (.int 1))) (mTo 1))
    (mRet (mTup (mCons (mVar 1) (mCons (mOp dSub (mCall (dLen) (mCons (mVar 0) (mNil))) (mBM "str" (dS1I Txt.rfind) (mVar 0) (mCons (mC (.str "\n")) (mNil)))) (mNil)))))
noncomputable def f_z_place : List D → HS → R D := runB 2 (m_z_place)
abbrev s_law : Stmt := topS 27
noncomputable def m_law_r1 : FS :=
    mSeq (mAsg (mCallF 1 (f_z_place) (mCons (mVar 2) (mNil))) (mTos [8, 9]))
    (mSeq (mDrop (mBM "list" dAppend (mVar 3) (mCons (mTup (mCons (mVar 6) (mCons (mVar 7) (mCons (mVar 8) (mCons (mVar 9) (mNil)))))) (mNil))))
    (mSeq (mAsg (mOp dAdd (mVar 2) (mVar 7)) (mTo 2))
    (mAsg (mVar 7) (mTo 4))))
noncomputable def m_law_b2 : FS :=
    mSeq (mAsg (mCallF 1 (f_z_word) (mCons (mVar 1) (mNil))) (mTos [6, 7]))
    (mSeq (mIfS (mOr (mNot (mOr (mTru (mCallF 1 (f_z_alone) (mCons (mVar 4) (mNil)))) (mTru (mCallF 1 (f_z_alone) (mCons (mVar 7) (mNil)))))) (mBl (mOp dEq (mCallF 2 (f_z_pick) (mCons (mVar 1) (mCons (mC (.int 3)) (mNil)))) (mC (.int 0)))))
    (mIfS (mBl (mOp dGt (mVar 5) (mC (.int 0))))
    (mAsg (mOp dAdd (mVar 2) (mCallF 1 (f_z_between) (mCons (mVar 1) (mNil)))) (mTo 2))
    (mSkip))
    (mSkip))
    (m_law_r1))
noncomputable def m_law_r3 : FS :=
    mSeq (mAsg (mOp dAdd (mVar 2) (mOp dIx (mLst (mCons (mC (.str "")) (mCons (mC (.str " ")) (mCons (mC (.str "\n")) (mCons (mC (.str "\n  ")) (mCons (mC (.str " -- the end")) (mNil))))))) (mCallF 2 (f_z_pick) (mCons (mVar 1) (mCons (mC (.int 5)) (mNil)))))) (mTo 2))
    (mSeq (mAsg (mCallF 1 (f_z_place) (mCons (mVar 2) (mNil))) (mTos [8, 9]))
    (mSeq (mDrop (mBM "list" dAppend (mVar 3) (mCons (mTup (mCons (mC (.str "end")) (mCons (mC (.str "")) (mCons (mVar 8) (mCons (mVar 9) (mNil)))))) (mNil))))
    (mSeq (mAsg (mCallF 1 (f_tokens) (mCons (mVar 2) (mNil))) (mTo 10))
    (mSeq (mIfS (mOr (mNot (mTru (mCall (dIsi isiTab) (mCons (mVar 10) (mCons (mC (.ty "list")) (mNil)))))) (mBl (mOp dNe (mVar 10) (mVar 3))))
    (mRet (mC (.bl false)))
    (mSkip))
    (mSeq (mAsg (mTup (mCons (mC (.str "data")) (mCons (mC (.str "class")) (mCons (mC (.str "instance")) (mCons (mC (.str "where")) (mCons (mC (.str "let")) (mCons (mC (.str "in")) (mCons (mC (.str "case")) (mCons (mC (.str "of")) (mCons (mC (.str "if")) (mCons (mC (.str "then")) (mCons (mC (.str "else")) (mCons (mC (.str "div")) (mCons (mC (.str "mod")) (mCons (mC (.str "note")) (mNil)))))))))))))))) (mTo 11))
    (mRet (mAndV (mOp dEq (mC (D.tup [D.str "data", D.str "class", D.str "instance", D.str "where", D.str "let", D.str "in", D.str "case", D.str "of", D.str "if", D.str "then", D.str "else", D.str "div", D.str "mod", D.str "note"])) (mVar 11)) (mOp dEq (mCallF 1 (f_tokens) (mCons (mC (.str "")) (mNil))) (mLst (mCons (mTup (mCons (mC (.str "end")) (mCons (mC (.str "")) (mCons (mC (.int 1)) (mCons (mC (.int 1)) (mNil)))))) (mNil)))))))))))
noncomputable def m_law : FS :=
    mSeq (mAsg (mCallF 2 (f_z_stream) (mCons (mVar 0) (mCons (mC (.int 300)) (mNil)))) (mTo 1))
    (mSeq (mAsg (mOp dIx (mLst (mCons (mC (.str "")) (mCons (mC (.str "")) (mCons (mC (.str " ")) (mCons (mC (.str "\n")) (mCons (mC (.str "-- begin\n  ")) (mNil))))))) (mCallF 2 (f_z_pick) (mCons (mVar 1) (mCons (mC (.int 5)) (mNil))))) (mTo 2))
    (mSeq (mAsg (mLst (mNil)) (mTo 3))
    (mSeq (mAsg (mC (.str "(")) (mTo 4))
    (mSeq (mFor (mRange1 (mCons (mCall (dMin2) (mCons (mC (.int 120)) (mCons (mOp dAdd (mC (.int 1)) (mOp dFdiv (mCall (dLen) (mCons (mOp dIx (mVar 1) (mC (.str "row"))) (mNil))) (mC (.int 3)))) (mNil)))) (mNil))) (mTo 5)
    (m_law_b2))
    (m_law_r3)))))
noncomputable def f_law : List D → HS → R D := runB 12 (m_law)
/-! ### the facts of the top -/
structure Txt (K : PySem.W.Frag) (mg : Str → Option Value) : Prop where
  b_int : mg "int" = none
  b_isinstance : mg "isinstance" = none
  b_len : mg "len" = none
  b_list : mg "list" = none
  b_min : mg "min" = none
  b_range : mg "range" = none
  isi : ∀ p ∈ isiTab, PySem.W.kitOne K (.type p.1) (.type p.2.1) = some p.2.2
  c_DIGITS : KName K mg "DIGITS" (D.str "0123456789")
  c_KEYWORDS : KName K mg "KEYWORDS" (D.tup [D.str "data", D.str "class", D.str "instance", D.str "where", D.str "let", D.str "in", D.str "case", D.str "of", D.str "if", D.str "then", D.str "else", D.str "div", D.str "mod", D.str "note"])
  c_LARGE : KName K mg "LARGE" (D.str "ABCDEFGHIJKLMNOPQRSTUVWXYZ")
  c_LONG_SIGNS : KName K mg "LONG_SIGNS" (D.tup [D.str "->", D.str "=>", D.str "::", D.str "==", D.str "<="])
  c_MOST : KName K mg "MOST" (D.int 1000000000000)
  c_SHORT_SIGNS : KName K mg "SHORT_SIGNS" (D.str "=|\\()[],;{}+-*<:")
  c_SMALL : KName K mg "SMALL" (D.str "abcdefghijklmnopqrstuvwxyz")
section
variable {P : Program} {w : World} {K : PySem.W.Frag} {mg : Str → Option Value} {base : Heap}
abbrev N_word_end : List Str := ["text", "start", "end"]
theorem sc_word_end : FnScope N_word_end ["text", "start"] (defScope s_word_end) := ⟨rfl, rfl, rfl, by decide +kernel, rfl, by decide +kernel, by decide +kernel⟩
theorem ok_word_end {f : Addr} {fd : FuncData} (F : Fun K "_word_end" "_word_end" s_word_end f fd) (T : Txt K mg)  : FnOk P w K mg base (L2.CX P w) 1 f fd ["text", "start"] (spF K 2 (f_word_end)) := by
  show FnOk P w K mg base (L2.CX P w) (0 + 1) f fd ["text", "start"] (spF K (List.length ["text", "start"]) (runB (List.length N_word_end) (m_word_end)))
  refine fn_ok F sc_word_end fun cdv A outer s H E C => ?_
  refine gs_cons (g_asg (gv 1) (gg_name C.nd)) ?_
  refine gs_cons ?_ ?_
  · refine g_while C (gt_w (gw_and (gt_cmp op_lt s_lt (gv 2) (g_callB o_len s_len T.b_len (by decide +kernel) (ga_cons (gv 0) (ga_nil)))) (gw_and1 (gt_w (gw_or (gt_cmp (o_in C.u1) s_in (g_ix (o_ix C.u1) s_ix (gv 0) (gv 2)) (g_glob T.c_SMALL)) (gw_or (gt_cmp (o_in C.u1) s_in (g_ix (o_ix C.u1) s_ix (gv 0) (gv 2)) (g_glob T.c_LARGE)) (gw_or (gt_cmp (o_in C.u1) s_in (g_ix (o_ix C.u1) s_ix (gv 0) (gv 2)) (g_glob T.c_DIGITS)) (gw_or1 (gt_cmp (o_in C.u1) s_in (g_ix (o_ix C.u1) s_ix (gv 0) (gv 2)) (g_str)))))))))) ?_
    delta m_word_end_b1
    exact gs_one (g_aug (i := 2) C.nd o_iadd s_iadd (g_int))
  delta m_word_end_r2
  exact gs_one (g_ret (gv 2))
abbrev N_is_number : List Str := ["word", "sign"]
theorem sc_is_number : FnScope N_is_number ["word"] (defScope s_is_number) := ⟨rfl, rfl, rfl, by decide +kernel, rfl, by decide +kernel, by decide +kernel⟩
theorem ok_is_number {f : Addr} {fd : FuncData} (F : Fun K "_is_number" "_is_number" s_is_number f fd) (T : Txt K mg)  : FnOk P w K mg base (L2.CX P w) 1 f fd ["word"] (spF K 1 (f_is_number)) := by
  show FnOk P w K mg base (L2.CX P w) (0 + 1) f fd ["word"] (spF K (List.length ["word"]) (runB (List.length N_is_number) (m_is_number)))
  refine fn_ok F sc_is_number fun cdv A outer s H E C => ?_
  refine gs_cons ?_ ?_
  · refine g_for C (gi_seq (gv 0)) (gg_name C.nd) ?_
    delta m_is_number_b1
    refine gs_one ?_
    refine g_ifS (gt_cmp (o_notIn C.u1) s_notIn (gv 1) (g_glob T.c_DIGITS)) ?_ ?_
    · exact gs_one (g_ret (g_bl))
    · exact gs_nil
  delta m_is_number_r2
  refine gs_cons ?_ ?_
  · refine g_ifS (gt_w (gw_or (gt_cmp op_gt s_gt (g_callB o_len s_len T.b_len (by decide +kernel) (ga_cons (gv 0) (ga_nil))) (g_int)) (gw_or1 (gt_w (gw_and (gt_cmp (o_eq C.u64) s_eq (g_ix (o_ix C.u1) s_ix (gv 0) (g_int)) (g_str)) (gw_and1 (gt_cmp op_gt s_gt (g_callB o_len s_len T.b_len (by decide +kernel) (ga_cons (gv 0) (ga_nil))) (g_int)))))))) ?_ ?_
    · exact gs_one (g_ret (g_bl))
    · exact gs_nil
  exact gs_one (g_ret (g_cmp op_le s_le (g_callTy o_intA s_intA T.b_int (by decide +kernel) (ga_cons (gv 0) (ga_nil))) (g_glob T.c_MOST)))
abbrev N_word_kind : List Str := ["word", "row", "column"]
theorem sc_word_kind : FnScope N_word_kind ["word", "row", "column"] (defScope s_word_kind) := ⟨rfl, rfl, rfl, by decide +kernel, rfl, by decide +kernel, by decide +kernel⟩
theorem ok_word_kind {f : Addr} {fd : FuncData} (F : Fun K "_word_kind" "_word_kind" s_word_kind f fd) (T : Txt K mg) (F_is_number : FD P w K mg base 1 "_is_number" 1 (f_is_number)) : FnOk P w K mg base (L2.CX P w) 2 f fd ["word", "row", "column"] (spF K 3 (f_word_kind)) := by
  show FnOk P w K mg base (L2.CX P w) (1 + 1) f fd ["word", "row", "column"] (spF K (List.length ["word", "row", "column"]) (runB (List.length N_word_kind) (m_word_kind)))
  refine fn_ok F sc_word_kind fun cdv A outer s H E C => ?_
  refine gs_cons ?_ ?_
  · refine g_ifS (gt_cmp (o_in C.u1) s_in (g_ix (o_ix C.u1) s_ix (gv 0) (g_int)) (g_glob T.c_DIGITS)) ?_ ?_
    · refine gs_cons ?_ ?_
      · refine g_ifS (gt_not (gt_val (g_call F_is_number C (by omega) (ga_cons (gv 0) (ga_nil))))) ?_ ?_
        · exact gs_one (g_never)
        · exact gs_nil
      exact gs_one (g_ret (g_str))
    · exact gs_nil
  refine gs_cons ?_ ?_
  · refine g_ifS (gt_cmp (o_in C.u1) s_in (gv 0) (g_glob T.c_KEYWORDS)) ?_ ?_
    · exact gs_one (g_ret (g_str))
    · exact gs_nil
  refine gs_cons ?_ ?_
  · refine g_ifS (gt_cmp (o_in C.u1) s_in (g_ix (o_ix C.u1) s_ix (gv 0) (g_int)) (g_glob T.c_SMALL)) ?_ ?_
    · exact gs_one (g_ret (g_str))
    · exact gs_nil
  exact gs_one (g_ret (g_str))
abbrev N_token_at : List Str := ["text", "start", "row", "column", "sign", "word"]
theorem sc_token_at : FnScope N_token_at ["text", "start", "row", "column"] (defScope s_token_at) := ⟨rfl, rfl, rfl, by decide +kernel, rfl, by decide +kernel, by decide +kernel⟩
theorem ok_token_at {f : Addr} {fd : FuncData} (F : Fun K "_token_at" "_token_at" s_token_at f fd) (T : Txt K mg) (F_word_kind : FD P w K mg base 2 "_word_kind" 3 (f_word_kind)) (F_word_end : FD P w K mg base 1 "_word_end" 2 (f_word_end)) : FnOk P w K mg base (L2.CX P w) 3 f fd ["text", "start", "row", "column"] (spF K 4 (f_token_at)) := by
  show FnOk P w K mg base (L2.CX P w) (2 + 1) f fd ["text", "start", "row", "column"] (spF K (List.length ["text", "start", "row", "column"]) (runB (List.length N_token_at) (m_token_at)))
  refine fn_ok F sc_token_at fun cdv A outer s H E C => ?_
  refine gs_cons (g_asg (g_ix (o_ix C.u1) s_ix (gv 0) (gv 1)) (gg_name C.nd)) ?_
  refine gs_cons ?_ ?_
  · refine g_ifS (gt_w (gw_or (gt_cmp (o_in C.u1) s_in (gv 4) (g_glob T.c_SMALL)) (gw_or (gt_cmp (o_in C.u1) s_in (gv 4) (g_glob T.c_LARGE)) (gw_or1 (gt_cmp (o_in C.u1) s_in (gv 4) (g_glob T.c_DIGITS)))))) ?_ ?_
    · refine gs_cons (g_asg (g_slice (gv 0) (go_some (gv 1)) (go_some (g_call F_word_end C (by omega) (ga_cons (gv 0) (ga_cons (gv 1) (ga_nil)))))) (gg_name C.nd)) ?_
      exact gs_one (g_ret (g_tup (ga_cons (g_call F_word_kind C (by omega) (ga_cons (gv 5) (ga_cons (gv 2) (ga_cons (gv 3) (ga_nil))))) (ga_cons (gv 5) (ga_cons (gv 2) (ga_cons (gv 3) (ga_nil)))))))
    · exact gs_nil
  refine gs_cons ?_ ?_
  · refine g_ifS (gt_cmp (o_in C.u1) s_in (g_slice (gv 0) (go_some (gv 1)) (go_some (g_op o_add s_add (gv 1) (g_int)))) (g_glob T.c_LONG_SIGNS)) ?_ ?_
    · exact gs_one (g_ret (g_tup (ga_cons (g_str) (ga_cons (g_slice (gv 0) (go_some (gv 1)) (go_some (g_op o_add s_add (gv 1) (g_int)))) (ga_cons (gv 2) (ga_cons (gv 3) (ga_nil)))))))
    · exact gs_nil
  refine gs_cons ?_ ?_
  · refine g_ifS (gt_cmp (o_in C.u1) s_in (gv 4) (g_glob T.c_SHORT_SIGNS)) ?_ ?_
    · exact gs_one (g_ret (g_tup (ga_cons (g_str) (ga_cons (gv 4) (ga_cons (gv 2) (ga_cons (gv 3) (ga_nil)))))))
    · exact gs_nil
  exact gs_one (g_never)
abbrev N_comment_end : List Str := ["text", "start", "end"]
theorem sc_comment_end : FnScope N_comment_end ["text", "start"] (defScope s_comment_end) := ⟨rfl, rfl, rfl, by decide +kernel, rfl, by decide +kernel, by decide +kernel⟩
theorem ok_comment_end {f : Addr} {fd : FuncData} (F : Fun K "_comment_end" "_comment_end" s_comment_end f fd) (T : Txt K mg)  : FnOk P w K mg base (L2.CX P w) 1 f fd ["text", "start"] (spF K 2 (f_comment_end)) := by
  show FnOk P w K mg base (L2.CX P w) (0 + 1) f fd ["text", "start"] (spF K (List.length ["text", "start"]) (runB (List.length N_comment_end) (m_comment_end)))
  refine fn_ok F sc_comment_end fun cdv A outer s H E C => ?_
  refine gs_cons (g_asg (g_bm PySem.F.plainAttrs_str PySem.F.slot_str_find PySem.F.type_str_find mt_find3 s_S2I (gv 0) (ga_cons (g_str) (ga_cons (gv 1) (ga_nil)))) (gg_name C.nd)) ?_
  refine gs_cons ?_ ?_
  · refine g_ifS (gt_cmp op_lt s_lt (gv 2) (g_int)) ?_ ?_
    · exact gs_one (g_ret (g_callB o_len s_len T.b_len (by decide +kernel) (ga_cons (gv 0) (ga_nil))))
    · exact gs_nil
  exact gs_one (g_ret (gv 2))
abbrev N_tokens : List Str := ["text", "found", "at", "row", "begin", "token"]
theorem sc_tokens : FnScope N_tokens ["text"] (defScope s_tokens) := ⟨rfl, rfl, rfl, by decide +kernel, rfl, by decide +kernel, by decide +kernel⟩
theorem ok_tokens {f : Addr} {fd : FuncData} (F : Fun K "tokens" "tokens" s_tokens f fd) (T : Txt K mg) (F_comment_end : FD P w K mg base 1 "_comment_end" 2 (f_comment_end)) (F_token_at : FD P w K mg base 3 "_token_at" 4 (f_token_at)) : FnOk P w K mg base (L2.CX P w) 4 f fd ["text"] (spF K 1 (f_tokens)) := by
  show FnOk P w K mg base (L2.CX P w) (3 + 1) f fd ["text"] (spF K (List.length ["text"]) (runB (List.length N_tokens) (m_tokens)))
  refine fn_ok F sc_tokens fun cdv A outer s H E C => ?_
  refine gs_cons (g_asg (g_lst (ga_nil)) (gg_name C.nd)) ?_
  refine gs_cons (g_asg (g_int) (gg_name C.nd)) ?_
  refine gs_cons (g_asg (g_int) (gg_name C.nd)) ?_
  refine gs_cons (g_asg (g_int) (gg_name C.nd)) ?_
  refine gs_cons ?_ ?_
  · refine g_while C (gt_cmp op_lt s_lt (gv 2) (g_callB o_len s_len T.b_len (by decide +kernel) (ga_cons (gv 0) (ga_nil)))) ?_
    delta m_tokens_b1
    refine gs_one ?_
    refine g_ifS (gt_cmp (o_eq C.u64) s_eq (g_ix (o_ix C.u1) s_ix (gv 0) (gv 2)) (g_str)) ?_ ?_
    · refine gs_cons (g_aug (i := 2) C.nd o_iadd s_iadd (g_int)) ?_
      refine gs_cons (g_aug (i := 3) C.nd o_iadd s_iadd (g_int)) ?_
      exact gs_one (g_asg (gv 2) (gg_name C.nd))
    · refine gs_one ?_
      refine g_ifS (gt_cmp (o_eq C.u64) s_eq (g_ix (o_ix C.u1) s_ix (gv 0) (gv 2)) (g_str)) ?_ ?_
      · exact gs_one (g_aug (i := 2) C.nd o_iadd s_iadd (g_int))
      · refine gs_one ?_
        refine g_ifS (gt_cmp (o_eq C.u64) s_eq (g_slice (gv 0) (go_some (gv 2)) (go_some (g_op o_add s_add (gv 2) (g_int)))) (g_str)) ?_ ?_
        · exact gs_one (g_asg (g_call F_comment_end C (by omega) (ga_cons (gv 0) (ga_cons (gv 2) (ga_nil)))) (gg_name C.nd))
        · refine gs_cons (g_asg (g_call F_token_at C (by omega) (ga_cons (gv 0) (ga_cons (gv 2) (ga_cons (gv 3) (ga_cons (g_op o_add s_add (g_op op_sub s_sub (gv 2) (gv 4)) (g_int)) (ga_nil)))))) (gg_name C.nd)) ?_
          refine gs_cons (g_expr (g_bm PySem.F.plainAttrs_list PySem.F.slot_list_append PySem.F.type_list_append mt_append s_append (gv 1) (ga_cons (gv 5) (ga_nil)))) ?_
          exact gs_one (g_aug (i := 2) C.nd o_iadd s_iadd (g_callB o_len s_len T.b_len (by decide +kernel) (ga_cons (g_ix (o_ix C.u1) s_ix (gv 5) (g_int)) (ga_nil))))
  delta m_tokens_r2
  refine gs_cons (g_expr (g_bm PySem.F.plainAttrs_list PySem.F.slot_list_append PySem.F.type_list_append mt_append s_append (gv 1) (ga_cons (g_tup (ga_cons (g_str) (ga_cons (g_str) (ga_cons (gv 3) (ga_cons (g_op o_add s_add (g_op op_sub s_sub (gv 2) (gv 4)) (g_int)) (ga_nil)))))) (ga_nil)))) ?_
  exact gs_one (g_ret (gv 1))
abbrev N_z_mix : List Str := ["_law_cell", "_law_k", "_law_low"]
theorem sc_z_mix : FnScope N_z_mix ["_law_cell", "_law_k"] (defScope s_z_mix) := ⟨rfl, rfl, rfl, by decide +kernel, rfl, by decide +kernel, by decide +kernel⟩
theorem ok_z_mix {f : Addr} {fd : FuncData} (F : Fun K "_law_mix" "_law_mix" s_z_mix f fd) (T : Txt K mg)  : FnOk P w K mg base (L2.CX P w) 1 f fd ["_law_cell", "_law_k"] (spF K 2 (f_z_mix)) := by
  show FnOk P w K mg base (L2.CX P w) (0 + 1) f fd ["_law_cell", "_law_k"] (spF K (List.length ["_law_cell", "_law_k"]) (runB (List.length N_z_mix) (m_z_mix)))
  refine fn_ok F sc_z_mix fun cdv A outer s H E C => ?_
  refine gs_cons (g_asg (g_op op_mod s_mod (g_callTy call_int1 s_int T.b_int (by decide +kernel) (ga_cons (g_op o_add s_add (g_op o_add s_add (g_op op_mul s_mul (gv 0) (g_int)) (g_op op_mul s_mul (gv 1) (g_int))) (g_int)) (ga_nil))) (g_int)) (gg_name C.nd)) ?_
  exact gs_one (g_ret (g_op op_mod s_mod (g_op op_mod s_mod (g_callTy call_int1 s_int T.b_int (by decide +kernel) (ga_cons (g_op o_add s_add (g_op o_add s_add (g_op o_add s_add (g_op op_mul s_mul (gv 2) (gv 2)) (g_op op_mul s_mul (gv 0) (g_int))) (g_op op_mul s_mul (gv 1) (g_int))) (g_int)) (ga_nil))) (g_int)) (g_int)))
abbrev N_z_stream : List Str := ["_law_script", "_law_most", "_law_row", "_law_k", "_law_rest", "_law_j"]
theorem sc_z_stream : FnScope N_z_stream ["_law_script", "_law_most"] (defScope s_z_stream) := ⟨rfl, rfl, rfl, by decide +kernel, rfl, by decide +kernel, by decide +kernel⟩
theorem ok_z_stream {f : Addr} {fd : FuncData} (F : Fun K "_law_stream" "_law_stream" s_z_stream f fd) (T : Txt K mg) (F_z_mix : FD P w K mg base 1 "_law_mix" 2 (f_z_mix)) : FnOk P w K mg base (L2.CX P w) 2 f fd ["_law_script", "_law_most"] (spF K 2 (f_z_stream)) := by
  show FnOk P w K mg base (L2.CX P w) (1 + 1) f fd ["_law_script", "_law_most"] (spF K (List.length ["_law_script", "_law_most"]) (runB (List.length N_z_stream) (m_z_stream)))
  refine fn_ok F sc_z_stream fun cdv A outer s H E C => ?_
  refine gs_cons (g_asg (g_lst (ga_nil)) (gg_name C.nd)) ?_
  refine gs_cons ?_ ?_
  · refine g_for C (gi_range1 T.b_range (ga_cons (g_callB (call_min2 C.calm) s_min2 T.b_min (by decide +kernel) (ga_cons (g_callB o_len s_len T.b_len (by decide +kernel) (ga_cons (gv 0) (ga_nil))) (ga_cons (g_int) (ga_nil)))) (ga_nil))) (gg_name C.nd) ?_
    delta m_z_stream_b3
    refine gs_cons (g_asg (g_ix (o_ix C.u1) s_ix (gv 0) (gv 3)) (gg_name C.nd)) ?_
    refine gs_one ?_
    refine g_ifS (gt_cmp op_ge s_ge (gv 4) (g_op op_pow s_pow (g_int) (g_int))) ?_ ?_
    · refine gs_one ?_
      refine g_for C (gi_range1 T.b_range (ga_cons (g_int) (ga_nil))) (gg_name C.nd) ?_
      delta m_z_stream_b1
      refine gs_one ?_
      refine g_ifS (gt_w (gw_and (gt_cmp op_gt s_gt (gv 4) (g_int)) (gw_and1 (gt_cmp op_lt s_lt (g_callB o_len s_len T.b_len (by decide +kernel) (ga_cons (gv 2) (ga_nil))) (gv 1))))) ?_ ?_
      · refine gs_cons (g_expr (g_bm PySem.F.plainAttrs_list PySem.F.slot_list_append PySem.F.type_list_append mt_append s_append (gv 2) (ga_cons (g_op op_mod s_mod (g_callTy call_int1 s_int T.b_int (by decide +kernel) (ga_cons (gv 4) (ga_nil))) (g_int)) (ga_nil)))) ?_
        exact gs_one (g_asg (g_op op_fdivW s_fdiv (gv 4) (g_int)) (gg_name C.nd))
      · exact gs_nil
    · refine gs_one ?_
      refine g_for C (gi_range1 T.b_range (ga_cons (g_int) (ga_nil))) (gg_name C.nd) ?_
      delta m_z_stream_b2
      refine gs_one ?_
      refine g_ifS (gt_cmp op_lt s_lt (g_callB o_len s_len T.b_len (by decide +kernel) (ga_cons (gv 2) (ga_nil))) (gv 1)) ?_ ?_
      · exact gs_one (g_expr (g_bm PySem.F.plainAttrs_list PySem.F.slot_list_append PySem.F.type_list_append mt_append s_append (gv 2) (ga_cons (g_call F_z_mix C (by omega) (ga_cons (gv 4) (ga_cons (g_op o_add s_add (g_op op_mul s_mul (g_int) (gv 5)) (gv 3)) (ga_nil)))) (ga_nil))))
      · exact gs_nil
  delta m_z_stream_r4
  exact gs_one (g_ret (g_dict (gp_cons (g_str) (gv 2) (gp_cons (g_str) (g_int) (gp_cons (g_str) (g_callB o_len s_len T.b_len (by decide +kernel) (ga_cons (gv 2) (ga_nil))) (gp_nil))))))
abbrev N_z_pick : List Str := ["_law_draws", "_law_many", "_law_at", "_law_number"]
theorem sc_z_pick : FnScope N_z_pick ["_law_draws", "_law_many"] (defScope s_z_pick) := ⟨rfl, rfl, rfl, by decide +kernel, rfl, by decide +kernel, by decide +kernel⟩
theorem ok_z_pick {f : Addr} {fd : FuncData} (F : Fun K "_law_pick" "_law_pick" s_z_pick f fd) (T : Txt K mg) (F_z_mix : FD P w K mg base 1 "_law_mix" 2 (f_z_mix)) : FnOk P w K mg base (L2.CX P w) 2 f fd ["_law_draws", "_law_many"] (spF K 2 (f_z_pick)) := by
  show FnOk P w K mg base (L2.CX P w) (1 + 1) f fd ["_law_draws", "_law_many"] (spF K (List.length ["_law_draws", "_law_many"]) (runB (List.length N_z_pick) (m_z_pick)))
  refine fn_ok F sc_z_pick fun cdv A outer s H E C => ?_
  refine gs_cons (g_asg (g_ix (o_ix C.u1) s_ix (gv 0) (g_str)) (gg_name C.nd)) ?_
  refine gs_cons (g_asg (g_op o_add s_add (gv 2) (g_int)) (gg_sub C (gv 0) (g_str))) ?_
  refine gs_cons (g_asg (g_call F_z_mix C (by omega) (ga_cons (g_ix (o_ix C.u1) s_ix (gv 0) (g_str)) (ga_cons (gv 2) (ga_nil)))) (gg_name C.nd)) ?_
  refine gs_cons ?_ ?_
  · refine g_ifS (gt_cmp op_lt s_lt (gv 2) (g_callB o_len s_len T.b_len (by decide +kernel) (ga_cons (g_ix (o_ix C.u1) s_ix (gv 0) (g_str)) (ga_nil)))) ?_ ?_
    · exact gs_one (g_asg (g_ix (o_ix C.u1) s_ix (g_ix (o_ix C.u1) s_ix (gv 0) (g_str)) (gv 2)) (gg_name C.nd))
    · exact gs_nil
  delta m_z_pick_r1
  exact gs_one (g_ret (g_op op_mod s_mod (g_callTy call_int1 s_int T.b_int (by decide +kernel) (ga_cons (gv 3) (ga_nil))) (gv 1)))
abbrev N_z_word : List Str := ["_law_draws", "_law_pick_here", "_law_names", "_law_words"]
theorem sc_z_word : FnScope N_z_word ["_law_draws"] (defScope s_z_word) := ⟨rfl, rfl, rfl, by decide +kernel, rfl, by decide +kernel, by decide +kernel⟩
theorem ok_z_word {f : Addr} {fd : FuncData} (F : Fun K "_law_word" "_law_word" s_z_word f fd) (T : Txt K mg) (F_z_pick : FD P w K mg base 2 "_law_pick" 2 (f_z_pick)) : FnOk P w K mg base (L2.CX P w) 3 f fd ["_law_draws"] (spF K 1 (f_z_word)) := by
  show FnOk P w K mg base (L2.CX P w) (2 + 1) f fd ["_law_draws"] (spF K (List.length ["_law_draws"]) (runB (List.length N_z_word) (m_z_word)))
  refine fn_ok F sc_z_word fun cdv A outer s H E C => ?_
  refine gs_cons (g_asg (g_call F_z_pick C (by omega) (ga_cons (gv 0) (ga_cons (g_int) (ga_nil)))) (gg_name C.nd)) ?_
  refine gs_cons ?_ ?_
  · refine g_ifS (gt_cmp op_lt s_lt (gv 1) (g_int)) ?_ ?_
    · refine gs_cons (g_asg (g_lst (ga_cons (g_str) (ga_cons (g_str) (ga_cons (g_str) (ga_cons (g_str) (ga_cons (g_str) (ga_cons (g_str) (ga_cons (g_str) (ga_cons (g_str) (ga_cons (g_str) (ga_cons (g_str) (ga_cons (g_str) (ga_cons (g_str) (ga_cons (g_str) (ga_nil))))))))))))))) (gg_name C.nd)) ?_
      exact gs_one (g_ret (g_tup (ga_cons (g_str) (ga_cons (g_ix (o_ix C.u1) s_ix (gv 2) (g_call F_z_pick C (by omega) (ga_cons (gv 0) (ga_cons (g_int) (ga_nil))))) (ga_nil)))))
    · exact gs_nil
  refine gs_cons ?_ ?_
  · refine g_ifS (gt_cmp (o_eq C.u64) s_eq (gv 1) (g_int)) ?_ ?_
    · exact gs_one (g_ret (g_tup (ga_cons (g_str) (ga_cons (g_ix (o_ix C.u1) s_ix (g_lst (ga_cons (g_str) (ga_cons (g_str) (ga_cons (g_str) (ga_cons (g_str) (ga_cons (g_str) (ga_cons (g_str) (ga_nil)))))))) (g_call F_z_pick C (by omega) (ga_cons (gv 0) (ga_cons (g_int) (ga_nil))))) (ga_nil)))))
    · exact gs_nil
  refine gs_cons ?_ ?_
  · refine g_ifS (gt_cmp (o_eq C.u64) s_eq (gv 1) (g_int)) ?_ ?_
    · exact gs_one (g_ret (g_tup (ga_cons (g_str) (ga_cons (g_ix (o_ix C.u1) s_ix (g_lst (ga_cons (g_str) (ga_cons (g_str) (ga_cons (g_str) (ga_cons (g_str) (ga_cons (g_str) (ga_cons (g_str) (ga_cons (g_str) (ga_nil))))))))) (g_call F_z_pick C (by omega) (ga_cons (gv 0) (ga_cons (g_int) (ga_nil))))) (ga_nil)))))
    · exact gs_nil
  refine gs_cons ?_ ?_
  · refine g_ifS (gt_cmp op_lt s_lt (gv 1) (g_int)) ?_ ?_
    · refine gs_cons (g_asg (g_lst (ga_cons (g_str) (ga_cons (g_str) (ga_cons (g_str) (ga_cons (g_str) (ga_cons (g_str) (ga_cons (g_str) (ga_cons (g_str) (ga_cons (g_str) (ga_cons (g_str) (ga_cons (g_str) (ga_cons (g_str) (ga_cons (g_str) (ga_cons (g_str) (ga_cons (g_str) (ga_nil)))))))))))))))) (gg_name C.nd)) ?_
      exact gs_one (g_ret (g_tup (ga_cons (g_str) (ga_cons (g_ix (o_ix C.u1) s_ix (gv 3) (g_call F_z_pick C (by omega) (ga_cons (gv 0) (ga_cons (g_int) (ga_nil))))) (ga_nil)))))
    · exact gs_nil
  refine gs_cons ?_ ?_
  · refine g_ifS (gt_cmp op_lt s_lt (gv 1) (g_int)) ?_ ?_
    · exact gs_one (g_ret (g_tup (ga_cons (g_str) (ga_cons (g_ix (o_ix C.u1) s_ix (g_lst (ga_cons (g_str) (ga_cons (g_str) (ga_cons (g_str) (ga_cons (g_str) (ga_cons (g_str) (ga_cons (g_str) (ga_cons (g_str) (ga_cons (g_str) (ga_cons (g_str) (ga_cons (g_str) (ga_cons (g_str) (ga_cons (g_str) (ga_cons (g_str) (ga_nil))))))))))))))) (g_call F_z_pick C (by omega) (ga_cons (gv 0) (ga_cons (g_int) (ga_nil))))) (ga_nil)))))
    · exact gs_nil
  exact gs_one (g_ret (g_tup (ga_cons (g_str) (ga_cons (g_ix (o_ix C.u1) s_ix (g_lst (ga_cons (g_str) (ga_cons (g_str) (ga_cons (g_str) (ga_cons (g_str) (ga_cons (g_str) (ga_cons (g_str) (ga_cons (g_str) (ga_cons (g_str) (ga_nil)))))))))) (g_call F_z_pick C (by omega) (ga_cons (gv 0) (ga_cons (g_int) (ga_nil))))) (ga_nil)))))
abbrev N_z_alone : List Str := ["_law_text"]
theorem sc_z_alone : FnScope N_z_alone ["_law_text"] (defScope s_z_alone) := ⟨rfl, rfl, rfl, by decide +kernel, rfl, by decide +kernel, by decide +kernel⟩
theorem ok_z_alone {f : Addr} {fd : FuncData} (F : Fun K "_law_alone" "_law_alone" s_z_alone f fd) (T : Txt K mg)  : FnOk P w K mg base (L2.CX P w) 1 f fd ["_law_text"] (spF K 1 (f_z_alone)) := by
  show FnOk P w K mg base (L2.CX P w) (0 + 1) f fd ["_law_text"] (spF K (List.length ["_law_text"]) (runB (List.length N_z_alone) (m_z_alone)))
  refine fn_ok F sc_z_alone fun cdv A outer s H E C => ?_
  exact gs_one (g_ret (g_cmp (o_in C.u1) s_in (gv 0) (g_tup (ga_cons (g_str) (ga_cons (g_str) (ga_cons (g_str) (ga_cons (g_str) (ga_cons (g_str) (ga_cons (g_str) (ga_cons (g_str) (ga_cons (g_str) (ga_nil))))))))))))
abbrev N_z_between : List Str := ["_law_draws", "_law_first", "_law_more"]
theorem sc_z_between : FnScope N_z_between ["_law_draws"] (defScope s_z_between) := ⟨rfl, rfl, rfl, by decide +kernel, rfl, by decide +kernel, by decide +kernel⟩
theorem ok_z_between {f : Addr} {fd : FuncData} (F : Fun K "_law_between" "_law_between" s_z_between f fd) (T : Txt K mg) (F_z_pick : FD P w K mg base 2 "_law_pick" 2 (f_z_pick)) : FnOk P w K mg base (L2.CX P w) 3 f fd ["_law_draws"] (spF K 1 (f_z_between)) := by
  show FnOk P w K mg base (L2.CX P w) (2 + 1) f fd ["_law_draws"] (spF K (List.length ["_law_draws"]) (runB (List.length N_z_between) (m_z_between)))
  refine fn_ok F sc_z_between fun cdv A outer s H E C => ?_
  refine gs_cons (g_asg (g_ix (o_ix C.u1) s_ix (g_lst (ga_cons (g_str) (ga_cons (g_str) (ga_cons (g_str) (ga_cons (g_str) (ga_nil)))))) (g_call F_z_pick C (by omega) (ga_cons (gv 0) (ga_cons (g_int) (ga_nil))))) (gg_name C.nd)) ?_
  refine gs_cons (g_asg (g_ix (o_ix C.u1) s_ix (g_lst (ga_cons (g_str) (ga_cons (g_str) (ga_cons (g_str) (ga_cons (g_str) (ga_cons (g_str) (ga_cons (g_str) (ga_cons (g_str) (ga_nil))))))))) (g_call F_z_pick C (by omega) (ga_cons (gv 0) (ga_cons (g_int) (ga_nil))))) (gg_name C.nd)) ?_
  exact gs_one (g_ret (g_op o_add s_add (gv 1) (gv 2)))
abbrev N_z_place : List Str := ["_law_text", "_law_row"]
theorem sc_z_place : FnScope N_z_place ["_law_text"] (defScope s_z_place) := ⟨rfl, rfl, rfl, by decide +kernel, rfl, by decide +kernel, by decide +kernel⟩
theorem ok_z_place {f : Addr} {fd : FuncData} (F : Fun K "_law_place" "_law_place" s_z_place f fd) (T : Txt K mg)  : FnOk P w K mg base (L2.CX P w) 1 f fd ["_law_text"] (spF K 1 (f_z_place)) := by
  show FnOk P w K mg base (L2.CX P w) (0 + 1) f fd ["_law_text"] (spF K (List.length ["_law_text"]) (runB (List.length N_z_place) (m_z_place)))
  refine fn_ok F sc_z_place fun cdv A outer s H E C => ?_
  refine gs_cons (g_asg (g_op o_add s_add (g_bm PySem.F.plainAttrs_str PySem.F.slot_str_count PySem.F.type_str_count mt_count s_S1I (gv 0) (ga_cons (g_str) (ga_nil))) (g_int)) (gg_name C.nd)) ?_
  exact gs_one (g_ret (g_tup (ga_cons (gv 1) (ga_cons (g_op op_sub s_sub (g_callB o_len s_len T.b_len (by decide +kernel) (ga_cons (gv 0) (ga_nil))) (g_bm PySem.F.plainAttrs_str PySem.F.slot_str_rfind PySem.F.type_str_rfind mt_rfind s_S1I (gv 0) (ga_cons (g_str) (ga_nil)))) (ga_nil)))))
abbrev N_law : List Str := ["_law_script", "_law_draws", "_law_text", "_law_due", "_law_last", "_law_k", "_law_kind", "_law_word_here", "_law_row", "_law_column", "_law_actual", "_law_words"]
theorem sc_law : FnScope N_law ["_law_script"] (defScope s_law) := ⟨rfl, rfl, rfl, by decide +kernel, rfl, by decide +kernel, by decide +kernel⟩
theorem ok_law {f : Addr} {fd : FuncData} (F : Fun K "law" "law" s_law f fd) (T : Txt K mg) (F_z_stream : FD P w K mg base 2 "_law_stream" 2 (f_z_stream)) (F_z_place : FD P w K mg base 1 "_law_place" 1 (f_z_place)) (F_tokens : FD P w K mg base 4 "tokens" 1 (f_tokens)) (F_z_pick : FD P w K mg base 2 "_law_pick" 2 (f_z_pick)) (F_z_word : FD P w K mg base 3 "_law_word" 1 (f_z_word)) (F_z_alone : FD P w K mg base 1 "_law_alone" 1 (f_z_alone)) (F_z_between : FD P w K mg base 3 "_law_between" 1 (f_z_between)) : FnOk P w K mg base (L2.CX P w) 5 f fd ["_law_script"] (spF K 1 (f_law)) := by
  show FnOk P w K mg base (L2.CX P w) (4 + 1) f fd ["_law_script"] (spF K (List.length ["_law_script"]) (runB (List.length N_law) (m_law)))
  refine fn_ok F sc_law fun cdv A outer s H E C => ?_
  refine gs_cons (g_asg (g_call F_z_stream C (by omega) (ga_cons (gv 0) (ga_cons (g_int) (ga_nil)))) (gg_name C.nd)) ?_
  refine gs_cons (g_asg (g_ix (o_ix C.u1) s_ix (g_lst (ga_cons (g_str) (ga_cons (g_str) (ga_cons (g_str) (ga_cons (g_str) (ga_cons (g_str) (ga_nil))))))) (g_call F_z_pick C (by omega) (ga_cons (gv 1) (ga_cons (g_int) (ga_nil))))) (gg_name C.nd)) ?_
  refine gs_cons (g_asg (g_lst (ga_nil)) (gg_name C.nd)) ?_
  refine gs_cons (g_asg (g_str) (gg_name C.nd)) ?_
  refine gs_cons ?_ ?_
  · refine g_for C (gi_range1 T.b_range (ga_cons (g_callB (call_min2 C.calm) s_min2 T.b_min (by decide +kernel) (ga_cons (g_int) (ga_cons (g_op o_add s_add (g_int) (g_op op_fdivW s_fdiv (g_callB o_len s_len T.b_len (by decide +kernel) (ga_cons (g_ix (o_ix C.u1) s_ix (gv 1) (g_str)) (ga_nil))) (g_int))) (ga_nil)))) (ga_nil))) (gg_name C.nd) ?_
    delta m_law_b2
    refine gs_cons (g_asg (g_call F_z_word C (by omega) (ga_cons (gv 1) (ga_nil))) (gg_names C.calm (pgs_cons (pg_name (i := 6) C.nd rfl (by first | exact Or.inl rfl | exact Or.inr rfl)) (pgs_cons (pg_name (i := 7) C.nd rfl (by first | exact Or.inl rfl | exact Or.inr rfl)) (pgs_nil))))) ?_
    refine gs_cons ?_ ?_
    · refine g_ifS (gt_w (gw_or (gt_not (gt_w (gw_or (gt_val (g_call F_z_alone C (by omega) (ga_cons (gv 4) (ga_nil)))) (gw_or1 (gt_val (g_call F_z_alone C (by omega) (ga_cons (gv 7) (ga_nil)))))))) (gw_or1 (gt_cmp (o_eq C.u64) s_eq (g_call F_z_pick C (by omega) (ga_cons (gv 1) (ga_cons (g_int) (ga_nil)))) (g_int))))) ?_ ?_
      · refine gs_one ?_
        refine g_ifS (gt_cmp op_gt s_gt (gv 5) (g_int)) ?_ ?_
        · exact gs_one (g_asg (g_op o_add s_add (gv 2) (g_call F_z_between C (by omega) (ga_cons (gv 1) (ga_nil)))) (gg_name C.nd))
        · exact gs_nil
      · exact gs_nil
    delta m_law_r1
    refine gs_cons (g_asg (g_call F_z_place C (by omega) (ga_cons (gv 2) (ga_nil))) (gg_names C.calm (pgs_cons (pg_name (i := 8) C.nd rfl (by first | exact Or.inl rfl | exact Or.inr rfl)) (pgs_cons (pg_name (i := 9) C.nd rfl (by first | exact Or.inl rfl | exact Or.inr rfl)) (pgs_nil))))) ?_
    refine gs_cons (g_expr (g_bm PySem.F.plainAttrs_list PySem.F.slot_list_append PySem.F.type_list_append mt_append s_append (gv 3) (ga_cons (g_tup (ga_cons (gv 6) (ga_cons (gv 7) (ga_cons (gv 8) (ga_cons (gv 9) (ga_nil)))))) (ga_nil)))) ?_
    refine gs_cons (g_asg (g_op o_add s_add (gv 2) (gv 7)) (gg_name C.nd)) ?_
    exact gs_one (g_asg (gv 7) (gg_name C.nd))
  delta m_law_r3
  refine gs_cons (g_asg (g_op o_add s_add (gv 2) (g_ix (o_ix C.u1) s_ix (g_lst (ga_cons (g_str) (ga_cons (g_str) (ga_cons (g_str) (ga_cons (g_str) (ga_cons (g_str) (ga_nil))))))) (g_call F_z_pick C (by omega) (ga_cons (gv 1) (ga_cons (g_int) (ga_nil)))))) (gg_name C.nd)) ?_
  refine gs_cons (g_asg (g_call F_z_place C (by omega) (ga_cons (gv 2) (ga_nil))) (gg_names C.calm (pgs_cons (pg_name (i := 8) C.nd rfl (by first | exact Or.inl rfl | exact Or.inr rfl)) (pgs_cons (pg_name (i := 9) C.nd rfl (by first | exact Or.inl rfl | exact Or.inr rfl)) (pgs_nil))))) ?_
  refine gs_cons (g_expr (g_bm PySem.F.plainAttrs_list PySem.F.slot_list_append PySem.F.type_list_append mt_append s_append (gv 3) (ga_cons (g_tup (ga_cons (g_str) (ga_cons (g_str) (ga_cons (gv 8) (ga_cons (gv 9) (ga_nil)))))) (ga_nil)))) ?_
  refine gs_cons (g_asg (g_call F_tokens C (by omega) (ga_cons (gv 2) (ga_nil))) (gg_name C.nd)) ?_
  refine gs_cons ?_ ?_
  · refine g_ifS (gt_w (gw_or (gt_not (gt_val (g_callB call_isi (s_isi T.isi) T.b_isinstance (by decide +kernel) (ga_cons (gv 10) (ga_cons (g_tyName T.b_list (by decide +kernel)) (ga_nil)))))) (gw_or1 (gt_cmp (o_ne C.u64) s_ne (gv 10) (gv 3))))) ?_ ?_
    · exact gs_one (g_ret (g_bl))
    · exact gs_nil
  refine gs_cons (g_asg (g_tup (ga_cons (g_str) (ga_cons (g_str) (ga_cons (g_str) (ga_cons (g_str) (ga_cons (g_str) (ga_cons (g_str) (ga_cons (g_str) (ga_cons (g_str) (ga_cons (g_str) (ga_cons (g_str) (ga_cons (g_str) (ga_cons (g_str) (ga_cons (g_str) (ga_cons (g_str) (ga_nil)))))))))))))))) (gg_name C.nd)) ?_
  exact gs_one (g_ret (g_and (g_cmp (o_eq C.u64) s_eq (g_glob T.c_KEYWORDS) (gv 11)) (g_one (g_cmp (o_eq C.u64) s_eq (g_call F_tokens C (by omega) (ga_cons (g_str) (ga_nil))) (g_lst (ga_cons (g_tup (ga_cons (g_str) (ga_cons (g_str) (ga_cons (g_int) (ga_cons (g_int) (ga_nil)))))) (ga_nil)))))))
end
end K00

set_option Elab.async false
set_option linter.all false
set_option maxRecDepth 100000
set_option maxHeartbeats 1000000
namespace K00
open PySem PySem.Spec PyProof.Rows L2 FL
/-! ### words -/
def names : List Str := ["a", "x1", "go'", "a_b", "ofx", "data1", "letter", "inn", "z9'", "modx", "thenn", "note_", "ifs"]
def cons : List Str := ["A", "Tree", "X9", "B_c'", "Of", "Let"]
def nums : List Str := ["0", "7", "10", "1000000000000", "999999999999", "12345", "90"]
def keys : List Str := ["data", "class", "instance", "where", "let", "in", "case", "of", "if", "then", "else", "div", "mod", "note"]
def signs : List Str := ["=", "|", "->", "=>", "::", "\\", "+", "-", "*", "==", "<", "<=", ":"]
def alones : List Str := ["(", ")", "[", "]", ",", ";", "{", "}"]
def table : List (Str × Str) := names.map (fun x => (("name" : Str), x)) ++ (cons.map (fun x => (("con" : Str), x)) ++ (nums.map (fun x => (("number" : Str), x)) ++ (keys.map (fun x => (("keyword" : Str), x)) ++ (signs.map (fun x => (("sign" : Str), x)) ++ alones.map (fun x => (("sign" : Str), x))))))
def aloneC : List Nat := [40, 41, 91, 93, 44, 59, 123, 125]
/-- what may stand behind a word -/
def Next (x : Str) (r : List Nat) : Prop := x ∈ alones ∨ r = [] ∨ ∃ c t, r = c :: t ∧ (c = 32 ∨ c = 10 ∨ c ∈ aloneC)
def numB (w : List Nat) : Bool := w.all (fun c => decide (c ∈ cd DG)) && (decide (w.length ≤ 13) && (!(decide (w.head? = some 48) && decide (1 < w.length)) && match PySem.intText? (ofL w) with
  | some n => decide (n ≤ 1000000000000)
  | none => false))
def kindB (kd : Str) (w : List Nat) : Bool := match w with
  | [] => false
  | c :: t => if kd = "number" then decide (c ∈ cd DG) && numB (c :: t)
    else if kd = "keyword" then !decide (c ∈ cd DG) && decide (ofL (c :: t) ∈ KWs)
    else if kd = "name" then !decide (c ∈ cd DG) && (!decide (ofL (c :: t) ∈ KWs) && decide (c ∈ cd SM))
    else if kd = "con" then !decide (c ∈ cd DG) && (!decide (ofL (c :: t) ∈ KWs) && !decide (c ∈ cd SM))
    else false
def wordB (kd : Str) (w : List Nat) : Bool := kindB kd w && (match w with
  | c :: _ => isA c
  | [] => false) && w.all isW
def signB (x : Str) : Bool := match cd x with
  | [_, _] => decide (x ∈ LSs)
  | [c] => decide (c ∈ cd SS) && if x ∈ alones then !decide (c ∈ [45, 61, 58, 60]) else (32 :: 10 :: aloneC).all fun d => !decide (ofL [c, d] ∈ LSs) && !(decide (c = 45) && decide (d = 45))
  | _ => false
def chk (p : Str × Str) : Bool := (if p.1 = "sign" then signB p.2 else wordB p.1 (cd p.2) && !decide (p.2 ∈ alones)) && !decide (10 ∈ cd p.2)
theorem table_chk : ∀ p ∈ table, chk p = true := by decide +kernel
theorem numB_ok {w : List Nat} (h : numB w = true) : NumW w := by
  unfold numB at h
  simp only [Bool.and_eq_true, decide_eq_true_eq, List.all_eq_true, Bool.not_eq_true', Bool.and_eq_false_iff, decide_eq_false_iff_not] at h
  obtain ⟨h1, h2, h3, h4⟩ := h
  refine ⟨h1, h2, fun z => ?_, ?_⟩
  · rcases h3 with q | q
    · exact q z.1
    · exact q z.2
  · cases e : PySem.intText? (ofL w) with
    | none => rw [e] at h4; cases h4
    | some n => rw [e] at h4; exact ⟨n, rfl, of_decide_eq_true h4⟩
theorem kindB_ok {kd : Str} {w : List Nat} (h : kindB kd w = true) : KindW kd w := by
  unfold kindB at h
  split at h
  · cases h
  · rename_i c t
    split at h
    · rename_i e
      subst e
      simp only [Bool.and_eq_true, decide_eq_true_eq] at h
      exact .num rfl h.1 (numB_ok h.2)
    · split at h
      · rename_i e
        subst e
        simp only [Bool.and_eq_true, decide_eq_true_eq, Bool.not_eq_true', decide_eq_false_iff_not] at h
        exact .key rfl h.1 h.2
      · split at h
        · rename_i e
          subst e
          simp only [Bool.and_eq_true, decide_eq_true_eq, Bool.not_eq_true', decide_eq_false_iff_not] at h
          exact .name rfl h.1 h.2.1 h.2.2
        · split at h
          · rename_i e
            subst e
            simp only [Bool.and_eq_true, decide_eq_true_eq, Bool.not_eq_true', decide_eq_false_iff_not] at h
            exact .con rfl h.1 h.2.1 h.2.2
          · cases h
theorem sepC : ∀ c ∈ 32 :: 10 :: aloneC, isW c = false := by decide +kernel
theorem ls_first {c d : Nat} (h : ofL [c, d] ∈ LSs) : c ∈ [45, 61, 58, 60] := by
  have e : ofL [c, d] = "->" ∨ ofL [c, d] = "=>" ∨ ofL [c, d] = "::" ∨ ofL [c, d] = "==" ∨ ofL [c, d] = "<=" := by
    simpa only [LSs, List.mem_cons, List.not_mem_nil, or_false] using h
  rcases e with e | e | e | e | e
  all_goals
    have := congrArg cd e
    rw [show cd (ofL [c, d]) = [c, d] from rfl] at this
  · rw [show cd ("->" : Str) = [45, 62] by decide +kernel] at this
    rw [(List.cons.inj this).1]; decide
  · rw [show cd ("=>" : Str) = [61, 62] by decide +kernel] at this
    rw [(List.cons.inj this).1]; decide
  · rw [show cd ("::" : Str) = [58, 58] by decide +kernel] at this
    rw [(List.cons.inj this).1]; decide
  · rw [show cd ("==" : Str) = [61, 61] by decide +kernel] at this
    rw [(List.cons.inj this).1]; decide
  · rw [show cd ("<=" : Str) = [60, 61] by decide +kernel] at this
    rw [(List.cons.inj this).1]; decide
theorem chk_ok {p : Str × Str} (h : chk p = true) {r : List Nat} (n : Next p.2 r) : IsTok p.1 (cd p.2) r ∧ 10 ∉ cd p.2 := by
  obtain ⟨kd, x⟩ := p
  unfold chk at h
  rw [Bool.and_eq_true, Bool.not_eq_true', decide_eq_false_iff_not] at h
  obtain ⟨h, h10⟩ := h
  refine ⟨?_, h10⟩
  simp only at h n ⊢
  split at h
  · rename_i e
    subst e
    unfold signB at h
    split at h
    · rename_i a b e
      rw [e]
      exact .long rfl (by rw [← e, ofL_cd]; exact of_decide_eq_true h)
    · rename_i c e
      rw [e]
      rw [Bool.and_eq_true, decide_eq_true_eq] at h
      refine .short rfl h.1 fun d t hd => ?_
      obtain ⟨_, h⟩ := h
      by_cases c1 : x ∈ alones
      · rw [if_pos c1, Bool.not_eq_true', decide_eq_false_iff_not] at h
        exact ⟨fun z => h (ls_first z), fun z => h (by rw [z.1]; decide)⟩
      · rw [if_neg c1] at h
        rcases n with q | q | ⟨c', t', q1, q2⟩
        · exact absurd q c1
        · rw [q] at hd; cases hd
        · rw [q1] at hd
          obtain ⟨rfl, _⟩ := List.cons.inj hd
          have hm : c' ∈ 32 :: 10 :: aloneC := by
            rcases q2 with rfl | rfl | q2
            · exact List.mem_cons_self
            · exact List.mem_cons_of_mem _ List.mem_cons_self
            · exact List.mem_cons_of_mem _ (List.mem_cons_of_mem _ q2)
          have := List.all_eq_true.mp h c' hm
          simp only [Bool.and_eq_true, Bool.not_eq_true', decide_eq_false_iff_not, Bool.and_eq_false_iff] at this
          refine ⟨this.1, fun z => ?_⟩
          rcases this.2 with q | q
          · exact q z.1
          · exact q z.2
    · cases h
  · rw [Bool.and_eq_true, Bool.not_eq_true', decide_eq_false_iff_not] at h
    obtain ⟨h1, h2⟩ := h
    unfold wordB at h1
    rw [Bool.and_eq_true, Bool.and_eq_true] at h1
    obtain ⟨⟨h3, h4⟩, h5⟩ := h1
    refine .word (kindB_ok h3) ?_ (List.all_eq_true.mp h5) ?_
    · split at h4
      · rename_i c t e
        exact ⟨c, t, e, h4⟩
      · cases h4
    · intro c t e
      rcases n with q | q | ⟨c', t', q1, q2⟩
      · exact absurd q h2
      · rw [q] at e; cases e
      · rw [q1] at e
        obtain ⟨rfl, _⟩ := List.cons.inj e
        refine sepC c' ?_
        rcases q2 with rfl | rfl | q2
        · exact List.mem_cons_self
        · exact List.mem_cons_of_mem _ List.mem_cons_self
        · exact List.mem_cons_of_mem _ (List.mem_cons_of_mem _ q2)
/-! ### what stands between -/
def sepM : Nat → List Nat → Bool
  | 0, _ => false
  | n + 1, s => match s with
    | [] => true
    | c :: t => if c = 10 then sepM n t else if c = 32 then sepM n t else match t with
      | d :: t => if c = 45 ∧ d = 45 then (match t.dropWhile (fun x => decide (x ≠ 10)) with
          | e :: t' => sepM n t'
          | [] => false) else false
      | [] => false
theorem sepM_ok : ∀ {n : Nat} {s : List Nat}, sepM n s = true → ∀ {row col : Int} {r : List Nat} {ts : List TkP}, Lex r (adv (row, col) s).1 (adv (row, col) s).2 ts → Lex (s ++ r) row col ts
  | n + 1, s, h, row, col, r, ts, lx => by
    unfold sepM at h
    split at h
    · exact lx
    · rename_i c t
      split at h
      · rename_i e
        subst e
        exact .nl (sepM_ok h lx)
      · rename_i n10
        split at h
        · rename_i e
          subst e
          exact .sp (sepM_ok h lx)
        · split at h
          · rename_i d t
            split at h
            · rename_i e
              obtain ⟨rfl, rfl⟩ := e
              split at h
              · rename_i e t' hd
                have hsplit := List.takeWhile_append_dropWhile (p := fun x => decide (x ≠ 10)) (l := t)
                have he : e = 10 := by
                  have := List.head?_dropWhile_not (fun x => decide (x ≠ 10)) t
                  rw [hd] at this
                  simpa using this
                subst he
                have hb : 10 ∉ t.takeWhile (fun x => decide (x ≠ 10)) := fun z => by
                  have := List.all_eq_true.mp (List.all_takeWhile (p := fun x => decide (x ≠ 10)) (l := t)) 10 z
                  simp at this
                rw [hd] at hsplit
                generalize t.takeWhile (fun x => decide (x ≠ 10)) = b at hsplit hb
                subst hsplit
                have e1 : 45 :: 45 :: (b ++ 10 :: t') ++ r = 45 :: 45 :: (b ++ (10 :: (t' ++ r))) := by simp
                rw [e1]
                refine .cm hb (.inr ⟨_, rfl⟩) (.nl (sepM_ok h ?_))
                have e3 := adv_no (45 :: 45 :: b) row col (by simp [hb])
                rw [show 45 :: 45 :: (b ++ 10 :: t') = (45 :: 45 :: b) ++ 10 :: t' from rfl, adv_app, e3] at lx
                exact lx
              · cases h
            · cases h
          · cases h
def firsts : List Str := [" ", "\n", "  ", " "]
def mores : List Str := ["", "", "", "-- a comment -- of = data\n", "--\n ", "\n   ", "--x\n\n"]
def begins : List Str := ["", "", " ", "\n", "-- begin\n  "]
def ends : List Str := ["", " ", "\n", "\n  ", " -- the end"]
theorem seps : ∀ a ∈ firsts, ∀ b ∈ mores, sepM 60 (cd a ++ cd b) = true := by decide +kernel
theorem seps0 : ∀ a ∈ begins, sepM 60 (cd a) = true := by decide +kernel
theorem first_head : ∀ a ∈ firsts, (cd a).head? = some 32 ∨ (cd a).head? = some 10 := by decide +kernel
theorem ends_head : ∀ a ∈ ends, cd a = [] ∨ (cd a).head? = some 32 ∨ (cd a).head? = some 10 := by decide +kernel
theorem ends_sep : ∀ a ∈ ends, sepM 60 (cd a) = true ∨ a = " -- the end" := by decide +kernel
theorem alone_code : ∀ x ∈ alones, ∃ c, cd x = [c] ∧ c ∈ aloneC := by
  intro x hx
  have e : x = "(" ∨ x = ")" ∨ x = "[" ∨ x = "]" ∨ x = "," ∨ x = ";" ∨ x = "{" ∨ x = "}" := by
    simpa only [alones, List.mem_cons, List.not_mem_nil, or_false] using hx
  rcases e with rfl | rfl | rfl | rfl | rfl | rfl | rfl | rfl
  · exact ⟨40, by decide +kernel, by decide⟩
  · exact ⟨41, by decide +kernel, by decide⟩
  · exact ⟨91, by decide +kernel, by decide⟩
  · exact ⟨93, by decide +kernel, by decide⟩
  · exact ⟨44, by decide +kernel, by decide⟩
  · exact ⟨59, by decide +kernel, by decide⟩
  · exact ⟨123, by decide +kernel, by decide⟩
  · exact ⟨125, by decide +kernel, by decide⟩
/-- a text so far: whatever may follow the last word reads on -/
def Sofar (x : Str) (due : List TkP) (last : Str) : Prop := ∀ (r : List Nat) (ts : List TkP), Next last r → Lex r (adv (1, 1) (cd x)).1 (adv (1, 1) (cd x)).2 ts → Lex (cd x ++ r) 1 1 (due ++ ts)
theorem sofar0 {x : Str} (h : x ∈ begins) : Sofar x [] "(" := fun r ts _ lx => sepM_ok (seps0 x h) lx
theorem sofar_step {x sep last : Str} {due : List TkP} {p : Str × Str} (S : Sofar x due last) (hp : p ∈ table) (hs : sepM 60 (cd sep) = true) (hn : ∀ r, Next p.2 r → Next last (cd sep ++ (cd p.2 ++ r))) :
    Sofar (x ++ sep ++ p.2) (due ++ [⟨p.1, cd p.2, (adv (1, 1) (cd x ++ cd sep)).1, (adv (1, 1) (cd x ++ cd sep)).2⟩]) p.2 := by
  intro r ts n lx
  obtain ⟨tk, h10⟩ := chk_ok (table_chk p hp) n
  have e0 : cd (x ++ sep ++ p.2) = cd x ++ (cd sep ++ cd p.2) := by rw [cd_app, cd_app, List.append_assoc]
  rw [e0] at lx ⊢
  rw [List.append_assoc (cd x), List.append_assoc (cd sep), List.append_assoc due]
  refine S _ (⟨p.1, cd p.2, (adv (1, 1) (cd x ++ cd sep)).1, (adv (1, 1) (cd x ++ cd sep)).2⟩ :: ts) (hn r n) (sepM_ok hs ?_)
  have e : adv ((adv (1, 1) (cd x)).1, (adv (1, 1) (cd x)).2) (cd sep) = adv (1, 1) (cd x ++ cd sep) := by rw [adv_app]
  rw [e]
  refine .tok tk h10 ?_
  rw [← List.append_assoc, adv_app] at lx
  have e2 := adv_no (cd p.2) (adv (1, 1) (cd x ++ cd sep)).1 (adv (1, 1) (cd x ++ cd sep)).2 h10
  rw [show ((adv (1, 1) (cd x ++ cd sep)).1, (adv (1, 1) (cd x ++ cd sep)).2) = adv (1, 1) (cd x ++ cd sep) from rfl] at e2
  rw [e2] at lx
  exact lx
theorem next_head {x : Str} {c : Nat} {s r : List Nat} (h : s.head? = some c) (hc : c = 32 ∨ c = 10) : Next x (s ++ r) := by
  cases s with
  | nil => cases h
  | cons d t =>
    cases h
    exact .inr (.inr ⟨c, t ++ r, rfl, hc.elim .inl fun z => .inr (.inl z)⟩)
theorem sofar_end {x last tail : Str} {due : List TkP} (S : Sofar x due last) (ht : tail ∈ ends) : Lex (cd (x ++ tail)) 1 1 due := by
  rw [cd_app]
  have hn : Next last (cd tail) := by
    rcases ends_head tail ht with q | q | q
    · exact .inr (.inl q)
    · have := next_head (x := last) (r := []) q (.inl rfl)
      rwa [List.append_nil] at this
    · have := next_head (x := last) (r := []) q (.inr rfl)
      rwa [List.append_nil] at this
  have := S (cd tail) [] hn ?_
  · rwa [List.append_nil] at this
  · rcases ends_sep tail ht with q | q
    · have := sepM_ok q (row := (adv (1, 1) (cd x)).1) (col := (adv (1, 1) (cd x)).2) (r := []) (ts := []) .nil
      rwa [List.append_nil] at this
    · subst q
      have e : cd (" -- the end" : Str) = 32 :: 45 :: 45 :: ([32, 116, 104, 101, 32, 101, 110, 100] ++ []) := by decide +kernel
      rw [e]
      exact .sp (.cm (by decide) (.inl rfl) .nil)
end K00

set_option Elab.async false
set_option linter.all false
set_option maxRecDepth 100000
set_option maxHeartbeats 1000000
namespace K00
open PySem PySem.Spec PyProof.Rows L2 FL
section
variable {ds : List Int} {s : Int} {h0 h : HS} {P : D → HS → Prop} {X : XP}
theorem pick_is (d : List D) (h : HS) : f_z_pick d h = f_pickK d h := rfl
theorem tokens_is (d : List D) (h : HS) : f_tokens d h = ft_tokens mNever mNever d h := rfl
/-- a member of a written list -/
theorem pick_list {xs : List Str} {m : Int} (w : DA ds s h0 h) (hm : m = xs.length) (hp : 0 < m) (k : ∀ (x : Str) (h' : HS), x ∈ xs → DA ds s h0 h' → P (.str x) h') :
    wpR (f_z_pick [.ref 1, .int m] (h ++ [.lst (xs.map .str)])) (fun v h' => wpR (dIx (.ref h.length) v h') P X) X := by
  have w2 : DA ds s h0 (h ++ [.lst (xs.map .str)]) := w.push
  have h1 : 1 < h.length := Nat.lt_of_lt_of_le w.two w.le
  rw [pick_is]
  refine w2.self.pickK hp fun v h' v0 v1 w3 => ?_
  obtain ⟨n, rfl⟩ : ∃ n : Nat, v = n := ⟨v.toNat, by omega⟩
  have hn : n < xs.length := by omega
  have hi : atI (xs.map D.str) (n : Int) = some (.str xs[n]) := atI_nat (by rw [List.getElem?_map, List.getElem?_eq_getElem hn]; rfl)
  rw [ev_ixL (w3.get (by omega) get_lastT) hi, wpR_ok]
  exact k _ _ (List.getElem_mem hn) (w2.trans w3)
theorem in8 {x : Str} : dIn (.str x) (.tup [D.str "(", D.str ")", D.str "[", D.str "]", D.str ",", D.str ";", D.str "{", D.str "}"]) h = .ok (.bl (decide (x ∈ alones))) h := inStrs (xs := alones)
theorem alone_ok {x : Str} (k : P (.bl (decide (x ∈ alones))) h) : wpR (f_z_alone [.str x] h) P X := by
  unfold f_z_alone m_z_alone
  simp only [↓wp_seq, ↓wp_skip, ↓wp_drop, ↓wp_ret, ↓wp_retN, ↓wp_brk, ↓wp_cnt, ↓wp_if, ↓wp_asg, ↓wp_to, ↓wp_tos, ↓wp_toIx, ↓wp_aug, ↓wp_augK, ↓wp_fldSet, ↓wp_fldAug, ↓wp_var, ↓wp_c, ↓wp_op, ↓wp_un, ↓wp_nil, ↓wp_cons, ↓wp_tup, ↓wp_lst, ↓wp_dict0, ↓wp_dict, ↓wp_pairs0, ↓wp_pairs, ↓wp_call, ↓wp_callF, ↓wp_tru, ↓wp_bl, ↓wp_and, ↓wp_or, ↓wp_not, ↓wp_andV, ↓wp_orV, ↓wp_notV, ↓wp_part, ↓wp_noPart, ↓wp_sl, ↓wp_bm, ↓wp_ifE, ↓wp_fld, ↓wp_meth, ↓wp_make, ↓wp_lockE, ↓wp_rng1, ↓wp_rng2, ↓wp_seqI, ↓wpR_ok, ↓wpS_nx, ↓wpS_rt, List.getElem?_cons_zero, List.getElem?_cons_succ, List.set_cons_zero, List.set_cons_succ, List.length_cons, List.length_nil, ↓reduceIte, decide_eq_true_eq, ev_add, ev_iadd, ev_sub, ev_mod, ev_neg, ev_lt, ev_le, ev_gt, ev_ge, ev_eqI, ev_neI, ev_eqS, ev_neS, ev_isN, ev_int, ev_abs, ev_max, ev_min, ev_lenT, ev_lenC, ev_tupT, Int.reduceLT, Int.reduceLE, Int.reduceNeg, Int.reduceAdd, Int.reduceSub, Int.reduceEq, Nat.reduceAdd, Nat.reduceSub, and_self, ↓List.map_cons, ↓List.map_nil, ↓List.cons_append, ↓List.nil_append, List.replicate, ixT0, ixT1, ixT2, ixT3, ixTm1, ixTm2, ixTm3, onH_get, onH_set, onH_push, onH_len, mkB_get, mkB_set, mkB_push, mkB_len, mkB_next, Option.getD_some, Option.getD_none, sz0, sz1, sz2, sz3, sz4, sz5, sz6, sz7, sz8, sz9, ev_keyI, ev_keyS, ev_eqB, ev_neB, wp_one, wp_yes, wp_valsI, wp_keysI, wp_lcE, sz10, sz11, sz12, sz13, sz14, sz15, sz16, sz17, sz18, sz19, sz20, sz21, sz22, sz23, sz24, sz25, sz26, sz27, sz28, sz29, sz30, Bool.false_eq_true, Bool.not_eq_true', decide_eq_false_iff_not, Bool.not_true, Bool.not_false, ite_and2, ite_or2, ite_tand, not_true_eq_false, not_false_eq_true, ↓wp_runB, in8]
  exact k
theorem place_ok {x : Str} (hx : x.length ≤ 100000) (k : P (.tup [.int (adv (1, 1) (cd x)).1, .int (adv (1, 1) (cd x)).2]) h) : wpR (f_z_place [.str x] h) P X := by
  unfold f_z_place m_z_place
  have hT : x.length ≤ sizeLine := Nat.le_trans hx (by decide)
  have nl : (("\n" : Str)) = ⟨#[10]⟩ := by decide +kernel
  have ty : ∀ h, tyMD "str" h (.str x) = true := fun h => rfl
  simp only [↓wp_seq, ↓wp_skip, ↓wp_drop, ↓wp_ret, ↓wp_retN, ↓wp_brk, ↓wp_cnt, ↓wp_if, ↓wp_asg, ↓wp_to, ↓wp_tos, ↓wp_toIx, ↓wp_aug, ↓wp_augK, ↓wp_fldSet, ↓wp_fldAug, ↓wp_var, ↓wp_c, ↓wp_op, ↓wp_un, ↓wp_nil, ↓wp_cons, ↓wp_tup, ↓wp_lst, ↓wp_dict0, ↓wp_dict, ↓wp_pairs0, ↓wp_pairs, ↓wp_call, ↓wp_callF, ↓wp_tru, ↓wp_bl, ↓wp_and, ↓wp_or, ↓wp_not, ↓wp_andV, ↓wp_orV, ↓wp_notV, ↓wp_part, ↓wp_noPart, ↓wp_sl, ↓wp_bm, ↓wp_ifE, ↓wp_fld, ↓wp_meth, ↓wp_make, ↓wp_lockE, ↓wp_rng1, ↓wp_rng2, ↓wp_seqI, ↓wpR_ok, ↓wpS_nx, ↓wpS_rt, List.getElem?_cons_zero, List.getElem?_cons_succ, List.set_cons_zero, List.set_cons_succ, List.length_cons, List.length_nil, ↓reduceIte, decide_eq_true_eq, ev_add, ev_iadd, ev_sub, ev_mod, ev_neg, ev_lt, ev_le, ev_gt, ev_ge, ev_eqI, ev_neI, ev_eqS, ev_neS, ev_isN, ev_int, ev_abs, ev_max, ev_min, ev_lenT, ev_lenC, ev_tupT, Int.reduceLT, Int.reduceLE, Int.reduceNeg, Int.reduceAdd, Int.reduceSub, Int.reduceEq, Nat.reduceAdd, Nat.reduceSub, and_self, ↓List.map_cons, ↓List.map_nil, ↓List.cons_append, ↓List.nil_append, List.replicate, ixT0, ixT1, ixT2, ixT3, ixTm1, ixTm2, ixTm3, onH_get, onH_set, onH_push, onH_len, mkB_get, mkB_set, mkB_push, mkB_len, mkB_next, Option.getD_some, Option.getD_none, sz0, sz1, sz2, sz3, sz4, sz5, sz6, sz7, sz8, sz9, ev_keyI, ev_keyS, ev_eqB, ev_neB, wp_one, wp_yes, wp_valsI, wp_keysI, wp_lcE, sz10, sz11, sz12, sz13, sz14, sz15, sz16, sz17, sz18, sz19, sz20, sz21, sz22, sz23, sz24, sz25, sz26, sz27, sz28, sz29, sz30, Bool.false_eq_true, Bool.not_eq_true', decide_eq_false_iff_not, Bool.not_true, Bool.not_false, ite_and2, ite_or2, ite_tand, not_true_eq_false, not_false_eq_true, ↓wp_runB, ty, dS1I, one1, lenS hT]
  rw [nl, count_eq, rfind_eq]
  have e := adv_plc _ (cd x) rfl
  rw [e] at k
  exact k
theorem word_ok (w : DA ds s h0 h) (k : ∀ (p : Str × Str) (h' : HS), p ∈ table → DA ds s h0 h' → P (.tup [.str p.1, .str p.2]) h') : wpR (f_z_word [.ref 1] h) P X := by
  unfold f_z_word m_z_word
  simp only [↓wp_seq, ↓wp_skip, ↓wp_drop, ↓wp_ret, ↓wp_retN, ↓wp_brk, ↓wp_cnt, ↓wp_if, ↓wp_asg, ↓wp_to, ↓wp_tos, ↓wp_toIx, ↓wp_aug, ↓wp_augK, ↓wp_fldSet, ↓wp_fldAug, ↓wp_var, ↓wp_c, ↓wp_op, ↓wp_un, ↓wp_nil, ↓wp_cons, ↓wp_tup, ↓wp_lst, ↓wp_dict0, ↓wp_dict, ↓wp_pairs0, ↓wp_pairs, ↓wp_call, ↓wp_callF, ↓wp_tru, ↓wp_bl, ↓wp_and, ↓wp_or, ↓wp_not, ↓wp_andV, ↓wp_orV, ↓wp_notV, ↓wp_part, ↓wp_noPart, ↓wp_sl, ↓wp_bm, ↓wp_ifE, ↓wp_fld, ↓wp_meth, ↓wp_make, ↓wp_lockE, ↓wp_rng1, ↓wp_rng2, ↓wp_seqI, ↓wpR_ok, ↓wpS_nx, ↓wpS_rt, List.getElem?_cons_zero, List.getElem?_cons_succ, List.set_cons_zero, List.set_cons_succ, List.length_cons, List.length_nil, ↓reduceIte, decide_eq_true_eq, ev_add, ev_iadd, ev_sub, ev_mod, ev_neg, ev_lt, ev_le, ev_gt, ev_ge, ev_eqI, ev_neI, ev_eqS, ev_neS, ev_isN, ev_int, ev_abs, ev_max, ev_min, ev_lenT, ev_lenC, ev_tupT, Int.reduceLT, Int.reduceLE, Int.reduceNeg, Int.reduceAdd, Int.reduceSub, Int.reduceEq, Nat.reduceAdd, Nat.reduceSub, and_self, ↓List.map_cons, ↓List.map_nil, ↓List.cons_append, ↓List.nil_append, List.replicate, ixT0, ixT1, ixT2, ixT3, ixTm1, ixTm2, ixTm3, onH_get, onH_set, onH_push, onH_len, mkB_get, mkB_set, mkB_push, mkB_len, mkB_next, Option.getD_some, Option.getD_none, sz0, sz1, sz2, sz3, sz4, sz5, sz6, sz7, sz8, sz9, ev_keyI, ev_keyS, ev_eqB, ev_neB, wp_one, wp_yes, wp_valsI, wp_keysI, wp_lcE, sz10, sz11, sz12, sz13, sz14, sz15, sz16, sz17, sz18, sz19, sz20, sz21, sz22, sz23, sz24, sz25, sz26, sz27, sz28, sz29, sz30, Bool.false_eq_true, Bool.not_eq_true', decide_eq_false_iff_not, Bool.not_true, Bool.not_false, ite_and2, ite_or2, ite_tand, not_true_eq_false, not_false_eq_true, ↓wp_runB]
  rw [pick_is]
  refine w.pickK (by decide) fun v h1 v0 v1 w1 => ?_
  simp only [↓wp_seq, ↓wp_skip, ↓wp_drop, ↓wp_ret, ↓wp_retN, ↓wp_brk, ↓wp_cnt, ↓wp_if, ↓wp_asg, ↓wp_to, ↓wp_tos, ↓wp_toIx, ↓wp_aug, ↓wp_augK, ↓wp_fldSet, ↓wp_fldAug, ↓wp_var, ↓wp_c, ↓wp_op, ↓wp_un, ↓wp_nil, ↓wp_cons, ↓wp_tup, ↓wp_lst, ↓wp_dict0, ↓wp_dict, ↓wp_pairs0, ↓wp_pairs, ↓wp_call, ↓wp_callF, ↓wp_tru, ↓wp_bl, ↓wp_and, ↓wp_or, ↓wp_not, ↓wp_andV, ↓wp_orV, ↓wp_notV, ↓wp_part, ↓wp_noPart, ↓wp_sl, ↓wp_bm, ↓wp_ifE, ↓wp_fld, ↓wp_meth, ↓wp_make, ↓wp_lockE, ↓wp_rng1, ↓wp_rng2, ↓wp_seqI, ↓wpR_ok, ↓wpS_nx, ↓wpS_rt, List.getElem?_cons_zero, List.getElem?_cons_succ, List.set_cons_zero, List.set_cons_succ, List.length_cons, List.length_nil, ↓reduceIte, decide_eq_true_eq, ev_add, ev_iadd, ev_sub, ev_mod, ev_neg, ev_lt, ev_le, ev_gt, ev_ge, ev_eqI, ev_neI, ev_eqS, ev_neS, ev_isN, ev_int, ev_abs, ev_max, ev_min, ev_lenT, ev_lenC, ev_tupT, Int.reduceLT, Int.reduceLE, Int.reduceNeg, Int.reduceAdd, Int.reduceSub, Int.reduceEq, Nat.reduceAdd, Nat.reduceSub, and_self, ↓List.map_cons, ↓List.map_nil, ↓List.cons_append, ↓List.nil_append, List.replicate, ixT0, ixT1, ixT2, ixT3, ixTm1, ixTm2, ixTm3, onH_get, onH_set, onH_push, onH_len, mkB_get, mkB_set, mkB_push, mkB_len, mkB_next, Option.getD_some, Option.getD_none, sz0, sz1, sz2, sz3, sz4, sz5, sz6, sz7, sz8, sz9, ev_keyI, ev_keyS, ev_eqB, ev_neB, wp_one, wp_yes, wp_valsI, wp_keysI, wp_lcE, sz10, sz11, sz12, sz13, sz14, sz15, sz16, sz17, sz18, sz19, sz20, sz21, sz22, sz23, sz24, sz25, sz26, sz27, sz28, sz29, sz30, Bool.false_eq_true, Bool.not_eq_true', decide_eq_false_iff_not, Bool.not_true, Bool.not_false, ite_and2, ite_or2, ite_tand, not_true_eq_false, not_false_eq_true]
  have mem : ∀ {kd : Str} {xs : List Str} {x : Str}, x ∈ xs → (∀ q ∈ xs.map (fun x => (kd, x)), q ∈ table) → (kd, x) ∈ table := fun {kd xs x} hx q => q _ (List.mem_map.mpr ⟨x, hx, rfl⟩)
  have t1 : ∀ q ∈ names.map (fun x => (("name" : Str), x)), q ∈ table := fun q hq => List.mem_append_left _ hq
  have t2 : ∀ q ∈ cons.map (fun x => (("con" : Str), x)), q ∈ table := fun q hq => List.mem_append_right _ (List.mem_append_left _ hq)
  have t3 : ∀ q ∈ nums.map (fun x => (("number" : Str), x)), q ∈ table := fun q hq => List.mem_append_right _ (List.mem_append_right _ (List.mem_append_left _ hq))
  have t4 : ∀ q ∈ keys.map (fun x => (("keyword" : Str), x)), q ∈ table := fun q hq => List.mem_append_right _ (List.mem_append_right _ (List.mem_append_right _ (List.mem_append_left _ hq)))
  have t5 : ∀ q ∈ signs.map (fun x => (("sign" : Str), x)), q ∈ table := fun q hq => List.mem_append_right _ (List.mem_append_right _ (List.mem_append_right _ (List.mem_append_right _ (List.mem_append_left _ hq))))
  have t6 : ∀ q ∈ alones.map (fun x => (("sign" : Str), x)), q ∈ table := fun q hq => List.mem_append_right _ (List.mem_append_right _ (List.mem_append_right _ (List.mem_append_right _ (List.mem_append_right _ hq))))
  refine ite2 (fun c => ?_) (fun c => ?_)
  · refine pick_list (xs := names) w1 (by decide) (by decide) fun x h2 hx w2 => ?_
    exact k (("name" : Str), x) h2 (mem hx t1) w2
  · refine ite2 (fun c => ?_) (fun c => ?_)
    · refine pick_list (xs := cons) w1 (by decide) (by decide) fun x h2 hx w2 => ?_
      exact k (("con" : Str), x) h2 (mem hx t2) w2
    · refine ite2 (fun c => ?_) (fun c => ?_)
      · refine pick_list (xs := nums) w1 (by decide) (by decide) fun x h2 hx w2 => ?_
        exact k (("number" : Str), x) h2 (mem hx t3) w2
      · refine ite2 (fun c => ?_) (fun c => ?_)
        · refine pick_list (xs := keys) w1 (by decide) (by decide) fun x h2 hx w2 => ?_
          exact k (("keyword" : Str), x) h2 (mem hx t4) w2
        · refine ite2 (fun c => ?_) (fun c => ?_)
          · refine pick_list (xs := signs) w1 (by decide) (by decide) fun x h2 hx w2 => ?_
            exact k (("sign" : Str), x) h2 (mem hx t5) w2
          · refine pick_list (xs := alones) w1 (by decide) (by decide) fun x h2 hx w2 => ?_
            exact k (("sign" : Str), x) h2 (mem hx t6) w2
theorem len_firsts : ∀ x ∈ firsts, x.length ≤ 10 := by decide +kernel
theorem len_mores : ∀ x ∈ mores, x.length ≤ 40 := by decide +kernel
theorem len_table : ∀ p ∈ table, p.2.length ≤ 20 := by decide +kernel
theorem len_begins : ∀ x ∈ begins, x.length ≤ 20 := by decide +kernel
theorem len_ends : ∀ x ∈ ends, x.length ≤ 20 := by decide +kernel
theorem between_ok (w : DA ds s h0 h) (k : ∀ (a b : Str) (h' : HS), a ∈ firsts → b ∈ mores → DA ds s h0 h' → P (.str (a ++ b)) h') : wpR (f_z_between [.ref 1] h) P X := by
  unfold f_z_between m_z_between
  simp only [↓wp_seq, ↓wp_skip, ↓wp_drop, ↓wp_ret, ↓wp_retN, ↓wp_brk, ↓wp_cnt, ↓wp_if, ↓wp_asg, ↓wp_to, ↓wp_tos, ↓wp_toIx, ↓wp_aug, ↓wp_augK, ↓wp_fldSet, ↓wp_fldAug, ↓wp_var, ↓wp_c, ↓wp_op, ↓wp_un, ↓wp_nil, ↓wp_cons, ↓wp_tup, ↓wp_lst, ↓wp_dict0, ↓wp_dict, ↓wp_pairs0, ↓wp_pairs, ↓wp_call, ↓wp_callF, ↓wp_tru, ↓wp_bl, ↓wp_and, ↓wp_or, ↓wp_not, ↓wp_andV, ↓wp_orV, ↓wp_notV, ↓wp_part, ↓wp_noPart, ↓wp_sl, ↓wp_bm, ↓wp_ifE, ↓wp_fld, ↓wp_meth, ↓wp_make, ↓wp_lockE, ↓wp_rng1, ↓wp_rng2, ↓wp_seqI, ↓wpR_ok, ↓wpS_nx, ↓wpS_rt, List.getElem?_cons_zero, List.getElem?_cons_succ, List.set_cons_zero, List.set_cons_succ, List.length_cons, List.length_nil, ↓reduceIte, decide_eq_true_eq, ev_add, ev_iadd, ev_sub, ev_mod, ev_neg, ev_lt, ev_le, ev_gt, ev_ge, ev_eqI, ev_neI, ev_eqS, ev_neS, ev_isN, ev_int, ev_abs, ev_max, ev_min, ev_lenT, ev_lenC, ev_tupT, Int.reduceLT, Int.reduceLE, Int.reduceNeg, Int.reduceAdd, Int.reduceSub, Int.reduceEq, Nat.reduceAdd, Nat.reduceSub, and_self, ↓List.map_cons, ↓List.map_nil, ↓List.cons_append, ↓List.nil_append, List.replicate, ixT0, ixT1, ixT2, ixT3, ixTm1, ixTm2, ixTm3, onH_get, onH_set, onH_push, onH_len, mkB_get, mkB_set, mkB_push, mkB_len, mkB_next, Option.getD_some, Option.getD_none, sz0, sz1, sz2, sz3, sz4, sz5, sz6, sz7, sz8, sz9, ev_keyI, ev_keyS, ev_eqB, ev_neB, wp_one, wp_yes, wp_valsI, wp_keysI, wp_lcE, sz10, sz11, sz12, sz13, sz14, sz15, sz16, sz17, sz18, sz19, sz20, sz21, sz22, sz23, sz24, sz25, sz26, sz27, sz28, sz29, sz30, Bool.false_eq_true, Bool.not_eq_true', decide_eq_false_iff_not, Bool.not_true, Bool.not_false, ite_and2, ite_or2, ite_tand, not_true_eq_false, not_false_eq_true, ↓wp_runB]
  refine pick_list (xs := firsts) w (by decide) (by decide) fun a h1 ha w1 => ?_
  (try simp only [↓wp_seq, ↓wp_skip, ↓wp_drop, ↓wp_ret, ↓wp_retN, ↓wp_brk, ↓wp_cnt, ↓wp_if, ↓wp_asg, ↓wp_to, ↓wp_tos, ↓wp_toIx, ↓wp_aug, ↓wp_augK, ↓wp_fldSet, ↓wp_fldAug, ↓wp_var, ↓wp_c, ↓wp_op, ↓wp_un, ↓wp_nil, ↓wp_cons, ↓wp_tup, ↓wp_lst, ↓wp_dict0, ↓wp_dict, ↓wp_pairs0, ↓wp_pairs, ↓wp_call, ↓wp_callF, ↓wp_tru, ↓wp_bl, ↓wp_and, ↓wp_or, ↓wp_not, ↓wp_andV, ↓wp_orV, ↓wp_notV, ↓wp_part, ↓wp_noPart, ↓wp_sl, ↓wp_bm, ↓wp_ifE, ↓wp_fld, ↓wp_meth, ↓wp_make, ↓wp_lockE, ↓wp_rng1, ↓wp_rng2, ↓wp_seqI, ↓wpR_ok, ↓wpS_nx, ↓wpS_rt, List.getElem?_cons_zero, List.getElem?_cons_succ, List.set_cons_zero, List.set_cons_succ, List.length_cons, List.length_nil, ↓reduceIte, decide_eq_true_eq, ev_add, ev_iadd, ev_sub, ev_mod, ev_neg, ev_lt, ev_le, ev_gt, ev_ge, ev_eqI, ev_neI, ev_eqS, ev_neS, ev_isN, ev_int, ev_abs, ev_max, ev_min, ev_lenT, ev_lenC, ev_tupT, Int.reduceLT, Int.reduceLE, Int.reduceNeg, Int.reduceAdd, Int.reduceSub, Int.reduceEq, Nat.reduceAdd, Nat.reduceSub, and_self, ↓List.map_cons, ↓List.map_nil, ↓List.cons_append, ↓List.nil_append, List.replicate, ixT0, ixT1, ixT2, ixT3, ixTm1, ixTm2, ixTm3, onH_get, onH_set, onH_push, onH_len, mkB_get, mkB_set, mkB_push, mkB_len, mkB_next, Option.getD_some, Option.getD_none, sz0, sz1, sz2, sz3, sz4, sz5, sz6, sz7, sz8, sz9, ev_keyI, ev_keyS, ev_eqB, ev_neB, wp_one, wp_yes, wp_valsI, wp_keysI, wp_lcE, sz10, sz11, sz12, sz13, sz14, sz15, sz16, sz17, sz18, sz19, sz20, sz21, sz22, sz23, sz24, sz25, sz26, sz27, sz28, sz29, sz30, Bool.false_eq_true, Bool.not_eq_true', decide_eq_false_iff_not, Bool.not_true, Bool.not_false, ite_and2, ite_or2, ite_tand, not_true_eq_false, not_false_eq_true])
  refine pick_list (xs := mores) w1 (by decide) (by decide) fun b h2 hb w2 => ?_
  (try simp only [↓wp_seq, ↓wp_skip, ↓wp_drop, ↓wp_ret, ↓wp_retN, ↓wp_brk, ↓wp_cnt, ↓wp_if, ↓wp_asg, ↓wp_to, ↓wp_tos, ↓wp_toIx, ↓wp_aug, ↓wp_augK, ↓wp_fldSet, ↓wp_fldAug, ↓wp_var, ↓wp_c, ↓wp_op, ↓wp_un, ↓wp_nil, ↓wp_cons, ↓wp_tup, ↓wp_lst, ↓wp_dict0, ↓wp_dict, ↓wp_pairs0, ↓wp_pairs, ↓wp_call, ↓wp_callF, ↓wp_tru, ↓wp_bl, ↓wp_and, ↓wp_or, ↓wp_not, ↓wp_andV, ↓wp_orV, ↓wp_notV, ↓wp_part, ↓wp_noPart, ↓wp_sl, ↓wp_bm, ↓wp_ifE, ↓wp_fld, ↓wp_meth, ↓wp_make, ↓wp_lockE, ↓wp_rng1, ↓wp_rng2, ↓wp_seqI, ↓wpR_ok, ↓wpS_nx, ↓wpS_rt, List.getElem?_cons_zero, List.getElem?_cons_succ, List.set_cons_zero, List.set_cons_succ, List.length_cons, List.length_nil, ↓reduceIte, decide_eq_true_eq, ev_add, ev_iadd, ev_sub, ev_mod, ev_neg, ev_lt, ev_le, ev_gt, ev_ge, ev_eqI, ev_neI, ev_eqS, ev_neS, ev_isN, ev_int, ev_abs, ev_max, ev_min, ev_lenT, ev_lenC, ev_tupT, Int.reduceLT, Int.reduceLE, Int.reduceNeg, Int.reduceAdd, Int.reduceSub, Int.reduceEq, Nat.reduceAdd, Nat.reduceSub, and_self, ↓List.map_cons, ↓List.map_nil, ↓List.cons_append, ↓List.nil_append, List.replicate, ixT0, ixT1, ixT2, ixT3, ixTm1, ixTm2, ixTm3, onH_get, onH_set, onH_push, onH_len, mkB_get, mkB_set, mkB_push, mkB_len, mkB_next, Option.getD_some, Option.getD_none, sz0, sz1, sz2, sz3, sz4, sz5, sz6, sz7, sz8, sz9, ev_keyI, ev_keyS, ev_eqB, ev_neB, wp_one, wp_yes, wp_valsI, wp_keysI, wp_lcE, sz10, sz11, sz12, sz13, sz14, sz15, sz16, sz17, sz18, sz19, sz20, sz21, sz22, sz23, sz24, sz25, sz26, sz27, sz28, sz29, sz30, Bool.false_eq_true, Bool.not_eq_true', decide_eq_false_iff_not, Bool.not_true, Bool.not_false, ite_and2, ite_or2, ite_tand, not_true_eq_false, not_false_eq_true])
  rw [ev_addS (Nat.le_trans (Nat.add_le_add (len_firsts a ha) (len_mores b hb)) (by decide)), wpR_ok]
  exact k a b h2 ha hb w2
/-- the list of what is due stands at a place of its own -/
structure Du (ds : List Int) (s : Int) (h0 : HS) (q : Nat) (due : List TkP) (h : HS) : Prop where
  w : DA ds s h0 h
  le : h0.length ≤ q
  e : h[q]? = some (.lst (due.map tpD))
theorem Du.da {q : Nat} {due : List TkP} {h' : HS} (u : Du ds s h0 q due h) (w : DA ds s h h') : Du ds s h0 q due h' :=
  ⟨u.w.trans w, u.le, w.get (by have := u.le; have := u.w.two; omega) u.e⟩
theorem Du.app {q : Nat} {due due' : List TkP} (u : Du ds s h0 q due h) : Du ds s h0 q due' (h.set q (.lst (due'.map tpD))) :=
  ⟨u.w.setp u.le, u.le, get_set u.e⟩
theorem law_r1_ok {q : Nat} {due : List TkP} {x y last kd : Str} {a0 a5 a8 a9 a10 a11 : Option D} {N : Sl → HS → Prop} {T : Tl} (u : Du ds s h0 q due h) (hl : due.length ≤ 1000) (hx : x.length ≤ 90000) (hy : y.length ≤ 20)
    (k : ∀ (h' : HS) (a8 a9 : Option D), Du ds s h0 q (due ++ [⟨kd, cd y, (adv (1, 1) (cd x)).1, (adv (1, 1) (cd x)).2⟩]) h' → N [a0, some (.ref 1), some (.str (x ++ y)), some (.ref q), some (.str y), a5, some (.str kd), some (.str y), a8, a9, a10, a11] h') :
    wpS (m_law_r1 [a0, some (.ref 1), some (.str x), some (.ref q), some (.str last), a5, some (.str kd), some (.str y), a8, a9, a10, a11] h) N T := by
  unfold m_law_r1
  simp only [↓wp_seq, ↓wp_skip, ↓wp_drop, ↓wp_ret, ↓wp_retN, ↓wp_brk, ↓wp_cnt, ↓wp_if, ↓wp_asg, ↓wp_to, ↓wp_tos, ↓wp_toIx, ↓wp_aug, ↓wp_augK, ↓wp_fldSet, ↓wp_fldAug, ↓wp_var, ↓wp_c, ↓wp_op, ↓wp_un, ↓wp_nil, ↓wp_cons, ↓wp_tup, ↓wp_lst, ↓wp_dict0, ↓wp_dict, ↓wp_pairs0, ↓wp_pairs, ↓wp_call, ↓wp_callF, ↓wp_tru, ↓wp_bl, ↓wp_and, ↓wp_or, ↓wp_not, ↓wp_andV, ↓wp_orV, ↓wp_notV, ↓wp_part, ↓wp_noPart, ↓wp_sl, ↓wp_bm, ↓wp_ifE, ↓wp_fld, ↓wp_meth, ↓wp_make, ↓wp_lockE, ↓wp_rng1, ↓wp_rng2, ↓wp_seqI, ↓wpR_ok, ↓wpS_nx, ↓wpS_rt, List.getElem?_cons_zero, List.getElem?_cons_succ, List.set_cons_zero, List.set_cons_succ, List.length_cons, List.length_nil, ↓reduceIte, decide_eq_true_eq, ev_add, ev_iadd, ev_sub, ev_mod, ev_neg, ev_lt, ev_le, ev_gt, ev_ge, ev_eqI, ev_neI, ev_eqS, ev_neS, ev_isN, ev_int, ev_abs, ev_max, ev_min, ev_lenT, ev_lenC, ev_tupT, Int.reduceLT, Int.reduceLE, Int.reduceNeg, Int.reduceAdd, Int.reduceSub, Int.reduceEq, Nat.reduceAdd, Nat.reduceSub, and_self, ↓List.map_cons, ↓List.map_nil, ↓List.cons_append, ↓List.nil_append, List.replicate, ixT0, ixT1, ixT2, ixT3, ixTm1, ixTm2, ixTm3, onH_get, onH_set, onH_push, onH_len, mkB_get, mkB_set, mkB_push, mkB_len, mkB_next, Option.getD_some, Option.getD_none, sz0, sz1, sz2, sz3, sz4, sz5, sz6, sz7, sz8, sz9, ev_keyI, ev_keyS, ev_eqB, ev_neB, wp_one, wp_yes, wp_valsI, wp_keysI, wp_lcE, sz10, sz11, sz12, sz13, sz14, sz15, sz16, sz17, sz18, sz19, sz20, sz21, sz22, sz23, sz24, sz25, sz26, sz27, sz28, sz29, sz30, Bool.false_eq_true, Bool.not_eq_true', decide_eq_false_iff_not, Bool.not_true, Bool.not_false, ite_and2, ite_or2, ite_tand, not_true_eq_false, not_false_eq_true]
  refine place_ok (by omega) ?_
  (try simp only [↓wp_seq, ↓wp_skip, ↓wp_drop, ↓wp_ret, ↓wp_retN, ↓wp_brk, ↓wp_cnt, ↓wp_if, ↓wp_asg, ↓wp_to, ↓wp_tos, ↓wp_toIx, ↓wp_aug, ↓wp_augK, ↓wp_fldSet, ↓wp_fldAug, ↓wp_var, ↓wp_c, ↓wp_op, ↓wp_un, ↓wp_nil, ↓wp_cons, ↓wp_tup, ↓wp_lst, ↓wp_dict0, ↓wp_dict, ↓wp_pairs0, ↓wp_pairs, ↓wp_call, ↓wp_callF, ↓wp_tru, ↓wp_bl, ↓wp_and, ↓wp_or, ↓wp_not, ↓wp_andV, ↓wp_orV, ↓wp_notV, ↓wp_part, ↓wp_noPart, ↓wp_sl, ↓wp_bm, ↓wp_ifE, ↓wp_fld, ↓wp_meth, ↓wp_make, ↓wp_lockE, ↓wp_rng1, ↓wp_rng2, ↓wp_seqI, ↓wpR_ok, ↓wpS_nx, ↓wpS_rt, List.getElem?_cons_zero, List.getElem?_cons_succ, List.set_cons_zero, List.set_cons_succ, List.length_cons, List.length_nil, ↓reduceIte, decide_eq_true_eq, ev_add, ev_iadd, ev_sub, ev_mod, ev_neg, ev_lt, ev_le, ev_gt, ev_ge, ev_eqI, ev_neI, ev_eqS, ev_neS, ev_isN, ev_int, ev_abs, ev_max, ev_min, ev_lenT, ev_lenC, ev_tupT, Int.reduceLT, Int.reduceLE, Int.reduceNeg, Int.reduceAdd, Int.reduceSub, Int.reduceEq, Nat.reduceAdd, Nat.reduceSub, and_self, ↓List.map_cons, ↓List.map_nil, ↓List.cons_append, ↓List.nil_append, List.replicate, ixT0, ixT1, ixT2, ixT3, ixTm1, ixTm2, ixTm3, onH_get, onH_set, onH_push, onH_len, mkB_get, mkB_set, mkB_push, mkB_len, mkB_next, Option.getD_some, Option.getD_none, sz0, sz1, sz2, sz3, sz4, sz5, sz6, sz7, sz8, sz9, ev_keyI, ev_keyS, ev_eqB, ev_neB, wp_one, wp_yes, wp_valsI, wp_keysI, wp_lcE, sz10, sz11, sz12, sz13, sz14, sz15, sz16, sz17, sz18, sz19, sz20, sz21, sz22, sz23, sz24, sz25, sz26, sz27, sz28, sz29, sz30, Bool.false_eq_true, Bool.not_eq_true', decide_eq_false_iff_not, Bool.not_true, Bool.not_false, ite_and2, ite_or2, ite_tand, not_true_eq_false, not_false_eq_true, setAll])
  rw [if_pos (ev_tyL u.e), ev_app u.e (by rw [List.length_map]; exact Nat.lt_of_le_of_lt hl (by decide)), wpR_ok]
  (try simp only [↓wp_seq, ↓wp_skip, ↓wp_drop, ↓wp_ret, ↓wp_retN, ↓wp_brk, ↓wp_cnt, ↓wp_if, ↓wp_asg, ↓wp_to, ↓wp_tos, ↓wp_toIx, ↓wp_aug, ↓wp_augK, ↓wp_fldSet, ↓wp_fldAug, ↓wp_var, ↓wp_c, ↓wp_op, ↓wp_un, ↓wp_nil, ↓wp_cons, ↓wp_tup, ↓wp_lst, ↓wp_dict0, ↓wp_dict, ↓wp_pairs0, ↓wp_pairs, ↓wp_call, ↓wp_callF, ↓wp_tru, ↓wp_bl, ↓wp_and, ↓wp_or, ↓wp_not, ↓wp_andV, ↓wp_orV, ↓wp_notV, ↓wp_part, ↓wp_noPart, ↓wp_sl, ↓wp_bm, ↓wp_ifE, ↓wp_fld, ↓wp_meth, ↓wp_make, ↓wp_lockE, ↓wp_rng1, ↓wp_rng2, ↓wp_seqI, ↓wpR_ok, ↓wpS_nx, ↓wpS_rt, List.getElem?_cons_zero, List.getElem?_cons_succ, List.set_cons_zero, List.set_cons_succ, List.length_cons, List.length_nil, ↓reduceIte, decide_eq_true_eq, ev_add, ev_iadd, ev_sub, ev_mod, ev_neg, ev_lt, ev_le, ev_gt, ev_ge, ev_eqI, ev_neI, ev_eqS, ev_neS, ev_isN, ev_int, ev_abs, ev_max, ev_min, ev_lenT, ev_lenC, ev_tupT, Int.reduceLT, Int.reduceLE, Int.reduceNeg, Int.reduceAdd, Int.reduceSub, Int.reduceEq, Nat.reduceAdd, Nat.reduceSub, and_self, ↓List.map_cons, ↓List.map_nil, ↓List.cons_append, ↓List.nil_append, List.replicate, ixT0, ixT1, ixT2, ixT3, ixTm1, ixTm2, ixTm3, onH_get, onH_set, onH_push, onH_len, mkB_get, mkB_set, mkB_push, mkB_len, mkB_next, Option.getD_some, Option.getD_none, sz0, sz1, sz2, sz3, sz4, sz5, sz6, sz7, sz8, sz9, ev_keyI, ev_keyS, ev_eqB, ev_neB, wp_one, wp_yes, wp_valsI, wp_keysI, wp_lcE, sz10, sz11, sz12, sz13, sz14, sz15, sz16, sz17, sz18, sz19, sz20, sz21, sz22, sz23, sz24, sz25, sz26, sz27, sz28, sz29, sz30, Bool.false_eq_true, Bool.not_eq_true', decide_eq_false_iff_not, Bool.not_true, Bool.not_false, ite_and2, ite_or2, ite_tand, not_true_eq_false, not_false_eq_true])
  rw [ev_addS (Nat.le_trans (show x.length + y.length ≤ 100000 by omega) (by decide)), wpR_ok]
  have e : due.map tpD ++ [D.tup [.str kd, .str y, .int (adv (1, 1) (cd x)).1, .int (adv (1, 1) (cd x)).2]] = (due ++ [TkP.mk kd (cd y) (adv (1, 1) (cd x)).1 (adv (1, 1) (cd x)).2]).map tpD := by
    rw [List.map_append]
    simp only [List.map_cons, List.map_nil, tpD, ofL_cd]
  rw [e]
  exact k _ _ _ u.app
theorem len_app (x y : Str) : (x ++ y).length = x.length + y.length := by
  have := congrArg List.length (cd_app x y)
  rw [List.length_append] at this
  exact this
theorem table_str : ∀ p ∈ table, PyData.strOk p.1 = true ∧ PyData.strOk p.2 = true := by decide +kernel
/-- what is due are words of the table -/
def Ok (t : TkP) : Prop := PyData.strOk t.kd = true ∧ PyData.strOk (ofL t.w) = true
theorem due_okD {l : List TkP} (h : ∀ t ∈ l, Ok t) : (l.map tpD).all (okD 3) = true := by
  rw [List.all_eq_true]
  intro d hd
  obtain ⟨u, hu, rfl⟩ := List.mem_map.mp hd
  obtain ⟨a, b⟩ := h u hu
  simp [tpD, okD, a, b]
def Turn (ds : List Int) (s : Int) (h0 : HS) (q : Nat) (j : Nat) (σ : Sl) (h : HS) : Prop := ∃ (a0 a5 a6 a7 a8 a9 a10 a11 : Option D) (x last : Str) (due : List TkP), σ = [a0, some (.ref 1), some (.str x), some (.ref q), some (.str last), a5, a6, a7, a8, a9, a10, a11] ∧
  Du ds s h0 q due h ∧ Sofar x due last ∧ x.length ≤ 20 + 100 * j ∧ due.length = j ∧ (j = 0 → last = "(") ∧ ∀ t ∈ due, Ok t
theorem law_b2_ok {q j : Nat} {a0 a6 a7 a8 a9 a10 a11 : Option D} {x last : Str} {due : List TkP} {N : Sl → HS → Prop} {T : Tl} (u : Du ds s h0 q due h) (S : Sofar x due last) (hx : x.length ≤ 20 + 100 * j) (hd : due.length = j) (hj : j < 120) (hl : j = 0 → last = "(") (hok : ∀ t ∈ due, Ok t)
    (k : ∀ σ h', Turn ds s h0 q (j + 1) σ h' → N σ h') :
    wpS (m_law_b2 [a0, some (.ref 1), some (.str x), some (.ref q), some (.str last), some (.int (0 + (j : Int))), a6, a7, a8, a9, a10, a11] h) N T := by
  unfold m_law_b2
  simp only [↓wp_seq, ↓wp_skip, ↓wp_drop, ↓wp_ret, ↓wp_retN, ↓wp_brk, ↓wp_cnt, ↓wp_if, ↓wp_asg, ↓wp_to, ↓wp_tos, ↓wp_toIx, ↓wp_aug, ↓wp_augK, ↓wp_fldSet, ↓wp_fldAug, ↓wp_var, ↓wp_c, ↓wp_op, ↓wp_un, ↓wp_nil, ↓wp_cons, ↓wp_tup, ↓wp_lst, ↓wp_dict0, ↓wp_dict, ↓wp_pairs0, ↓wp_pairs, ↓wp_call, ↓wp_callF, ↓wp_tru, ↓wp_bl, ↓wp_and, ↓wp_or, ↓wp_not, ↓wp_andV, ↓wp_orV, ↓wp_notV, ↓wp_part, ↓wp_noPart, ↓wp_sl, ↓wp_bm, ↓wp_ifE, ↓wp_fld, ↓wp_meth, ↓wp_make, ↓wp_lockE, ↓wp_rng1, ↓wp_rng2, ↓wp_seqI, ↓wpR_ok, ↓wpS_nx, ↓wpS_rt, List.getElem?_cons_zero, List.getElem?_cons_succ, List.set_cons_zero, List.set_cons_succ, List.length_cons, List.length_nil, ↓reduceIte, decide_eq_true_eq, ev_add, ev_iadd, ev_sub, ev_mod, ev_neg, ev_lt, ev_le, ev_gt, ev_ge, ev_eqI, ev_neI, ev_eqS, ev_neS, ev_isN, ev_int, ev_abs, ev_max, ev_min, ev_lenT, ev_lenC, ev_tupT, Int.reduceLT, Int.reduceLE, Int.reduceNeg, Int.reduceAdd, Int.reduceSub, Int.reduceEq, Nat.reduceAdd, Nat.reduceSub, and_self, ↓List.map_cons, ↓List.map_nil, ↓List.cons_append, ↓List.nil_append, List.replicate, ixT0, ixT1, ixT2, ixT3, ixTm1, ixTm2, ixTm3, onH_get, onH_set, onH_push, onH_len, mkB_get, mkB_set, mkB_push, mkB_len, mkB_next, Option.getD_some, Option.getD_none, sz0, sz1, sz2, sz3, sz4, sz5, sz6, sz7, sz8, sz9, ev_keyI, ev_keyS, ev_eqB, ev_neB, wp_one, wp_yes, wp_valsI, wp_keysI, wp_lcE, sz10, sz11, sz12, sz13, sz14, sz15, sz16, sz17, sz18, sz19, sz20, sz21, sz22, sz23, sz24, sz25, sz26, sz27, sz28, sz29, sz30, Bool.false_eq_true, Bool.not_eq_true', decide_eq_false_iff_not, Bool.not_true, Bool.not_false, ite_and2, ite_or2, ite_tand, not_true_eq_false, not_false_eq_true]
  refine word_ok u.w.self fun p h1 hp w1 => ?_
  have u1 := u.da w1
  have hpl := len_table p hp
  have go : ∀ (sep : Str) (h' : HS), Du ds s h0 q due h' → sepM 60 (cd sep) = true → sep.length ≤ 50 → (∀ r, Next p.2 r → Next last (cd sep ++ (cd p.2 ++ r))) →
      wpS (m_law_r1 [a0, some (.ref 1), some (.str (x ++ sep)), some (.ref q), some (.str last), some (.int (0 + (j : Int))), some (.str p.1), some (.str p.2), a8, a9, a10, a11] h') N T := fun sep h' u' hs hsl hn => by
    have hxs : (x ++ sep).length = x.length + sep.length := len_app _ _
    refine law_r1_ok u' (by omega) (by omega) hpl fun h2 b8 b9 u2 => ?_
    refine k _ _ ⟨_, _, _, _, _, _, _, _, _, _, _, rfl, u2, ?_, ?_, by rw [List.length_append, hd]; rfl, fun z => by omega, fun t ht => ?_⟩
    · have := sofar_step S hp hs hn
      rw [← cd_app] at this
      exact this
    · have : (x ++ sep ++ p.2).length = (x ++ sep).length + p.2.length := len_app _ _
      omega
    · rcases List.mem_append.mp ht with z | z
      · exact hok t z
      · rw [List.mem_singleton.mp z]
        exact ⟨(table_str p hp).1, by show PyData.strOk (ofL (cd p.2)) = true; rw [ofL_cd]; exact (table_str p hp).2⟩
  have e0 : x ++ ("" : Str) = x := str_ext (by rw [cd_app, show cd ("" : Str) = [] by decide +kernel, List.append_nil])
  have none : ∀ h', Du ds s h0 q due h' → (last ∈ alones ∨ p.2 ∈ alones) → wpS (m_law_r1 [a0, some (.ref 1), some (.str x), some (.ref q), some (.str last), some (.int (0 + (j : Int))), some (.str p.1), some (.str p.2), a8, a9, a10, a11] h') N T := fun h' u' hal => by
    have := go "" h' u' (by decide +kernel) (by decide +kernel) fun r n => by
      rw [show cd ("" : Str) = [] by decide +kernel, List.nil_append]
      rcases hal with z | z
      · exact .inl z
      · obtain ⟨c, e, hc⟩ := alone_code _ z
        exact .inr (.inr ⟨c, r, by rw [e]; rfl, .inr (.inr hc)⟩)
    rw [e0] at this
    exact this
  have betw : ∀ h', Du ds s h0 q due h' → (if (0 : Int) < 0 + (j : Int) then wpR (f_z_between [.ref 1] h') (fun y h => wpR (dAdd (.str x) y h) (fun d h => wpS (m_law_r1 [a0, some (.ref 1), some d, some (.ref q), some (.str last), some (.int (0 + (j : Int))), some (.str p.1), some (.str p.2), a8, a9, a10, a11] h) N T) (fun e h => T.ex e [a0, some (.ref 1), some (.str x), some (.ref q), some (.str last), some (.int (0 + (j : Int))), some (.str p.1), some (.str p.2), a8, a9, a10, a11] h)) (fun e h => T.ex e [a0, some (.ref 1), some (.str x), some (.ref q), some (.str last), some (.int (0 + (j : Int))), some (.str p.1), some (.str p.2), a8, a9, a10, a11] h)
      else wpS (m_law_r1 [a0, some (.ref 1), some (.str x), some (.ref q), some (.str last), some (.int (0 + (j : Int))), some (.str p.1), some (.str p.2), a8, a9, a10, a11] h') N T) := fun h' u' => by
    by_cases c : (0 : Int) < 0 + (j : Int)
    · rw [if_pos c]
      refine between_ok u'.w.self fun a b h2 ha hb w2 => ?_
      have hab : (a ++ b).length ≤ 50 := by
        have h1 := len_firsts a ha
        have h2 := len_mores b hb
        have : (a ++ b).length = a.length + b.length := len_app _ _
        omega
      rw [ev_addS (Nat.le_trans (show x.length + (a ++ b).length ≤ 100000 by omega) (by decide)), wpR_ok]
      refine go (a ++ b) h2 (u'.da w2) (by rw [cd_app]; exact seps a ha b hb) hab fun r n => ?_
      rw [cd_app, List.append_assoc]
      rcases first_head a ha with z | z
      · exact next_head z (.inl rfl)
      · exact next_head z (.inr rfl)
    · rw [if_neg c]
      exact none h' u' (.inl (by rw [hl (by omega)]; decide))
  (try simp only [↓wp_seq, ↓wp_skip, ↓wp_drop, ↓wp_ret, ↓wp_retN, ↓wp_brk, ↓wp_cnt, ↓wp_if, ↓wp_asg, ↓wp_to, ↓wp_tos, ↓wp_toIx, ↓wp_aug, ↓wp_augK, ↓wp_fldSet, ↓wp_fldAug, ↓wp_var, ↓wp_c, ↓wp_op, ↓wp_un, ↓wp_nil, ↓wp_cons, ↓wp_tup, ↓wp_lst, ↓wp_dict0, ↓wp_dict, ↓wp_pairs0, ↓wp_pairs, ↓wp_call, ↓wp_callF, ↓wp_tru, ↓wp_bl, ↓wp_and, ↓wp_or, ↓wp_not, ↓wp_andV, ↓wp_orV, ↓wp_notV, ↓wp_part, ↓wp_noPart, ↓wp_sl, ↓wp_bm, ↓wp_ifE, ↓wp_fld, ↓wp_meth, ↓wp_make, ↓wp_lockE, ↓wp_rng1, ↓wp_rng2, ↓wp_seqI, ↓wpR_ok, ↓wpS_nx, ↓wpS_rt, List.getElem?_cons_zero, List.getElem?_cons_succ, List.set_cons_zero, List.set_cons_succ, List.length_cons, List.length_nil, ↓reduceIte, decide_eq_true_eq, ev_add, ev_iadd, ev_sub, ev_mod, ev_neg, ev_lt, ev_le, ev_gt, ev_ge, ev_eqI, ev_neI, ev_eqS, ev_neS, ev_isN, ev_int, ev_abs, ev_max, ev_min, ev_lenT, ev_lenC, ev_tupT, Int.reduceLT, Int.reduceLE, Int.reduceNeg, Int.reduceAdd, Int.reduceSub, Int.reduceEq, Nat.reduceAdd, Nat.reduceSub, and_self, ↓List.map_cons, ↓List.map_nil, ↓List.cons_append, ↓List.nil_append, List.replicate, ixT0, ixT1, ixT2, ixT3, ixTm1, ixTm2, ixTm3, onH_get, onH_set, onH_push, onH_len, mkB_get, mkB_set, mkB_push, mkB_len, mkB_next, Option.getD_some, Option.getD_none, sz0, sz1, sz2, sz3, sz4, sz5, sz6, sz7, sz8, sz9, ev_keyI, ev_keyS, ev_eqB, ev_neB, wp_one, wp_yes, wp_valsI, wp_keysI, wp_lcE, sz10, sz11, sz12, sz13, sz14, sz15, sz16, sz17, sz18, sz19, sz20, sz21, sz22, sz23, sz24, sz25, sz26, sz27, sz28, sz29, sz30, Bool.false_eq_true, Bool.not_eq_true', decide_eq_false_iff_not, Bool.not_true, Bool.not_false, ite_and2, ite_or2, ite_tand, not_true_eq_false, not_false_eq_true, setAll])
  refine alone_ok ?_
  simp only [↓wp_seq, ↓wp_skip, ↓wp_drop, ↓wp_ret, ↓wp_retN, ↓wp_brk, ↓wp_cnt, ↓wp_if, ↓wp_asg, ↓wp_to, ↓wp_tos, ↓wp_toIx, ↓wp_aug, ↓wp_augK, ↓wp_fldSet, ↓wp_fldAug, ↓wp_var, ↓wp_c, ↓wp_op, ↓wp_un, ↓wp_nil, ↓wp_cons, ↓wp_tup, ↓wp_lst, ↓wp_dict0, ↓wp_dict, ↓wp_pairs0, ↓wp_pairs, ↓wp_call, ↓wp_callF, ↓wp_tru, ↓wp_bl, ↓wp_and, ↓wp_or, ↓wp_not, ↓wp_andV, ↓wp_orV, ↓wp_notV, ↓wp_part, ↓wp_noPart, ↓wp_sl, ↓wp_bm, ↓wp_ifE, ↓wp_fld, ↓wp_meth, ↓wp_make, ↓wp_lockE, ↓wp_rng1, ↓wp_rng2, ↓wp_seqI, ↓wpR_ok, ↓wpS_nx, ↓wpS_rt, List.getElem?_cons_zero, List.getElem?_cons_succ, List.set_cons_zero, List.set_cons_succ, List.length_cons, List.length_nil, ↓reduceIte, decide_eq_true_eq, ev_add, ev_iadd, ev_sub, ev_mod, ev_neg, ev_lt, ev_le, ev_gt, ev_ge, ev_eqI, ev_neI, ev_eqS, ev_neS, ev_isN, ev_int, ev_abs, ev_max, ev_min, ev_lenT, ev_lenC, ev_tupT, Int.reduceLT, Int.reduceLE, Int.reduceNeg, Int.reduceAdd, Int.reduceSub, Int.reduceEq, Nat.reduceAdd, Nat.reduceSub, and_self, ↓List.map_cons, ↓List.map_nil, ↓List.cons_append, ↓List.nil_append, List.replicate, ixT0, ixT1, ixT2, ixT3, ixTm1, ixTm2, ixTm3, onH_get, onH_set, onH_push, onH_len, mkB_get, mkB_set, mkB_push, mkB_len, mkB_next, Option.getD_some, Option.getD_none, sz0, sz1, sz2, sz3, sz4, sz5, sz6, sz7, sz8, sz9, ev_keyI, ev_keyS, ev_eqB, ev_neB, wp_one, wp_yes, wp_valsI, wp_keysI, wp_lcE, sz10, sz11, sz12, sz13, sz14, sz15, sz16, sz17, sz18, sz19, sz20, sz21, sz22, sz23, sz24, sz25, sz26, sz27, sz28, sz29, sz30, Bool.false_eq_true, Bool.not_eq_true', decide_eq_false_iff_not, Bool.not_true, Bool.not_false, ite_and2, ite_or2, ite_tand, not_true_eq_false, not_false_eq_true, truB]
  refine ite2 (fun c => ?_) (fun c => ?_)
  · rw [pick_is]
    refine u1.w.self.pickK (by decide) fun v h2 v0 v1 w2 => ?_
    have u2 := u1.da w2
    simp only [↓wp_seq, ↓wp_skip, ↓wp_drop, ↓wp_ret, ↓wp_retN, ↓wp_brk, ↓wp_cnt, ↓wp_if, ↓wp_asg, ↓wp_to, ↓wp_tos, ↓wp_toIx, ↓wp_aug, ↓wp_augK, ↓wp_fldSet, ↓wp_fldAug, ↓wp_var, ↓wp_c, ↓wp_op, ↓wp_un, ↓wp_nil, ↓wp_cons, ↓wp_tup, ↓wp_lst, ↓wp_dict0, ↓wp_dict, ↓wp_pairs0, ↓wp_pairs, ↓wp_call, ↓wp_callF, ↓wp_tru, ↓wp_bl, ↓wp_and, ↓wp_or, ↓wp_not, ↓wp_andV, ↓wp_orV, ↓wp_notV, ↓wp_part, ↓wp_noPart, ↓wp_sl, ↓wp_bm, ↓wp_ifE, ↓wp_fld, ↓wp_meth, ↓wp_make, ↓wp_lockE, ↓wp_rng1, ↓wp_rng2, ↓wp_seqI, ↓wpR_ok, ↓wpS_nx, ↓wpS_rt, List.getElem?_cons_zero, List.getElem?_cons_succ, List.set_cons_zero, List.set_cons_succ, List.length_cons, List.length_nil, ↓reduceIte, decide_eq_true_eq, ev_add, ev_iadd, ev_sub, ev_mod, ev_neg, ev_lt, ev_le, ev_gt, ev_ge, ev_eqI, ev_neI, ev_eqS, ev_neS, ev_isN, ev_int, ev_abs, ev_max, ev_min, ev_lenT, ev_lenC, ev_tupT, Int.reduceLT, Int.reduceLE, Int.reduceNeg, Int.reduceAdd, Int.reduceSub, Int.reduceEq, Nat.reduceAdd, Nat.reduceSub, and_self, ↓List.map_cons, ↓List.map_nil, ↓List.cons_append, ↓List.nil_append, List.replicate, ixT0, ixT1, ixT2, ixT3, ixTm1, ixTm2, ixTm3, onH_get, onH_set, onH_push, onH_len, mkB_get, mkB_set, mkB_push, mkB_len, mkB_next, Option.getD_some, Option.getD_none, sz0, sz1, sz2, sz3, sz4, sz5, sz6, sz7, sz8, sz9, ev_keyI, ev_keyS, ev_eqB, ev_neB, wp_one, wp_yes, wp_valsI, wp_keysI, wp_lcE, sz10, sz11, sz12, sz13, sz14, sz15, sz16, sz17, sz18, sz19, sz20, sz21, sz22, sz23, sz24, sz25, sz26, sz27, sz28, sz29, sz30, Bool.false_eq_true, Bool.not_eq_true', decide_eq_false_iff_not, Bool.not_true, Bool.not_false, ite_and2, ite_or2, ite_tand, not_true_eq_false, not_false_eq_true]
    refine ite2 (fun c2 => ?_) (fun c2 => none h2 u2 (.inl c))
    have := betw h2 u2
    rw [if_pos c2.2] at this
    exact this
  · refine alone_ok ?_
    simp only [↓wp_seq, ↓wp_skip, ↓wp_drop, ↓wp_ret, ↓wp_retN, ↓wp_brk, ↓wp_cnt, ↓wp_if, ↓wp_asg, ↓wp_to, ↓wp_tos, ↓wp_toIx, ↓wp_aug, ↓wp_augK, ↓wp_fldSet, ↓wp_fldAug, ↓wp_var, ↓wp_c, ↓wp_op, ↓wp_un, ↓wp_nil, ↓wp_cons, ↓wp_tup, ↓wp_lst, ↓wp_dict0, ↓wp_dict, ↓wp_pairs0, ↓wp_pairs, ↓wp_call, ↓wp_callF, ↓wp_tru, ↓wp_bl, ↓wp_and, ↓wp_or, ↓wp_not, ↓wp_andV, ↓wp_orV, ↓wp_notV, ↓wp_part, ↓wp_noPart, ↓wp_sl, ↓wp_bm, ↓wp_ifE, ↓wp_fld, ↓wp_meth, ↓wp_make, ↓wp_lockE, ↓wp_rng1, ↓wp_rng2, ↓wp_seqI, ↓wpR_ok, ↓wpS_nx, ↓wpS_rt, List.getElem?_cons_zero, List.getElem?_cons_succ, List.set_cons_zero, List.set_cons_succ, List.length_cons, List.length_nil, ↓reduceIte, decide_eq_true_eq, ev_add, ev_iadd, ev_sub, ev_mod, ev_neg, ev_lt, ev_le, ev_gt, ev_ge, ev_eqI, ev_neI, ev_eqS, ev_neS, ev_isN, ev_int, ev_abs, ev_max, ev_min, ev_lenT, ev_lenC, ev_tupT, Int.reduceLT, Int.reduceLE, Int.reduceNeg, Int.reduceAdd, Int.reduceSub, Int.reduceEq, Nat.reduceAdd, Nat.reduceSub, and_self, ↓List.map_cons, ↓List.map_nil, ↓List.cons_append, ↓List.nil_append, List.replicate, ixT0, ixT1, ixT2, ixT3, ixTm1, ixTm2, ixTm3, onH_get, onH_set, onH_push, onH_len, mkB_get, mkB_set, mkB_push, mkB_len, mkB_next, Option.getD_some, Option.getD_none, sz0, sz1, sz2, sz3, sz4, sz5, sz6, sz7, sz8, sz9, ev_keyI, ev_keyS, ev_eqB, ev_neB, wp_one, wp_yes, wp_valsI, wp_keysI, wp_lcE, sz10, sz11, sz12, sz13, sz14, sz15, sz16, sz17, sz18, sz19, sz20, sz21, sz22, sz23, sz24, sz25, sz26, sz27, sz28, sz29, sz30, Bool.false_eq_true, Bool.not_eq_true', decide_eq_false_iff_not, Bool.not_true, Bool.not_false, ite_and2, ite_or2, ite_tand, not_true_eq_false, not_false_eq_true, truB]
    refine ite2 (fun c3 => betw h1 u1) (fun c3 => ?_)
    rw [pick_is]
    refine u1.w.self.pickK (by decide) fun v h2 v0 v1 w2 => ?_
    have u2 := u1.da w2
    simp only [↓wp_seq, ↓wp_skip, ↓wp_drop, ↓wp_ret, ↓wp_retN, ↓wp_brk, ↓wp_cnt, ↓wp_if, ↓wp_asg, ↓wp_to, ↓wp_tos, ↓wp_toIx, ↓wp_aug, ↓wp_augK, ↓wp_fldSet, ↓wp_fldAug, ↓wp_var, ↓wp_c, ↓wp_op, ↓wp_un, ↓wp_nil, ↓wp_cons, ↓wp_tup, ↓wp_lst, ↓wp_dict0, ↓wp_dict, ↓wp_pairs0, ↓wp_pairs, ↓wp_call, ↓wp_callF, ↓wp_tru, ↓wp_bl, ↓wp_and, ↓wp_or, ↓wp_not, ↓wp_andV, ↓wp_orV, ↓wp_notV, ↓wp_part, ↓wp_noPart, ↓wp_sl, ↓wp_bm, ↓wp_ifE, ↓wp_fld, ↓wp_meth, ↓wp_make, ↓wp_lockE, ↓wp_rng1, ↓wp_rng2, ↓wp_seqI, ↓wpR_ok, ↓wpS_nx, ↓wpS_rt, List.getElem?_cons_zero, List.getElem?_cons_succ, List.set_cons_zero, List.set_cons_succ, List.length_cons, List.length_nil, ↓reduceIte, decide_eq_true_eq, ev_add, ev_iadd, ev_sub, ev_mod, ev_neg, ev_lt, ev_le, ev_gt, ev_ge, ev_eqI, ev_neI, ev_eqS, ev_neS, ev_isN, ev_int, ev_abs, ev_max, ev_min, ev_lenT, ev_lenC, ev_tupT, Int.reduceLT, Int.reduceLE, Int.reduceNeg, Int.reduceAdd, Int.reduceSub, Int.reduceEq, Nat.reduceAdd, Nat.reduceSub, and_self, ↓List.map_cons, ↓List.map_nil, ↓List.cons_append, ↓List.nil_append, List.replicate, ixT0, ixT1, ixT2, ixT3, ixTm1, ixTm2, ixTm3, onH_get, onH_set, onH_push, onH_len, mkB_get, mkB_set, mkB_push, mkB_len, mkB_next, Option.getD_some, Option.getD_none, sz0, sz1, sz2, sz3, sz4, sz5, sz6, sz7, sz8, sz9, ev_keyI, ev_keyS, ev_eqB, ev_neB, wp_one, wp_yes, wp_valsI, wp_keysI, wp_lcE, sz10, sz11, sz12, sz13, sz14, sz15, sz16, sz17, sz18, sz19, sz20, sz21, sz22, sz23, sz24, sz25, sz26, sz27, sz28, sz29, sz30, Bool.false_eq_true, Bool.not_eq_true', decide_eq_false_iff_not, Bool.not_true, Bool.not_false, ite_and2, ite_or2, ite_tand, not_true_eq_false, not_false_eq_true]
    refine ite2 (fun c2 => ?_) (fun c2 => none h2 u2 (.inr (Decidable.of_not_not c3)))
    have := betw h2 u2
    rw [if_pos c2.2] at this
    exact this
theorem law_true (ns : List Int) (hl : ns.length ≤ 63) (hb : ∀ z ∈ ns, Builtin.Int.intBits z ≤ 1048576) : ∃ h', f_law [.cst (ns.map D.int)] [] = .ok (.bl true) h' := by
  have key : wpR (f_law [.cst (ns.map D.int)] []) (fun d _ => d = .bl true) X0 := by
    unfold f_law m_law
    obtain ⟨ds, e⟩ := streamK_ok (m := 300) hl
    have e1 : f_z_stream [.cst (ns.map .int), .int 300] [] = .ok (.ref 1) [.lst (ds.map .int), bagA 0 ds.length] := e
    have w0 : DA ds ds.length [.lst (ds.map .int), bagA 0 ds.length] [.lst (ds.map .int), bagA 0 ds.length] := DA.refl rfl rfl
    simp only [↓wp_seq, ↓wp_skip, ↓wp_drop, ↓wp_ret, ↓wp_retN, ↓wp_brk, ↓wp_cnt, ↓wp_if, ↓wp_asg, ↓wp_to, ↓wp_tos, ↓wp_toIx, ↓wp_aug, ↓wp_augK, ↓wp_fldSet, ↓wp_fldAug, ↓wp_var, ↓wp_c, ↓wp_op, ↓wp_un, ↓wp_nil, ↓wp_cons, ↓wp_tup, ↓wp_lst, ↓wp_dict0, ↓wp_dict, ↓wp_pairs0, ↓wp_pairs, ↓wp_call, ↓wp_callF, ↓wp_tru, ↓wp_bl, ↓wp_and, ↓wp_or, ↓wp_not, ↓wp_andV, ↓wp_orV, ↓wp_notV, ↓wp_part, ↓wp_noPart, ↓wp_sl, ↓wp_bm, ↓wp_ifE, ↓wp_fld, ↓wp_meth, ↓wp_make, ↓wp_lockE, ↓wp_rng1, ↓wp_rng2, ↓wp_seqI, ↓wpR_ok, ↓wpS_nx, ↓wpS_rt, List.getElem?_cons_zero, List.getElem?_cons_succ, List.set_cons_zero, List.set_cons_succ, List.length_cons, List.length_nil, ↓reduceIte, decide_eq_true_eq, ev_add, ev_iadd, ev_sub, ev_mod, ev_neg, ev_lt, ev_le, ev_gt, ev_ge, ev_eqI, ev_neI, ev_eqS, ev_neS, ev_isN, ev_int, ev_abs, ev_max, ev_min, ev_lenT, ev_lenC, ev_tupT, Int.reduceLT, Int.reduceLE, Int.reduceNeg, Int.reduceAdd, Int.reduceSub, Int.reduceEq, Nat.reduceAdd, Nat.reduceSub, and_self, ↓List.map_cons, ↓List.map_nil, ↓List.cons_append, ↓List.nil_append, List.replicate, ixT0, ixT1, ixT2, ixT3, ixTm1, ixTm2, ixTm3, onH_get, onH_set, onH_push, onH_len, mkB_get, mkB_set, mkB_push, mkB_len, mkB_next, Option.getD_some, Option.getD_none, sz0, sz1, sz2, sz3, sz4, sz5, sz6, sz7, sz8, sz9, ev_keyI, ev_keyS, ev_eqB, ev_neB, wp_one, wp_yes, wp_valsI, wp_keysI, wp_lcE, sz10, sz11, sz12, sz13, sz14, sz15, sz16, sz17, sz18, sz19, sz20, sz21, sz22, sz23, sz24, sz25, sz26, sz27, sz28, sz29, sz30, Bool.false_eq_true, Bool.not_eq_true', decide_eq_false_iff_not, Bool.not_true, Bool.not_false, ite_and2, ite_or2, ite_tand, not_true_eq_false, not_false_eq_true, ↓wp_runB, e1]
    refine pick_list (h := [.lst (ds.map .int), bagA 0 ds.length]) (xs := begins) w0 (by decide) (by decide) fun x h1 hx w1 => ?_
    have e3 : ∀ h, DA ds ds.length [.lst (ds.map .int), bagA 0 ds.length] h → dIx (.ref 1) (.str "row") h = .ok (.ref 0) h ∧ dLen [.ref 0] h = .ok (.int ds.length) h := fun h w => by
      obtain ⟨a, b1, b2⟩ := w.bag
      refine ⟨by simp only [dIx, b1]; rfl, ?_⟩
      have := ev_lenL b2
      rw [List.length_map] at this
      exact this
    obtain ⟨i1, i2⟩ := e3 (h1 ++ [.lst []]) w1.push
    have c1 : ∀ x : Int, CDivW x 3 := fun x => ⟨by decide, by decide⟩
    simp only [↓wp_seq, ↓wp_skip, ↓wp_drop, ↓wp_ret, ↓wp_retN, ↓wp_brk, ↓wp_cnt, ↓wp_if, ↓wp_asg, ↓wp_to, ↓wp_tos, ↓wp_toIx, ↓wp_aug, ↓wp_augK, ↓wp_fldSet, ↓wp_fldAug, ↓wp_var, ↓wp_c, ↓wp_op, ↓wp_un, ↓wp_nil, ↓wp_cons, ↓wp_tup, ↓wp_lst, ↓wp_dict0, ↓wp_dict, ↓wp_pairs0, ↓wp_pairs, ↓wp_call, ↓wp_callF, ↓wp_tru, ↓wp_bl, ↓wp_and, ↓wp_or, ↓wp_not, ↓wp_andV, ↓wp_orV, ↓wp_notV, ↓wp_part, ↓wp_noPart, ↓wp_sl, ↓wp_bm, ↓wp_ifE, ↓wp_fld, ↓wp_meth, ↓wp_make, ↓wp_lockE, ↓wp_rng1, ↓wp_rng2, ↓wp_seqI, ↓wpR_ok, ↓wpS_nx, ↓wpS_rt, List.getElem?_cons_zero, List.getElem?_cons_succ, List.set_cons_zero, List.set_cons_succ, List.length_cons, List.length_nil, ↓reduceIte, decide_eq_true_eq, ev_add, ev_iadd, ev_sub, ev_mod, ev_neg, ev_lt, ev_le, ev_gt, ev_ge, ev_eqI, ev_neI, ev_eqS, ev_neS, ev_isN, ev_int, ev_abs, ev_max, ev_min, ev_lenT, ev_lenC, ev_tupT, Int.reduceLT, Int.reduceLE, Int.reduceNeg, Int.reduceAdd, Int.reduceSub, Int.reduceEq, Nat.reduceAdd, Nat.reduceSub, and_self, ↓List.map_cons, ↓List.map_nil, ↓List.cons_append, ↓List.nil_append, List.replicate, ixT0, ixT1, ixT2, ixT3, ixTm1, ixTm2, ixTm3, onH_get, onH_set, onH_push, onH_len, mkB_get, mkB_set, mkB_push, mkB_len, mkB_next, Option.getD_some, Option.getD_none, sz0, sz1, sz2, sz3, sz4, sz5, sz6, sz7, sz8, sz9, ev_keyI, ev_keyS, ev_eqB, ev_neB, wp_one, wp_yes, wp_valsI, wp_keysI, wp_lcE, sz10, sz11, sz12, sz13, sz14, sz15, sz16, sz17, sz18, sz19, sz20, sz21, sz22, sz23, sz24, sz25, sz26, sz27, sz28, sz29, sz30, Bool.false_eq_true, Bool.not_eq_true', decide_eq_false_iff_not, Bool.not_true, Bool.not_false, ite_and2, ite_or2, ite_tand, not_true_eq_false, not_false_eq_true, i1, i2, ev_fdiv (c1 _), ↓wp_forE]
    rw [if_pos (by split <;> omega)]
    have u0 : Du ds ds.length [.lst (ds.map .int), bagA 0 ds.length] h1.length [] (h1 ++ [.lst []]) := ⟨w1.push, w1.le, by simp⟩
    refine wp_forR (fun j σ h' => j ≤ 120 ∧ Turn ds ds.length [.lst (ds.map .int), bagA 0 ds.length] h1.length j σ h') ⟨by omega, _, _, _, _, _, _, _, _, x, "(", [], rfl, u0, sofar0 hx, Nat.le_trans (len_begins x hx) (by omega), rfl, fun _ => rfl, by simp⟩ ?_ ?_
    · rintro j σ h' ⟨_, a0, a5, a6, a7, a8, a9, a10, a11, x, last, due, rfl, u, S, hx, hd, hl2, hok⟩ hj
      simp only [↓wp_seq, ↓wp_skip, ↓wp_drop, ↓wp_ret, ↓wp_retN, ↓wp_brk, ↓wp_cnt, ↓wp_if, ↓wp_asg, ↓wp_to, ↓wp_tos, ↓wp_toIx, ↓wp_aug, ↓wp_augK, ↓wp_fldSet, ↓wp_fldAug, ↓wp_var, ↓wp_c, ↓wp_op, ↓wp_un, ↓wp_nil, ↓wp_cons, ↓wp_tup, ↓wp_lst, ↓wp_dict0, ↓wp_dict, ↓wp_pairs0, ↓wp_pairs, ↓wp_call, ↓wp_callF, ↓wp_tru, ↓wp_bl, ↓wp_and, ↓wp_or, ↓wp_not, ↓wp_andV, ↓wp_orV, ↓wp_notV, ↓wp_part, ↓wp_noPart, ↓wp_sl, ↓wp_bm, ↓wp_ifE, ↓wp_fld, ↓wp_meth, ↓wp_make, ↓wp_lockE, ↓wp_rng1, ↓wp_rng2, ↓wp_seqI, ↓wpR_ok, ↓wpS_nx, ↓wpS_rt, List.getElem?_cons_zero, List.getElem?_cons_succ, List.set_cons_zero, List.set_cons_succ, List.length_cons, List.length_nil, ↓reduceIte, decide_eq_true_eq, ev_add, ev_iadd, ev_sub, ev_mod, ev_neg, ev_lt, ev_le, ev_gt, ev_ge, ev_eqI, ev_neI, ev_eqS, ev_neS, ev_isN, ev_int, ev_abs, ev_max, ev_min, ev_lenT, ev_lenC, ev_tupT, Int.reduceLT, Int.reduceLE, Int.reduceNeg, Int.reduceAdd, Int.reduceSub, Int.reduceEq, Nat.reduceAdd, Nat.reduceSub, and_self, ↓List.map_cons, ↓List.map_nil, ↓List.cons_append, ↓List.nil_append, List.replicate, ixT0, ixT1, ixT2, ixT3, ixTm1, ixTm2, ixTm3, onH_get, onH_set, onH_push, onH_len, mkB_get, mkB_set, mkB_push, mkB_len, mkB_next, Option.getD_some, Option.getD_none, sz0, sz1, sz2, sz3, sz4, sz5, sz6, sz7, sz8, sz9, ev_keyI, ev_keyS, ev_eqB, ev_neB, wp_one, wp_yes, wp_valsI, wp_keysI, wp_lcE, sz10, sz11, sz12, sz13, sz14, sz15, sz16, sz17, sz18, sz19, sz20, sz21, sz22, sz23, sz24, sz25, sz26, sz27, sz28, sz29, sz30, Bool.false_eq_true, Bool.not_eq_true', decide_eq_false_iff_not, Bool.not_true, Bool.not_false, ite_and2, ite_or2, ite_tand, not_true_eq_false, not_false_eq_true]
      have hj2 : j < 120 := by
        refine Nat.lt_of_lt_of_le hj ?_
        split <;> omega
      refine law_b2_ok u S hx hd hj2 hl2 hok fun σ h2 t => ⟨by omega, t⟩
    · rintro σ h' ⟨hj, a0, a5, a6, a7, a8, a9, a10, a11, x, last, due, rfl, u, S, hx, hd, hl2, hok⟩
      generalize (if (1 : Int) + _ < 120 then _ else _ : Int).toNat = jn at hj hx hd
      unfold m_law_r3
      simp only [↓wp_seq, ↓wp_skip, ↓wp_drop, ↓wp_ret, ↓wp_retN, ↓wp_brk, ↓wp_cnt, ↓wp_if, ↓wp_asg, ↓wp_to, ↓wp_tos, ↓wp_toIx, ↓wp_aug, ↓wp_augK, ↓wp_fldSet, ↓wp_fldAug, ↓wp_var, ↓wp_c, ↓wp_op, ↓wp_un, ↓wp_nil, ↓wp_cons, ↓wp_tup, ↓wp_lst, ↓wp_dict0, ↓wp_dict, ↓wp_pairs0, ↓wp_pairs, ↓wp_call, ↓wp_callF, ↓wp_tru, ↓wp_bl, ↓wp_and, ↓wp_or, ↓wp_not, ↓wp_andV, ↓wp_orV, ↓wp_notV, ↓wp_part, ↓wp_noPart, ↓wp_sl, ↓wp_bm, ↓wp_ifE, ↓wp_fld, ↓wp_meth, ↓wp_make, ↓wp_lockE, ↓wp_rng1, ↓wp_rng2, ↓wp_seqI, ↓wpR_ok, ↓wpS_nx, ↓wpS_rt, List.getElem?_cons_zero, List.getElem?_cons_succ, List.set_cons_zero, List.set_cons_succ, List.length_cons, List.length_nil, ↓reduceIte, decide_eq_true_eq, ev_add, ev_iadd, ev_sub, ev_mod, ev_neg, ev_lt, ev_le, ev_gt, ev_ge, ev_eqI, ev_neI, ev_eqS, ev_neS, ev_isN, ev_int, ev_abs, ev_max, ev_min, ev_lenT, ev_lenC, ev_tupT, Int.reduceLT, Int.reduceLE, Int.reduceNeg, Int.reduceAdd, Int.reduceSub, Int.reduceEq, Nat.reduceAdd, Nat.reduceSub, and_self, ↓List.map_cons, ↓List.map_nil, ↓List.cons_append, ↓List.nil_append, List.replicate, ixT0, ixT1, ixT2, ixT3, ixTm1, ixTm2, ixTm3, onH_get, onH_set, onH_push, onH_len, mkB_get, mkB_set, mkB_push, mkB_len, mkB_next, Option.getD_some, Option.getD_none, sz0, sz1, sz2, sz3, sz4, sz5, sz6, sz7, sz8, sz9, ev_keyI, ev_keyS, ev_eqB, ev_neB, wp_one, wp_yes, wp_valsI, wp_keysI, wp_lcE, sz10, sz11, sz12, sz13, sz14, sz15, sz16, sz17, sz18, sz19, sz20, sz21, sz22, sz23, sz24, sz25, sz26, sz27, sz28, sz29, sz30, Bool.false_eq_true, Bool.not_eq_true', decide_eq_false_iff_not, Bool.not_true, Bool.not_false, ite_and2, ite_or2, ite_tand, not_true_eq_false, not_false_eq_true]
      refine pick_list (xs := ends) u.w.self (by decide) (by decide) fun tail h2 ht w2 => ?_
      have u2 := u.da w2
      have hxt : (x ++ tail).length = x.length + tail.length := len_app _ _
      have htl := len_ends tail ht
      have lx := sofar_end S ht
      have hdl : due.length ≤ 1000 := by omega
      have hX : (x ++ tail).length ≤ 90000 := by omega
      rw [ev_addS (Nat.le_trans (show x.length + tail.length ≤ 100000 by omega) (by decide)), wpR_ok]
      generalize x ++ tail = X at lx hX
      refine place_ok (by omega) ?_
      simp only [↓wp_seq, ↓wp_skip, ↓wp_drop, ↓wp_ret, ↓wp_retN, ↓wp_brk, ↓wp_cnt, ↓wp_if, ↓wp_asg, ↓wp_to, ↓wp_tos, ↓wp_toIx, ↓wp_aug, ↓wp_augK, ↓wp_fldSet, ↓wp_fldAug, ↓wp_var, ↓wp_c, ↓wp_op, ↓wp_un, ↓wp_nil, ↓wp_cons, ↓wp_tup, ↓wp_lst, ↓wp_dict0, ↓wp_dict, ↓wp_pairs0, ↓wp_pairs, ↓wp_call, ↓wp_callF, ↓wp_tru, ↓wp_bl, ↓wp_and, ↓wp_or, ↓wp_not, ↓wp_andV, ↓wp_orV, ↓wp_notV, ↓wp_part, ↓wp_noPart, ↓wp_sl, ↓wp_bm, ↓wp_ifE, ↓wp_fld, ↓wp_meth, ↓wp_make, ↓wp_lockE, ↓wp_rng1, ↓wp_rng2, ↓wp_seqI, ↓wpR_ok, ↓wpS_nx, ↓wpS_rt, List.getElem?_cons_zero, List.getElem?_cons_succ, List.set_cons_zero, List.set_cons_succ, List.length_cons, List.length_nil, ↓reduceIte, decide_eq_true_eq, ev_add, ev_iadd, ev_sub, ev_mod, ev_neg, ev_lt, ev_le, ev_gt, ev_ge, ev_eqI, ev_neI, ev_eqS, ev_neS, ev_isN, ev_int, ev_abs, ev_max, ev_min, ev_lenT, ev_lenC, ev_tupT, Int.reduceLT, Int.reduceLE, Int.reduceNeg, Int.reduceAdd, Int.reduceSub, Int.reduceEq, Nat.reduceAdd, Nat.reduceSub, and_self, ↓List.map_cons, ↓List.map_nil, ↓List.cons_append, ↓List.nil_append, List.replicate, ixT0, ixT1, ixT2, ixT3, ixTm1, ixTm2, ixTm3, onH_get, onH_set, onH_push, onH_len, mkB_get, mkB_set, mkB_push, mkB_len, mkB_next, Option.getD_some, Option.getD_none, sz0, sz1, sz2, sz3, sz4, sz5, sz6, sz7, sz8, sz9, ev_keyI, ev_keyS, ev_eqB, ev_neB, wp_one, wp_yes, wp_valsI, wp_keysI, wp_lcE, sz10, sz11, sz12, sz13, sz14, sz15, sz16, sz17, sz18, sz19, sz20, sz21, sz22, sz23, sz24, sz25, sz26, sz27, sz28, sz29, sz30, Bool.false_eq_true, Bool.not_eq_true', decide_eq_false_iff_not, Bool.not_true, Bool.not_false, ite_and2, ite_or2, ite_tand, not_true_eq_false, not_false_eq_true, setAll]
      rw [if_pos (ev_tyL u2.e), ev_app u2.e (by rw [List.length_map]; exact Nat.lt_of_le_of_lt hdl (by decide)), wpR_ok, tokens_is]
      have hE : D.tup [.str "end", .str "", .int (adv (1, 1) (cd X)).1, .int (adv (1, 1) (cd X)).2] = endD (adv (1, 1) (cd X)) := rfl
      rw [hE]
      have hq : (h2.set h1.length (.lst (due.map tpD ++ [endD (adv (1, 1) (cd X))])))[h1.length]? = some (.lst (due.map tpD ++ [endD (adv (1, 1) (cd X))])) := get_set u2.e
      generalize (h2.set h1.length (.lst (due.map tpD ++ [endD (adv (1, 1) (cd X))]))) = H at hq ⊢
      refine tokens_ok (by omega) lx ?_
      have okl : (due.map tpD ++ [endD (adv (1, 1) (cd X))]).all (okD 3) = true := by
        rw [List.all_append, due_okD hok]
        show (okD 3 (endD _) && true) = true
        have s1 : PyData.strOk ("end" : Str) = true := by decide +kernel
        have s2 : PyData.strOk ("" : Str) = true := by decide +kernel
        simp [endD, okD, s1, s2]
      have hI : dIsi isiTab [.ref H.length, .ty "list"] (H ++ [.lst (due.map tpD ++ [endD (adv (1, 1) (cd X))])]) = .ok (.bl true) (H ++ [.lst (due.map tpD ++ [endD (adv (1, 1) (cd X))])]) := by
        have : (H ++ [MO.lst (due.map tpD ++ [endD (adv (1, 1) (cd X))])])[H.length]? = some (.lst (due.map tpD ++ [endD (adv (1, 1) (cd X))])) := get_lastT
        simp only [dIsi, tyOfD, this, if_true]
      rw [hI]
      simp only [↓wp_seq, ↓wp_skip, ↓wp_drop, ↓wp_ret, ↓wp_retN, ↓wp_brk, ↓wp_cnt, ↓wp_if, ↓wp_asg, ↓wp_to, ↓wp_tos, ↓wp_toIx, ↓wp_aug, ↓wp_augK, ↓wp_fldSet, ↓wp_fldAug, ↓wp_var, ↓wp_c, ↓wp_op, ↓wp_un, ↓wp_nil, ↓wp_cons, ↓wp_tup, ↓wp_lst, ↓wp_dict0, ↓wp_dict, ↓wp_pairs0, ↓wp_pairs, ↓wp_call, ↓wp_callF, ↓wp_tru, ↓wp_bl, ↓wp_and, ↓wp_or, ↓wp_not, ↓wp_andV, ↓wp_orV, ↓wp_notV, ↓wp_part, ↓wp_noPart, ↓wp_sl, ↓wp_bm, ↓wp_ifE, ↓wp_fld, ↓wp_meth, ↓wp_make, ↓wp_lockE, ↓wp_rng1, ↓wp_rng2, ↓wp_seqI, ↓wpR_ok, ↓wpS_nx, ↓wpS_rt, List.getElem?_cons_zero, List.getElem?_cons_succ, List.set_cons_zero, List.set_cons_succ, List.length_cons, List.length_nil, ↓reduceIte, decide_eq_true_eq, ev_add, ev_iadd, ev_sub, ev_mod, ev_neg, ev_lt, ev_le, ev_gt, ev_ge, ev_eqI, ev_neI, ev_eqS, ev_neS, ev_isN, ev_int, ev_abs, ev_max, ev_min, ev_lenT, ev_lenC, ev_tupT, Int.reduceLT, Int.reduceLE, Int.reduceNeg, Int.reduceAdd, Int.reduceSub, Int.reduceEq, Nat.reduceAdd, Nat.reduceSub, and_self, ↓List.map_cons, ↓List.map_nil, ↓List.cons_append, ↓List.nil_append, List.replicate, ixT0, ixT1, ixT2, ixT3, ixTm1, ixTm2, ixTm3, onH_get, onH_set, onH_push, onH_len, mkB_get, mkB_set, mkB_push, mkB_len, mkB_next, Option.getD_some, Option.getD_none, sz0, sz1, sz2, sz3, sz4, sz5, sz6, sz7, sz8, sz9, ev_keyI, ev_keyS, ev_eqB, ev_neB, wp_one, wp_yes, wp_valsI, wp_keysI, wp_lcE, sz10, sz11, sz12, sz13, sz14, sz15, sz16, sz17, sz18, sz19, sz20, sz21, sz22, sz23, sz24, sz25, sz26, sz27, sz28, sz29, sz30, Bool.false_eq_true, Bool.not_eq_true', decide_eq_false_iff_not, Bool.not_true, Bool.not_false, ite_and2, ite_or2, ite_tand, not_true_eq_false, not_false_eq_true, truB]
      rw [dNe_lst get_lastT (get_push hq) okl (by decide), wpR_ok]
      have okw : [D.str "data", D.str "class", D.str "instance", D.str "where", D.str "let", D.str "in", D.str "case", D.str "of", D.str "if", D.str "then", D.str "else", D.str "div", D.str "mod", D.str "note"].all (okD 1) = true := by decide +kernel
      (try simp only [↓wp_seq, ↓wp_skip, ↓wp_drop, ↓wp_ret, ↓wp_retN, ↓wp_brk, ↓wp_cnt, ↓wp_if, ↓wp_asg, ↓wp_to, ↓wp_tos, ↓wp_toIx, ↓wp_aug, ↓wp_augK, ↓wp_fldSet, ↓wp_fldAug, ↓wp_var, ↓wp_c, ↓wp_op, ↓wp_un, ↓wp_nil, ↓wp_cons, ↓wp_tup, ↓wp_lst, ↓wp_dict0, ↓wp_dict, ↓wp_pairs0, ↓wp_pairs, ↓wp_call, ↓wp_callF, ↓wp_tru, ↓wp_bl, ↓wp_and, ↓wp_or, ↓wp_not, ↓wp_andV, ↓wp_orV, ↓wp_notV, ↓wp_part, ↓wp_noPart, ↓wp_sl, ↓wp_bm, ↓wp_ifE, ↓wp_fld, ↓wp_meth, ↓wp_make, ↓wp_lockE, ↓wp_rng1, ↓wp_rng2, ↓wp_seqI, ↓wpR_ok, ↓wpS_nx, ↓wpS_rt, List.getElem?_cons_zero, List.getElem?_cons_succ, List.set_cons_zero, List.set_cons_succ, List.length_cons, List.length_nil, ↓reduceIte, decide_eq_true_eq, ev_add, ev_iadd, ev_sub, ev_mod, ev_neg, ev_lt, ev_le, ev_gt, ev_ge, ev_eqI, ev_neI, ev_eqS, ev_neS, ev_isN, ev_int, ev_abs, ev_max, ev_min, ev_lenT, ev_lenC, ev_tupT, Int.reduceLT, Int.reduceLE, Int.reduceNeg, Int.reduceAdd, Int.reduceSub, Int.reduceEq, Nat.reduceAdd, Nat.reduceSub, and_self, ↓List.map_cons, ↓List.map_nil, ↓List.cons_append, ↓List.nil_append, List.replicate, ixT0, ixT1, ixT2, ixT3, ixTm1, ixTm2, ixTm3, onH_get, onH_set, onH_push, onH_len, mkB_get, mkB_set, mkB_push, mkB_len, mkB_next, Option.getD_some, Option.getD_none, sz0, sz1, sz2, sz3, sz4, sz5, sz6, sz7, sz8, sz9, ev_keyI, ev_keyS, ev_eqB, ev_neB, wp_one, wp_yes, wp_valsI, wp_keysI, wp_lcE, sz10, sz11, sz12, sz13, sz14, sz15, sz16, sz17, sz18, sz19, sz20, sz21, sz22, sz23, sz24, sz25, sz26, sz27, sz28, sz29, sz30, Bool.false_eq_true, Bool.not_eq_true', decide_eq_false_iff_not, Bool.not_true, Bool.not_false, ite_and2, ite_or2, ite_tand, not_true_eq_false, not_false_eq_true])
      rw [dEq_tup okw (by decide), wpR_ok]
      (try simp only [↓wp_seq, ↓wp_skip, ↓wp_drop, ↓wp_ret, ↓wp_retN, ↓wp_brk, ↓wp_cnt, ↓wp_if, ↓wp_asg, ↓wp_to, ↓wp_tos, ↓wp_toIx, ↓wp_aug, ↓wp_augK, ↓wp_fldSet, ↓wp_fldAug, ↓wp_var, ↓wp_c, ↓wp_op, ↓wp_un, ↓wp_nil, ↓wp_cons, ↓wp_tup, ↓wp_lst, ↓wp_dict0, ↓wp_dict, ↓wp_pairs0, ↓wp_pairs, ↓wp_call, ↓wp_callF, ↓wp_tru, ↓wp_bl, ↓wp_and, ↓wp_or, ↓wp_not, ↓wp_andV, ↓wp_orV, ↓wp_notV, ↓wp_part, ↓wp_noPart, ↓wp_sl, ↓wp_bm, ↓wp_ifE, ↓wp_fld, ↓wp_meth, ↓wp_make, ↓wp_lockE, ↓wp_rng1, ↓wp_rng2, ↓wp_seqI, ↓wpR_ok, ↓wpS_nx, ↓wpS_rt, List.getElem?_cons_zero, List.getElem?_cons_succ, List.set_cons_zero, List.set_cons_succ, List.length_cons, List.length_nil, ↓reduceIte, decide_eq_true_eq, ev_add, ev_iadd, ev_sub, ev_mod, ev_neg, ev_lt, ev_le, ev_gt, ev_ge, ev_eqI, ev_neI, ev_eqS, ev_neS, ev_isN, ev_int, ev_abs, ev_max, ev_min, ev_lenT, ev_lenC, ev_tupT, Int.reduceLT, Int.reduceLE, Int.reduceNeg, Int.reduceAdd, Int.reduceSub, Int.reduceEq, Nat.reduceAdd, Nat.reduceSub, and_self, ↓List.map_cons, ↓List.map_nil, ↓List.cons_append, ↓List.nil_append, List.replicate, ixT0, ixT1, ixT2, ixT3, ixTm1, ixTm2, ixTm3, onH_get, onH_set, onH_push, onH_len, mkB_get, mkB_set, mkB_push, mkB_len, mkB_next, Option.getD_some, Option.getD_none, sz0, sz1, sz2, sz3, sz4, sz5, sz6, sz7, sz8, sz9, ev_keyI, ev_keyS, ev_eqB, ev_neB, wp_one, wp_yes, wp_valsI, wp_keysI, wp_lcE, sz10, sz11, sz12, sz13, sz14, sz15, sz16, sz17, sz18, sz19, sz20, sz21, sz22, sz23, sz24, sz25, sz26, sz27, sz28, sz29, sz30, Bool.false_eq_true, Bool.not_eq_true', decide_eq_false_iff_not, Bool.not_true, Bool.not_false, ite_and2, ite_or2, ite_tand, not_true_eq_false, not_false_eq_true])
      rw [tokens_is]
      have ce : cd ("" : Str) = [] := by decide +kernel
      refine tokens_ok (ts := []) (by decide +kernel) (by rw [ce]; exact .nil) ?_
      rw [ce]
      have e11 : (([] : List TkP).map tpD ++ [endD (adv (1, 1) [])]) = [D.tup [.str "end", .str "", .int 1, .int 1]] := rfl
      rw [e11]
      rw [dEq_lst (ds := [D.tup [.str "end", .str "", .int 1, .int 1]]) (n := 3) (get_push get_lastT) get_lastT (by decide +kernel) (by decide), wpR_ok]
  obtain ⟨d, h', e, rfl⟩ := wpR_elim key
  exact ⟨h', e⟩
end
end K00

namespace K00
open PySem PySem.Spec PyProof.Rows L2 FL
noncomputable def spLaw (K : PySem.W.Frag) : Sp := spF K 1 f_law
theorem all_mk {l : PySem.W.OpenLaw} {w : World} {K : PySem.W.Frag} {h : Heap} {mg : Str → Option Value} {fa : Addr} (X : K.In h) (G : h.Ns mainGlobals mg) (hfa : mg "law" = some (.ref fa))
    {f0 : Addr} {od0 an0 : Option Addr} {sl0 : Array (Option Value)} {oc0 kV0 dc0 pm0 cd0 ct0 : Value}
    {f1 : Addr} {od1 an1 : Option Addr} {sl1 : Array (Option Value)} {oc1 kV1 dc1 pm1 cd1 ct1 : Value}
    {f2 : Addr} {od2 an2 : Option Addr} {sl2 : Array (Option Value)} {oc2 kV2 dc2 pm2 cd2 ct2 : Value}
    {f3 : Addr} {od3 an3 : Option Addr} {sl3 : Array (Option Value)} {oc3 kV3 dc3 pm3 cd3 ct3 : Value}
    {f4 : Addr} {od4 an4 : Option Addr} {sl4 : Array (Option Value)} {oc4 kV4 dc4 pm4 cd4 ct4 : Value}
    {f5 : Addr} {od5 an5 : Option Addr} {sl5 : Array (Option Value)} {oc5 kV5 dc5 pm5 cd5 ct5 : Value}
    {f6 : Addr} {od6 an6 : Option Addr} {sl6 : Array (Option Value)} {oc6 kV6 dc6 pm6 cd6 ct6 : Value}
    {f7 : Addr} {od7 an7 : Option Addr} {sl7 : Array (Option Value)} {oc7 kV7 dc7 pm7 cd7 ct7 : Value}
    {f8 : Addr} {od8 an8 : Option Addr} {sl8 : Array (Option Value)} {oc8 kV8 dc8 pm8 cd8 ct8 : Value}
    {f9 : Addr} {od9 an9 : Option Addr} {sl9 : Array (Option Value)} {oc9 kV9 dc9 pm9 cd9 ct9 : Value}
    {f10 : Addr} {od10 an10 : Option Addr} {sl10 : Array (Option Value)} {oc10 kV10 dc10 pm10 cd10 ct10 : Value}
    {f11 : Addr} {od11 an11 : Option Addr} {sl11 : Array (Option Value)} {oc11 kV11 dc11 pm11 cd11 ct11 : Value}
    {f12 : Addr} {od12 an12 : Option Addr} {sl12 : Array (Option Value)} {oc12 kV12 dc12 pm12 cd12 ct12 : Value}
    {f13 : Addr} {od13 an13 : Option Addr} {sl13 : Array (Option Value)} {oc13 kV13 dc13 pm13 cd13 ct13 : Value}
    {tk1 : Tok}
    {ak2 : Addr} {ok2 : Option Addr} {nk2 : Nat} {sk2 : Array (Option Value)}
    {tk3 : Tok}
    {tk4 : Tok}
    {tk5 : Tok}
    {tk6 : Tok}
    {tk7 : Tok}
    {tk8 : Tok}
    {tk9 : Tok}
    {tk10 : Tok}
    {tk11 : Tok}
    {tk12 : Tok}
    {tk13 : Tok}
    {tk14 : Tok}
    {tk15 : Tok}
    {tk16 : Tok}
    {tk17 : Tok}
    {ak18 : Addr} {ok18 : Option Addr} {nk18 : Nat} {sk18 : Array (Option Value)}
    {tk19 : Tok}
    {tk20 : Tok}
    {tk21 : Tok}
    {tk22 : Tok}
    {tk23 : Tok}
    {tk24 : Tok}
    {tk25 : Tok}
    {tk26 : Tok}
    (a0 : PySem.W.nsIn K mainGlobals "_word_end" = some (some (.ref f0)))
    (l0 : K.lookup f0 = some ⟨oc0, od0, .func (PySem.W.fnOf "_word_end" "_word_end" (defArgs s_word_end) (defBody s_word_end) (defScope s_word_end) .none kV0 dc0 pm0 an0 cd0 ct0), sl0⟩)
    (c0 : PySem.W.codeIn K cd0 "_word_end" = true)
    (k0 : PySem.W.keepIn K (.ref f0) = true)
    (a1 : PySem.W.nsIn K mainGlobals "_is_number" = some (some (.ref f1)))
    (l1 : K.lookup f1 = some ⟨oc1, od1, .func (PySem.W.fnOf "_is_number" "_is_number" (defArgs s_is_number) (defBody s_is_number) (defScope s_is_number) .none kV1 dc1 pm1 an1 cd1 ct1), sl1⟩)
    (c1 : PySem.W.codeIn K cd1 "_is_number" = true)
    (k1 : PySem.W.keepIn K (.ref f1) = true)
    (a2 : PySem.W.nsIn K mainGlobals "_word_kind" = some (some (.ref f2)))
    (l2 : K.lookup f2 = some ⟨oc2, od2, .func (PySem.W.fnOf "_word_kind" "_word_kind" (defArgs s_word_kind) (defBody s_word_kind) (defScope s_word_kind) .none kV2 dc2 pm2 an2 cd2 ct2), sl2⟩)
    (c2 : PySem.W.codeIn K cd2 "_word_kind" = true)
    (k2 : PySem.W.keepIn K (.ref f2) = true)
    (a3 : PySem.W.nsIn K mainGlobals "_token_at" = some (some (.ref f3)))
    (l3 : K.lookup f3 = some ⟨oc3, od3, .func (PySem.W.fnOf "_token_at" "_token_at" (defArgs s_token_at) (defBody s_token_at) (defScope s_token_at) .none kV3 dc3 pm3 an3 cd3 ct3), sl3⟩)
    (c3 : PySem.W.codeIn K cd3 "_token_at" = true)
    (k3 : PySem.W.keepIn K (.ref f3) = true)
    (a4 : PySem.W.nsIn K mainGlobals "_comment_end" = some (some (.ref f4)))
    (l4 : K.lookup f4 = some ⟨oc4, od4, .func (PySem.W.fnOf "_comment_end" "_comment_end" (defArgs s_comment_end) (defBody s_comment_end) (defScope s_comment_end) .none kV4 dc4 pm4 an4 cd4 ct4), sl4⟩)
    (c4 : PySem.W.codeIn K cd4 "_comment_end" = true)
    (k4 : PySem.W.keepIn K (.ref f4) = true)
    (a5 : PySem.W.nsIn K mainGlobals "tokens" = some (some (.ref f5)))
    (l5 : K.lookup f5 = some ⟨oc5, od5, .func (PySem.W.fnOf "tokens" "tokens" (defArgs s_tokens) (defBody s_tokens) (defScope s_tokens) .none kV5 dc5 pm5 an5 cd5 ct5), sl5⟩)
    (c5 : PySem.W.codeIn K cd5 "tokens" = true)
    (k5 : PySem.W.keepIn K (.ref f5) = true)
    (a6 : PySem.W.nsIn K mainGlobals "_law_mix" = some (some (.ref f6)))
    (l6 : K.lookup f6 = some ⟨oc6, od6, .func (PySem.W.fnOf "_law_mix" "_law_mix" (defArgs s_z_mix) (defBody s_z_mix) (defScope s_z_mix) .none kV6 dc6 pm6 an6 cd6 ct6), sl6⟩)
    (c6 : PySem.W.codeIn K cd6 "_law_mix" = true)
    (k6 : PySem.W.keepIn K (.ref f6) = true)
    (a7 : PySem.W.nsIn K mainGlobals "_law_stream" = some (some (.ref f7)))
    (l7 : K.lookup f7 = some ⟨oc7, od7, .func (PySem.W.fnOf "_law_stream" "_law_stream" (defArgs s_z_stream) (defBody s_z_stream) (defScope s_z_stream) .none kV7 dc7 pm7 an7 cd7 ct7), sl7⟩)
    (c7 : PySem.W.codeIn K cd7 "_law_stream" = true)
    (k7 : PySem.W.keepIn K (.ref f7) = true)
    (a8 : PySem.W.nsIn K mainGlobals "_law_pick" = some (some (.ref f8)))
    (l8 : K.lookup f8 = some ⟨oc8, od8, .func (PySem.W.fnOf "_law_pick" "_law_pick" (defArgs s_z_pick) (defBody s_z_pick) (defScope s_z_pick) .none kV8 dc8 pm8 an8 cd8 ct8), sl8⟩)
    (c8 : PySem.W.codeIn K cd8 "_law_pick" = true)
    (k8 : PySem.W.keepIn K (.ref f8) = true)
    (a9 : PySem.W.nsIn K mainGlobals "_law_word" = some (some (.ref f9)))
    (l9 : K.lookup f9 = some ⟨oc9, od9, .func (PySem.W.fnOf "_law_word" "_law_word" (defArgs s_z_word) (defBody s_z_word) (defScope s_z_word) .none kV9 dc9 pm9 an9 cd9 ct9), sl9⟩)
    (c9 : PySem.W.codeIn K cd9 "_law_word" = true)
    (k9 : PySem.W.keepIn K (.ref f9) = true)
    (a10 : PySem.W.nsIn K mainGlobals "_law_alone" = some (some (.ref f10)))
    (l10 : K.lookup f10 = some ⟨oc10, od10, .func (PySem.W.fnOf "_law_alone" "_law_alone" (defArgs s_z_alone) (defBody s_z_alone) (defScope s_z_alone) .none kV10 dc10 pm10 an10 cd10 ct10), sl10⟩)
    (c10 : PySem.W.codeIn K cd10 "_law_alone" = true)
    (k10 : PySem.W.keepIn K (.ref f10) = true)
    (a11 : PySem.W.nsIn K mainGlobals "_law_between" = some (some (.ref f11)))
    (l11 : K.lookup f11 = some ⟨oc11, od11, .func (PySem.W.fnOf "_law_between" "_law_between" (defArgs s_z_between) (defBody s_z_between) (defScope s_z_between) .none kV11 dc11 pm11 an11 cd11 ct11), sl11⟩)
    (c11 : PySem.W.codeIn K cd11 "_law_between" = true)
    (k11 : PySem.W.keepIn K (.ref f11) = true)
    (a12 : PySem.W.nsIn K mainGlobals "_law_place" = some (some (.ref f12)))
    (l12 : K.lookup f12 = some ⟨oc12, od12, .func (PySem.W.fnOf "_law_place" "_law_place" (defArgs s_z_place) (defBody s_z_place) (defScope s_z_place) .none kV12 dc12 pm12 an12 cd12 ct12), sl12⟩)
    (c12 : PySem.W.codeIn K cd12 "_law_place" = true)
    (k12 : PySem.W.keepIn K (.ref f12) = true)
    (a13 : PySem.W.nsIn K mainGlobals "law" = some (some (.ref f13)))
    (l13 : K.lookup f13 = some ⟨oc13, od13, .func (PySem.W.fnOf "law" "law" (defArgs s_law) (defBody s_law) (defScope s_law) .none kV13 dc13 pm13 an13 cd13 ct13), sl13⟩)
    (c13 : PySem.W.codeIn K cd13 "law" = true)
    (k13 : PySem.W.keepIn K (.ref f13) = true)
    (z_int : PySem.W.nsIn K mainGlobals "int" = some none)
    (z_isinstance : PySem.W.nsIn K mainGlobals "isinstance" = some none)
    (z_len : PySem.W.nsIn K mainGlobals "len" = some none)
    (z_list : PySem.W.nsIn K mainGlobals "list" = some none)
    (z_min : PySem.W.nsIn K mainGlobals "min" = some none)
    (z_range : PySem.W.nsIn K mainGlobals "range" = some none)
    (gk_DIGITS : PySem.W.nsIn K mainGlobals "DIGITS" = some (some (.str "0123456789" tk1)))
    (gk_KEYWORDS : PySem.W.nsIn K mainGlobals "KEYWORDS" = some (some (.ref ak2)))
    (lk2 : K.lookup ak2 = some ⟨.type "tuple", ok2, .seq (List.toArray [.str "data" tk3, .str "class" tk4, .str "instance" tk5, .str "where" tk6, .str "let" tk7, .str "in" tk8, .str "case" tk9, .str "of" tk10, .str "if" tk11, .str "then" tk12, .str "else" tk13, .str "div" tk14, .str "mod" tk15, .str "note" tk16]) nk2, sk2⟩)
    (gk_LARGE : PySem.W.nsIn K mainGlobals "LARGE" = some (some (.str "ABCDEFGHIJKLMNOPQRSTUVWXYZ" tk17)))
    (gk_LONG_SIGNS : PySem.W.nsIn K mainGlobals "LONG_SIGNS" = some (some (.ref ak18)))
    (lk18 : K.lookup ak18 = some ⟨.type "tuple", ok18, .seq (List.toArray [.str "->" tk19, .str "=>" tk20, .str "::" tk21, .str "==" tk22, .str "<=" tk23]) nk18, sk18⟩)
    (gk_MOST : PySem.W.nsIn K mainGlobals "MOST" = some (some (.int (1000000000000) tk24)))
    (gk_SHORT_SIGNS : PySem.W.nsIn K mainGlobals "SHORT_SIGNS" = some (some (.str "=|\\()[],;{}+-*<:" tk25)))
    (gk_SMALL : PySem.W.nsIn K mainGlobals "SMALL" = some (some (.str "abcdefghijklmnopqrstuvwxyz" tk26)))
    : ∃ fd : FuncData, (∀ (s : Shared) (v : Value), BindsTo s fd ⟨[v], []⟩ [("_law_script", v)]) ∧ ∀ base : Heap, K.In base → base.Ns mainGlobals mg → FnOk l.prog w K mg base (L2.CX l.prog w) 5 fa fd ["_law_script"] (spLaw K) := by
  have e := hfa.symm.trans (PySem.W.mg_of X G a13)
  cases e
  refine ⟨PySem.W.fnOf "law" "law" (defArgs s_law) (defBody s_law) (defScope s_law) .none kV13 dc13 pm13 an13 cd13 ct13, fun s v => .of_eq rfl, fun base _ _ => ?_⟩
  have T : Txt K mg  := by
    constructor
    · exact PySem.W.mg_none_of X G z_int
    · exact PySem.W.mg_none_of X G z_isinstance
    · exact PySem.W.mg_none_of X G z_len
    · exact PySem.W.mg_none_of X G z_list
    · exact PySem.W.mg_none_of X G z_min
    · exact PySem.W.mg_none_of X G z_range
    · intro p hp
      simp only [isiTab, List.mem_cons, List.not_mem_nil, or_false] at hp
      rcases hp with rfl | rfl | rfl | rfl | rfl | rfl
      · exact kit_ty (by rfl)
      · exact kit_ty (by rfl)
      · exact kit_ty (by rfl)
      · exact kit_ty (by rfl)
      · exact kit_ty (by rfl)
      · exact kit_ty (by rfl)
    · exact ⟨_, PySem.W.mg_of X G gk_DIGITS, .str _ _⟩
    · exact ⟨_, PySem.W.mg_of X G gk_KEYWORDS, .tup lk2 (by simp [sizeLine]) (.cons (.str _ _) (.cons (.str _ _) (.cons (.str _ _) (.cons (.str _ _) (.cons (.str _ _) (.cons (.str _ _) (.cons (.str _ _) (.cons (.str _ _) (.cons (.str _ _) (.cons (.str _ _) (.cons (.str _ _) (.cons (.str _ _) (.cons (.str _ _) (.cons (.str _ _) (.nil)))))))))))))))⟩
    · exact ⟨_, PySem.W.mg_of X G gk_LARGE, .str _ _⟩
    · exact ⟨_, PySem.W.mg_of X G gk_LONG_SIGNS, .tup lk18 (by simp [sizeLine]) (.cons (.str _ _) (.cons (.str _ _) (.cons (.str _ _) (.cons (.str _ _) (.cons (.str _ _) (.nil))))))⟩
    · exact ⟨_, PySem.W.mg_of X G gk_MOST, .int _ _⟩
    · exact ⟨_, PySem.W.mg_of X G gk_SHORT_SIGNS, .str _ _⟩
    · exact ⟨_, PySem.W.mg_of X G gk_SMALL, .str _ _⟩
  have F0 := fun_mk (st := s_word_end) l0 c0 k0
  have b0 := F0.binds (ps := ["text", "start"]) fun _ _ _ _ _ _ us hl => match us, hl with | [_, _], _ => rfl
  have O0 := ok_word_end (P := l.prog) (w := w) (base := base) F0 T 
  have D0 : FD l.prog w K mg base 1 "_word_end" 2 (f_word_end) := ⟨⟨_, _, _, O0, PySem.W.mg_of X G a0, k0, b0⟩⟩
  have F1 := fun_mk (st := s_is_number) l1 c1 k1
  have b1 := F1.binds (ps := ["word"]) fun _ _ _ _ _ _ us hl => match us, hl with | [_], _ => rfl
  have O1 := ok_is_number (P := l.prog) (w := w) (base := base) F1 T 
  have D1 : FD l.prog w K mg base 1 "_is_number" 1 (f_is_number) := ⟨⟨_, _, _, O1, PySem.W.mg_of X G a1, k1, b1⟩⟩
  have F2 := fun_mk (st := s_word_kind) l2 c2 k2
  have b2 := F2.binds (ps := ["word", "row", "column"]) fun _ _ _ _ _ _ us hl => match us, hl with | [_, _, _], _ => rfl
  have O2 := ok_word_kind (P := l.prog) (w := w) (base := base) F2 T D1
  have D2 : FD l.prog w K mg base 2 "_word_kind" 3 (f_word_kind) := ⟨⟨_, _, _, O2, PySem.W.mg_of X G a2, k2, b2⟩⟩
  have F3 := fun_mk (st := s_token_at) l3 c3 k3
  have b3 := F3.binds (ps := ["text", "start", "row", "column"]) fun _ _ _ _ _ _ us hl => match us, hl with | [_, _, _, _], _ => rfl
  have O3 := ok_token_at (P := l.prog) (w := w) (base := base) F3 T D2 D0
  have D3 : FD l.prog w K mg base 3 "_token_at" 4 (f_token_at) := ⟨⟨_, _, _, O3, PySem.W.mg_of X G a3, k3, b3⟩⟩
  have F4 := fun_mk (st := s_comment_end) l4 c4 k4
  have b4 := F4.binds (ps := ["text", "start"]) fun _ _ _ _ _ _ us hl => match us, hl with | [_, _], _ => rfl
  have O4 := ok_comment_end (P := l.prog) (w := w) (base := base) F4 T 
  have D4 : FD l.prog w K mg base 1 "_comment_end" 2 (f_comment_end) := ⟨⟨_, _, _, O4, PySem.W.mg_of X G a4, k4, b4⟩⟩
  have F5 := fun_mk (st := s_tokens) l5 c5 k5
  have b5 := F5.binds (ps := ["text"]) fun _ _ _ _ _ _ us hl => match us, hl with | [_], _ => rfl
  have O5 := ok_tokens (P := l.prog) (w := w) (base := base) F5 T D4 D3
  have D5 : FD l.prog w K mg base 4 "tokens" 1 (f_tokens) := ⟨⟨_, _, _, O5, PySem.W.mg_of X G a5, k5, b5⟩⟩
  have F6 := fun_mk (st := s_z_mix) l6 c6 k6
  have b6 := F6.binds (ps := ["_law_cell", "_law_k"]) fun _ _ _ _ _ _ us hl => match us, hl with | [_, _], _ => rfl
  have O6 := ok_z_mix (P := l.prog) (w := w) (base := base) F6 T 
  have D6 : FD l.prog w K mg base 1 "_law_mix" 2 (f_z_mix) := ⟨⟨_, _, _, O6, PySem.W.mg_of X G a6, k6, b6⟩⟩
  have F7 := fun_mk (st := s_z_stream) l7 c7 k7
  have b7 := F7.binds (ps := ["_law_script", "_law_most"]) fun _ _ _ _ _ _ us hl => match us, hl with | [_, _], _ => rfl
  have O7 := ok_z_stream (P := l.prog) (w := w) (base := base) F7 T D6
  have D7 : FD l.prog w K mg base 2 "_law_stream" 2 (f_z_stream) := ⟨⟨_, _, _, O7, PySem.W.mg_of X G a7, k7, b7⟩⟩
  have F8 := fun_mk (st := s_z_pick) l8 c8 k8
  have b8 := F8.binds (ps := ["_law_draws", "_law_many"]) fun _ _ _ _ _ _ us hl => match us, hl with | [_, _], _ => rfl
  have O8 := ok_z_pick (P := l.prog) (w := w) (base := base) F8 T D6
  have D8 : FD l.prog w K mg base 2 "_law_pick" 2 (f_z_pick) := ⟨⟨_, _, _, O8, PySem.W.mg_of X G a8, k8, b8⟩⟩
  have F9 := fun_mk (st := s_z_word) l9 c9 k9
  have b9 := F9.binds (ps := ["_law_draws"]) fun _ _ _ _ _ _ us hl => match us, hl with | [_], _ => rfl
  have O9 := ok_z_word (P := l.prog) (w := w) (base := base) F9 T D8
  have D9 : FD l.prog w K mg base 3 "_law_word" 1 (f_z_word) := ⟨⟨_, _, _, O9, PySem.W.mg_of X G a9, k9, b9⟩⟩
  have F10 := fun_mk (st := s_z_alone) l10 c10 k10
  have b10 := F10.binds (ps := ["_law_text"]) fun _ _ _ _ _ _ us hl => match us, hl with | [_], _ => rfl
  have O10 := ok_z_alone (P := l.prog) (w := w) (base := base) F10 T 
  have D10 : FD l.prog w K mg base 1 "_law_alone" 1 (f_z_alone) := ⟨⟨_, _, _, O10, PySem.W.mg_of X G a10, k10, b10⟩⟩
  have F11 := fun_mk (st := s_z_between) l11 c11 k11
  have b11 := F11.binds (ps := ["_law_draws"]) fun _ _ _ _ _ _ us hl => match us, hl with | [_], _ => rfl
  have O11 := ok_z_between (P := l.prog) (w := w) (base := base) F11 T D8
  have D11 : FD l.prog w K mg base 3 "_law_between" 1 (f_z_between) := ⟨⟨_, _, _, O11, PySem.W.mg_of X G a11, k11, b11⟩⟩
  have F12 := fun_mk (st := s_z_place) l12 c12 k12
  have b12 := F12.binds (ps := ["_law_text"]) fun _ _ _ _ _ _ us hl => match us, hl with | [_], _ => rfl
  have O12 := ok_z_place (P := l.prog) (w := w) (base := base) F12 T 
  have D12 : FD l.prog w K mg base 1 "_law_place" 1 (f_z_place) := ⟨⟨_, _, _, O12, PySem.W.mg_of X G a12, k12, b12⟩⟩
  have F13 := fun_mk (st := s_law) l13 c13 k13
  have b13 := F13.binds (ps := ["_law_script"]) fun _ _ _ _ _ _ us hl => match us, hl with | [_], _ => rfl
  have O13 := ok_law (P := l.prog) (w := w) (base := base) F13 T D7 D12 D5 D8 D9 D10 D11
  exact O13
theorem walk {l : PySem.W.OpenLaw} {q : Program} {loose : List Str} {XP : (Str → Option Value) → Heap → Prop} {YP : World → Heap → Prop} {d : DefRec} {K : Params → PySem.W.Frag} (hn : l.most = some 63) (hdf : d.params.defaults = [])
    (hY : ∀ (w : World) (h : Heap), YP w h → (K w.params).In h)
    (F : ∀ (w : World) (mg : Str → Option Value) (fa : Addr) (h : Heap), (K w.params).In h → h.Ns mainGlobals mg → mg d.name = some (.ref fa) →
      ∃ fd : FuncData, (∀ (s : Shared) (u : Value), BindsTo s fd ⟨[u], []⟩ [("_law_script", u)]) ∧ ∀ base : Heap, (K w.params).In base → base.Ns mainGlobals mg → FnOk l.prog w (K w.params) mg base (L2.CX l.prog w) 5 fa fd ["_law_script"] (spLaw (K w.params))) :
    PySem.W.WalkO q loose XP YP l.row.toRowW d [] (fun f vs => PySem.call f vs) :=
  L2.walk_ofB (n := 63) (k := 5) (x := "_law_script") (CX := fun w => L2.CX l.prog w) (sp := fun w => spLaw (K w.params)) hn (by decide) hdf ⟨rfl, by decide, by decide⟩ hY F (fun w H a ns hl hb hO hS => FL.law_hsp (P := fun ns => ns.length ≤ 63 ∧ ∀ z ∈ ns, Builtin.Int.intBits z ≤ 1048576) (fun ns hp => law_true ns hp.1 hp.2) H a ns ⟨hl, hb⟩ hO hS) fun _ _ _ _ _ h => FL.law_CX h
end K00
open PySem PySem.W PyProof.Rows
set_option maxRecDepth 100000 in
set_option maxHeartbeats 0 in
theorem PySem.Challenge.cw_needonce_k00_tokens_of_a_text_holds : PySem.Challenge.rw_needonce_k00_tokens_of_a_text.Holds := by
  w_on; o_law; k_head; (case hw => w_witness2)
  k_fill
  refine K00.walk (l := PySem.Challenge.rw_needonce_k00_tokens_of_a_text) rfl rfl (fun w h Y => PySem.W.kIn_of Y) ?F
  case F =>
    intro w mg fa h KX G hmg
    refine' K00.all_mk KX G hmg ?a0 ?l0 ?c0 ?k0 ?a1 ?l1 ?c1 ?k1 ?a2 ?l2 ?c2 ?k2 ?a3 ?l3 ?c3 ?k3 ?a4 ?l4 ?c4 ?k4 ?a5 ?l5 ?c5 ?k5 ?a6 ?l6 ?c6 ?k6 ?a7 ?l7 ?c7 ?k7 ?a8 ?l8 ?c8 ?k8 ?a9 ?l9 ?c9 ?k9 ?a10 ?l10 ?c10 ?k10 ?a11 ?l11 ?c11 ?k11 ?a12 ?l12 ?c12 ?k12 ?a13 ?l13 ?c13 ?k13 ?z_int ?z_isinstance ?z_len ?z_list ?z_min ?z_range ?gk_DIGITS ?gk_KEYWORDS ?lk2 ?gk_LARGE ?gk_LONG_SIGNS ?lk18 ?gk_MOST ?gk_SHORT_SIGNS ?gk_SMALL
    (case a0 => k_is)
    (case l0 => k_is)
    (case c0 => k_is)
    (case k0 => k_is)
    (case a1 => k_is)
    (case l1 => k_is)
    (case c1 => k_is)
    (case k1 => k_is)
    (case a2 => k_is)
    (case l2 => k_is)
    (case c2 => k_is)
    (case k2 => k_is)
    (case a3 => k_is)
    (case l3 => k_is)
    (case c3 => k_is)
    (case k3 => k_is)
    (case a4 => k_is)
    (case l4 => k_is)
    (case c4 => k_is)
    (case k4 => k_is)
    (case a5 => k_is)
    (case l5 => k_is)
    (case c5 => k_is)
    (case k5 => k_is)
    (case a6 => k_is)
    (case l6 => k_is)
    (case c6 => k_is)
    (case k6 => k_is)
    (case a7 => k_is)
    (case l7 => k_is)
    (case c7 => k_is)
    (case k7 => k_is)
    (case a8 => k_is)
    (case l8 => k_is)
    (case c8 => k_is)
    (case k8 => k_is)
    (case a9 => k_is)
    (case l9 => k_is)
    (case c9 => k_is)
    (case k9 => k_is)
    (case a10 => k_is)
    (case l10 => k_is)
    (case c10 => k_is)
    (case k10 => k_is)
    (case a11 => k_is)
    (case l11 => k_is)
    (case c11 => k_is)
    (case k11 => k_is)
    (case a12 => k_is)
    (case l12 => k_is)
    (case c12 => k_is)
    (case k12 => k_is)
    (case a13 => k_is)
    (case l13 => k_is)
    (case c13 => k_is)
    (case k13 => k_is)
    (case z_int => k_is)
    (case z_isinstance => k_is)
    (case z_len => k_is)
    (case z_list => k_is)
    (case z_min => k_is)
    (case z_range => k_is)
    (case gk_DIGITS => k_is)
    (case gk_KEYWORDS => k_is)
    (case lk2 => k_is)
    (case gk_LARGE => k_is)
    (case gk_LONG_SIGNS => k_is)
    (case lk18 => k_is)
    (case gk_MOST => k_is)
    (case gk_SHORT_SIGNS => k_is)
    (case gk_SMALL => k_is)

