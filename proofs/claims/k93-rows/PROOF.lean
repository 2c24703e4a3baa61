import PyProof.Rows.All
import Wide.All
import OpenK.AllK
import Wide.FinOn
import HandS.ForMost
import HandS.EndBits
import HandS.Exc
import HandS.TryOnly
import HandS.ExcOwn
import HandS.WordsExc
import HandS.Gcd
import HandS.Wide
import HandS.Flow
import HandS.Style
import HandS.IsInst
import HandS.TupAny
import HandS.TupMul
import HandS.Zip
import HandS.Deep
import HandS.Defaults
import KE.DatumOrd
import KE.KTupSum
import HandS.More
import HandS.HeadHook2
import HandS.Head2
import HandS.HeadHook4
import HandS.Codes
import HandS.Head3
import PySem.Challenge.RW_tablelots_k93_across_long_rows_of_letter
set_option Elab.async false
set_option linter.all false
set_option maxRecDepth 100000
set_option maxHeartbeats 0
namespace LD
open PySem PySem.Spec PyProof.Rows L2

/-- a value without addresses of tuples: a tuple is a tree; what can change stands in the store -/
inductive D where
  | non | bl (b : Bool) | int (i : Int) | str (x : Str) | ty (n : String) | ref (a : Addr)
  | tup (xs : List D) | rol (xs : List D)
  | rod (ks : List Int) (vs : List D)
instance : Inhabited D := ⟨.non⟩

/-- a list that is only read: known by its object, or of the written part -/
def RoL (K : PySem.W.Frag) (H : Hp) (a : Addr) (xs : List V) : Prop :=
  (∃ o, H a = some (.frz o (.lst xs))) ∨
    ∃ (o : Obj) (its : Array Value) (n : Nat), K.lookup a = some o ∧ o.cls = .type "list" ∧ o.dict = none ∧ o.data = .seq its n ∧ its.size ≤ sizeLine ∧ Vals xs its.toList
theorem RoL.sq {K : PySem.W.Frag} {H : Hp} {a : Addr} {xs : List V} (h : RoL K H a xs) : SqL K H a xs := by
  rcases h with ⟨o, h⟩ | h
  · exact .inl (.inr ⟨o, h⟩)
  · exact .inr h

/-- a dict of the written part with int keys -/
def DEnt : List DictEntry → List Int → List V → Prop
  | [], [], [] => True
  | e :: es, k :: ks, v :: vs => (∃ t, e.key = .int k t) ∧ e.hash = hashInt k ∧ RelV v e.val ∧ DEnt es ks vs
  | _, _, _ => False
mutual
inductive Rep (K : PySem.W.Frag) (H : Hp) : V → D → Prop
  | non : Rep K H .non .non
  | bl (b : Bool) : Rep K H (.bl b) (.bl b)
  | int (i : Int) : Rep K H (.int i) (.int i)
  | str (x : Str) : Rep K H (.str x) (.str x)
  | ty (n : String) : Rep K H (.ty n) (.ty n)
  | ref (a : Addr) : Rep K H (.ref a) (.ref a)
  | tup {a : Addr} {vs : List V} {ds : List D} : SqT K H a vs → Reps K H vs ds → Rep K H (.ref a) (.tup ds)
  | rol {a : Addr} {vs : List V} {ds : List D} : RoL K H a vs → Reps K H vs ds → Rep K H (.ref a) (.rol ds)
  | rod {a : Addr} {es : Array DictEntry} {n : Nat} {ks : List Int} {vs : List V} {ds : List D} : K.lookup a = some ⟨.type "dict", none, .dict es n, #[]⟩ → DEnt es.toList ks vs → Reps K H vs ds → Rep K H (.ref a) (.rod ks ds)
inductive Reps (K : PySem.W.Frag) (H : Hp) : List V → List D → Prop
  | nil : Reps K H [] []
  | cons {v : V} {vs : List V} {d : D} {ds : List D} : Rep K H v d → Reps K H vs ds → Reps K H (v :: vs) (d :: ds)
end

/-- what stands in the store -/
inductive MO where
  | lst (xs : List D)
  | dic (kvs : List (Key × D))
abbrev Mu := Addr → Option MO
def up (μ : Mu) (a : Addr) (o : MO) : Mu := fun b => if b = a then some o else μ b
theorem up_same {μ : Mu} {a : Addr} {o : MO} : up μ a o a = some o := if_pos rfl
theorem up_ne {μ : Mu} {a b : Addr} {o : MO} (h : b ≠ a) : up μ a o b = μ b := if_neg h
theorem up_up {μ : Mu} {a : Addr} {o u : MO} : up (up μ a o) a u = up μ a u := by
  funext b; unfold up; split <;> rfl

def KReps (K : PySem.W.Frag) (H : Hp) : List (Key × V) → List (Key × D) → Prop := Paired fun p q => p.1 = q.1 ∧ Rep K H p.2 q.2
def MRep (K : PySem.W.Frag) (H : Hp) (a : Addr) : MO → Prop
  | .lst ds => ∃ vs, H a = some (.lst vs) ∧ Reps K H vs ds
  | .dic kvs => ∃ kws, H a = some (.dK kws) ∧ KReps K H kws kvs
/-- the store is held by the abstract heap -/
def SRep (K : PySem.W.Frag) (H : Hp) (μ : Mu) : Prop := ∀ a o, μ a = some o → MRep K H a o
/-- all that is tracked beside the store stays, and stays beside it -/
def Ext (H : Hp) (μ : Mu) (H' : Hp) (μ' : Mu) : Prop := ∀ a o, H a = some o → μ a = none → H' a = some o ∧ μ' a = none
theorem Ext.refl {H : Hp} {μ : Mu} : Ext H μ H μ := fun _ _ h n => ⟨h, n⟩
theorem Ext.trans {H H1 H2 : Hp} {μ μ1 μ2 : Mu} (a : Ext H μ H1 μ1) (b : Ext H1 μ1 H2 μ2) : Ext H μ H2 μ2 := fun c o h n =>
  let ⟨h1, n1⟩ := a c o h n
  b c o h1 n1
section
variable {K : PySem.W.Frag} {H H' : Hp} {μ μ' : Mu}
theorem SRep.none_of (S : SRep K H μ) {a : Addr} (h : H a = none) : μ a = none := by
  cases e : μ a with
  | none => rfl
  | some o =>
    have r := S a o e
    cases o with
    | lst ds => obtain ⟨vs, h1, _⟩ := r; rw [h] at h1; cases h1
    | dic kvs => obtain ⟨vs, h1, _⟩ := r; rw [h] at h1; cases h1
theorem SRep.tup_none (S : SRep K H μ) {a : Addr} {vs : List V} (h : H a = some (.tup vs)) : μ a = none := by
  cases e : μ a with
  | none => rfl
  | some o =>
    have r := S a o e
    cases o with
    | lst ds => obtain ⟨vs, h1, _⟩ := r; rw [h] at h1; cases h1
    | dic kvs => obtain ⟨vs, h1, _⟩ := r; rw [h] at h1; cases h1
theorem SRep.frz_none (S : SRep K H μ) {a : Addr} {ob : Obj} {u : HO} (h : H a = some (.frz ob u)) : μ a = none := by
  cases e : μ a with
  | none => rfl
  | some o =>
    have r := S a o e
    cases o with
    | lst ds => obtain ⟨vs, h1, _⟩ := r; rw [h] at h1; cases h1
    | dic kvs => obtain ⟨vs, h1, _⟩ := r; rw [h] at h1; cases h1
theorem SqT.ext (S : SRep K H μ) (x : Ext H μ H' μ') {a : Addr} {vs : List V} (h : SqT K H a vs) : SqT K H' a vs := by
  rcases h with (h | ⟨o, h⟩) | h
  · exact .inl (.inl (x _ _ h (S.tup_none h)).1)
  · exact .inl (.inr ⟨o, (x _ _ h (S.frz_none h)).1⟩)
  · exact .inr h
theorem RoL.ext (S : SRep K H μ) (x : Ext H μ H' μ') {a : Addr} {vs : List V} (h : RoL K H a vs) : RoL K H' a vs := by
  rcases h with ⟨o, h⟩ | h
  · exact .inl ⟨o, (x _ _ h (S.frz_none h)).1⟩
  · exact .inr h
mutual
theorem Rep.ext (S : SRep K H μ) (x : Ext H μ H' μ') {v : V} {d : D} (h : Rep K H v d) : Rep K H' v d := by
  cases h with
  | non => exact .non
  | bl b => exact .bl b
  | int i => exact .int i
  | str y => exact .str y
  | ty n => exact .ty n
  | ref a => exact .ref a
  | tup h1 h2 => exact .tup (SqT.ext S x h1) (Reps.ext S x h2)
  | rol h1 h2 => exact .rol (RoL.ext S x h1) (Reps.ext S x h2)
  | rod h0 h1 h2 => exact .rod h0 h1 (Reps.ext S x h2)
theorem Reps.ext (S : SRep K H μ) (x : Ext H μ H' μ') {vs : List V} {ds : List D} (h : Reps K H vs ds) : Reps K H' vs ds := by
  cases h with
  | nil => exact .nil
  | cons h1 h2 => exact .cons (Rep.ext S x h1) (Reps.ext S x h2)
end
theorem KReps.ext (S : SRep K H μ) (x : Ext H μ H' μ') {kws : List (Key × V)} {kvs : List (Key × D)} (h : KReps K H kws kvs) : KReps K H' kws kvs :=
  Paired.mapP h fun _ _ z => ⟨z.1, z.2.ext S x⟩
theorem Reps.length : ∀ {vs : List V} {ds : List D}, Reps K H vs ds → vs.length = ds.length
  | _, _, .nil => rfl
  | _, _, .cons _ t => by rw [List.length_cons, List.length_cons, Reps.length t]
theorem Reps.get : ∀ {vs : List V} {ds : List D} {i : Nat} {d : D}, Reps K H vs ds → ds[i]? = some d → ∃ v, vs[i]? = some v ∧ Rep K H v d
  | _, _, _, _, .nil, e => by simp at e
  | _, _, 0, _, .cons r _, e => by simp at e; subst e; exact ⟨_, rfl, r⟩
  | _, _, i + 1, d, .cons _ t, e => by
    obtain ⟨v, h1, h2⟩ := Reps.get (i := i) (d := d) t (by simpa using e)
    exact ⟨v, by simpa using h1, h2⟩
theorem Reps.getV : ∀ {vs : List V} {ds : List D} {i : Nat} {v : V}, Reps K H vs ds → vs[i]? = some v → ∃ d, ds[i]? = some d ∧ Rep K H v d
  | _, _, _, _, .nil, e => by simp at e
  | _, _, 0, _, .cons r _, e => by simp at e; subst e; exact ⟨_, rfl, r⟩
  | _, _, i + 1, d, .cons _ t, e => by
    obtain ⟨v, h1, h2⟩ := Reps.getV (i := i) (v := d) t (by simpa using e)
    exact ⟨v, by simpa using h1, h2⟩
theorem Reps.append : ∀ {vs ws : List V} {ds es : List D}, Reps K H vs ds → Reps K H ws es → Reps K H (vs ++ ws) (ds ++ es)
  | _, _, _, _, .nil, s => s
  | _, _, _, _, .cons r t, s => .cons r (Reps.append t s)
theorem Reps.take : ∀ {vs : List V} {ds : List D} (n : Nat), Reps K H vs ds → Reps K H (vs.take n) (ds.take n)
  | _, _, 0, _ => .nil
  | _, _, _ + 1, .nil => .nil
  | _, _, n + 1, .cons r t => .cons r (Reps.take n t)
theorem Reps.drop : ∀ {vs : List V} {ds : List D} (n : Nat), Reps K H vs ds → Reps K H (vs.drop n) (ds.drop n)
  | _, _, 0, r => r
  | _, _, _ + 1, .nil => .nil
  | _, _, n + 1, .cons _ t => Reps.drop n t
theorem Reps.set {v : V} {d : D} (r : Rep K H v d) : ∀ {vs : List V} {ds : List D} (i : Nat), Reps K H vs ds → Reps K H (vs.set i v) (ds.set i d)
  | _, _, _, .nil => .nil
  | _, _, 0, .cons _ t => .cons r t
  | _, _, i + 1, .cons q t => .cons q (Reps.set r i t)
theorem Reps.reverse {vs : List V} {ds : List D} (h : Reps K H vs ds) : Reps K H vs.reverse ds.reverse := by
  have go : ∀ {vs : List V} {ds : List D}, Reps K H vs ds → Reps K H vs.reverse ds.reverse := by
    intro vs
    induction vs with
    | nil => intro ds h; cases h; exact .nil
    | cons v vs ih =>
      intro ds h
      cases h with
      | cons r t =>
        rw [List.reverse_cons, List.reverse_cons]
        exact (ih t).append (.cons r .nil)
  exact go h
theorem Reps.rep {vs : List V} {ds : List D} (h : Reps K H vs ds) : ∀ k : Nat, Reps K H (List.replicate k vs).flatten (List.replicate k ds).flatten
  | 0 => .nil
  | k + 1 => by
    rw [List.replicate_succ, List.replicate_succ, List.flatten_cons, List.flatten_cons]
    exact h.append (Reps.rep h k)
theorem Reps.nil_iff {vs : List V} {ds : List D} (h : Reps K H vs ds) : vs = [] ↔ ds = [] := by
  cases h with
  | nil => simp
  | cons r t => simp
theorem Reps.ints : ∀ {vs : List V} {ns : List Int}, Reps K H vs (ns.map D.int) → vs = ns.map V.int
  | _, [], .nil => rfl
  | _, n :: ns, .cons r t => by
    cases r
    rw [List.map_cons, Reps.ints t]
theorem Reps.of_ints : ∀ ns : List Int, Reps K H (ns.map V.int) (ns.map D.int)
  | [] => .nil
  | n :: ns => .cons (.int n) (Reps.of_ints ns)
theorem Reps.bls : ∀ {vs : List V} {ns : List Bool}, Reps K H vs (ns.map D.bl) → vs = ns.map V.bl
  | _, [], .nil => rfl
  | _, n :: ns, .cons r t => by
    cases r
    rw [List.map_cons, Reps.bls t]

/-! ### new things -/
/-- a new object beside the store -/
theorem Ext.new {p : Addr} {o : HO} (h : H p = none) (n : μ p = none) : Ext H μ (upd H p o) μ := fun a u e m => by
  refine ⟨?_, m⟩
  rw [upd_ne (ne_of_none e h)]
  exact e
theorem SRep.ext (S : SRep K H μ) (x : Ext H μ H' μ') (k : ∀ a o, μ a = some o → H' a = H a) : SRep K H' μ := fun a o e => by
  have r := S a o e
  cases o with
  | lst ds =>
    obtain ⟨vs, h1, h2⟩ := r
    exact ⟨vs, (k a _ e).trans h1, h2.ext S x⟩
  | dic kvs =>
    obtain ⟨vs, h1, h2⟩ := r
    exact ⟨vs, (k a _ e).trans h1, h2.ext S x⟩
theorem SRep.new (S : SRep K H μ) {p : Addr} {o : HO} (h : H p = none) : SRep K (upd H p o) μ :=
  S.ext (Ext.new h (S.none_of h)) fun a u e => upd_ne fun z => by
    rw [z, S.none_of h] at e
    cases e
/-- a new object of the store -/
theorem Ext.newS {p : Addr} {o : HO} {u : MO} (h : H p = none) : Ext H μ (upd H p o) (up μ p u) := fun a v e m => by
  have ne := ne_of_none e h
  exact ⟨by rw [upd_ne ne]; exact e, by rw [up_ne ne]; exact m⟩
theorem SRep.newL (S : SRep K H μ) {p : Addr} {vs : List V} {ds : List D} (h : H p = none) (r : Reps K H vs ds) : SRep K (upd H p (.lst vs)) (up μ p (.lst ds)) := fun a o e => by
  have x := Ext.new (o := .lst vs) h (S.none_of h)
  by_cases ha : a = p
  · subst ha
    rw [up_same] at e
    cases e
    exact ⟨vs, upd_same, r.ext S x⟩
  · rw [up_ne ha] at e
    exact S.new h a o e
theorem SRep.newD (S : SRep K H μ) {p : Addr} {vs : List (Key × V)} {ds : List (Key × D)} (h : H p = none) (r : KReps K H vs ds) : SRep K (upd H p (.dK vs)) (up μ p (.dic ds)) := fun a o e => by
  have x := Ext.new (o := .dK vs) h (S.none_of h)
  by_cases ha : a = p
  · subst ha
    rw [up_same] at e
    cases e
    exact ⟨vs, upd_same, r.ext S x⟩
  · rw [up_ne ha] at e
    exact S.new h a o e
/-- an object of the store is changed -/
theorem Ext.wr {p : Addr} {o : HO} {u w : MO} (h : μ p = some w) : Ext H μ (upd H p o) (up μ p u) := fun a v e m => by
  have ne : a ≠ p := fun z => by rw [z, h] at m; cases m
  exact ⟨by rw [upd_ne ne]; exact e, by rw [up_ne ne]; exact m⟩
theorem SRep.wrL (S : SRep K H μ) {p : Addr} {w : MO} {vs : List V} {ds : List D} (h : μ p = some w) (r : Reps K H vs ds) : SRep K (upd H p (.lst vs)) (up μ p (.lst ds)) := fun a o e => by
  have x : Ext H μ (upd H p (.lst vs)) (up μ p (.lst ds)) := Ext.wr h
  by_cases ha : a = p
  · subst ha
    rw [up_same] at e
    cases e
    exact ⟨vs, upd_same, r.ext S x⟩
  · rw [up_ne ha] at e
    have q := S a o e
    cases o with
    | lst es =>
      obtain ⟨ws, h1, h2⟩ := q
      exact ⟨ws, by rw [upd_ne ha]; exact h1, h2.ext S x⟩
    | dic es =>
      obtain ⟨ws, h1, h2⟩ := q
      exact ⟨ws, by rw [upd_ne ha]; exact h1, h2.ext S x⟩
theorem SRep.wrD (S : SRep K H μ) {p : Addr} {w : MO} {vs : List (Key × V)} {ds : List (Key × D)} (h : μ p = some w) (r : KReps K H vs ds) : SRep K (upd H p (.dK vs)) (up μ p (.dic ds)) := fun a o e => by
  have x : Ext H μ (upd H p (.dK vs)) (up μ p (.dic ds)) := Ext.wr h
  by_cases ha : a = p
  · subst ha
    rw [up_same] at e
    cases e
    exact ⟨vs, upd_same, r.ext S x⟩
  · rw [up_ne ha] at e
    have q := S a o e
    cases o with
    | lst es =>
      obtain ⟨ws, h1, h2⟩ := q
      exact ⟨ws, by rw [upd_ne ha]; exact h1, h2.ext S x⟩
    | dic es =>
      obtain ⟨ws, h1, h2⟩ := q
      exact ⟨ws, by rw [upd_ne ha]; exact h1, h2.ext S x⟩
end

/-! ### slots -/
abbrev Rho := List (Option D)
structure ERep (K : PySem.W.Frag) (H : Hp) (σ : L2.St) (ρ : Rho) : Prop where
  len : σ.length = ρ.length
  get : ∀ (i : Nat) (d : D), ρ[i]? = some (some d) → ∃ v, σ[i]? = some (some v) ∧ Rep K H v d
section
variable {K : PySem.W.Frag} {H H' : Hp} {μ μ' : Mu} {σ : L2.St} {ρ : Rho}
theorem ERep.ext (e : ERep K H σ ρ) (S : SRep K H μ) (x : Ext H μ H' μ') : ERep K H' σ ρ :=
  ⟨e.len, fun i d h => let ⟨v, h1, h2⟩ := e.get i d h; ⟨v, h1, h2.ext S x⟩⟩
theorem ERep.set (e : ERep K H σ ρ) {v : V} {d : D} (r : Rep K H v d) (i : Nat) : ERep K H (σ.set i (some v)) (ρ.set i (some d)) := by
  refine ⟨by rw [List.length_set, List.length_set]; exact e.len, fun j d' h => ?_⟩
  by_cases hj : i = j
  · subst hj
    have hl : i < ρ.length := by
      have := (List.getElem?_eq_some_iff.mp h).1
      simpa using this
    rw [List.getElem?_set_self hl] at h
    cases h
    exact ⟨v, List.getElem?_set_self (by rw [e.len]; exact hl), r⟩
  · rw [List.getElem?_set_ne hj] at h
    rw [List.getElem?_set_ne hj]
    exact e.get j d' h
def wipeR (ρ : Rho) : List Nat → Rho
  | [] => ρ
  | v :: vs => (wipeR ρ vs).set v none
theorem ERep.wipe (e : ERep K H σ ρ) : ∀ vs : List Nat, ERep K H (wipe σ vs) (wipeR ρ vs)
  | [] => e
  | i :: vs => by
    have ih := ERep.wipe e vs
    refine ⟨by unfold L2.wipe wipeR; rw [List.length_set, List.length_set]; exact ih.len, fun j d' h => ?_⟩
    unfold wipeR at h
    unfold L2.wipe
    by_cases hj : i = j
    · subst hj
      by_cases hl : i < (wipeR ρ vs).length
      · rw [List.getElem?_set_self hl] at h
        cases h
      · rw [List.getElem?_eq_none (by simpa using hl)] at h
        cases h
    · rw [List.getElem?_set_ne hj] at h
      rw [List.getElem?_set_ne hj]
      exact ih.get j d' h
end
end LD
namespace LD
open PySem PySem.Spec PyProof.Rows L2
/-! what the layer needs beside the library: tuple * 1 -/
theorem tuple_mul1 (l : Addr) (items : Array Value) (n : Nat) (sl : Array (Option Value)) (dd : Option Addr) (u : Tok) :
    PySem.Meets (Builtin.«tuple.__mul__» ⟨[.ref l, .int 1 u], []⟩) (fun _ R s => s.heap.get? l = some { cls := .type "tuple", dict := dd, data := .seq items n, slots := sl } ∧
      R (.ok (.ret (Value.ref l))) s) :=
  .of_wp fun prog w A R s h => by
    obtain ⟨hp, g, d, tk, os⟩ := s
    obtain ⟨hl, h⟩ := h
    have f1 := AutoSeq1.idx_int
    wp_walk using wpAny_loadPart' hl
    repeat (first
      | (refine wpAny_ite_false (decide_eq_false (by decide)) ?_; wp_walk using wpAny_loadPart' hl)
      | (refine wpAny_ite_true (decide_eq_true (by simp)) ?_; wp_walk using wpAny_loadPart' hl))
    exact ⟨_, rfl, h⟩
theorem op_repT1 {X : Cx} : OpR X (binaryOp .Mult) (fun x y H Q => ∃ l xs, x = .ref l ∧ y = .int 1 ∧ SqT X.K H l xs ∧ Q (.ref l) H) := by
  intro pins s σ H x y v u Q I rx ry h
  obtain ⟨l, xs, rfl, rfl, hT, q⟩ := h
  cases rx
  obtain ⟨t, rfl⟩ := ry
  obtain ⟨its, r, ⟨⟨cls, dd, data, sl⟩, ho, hc, n, hd⟩, hs⟩ := I.tuple hT
  simp only at hc hd
  subst hc hd
  refine wpAny_binaryOp_repeat_ref (T := "tuple") (U := "int") (by decide) ⟨_, ho, rfl⟩ (fun s' => typeIs_int s' 1 t) noFill_tuple_mul F.fills_int_mul F.slot_int_rmul repeat_tuple F.slot_int_index.lookup
    (call_meets F.slot_int_rmul (typeIs_int s 1 t) F.entry_int_rmul (F.args_int_rmul_2 _ _) (int_rmul_tuple 1 t l its.toArray n dd sl)
      ⟨ho, rfl, ⟨_, ho, rfl⟩, call_meets F.slot_tuple_mul ⟨_, ho, rfl⟩ F.entry_tuple_mul (F.args_tuple_mul_2 _ _) (tuple_mul1 l its.toArray n sl dd t) ⟨ho, ?_⟩⟩)
  exact ⟨.ref l, H, I, rfl, q⟩
end LD
namespace LD
open PySem PySem.Spec PyProof.Rows L2 HT
section
variable {prog : Program} {w : World} {A : Around} {E : Value → Shared → Prop} {s : Shared}
theorem adjust_rev (n : Nat) : Builtin.Slice.sliceAdjust none none (-1) (n : Int) = ((n : Int) - 1, -1) := by
  unfold Builtin.Slice.sliceAdjust
  simp
theorem places_rev (n : Nat) : Builtin.Slice.slicePlaces ((n : Int) - 1) (-1) (-1) = n := by
  unfold Builtin.Slice.slicePlaces
  simp
  split <;> omega
theorem sliceApplied_rev {sl : Addr} {n : Nat} {t : Tok} {Q : Int × Int × Nat → Shared → Prop} (hs : s.heap.IsSliceOf sl .none .none (.int (-1) t))
    (h : Q ((n : Int) - 1, -1, n) s) : wpAny (model prog w) A (Builtin.Slice.sliceApplied (.ref sl) (pure (n : Int))) Q E s := by
  obtain ⟨os, hos, hcs, hds⟩ := id hs
  unfold Builtin.Slice.sliceApplied Builtin.Slice.sliceFields
  refine wpAny_bind (wpAny_bind (wpAny_field hos hds (x := .none) rfl (wpAny_bind (wpAny_field hos hds (x := .none) rfl (wpAny_bind (wpAny_field hos hds (x := .int (-1) t) rfl (wpAny_pure ?_)))))))
  refine wpAny_bind (slicePart_int ?_)
  show wpAny _ _ (if ((-1 : Int) == 0) = true then _ else _) _ _ s
  rw [if_neg (by decide)]
  refine wpAny_bind (slicePart_none (wpAny_bind (slicePart_none (wpAny_bind (wpAny_pure ?_)))))
  show wpAny _ _ (match Builtin.Slice.sliceAdjust none none (-1) (n : Int) with | (lo, hi) => pure (lo, (-1 : Int), Builtin.Slice.slicePlaces lo hi (-1))) _ _ s
  rw [adjust_rev n]
  show wpAny _ _ (pure ((n : Int) - 1, (-1 : Int), Builtin.Slice.slicePlaces ((n : Int) - 1) (-1) (-1))) _ _ s
  rw [places_rev]
  exact wpAny_pure h
theorem fm_congr {α β : Type} {f g : α → Option β} : ∀ l : List α, (∀ x ∈ l, f x = g x) → l.filterMap f = l.filterMap g
  | [], _ => rfl
  | x :: l, h => by
    rw [List.filterMap_cons, List.filterMap_cons, h x (List.mem_cons_self ..), fm_congr l fun y hy => h y (List.mem_cons_of_mem _ hy)]
theorem pick_rev (xs : Array Value) : ((List.range xs.size).filterMap fun (m : Nat) => xs[((xs.size : Int) - 1 + (m : Int) * (-1)).toNat]?).toArray = xs.toList.reverse.toArray := by
  congr 1
  have e : (List.range xs.size).filterMap (fun (m : Nat) => xs[((xs.size : Int) - 1 + (m : Int) * (-1)).toNat]?) = (List.range xs.size).map (fun m => xs.toList.reverse.getD m .none) := by
    rw [← List.filterMap_eq_map]
    refine fm_congr _ fun m hm => ?_
    have hm := List.mem_range.mp hm
    have e1 : ((xs.size : Int) - 1 + (m : Int) * (-1)).toNat = xs.size - 1 - m := by omega
    rw [e1]
    have h2 : xs.size - 1 - m < xs.size := by omega
    rw [Array.getElem?_eq_getElem h2]
    have h3 : m < xs.toList.reverse.length := by rw [List.length_reverse, Array.length_toList]; exact hm
    simp only [Function.comp]
    rw [List.getD_eq_getElem?_getD, List.getElem?_eq_getElem h3]
    simp
  rw [e]
  apply List.ext_getElem?
  intro i
  rw [List.getElem?_map]
  by_cases hi : i < xs.size
  · rw [List.getElem?_range hi]
    have h3 : i < xs.toList.reverse.length := by rw [List.length_reverse, Array.length_toList]; exact hi
    simp only [Option.map_some]
    rw [List.getD_eq_getElem?_getD, List.getElem?_eq_getElem h3]
    rfl
  · rw [List.getElem?_eq_none (by rw [List.length_range]; omega), List.getElem?_eq_none (by rw [List.length_reverse, Array.length_toList]; omega)]
    rfl
theorem getItem_tuple_rev {t sl : Addr} {items : Array Value} {tk : Tok} {Q : Value → Shared → Prop} (ht : IsTup s.heap t items) (hs : s.heap.IsSliceOf sl .none .none (.int (-1) tk))
    (h : Q (.ref s.heap.objs.size) { s with heap := s.heap.push { cls := .type "tuple", data := .seq items.toList.reverse.toArray } }) (hsz : items.size ≤ sizeLine) : wpAny (model prog w) A (getItem (.ref t) (.ref sl)) Q E s := by
  have hok : sizeOk (.seq items.toList.reverse.toArray) := by
    show items.toList.reverse.toArray.size ≤ sizeLine
    rw [List.size_toArray, List.length_reverse, Array.length_toList]
    exact hsz
  obtain ⟨os, hos, hcs, hds⟩ := id hs
  have hTs : s.TypeIs (.ref sl) "slice" := ⟨os, hos, hcs⟩
  unfold getItem
  try with_reducible refine wpAny_holding ?_
  first | refine wpAny_bind (wpAny_pure ?_) | skip
  refine wpAny_bind (wpAny_sequenceKey ht.typeIs (by decide) ?_)
  refine wpAny_bind (wpAny_callSpecial?_slot (name := Str.ofString "__getitem__") ht.typeIs PyProof.Rows.slot_tuple_getitem
    (wpAny_call_entry PyProof.Rows.slot_tuple_getitem ht.typeIs entry_tuple_getitem ?_ (args_tuple_getitem _ _)))
  show wpAny _ _ (Builtin.Tuple.tupleItemsOf (.ref t) >>= _) _ _ s
  refine wpAny_bind (tupleItemsOf_ ht ?_)
  refine wpAny_bind (wpAny_typeOf hTs ?_)
  rw [if_pos (by decide)]
  refine wpAny_bind (sliceApplied_rev hs ?_)
  have hno : ¬ ((((items.size : Int) - 1) == 0 && (-1 : Int) == 1 && items.size == items.size) = true) := by simp
  show wpAny _ _ (if (((items.size : Int) - 1) == 0 && (-1 : Int) == 1 && items.size == items.size) = true then _ else _) _ _ s
  rw [if_neg hno, pick_rev]
  first
    | exact wpAny_bind (m := Builtin.Tuple.tupleExact _) (wpAny_newObj_type (wpAny_pure ⟨_, rfl, wpAny_pure h⟩) hok)
    | exact wpAny_bind (m := Builtin.Tuple.tupleExact _) (wpAny_newObj_type (wpAny_bind (wpAny_pure (wpAny_pure ⟨_, rfl, wpAny_pure h⟩))) hok)
    | exact wpAny_bind (wpAny_bind (m := Builtin.Tuple.tupleExact _) (wpAny_newObj_type (wpAny_pure (wpAny_pure ⟨_, rfl, wpAny_pure h⟩)) hok))
    | exact wpAny_bind (wpAny_bind (m := Builtin.Tuple.tupleExact _) (wpAny_newObj_type (wpAny_pure ⟨_, rfl, wpAny_pure h⟩) hok))
end
end LD
namespace LD
open PySem PySem.Spec PyProof.Rows L2
/-- x[::-1] of a list or a tuple -/
def tRevX (K : PySem.W.Frag) (te : TE) : TE := fun σ H Q => te σ H fun x H1 => ∃ a xs, x = .ref a ∧ ((SqL K H1 a xs ∧ ∀ p, H1 p = none → Q (.ref p) (upd H1 p (.lst xs.reverse))) ∨ (SqT K H1 a xs ∧ ∀ p, H1 p = none → Q (.ref p) (upd H1 p (.tup xs.reverse))))
theorem pe_revX {X : Cx} {e : Expr} {te : TE} {k : Nat} {p1 p2 p3 pos : Pos} (he : PE X e te) : PE X (.Subscript e (.Slice none none (some (.UnaryOp .USub (.Constant (.int 1) k p1) p2)) p3) pos) (tRevX X.K te) := by
  refine ⟨fun pins s σ H Q I h => ?_⟩
  refine Subscript_ (thn (he.run pins s σ H _ I h) fun v s1 ⟨x, H1, I1, r1, q1⟩ => ?_)
  obtain ⟨a, xs, ex, q1⟩ := q1
  subst ex
  cases r1
  have hst : PO X (some (.UnaryOp .USub (.Constant (.int 1) k p1) p2)) (tPart (tUn (rU fun i => .int (-i)) (tC (.int 1)))) := po_some (pe_un un_neg pe_int)
  refine wpAny_Slice (thn (po_none.run pins s1 σ H1 (fun o H2 => o = none ∧ H2 = H1) I1 ⟨rfl, rfl⟩) fun vl s2 ⟨l, H2, I2, pl, el, e2⟩ => ?_)
  subst el e2
  refine thn (po_none.run pins s2 σ H2 (fun o H3 => o = none ∧ H3 = H2) I2 ⟨rfl, rfl⟩) fun vu s3 ⟨u, H3, I3, pu, eu, e3⟩ => ?_
  subst eu e3
  refine thn (hst.run pins s3 σ H3 (fun o H4 => o = some (-1) ∧ H4 = H3) I3 ⟨1, rfl, -1, rfl, rfl, rfl⟩) fun vs s4 ⟨o, H4, I4, ps, eo, e4⟩ => ?_
  subst eo e4
  have I5 : Inv X pins σ H4 { s4 with heap := s4.heap.push { cls := .type "slice", data := .fields #[vl, vu, vs] } } := I4.kept (t' := s4.toks) fun b ob q => Heap.get?_push_of_some _ q
  rcases q1 with ⟨hx, q⟩ | ⟨hx, q⟩
  · obtain ⟨its, r, ht, hz⟩ := I5.list hx
    have hlen := r.length
    show wpAny (model X.prog X.w) X.A (subscriptTail e (.Slice none none (some (.UnaryOp .USub (.Constant (.int 1) k p1) p2)) p3) (.ref a) (.ref s4.heap.objs.size)) (EP X pins σ Q) X.xe { s4 with heap := s4.heap.push { cls := .type "slice", data := .fields #[vl, vu, vs] } }
    refine tail_any (ops := [.ref a, .ref s4.heap.objs.size]) ht.isList.typeIs (PySem.slot_list_getitem.lookup) ?_ (by with_unfolding_all rfl)
    refine wpAny_getItem_list_slice ht.isList (Heap.IsSliceOf.new _ vl vu vs) pl pu ps (by decide) ?_ (by rw [List.size_toArray]; omega)
    rw [PySem.W.krv_pick]
    refine ⟨.ref _, _, I5.laid (t' := s4.toks) (o := .lst xs.reverse) (fun b ob q => Heap.get?_push_of_some _ q) (Nat.le_refl _) ?_, rfl, q _ (I5.hok.fresh (Nat.le_refl _))⟩
    exact ⟨by rw [List.length_reverse]; exact hz, _, 0, r.reverse, Heap.get?_push_size _ rfl⟩
  · obtain ⟨its, r, ht, hz⟩ := I5.tuple hx
    have hlen := r.length
    cases pl
    cases pu
    cases ps with
    | int i tk =>
      obtain ⟨o, ho, hc, n, hd⟩ := id ht
      show wpAny (model X.prog X.w) X.A (subscriptTail e (.Slice none none (some (.UnaryOp .USub (.Constant (.int 1) k p1) p2)) p3) (.ref a) (.ref s4.heap.objs.size)) (EP X pins σ Q) X.xe { s4 with heap := s4.heap.push { cls := .type "slice", data := .fields #[.none, .none, .int (-1) tk] } }
      refine tail_any (ops := [.ref a, .ref s4.heap.objs.size]) ⟨o, ho, hc⟩ (PyProof.Rows.slot_tuple_getitem.lookup) ?_ (by with_unfolding_all rfl)
      refine getItem_tuple_rev ht (Heap.IsSliceOf.new _ _ _ _) ?_ (by rw [List.size_toArray]; omega)
      refine ⟨.ref _, _, I5.laid (t' := s4.toks) (o := .tup xs.reverse) (fun b ob q => Heap.get?_push_of_some _ q) (Nat.le_refl _) ?_, rfl, q _ (I5.hok.fresh (Nat.le_refl _))⟩
      exact ⟨by rw [List.length_reverse]; exact hz, _, r.reverse, IsTup.new _ _⟩
end LD
namespace LD
open PySem PySem.Spec PyProof.Rows L2
theorem readsAll_get {h : Heap} : ∀ {vs : List Value} {xs : List PyData} {as : List Addr}, ReadsAll h vs xs as → ∀ (i : Nat) (v : Value), vs[i]? = some v → ∃ d bs, xs[i]? = some d ∧ Reads h v d bs
  | _, _, _, .nil, _, _, hv => by simp at hv
  | _, _, _, .cons (d := d) (ds := ds) r rs, 0, v, hv => by
    have e := Option.some.inj (show some _ = some v from hv)
    subst e
    exact ⟨d, _, rfl, r⟩
  | _, _, _, .cons r rs, i + 1, v, hv => readsAll_get rs i v hv
theorem vals_getV : ∀ {xs : List V} {us : List Value} {i : Nat} {u : Value}, Vals xs us → us[i]? = some u → ∃ x, xs[i]? = some x ∧ RelV x u
  | _, _, _, _, .nil, e => by simp at e
  | _, _, 0, _, .cons r _, e => by simp at e; subst e; exact ⟨_, rfl, r⟩
  | _, _, i + 1, u, .cons _ t, e => by
    have e' : _ := e
    simp at e'
    exact vals_getV (i := i) t e'
/-- min(xs), max(xs) of a list of data: one of the least -/
def rMinD (K : PySem.W.Frag) (mn : PyData → List PyData → PyData) : List V → Hp → VK → Prop := fun vs H Q => ∃ (a : Addr) (xs : List V) (p : PyData) (ps : List PyData), vs = [V.ref a] ∧ SqL K H a xs ∧ DpAll K H xs (p :: ps) ∧ PySem.W.AlikeAll (p :: ps) ∧
  PyData.canLayAll0 (p :: ps) = true ∧ PyData.depthAll (p :: ps) ≤ 64 ∧ ∀ (i : Nat) (x : V), xs[i]? = some x → (p :: ps)[i]? = some (mn p ps) → Q x H
theorem canLay_at : ∀ {xs : List PyData}, PyData.canLayAll0 xs = true → ∀ {i : Nat} {d : PyData}, xs[i]? = some d → d.canLay0 = true
  | [], _, _, _, h => by simp at h
  | x :: xs, c, 0, d, h => by
    have e := Option.some.inj (show some x = some d from h)
    subst e
    unfold PyData.canLayAll0 at c
    exact (Bool.and_eq_true_iff.mp c).1
  | x :: xs, c, i + 1, d, h => by
    unfold PyData.canLayAll0 at c
    exact canLay_at (Bool.and_eq_true_iff.mp c).2 (i := i) h
theorem cr_minD {X : Cx} (hc : X.calm = true) (hu : X.A.units + 65 < cLine) : CallR X (.builtin "min") (rMinD X.K PySem.W.minD) := by
  intro pins s σ H vs us Q I r h
  obtain ⟨a, xs, p, ps, rfl, hs, hd, ha, hl, hdp, q⟩ := h
  obtain ⟨its, rv, hL, _⟩ := I.list hs
  obtain ⟨as, ra⟩ := Dp.readsAll I _ _ _ hd rv
  rw [Vals.ref1 r]
  refine PySem.W.min_list_data (I.ok.hd hc) hL.isList ra ha (by omega) fun i v h' tk bs hi rd hk => ?_
  have hi' : its[i]? = some v := by simpa using hi
  obtain ⟨x, hx, rx⟩ := vals_getV rv hi'
  obtain ⟨d, cs, hd2, rd2⟩ := readsAll_get ra i v hi'
  have e : d = PySem.W.minD p ps := PySem.SeqAt.Reads.unique d _ v cs bs (canLay_at hl hd2) (Reads.keeps hk rd2) rd
  exact ⟨x, H, I.kept hk, rx, q i x hx (by rw [hd2, e])⟩
end LD
namespace LD
open PySem PySem.Spec PyProof.Rows L2
theorem sum_rawT {prog : Program} {w : World} {A : Around} {E : Value → Shared → Prop} {s : Shared} {l : Addr} {its : List Value} {ns : List Int} {Q : Value → Shared → Prop} (hh : A.handled = none) (hl : s.heap.IsTuple l its.toArray) (hi : IntsAre its ns)
    (h : ∀ h' tk t', (∀ b o, s.heap.get? b = some o → h'.get? b = some o) → Q (.int ns.sum t') { s with heap := h', toks := tk }) : wpAny (model prog w) A (call (.builtin "sum") [.ref l]) Q E s := by
  obtain ⟨xs, e⟩ := hi.allInts.items
  have hn : numsOf (intItems xs).toList = ns := by rw [← e]; exact hi.numsOf
  rw [nums_intItems] at hn
  rw [e] at hl
  refine PySem.W.ktm_sumG hh hl fun h' tk t' hk => ?_
  have := h h' tk t' hk
  rw [preSum_eq, List.take_of_length_le (by simp), hn]; exact this
def rSumT (K : PySem.W.Frag) : List V → Hp → VK → Prop := fun vs H Q => ∃ (a : Addr) (ns : List Int), vs = [V.ref a] ∧ SqT K H a (ns.map V.int) ∧ Q (.int ns.sum) H
theorem cr_sumT {X : Cx} (hc : X.calm = true) : CallR X (.builtin "sum") (rSumT X.K) := by
  intro pins s σ H vs us Q I r h
  obtain ⟨a, ns, rfl, hs, q⟩ := h
  obtain ⟨its, rv, hl, _⟩ := I.tuple hs
  rw [Vals.ref1 r]
  exact sum_rawT (I.ok.hd hc) hl rv.ints fun h' tk t' hk => ⟨.int _, H, I.kept hk, ⟨_, rfl⟩, q⟩
end LD
namespace LD
open PySem PySem.Spec PyProof.Rows L2
/-- the entries' keys are ints, rightly hashed -/
def intKeys (w : World) (es : List DictEntry) : Bool := es.all fun e => match e.key with
  | .int i _ => decide (e.hash = keyH w (.inl i))
  | _ => false
def rIxI (K : PySem.W.Frag) (w : World) : R2 := fun x y H Q => ∃ (p : Addr) (i : Int) (es : Array DictEntry) (n : Nat) (u : Value) (v : V), x = .ref p ∧ y = .int i ∧ K.lookup p = some ⟨.type "dict", none, .dict es n, #[]⟩ ∧ intKeys w es.toList = true ∧
  findBy keyIs es (.inl i : Key) = some u ∧ RelV v u ∧ Q v H
theorem ix_idict {X : Cx} : IxR X (rIxI X.K X.w) := by
  intro value slice pins s σ H x y v u Q I rx ry h hs
  obtain ⟨p, i, es, n, u0, r, rfl, rfl, hl, hk, e, ru, q⟩ := h
  obtain rfl : v = Value.ref p := rx
  obtain ⟨t, rfl⟩ := ry
  have hm : s.heap.MapOf (mixKind X.prog X.w) p (fun k => findBy keyIs es k) := by
    refine ⟨_, es, n, I.kIn _ _ hl, ⟨rfl, rfl, rfl⟩, rfl, fun d hd => ?_, fun k => rfl⟩
    have c := List.all_eq_true.mp hk d (by simpa using hd)
    split at c
    · rename_i i2 t2 e2
      exact ⟨.inl i2, by rw [e2]; exact keyIs_int i2 t2, of_decide_eq_true c⟩
    · cases c
  exact tail_any hm.typeIs slot_dict_getitem.lookup (wpAny_getItem_of (keyIs_int i t) hm e ⟨r, H, I.tok _, ru, q⟩) hs
end LD
namespace LD
open PySem PySem.Spec PyProof.Rows L2

/-! ### promises -/
structure Spec where
  pre : List D → Mu → Prop
  post : List D → Mu → D → Mu → Prop
  exc : List D → Mu → Str → Mu → Prop := fun _ _ _ _ => False
def Spec.run (s : Spec) (ds : List D) (μ : Mu) (X : Str → Mu → Prop) (Q : D → Mu → Prop) : Prop :=
  s.pre ds μ ∧ (∀ d μ', s.post ds μ d μ' → Q d μ') ∧ ∀ x μ', s.exc ds μ x μ' → X x μ'
/-- a pure def: from such arguments that value -/
def pureS (pre : List D → Prop) (F : List D → D) : Spec := ⟨fun ds _ => pre ds, fun ds μ d μ' => d = F ds ∧ μ' = μ, fun _ _ _ _ => False⟩

/-! ### values -/
def seqOf (d : D) (μ : Mu) : Option (List D) := match d with
  | .tup xs => some xs
  | .rol xs => some xs
  | .ref a => match μ a with
    | some (.lst xs) => some xs
    | _ => none
  | _ => none
/-- a list alone -/
def seqL (d : D) (μ : Mu) : Option (List D) := match d with
  | .tup _ => none
  | _ => seqOf d μ
def tru (d : D) (μ : Mu) : Option Bool := match d with
  | .non => some false
  | .bl b => some b
  | .int i => some (i != 0)
  | .str x => if x.length ≤ sizeLine then some ((x.length : Int) != 0) else none
  | .tup xs => some (!xs.isEmpty)
  | .rol xs => some (!xs.isEmpty)
  | .ref a => match μ a with
    | some (.lst xs) => some (!xs.isEmpty)
    | some (.dic kvs) => some (!kvs.isEmpty)
    | _ => none
  | _ => none
def tyN (d : D) (μ : Mu) : Option String := match d with
  | .non => some "NoneType"
  | .bl _ => some "bool"
  | .int _ => some "int"
  | .str _ => some "str"
  | .tup _ => some "tuple"
  | .rol _ => some "list"
  | .ref a => match μ a with
    | some (.lst _) => some "list"
    | some (.dic _) => some "dict"
    | _ => none
  | _ => none
/-- a value as data -/
def pdL (f : D → Option PyData) : List D → Option (List PyData)
  | [] => some []
  | d :: ds => match f d, pdL f ds with
    | some x, some xs => some (x :: xs)
    | _, _ => none
def pdOf (μ : Mu) : Nat → D → Option PyData
  | 0, _ => none
  | n + 1, d => match d with
    | .non => some .none
    | .bl b => some (.bool b)
    | .int i => some (.int i)
    | .str x => some (.str x)
    | .tup xs => (pdL (pdOf μ n) xs).map .tuple
    | .rol xs => (pdL (pdOf μ n) xs).map .list
    | .ref a => match μ a with
      | some (.lst xs) => (pdL (pdOf μ n) xs).map .list
      | _ => none
    | _ => none
def intsOf : List D → Option (List Int)
  | [] => some []
  | .int i :: ds => (intsOf ds).map (i :: ·)
  | _ :: _ => none
def blsOf : List D → Option (List Bool)
  | [] => some []
  | .bl i :: ds => (blsOf ds).map (i :: ·)
  | _ :: _ => none
theorem intsOf_map (ns : List Int) : intsOf (ns.map D.int) = some ns := by
  induction ns with
  | nil => rfl
  | cons n ns ih => rw [List.map_cons, intsOf, ih]; rfl
theorem blsOf_map (ns : List Bool) : blsOf (ns.map D.bl) = some ns := by
  induction ns with
  | nil => rfl
  | cons n ns ih => rw [List.map_cons, blsOf, ih]; rfl
theorem intsOf_some : ∀ {ds : List D} {ns : List Int}, intsOf ds = some ns → ds = ns.map D.int
  | [], ns, h => by cases h; rfl
  | .int i :: ds, ns, h => by
    unfold intsOf at h
    cases e : intsOf ds with
    | none => rw [e] at h; cases h
    | some ms =>
      rw [e] at h
      cases h
      rw [intsOf_some e]
      rfl
  | .non :: _, _, h => by cases h
  | .bl _ :: _, _, h => by cases h
  | .str _ :: _, _, h => by cases h
  | .ty _ :: _, _, h => by cases h
  | .ref _ :: _, _, h => by cases h
  | .tup _ :: _, _, h => by cases h
  | .rol _ :: _, _, h => by cases h
  | .rod _ _ :: _, _, h => by cases h
theorem blsOf_some : ∀ {ds : List D} {ns : List Bool}, blsOf ds = some ns → ds = ns.map D.bl
  | [], ns, h => by cases h; rfl
  | .bl i :: ds, ns, h => by
    unfold blsOf at h
    cases e : blsOf ds with
    | none => rw [e] at h; cases h
    | some ms =>
      rw [e] at h
      cases h
      rw [blsOf_some e]
      rfl
  | .non :: _, _, h => by cases h
  | .int _ :: _, _, h => by cases h
  | .str _ :: _, _, h => by cases h
  | .ty _ :: _, _, h => by cases h
  | .ref _ :: _, _, h => by cases h
  | .tup _ :: _, _, h => by cases h
  | .rol _ :: _, _, h => by cases h
  | .rod _ _ :: _, _, h => by cases h

/-! ### operators -/
abbrev QD := D → Mu → Prop
def newL (xs : List D) (μ : Mu) (Q : QD) : Prop := ∀ p, μ p = none → Q (.ref p) (up μ p (.lst xs))
/-- xs * k of a tuple -/
def mulT (xs : List D) (k : Int) (μ : Mu) (Q : QD) : Prop := if k = 1 then Q (.tup xs) μ else ((xs ≠ [] ∧ 2 ≤ k ∧ k ≤ 1000 ∧ xs.length ≤ 1000) ∧ Q (.tup (List.replicate k.toNat xs).flatten) μ)
def binD (op : Operator) (x y : D) (μ : Mu) (Q : QD) : Prop := match op, x, y with
  | .Add, .int i, .int j => Q (.int (i + j)) μ
  | .Add, .int i, .bl k => Q (.int (i + b2i k)) μ
  | .Add, .str a, .str b => a.length + b.length ≤ sizeLine ∧ Q (.str (a ++ b)) μ
  | .Add, .tup xs, .tup ys => xs.length + ys.length ≤ sizeLine ∧ Q (.tup (xs ++ ys)) μ
  | .Add, .ref a, .ref b => (match μ a, μ b with
    | some (.lst xs), some (.lst ys) => (xs.length ≤ sizeLine ∧ xs.length + ys.length ≤ sizeLine) ∧ newL (xs ++ ys) μ Q
    | _, _ => False)
  | .Sub, .int i, .int j => Q (.int (i - j)) μ
  | .Mult, .int i, .int j => IntMulOk i j ∧ Q (.int (i * j)) μ
  | .Mult, .tup xs, .int k => mulT xs k μ Q
  | .Mult, .ref a, .int k => (match μ a with
    | some (.lst xs) => (-(2 ^ 63) ≤ k ∧ k < 2 ^ 63 ∧ xs.length * k.toNat ≤ sizeLine) ∧ newL (List.replicate k.toNat xs).flatten μ Q
    | _ => False)
  | .FloorDiv, .int i, .int j => (j ≠ 0 ∧ j.natAbs.log2 < 9000) ∧ Q (.int (i.fdiv j)) μ
  | .Mod, .int i, .int j => j ≠ 0 ∧ Q (.int (i.fmod j)) μ
  | .Pow, .int i, .int j => (0 ≤ j ∧ j ≤ 1000000 ∧ i.natAbs < 2 ^ 64) ∧ Q (.int (i ^ j.toNat)) μ
  | _, _, _ => False
def augD (op : Operator) (x y : D) (μ : Mu) (Q : QD) : Prop := match op, x, y with
  | .Add, .int i, .int j => Q (.int (i + j)) μ
  | .Sub, .int i, .int j => Q (.int (i - j)) μ
  | _, _, _ => False
def eqQ (x y : D) (μ : Mu) (Q : Bool → Prop) : Prop := match pdOf μ 9 x, pdOf μ 9 y with
  | some d, some e => SeqAt.shaped d = true ∧ SeqAt.shaped e = true ∧ Q (PyData.eqv d e)
  | _, _ => False
def isNon : D → Bool
  | .non => true
  | _ => false
/-- flat things: what in, not in tell apart -/
def inD (x : D) (ys : List D) (μ : Mu) (Q : Bool → Prop) : Prop := match pdOf μ 9 x, pdL (pdOf μ 8) ys with
  | some d, some ds => SeqAt.shaped d = true ∧ SeqAt.shaped (.list ds) = true ∧ Q (ds.any fun z => PyData.eqv z d)
  | _, _ => False
def cmpD (op : CmpOp) (x y : D) (μ : Mu) (Q : Bool → Prop) : Prop := match op with
  | .Eq => eqQ x y μ Q
  | .NotEq => eqQ x y μ fun b => Q (!b)
  | .Lt => (match x, y with
    | .int i, .int j => Q (decide (i < j))
    | .tup xs, .tup ys => (match intsOf xs, intsOf ys with
      | some ns, some ms => Q (HT.lexLt ns ms)
      | _, _ => False)
    | _, _ => False)
  | .LtE => (match x, y with
    | .int i, .int j => Q (decide (i ≤ j))
    | _, _ => False)
  | .Gt => (match x, y with
    | .int i, .int j => Q (decide (j < i))
    | _, _ => False)
  | .GtE => (match x, y with
    | .int i, .int j => Q (decide (j ≤ i))
    | _, _ => False)
  | .Is => (match x, y with
    | .bl a, .bl b => Q (decide (a = b))
    | z, .non => Q (isNon z)
    | _, _ => False)
  | .IsNot => (match x, y with
    | .bl a, .bl b => Q (!decide (a = b))
    | z, .non => Q (!isNon z)
    | _, _ => False)
  | .In => (match y with
    | .ref a => (match μ a with
      | some (.lst ys) => inD x ys μ Q
      | _ => False)
    | .rol ys => inD x ys μ Q
    | _ => False)
  | .NotIn => (match y with
    | .ref a => (match μ a with
      | some (.lst ys) => inD x ys μ fun b => Q (!b)
      | _ => False)
    | .rol ys => inD x ys μ fun b => Q (!b)
    | _ => False)
def lookI {α : Type} : List Int → List α → Int → Option α
  | k :: ks, d :: ds, i => if k = i then some d else lookI ks ds i
  | _, _, _ => none
def ixS (x y : D) (μ : Mu) (Q : QD) : Prop := match seqOf x μ, y with
  | some xs, .int i => (match atI xs i with
    | some d => Q d μ
    | none => False)
  | _, _ => False
def ixD (x y : D) (μ : Mu) (Q : QD) : Prop := match x, y with
  | .rod ks vs, .int i => (match lookI ks vs i with
    | some d => Q d μ
    | none => False)
  | x, y => ixS x y μ Q
def cutD {α : Type} (xs : List α) (lo hi : Option Int) : List α := (xs.drop (HT.sIx xs.length 0 lo)).take (HT.sIx xs.length xs.length hi - HT.sIx xs.length 0 lo)
def slD (x : D) (lo hi : Option Int) (μ : Mu) (Q : QD) : Prop := match x with
  | .tup xs => Q (.tup (cutD xs lo hi)) μ
  | .rol xs => newL (cutD xs lo hi) μ Q
  | .ref a => (match μ a with
    | some (.lst xs) => newL (cutD xs lo hi) μ Q
    | _ => False)
  | _ => False
def revD (x : D) (μ : Mu) (Q : QD) : Prop := match x with
  | .tup xs => Q (.tup xs.reverse) μ
  | .rol xs => newL xs.reverse μ Q
  | .ref a => (match μ a with
    | some (.lst xs) => newL xs.reverse μ Q
    | _ => False)
  | _ => False
inductive Bi where
  | len | abs | int | sum | all | any | min | max | tuple | list | gcd
  deriving DecidableEq
def biD (b : Bi) (ds : List D) (μ : Mu) (Q : QD) : Prop := match b, ds with
  | .len, [.str y] => y.length ≤ sizeLine ∧ Q (.int y.length) μ
  | .len, [d] => (match seqOf d μ with
    | some xs => Q (.int xs.length) μ
    | none => False)
  | .abs, [.int i] => Q (.int (i.natAbs : Int)) μ
  | .int, [.int i] => Q (.int i) μ
  | .int, [.bl k] => Q (.int (if k then 1 else 0)) μ
  | .sum, [.tup xs] => (match intsOf xs with
    | some ns => Q (.int ns.sum) μ
    | none => False)
  | .sum, [d] => (match seqL d μ with
    | some xs => (match intsOf xs with
      | some ns => Q (.int ns.sum) μ
      | none => False)
    | none => False)
  | .all, [d] => (match seqL d μ with
    | some xs => (match blsOf xs with
      | some ns => Q (.bl (ns.all id)) μ
      | none => False)
    | none => False)
  | .any, [d] => (match seqL d μ with
    | some xs => (match blsOf xs with
      | some ns => Q (.bl (ns.any id)) μ
      | none => False)
    | none => False)
  | .max, [.int i, .int j] => Q (.int (if j > i then j else i)) μ
  | .min, [.int i, .int j] => Q (.int (if j < i then j else i)) μ
  | .max, [d] => (match seqL d μ with
    | some xs => (match intsOf xs with
      | some ns => 0 < ns.length ∧ ∀ m, m ∈ ns → (∀ y, y ∈ ns → y ≤ m) → Q (.int m) μ
      | none => False)
    | none => False)
  | .min, [d] => (match seqL d μ with
    | some xs => (match intsOf xs with
      | some ns => 0 < ns.length ∧ ∀ m, m ∈ ns → (∀ y, y ∈ ns → m ≤ y) → Q (.int m) μ
      | none => (match pdL (pdOf μ 8) xs with
        | some (p :: ps) => (PySem.W.AlikeAll (p :: ps) ∧ PyData.canLayAll0 (p :: ps) = true ∧ PyData.depthAll (p :: ps) ≤ 64) ∧ ∀ (i : Nat) (d : D), xs[i]? = some d → (p :: ps)[i]? = some (PySem.W.minD p ps) → Q d μ
        | _ => False))
    | none => False)
  | .tuple, [d] => (match seqOf d μ with
    | some xs => Q (.tup xs) μ
    | none => False)
  | .list, [d] => (match seqOf d μ with
    | some xs => newL xs μ Q
    | none => False)
  | .gcd, [.int i, .int j] => Q (.int (Int.gcd i j : Int)) μ
  | _, _ => False
/-- is a value of the type t one of the type n -/
def isiD (t : String) : List String → Option Bool
  | [] => some false
  | n :: ns => match kitB t n with
    | some true => some true
    | some false => isiD t ns
    | none => none
def appD (o y : D) (μ : Mu) (Q : QD) : Prop := match o with
  | .ref a => (match μ a with
    | some (.lst xs) => xs.length < sizeLine ∧ Q .non (up μ a (.lst (xs ++ [y])))
    | _ => False)
  | _ => False
def extD (o y : D) (μ : Mu) (Q : QD) : Prop := match o, y with
  | .ref a, .ref b => (match μ a, μ b with
    | some (.lst xs), some (.lst ys) => a ≠ b ∧ xs.length + ys.length ≤ sizeLine ∧ Q .non (up μ a (.lst (xs ++ ys)))
    | _, _ => False)
  | _, _ => False
def popD (o : D) (μ : Mu) (Q : QD) : Prop := match o with
  | .ref a => (match μ a with
    | some (.lst xs) => (match xs.getLast? with
      | some y => Q y (up μ a (.lst xs.dropLast))
      | none => False)
    | _ => False)
  | _ => False
def setD (o i v : D) (μ : Mu) (Q : Mu → Prop) : Prop := match o, i with
  | .ref a, .int k => (match μ a with
    | some (.lst xs) => (match ixN xs.length k with
      | some j => Q (up μ a (.lst (xs.set j v)))
      | none => False)
    | _ => False)
  | _, _ => False

/-! ### targets -/
mutual
inductive Tg where
  | nm (i : Nat)
  | tp (ts : Tgs)
inductive Tgs where
  | nil
  | cons (t : Tg) (ts : Tgs)
end
def Tgs.len : Tgs → Nat
  | .nil => 0
  | .cons _ ts => ts.len + 1
mutual
def tgD (μ : Mu) : Tg → D → Rho → Option Rho
  | .nm i, d, ρ => some (ρ.set i (some d))
  | .tp ts, d, ρ => match seqOf d μ with
    | some ds => tgsD μ ts ds ρ
    | none => none
def tgsD (μ : Mu) : Tgs → List D → Rho → Option Rho
  | .nil, [], ρ => some ρ
  | .cons t ts, d :: ds, ρ => match tgD μ t d ρ with
    | some ρ' => tgsD μ ts ds ρ'
    | none => none
  | .nil, _ :: _, _ => none
  | .cons _ _, [], _ => none
end

/-! ### expressions -/
mutual
inductive E where
  | v (i : Nat) | c (d : D)
  | bin (op : Operator) (a b : E) | neg (a : E)
  | cmp (op : CmpOp) (a b : E) | chn (op op' : CmpOp) (a b c : E)
  | and (a b : E) | or (a b : E) | not (a : E)
  | ite (t a b : E)
  | tup (es : Es) | lst (es : Es)
  | ix (a b : E) | sl (a : E) (lo hi : O) | rev (a : E)
  | call (f : Nat) (es ks : Es) (perm : List Nat)
  | bi (b : Bi) (es : Es)
  | isi (a : E) (ns : List String)
  | app (o a : E) | ext (o a : E) | pop (o : E)
  | comp (tg : Tg) (it : I) (ifs : Es) (elt : E) (own : List Nat)
inductive Es where
  | nil | cons (e : E) (es : Es)
inductive O where
  | no | so (e : E)
inductive I where
  | val (e : E) | rng1 (a : E) | rng2 (a b : E) | zip (a b : E) | enu (a : E)
end

def rngL (lo : Int) (n : Nat) : List D := (List.range n).map fun (i : Nat) => D.int (lo + (i : Int))
def zipL : List D → List D → List D
  | x :: xs, y :: ys => .tup [x, y] :: zipL xs ys
  | _, _ => []
def enuL : Nat → List D → List D
  | _, [] => []
  | i, x :: xs => .tup [.int (i : Int), x] :: enuL (i + 1) xs
def isL (x : D) (μ : Mu) : Bool := match x with
  | .ref a => match μ a with
    | some (.lst _) => true
    | _ => false
  | _ => false
def isTup : D → Bool
  | .tup _ => true
  | _ => false
/-- the walk of a comprehension -/
def compL (tg : Tg) (wi : Rho → Mu → (Bool → Mu → Prop) → Prop) (we : Rho → Mu → QD → Prop) (live : Mu → Prop) (ρ : Rho) : List D → List D → Mu → (List D → Mu → Prop) → Prop
  | [], acc, μ, Q => live μ ∧ Q acc μ
  | x :: xs, acc, μ, Q => live μ ∧ match tgD μ tg x ρ with
    | none => False
    | some ρ' => wi ρ' μ fun b μ1 => if b = true then we ρ' μ1 fun y μ2 => acc.length < sizeLine ∧ compL tg wi we live ρ xs (acc ++ [y]) μ2 Q else compL tg wi we live ρ xs acc μ1 Q
def permA {α : Type} (z : α) (perm : List Nat) (xs : List α) : List α := perm.map fun i => xs.getD i z
def liveOf (d : D) (xs : List D) : Mu → Prop := match d with
  | .ref a => fun μ => μ a = some (.lst xs)
  | _ => fun _ => True

mutual
def wpE (Φ : Nat → Spec) (X : Str → Mu → Prop) : E → Rho → Mu → QD → Prop
  | .v i, ρ, μ, Q => match ρ[i]? with
    | some (some d) => Q d μ
    | _ => False
  | .c d, _, μ, Q => Q d μ
  | .bin op a b, ρ, μ, Q => wpE Φ X a ρ μ fun x μ1 => wpE Φ X b ρ μ1 fun y μ2 => binD op x y μ2 Q
  | .neg a, ρ, μ, Q => wpE Φ X a ρ μ fun x μ1 => match x with
    | .int i => Q (.int (-i)) μ1
    | _ => False
  | .cmp op a b, ρ, μ, Q => wpE Φ X a ρ μ fun x μ1 => wpE Φ X b ρ μ1 fun y μ2 => cmpD op x y μ2 fun k => Q (.bl k) μ2
  | .chn op op' a b c, ρ, μ, Q => wpE Φ X a ρ μ fun x μ1 => wpE Φ X b ρ μ1 fun y μ2 => cmpD op x y μ2 fun k =>
      if k = true then wpE Φ X c ρ μ2 fun z μ3 => cmpD op' y z μ3 fun k' => Q (.bl k') μ3 else Q (.bl false) μ2
  | .and a b, ρ, μ, Q => wpE Φ X a ρ μ fun x μ1 => match tru x μ1 with
    | some true => wpE Φ X b ρ μ1 Q
    | some false => Q x μ1
    | none => False
  | .or a b, ρ, μ, Q => wpE Φ X a ρ μ fun x μ1 => match tru x μ1 with
    | some true => Q x μ1
    | some false => wpE Φ X b ρ μ1 Q
    | none => False
  | .not a, ρ, μ, Q => wpE Φ X a ρ μ fun x μ1 => match tru x μ1 with
    | some k => Q (.bl (!k)) μ1
    | none => False
  | .ite t a b, ρ, μ, Q => wpE Φ X t ρ μ fun x μ1 => match tru x μ1 with
    | some true => wpE Φ X a ρ μ1 Q
    | some false => wpE Φ X b ρ μ1 Q
    | none => False
  | .tup es, ρ, μ, Q => wpEs Φ X es ρ μ fun ds μ1 => ds.length ≤ sizeLine ∧ Q (.tup ds) μ1
  | .lst es, ρ, μ, Q => wpEs Φ X es ρ μ fun ds μ1 => ds.length ≤ sizeLine ∧ newL ds μ1 Q
  | .ix a b, ρ, μ, Q => wpE Φ X a ρ μ fun x μ1 => wpE Φ X b ρ μ1 fun y μ2 => ixD x y μ2 Q
  | .sl a lo hi, ρ, μ, Q => wpE Φ X a ρ μ fun x μ1 => wpO Φ X lo ρ μ1 fun l μ2 => wpO Φ X hi ρ μ2 fun h μ3 => slD x l h μ3 Q
  | .rev a, ρ, μ, Q => wpE Φ X a ρ μ fun x μ1 => revD x μ1 Q
  | .call f es ks perm, ρ, μ, Q => wpEs Φ X es ρ μ fun ds μ1 => wpEs Φ X ks ρ μ1 fun zs μ2 => (Φ f).run (permA .non perm (ds ++ zs)) μ2 X Q
  | .bi b es, ρ, μ, Q => wpEs Φ X es ρ μ fun ds μ1 => biD b ds μ1 Q
  | .isi a ns, ρ, μ, Q => wpE Φ X a ρ μ fun x μ1 => match tyN x μ1 with
    | some t => (match isiD t ns with
      | some b => Q (.bl b) μ1
      | none => False)
    | none => False
  | .app o a, ρ, μ, Q => wpE Φ X o ρ μ fun x μ1 => isL x μ1 = true ∧ wpE Φ X a ρ μ1 fun y μ2 => appD x y μ2 Q
  | .ext o a, ρ, μ, Q => wpE Φ X o ρ μ fun x μ1 => isL x μ1 = true ∧ wpE Φ X a ρ μ1 fun y μ2 => extD x y μ2 Q
  | .pop o, ρ, μ, Q => wpE Φ X o ρ μ fun x μ1 => popD x μ1 Q
  | .comp tg it ifs elt own, ρ, μ, Q => wpI Φ X it ρ μ fun ds live μ1 =>
      compL tg (fun ρ' μ' R => wpIf Φ ifs ρ' μ' R) (fun ρ' μ' R => wpE Φ (fun _ _ => False) elt ρ' μ' R) live (wipeR ρ own) ds [] μ1 fun acc μ2 => newL acc μ2 Q
def wpEs (Φ : Nat → Spec) (X : Str → Mu → Prop) : Es → Rho → Mu → (List D → Mu → Prop) → Prop
  | .nil, _, μ, Q => Q [] μ
  | .cons e es, ρ, μ, Q => wpE Φ X e ρ μ fun d μ1 => wpEs Φ X es ρ μ1 fun ds μ2 => Q (d :: ds) μ2
def wpIf (Φ : Nat → Spec) : Es → Rho → Mu → (Bool → Mu → Prop) → Prop
  | .nil, _, μ, Q => Q true μ
  | .cons e es, ρ, μ, Q => wpE Φ (fun _ _ => False) e ρ μ fun d μ1 => match tru d μ1 with
    | some true => wpIf Φ es ρ μ1 Q
    | some false => Q false μ1
    | none => False
def wpO (Φ : Nat → Spec) (X : Str → Mu → Prop) : O → Rho → Mu → (Option Int → Mu → Prop) → Prop
  | .no, _, μ, Q => Q none μ
  | .so e, ρ, μ, Q => wpE Φ X e ρ μ fun d μ1 => match d with
    | .int i => Q (some i) μ1
    | _ => False
def wpI (Φ : Nat → Spec) (X : Str → Mu → Prop) : I → Rho → Mu → (List D → (Mu → Prop) → Mu → Prop) → Prop
  | .val e, ρ, μ, Q => wpE Φ X e ρ μ fun d μ1 => match seqOf d μ1 with
    | some xs => Q xs (liveOf d xs) μ1
    | none => False
  | .rng1 a, ρ, μ, Q => wpE Φ X a ρ μ fun x μ1 => match x with
    | .int j => (-(2 ^ 62) ≤ j ∧ j < 2 ^ 62) ∧ Q (rngL 0 j.toNat) (fun _ => True) μ1
    | _ => False
  | .rng2 a b, ρ, μ, Q => wpE Φ X a ρ μ fun x μ1 => wpE Φ X b ρ μ1 fun y μ2 => match x, y with
    | .int i, .int j => (-(2 ^ 62) ≤ i ∧ i < 2 ^ 62 ∧ -(2 ^ 62) ≤ j ∧ j < 2 ^ 62) ∧ Q (rngL i (j - i).toNat) (fun _ => True) μ2
    | _, _ => False
  | .zip a b, ρ, μ, Q => wpE Φ X a ρ μ fun x μ1 => wpE Φ X b ρ μ1 fun y μ2 => match seqOf x μ2, seqOf y μ2 with
    | some xs, some ys => isTup x = isTup y ∧ Q (zipL xs ys) (fun μ' => liveOf x xs μ' ∧ liveOf y ys μ') μ2
    | _, _ => False
  | .enu a, ρ, μ, Q => wpE Φ X a ρ μ fun x μ1 => match seqOf x μ1 with
    | some xs => isTup x = false ∧ Q (enuL 0 xs) (liveOf x xs) μ1
    | none => False
end
end LD
namespace LD
open PySem PySem.Spec PyProof.Rows L2
section
variable {Q Q' : QD} {μ : Mu}
theorem newL_mono {xs : List D} (q : ∀ d μ', Q d μ' → Q' d μ') (h : newL xs μ Q) : newL xs μ Q' := fun p n => q _ _ (h p n)
theorem mulT_mono {xs : List D} {k : Int} (q : ∀ d μ', Q d μ' → Q' d μ') (h : mulT xs k μ Q) : mulT xs k μ Q' := by
  unfold mulT at h ⊢
  by_cases e : k = 1
  · rw [if_pos e] at h ⊢
    exact q _ _ h
  · rw [if_neg e] at h ⊢
    exact ⟨h.1, q _ _ h.2⟩
theorem binD_mono {op : Operator} {x y : D} (q : ∀ d μ', Q d μ' → Q' d μ') (h : binD op x y μ Q) : binD op x y μ Q' := by
  unfold binD at h ⊢
  split at h <;> first
    | exact q _ _ h
    | exact ⟨h.1, q _ _ h.2⟩
    | exact mulT_mono q h
    | (split at h <;> first
      | exact ⟨h.1, newL_mono q h.2⟩
      | exact h.elim)
    | exact h.elim
theorem augD_mono {op : Operator} {x y : D} (q : ∀ d μ', Q d μ' → Q' d μ') (h : augD op x y μ Q) : augD op x y μ Q' := by
  unfold augD at h ⊢
  split at h <;> first
    | exact q _ _ h
    | exact h.elim
theorem eqQ_mono {x y : D} {R R' : Bool → Prop} (q : ∀ b, R b → R' b) (h : eqQ x y μ R) : eqQ x y μ R' := by
  unfold eqQ at h ⊢
  split at h
  · exact ⟨h.1, h.2.1, q _ h.2.2⟩
  · exact h.elim
theorem inD_mono {x : D} {ys : List D} {R R' : Bool → Prop} (q : ∀ b, R b → R' b) (h : inD x ys μ R) : inD x ys μ R' := by
  unfold inD at h ⊢
  split at h
  · exact ⟨h.1, h.2.1, q _ h.2.2⟩
  · exact h.elim
theorem cmpD_mono {op : CmpOp} {x y : D} {R R' : Bool → Prop} (q : ∀ b, R b → R' b) (h : cmpD op x y μ R) : cmpD op x y μ R' := by
  unfold cmpD at h ⊢
  split at h
  · exact eqQ_mono q h
  · exact eqQ_mono (fun b => q _) h
  all_goals (split at h <;> first
    | exact q _ h
    | exact h.elim
    | exact inD_mono q h
    | exact inD_mono (fun b => q _) h
    | (split at h <;> first
      | exact q _ h
      | exact inD_mono q h
      | exact inD_mono (fun b => q _) h
      | exact h.elim))
theorem ixS_mono {x y : D} (q : ∀ d μ', Q d μ' → Q' d μ') (h : ixS x y μ Q) : ixS x y μ Q' := by
  unfold ixS at h ⊢
  split at h
  · split at h
    · exact q _ _ h
    · exact h.elim
  · exact h.elim
theorem ixD_mono {x y : D} (q : ∀ d μ', Q d μ' → Q' d μ') (h : ixD x y μ Q) : ixD x y μ Q' := by
  unfold ixD at h ⊢
  split at h
  · split at h
    · exact q _ _ h
    · exact h.elim
  · exact ixS_mono q h
theorem slD_mono {x : D} {lo hi : Option Int} (q : ∀ d μ', Q d μ' → Q' d μ') (h : slD x lo hi μ Q) : slD x lo hi μ Q' := by
  unfold slD at h ⊢
  split at h
  · exact q _ _ h
  · exact newL_mono q h
  · split at h
    · exact newL_mono q h
    · exact h.elim
  · exact h.elim
theorem revD_mono {x : D} (q : ∀ d μ', Q d μ' → Q' d μ') (h : revD x μ Q) : revD x μ Q' := by
  unfold revD at h ⊢
  split at h
  · exact q _ _ h
  · exact newL_mono q h
  · split at h
    · exact newL_mono q h
    · exact h.elim
  · exact h.elim
theorem biD_mono {b : Bi} {ds : List D} (q : ∀ d μ', Q d μ' → Q' d μ') (h : biD b ds μ Q) : biD b ds μ Q' := by
  unfold biD at h ⊢
  split at h <;> first
    | exact q _ _ h
    | exact ⟨h.1, q _ _ h.2⟩
    | exact h.elim
    | (split at h <;> first
      | exact q _ _ h
      | exact newL_mono q h
      | exact h.elim
      | (split at h <;> first
        | exact q _ _ h
        | exact ⟨h.1, fun m h1 h2 => q _ _ (h.2 m h1 h2)⟩
        | exact h.elim
        | (split at h <;> first
          | exact ⟨h.1, fun i d h1 h2 => q _ _ (h.2 i d h1 h2)⟩
          | exact h.elim)))
theorem appD_mono {o y : D} (q : ∀ d μ', Q d μ' → Q' d μ') (h : appD o y μ Q) : appD o y μ Q' := by
  unfold appD at h ⊢
  split at h
  · split at h
    · exact ⟨h.1, q _ _ h.2⟩
    · exact h.elim
  · exact h.elim
theorem extD_mono {o y : D} (q : ∀ d μ', Q d μ' → Q' d μ') (h : extD o y μ Q) : extD o y μ Q' := by
  unfold extD at h ⊢
  split at h
  · split at h
    · exact ⟨h.1, h.2.1, q _ _ h.2.2⟩
    · exact h.elim
  · exact h.elim
theorem popD_mono {o : D} (q : ∀ d μ', Q d μ' → Q' d μ') (h : popD o μ Q) : popD o μ Q' := by
  unfold popD at h ⊢
  split at h
  · split at h
    · split at h
      · exact q _ _ h
      · exact h.elim
    · exact h.elim
  · exact h.elim
theorem setD_mono {o i v : D} {R R' : Mu → Prop} (q : ∀ μ', R μ' → R' μ') (h : setD o i v μ R) : setD o i v μ R' := by
  unfold setD at h ⊢
  split at h
  · split at h
    · split at h
      · exact q _ h
      · exact h.elim
    · exact h.elim
  · exact h.elim
theorem Spec.run_mono {s : Spec} {ds : List D} {X X' : Str → Mu → Prop} (x : ∀ n μ', X n μ' → X' n μ') (q : ∀ d μ', Q d μ' → Q' d μ') (h : s.run ds μ X Q) : s.run ds μ X' Q' :=
  ⟨h.1, fun d m p => q _ _ (h.2.1 d m p), fun n m p => x _ _ (h.2.2 n m p)⟩
end
theorem compL_mono {tg : Tg} {wi wi' : Rho → Mu → (Bool → Mu → Prop) → Prop} {we we' : Rho → Mu → QD → Prop} {live : Mu → Prop} {ρ : Rho}
    (hi : ∀ ρ μ R R', (∀ b μ', R b μ' → R' b μ') → wi ρ μ R → wi' ρ μ R') (he : ∀ ρ μ R R', (∀ b μ', R b μ' → R' b μ') → we ρ μ R → we' ρ μ R') :
    ∀ (xs acc : List D) (μ : Mu) (Q Q' : List D → Mu → Prop), (∀ a μ', Q a μ' → Q' a μ') → compL tg wi we live ρ xs acc μ Q → compL tg wi' we' live ρ xs acc μ Q'
  | [], acc, μ, Q, Q', q, h => ⟨h.1, q _ _ h.2⟩
  | x :: xs, acc, μ, Q, Q', q, h => by
    unfold compL at h ⊢
    refine ⟨h.1, ?_⟩
    have h2 := h.2
    cases e : tgD μ tg x ρ with
    | none => rw [e] at h2; exact h2.elim
    | some ρ' =>
      rw [e] at h2
      refine hi _ _ _ _ (fun b μ1 r => ?_) h2
      cases b with
      | true => exact he _ _ _ _ (fun y μ2 r2 => ⟨r2.1, compL_mono hi he xs _ _ _ _ q r2.2⟩) r
      | false => exact compL_mono hi he xs _ _ _ _ q r
mutual
theorem wpE_mono {Φ : Nat → Spec} {X X' : Str → Mu → Prop} (x : ∀ n μ', X n μ' → X' n μ') : ∀ (e : E) (ρ : Rho) (μ : Mu) (Q Q' : QD), (∀ d μ', Q d μ' → Q' d μ') → wpE Φ X e ρ μ Q → wpE Φ X' e ρ μ Q'
  | .v i, ρ, μ, Q, Q', q, h => by
    simp only [wpE] at h ⊢
    split at h
    · exact q _ _ h
    · exact h.elim
  | .c d, ρ, μ, Q, Q', q, h => by
    simp only [wpE] at h ⊢
    exact q _ _ h
  | .bin op a b, ρ, μ, Q, Q', q, h => by
    simp only [wpE] at h ⊢
    exact wpE_mono x a _ _ _ _ (fun d m h => wpE_mono x b _ _ _ _ (fun d m h => binD_mono q h) h) h
  | .neg a, ρ, μ, Q, Q', q, h => by
    simp only [wpE] at h ⊢
    refine wpE_mono x a _ _ _ _ (fun d m h => ?_) h
    split at h
    · exact q _ _ h
    · exact h.elim
  | .cmp op a b, ρ, μ, Q, Q', q, h => by
    simp only [wpE] at h ⊢
    exact wpE_mono x a _ _ _ _ (fun d m h => wpE_mono x b _ _ _ _ (fun d m h => cmpD_mono (fun _ => q _ _) h) h) h
  | .chn op op' a b c, ρ, μ, Q, Q', q, h => by
    simp only [wpE] at h ⊢
    refine wpE_mono x a _ _ _ _ (fun d m h => wpE_mono x b _ _ _ _ (fun d m h => cmpD_mono (fun k h => ?_) h) h) h
    split
    · rename_i hk
      rw [if_pos hk] at h
      exact wpE_mono x c _ _ _ _ (fun d m h => cmpD_mono (fun _ => q _ _) h) h
    · rename_i hk
      rw [if_neg hk] at h
      exact q _ _ h
  | .and a b, ρ, μ, Q, Q', q, h => by
    simp only [wpE] at h ⊢
    refine wpE_mono x a _ _ _ _ (fun d m h => ?_) h
    split at h
    · exact wpE_mono x b _ _ _ _ q h
    · exact q _ _ h
    · exact h.elim
  | .or a b, ρ, μ, Q, Q', q, h => by
    simp only [wpE] at h ⊢
    refine wpE_mono x a _ _ _ _ (fun d m h => ?_) h
    split at h
    · exact q _ _ h
    · exact wpE_mono x b _ _ _ _ q h
    · exact h.elim
  | .not a, ρ, μ, Q, Q', q, h => by
    simp only [wpE] at h ⊢
    refine wpE_mono x a _ _ _ _ (fun d m h => ?_) h
    split at h
    · exact q _ _ h
    · exact h.elim
  | .ite t a b, ρ, μ, Q, Q', q, h => by
    simp only [wpE] at h ⊢
    refine wpE_mono x t _ _ _ _ (fun d m h => ?_) h
    split at h
    · exact wpE_mono x a _ _ _ _ q h
    · exact wpE_mono x b _ _ _ _ q h
    · exact h.elim
  | .tup es, ρ, μ, Q, Q', q, h => by
    simp only [wpE] at h ⊢
    exact wpEs_mono x es _ _ _ _ (fun d m h => ⟨h.1, q _ _ h.2⟩) h
  | .lst es, ρ, μ, Q, Q', q, h => by
    simp only [wpE] at h ⊢
    exact wpEs_mono x es _ _ _ _ (fun d m h => ⟨h.1, newL_mono q h.2⟩) h
  | .ix a b, ρ, μ, Q, Q', q, h => by
    simp only [wpE] at h ⊢
    exact wpE_mono x a _ _ _ _ (fun d m h => wpE_mono x b _ _ _ _ (fun d m h => ixD_mono q h) h) h
  | .sl a lo hi, ρ, μ, Q, Q', q, h => by
    simp only [wpE] at h ⊢
    exact wpE_mono x a _ _ _ _ (fun d m h => wpO_mono x lo _ _ _ _ (fun d m h => wpO_mono x hi _ _ _ _ (fun d m h => slD_mono q h) h) h) h
  | .rev a, ρ, μ, Q, Q', q, h => by
    simp only [wpE] at h ⊢
    exact wpE_mono x a _ _ _ _ (fun d m h => revD_mono q h) h
  | .call f es ks perm, ρ, μ, Q, Q', q, h => by
    simp only [wpE] at h ⊢
    exact wpEs_mono x es _ _ _ _ (fun d m h => wpEs_mono x ks _ _ _ _ (fun d m h => Spec.run_mono x q h) h) h
  | .bi b es, ρ, μ, Q, Q', q, h => by
    simp only [wpE] at h ⊢
    exact wpEs_mono x es _ _ _ _ (fun d m h => biD_mono q h) h
  | .isi a ns, ρ, μ, Q, Q', q, h => by
    simp only [wpE] at h ⊢
    refine wpE_mono x a _ _ _ _ (fun d m h => ?_) h
    split at h
    · split at h
      · exact q _ _ h
      · exact h.elim
    · exact h.elim
  | .app o a, ρ, μ, Q, Q', q, h => by
    simp only [wpE] at h ⊢
    exact wpE_mono x o _ _ _ _ (fun d m h => ⟨h.1, wpE_mono x a _ _ _ _ (fun d m h => appD_mono q h) h.2⟩) h
  | .ext o a, ρ, μ, Q, Q', q, h => by
    simp only [wpE] at h ⊢
    exact wpE_mono x o _ _ _ _ (fun d m h => ⟨h.1, wpE_mono x a _ _ _ _ (fun d m h => extD_mono q h) h.2⟩) h
  | .pop o, ρ, μ, Q, Q', q, h => by
    simp only [wpE] at h ⊢
    exact wpE_mono x o _ _ _ _ (fun d m h => popD_mono q h) h
  | .comp tg it ifs elt own, ρ, μ, Q, Q', q, h => by
    simp only [wpE] at h ⊢
    refine wpI_mono x it _ _ _ _ (fun ds live m h => ?_) h
    exact compL_mono (fun ρ μ R R' r h => wpIf_mono ifs ρ μ R R' r h) (fun ρ μ R R' r h => wpE_mono (fun _ _ z => z) elt ρ μ R R' r h) _ _ _ _ _ (fun a m h => newL_mono q h) h
theorem wpEs_mono {Φ : Nat → Spec} {X X' : Str → Mu → Prop} (x : ∀ n μ', X n μ' → X' n μ') : ∀ (e : Es) (ρ : Rho) (μ : Mu) (Q Q' : List D → Mu → Prop), (∀ d μ', Q d μ' → Q' d μ') → wpEs Φ X e ρ μ Q → wpEs Φ X' e ρ μ Q'
  | .nil, ρ, μ, Q, Q', q, h => by
    simp only [wpEs] at h ⊢
    exact q _ _ h
  | .cons e es, ρ, μ, Q, Q', q, h => by
    simp only [wpEs] at h ⊢
    exact wpE_mono x e _ _ _ _ (fun d m h => wpEs_mono x es _ _ _ _ (fun ds m h => q _ _ h) h) h
theorem wpIf_mono {Φ : Nat → Spec} : ∀ (e : Es) (ρ : Rho) (μ : Mu) (Q Q' : Bool → Mu → Prop), (∀ d μ', Q d μ' → Q' d μ') → wpIf Φ e ρ μ Q → wpIf Φ e ρ μ Q'
  | .nil, ρ, μ, Q, Q', q, h => by
    simp only [wpIf] at h ⊢
    exact q _ _ h
  | .cons e es, ρ, μ, Q, Q', q, h => by
    simp only [wpIf] at h ⊢
    refine wpE_mono (fun _ _ z => z) e _ _ _ _ (fun d m h => ?_) h
    split at h
    · exact wpIf_mono es _ _ _ _ q h
    · exact q _ _ h
    · exact h.elim
theorem wpO_mono {Φ : Nat → Spec} {X X' : Str → Mu → Prop} (x : ∀ n μ', X n μ' → X' n μ') : ∀ (e : O) (ρ : Rho) (μ : Mu) (Q Q' : Option Int → Mu → Prop), (∀ d μ', Q d μ' → Q' d μ') → wpO Φ X e ρ μ Q → wpO Φ X' e ρ μ Q'
  | .no, ρ, μ, Q, Q', q, h => by
    simp only [wpO] at h ⊢
    exact q _ _ h
  | .so e, ρ, μ, Q, Q', q, h => by
    simp only [wpO] at h ⊢
    refine wpE_mono x e _ _ _ _ (fun d m h => ?_) h
    split at h
    · exact q _ _ h
    · exact h.elim
theorem wpI_mono {Φ : Nat → Spec} {X X' : Str → Mu → Prop} (x : ∀ n μ', X n μ' → X' n μ') : ∀ (e : I) (ρ : Rho) (μ : Mu) (Q Q' : List D → (Mu → Prop) → Mu → Prop), (∀ d l μ', Q d l μ' → Q' d l μ') → wpI Φ X e ρ μ Q → wpI Φ X' e ρ μ Q'
  | .val e, ρ, μ, Q, Q', q, h => by
    simp only [wpI] at h ⊢
    refine wpE_mono x e _ _ _ _ (fun d m h => ?_) h
    split at h
    · exact q _ _ _ h
    · exact h.elim
  | .rng1 a, ρ, μ, Q, Q', q, h => by
    simp only [wpI] at h ⊢
    refine wpE_mono x a _ _ _ _ (fun d m h => ?_) h
    split at h
    · exact ⟨h.1, q _ _ _ h.2⟩
    · exact h.elim
  | .rng2 a b, ρ, μ, Q, Q', q, h => by
    simp only [wpI] at h ⊢
    refine wpE_mono x a _ _ _ _ (fun d m h => wpE_mono x b _ _ _ _ (fun d m h => ?_) h) h
    split at h
    · exact ⟨h.1, q _ _ _ h.2⟩
    · exact h.elim
  | .zip a b, ρ, μ, Q, Q', q, h => by
    simp only [wpI] at h ⊢
    refine wpE_mono x a _ _ _ _ (fun d m h => wpE_mono x b _ _ _ _ (fun d m h => ?_) h) h
    split at h
    · exact ⟨h.1, q _ _ _ h.2⟩
    · exact h.elim
  | .enu a, ρ, μ, Q, Q', q, h => by
    simp only [wpI] at h ⊢
    refine wpE_mono x a _ _ _ _ (fun d m h => ?_) h
    split at h
    · exact ⟨h.1, q _ _ _ h.2⟩
    · exact h.elim
end
end LD
namespace LD
open PySem PySem.Spec PyProof.Rows L2

/-- what is to be shown of a value behind an expression -/
def fin (K : PySem.W.Frag) (H : Hp) (μ : Mu) (P : VK) : QD := fun d μ' => ∀ v H', Rep K H' v d → SRep K H' μ' → Ext H μ H' μ' → P v H'
section
variable {K : PySem.W.Frag} {H H1 : Hp} {μ μ1 : Mu} {P : VK}
theorem fin.trans {d : D} {μ' : Mu} (x : Ext H μ H1 μ1) (h : fin K H μ P d μ') : fin K H1 μ1 P d μ' := fun v H' r s e => h v H' r s (x.trans e)
theorem fin.here {d : D} {v : V} (h : fin K H μ P d μ) (r : Rep K H v d) (s : SRep K H μ) : P v H := h v H r s Ext.refl
theorem fin.newL {ds : List D} {vs : List V} (h : newL ds μ (fin K H μ P)) (s : SRep K H μ) (r : Reps K H vs ds) : ∀ p, H p = none → P (.ref p) (upd H p (.lst vs)) := fun p n =>
  h p (s.none_of n) _ _ (.ref p) (s.newL n r) (Ext.newS n)
theorem fin.tup {ds : List D} {vs : List V} (h : fin K H μ P (.tup ds) μ) (s : SRep K H μ) (r : Reps K H vs ds) : ∀ p, H p = none → P (.ref p) (upd H p (.tup vs)) := fun p n =>
  h _ _ (.tup (SqT.of upd_same) (r.ext s (Ext.new n (s.none_of n)))) (s.new n) (Ext.new n (s.none_of n))
theorem SRep.lst (s : SRep K H μ) {a : Addr} {xs : List D} (h : μ a = some (.lst xs)) : ∃ vs, H a = some (.lst vs) ∧ Reps K H vs xs := s a _ h
theorem SRep.dic (s : SRep K H μ) {a : Addr} {xs : List (Key × D)} (h : μ a = some (.dic xs)) : ∃ vs, H a = some (.dK vs) ∧ KReps K H vs xs := s a _ h
/-- a sequence is read as what it is -/
theorem seq_ok {v : V} {d : D} {xs : List D} (r : Rep K H v d) (s : SRep K H μ) (h : seqOf d μ = some xs) : ∃ a vs, v = .ref a ∧ Reps K H vs xs ∧ ((SqL K H a vs ∧ isTup d = false) ∨ (SqT K H a vs ∧ d = .tup xs)) := by
  cases r with
  | tup h1 h2 => cases h; exact ⟨_, _, rfl, h2, .inr ⟨h1, rfl⟩⟩
  | rol h1 h2 => cases h; exact ⟨_, _, rfl, h2, .inl ⟨h1.sq, rfl⟩⟩
  | rod h0 h1 h2 => cases h
  | ref a =>
    unfold seqOf at h
    dsimp only at h
    split at h
    · rename_i ys e
      cases h
      obtain ⟨vs, h1, h2⟩ := s.lst e
      exact ⟨_, _, rfl, h2, .inl ⟨SqL.of h1, rfl⟩⟩
    · cases h
  | _ => cases h
theorem tru_ok' {v : V} {d : D} {k : Bool} (r : Rep K H v d) (s : SRep K H μ) (h : tru d μ = some k) : TruV K v H k := by
  cases r with
  | non => cases h; rfl
  | bl b => cases h; rfl
  | int i => cases h; rfl
  | str x =>
    unfold tru at h
    dsimp only at h
    split at h
    · rename_i hl
      cases h
      exact ⟨hl, rfl⟩
    · cases h
  | ty n => cases h
  | tup h1 h2 =>
    cases h
    refine .inr (.inl ⟨_, h1, ?_⟩)
    cases h2 <;> rfl
  | rod h0 h1 h2 => cases h
  | rol h1 h2 =>
    cases h
    refine .inl ⟨_, h1.sq, ?_⟩
    cases h2 <;> rfl
  | ref a =>
    unfold tru at h
    dsimp only at h
    split at h
    · rename_i xs e
      cases h
      obtain ⟨vs, h1, h2⟩ := s.lst e
      refine .inl ⟨vs, SqL.of h1, ?_⟩
      cases h2 <;> rfl
    · rename_i xs e
      cases h
      obtain ⟨vs, h1, h2⟩ := s.dic e
      refine .inr (.inr ⟨vs, h1, ?_⟩)
      cases h2 <;> rfl
    · cases h
mutual
theorem pd_ok (s : SRep K H μ) : ∀ (n : Nat) {v : V} {d : D} {p : PyData}, Rep K H v d → pdOf μ n d = some p → Dp K H v p
  | 0, _, _, _, _, h => by cases h
  | n + 1, v, d, p, r, h => by
    cases r with
    | non => cases h; exact .non
    | bl b => cases h; exact .bl b
    | int i => cases h; exact .int i
    | str x => cases h; exact .str x
    | ty m => cases h
    | tup h1 h2 =>
      rename_i a vs ds
      have h' : (pdL (pdOf μ n) ds).map PyData.tuple = some p := h
      cases e : pdL (pdOf μ n) ds with
      | none => rw [e] at h'; cases h'
      | some xs =>
        rw [e] at h'
        cases h'
        exact .tup h1 (pdL_ok s n h2 e)
    | rod h0 h1 h2 => cases h
    | rol h1 h2 =>
      rename_i a vs ds
      have h' : (pdL (pdOf μ n) ds).map PyData.list = some p := h
      cases e : pdL (pdOf μ n) ds with
      | none => rw [e] at h'; cases h'
      | some xs =>
        rw [e] at h'
        cases h'
        exact .lst h1.sq (pdL_ok s n h2 e)
    | ref a =>
      unfold pdOf at h
      dsimp only at h
      split at h
      · rename_i ds e
        obtain ⟨vs, h1, h2⟩ := s.lst e
        cases e2 : pdL (pdOf μ n) ds with
        | none => rw [e2] at h; cases h
        | some xs =>
          rw [e2] at h
          cases h
          exact .lst (SqL.of h1) (pdL_ok s n h2 e2)
      · cases h
theorem pdL_ok (s : SRep K H μ) : ∀ (n : Nat) {vs : List V} {ds : List D} {ps : List PyData}, Reps K H vs ds → pdL (pdOf μ n) ds = some ps → DpAll K H vs ps
  | n, _, _, _, .nil, h => by cases h; exact .nil
  | n, _, _, ps, .cons (d := d) (ds := ds) r t, h => by
    unfold pdL at h
    split at h
    · rename_i x xs e1 e2
      cases h
      exact .cons (pd_ok s n r e1) (pdL_ok s n t e2)
    · cases h
end
end

/-- D's reading of an operation of two values -/
def r2 (K : PySem.W.Frag) (f : D → D → Mu → QD → Prop) : R2 := fun x y H P => ∃ dx dy μ, Rep K H x dx ∧ Rep K H y dy ∧ SRep K H μ ∧ f dx dy μ (fin K H μ P)
theorem OpR.weak {X : Cx} {f : Value → Value → Sem Value} {r r' : R2} (h : OpR X f r) (i : ∀ x y H Q, r' x y H Q → r x y H Q) : OpR X f r' := fun pins s σ H x y v u Q I rx ry q => h pins s σ H x y v u Q I rx ry (i _ _ _ _ q)
/-- the values' rules, one chosen behind both values -/
theorem OpR.some {X : Cx} {f : Value → Value → Sem Value} {r' : R2} (i : ∀ x y H Q, r' x y H Q → ∃ r, OpR X f r ∧ r x y H Q) : OpR X f r' := fun pins s σ H x y v u Q I rx ry q =>
  let ⟨_, h, q'⟩ := i _ _ _ _ q
  h pins s σ H x y v u Q I rx ry q'
section
variable {X : Cx}
def CDivX (_ j : Int) : Prop := j ≠ 0 ∧ j.natAbs.log2 < 9000
theorem op_fdivX : OpR X (binaryOp .FloorDiv) (rI CDivX fun i j => .int (i.fdiv j)) := opI fun i j _ _ _ _ _ hc q =>
  floordiv_int hc.1 q (.inl (PyProof.noPylong_of_log2 hc.2))
theorem op_mulX : OpR X (binaryOp .Mult) (rI IntMulOk fun i j => .int (i * j)) := opI fun _ _ _ _ _ _ _ hc q => mul_int q hc
theorem bin_ok (op : Operator) : OpR X (binaryOp op) (r2 X.K (binD op)) := by
  refine OpR.some fun x y H P h => ?_
  obtain ⟨dx, dy, μ, rx, ry, s, h⟩ := h
  unfold binD at h
  split at h
  · cases rx; cases ry
    exact ⟨_, op_add, _, _, rfl, rfl, h.here (.int _) s⟩
  · cases rx; cases ry
    exact ⟨_, op_add_ib, _, _, rfl, rfl, h.here (.int _) s⟩
  · cases rx; cases ry
    exact ⟨_, op_add_str, _, _, rfl, rfl, h.1, h.2.here (.str _) s⟩
  · cases rx with
    | tup hx ax =>
      cases ry with
      | tup hy ay =>
        refine ⟨_, op_catA, _, _, _, _, rfl, rfl, hx, hy, ?_, fun e => ?_, fun _ e => ?_, fun _ _ p n => ?_⟩
        · rw [ax.length, ay.length]; exact h.1
        · have e' := ax.nil_iff.mp e
          subst e'
          exact h.2.here (.tup hy ay) s
        · have e' := ay.nil_iff.mp e
          subst e'
          have h2 := h.2
          rw [List.append_nil] at h2
          exact h2.here (.tup hx ax) s
        · exact fin.tup h.2 s (ax.append ay) p n
  · cases rx; cases ry
    rename_i a b
    split at h
    · rename_i xs ys e1 e2
      obtain ⟨vs, h1, a1⟩ := s.lst e1
      obtain ⟨ws, h2, a2⟩ := s.lst e2
      exact ⟨_, op_cat, _, _, _, _, rfl, rfl, h1, h2, by rw [a1.length, a2.length]; exact h.1.2, fin.newL h.2 s (a1.append a2)⟩
    · exact h.elim
  · cases rx; cases ry
    exact ⟨_, op_sub, _, _, rfl, rfl, h.here (.int _) s⟩
  · cases rx; cases ry
    exact ⟨_, op_mulX, _, _, rfl, rfl, h.1, h.2.here (.int _) s⟩
  · cases rx with
    | tup hx ax =>
      cases ry
      unfold mulT at h
      split at h
      · rename_i e
        subst e
        exact ⟨_, op_repT1, _, _, rfl, rfl, hx, h.here (.tup hx ax) s⟩
      obtain ⟨⟨h0, h1, h2, h3⟩, h4⟩ := h
      refine ⟨_, op_repT, _, _, _, rfl, rfl, hx, fun e => h0 (ax.nil_iff.mp e), h1, h2, by rw [ax.length]; exact h3, fin.tup h4 s (ax.rep _)⟩
  · cases rx; cases ry
    split at h
    · rename_i xs e1
      obtain ⟨vs, h1, a1⟩ := s.lst e1
      exact ⟨_, op_rep, _, _, _, rfl, rfl, h1, h.1.1, h.1.2.1, by rw [a1.length]; exact h.1.2.2, fin.newL h.2 s (a1.rep _)⟩
    · exact h.elim
  · cases rx; cases ry
    exact ⟨_, op_fdivX, _, _, rfl, rfl, h.1, h.2.here (.int _) s⟩
  · cases rx; cases ry
    exact ⟨_, op_modN, _, _, rfl, rfl, h.1, h.2.here (.int _) s⟩
  · cases rx; cases ry
    exact ⟨_, op_pow, _, _, rfl, rfl, h.1, h.2.here (.int _) s⟩
  · exact h.elim
theorem aug_ok (op : Operator) : OpR X (inplaceOp op) (r2 X.K (augD op)) := by
  refine OpR.some fun x y H P h => ?_
  obtain ⟨dx, dy, μ, rx, ry, s, h⟩ := h
  unfold augD at h
  split at h
  · cases rx; cases ry
    exact ⟨_, iop_add, _, _, rfl, rfl, h.here (.int _) s⟩
  · cases rx; cases ry
    exact ⟨_, iop_sub, _, _, rfl, rfl, h.here (.int _) s⟩
  · exact h.elim
/-- a comparison -/
def rc (op : CmpOp) : D → D → Mu → QD → Prop := fun x y μ Q => cmpD op x y μ fun k => Q (.bl k) μ
theorem isNon_ok {K : PySem.W.Frag} {H : Hp} {v : V} {d : D} (r : Rep K H v d) : decide (v = V.non) = isNon d := by
  cases r <;> first | rfl | exact decide_eq_false (fun z => nomatch z)
theorem cmp_ok (op : CmpOp) (hu : X.A.units + 65 < cLine) : OpR X (compareOp op) (r2 X.K (rc op)) := by
  refine OpR.some fun x y H P h => ?_
  obtain ⟨dx, dy, μ, rx, ry, s, h⟩ := h
  unfold rc cmpD at h
  split at h
  · unfold eqQ at h
    split at h
    · rename_i d e h1 h2
      exact ⟨_, op_eqD (by omega), d, e, pd_ok s _ rx h1, pd_ok s _ ry h2, h.1, h.2.1, h.2.2.here (.bl _) s⟩
    · exact h.elim
  · unfold eqQ at h
    split at h
    · rename_i d e h1 h2
      exact ⟨_, op_neD (by omega), d, e, pd_ok s _ rx h1, pd_ok s _ ry h2, h.1, h.2.1, h.2.2.here (.bl _) s⟩
    · exact h.elim
  · split at h
    · cases rx; cases ry
      exact ⟨_, op_lt, _, _, rfl, rfl, h.here (.bl _) s⟩
    · split at h
      · rename_i ns ms e1 e2
        have i1 := intsOf_some e1
        have i2 := intsOf_some e2
        subst i1 i2
        cases rx with
        | tup hx ax =>
          cases ry with
          | tup hy ay =>
            have b1 := ax.ints
            have b2 := ay.ints
            subst b1 b2
            exact ⟨_, op_ltT (by omega), _, _, _, _, rfl, rfl, hx, hy, h.here (.bl _) s⟩
      · exact h.elim
    · exact h.elim
  · split at h
    · cases rx; cases ry
      exact ⟨_, op_le, _, _, rfl, rfl, h.here (.bl _) s⟩
    · exact h.elim
  · split at h
    · cases rx; cases ry
      exact ⟨_, op_gt, _, _, rfl, rfl, h.here (.bl _) s⟩
    · exact h.elim
  · split at h
    · cases rx; cases ry
      exact ⟨_, op_ge, _, _, rfl, rfl, h.here (.bl _) s⟩
    · exact h.elim
  · split at h
    · cases rx; cases ry
      exact ⟨_, op_isBl, _, _, rfl, rfl, h.here (.bl _) s⟩
    · cases ry
      refine ⟨_, op_isN, rfl, ?_⟩
      rw [isNon_ok rx]
      exact h.here (.bl _) s
    · exact h.elim
  · split at h
    · cases rx; cases ry
      exact ⟨_, op_notBl, _, _, rfl, rfl, h.here (.bl _) s⟩
    · cases ry
      refine ⟨_, op_notN, rfl, ?_⟩
      rw [isNon_ok rx]
      exact h.here (.bl _) s
    · exact h.elim
  · have go : ∀ {ys : List D}, (∃ a vs, y = .ref a ∧ SqL X.K H a vs ∧ Reps X.K H vs ys) → inD dx ys μ (fun k => fin X.K H μ P (.bl k) μ) → ∃ r, OpR X (compareOp .In) r ∧ r x y H P := fun {ys} ⟨a, vs, e, hs, rs⟩ h => by
      unfold inD at h
      split at h
      · rename_i d ds e1 e2
        subst e
        exact ⟨_, op_inD hu, d, ds, pd_ok s _ rx e1, .lst hs (pdL_ok s _ rs e2), h.1, h.2.1, h.2.2.here (.bl _) s⟩
      · exact h.elim
    split at h
    · split at h
      · rename_i e
        cases ry
        obtain ⟨vs, h1, a1⟩ := s.lst e
        exact go ⟨_, vs, rfl, SqL.of h1, a1⟩ h
      · exact h.elim
    · cases ry with
      | rol h1 h2 => exact go ⟨_, _, rfl, h1.sq, h2⟩ h
    · exact h.elim
  · have go : ∀ {ys : List D}, (∃ a vs, y = .ref a ∧ SqL X.K H a vs ∧ Reps X.K H vs ys) → inD dx ys μ (fun k => fin X.K H μ P (.bl (!k)) μ) → ∃ r, OpR X (compareOp .NotIn) r ∧ r x y H P := fun {ys} ⟨a, vs, e, hs, rs⟩ h => by
      unfold inD at h
      split at h
      · rename_i d ds e1 e2
        subst e
        exact ⟨_, op_notInD hu, d, ds, pd_ok s _ rx e1, .lst hs (pdL_ok s _ rs e2), h.1, h.2.1, h.2.2.here (.bl _) s⟩
      · exact h.elim
    split at h
    · split at h
      · rename_i e
        cases ry
        obtain ⟨vs, h1, a1⟩ := s.lst e
        exact go ⟨_, vs, rfl, SqL.of h1, a1⟩ h
      · exact h.elim
    · cases ry with
      | rol h1 h2 => exact go ⟨_, _, rfl, h1.sq, h2⟩ h
    · exact h.elim
end
end LD
namespace LD
open PySem PySem.Spec PyProof.Rows L2
theorem IxR.some {X : Cx} {r' : R2} (i : ∀ x y H Q, r' x y H Q → ∃ r, IxR X r ∧ r x y H Q) : IxR X r' := fun va sl pins s σ H x y v u Q I rx ry q hs =>
  let ⟨_, h, q'⟩ := i _ _ _ _ q
  h va sl pins s σ H x y v u Q I rx ry q' hs
theorem SlR.some {X : Cx} {r' : V → Option Int → Option Int → Hp → VK → Prop} (i : ∀ x l u H Q, r' x l u H Q → ∃ r, SlR X r ∧ r x l u H Q) : SlR X r' := fun pins s σ H x v vl vu lo hi sl Q I rx hs pl pu q =>
  let ⟨_, h, q'⟩ := i _ _ _ _ _ q
  h pins s σ H x v vl vu lo hi sl Q I rx hs pl pu q'
theorem CallR.some {X : Cx} {f : Value} {r' : List V → Hp → VK → Prop} (i : ∀ xs H Q, r' xs H Q → ∃ r, CallR X f r ∧ r xs H Q) : CallR X f r' := fun pins s σ H xs us Q I rx q =>
  let ⟨_, h, q'⟩ := i _ _ _ q
  h pins s σ H xs us Q I rx q'
theorem atI_rep {K : PySem.W.Frag} {H : Hp} {vs : List V} {ds : List D} {i : Int} {d : D} (r : Reps K H vs ds) (h : atI ds i = some d) : ∃ v, atI vs i = some v ∧ Rep K H v d := by
  unfold atI at h ⊢
  rw [r.length]
  cases e : ixN ds.length i with
  | none => rw [e] at h; cases h
  | some j =>
    rw [e] at h
    exact r.get h
section
variable {X : Cx}
theorem dent_keys {w : World} : ∀ {es : List DictEntry} {ks : List Int} {vs : List V}, DEnt es ks vs → intKeys w es = true
  | [], _, _, _ => rfl
  | e :: es, k :: ks, v :: vs, h => by
    obtain ⟨⟨t, h1⟩, h2, h3, h4⟩ := h
    unfold intKeys
    rw [List.all_cons, Bool.and_eq_true]
    refine ⟨?_, dent_keys h4⟩
    rw [h1]
    exact decide_eq_true h2
  | _ :: _, [], _, h => h.elim
  | _ :: _, _ :: _, [], h => h.elim
theorem dent_look {K : PySem.W.Frag} {H : Hp} {i : Int} {d : D} : ∀ {es : List DictEntry} {ks : List Int} {vs : List V} {ds : List D}, DEnt es ks vs → Reps K H vs ds → lookI ks ds i = some d → ∃ u v, (es.find? fun e => keyIs (.inl i : Key) e.key).map (·.val) = some u ∧ RelV v u ∧ Rep K H v d
  | [], [], [], _, _, _, h => by simp [lookI] at h
  | e :: es, k :: ks, v :: vs, [], _, r, _ => by cases r
  | e :: es, k :: ks, v :: vs, d' :: ds, h, r, hl => by
    obtain ⟨⟨t, h1⟩, h2, h3, h4⟩ := h
    cases r with
    | cons r1 r2 =>
      unfold lookI at hl
      rw [List.find?_cons, h1]
      by_cases e2 : k = i
      · rw [if_pos e2] at hl
        cases hl
        rw [e2, keyIs_int]
        exact ⟨_, v, rfl, h3, r1⟩
      · rw [if_neg e2] at hl
        have e3 : keyIs (.inl i : Key) (.int k t) = false := by
          simp only [keyIs, Value.isInt]
          exact beq_eq_false_iff_ne.mpr (fun q => e2 (by first | exact q | exact q.symm))
        rw [e3]
        exact dent_look h4 r2 hl
  | [], _ :: _, _, _, h, _, _ => h.elim
  | [], [], _ :: _, _, h, _, _ => h.elim
  | _ :: _, [], _, _, h, _, _ => h.elim
  | _ :: _, _ :: _, [], _, h, _, _ => h.elim
theorem ixS_ok {x y : V} {H : Hp} {P : VK} {dx dy : D} {μ : Mu} (rx : Rep X.K H x dx) (ry : Rep X.K H y dy) (s : SRep X.K H μ) (h : ixS dx dy μ (fin X.K H μ P)) : ∃ r, IxR X r ∧ r x y H P := by
  unfold ixS at h
  split at h
  · rename_i xs i e
    cases ry
    split at h
    · rename_i d e2
      obtain ⟨a, vs, rfl, rs, hs⟩ := seq_ok rx s e
      obtain ⟨v, h1, h2⟩ := atI_rep rs e2
      rcases hs with ⟨hs, _⟩ | ⟨hs, _⟩
      · exact ⟨_, ix_list, _, _, _, _, rfl, rfl, hs, h1, h.here h2 s⟩
      · exact ⟨_, ix_tup, _, _, _, _, rfl, rfl, hs, h1, h.here h2 s⟩
    · exact h.elim
  · exact h.elim
theorem ix_ok : IxR X (r2 X.K ixD) := by
  refine IxR.some fun x y H P h => ?_
  obtain ⟨dx, dy, μ, rx, ry, s, h⟩ := h
  unfold ixD at h
  split at h
  · split at h
    · rename_i d e
      cases ry
      cases rx with
      | rod h0 h1 h2 =>
        rename_i es n vs
        obtain ⟨u, v, g1, g2, g3⟩ := dent_look h1 h2 e
        refine ⟨_, ix_idict, _, _, es, n, u, v, rfl, rfl, h0, dent_keys h1, ?_, g2, h.here g3 s⟩
        unfold findBy
        rw [← Array.find?_toList]
        exact g1
    · exact h.elim
  · exact ixS_ok rx ry s h
theorem Reps.cut {K : PySem.W.Frag} {H : Hp} {vs : List V} {ds : List D} (r : Reps K H vs ds) (lo hi : Option Int) : Reps K H (cutV vs lo hi) (cutD ds lo hi) := by
  unfold cutV cutD
  rw [r.length]
  exact (r.drop _).take _
theorem cut_whole {α : Type} {xs : List α} {lo hi : Option Int} (h : HT.sIx xs.length 0 lo = 0 ∧ HT.sIx xs.length xs.length hi = xs.length) : cutD xs lo hi = xs := by
  unfold cutD
  rw [h.1, h.2]
  simp
def rSlD (K : PySem.W.Frag) : V → Option Int → Option Int → Hp → VK → Prop := fun x lo hi H P => ∃ dx μ, Rep K H x dx ∧ SRep K H μ ∧ slD dx lo hi μ (fin K H μ P)
theorem sl_ok : SlR X (rSlD X.K) := by
  refine SlR.some fun x lo hi H P h => ?_
  obtain ⟨dx, μ, rx, s, h⟩ := h
  unfold slD at h
  split at h
  · cases rx with
    | tup hx ax =>
      refine ⟨_, sl_tupA, _, _, rfl, hx, fun w => ?_, fun _ => fin.tup h s (Reps.cut ax lo hi)⟩
      rw [ax.length] at w
      rw [cut_whole w] at h
      exact h.here (.tup hx ax) s
  · cases rx with
    | rol hx ax => exact ⟨_, sl_list, _, _, rfl, hx.sq, fin.newL h s (Reps.cut ax lo hi)⟩
  · split at h
    · rename_i e
      cases rx
      obtain ⟨vs, h1, a1⟩ := s.lst e
      exact ⟨_, sl_list, _, _, rfl, SqL.of h1, fin.newL h s (Reps.cut a1 lo hi)⟩
    · exact h.elim
  · exact h.elim

/-! ### built-in functions -/
def rBi (K : PySem.W.Frag) (b : Bi) : List V → Hp → VK → Prop := fun xs H P => ∃ ds μ, Reps K H xs ds ∧ SRep K H μ ∧ biD b ds μ (fin K H μ P)
def biF : Bi → Value
  | .len => .builtin "len" | .abs => .builtin "abs" | .int => .type "int" | .sum => .builtin "sum" | .all => .builtin "all" | .any => .builtin "any"
  | .min => .builtin "min" | .max => .builtin "max" | .tuple => .type "tuple" | .list => .type "list" | .gcd => .builtin "math.gcd"
theorem seqL_ok {K : PySem.W.Frag} {H : Hp} {μ : Mu} {v : V} {d : D} {xs : List D} (r : Rep K H v d) (s : SRep K H μ) (h : LD.seqL d μ = some xs) : ∃ a vs, v = .ref a ∧ Reps K H vs xs ∧ SqL K H a vs := by
  have e : seqOf d μ = some xs ∧ isTup d = false := by
    cases d <;> first
      | exact ⟨h, rfl⟩
      | cases h
  obtain ⟨a, vs, e1, rs, hs⟩ := seq_ok r s e.1
  rcases hs with ⟨hs, _⟩ | ⟨_, hs⟩
  · exact ⟨a, vs, e1, rs, hs⟩
  · subst hs
    cases e.2
theorem bi_ok (b : Bi) (hc : X.calm = true) (hu : X.A.units + 65 < cLine) : CallR X (biF b) (rBi X.K b) := by
  refine CallR.some fun xs H P h => ?_
  obtain ⟨ds, μ, rs, s, h⟩ := h
  unfold biD at h
  split at h
  · cases rs with | cons r t => cases t; cases r; exact ⟨_, call_len, _, _, rfl, ⟨h.1, rfl⟩, h.2.here (.int _) s⟩
  · split at h
    · rename_i e
      cases rs with | cons r t => ?_
      cases t
      obtain ⟨a, vs, rfl, rr, hs⟩ := seq_ok r s e
      have q := h.here (.int _) s
      rw [← rr.length] at q
      refine ⟨_, call_len_seq, _, _, rfl, ?_, q⟩
      rcases hs with ⟨hs, _⟩ | ⟨hs, _⟩
      · exact .inl hs
      · exact .inr hs
    · exact h.elim
  · cases rs with | cons r t => ?_
    cases t; cases r
    refine ⟨_, call_abs, _, rfl, ?_⟩
    rename_i i
    have e : (if i < 0 then -i else i) = (i.natAbs : Int) := by split <;> omega
    rw [e]
    exact h.here (.int _) s
  · cases rs with | cons r t => cases t; cases r; exact ⟨_, call_int1, .inl ⟨_, rfl, h.here (.int _) s⟩⟩
  · cases rs with | cons r t => cases t; cases r; exact ⟨_, call_int1, .inr ⟨_, rfl, h.here (.int _) s⟩⟩
  · split at h
    · rename_i ns e2
      cases rs with | cons r t => ?_
      cases t
      cases r with
      | tup hx ax =>
        have e3 := intsOf_some e2
        subst e3
        have e4 := ax.ints
        subst e4
        exact ⟨_, cr_sumT hc, _, _, rfl, hx, h.here (.int _) s⟩
    · exact h.elim
  · split at h
    · rename_i e
      split at h
      · rename_i ns e2
        cases rs with | cons r t => ?_
        cases t
        obtain ⟨a, vs, rfl, rr, hs⟩ := seqL_ok r s e
        have e3 := intsOf_some e2
        subst e3
        have e4 := rr.ints
        subst e4
        exact ⟨_, cr_sum hc, _, _, rfl, hs, h.here (.int _) s⟩
      · exact h.elim
    · exact h.elim
  · split at h
    · rename_i e
      split at h
      · rename_i ns e2
        cases rs with | cons r t => ?_
        cases t
        obtain ⟨a, vs, rfl, rr, hs⟩ := seqL_ok r s e
        have e3 := blsOf_some e2
        subst e3
        have e4 := rr.bls
        subst e4
        exact ⟨_, cr_all hc, _, _, rfl, hs, h.here (.bl _) s⟩
      · exact h.elim
    · exact h.elim
  · split at h
    · rename_i e
      split at h
      · rename_i ns e2
        cases rs with | cons r t => ?_
        cases t
        obtain ⟨a, vs, rfl, rr, hs⟩ := seqL_ok r s e
        have e3 := blsOf_some e2
        subst e3
        have e4 := rr.bls
        subst e4
        exact ⟨_, cr_any hc, _, _, rfl, hs, h.here (.bl _) s⟩
      · exact h.elim
    · exact h.elim
  · cases rs with | cons r t => cases t with | cons r2 t => cases t; cases r; cases r2; exact ⟨_, call_max2 hc, _, _, rfl, h.here (.int _) s⟩
  · cases rs with | cons r t => cases t with | cons r2 t => cases t; cases r; cases r2; exact ⟨_, call_min2 hc, _, _, rfl, h.here (.int _) s⟩
  · split at h
    · rename_i e
      split at h
      · rename_i ns e2
        cases rs with | cons r t => ?_
        cases t
        obtain ⟨a, vs, rfl, rr, hs⟩ := seqL_ok r s e
        have e3 := intsOf_some e2
        subst e3
        have e4 := rr.ints
        subst e4
        exact ⟨_, cr_max hc, _, _, rfl, hs, h.1, fun m h1 h2 => (h.2 m h1 h2).here (.int _) s⟩
      · exact h.elim
    · exact h.elim
  · split at h
    · rename_i e
      split at h
      · rename_i ns e2
        cases rs with | cons r t => ?_
        cases t
        obtain ⟨a, vs, rfl, rr, hs⟩ := seqL_ok r s e
        have e3 := intsOf_some e2
        subst e3
        have e4 := rr.ints
        subst e4
        exact ⟨_, cr_min hc, _, _, rfl, hs, h.1, fun m h1 h2 => (h.2 m h1 h2).here (.int _) s⟩
      · split at h
        · rename_i p ps e3
          cases rs with | cons r t => ?_
          cases t
          obtain ⟨a, vs, rfl, rr, hs⟩ := seqL_ok r s e
          refine ⟨_, cr_minD hc hu, _, _, p, ps, rfl, hs, pdL_ok s _ rr e3, h.1.1, h.1.2.1, h.1.2.2, fun i x hx hp => ?_⟩
          obtain ⟨d, hd, rd⟩ := rr.getV hx
          exact (h.2 i d hd hp).here rd s
        · exact h.elim
    · exact h.elim
  · split at h
    · rename_i e
      cases rs with | cons r t => ?_
      cases t
      obtain ⟨a, vs, rfl, rr, hs⟩ := seq_ok r s e
      rcases hs with ⟨hs, _⟩ | ⟨hs, _⟩
      · exact ⟨_, call_tuple_of, _, _, rfl, .inl ⟨hs, fin.tup h s rr⟩⟩
      · exact ⟨_, call_tuple_of, _, _, rfl, .inr ⟨hs, h.here (.tup hs rr) s⟩⟩
    · exact h.elim
  · split at h
    · rename_i e
      cases rs with | cons r t => ?_
      cases t
      obtain ⟨a, vs, rfl, rr, hs⟩ := seq_ok r s e
      refine ⟨_, call_list_of, _, _, rfl, ?_, fin.newL h s rr⟩
      rcases hs with ⟨hs, _⟩ | ⟨hs, _⟩
      · exact .inl hs
      · exact .inr hs
    · exact h.elim
  · cases rs with | cons r t => cases t with | cons r2 t => cases t; cases r; cases r2; exact ⟨_, cr_gcd, _, _, rfl, h.here (.int _) s⟩
  · exact h.elim

/-! ### methods of lists -/
theorem MtR.someM {X : Cx} {id : String} {r' : V → List V → Hp → VK → Prop} (i : ∀ x xs H Q, r' x xs H Q → ∃ r, MtR X id r ∧ r x xs H Q) : MtR X id r' := fun pins s σ H x xs v us Q I rx rs q =>
  let ⟨_, h, q'⟩ := i _ _ _ _ q
  h pins s σ H x xs v us Q I rx rs q'
def rM1 (K : PySem.W.Frag) (f : D → D → Mu → QD → Prop) : V → List V → Hp → VK → Prop := fun x xs H P => ∃ y, xs = [y] ∧ r2 K f x y H P
def rM0 (K : PySem.W.Frag) (f : D → Mu → QD → Prop) : V → List V → Hp → VK → Prop := fun x xs H P => xs = [] ∧ ∃ dx μ, Rep K H x dx ∧ SRep K H μ ∧ f dx μ (fin K H μ P)
theorem app_ok' : MtR X "list.append" (rM1 X.K appD) := by
  refine MtR.someM fun x xs H P h => ?_
  obtain ⟨y, rfl, dx, dy, μ, rx, ry, s, h⟩ := h
  unfold appD at h
  split at h
  · split at h
    · rename_i e
      cases rx
      obtain ⟨vs, h1, a1⟩ := s.lst e
      have ar : Reps X.K H (vs ++ [y]) _ := a1.append (.cons ry .nil)
      exact ⟨_, mt_append, _, _, _, rfl, rfl, h1, by rw [a1.length]; exact h.1, h.2 _ _ .non (s.wrL e ar) (Ext.wr e)⟩
    · exact h.elim
  · exact h.elim
theorem ext_ok' : MtR X "list.extend" (rM1 X.K extD) := by
  refine MtR.someM fun x xs H P h => ?_
  obtain ⟨y, rfl, dx, dy, μ, rx, ry, s, h⟩ := h
  unfold extD at h
  split at h
  · split at h
    · rename_i e1 e2
      cases rx; cases ry
      obtain ⟨vs, h1, a1⟩ := s.lst e1
      obtain ⟨ws, h2, a2⟩ := s.lst e2
      exact ⟨_, mt_extend, _, _, _, _, rfl, rfl, h1, h2, by rw [a1.length, a2.length]; exact h.2.1, h.2.2 _ _ .non (s.wrL e1 (a1.append a2)) (Ext.wr e1)⟩
    · exact h.elim
  · exact h.elim
theorem Reps.dropLast {K : PySem.W.Frag} {H : Hp} {vs : List V} {ds : List D} (r : Reps K H vs ds) : Reps K H vs.dropLast ds.dropLast := by
  rw [List.dropLast_eq_take, List.dropLast_eq_take, r.length]
  exact r.take _
theorem pop_ok' : MtR X "list.pop" (rM0 X.K popD) := by
  refine MtR.someM fun x xs H P h => ?_
  obtain ⟨rfl, dx, μ, rx, s, h⟩ := h
  unfold popD at h
  split at h
  · rename_i a
    split at h
    · rename_i zs e
      split at h
      · rename_i y e2
        cases rx
        obtain ⟨vs, h1, a1⟩ := s.lst e
        rw [List.getLast?_eq_getElem?, ← a1.length] at e2
        obtain ⟨v, h2, h3⟩ := a1.get e2
        have x : Ext H μ (upd H a (.lst vs.dropLast)) (up μ a (.lst zs.dropLast)) := Ext.wr e
        exact ⟨_, mt_pop, _, _, v, rfl, rfl, h1, h2, h _ _ (Rep.ext s x h3) (s.wrL e a1.dropLast) x⟩
      · exact h.elim
    · exact h.elim
  · exact h.elim
def rSetD' (K : PySem.W.Frag) : TSet := fun o i v H P => ∃ d1 d2 d3 μ, Rep K H o d1 ∧ Rep K H i d2 ∧ Rep K H v d3 ∧ SRep K H μ ∧ setD d1 d2 d3 μ fun μ' => ∀ H', SRep K H' μ' → Ext H μ H' μ' → P H'
theorem set_ok : PSet X (rSetD' X.K) := by
  intro pins s σ H o i v ov iv u Q I ro ri rv h
  obtain ⟨d1, d2, d3, μ, r1, r2, r3, S, h⟩ := h
  unfold setD at h
  split at h
  · split at h
    · rename_i e
      split at h
      · rename_i j ej
        cases r1; cases r2
        obtain ⟨vs, h1, a1⟩ := S.lst e
        refine set_list pins s σ H _ _ v ov iv u Q I ro ri rv ⟨_, _, _, j, rfl, rfl, h1, by rw [a1.length]; exact ej, ?_⟩
        exact h _ (S.wrL e (Reps.set r3 j a1)) (Ext.wr e)
      · exact h.elim
    · exact h.elim
  · exact h.elim
end
end LD
namespace LD
open PySem PySem.Spec PyProof.Rows L2
/-! ### what is walked -/
def ItIs (K : PySem.W.Frag) (J : It) (H0 : Hp) (μ0 : Mu) (ds : List D) (live : Mu → Prop) : Prop :=
  ∀ (i : Nat) (H : Hp) (μ : Mu), SRep K H μ → Ext H0 μ0 H μ → live μ →
    (∀ d, ds[i]? = some d → J.go i H ∧ ∀ x H', J.yld i H x H' → Rep K H' x d ∧ SRep K H' μ ∧ Ext H μ H' μ) ∧ (ds.length ≤ i → J.stop i H)
theorem live_seq {d : D} {xs : List D} {μ0 μ : Mu} (h : seqOf d μ0 = some xs) (l : liveOf d xs μ) : seqOf d μ = some xs := by
  cases d with
  | ref a =>
    have l' : μ a = some (.lst xs) := l
    show (match μ a with | some (.lst xs) => some xs | _ => none) = some xs
    rw [l']
  | _ => exact h
section
variable {K : PySem.W.Frag} {H0 H : Hp} {μ0 μ : Mu}
/-- a sequence as it still stands -/
theorem seq_at {v : V} {d : D} {xs : List D} (r : Rep K H0 v d) (s0 : SRep K H0 μ0) (h : seqOf d μ0 = some xs) (s : SRep K H μ) (x : Ext H0 μ0 H μ) (l : liveOf d xs μ) :
    ∃ a vs, v = .ref a ∧ Reps K H vs xs ∧ ((SqL K H a vs ∧ isTup d = false) ∨ (SqT K H a vs ∧ isTup d = true)) := by
  obtain ⟨a, vs, e, rs, q⟩ := seq_ok (r.ext s0 x) s (live_seq h l)
  refine ⟨a, vs, e, rs, ?_⟩
  rcases q with q | ⟨q, e2⟩
  · exact .inl q
  · subst e2
    exact .inr ⟨q, rfl⟩
theorem it_list {a : Addr} {d : D} {xs : List D} (r : Rep K H0 (.ref a) d) (s0 : SRep K H0 μ0) (h : seqOf d μ0 = some xs) (ht : isTup d = false) : ItIs K (Itl K a) H0 μ0 xs (liveOf d xs) := by
  intro i H μ s x l
  obtain ⟨b, vs, e, rs, q⟩ := seq_at r s0 h s x l
  cases e
  rcases q with ⟨q, _⟩ | ⟨_, q⟩
  · refine ⟨fun d' hd => ?_, fun hl => ⟨vs, q, by rw [rs.length]; exact hl⟩⟩
    obtain ⟨v, h1, h2⟩ := rs.get hd
    refine ⟨⟨vs, v, q, h1⟩, fun y H' hy => ?_⟩
    obtain ⟨rfl, hy⟩ := hy
    have e := (hy vs q).symm.trans h1
    cases e
    exact ⟨h2, s, Ext.refl⟩
  · rw [ht] at q; cases q
theorem it_tup {a : Addr} {d : D} {xs : List D} (r : Rep K H0 (.ref a) d) (s0 : SRep K H0 μ0) (h : seqOf d μ0 = some xs) (ht : isTup d = true) : ItIs K (Itt K a) H0 μ0 xs (liveOf d xs) := by
  intro i H μ s x l
  obtain ⟨b, vs, e, rs, q⟩ := seq_at r s0 h s x l
  cases e
  rcases q with ⟨_, q⟩ | ⟨q, _⟩
  · rw [ht] at q; cases q
  · refine ⟨fun d' hd => ?_, fun hl => ⟨vs, q, by rw [rs.length]; exact hl⟩⟩
    obtain ⟨v, h1, h2⟩ := rs.get hd
    refine ⟨⟨vs, v, q, h1⟩, fun y H' hy => ?_⟩
    obtain ⟨rfl, hy⟩ := hy
    have e := (hy vs q).symm.trans h1
    cases e
    exact ⟨h2, s, Ext.refl⟩
theorem it_rng (lo : Int) (n : Nat) : ItIs K (Itr lo n) H0 μ0 (rngL lo n) (fun _ => True) := by
  intro i H μ s x l
  have hl : (rngL lo n).length = n := by unfold rngL; rw [List.length_map, List.length_range]
  refine ⟨fun d hd => ?_, fun hi => by rw [hl] at hi; exact hi⟩
  have hi : i < n := by
    have := (List.getElem?_eq_some_iff.mp hd).1
    rw [hl] at this
    exact this
  unfold rngL at hd
  rw [List.getElem?_map, List.getElem?_range hi] at hd
  cases hd
  refine ⟨hi, fun y H' hy => ?_⟩
  obtain ⟨rfl, rfl⟩ := hy
  exact ⟨.int _, s, Ext.refl⟩
theorem zipL_length : ∀ xs ys : List D, (zipL xs ys).length = min xs.length ys.length
  | [], _ => by simp [zipL]
  | _ :: _, [] => by simp [zipL]
  | x :: xs, y :: ys => by simp [zipL, zipL_length xs ys]
theorem zipL_get : ∀ {xs ys : List D} {i : Nat} {d : D}, (zipL xs ys)[i]? = some d → ∃ x y, xs[i]? = some x ∧ ys[i]? = some y ∧ d = .tup [x, y]
  | [], _, _, _, h => by simp [zipL] at h
  | _ :: _, [], _, _, h => by simp [zipL] at h
  | x :: xs, y :: ys, 0, d, h => by
    unfold zipL at h
    cases h
    exact ⟨x, y, rfl, rfl, rfl⟩
  | x :: xs, y :: ys, i + 1, d, h => by
    unfold zipL at h
    obtain ⟨u, v, h1, h2, h3⟩ := zipL_get (i := i) (by simpa using h)
    exact ⟨u, v, by simpa using h1, by simpa using h2, h3⟩
theorem pair_new {x y : V} {dx dy : D} {T : Addr} (s : SRep K H μ) (n : H T = none) (rx : Rep K H x dx) (ry : Rep K H y dy) :
    Rep K (upd H T (.tup [x, y])) (.ref T) (.tup [dx, dy]) ∧ SRep K (upd H T (.tup [x, y])) μ ∧ Ext H μ (upd H T (.tup [x, y])) μ := by
  have e : Ext H μ (upd H T (.tup [x, y])) μ := Ext.new n (s.none_of n)
  exact ⟨.tup (SqT.of upd_same) (.cons (rx.ext s e) (.cons (ry.ext s e) .nil)), s.new n, e⟩
theorem it_zipL {a b : Addr} {d e : D} {xs ys : List D} (r1 : Rep K H0 (.ref a) d) (r2 : Rep K H0 (.ref b) e) (s0 : SRep K H0 μ0) (h1 : seqOf d μ0 = some xs) (h2 : seqOf e μ0 = some ys) (t1 : isTup d = false) (t2 : isTup e = false) :
    ItIs K (Itz K a b) H0 μ0 (zipL xs ys) (fun μ => liveOf d xs μ ∧ liveOf e ys μ) := by
  intro i H μ s x l
  obtain ⟨a', vs, e1, rs, q⟩ := seq_at r1 s0 h1 s x l.1
  obtain ⟨b', ws, e2, ss, q'⟩ := seq_at r2 s0 h2 s x l.2
  cases e1; cases e2
  rw [t1] at q
  rw [t2] at q'
  rcases q with ⟨q, _⟩ | ⟨_, q⟩
  · rcases q' with ⟨q', _⟩ | ⟨_, q'⟩
    · refine ⟨fun d' hd => ?_, fun hl => ⟨vs, ws, q, q', by rw [rs.length, ss.length]; rw [zipL_length] at hl; omega⟩⟩
      obtain ⟨u, w, g1, g2, rfl⟩ := zipL_get hd
      obtain ⟨v1, k1, m1⟩ := rs.get g1
      obtain ⟨v2, k2, m2⟩ := ss.get g2
      refine ⟨⟨vs, ws, v1, v2, q, q', k1, k2⟩, fun y H' hy => ?_⟩
      obtain ⟨T, y1, y2, rfl, n, rfl, f1, f2⟩ := hy
      have e1 := (f1 vs q).symm.trans k1
      have e2 := (f2 ws q').symm.trans k2
      cases e1; cases e2
      exact pair_new s n m1 m2
    · cases q'
  · cases q
theorem it_zipT {a b : Addr} {d e : D} {xs ys : List D} (r1 : Rep K H0 (.ref a) d) (r2 : Rep K H0 (.ref b) e) (s0 : SRep K H0 μ0) (h1 : seqOf d μ0 = some xs) (h2 : seqOf e μ0 = some ys) (t1 : isTup d = true) (t2 : isTup e = true) :
    ItIs K (RZ.ItzT K a b) H0 μ0 (zipL xs ys) (fun μ => liveOf d xs μ ∧ liveOf e ys μ) := by
  intro i H μ s x l
  obtain ⟨a', vs, e1, rs, q⟩ := seq_at r1 s0 h1 s x l.1
  obtain ⟨b', ws, e2, ss, q'⟩ := seq_at r2 s0 h2 s x l.2
  cases e1; cases e2
  rw [t1] at q
  rw [t2] at q'
  rcases q with ⟨_, q⟩ | ⟨q, _⟩
  · cases q
  · rcases q' with ⟨_, q'⟩ | ⟨q', _⟩
    · cases q'
    · refine ⟨fun d' hd => ?_, fun hl => ⟨vs, ws, q, q', by rw [rs.length, ss.length]; rw [zipL_length] at hl; omega⟩⟩
      obtain ⟨u, w, g1, g2, rfl⟩ := zipL_get hd
      obtain ⟨v1, k1, m1⟩ := rs.get g1
      obtain ⟨v2, k2, m2⟩ := ss.get g2
      refine ⟨⟨vs, ws, v1, v2, q, q', k1, k2⟩, fun y H' hy => ?_⟩
      obtain ⟨T, y1, y2, rfl, n, rfl, f1, f2⟩ := hy
      have e1 := (f1 vs q).symm.trans k1
      have e2 := (f2 ws q').symm.trans k2
      cases e1; cases e2
      exact pair_new s n m1 m2
theorem enuL_length : ∀ (i : Nat) (xs : List D), (enuL i xs).length = xs.length
  | _, [] => rfl
  | i, x :: xs => by simp [enuL, enuL_length (i + 1) xs]
theorem enuL_get : ∀ {j : Nat} {xs : List D} {i : Nat} {d : D}, (enuL j xs)[i]? = some d → ∃ x, xs[i]? = some x ∧ d = .tup [.int ((j + i : Nat) : Int), x]
  | _, [], _, _, h => by simp [enuL] at h
  | j, x :: xs, 0, d, h => by
    unfold enuL at h
    cases h
    exact ⟨x, rfl, rfl⟩
  | j, x :: xs, i + 1, d, h => by
    unfold enuL at h
    obtain ⟨u, h1, h2⟩ := enuL_get (j := j + 1) (i := i) (xs := xs) (d := d) (by simpa using h)
    refine ⟨u, by simpa using h1, ?_⟩
    rw [h2, show j + 1 + i = j + (i + 1) by omega]
end
end LD
namespace LD
open PySem PySem.Spec PyProof.Rows L2

/-! ### the text turned into E -/
structure GC where
  fns : List (Str × Nat × List Str × List (Nat × List Str))
  cons : List (Str × D)
  free : List Str
  gcd : Bool
  excs : List Str
/-- where one stands: the slots, the scope, the written names of a comprehension's block -/
structure LC where
  N : List Str
  sc : Scope
  own : Option (List (Str × NameKind))
  calm : Bool
def ixOf : List Str → Str → Option Nat
  | [], _ => none
  | y :: ys, x => if y = x then some 0 else (ixOf ys x).map (· + 1)
theorem ixOf_ok : ∀ {N : List Str} {x : Str} {i : Nat}, ixOf N x = some i → N[i]? = some x
  | y :: ys, x, i, h => by
    unfold ixOf at h
    split at h
    · rename_i e; cases h; rw [e]; rfl
    · cases e : ixOf ys x with
      | none => rw [e] at h; cases h
      | some j =>
        rw [e] at h
        cases h
        have := ixOf_ok e
        simpa using this
def okName (x : Str) : Bool := !(x == ("__debug__" : Str)) && !(x == ("__classdict__" : Str)) && !(decide (x = ("__name__" : Str)))
def cVar (L : LC) (x : Str) : Option Nat := match L.sc.names.lookup x with
  | some .local => ixOf L.N x
  | some .cell => ixOf L.N x
  | some .free => ixOf L.N x
  | _ => none
def isGl (L : LC) (x : Str) : Bool := decide (L.sc.names.lookup x = some .globalImplicit)
def cName (G : GC) (L : LC) (x : Str) : Option E := if okName x then
    (match cVar L x with
    | some i => some (.v i)
    | none => if isGl L x then (G.cons.lookup x).map .c else none)
  else none
def biOf (x : Str) : Option Bi :=
  if x = "len" then some .len else if x = "abs" then some .abs else if x = "int" then some .int else if x = "sum" then some .sum else if x = "all" then some .all else if x = "any" then some .any
  else if x = "min" then some .min else if x = "max" then some .max else if x = "tuple" then some .tuple else if x = "list" then some .list else none
def tyOf (x : Str) : Option String :=
  if x = "int" then some "int" else if x = "bool" then some "bool" else if x = "str" then some "str" else if x = "list" then some "list" else if x = "tuple" then some "tuple" else if x = "dict" then some "dict" else none
/-- what storing in a block wants -/
def stOk (L : LC) (x : Str) : Bool := match L.own with
  | none => true
  | some ns => decide (L.sc.names.lookup x = some .local) || decide (ns.lookup x = some .cell)
def cStore (L : LC) (x : Str) : Option Nat := if okName x && stOk L x then
    (match L.sc.names.lookup x with
    | some .local => ixOf L.N x
    | some .cell => ixOf L.N x
    | _ => none)
  else none
mutual
def cTg (L : LC) : Nat → Expr → Option Tg
  | 0, _ => none
  | n + 1, e => match e with
    | .Name x _ => (cStore L x).map .nm
    | .Tuple es _ _ => if L.calm then (cTgs L n es).map .tp else none
    | _ => none
def cTgs (L : LC) : Nat → List Expr → Option Tgs
  | 0, _ => none
  | _ + 1, [] => some .nil
  | n + 1, e :: es => match cTg L n e, cTgs L n es with
    | some t, some ts => some (.cons t ts)
    | _, _ => none
end
mutual
def slots : Tg → List Nat
  | .nm i => [i]
  | .tp ts => slotsL ts
def slotsL : Tgs → List Nat
  | .nil => []
  | .cons t ts => slots t ++ slotsL ts
end
def idxIn : List Str → Str → Option Nat := ixOf
def permOf (ps : List Str) (np : Nat) (ks : List Str) : Option (List Nat) := (List.range ps.length).mapM fun j => if j < np then some j else match ps[j]? with
  | some x => (ixOf ks x).map (· + np)
  | none => none
def ownOf (N : List Str) (scope : Scope) : List (Str × Nat) := scope.names.filterMap fun p => match p.2 with
  | .local => (ixOf N p.1).map fun i => (p.1, i)
  | .cell => (ixOf N p.1).map fun i => (p.1, i)
  | _ => none
def kwNames : List Keyword → Option (List Str)
  | [] => some []
  | ⟨some x, _, _⟩ :: r => (kwNames r).map (x :: ·)
  | ⟨none, _, _⟩ :: _ => none
def plainE : Expr → Bool
  | .Name .. => true
  | .Attribute .. => true
  | .Subscript .. => true
  | _ => false
mutual
def cE (G : GC) (L : LC) : Nat → Expr → Option E
  | 0, _ => none
  | n + 1, e => match e with
    | .Constant (.int i) _ _ => some (.c (.int i))
    | .Constant (.bool b) _ _ => some (.c (.bl b))
    | .Constant .none _ _ => some (.c .non)
    | .Constant (.str x) _ _ => some (.c (.str x))
    | .Name x _ => cName G L x
    | .BinOp a op b _ => (match cE G L n a, cE G L n b with
      | some a', some b' => some (.bin op a' b')
      | _, _ => none)
    | .UnaryOp .USub a _ => (cE G L n a).map .neg
    | .UnaryOp .Not a _ => (cE G L n a).map .not
    | .BoolOp op (a :: r) pos => (match r with
      | [] => cE G L n a
      | b :: r => (match cE G L n a, cE G L n (.BoolOp op (b :: r) pos) with
        | some a', some b' => some (match op with
          | .And => .and a' b'
          | .Or => .or a' b')
        | _, _ => none))
    | .IfExp t a b _ => (match cE G L n t, cE G L n a, cE G L n b with
      | some t', some a', some b' => some (.ite t' a' b')
      | _, _, _ => none)
    | .Compare a [op] [b] _ => (match cE G L n a, cE G L n b with
      | some a', some b' => some (.cmp op a' b')
      | _, _ => none)
    | .Compare a [op, op'] [b, d] _ => (match cE G L n a, cE G L n b, cE G L n d with
      | some a', some b', some d' => some (.chn op op' a' b' d')
      | _, _, _ => none)
    | .Tuple es _ _ => (cEs G L n es).map .tup
    | .List es _ => (cEs G L n es).map .lst
    | .Subscript a (.Slice none none (some (.UnaryOp .USub (.Constant (.int 1) _ _) _)) _) _ => (cE G L n a).map .rev
    | .Subscript a (.Slice lo hi none _) _ => (match cE G L n a, cO G L n lo, cO G L n hi with
      | some a', some l', some h' => some (.sl a' l' h')
      | _, _, _ => none)
    | .Subscript a b _ => (match cE G L n a, cE G L n b with
      | some a', some b' => some (.ix a' b')
      | _, _ => none)
    | .Call (.Name x _) args kws _ => if okName x && isGl L x then
        (match G.fns.lookup x with
        | some (f, ps, pats) => (match kwNames kws with
          | some kn => if L.calm && pats.contains (args.length, kn) then
              (match permOf ps args.length kn, cEs G L n args, cKs G L n kws with
              | some perm, some as, some ks => some (.call f as ks perm)
              | _, _, _ => none)
            else none
          | none => none)
        | none => if kws.isEmpty && L.calm then
            (if x = "isinstance" then (if G.free.contains x then (match args with
              | [a, .Name t _] => if G.free.contains t && isGl L t && okName t then (match cE G L n a, tyOf t with
                | some a', some ty => some (.isi a' [ty])
                | _, _ => none) else none
              | [a, .Tuple [.Name t _, .Name t2 _] _ _] => if G.free.contains t && isGl L t && okName t && G.free.contains t2 && isGl L t2 && okName t2 then (match cE G L n a, tyOf t, tyOf t2 with
                | some a', some ty, some ty2 => some (.isi a' [ty, ty2])
                | _, _, _ => none) else none
              | _ => none) else none)
            else if x = "gcd" then (if G.gcd && !args.isEmpty then (cEs G L n args).map (.bi .gcd) else none)
            else if G.free.contains x && !args.isEmpty then (match biOf x, cEs G L n args with
              | some b, some as => some (.bi b as)
              | _, _ => none) else none)
          else none)
      else none
    | .Call (.Attribute o m apos) [a] [] cpos => if plainE o && apos.endLine == cpos.line then
        (match cE G L n o, cE G L n a with
        | some o', some a' => if m = "append" then some (.app o' a') else if m = "extend" then some (.ext o' a') else none
        | _, _ => none)
      else none
    | .Call (.Attribute o m apos) [] [] cpos => if plainE o && apos.endLine == cpos.line then
        (match cE G L n o with
        | some o' => if m = "pop" then some (.pop o') else none
        | none => none)
      else none
    | .ListComp elt [⟨tg, it, ifs, 0⟩] scope _ => if L.calm && blkC L.N L.sc scope (ownOf L.N scope) then
        (match cI G L n tg it, cTg ⟨L.N, relS scope L.sc, some scope.names, L.calm⟩ n tg, (match ifs with
          | [] => some Es.nil
          | [i] => (match cE G ⟨L.N, relS scope L.sc, some scope.names, L.calm⟩ n i with
            | some i' => some (Es.cons i' .nil)
            | none => none)
          | _ => none), cE G ⟨L.N, relS scope L.sc, some scope.names, L.calm⟩ n elt with
        | some it', some tg', some ifs', some elt' => if (slots tg').all (fun i => ((ownOf L.N scope).map (·.2)).contains i) then some (.comp tg' it' ifs' elt' ((ownOf L.N scope).map (·.2))) else none
        | _, _, _, _ => none)
      else none
    | _ => none
def cEs (G : GC) (L : LC) : Nat → List Expr → Option Es
  | 0, _ => none
  | _ + 1, [] => some .nil
  | n + 1, e :: es => match cE G L n e, cEs G L n es with
    | some t, some ts => some (.cons t ts)
    | _, _ => none
def cKs (G : GC) (L : LC) : Nat → List Keyword → Option Es
  | 0, _ => none
  | _ + 1, [] => some .nil
  | n + 1, ⟨_, e, _⟩ :: es => match cE G L n e, cKs G L n es with
    | some t, some ts => some (.cons t ts)
    | _, _ => none
def cO (G : GC) (L : LC) : Nat → Option Expr → Option O
  | 0, _ => none
  | _ + 1, none => some .no
  | n + 1, some e => (cE G L n e).map .so
def cI (G : GC) (L : LC) : Nat → Expr → Expr → Option I
  | 0, _, _ => none
  | n + 1, tg, e => match e with
    | .Call (.Name x p) args kws pos => if okName x && isGl L x && G.free.contains x && kws.isEmpty && (x = "range" || x = "zip" || x = "enumerate") then
        (match args with
        | [a] => if x = "range" then (cE G L n a).map .rng1 else (match tg with
          | .Tuple .. => if x = "enumerate" then (cE G L n a).map .enu else none
          | _ => none)
        | [a, b] => (match cE G L n a, cE G L n b with
          | some a', some b' => if x = "range" then some (.rng2 a' b') else (match tg with
            | .Tuple .. => if x = "zip" then some (.zip a' b') else none
            | _ => none)
          | _, _ => none)
        | _ => none)
      else (cE G L n e).map .val
    | _ => (cE G L n e).map .val
end
end LD
namespace LD
open PySem PySem.Spec PyProof.Rows L2

theorem _root_.L2.PE.weak {X : Cx} {e : Expr} {t t' : TE} (h : PE X e t) (i : ∀ σ H Q, t' σ H Q → t σ H Q) : PE X e t' := ⟨fun pins s σ H Q I q => h.run pins s σ H Q I (i _ _ _ q)⟩
theorem _root_.L2.PT.weak {X : Cx} {e : Expr} {t t' : TT} (h : PT X e t) (i : ∀ σ H Q, t' σ H Q → t σ H Q) : PT X e t' := ⟨fun pins s σ H Q I q => h.run pins s σ H Q I (i _ _ _ q)⟩
theorem _root_.L2.PW.weak {X : Cx} {e : Expr} {t t' : TT} (h : PW X e t) (i : ∀ σ H Q, t' σ H Q → t σ H Q) : PW X e t' := ⟨fun wh pins s σ H Q I q => h.run wh pins s σ H Q I (i _ _ _ q)⟩
theorem _root_.L2.PA.weak {X : Cx} {e : List Expr} {t t' : TA} (h : PA X e t) (i : ∀ σ H Q, t' σ H Q → t σ H Q) : PA X e t' := ⟨fun p pins s σ H Q I q => h.run p pins s σ H Q I (i _ _ _ q)⟩
theorem _root_.L2.PO.weak {X : Cx} {e : Option Expr} {t t' : TO} (h : PO X e t) (i : ∀ σ H Q, t' σ H Q → t σ H Q) : PO X e t' := ⟨fun pins s σ H Q I q => h.run pins s σ H Q I (i _ _ _ q)⟩
theorem _root_.L2.PI.weak {X : Cx} {g e : Expr} {t t' : TI} (h : PI X g e t) (i : ∀ σ H Q, t' σ H Q → t σ H Q) : PI X g e t' := ⟨fun pins s σ H Q I q => h.run pins s σ H Q I (i _ _ _ q)⟩
theorem _root_.L2.PG.weak {X : Cx} {e : Expr} {t t' : TG} (h : PG X e t) (i : ∀ v σ H Q, t' v σ H Q → t v σ H Q) : PG X e t' := ⟨fun pins s σ H v u Q I r q => h.run pins s σ H v u Q I r (i _ _ _ _ q)⟩
theorem _root_.L2.PS.weak {X : Cx} {e : Stmt} {t t' : TS} (h : PS X e t) (i : ∀ D σ H, t' D σ H → t D σ H) : PS X e t' := ⟨fun pins s σ H D I q => h.run pins s σ H D I (i _ _ _ q)⟩
theorem _root_.L2.PSs.weak {X : Cx} {e : List Stmt} {t t' : TS} (h : PSs X e t) (i : ∀ D σ H, t' D σ H → t D σ H) : PSs X e t' := ⟨fun pins s σ H D I q => h.run pins s σ H D I (i _ _ _ q)⟩

/-! ### the readings -/
section
variable (K : PySem.W.Frag) (cls : Str → Addr) (W : WX) (Φ : Nat → Spec)
def xw (σ : L2.St) (H : Hp) (μ : Mu) : Str → Mu → Prop := fun x μ' => ∀ H', SRep K H' μ' → Ext H μ H' μ' → W (.ref (cls x)) none σ H'
def TEd (e : E) : TE := fun σ H P => ∃ ρ μ, ERep K H σ ρ ∧ SRep K H μ ∧ wpE Φ (xw K cls W σ H μ) e ρ μ (fin K H μ P)
def finT (H : Hp) (μ : Mu) (Q : Bool → Hp → Prop) : QD := fun d μ' => match tru d μ' with
  | some k => ∀ H', SRep K H' μ' → Ext H μ H' μ' → Q k H'
  | none => False
def TTd (e : E) : TT := fun σ H Q => ∃ ρ μ, ERep K H σ ρ ∧ SRep K H μ ∧ wpE Φ (xw K cls W σ H μ) e ρ μ (finT K H μ Q)
def finA (H : Hp) (μ : Mu) (Q : List V → Hp → Prop) : List D → Mu → Prop := fun ds μ' => ∀ vs H', Reps K H' vs ds → SRep K H' μ' → Ext H μ H' μ' → Q vs H'
def TAd (es : Es) : TA := fun σ H Q => ∃ ρ μ, ERep K H σ ρ ∧ SRep K H μ ∧ wpEs Φ (xw K cls W σ H μ) es ρ μ (finA K H μ Q)
def TOd (o : O) : TO := fun σ H Q => ∃ ρ μ, ERep K H σ ρ ∧ SRep K H μ ∧ wpO Φ (xw K cls W σ H μ) o ρ μ fun i μ' => ∀ H', SRep K H' μ' → Ext H μ H' μ' → Q i H'
def TId (i : I) : TI := fun σ H R => ∃ ρ μ, ERep K H σ ρ ∧ SRep K H μ ∧ wpI Φ (xw K cls W σ H μ) i ρ μ fun ds live μ' => ∀ J H', SRep K H' μ' → Ext H μ H' μ' → ItIs K J H' μ' ds live → R J H'
def spD (n : Nat) (s : Spec) : Sp := fun vs H Q Ex => ∃ ds μ, ds.length = n ∧ Reps K H vs ds ∧ SRep K H μ ∧ s.run ds μ (fun x μ' => ∀ H', SRep K H' μ' → Ext H μ H' μ' → Ex (.ref (cls x)) none H') (fin K H μ Q)
end
section
variable {K : PySem.W.Frag} {cls : Str → Addr} {W : WX} {Φ : Nat → Spec} {σ : L2.St} {H H1 : Hp} {μ μ1 : Mu}
theorem xw_trans (x : Ext H μ H1 μ1) (n : Str) (μ' : Mu) (h : xw K cls W σ H μ n μ') : xw K cls W σ H1 μ1 n μ' := fun H' s e => h H' s (x.trans e)
/-- a part's reading behind another part -/
theorem TEd.next {e : E} {ρ : Rho} {P : VK} (er : ERep K H σ ρ) (s : SRep K H μ) (s1 : SRep K H1 μ1) (x : Ext H μ H1 μ1) {Q : QD} (h : wpE Φ (xw K cls W σ H μ) e ρ μ1 Q) (q : ∀ d μ', Q d μ' → fin K H1 μ1 P d μ') : TEd K cls W Φ e σ H1 P :=
  ⟨ρ, μ1, er.ext s x, s1, wpE_mono (xw_trans x) e _ _ _ _ q h⟩
theorem TEd.first {e : E} {ρ : Rho} {P : VK} (er : ERep K H σ ρ) (s : SRep K H μ) {Q : QD} (h : wpE Φ (xw K cls W σ H μ) e ρ μ Q) (q : ∀ d μ', Q d μ' → fin K H μ P d μ') : TEd K cls W Φ e σ H P :=
  ⟨ρ, μ, er, s, wpE_mono (fun _ _ z => z) e _ _ _ _ q h⟩
theorem TTd.next {e : E} {ρ : Rho} {P : Bool → Hp → Prop} (er : ERep K H σ ρ) (s : SRep K H μ) (s1 : SRep K H1 μ1) (x : Ext H μ H1 μ1) {Q : QD} (h : wpE Φ (xw K cls W σ H μ) e ρ μ1 Q) (q : ∀ d μ', Q d μ' → finT K H1 μ1 P d μ') : TTd K cls W Φ e σ H1 P :=
  ⟨ρ, μ1, er.ext s x, s1, wpE_mono (xw_trans x) e _ _ _ _ q h⟩
theorem finT.trans {d : D} {μ' : Mu} {Q : Bool → Hp → Prop} (x : Ext H μ H1 μ1) (h : finT K H μ Q d μ') : finT K H1 μ1 Q d μ' := by
  unfold finT at h ⊢
  split at h
  · exact fun H' s e => h H' s (x.trans e)
  · exact h
end

/-! ### one lemma a construct -/
section
variable {X : Cx} {cls : Str → Addr} {W : WX} {Φ : Nat → Spec} {a b c : Expr} {ea eb ec : E} {pos : Pos}
theorem d_v {x : Str} {i : Nat} (hN : X.N[i]? = some x) (hv : Vis X.env.scope x) (hd : (x == ("__debug__" : Str)) = false) (hcd : (x == ("__classdict__" : Str)) = false) : PE X (.Name x pos) (TEd X.K cls W Φ (.v i)) :=
  (pe_var hN hv hd hcd).weak fun σ H P ⟨ρ, μ, er, s, h⟩ => by
    simp only [wpE] at h
    split at h
    · rename_i d e
      obtain ⟨v, h1, h2⟩ := er.get i d e
      exact ⟨v, h1, h.here h2 s⟩
    · exact h.elim
theorem d_c {e : Expr} {v : V} {d : D} (h : PE X e (tC v)) (r : ∀ H, Rep X.K H v d) : PE X e (TEd X.K cls W Φ (.c d)) :=
  h.weak fun σ H P ⟨ρ, μ, er, s, h⟩ => by
    simp only [wpE] at h
    exact h.here (r H) s
/-- two parts, then an operation of the values -/
theorem d_two {f : D → D → Mu → QD → Prop} {σ : L2.St} {H : Hp} {P : VK} {ρ : Rho} {μ : Mu} (hf : ∀ x y μ Q Q', (∀ d μ', Q d μ' → Q' d μ') → f x y μ Q → f x y μ Q') (er : ERep X.K H σ ρ) (s : SRep X.K H μ)
    (h : wpE Φ (xw X.K cls W σ H μ) ea ρ μ fun x μ1 => wpE Φ (xw X.K cls W σ H μ) eb ρ μ1 fun y μ2 => f x y μ2 (fin X.K H μ P)) :
    tOp (r2 X.K f) (TEd X.K cls W Φ ea) (TEd X.K cls W Φ eb) σ H P :=
  TEd.first er s h fun dx μ1 h1 v H1 rv s1 x1 => TEd.next er s s1 x1 h1 fun dy μ2 h2 v2 H2 rv2 s2 x2 => ⟨dx, dy, μ2, rv.ext s1 x2, rv2, s2, hf _ _ _ _ _ (fun d μ' q => q.trans (x1.trans x2)) h2⟩
theorem d_bin {op : Operator} (ha : PE X a (TEd X.K cls W Φ ea)) (hb : PE X b (TEd X.K cls W Φ eb)) : PE X (.BinOp a op b pos) (TEd X.K cls W Φ (.bin op ea eb)) :=
  (pe_op (bin_ok op) ha hb).weak fun σ H P ⟨ρ, μ, er, s, h⟩ => by
    simp only [wpE] at h
    exact d_two (fun _ _ _ _ _ q h => binD_mono q h) er s h
theorem d_ix (ha : PE X a (TEd X.K cls W Φ ea)) (hb : PE X b (TEd X.K cls W Φ eb)) (hs : PlainIx b) : PE X (.Subscript a b pos) (TEd X.K cls W Φ (.ix ea eb)) :=
  (pe_ix ix_ok ha hb hs).weak fun σ H P ⟨ρ, μ, er, s, h⟩ => by
    simp only [wpE] at h
    exact d_two (fun _ _ _ _ _ q h => ixD_mono q h) er s h
theorem rc_mono {op : CmpOp} (x y : D) (μ : Mu) (Q Q' : QD) (q : ∀ d μ', Q d μ' → Q' d μ') (h : rc op x y μ Q) : rc op x y μ Q' := cmpD_mono (fun _ => q _ _) h
theorem d_cmp {op : CmpOp} (hu : X.A.units + 65 < cLine) (ha : PE X a (TEd X.K cls W Φ ea)) (hb : PE X b (TEd X.K cls W Φ eb)) (hm : behindInMarks op b = false) : PE X (.Compare a [op] [b] pos) (TEd X.K cls W Φ (.cmp op ea eb)) :=
  (pe_cmpR (cmp_ok op hu) ha hb hm).weak fun σ H P ⟨ρ, μ, er, s, h⟩ => by
    simp only [wpE] at h
    exact d_two rc_mono er s h
theorem d_chain' {op op' : CmpOp} {σ : L2.St} {H : Hp} {P : VK} {ρ : Rho} {μ : Mu} (er : ERep X.K H σ ρ) (s : SRep X.K H μ)
    (h : wpE Φ (xw X.K cls W σ H μ) (.chn op op' ea eb ec) ρ μ (fin X.K H μ P)) : tChain (r2 X.K (rc op)) (r2 X.K (rc op')) (TEd X.K cls W Φ ea) (TEd X.K cls W Φ eb) (TEd X.K cls W Φ ec) σ H P := by
  simp only [wpE] at h
  refine TEd.first er s h fun dx μ1 h1 v H1 rv s1 x1 => TEd.next er s s1 x1 h1 fun dy μ2 h2 v2 H2 rv2 s2 x2 => ⟨dx, dy, μ2, rv.ext s1 x2, rv2, s2, cmpD_mono (fun k h3 => ?_) h2⟩
  intro v' H3 r3 s3 x3
  cases r3
  refine ⟨k, rfl, ?_⟩
  have x03 := x1.trans (x2.trans x3)
  split
  · rename_i hk
    rw [if_pos hk] at h3
    exact TEd.next er s s3 x03 h3 fun dz μ4 h4 v4 H4 rv4 s4 x4 => ⟨dy, dz, μ4, rv2.ext s2 (x3.trans x4), rv4, s4, cmpD_mono (fun k' h5 => h5.trans (x03.trans x4)) h4⟩
  · rename_i hk
    rw [if_neg hk] at h3
    exact h3 _ _ (.bl _) s3 x03
theorem d_chn {op op' : CmpOp} (hu : X.A.units + 65 < cLine) (ha : PE X a (TEd X.K cls W Φ ea)) (hb : PE X b (TEd X.K cls W Φ eb)) (hc : PE X c (TEd X.K cls W Φ ec)) (hm : lastMarks [op, op'] [b, c] = false) :
    PE X (.Compare a [op, op'] [b, c] pos) (TEd X.K cls W Φ (.chn op op' ea eb ec)) :=
  (pe_chain (cmp_ok op hu) (cmp_ok op' hu) ha hb hc hm).weak fun σ H P ⟨ρ, μ, er, s, h⟩ => d_chain' er s h
/-- a value that is a truth value, as a test -/
theorem d_tru (ha : PE X a (TEd X.K cls W Φ ea)) (he : ∀ whole, isTrue a X.env whole = (do let v ← whole; standAt a.pos; holding [v] (truthy v))) : PT X a (TTd X.K cls W Φ ea) :=
  (pt_truth ha he).weak fun σ H P ⟨ρ, μ, er, s, h⟩ => TEd.first er s h fun d μ1 h1 v H1 rv s1 x1 => by
    unfold finT at h1
    split at h1
    · rename_i k e
      exact ⟨k, tru_ok' rv s1 e, h1 H1 s1 x1⟩
    · exact h1.elim
theorem finT_bl {K : PySem.W.Frag} {H H1 : Hp} {μ μ1 : Mu} {Q : Bool → Hp → Prop} {k : Bool} (h : finT K H μ Q (.bl k) μ1) (s : SRep K H1 μ1) (x : Ext H μ H1 μ1) : Q k H1 := h H1 s x
theorem cmp_tru {op : CmpOp} {x y : D} {μ μ' : Mu} {K : PySem.W.Frag} {H H1 : Hp} {P : Bool → Hp → Prop} (x1 : Ext H μ' H1 μ) (h : cmpD op x y μ fun k => finT K H μ' P (.bl k) μ) : cmpD op x y μ fun k => fin K H1 μ (fun v H' => ∃ b, v = .bl b ∧ P b H') (.bl k) μ :=
  cmpD_mono (fun k q v' H3 r3 s3 x3 => by cases r3; exact ⟨k, rfl, q H3 s3 (x1.trans x3)⟩) h
theorem t_cmp {op : CmpOp} (hu : X.A.units + 65 < cLine) (ha : PE X a (TEd X.K cls W Φ ea)) (hb : PE X b (TEd X.K cls W Φ eb)) (hm : behindInMarks op b = false) : PT X (.Compare a [op] [b] pos) (TTd X.K cls W Φ (.cmp op ea eb)) :=
  (pt_cmpR (cmp_ok op hu) ha hb hm).weak fun σ H P ⟨ρ, μ, er, s, h⟩ => by
    simp only [wpE] at h
    exact TEd.first er s h fun dx μ1 h1 v H1 rv s1 x1 => TEd.next er s s1 x1 h1 fun dy μ2 h2 v2 H2 rv2 s2 x2 => ⟨dx, dy, μ2, rv.ext s1 x2, rv2, s2, cmp_tru (x1.trans x2) h2⟩
theorem t_chn {op op' : CmpOp} (hu : X.A.units + 65 < cLine) (ha : PE X a (TEd X.K cls W Φ ea)) (hb : PE X b (TEd X.K cls W Φ eb)) (hc : PE X c (TEd X.K cls W Φ ec)) (hm : lastMarks [op, op'] [b, c] = false) :
    PT X (.Compare a [op, op'] [b, c] pos) (TTd X.K cls W Φ (.chn op op' ea eb ec)) :=
  (pt_chain (cmp_ok op hu) (cmp_ok op' hu) ha hb hc hm).weak fun σ H P ⟨ρ, μ, er, s, h⟩ => by
    refine d_chain' er s (P := fun v H' => ∃ b, v = .bl b ∧ P b H') ?_
    simp only [wpE] at h ⊢
    refine wpE_mono (fun _ _ z => z) ea _ _ _ _ (fun dx μ1 h => wpE_mono (fun _ _ z => z) eb _ _ _ _ (fun dy μ2 h => cmpD_mono (fun k h => ?_) h) h) h
    split
    · rename_i hk
      rw [if_pos hk] at h
      exact wpE_mono (fun _ _ z => z) ec _ _ _ _ (fun dz μ3 h => cmpD_mono (fun k' q v' H3 r3 s3 x3 => by cases r3; exact ⟨k', rfl, q H3 s3 x3⟩) h) h
    · rename_i hk
      rw [if_neg hk] at h
      intro v' H3 r3 s3 x3
      cases r3
      exact ⟨_, rfl, h H3 s3 x3⟩
theorem d_neg (ha : PE X a (TEd X.K cls W Φ ea)) : PE X (.UnaryOp .USub a pos) (TEd X.K cls W Φ (.neg ea)) :=
  (pe_un un_neg ha).weak fun σ H P ⟨ρ, μ, er, s, h⟩ => by
    simp only [wpE] at h
    refine TEd.first er s h fun d μ1 h1 v H1 rv s1 x1 => ?_
    split at h1
    · cases rv
      exact ⟨_, rfl, h1 _ _ (.int _) s1 x1⟩
    · exact h1.elim
theorem d_not (ha : PE X a (TEd X.K cls W Φ ea)) : PE X (.UnaryOp .Not a pos) (TEd X.K cls W Φ (.not ea)) :=
  (pe_notT ha).weak fun σ H P ⟨ρ, μ, er, s, h⟩ => by
    simp only [wpE] at h
    refine TEd.first er s h fun d μ1 h1 v H1 rv s1 x1 => ?_
    split at h1
    · rename_i k e
      exact ⟨k, tru_ok' rv s1 e, h1 _ _ (.bl _) s1 x1⟩
    · exact h1.elim
theorem t_not (ha : PT X a (TTd X.K cls W Φ ea)) : PT X (.UnaryOp .Not a pos) (TTd X.K cls W Φ (.not ea)) :=
  (pt_not ha).weak fun σ H P ⟨ρ, μ, er, s, h⟩ => by
    simp only [wpE] at h
    refine ⟨ρ, μ, er, s, wpE_mono (fun _ _ z => z) ea _ _ _ _ (fun d μ1 h1 => ?_) h⟩
    unfold finT
    split at h1
    · rename_i k e
      first
        | (rw [e]; exact h1)
        | exact h1
    · exact h1.elim
theorem d_and {r : List Expr} (ha : PE X a (TEd X.K cls W Φ ea)) (hb : PE X (.BoolOp .And (b :: r) pos) (TEd X.K cls W Φ eb)) : PE X (.BoolOp .And (a :: b :: r) pos) (TEd X.K cls W Φ (.and ea eb)) :=
  (pe_andT ha hb).weak fun σ H P ⟨ρ, μ, er, s, h⟩ => by
    simp only [wpE] at h
    refine TEd.first er s h fun d μ1 h1 v H1 rv s1 x1 => ?_
    split at h1
    · rename_i e
      exact ⟨true, tru_ok' rv s1 e, iteT (TEd.next er s s1 x1 h1 fun d μ' q => q.trans x1)⟩
    · rename_i e
      exact ⟨false, tru_ok' rv s1 e, iteF (h1 _ _ rv s1 x1)⟩
    · exact h1.elim
theorem d_or {r : List Expr} (ha : PE X a (TEd X.K cls W Φ ea)) (hb : PE X (.BoolOp .Or (b :: r) pos) (TEd X.K cls W Φ eb)) : PE X (.BoolOp .Or (a :: b :: r) pos) (TEd X.K cls W Φ (.or ea eb)) :=
  (pe_orT ha hb).weak fun σ H P ⟨ρ, μ, er, s, h⟩ => by
    simp only [wpE] at h
    refine TEd.first er s h fun d μ1 h1 v H1 rv s1 x1 => ?_
    split at h1
    · rename_i e
      exact ⟨true, tru_ok' rv s1 e, iteT (h1 _ _ rv s1 x1)⟩
    · rename_i e
      exact ⟨false, tru_ok' rv s1 e, iteF (TEd.next er s s1 x1 h1 fun d μ' q => q.trans x1)⟩
    · exact h1.elim
/-- a test's first part -/
theorem TTd.first {K : PySem.W.Frag} {σ : L2.St} {H : Hp} {μ : Mu} {e : E} {ρ : Rho} {P : Bool → Hp → Prop} (er : ERep K H σ ρ) (s : SRep K H μ) {Q : QD} (h : wpE Φ (xw K cls W σ H μ) e ρ μ Q) (q : ∀ d μ', Q d μ' → finT K H μ P d μ') : TTd K cls W Φ e σ H P :=
  ⟨ρ, μ, er, s, wpE_mono (fun _ _ z => z) e _ _ _ _ q h⟩
theorem w_and {r : List Expr} (ha : PT X a (TTd X.K cls W Φ ea)) (hb : PW X (.BoolOp .And (b :: r) pos) (TTd X.K cls W Φ eb)) : PW X (.BoolOp .And (a :: b :: r) pos) (TTd X.K cls W Φ (.and ea eb)) :=
  (pw_and ha hb).weak fun σ H P ⟨ρ, μ, er, s, h⟩ => by
    simp only [wpE] at h
    refine TTd.first er s h fun d μ1 h1 => ?_
    unfold finT
    split at h1
    · rename_i e
      rw [e]
      exact fun H1 s1 x1 => iteT (TTd.next er s s1 x1 h1 fun d μ' q => q.trans x1)
    · rename_i e
      rw [e]
      unfold finT at h1
      rw [e] at h1
      exact fun H1 s1 x1 => iteF (h1 H1 s1 x1)
    · exact h1.elim
theorem w_or {r : List Expr} (ha : PT X a (TTd X.K cls W Φ ea)) (hb : PW X (.BoolOp .Or (b :: r) pos) (TTd X.K cls W Φ eb)) : PW X (.BoolOp .Or (a :: b :: r) pos) (TTd X.K cls W Φ (.or ea eb)) :=
  (pw_or ha hb).weak fun σ H P ⟨ρ, μ, er, s, h⟩ => by
    simp only [wpE] at h
    refine TTd.first er s h fun d μ1 h1 => ?_
    unfold finT
    split at h1
    · rename_i e
      rw [e]
      unfold finT at h1
      rw [e] at h1
      exact fun H1 s1 x1 => iteT (h1 H1 s1 x1)
    · rename_i e
      rw [e]
      exact fun H1 s1 x1 => iteF (TTd.next er s s1 x1 h1 fun d μ' q => q.trans x1)
    · exact h1.elim
theorem d_ite (hc : PT X c (TTd X.K cls W Φ ec)) (ha : PE X a (TEd X.K cls W Φ ea)) (hb : PE X b (TEd X.K cls W Φ eb)) : PE X (.IfExp c a b pos) (TEd X.K cls W Φ (.ite ec ea eb)) :=
  (pe_ifExp hc ha hb).weak fun σ H P ⟨ρ, μ, er, s, h⟩ => by
    simp only [wpE] at h
    refine TTd.first er s h fun d μ1 h1 => ?_
    unfold finT
    split at h1
    · rename_i e
      rw [e]
      exact fun H1 s1 x1 => iteT (TEd.next er s s1 x1 h1 fun d μ' q => q.trans x1)
    · rename_i e
      rw [e]
      exact fun H1 s1 x1 => iteF (TEd.next er s s1 x1 h1 fun d μ' q => q.trans x1)
    · exact h1.elim
end
end LD
namespace LD
open PySem PySem.Spec PyProof.Rows L2

def isStar : Expr → Bool
  | .Starred .. => true
  | _ => false
theorem star_cons {e : Expr} {es : List Expr} {env : Env} (h : isStar e = false) : starEach (e :: es) env = (false, eval e env) :: starEach es env := by
  cases e <;> first
    | rfl
    | cases h
theorem star_plain {env : Env} {pos : Pos} : ∀ {es : List Expr}, (∀ e ∈ es, isStar e = false) → (backTo pos (starEach es env)).any (·.1) = false
  | [], _ => rfl
  | e :: es, h => by
    rw [star_cons (h e List.mem_cons_self)]
    have ih := star_plain (env := env) (pos := pos) (es := es) fun e he => h e (List.mem_cons_of_mem _ he)
    show (false || (backTo pos (starEach es env)).any (·.1)) = false
    rw [ih]
    rfl
section
variable {X : Cx} {cls : Str → Addr} {W : WX} {Φ : Nat → Spec} {a b c : Expr} {ea eb ec : E} {pos : Pos} {es : List Expr} {ees : Es}
theorem TAd.next {K : PySem.W.Frag} {σ : L2.St} {H H1 : Hp} {μ μ1 : Mu} {e : Es} {ρ : Rho} {P : List V → Hp → Prop} (er : ERep K H σ ρ) (s : SRep K H μ) (s1 : SRep K H1 μ1) (x : Ext H μ H1 μ1) {Q : List D → Mu → Prop} (h : wpEs Φ (xw K cls W σ H μ) e ρ μ1 Q) (q : ∀ d μ', Q d μ' → finA K H1 μ1 P d μ') : TAd K cls W Φ e σ H1 P :=
  ⟨ρ, μ1, er.ext s x, s1, wpEs_mono (xw_trans x) e _ _ _ _ q h⟩
theorem TAd.first {K : PySem.W.Frag} {σ : L2.St} {H : Hp} {μ : Mu} {e : Es} {ρ : Rho} {P : List V → Hp → Prop} (er : ERep K H σ ρ) (s : SRep K H μ) {Q : List D → Mu → Prop} (h : wpEs Φ (xw K cls W σ H μ) e ρ μ Q) (q : ∀ d μ', Q d μ' → finA K H μ P d μ') : TAd K cls W Φ e σ H P :=
  ⟨ρ, μ, er, s, wpEs_mono (fun _ _ z => z) e _ _ _ _ q h⟩
theorem a_nil : PA X [] (TAd X.K cls W Φ .nil) := pa_nil.weak fun σ H P ⟨ρ, μ, er, s, h⟩ => by
  simp only [wpEs] at h
  exact h [] H .nil s Ext.refl
theorem a_cons (hs : isStar a = false) (ha : PE X a (TEd X.K cls W Φ ea)) (hr : PA X es (TAd X.K cls W Φ ees)) : PA X (a :: es) (TAd X.K cls W Φ (.cons ea ees)) :=
  (pa_cons ha hr (star_cons hs)).weak fun σ H P ⟨ρ, μ, er, s, h⟩ => by
    simp only [wpEs] at h
    exact TEd.first er s h fun d μ1 h1 v H1 rv s1 x1 => TAd.next er s s1 x1 h1 fun ds μ2 h2 vs H2 rvs s2 x2 => h2 _ _ (.cons (rv.ext s1 x2) rvs) s2 (x1.trans x2)
theorem k_nil : PK X [] (TAd X.K cls W Φ .nil) := ⟨fun p pins s σ H Q I ⟨ρ, μ, er, S, h⟩ => pk_nil.run p pins s σ H Q I (by
  simp only [wpEs] at h
  exact h [] H .nil S Ext.refl)⟩
theorem k_cons {nm : Option Str} {kp : Pos} {kws : List Keyword} (ha : PE X a (TEd X.K cls W Φ ea)) (hr : PK X kws (TAd X.K cls W Φ ees)) : PK X (⟨nm, a, kp⟩ :: kws) (TAd X.K cls W Φ (.cons ea ees)) :=
  ⟨fun p pins st σ H Q I ⟨ρ, μ, er, s, h⟩ => (pk_cons ha hr).run p pins st σ H Q I (by
    simp only [wpEs] at h
    exact TEd.first er s h fun d μ1 h1 v H1 rv s1 x1 => TAd.next er s s1 x1 h1 fun ds μ2 h2 vs H2 rvs s2 x2 => h2 _ _ (.cons (rv.ext s1 x2) rvs) s2 (x1.trans x2))⟩
theorem d_tup {k : Nat} (h : PA X es (TAd X.K cls W Φ ees)) : PE X (.Tuple es k pos) (TEd X.K cls W Φ (.tup ees)) :=
  (pe_tup h).weak fun σ H P ⟨ρ, μ, er, s, h⟩ => by
    simp only [wpE] at h
    exact TAd.first er s h fun ds μ1 h1 vs H1 rv s1 x1 => ⟨by rw [rv.length]; exact h1.1, fin.tup (h1.2.trans x1) s1 rv⟩
theorem d_lst (h : PA X es (TAd X.K cls W Φ ees)) : PE X (.List es pos) (TEd X.K cls W Φ (.lst ees)) :=
  (pe_lst h).weak fun σ H P ⟨ρ, μ, er, s, h⟩ => by
    simp only [wpE] at h
    exact TAd.first er s h fun ds μ1 h1 vs H1 rv s1 x1 => ⟨by rw [rv.length]; exact h1.1, fin.newL (newL_mono (fun d μ' q => q.trans x1) h1.2) s1 rv⟩
theorem o_none : PO X none (TOd X.K cls W Φ .no) := po_none.weak fun σ H P ⟨ρ, μ, er, s, h⟩ => by
  simp only [wpO] at h
  exact h H s Ext.refl
theorem o_some (ha : PE X a (TEd X.K cls W Φ ea)) : PO X (some a) (TOd X.K cls W Φ (.so ea)) := (po_some ha).weak fun σ H P ⟨ρ, μ, er, s, h⟩ => by
  simp only [wpO] at h
  refine TEd.first er s h fun d μ1 h1 v H1 rv s1 x1 => ?_
  split at h1
  · cases rv
    exact ⟨_, rfl, h1 H1 s1 x1⟩
  · exact h1.elim
theorem d_sl {lo hi : Option Expr} {ol oh : O} {p2 : Pos} (ha : PE X a (TEd X.K cls W Φ ea)) (hl : PO X lo (TOd X.K cls W Φ ol)) (hh : PO X hi (TOd X.K cls W Φ oh)) : PE X (.Subscript a (.Slice lo hi none p2) pos) (TEd X.K cls W Φ (.sl ea ol oh)) :=
  (pe_slice sl_ok ha hl hh).weak fun σ H P ⟨ρ, μ, er, s, h⟩ => by
    simp only [wpE] at h
    refine TEd.first er s h fun d μ1 h1 v H1 rv s1 x1 => ⟨ρ, μ1, er.ext s x1, s1, wpO_mono (xw_trans x1) ol _ _ _ _ (fun l μ2 h2 H2 s2 x2 => ?_) h1⟩
    refine ⟨ρ, μ2, er.ext s (x1.trans x2), s2, wpO_mono (xw_trans (x1.trans x2)) oh _ _ _ _ (fun u μ3 h3 H3 s3 x3 => ?_) h2⟩
    exact ⟨d, μ3, rv.ext s1 (x2.trans x3), s3, slD_mono (fun d μ' q => q.trans (x1.trans (x2.trans x3))) h3⟩
theorem d_rev {k : Nat} {p1 p2 p3 : Pos} (ha : PE X a (TEd X.K cls W Φ ea)) : PE X (.Subscript a (.Slice none none (some (.UnaryOp .USub (.Constant (.int 1) k p1) p2)) p3) pos) (TEd X.K cls W Φ (.rev ea)) :=
  (pe_revX ha).weak fun σ H P ⟨ρ, μ, er, s, h⟩ => by
    simp only [wpE] at h
    refine TEd.first er s h fun d μ1 h1 v H1 rv s1 x1 => ?_
    unfold revD at h1
    split at h1
    · cases rv with
      | tup hx ax => exact ⟨_, _, rfl, .inr ⟨hx, fin.tup (h1.trans x1) s1 ax.reverse⟩⟩
    · cases rv with
      | rol hx ax => exact ⟨_, _, rfl, .inl ⟨hx.sq, fin.newL (newL_mono (fun d μ' q => q.trans x1) h1) s1 ax.reverse⟩⟩
    · split at h1
      · rename_i e
        cases rv
        obtain ⟨vs, g1, a1⟩ := s1.lst e
        exact ⟨_, vs, rfl, .inl ⟨SqL.of g1, fin.newL (newL_mono (fun d μ' q => q.trans x1) h1) s1 a1.reverse⟩⟩
      · exact h1.elim
    · exact h1.elim

/-! ### calls of built-ins -/
theorem biOf_boot {x : Str} {b : Bi} (h : biOf x = some b) : bootBuiltins x = some (biF b) := by
  unfold biOf at h
  repeat' split at h
  all_goals first
    | (cases h; rename_i e; subst e; decide +kernel)
    | cases h
theorem rBi_of {b : Bi} {σ : L2.St} {H : Hp} {P : VK} {ρ : Rho} {μ : Mu} (er : ERep X.K H σ ρ) (s : SRep X.K H μ) (h : wpE Φ (xw X.K cls W σ H μ) (.bi b ees) ρ μ (fin X.K H μ P)) : tCB (rBi X.K b) (TAd X.K cls W Φ ees) σ H P := by
  simp only [wpE] at h
  exact TAd.first er s h fun ds μ1 h1 vs H1 rv s1 x1 => ⟨ds, μ1, rv, s1, biD_mono (fun d μ' q => q.trans x1) h1⟩
theorem d_bi {x : Str} {p : Pos} {bb : Bi} (hc : X.calm = true) (hu : X.A.units + 65 < cLine) (hb : biOf x = some bb) (hg : Gl X x) (hm : X.mg x = none) (hst : ∀ e ∈ (a :: es), isStar e = false) (ha : PA X (a :: es) (TAd X.K cls W Φ ees)) (hn : x ≠ "__name__") (hdb : (x == ("__debug__" : Str)) = false) :
    PE X (.Call (.Name x p) (a :: es) [] pos) (TEd X.K cls W Φ (.bi bb ees)) := by
  have hv := biOf_boot hb
  have h1 := star_cons (env := X.env) (es := es) (hst a List.mem_cons_self)
  have h2 := star_plain (env := X.env) (pos := pos) (es := es) fun e he => hst e (List.mem_cons_of_mem _ he)
  have hk := bi_ok (X := X) bb hc hu
  have : PE X (.Call (.Name x p) (a :: es) [] pos) (tCB (rBi X.K bb) (TAd X.K cls W Φ ees)) := by
    cases bb <;> first
      | exact pe_callB hk hg hm hv ha hn hdb h1 h2
      | exact pe_callTy hk hg hm hv ha hn hdb h1 h2
  exact this.weak fun σ H P ⟨ρ, μ, er, s, h⟩ => rBi_of er s h
theorem d_gcd {x : Str} {p : Pos} (hc : X.calm = true) (hu : X.A.units + 65 < cLine) (hg : Gl X x) (hm : X.mg x = some (.builtin "math.gcd")) (hst : ∀ e ∈ (a :: es), isStar e = false) (ha : PA X (a :: es) (TAd X.K cls W Φ ees)) (hdb : (x == ("__debug__" : Str)) = false) :
    PE X (.Call (.Name x p) (a :: es) [] pos) (TEd X.K cls W Φ (.bi .gcd ees)) := by
  have h1 := star_cons (env := X.env) (es := es) (hst a List.mem_cons_self)
  have h2 := star_plain (env := X.env) (pos := pos) (es := es) fun e he => hst e (List.mem_cons_of_mem _ he)
  exact (pe_callBfun (bi_ok (X := X) .gcd hc hu) hg hm ha hdb h1 h2).weak fun σ H P ⟨ρ, μ, er, s, h⟩ => rBi_of er s h

/-! ### isinstance -/
theorem ty_ok {K : PySem.W.Frag} {H : Hp} {μ : Mu} {v : V} {d : D} {t : String} (r : Rep K H v d) (s : SRep K H μ) (h : tyN d μ = some t) : TyX K H v (.type t) := by
  cases r with
  | non => cases h; exact .base .non
  | bl b => cases h; exact .base (.bl b)
  | int i => cases h; exact .base (.int i)
  | str x => cases h; exact .base (.str x)
  | ty n => cases h
  | tup h1 h2 =>
    cases h
    rcases h1 with (h1 | ⟨o, h1⟩) | ⟨o, its, n, hk, hc, _⟩
    · exact .base (.tup h1)
    · exact .fTuple h1
    · exact .kTuple hk hc
  | rod h0 h1 h2 => cases h
  | rol h1 h2 =>
    cases h
    rcases h1 with ⟨o, h1⟩ | ⟨o, its, n, hk, hc, _⟩
    · exact .base (.frz h1)
    · exact .kList hk hc
  | ref a =>
    unfold tyN at h
    dsimp only at h
    split at h
    · rename_i xs e
      cases h
      obtain ⟨vs, h1, _⟩ := s.lst e
      exact .base (.lst h1)
    · rename_i xs e
      cases h
      obtain ⟨vs, h1, _⟩ := s.dic e
      exact .base (.dK h1)
    · cases h
theorem isi_one {K : PySem.W.Frag} {t n : String} {b : Bool} (h : isiD t [n] = some b) : PySem.W.kitOne K (.type t) (.type n) = some b := by
  unfold isiD at h
  split at h
  · rename_i e; cases h; exact kit_ty e
  · rename_i e; cases h; exact kit_ty e
  · cases h
theorem isi_two {K : PySem.W.Frag} {t : String} {b : Bool} : ∀ {ns : List String}, isiD t ns = some b → PySem.W.kitAny K (.type t) (ns.map Value.type) = some b
  | [], h => by cases h; exact kitAny_nil
  | n :: ns, h => by
    unfold isiD at h
    split at h
    · rename_i e; cases h; exact kitAny_cons (kit_ty e) (fun q => nomatch q) fun _ => rfl
    · rename_i e; exact kitAny_cons (kit_ty e) (fun _ => isi_two h) fun q => nomatch q
    · cases h
theorem tyOf_boot {x : Str} {t : String} (h : tyOf x = some t) : bootBuiltins x = some (.type t) := by
  unfold tyOf at h
  repeat' split at h
  all_goals first
    | (cases h; rename_i e; subst e; decide +kernel)
    | cases h
theorem boot_isi : bootBuiltins "isinstance" = some (.builtin "isinstance") := by decide +kernel
theorem d_isi1 {x : Str} {p q : Pos} {t : String} (ht : tyOf x = some t) (hg : Gl X "isinstance") (hm : X.mg "isinstance" = none) (hg1 : Gl X x) (hm1 : X.mg x = none) (hn : x ≠ "__name__") (hdb : (x == ("__debug__" : Str)) = false) (hst : isStar a = false)
    (ha : PE X a (TEd X.K cls W Φ ea)) : PE X (.Call (.Name "isinstance" p) [a, .Name x q] [] pos) (TEd X.K cls W Φ (.isi ea [t])) :=
  (pe_callB call_isi hg hm boot_isi (pa_cons ha (pa_cons (pe_bltn (v := .ty t) hg1 hm1 (tyOf_boot ht) rfl hn hdb) pa_nil) (star_cons hst)) (by decide) (by decide) (star_cons hst) rfl).weak fun σ H P ⟨ρ, μ, er, s, h⟩ => by
    simp only [wpE] at h
    refine TEd.first er s h fun d μ1 h1 v H1 rv s1 x1 => ?_
    split at h1
    · rename_i t' e
      split at h1
      · rename_i k e2
        exact ⟨v, .ty t, .type t', .type t, k, rfl, .ty t, ty_ok rv s1 e, isi_one e2, h1 _ _ (.bl _) s1 x1⟩
      · exact h1.elim
    · exact h1.elim
theorem d_isi2 {x y : Str} {p q q1 q2 : Pos} {kk : Nat} {t u : String} (ht : tyOf x = some t) (hu : tyOf y = some u) (hg : Gl X "isinstance") (hm : X.mg "isinstance" = none) (hg1 : Gl X x) (hm1 : X.mg x = none) (hn : x ≠ "__name__") (hdb : (x == ("__debug__" : Str)) = false)
    (hg2 : Gl X y) (hm2 : X.mg y = none) (hn2 : y ≠ "__name__") (hdb2 : (y == ("__debug__" : Str)) = false) (hst : isStar a = false)
    (ha : PE X a (TEd X.K cls W Φ ea)) : PE X (.Call (.Name "isinstance" p) [a, .Tuple [.Name x q1, .Name y q2] kk q] [] pos) (TEd X.K cls W Φ (.isi ea [t, u])) :=
  (pe_callB call_isiT hg hm boot_isi (pa_cons ha (pa_cons (pe_tup (pa_cons (pe_bltn (v := .ty t) hg1 hm1 (tyOf_boot ht) rfl hn hdb) (pa_cons (pe_bltn (v := .ty u) hg2 hm2 (tyOf_boot hu) rfl hn2 hdb2) pa_nil))) pa_nil) (star_cons hst)) (by decide) (by decide) (star_cons hst) rfl).weak fun σ H P ⟨ρ, μ, er, s, h⟩ => by
    simp only [wpE] at h
    refine TEd.first er s h fun d μ1 h1 v H1 rv s1 x1 => ?_
    split at h1
    · rename_i t' e
      split at h1
      · rename_i k e2
        refine ⟨by show 2 ≤ sizeLine; decide, fun T nT => ?_⟩
        have xn : Ext H1 μ1 (upd H1 T (.tup [.ty t, .ty u])) μ1 := Ext.new nT (s1.none_of nT)
        exact ⟨v, T, [.ty t, .ty u], .type t', [.type t, .type u], k, rfl, upd_same, .cons (.ty t) (.cons (.ty u) .nil), ty_ok (rv.ext s1 xn) (s1.new nT) e, isi_two e2, h1 _ _ (.bl _) (s1.new nT) (x1.trans xn)⟩
      · exact h1.elim
    · exact h1.elim

/-! ### methods of lists -/
theorem base_ok {o : Expr} {m : Str} {env : Env} (h : plainE o = true) : attributeBase o m env (eval o env) = eval o env := by
  cases o <;> first
    | rfl
    | cases h
theorem isL_ty {K : PySem.W.Frag} {H : Hp} {μ : Mu} {v : V} {d : D} (r : Rep K H v d) (s : SRep K H μ) (h : isL d μ = true) : tyV K "list" v H := by
  unfold isL at h
  split at h
  · split at h
    · rename_i e
      cases r
      obtain ⟨vs, h1, _⟩ := s.lst e
      exact .inl ⟨rfl, vs, SqL.of h1⟩
    · cases h
  · cases h
theorem few_ok {env : Env} (h : isStar a = false) : ((backTo pos (starEach [a] env)).all (fun x => !x.1) && (backToKw pos (keywordEach [] env)).all (fun x => x.1.isSome) && decide ([a].length + ([] : List Keyword).length + (if ([] : List Keyword).isEmpty then 0 else 1) < 30)) = true := by
  rw [star_cons h]
  rfl
theorem m_one {f : D → D → Mu → QD → Prop} {σ : L2.St} {H : Hp} {P : VK} {ρ : Rho} {μ : Mu} (hf : ∀ x y μ Q Q', (∀ d μ', Q d μ' → Q' d μ') → f x y μ Q → f x y μ Q') (er : ERep X.K H σ ρ) (s : SRep X.K H μ)
    (h : wpE Φ (xw X.K cls W σ H μ) ea ρ μ fun x μ1 => isL x μ1 = true ∧ wpE Φ (xw X.K cls W σ H μ) eb ρ μ1 fun y μ2 => f x y μ2 (fin X.K H μ P)) :
    tBM X.K "list" (rM1 X.K f) (TEd X.K cls W Φ ea) (tCons (TEd X.K cls W Φ eb) tNil) σ H P :=
  TEd.first er s h fun dx μ1 h1 v H1 rv s1 x1 => ⟨isL_ty rv s1 h1.1, TEd.next er s s1 x1 h1.2 fun dy μ2 h2 v2 H2 rv2 s2 x2 => ⟨v2, rfl, dx, dy, μ2, rv.ext s1 x2, rv2, s2, hf _ _ _ _ _ (fun d μ' q => q.trans (x1.trans x2)) h2⟩⟩
theorem d_app {o : Expr} {apos : Pos} (hp : plainE o = true) (hl : (apos.endLine == pos.line) = true) (hst : isStar a = false) (ho : PE X o (TEd X.K cls W Φ eb)) (ha : PE X a (TEd X.K cls W Φ ea)) : PE X (.Call (.Attribute o "append" apos) [a] [] pos) (TEd X.K cls W Φ (.app eb ea)) :=
  (pe_bm PySem.F.plainAttrs_list PySem.F.slot_list_append PySem.F.type_list_append app_ok' ho (pa_cons ha pa_nil (star_cons hst)) (base_ok hp) (few_ok hst) hl (star_cons hst) rfl).weak fun σ H P ⟨ρ, μ, er, s, h⟩ => by
    simp only [wpE] at h
    exact m_one (fun _ _ _ _ _ q h => appD_mono q h) er s h
theorem d_ext {o : Expr} {apos : Pos} (hp : plainE o = true) (hl : (apos.endLine == pos.line) = true) (hst : isStar a = false) (ho : PE X o (TEd X.K cls W Φ eb)) (ha : PE X a (TEd X.K cls W Φ ea)) : PE X (.Call (.Attribute o "extend" apos) [a] [] pos) (TEd X.K cls W Φ (.ext eb ea)) :=
  (pe_bm PySem.F.plainAttrs_list PySem.F.slot_list_extend PySem.F.type_list_extend ext_ok' ho (pa_cons ha pa_nil (star_cons hst)) (base_ok hp) (few_ok hst) hl (star_cons hst) rfl).weak fun σ H P ⟨ρ, μ, er, s, h⟩ => by
    simp only [wpE] at h
    exact m_one (fun _ _ _ _ _ q h => extD_mono q h) er s h
theorem popD_isL {x : D} {μ : Mu} {Q : QD} (h : popD x μ Q) : isL x μ = true := by
  unfold popD at h
  split at h
  · split at h
    · rename_i e
      unfold isL
      dsimp only
      rw [e]
    · exact h.elim
  · exact h.elim
theorem d_pop {o : Expr} {apos : Pos} (hp : plainE o = true) (hl : (apos.endLine == pos.line) = true) (ho : PE X o (TEd X.K cls W Φ eb)) : PE X (.Call (.Attribute o "pop" apos) [] [] pos) (TEd X.K cls W Φ (.pop eb)) :=
  (pe_bm0 PySem.F.plainAttrs_list PySem.F.slot_list_pop PySem.F.type_list_pop pop_ok' ho (base_ok hp) hl).weak fun σ H P ⟨ρ, μ, er, s, h⟩ => by
    simp only [wpE] at h
    exact TEd.first er s h fun dx μ1 h1 v H1 rv s1 x1 => ⟨isL_ty rv s1 (popD_isL h1), rfl, dx, μ1, rv, s1, popD_mono (fun d μ' q => q.trans x1) h1⟩
end
end LD
namespace LD
open PySem PySem.Spec PyProof.Rows L2

/-! ### calls of own defs -/
theorem permA_vals {perm : List Nat} {vs : List V} {us : List Value} (r : Vals vs us) : Vals (permA V.non perm vs) (permA Value.none perm us) := by
  induction perm with
  | nil => exact .nil
  | cons i is ih =>
    refine .cons ?_ ih
    show RelV (vs.getD i V.non) (us.getD i Value.none)
    rw [List.getD_eq_getElem?_getD, List.getD_eq_getElem?_getD]
    cases e : vs[i]? with
    | some v =>
      obtain ⟨u, h1, h2⟩ := r.get e
      rw [h1]
      exact h2
    | none =>
      rw [r.none_of e]
      rfl
theorem permA_reps {K : PySem.W.Frag} {H : Hp} {perm : List Nat} {vs : List V} {ds : List D} (r : Reps K H vs ds) : Reps K H (permA V.non perm vs) (permA D.non perm ds) := by
  induction perm with
  | nil => exact .nil
  | cons i is ih =>
    refine .cons ?_ ih
    show Rep K H (vs.getD i V.non) (ds.getD i D.non)
    rw [List.getD_eq_getElem?_getD, List.getD_eq_getElem?_getD]
    cases e : ds[i]? with
    | some d =>
      obtain ⟨v, h1, h2⟩ := r.get e
      rw [h1]
      exact h2
    | none =>
      have : vs[i]? = none := by
        rw [List.getElem?_eq_none_iff] at e ⊢
        rw [r.length]
        exact e
      rw [this]
      exact .non
theorem permA_len {α : Type} (z : α) (perm : List Nat) (xs : List α) : (permA z perm xs).length = perm.length := List.length_map _
theorem kw_names {env : Env} {pos : Pos} : ∀ {kws : List Keyword} {kn : List Str}, kwNames kws = some kn → (backToKw pos (keywordEach kws env)).all (·.1.isSome) = true ∧ (backToKw pos (keywordEach kws env)).filterMap (·.1) = kn ∧ (backToKw pos (keywordEach kws env)).any (·.1.isNone) = false ∧ kws.length = kn.length
  | [], kn, h => by cases h; exact ⟨rfl, rfl, rfl, rfl⟩
  | ⟨some x, e, p⟩ :: r, kn, h => by
    unfold kwNames at h
    cases q : kwNames r with
    | none => rw [q] at h; cases h
    | some ks =>
      rw [q] at h
      cases h
      obtain ⟨h1, h2, h3, h4⟩ := kw_names (env := env) (pos := pos) q
      refine ⟨?_, ?_, ?_, ?_⟩
      · show (true && (backToKw pos (keywordEach r env)).all (·.1.isSome)) = true
        rw [h1]; rfl
      · show x :: (backToKw pos (keywordEach r env)).filterMap (·.1) = x :: ks
        rw [h2]
      · show (false || (backToKw pos (keywordEach r env)).any (·.1.isNone)) = false
        rw [h3]; rfl
      · rw [List.length_cons, List.length_cons, h4]
  | ⟨none, e, p⟩ :: r, kn, h => by cases h
section
variable {X : Cx} {cls : Str → Addr} {W : WX} {Φ : Nat → Spec} {k : Nat} {f : Addr} {fd : FuncData} {ps kn : List Str} {sp : Sp} {x : Str} {p pos : Pos} {es : List Expr} {kws : List Keyword} {t tk : TA} {perm : List Nat}
/-- the callee runs -/
theorem run_fnD {pins : List (Addr × Obj)} {σ : L2.St} {H : Hp} {s : Shared} {Q : VK} {us ws : List Value} {vs zs : List V} (F : FnOk X.prog X.w X.K X.mg X.base (L2.CX X.prog X.w) k f fd ps sp) (hr : Room k X.A) (tw : Takes X W)
    (hb : ∀ (s : Shared), X.K.In s.heap → BindsTo s fd ⟨us, kn.zip ws⟩ (ps.zip (permA .none perm (us ++ ws))))
    (I : Inv X pins σ H s) (r : Vals vs us) (rz : Vals zs ws) (h : sp (permA .non perm (vs ++ zs)) H Q (WE W σ)) : wpAny (model X.prog X.w) X.A (call (.ref f) us (kn.zip ws)) (EP X pins σ Q) X.xe s := by
  refine wpAny_call (codeAny_mono (F.run X.A X.stack s H ⟨us, kn.zip ws⟩ (permA .none perm (us ++ ws)) (permA .non perm (vs ++ zs)) Q (WE W σ) hr I.env0 (hb s I.kIn) (permA_vals (r.append rz)) h) fun r s' hq => ?_)
  cases r with
  | error e => exact passAt tw σ pins H s e s' I hq
  | ok fl =>
    cases fl with
    | ret u => exact I.after hq
    | next => exact False.elim hq
    | brk => exact False.elim hq
    | cont => exact False.elim hq
theorem d_call {ees eks : Es} {fi : Nat} (F : FnOk X.prog X.w X.K X.mg X.base (L2.CX X.prog X.w) k f fd ps (spD X.K cls ps.length (Φ fi))) (hr : Room k X.A) (tw : Takes X W) (hg : Gl X x) (hm : X.mg x = some (.ref f)) (hk : PySem.W.keepIn X.K (.ref f) = true)
    (hb : ∀ (s : Shared) (us ws : List Value), X.K.In s.heap → us.length = es.length → ws.length = kn.length → BindsTo s fd ⟨us, kn.zip ws⟩ (ps.zip (permA .none perm (us ++ ws)))) (hpl : perm.length = ps.length)
    (ha : PA X es (TAd X.K cls W Φ ees)) (hkw : PK X kws (TAd X.K cls W Φ eks)) (hkn : kwNames kws = some kn) (hst : ∀ e ∈ es, isStar e = false) (hdb : (x == ("__debug__" : Str)) = false)
    (n1 : es = [] → ees = .nil) (n2 : kws = [] → eks = .nil) (l1 : ∀ X ρ μ Q, wpEs Φ X ees ρ μ Q → wpEs Φ X ees ρ μ fun ds μ' => ds.length = es.length ∧ Q ds μ') (l2 : ∀ X ρ μ Q, wpEs Φ X eks ρ μ Q → wpEs Φ X eks ρ μ fun ds μ' => ds.length = kn.length ∧ Q ds μ') :
    PE X (.Call (.Name x p) es kws pos) (TEd X.K cls W Φ (.call fi ees eks perm)) := by
  refine ⟨fun pins st σ H Q I h => ?_⟩
  obtain ⟨ρ, μ, er, s, h⟩ := h
  simp only [wpE] at h
  obtain ⟨k1, k2, k3, k4⟩ := kw_names (env := X.env) (pos := pos) hkn
  refine wpAny_Call_Name_kw (ld_glob I hg hm ?_ hdb)
  have last : ∀ {us ws : List Value} {vs zs : List V} {s2 : Shared} {H2 : Hp} {ds es' : List D} {μ2 : Mu}, Inv X pins σ H2 s2 → Vals vs us → Vals zs ws → Reps X.K H2 vs ds → Reps X.K H2 zs es' → SRep X.K H2 μ2 → Ext H μ H2 μ2 → ds.length = es.length → es'.length = kn.length →
      (Φ fi).run (permA .non perm (ds ++ es')) μ2 (xw X.K cls W σ H μ) (fin X.K H μ Q) → X.K.In s2.heap ∧ wpAny (model X.prog X.w) X.A (call (.ref f) us (kn.zip ws)) (EP X pins σ Q) X.xe s2 := fun {us ws vs zs s2 H2 ds es' μ2} I2 r rz rd re s2' x2 e1 e2 q =>
    ⟨I2.kIn, run_fnD F hr tw (fun s' ks => hb s' us ws ks (by rw [← r.length, rd.length]; exact e1) (by rw [← rz.length, re.length]; exact e2)) I2 r rz
      ⟨_, μ2, by rw [permA_len]; exact hpl, permA_reps (rd.append re), s2', Spec.run_mono (fun n μ' z H' s' e' => z H' s' (x2.trans e')) (fun d μ' z => z.trans x2) q⟩⟩
  have h := l1 _ _ _ _ h
  cases es with
  | nil =>
    have en := n1 rfl
    subst en
    simp only [wpEs] at h
    cases kws with
    | nil =>
      have en := n2 rfl
      subst en
      cases hkn
      have h := l2 _ _ _ _ h.2
      simp only [wpEs] at h
      exact PySem.W.callWith_of (first := []) rfl (PySem.W.keeps_K hk) (evalArgs_nil3 (last I .nil .nil .nil .nil s Ext.refl rfl rfl h.2))
    | cons kw kws =>
      have h := l2 _ _ _ _ h.2
      refine PySem.W.callWith_of (first := []) ?_ (PySem.W.keeps_K hk) (evalArgs_kw2_nil k1 (thn (hkw.run pos pins st σ H _ I ⟨ρ, μ, er, s, wpEs_mono (fun _ _ z => z) eks _ _ _ (finA X.K H μ fun zs H2 => ∃ es' μ2, Reps X.K H2 zs es' ∧ SRep X.K H2 μ2 ∧ Ext H μ H2 μ2 ∧ es'.length = kn.length ∧ (Φ fi).run (permA .non perm ([] ++ es')) μ2 (xw X.K cls W σ H μ) (fin X.K H μ Q)) (fun ds μ2 q vs H2 r s2 x2 => ⟨ds, μ2, r, s2, x2, q.1, q.2⟩) h⟩) fun ws s2 ⟨zs, H2, I2, rz, es', μ2, re, s2', x2, e2, q⟩ => ?_))
      · show (([] : List (Bool × Sem Value)).any (·.1) || _) = false
        rw [k3]
        rfl
      · rw [k2]
        exact last I2 .nil rz .nil re s2' x2 rfl e2 q
  | cons e es =>
    have hs := star_cons (env := X.env) (es := es) (hst e List.mem_cons_self)
    have hp := star_plain (env := X.env) (pos := pos) (es := e :: es) hst
    cases kws with
    | nil =>
      have en := n2 rfl
      subst en
      cases hkn
      refine PySem.W.callWith_K (h₀ := X.base) I.ok.mod.kin hk (thn (ha.run pos pins st σ H _ I ⟨ρ, μ, er, s, wpEs_mono (fun _ _ z => z) ees _ _ _ (finA X.K H μ fun vs H2 => ∃ ds μ2, Reps X.K H2 vs ds ∧ SRep X.K H2 μ2 ∧ Ext H μ H2 μ2 ∧ ds.length = (e :: es).length ∧ (Φ fi).run (permA .non perm (ds ++ [])) μ2 (xw X.K cls W σ H μ) (fin X.K H μ Q)) (fun ds μ2 q vs H2 r s2 x2 => ⟨ds, μ2, r, s2, x2, q.1, ?_⟩) h⟩) fun us s1 ⟨vs, H1, I1, r, ds, μ1, rd, s1', x1, e1, q⟩ => ?_) hs (star_plain (es := es) fun e he => hst e (List.mem_cons_of_mem _ he))
      · have q2 := q.2
        simp only [wpEs] at q2
        exact q2
      · exact last I1 r .nil rd .nil s1' x1 e1 rfl q
    | cons kw kws =>
      refine PySem.W.callWith_KW (h₀ := X.base) I.ok.mod.kin hk k1 (thn (ha.run pos pins st σ H _ I ⟨ρ, μ, er, s, wpEs_mono (fun _ _ z => z) ees _ _ _ (finA X.K H μ fun vs H2 => ∃ ds μ2, Reps X.K H2 vs ds ∧ SRep X.K H2 μ2 ∧ Ext H μ H2 μ2 ∧ ds.length = (e :: es).length ∧
        wpEs Φ (xw X.K cls W σ H μ) eks ρ μ2 fun zs μ3 => (Φ fi).run (permA .non perm (ds ++ zs)) μ3 (xw X.K cls W σ H μ) (fin X.K H μ Q)) (fun ds μ2 q vs H2 r s2 x2 => ⟨ds, μ2, r, s2, x2, q.1, q.2⟩) h⟩) fun us s1 ⟨vs, H1, I1, r, ds, μ1, rd, s1', x1, e1, q⟩ => ?_) ?_ hs
      · refine thn (hkw.run pos pins s1 σ H1 _ I1 ⟨ρ, μ1, er.ext s x1, s1', wpEs_mono (xw_trans x1) eks _ _ _ (finA X.K H1 μ1 fun zs H2 => ∃ es' μ2, Reps X.K H2 zs es' ∧ SRep X.K H2 μ2 ∧ Ext H1 μ1 H2 μ2 ∧ es'.length = kn.length ∧ (Φ fi).run (permA .non perm (ds ++ es')) μ2 (xw X.K cls W σ H μ) (fin X.K H μ Q)) (fun ds μ2 q vs H2 r s2 x2 => ⟨ds, μ2, r, s2, x2, q.1, q.2⟩) (l2 _ _ _ _ q)⟩) fun ws s2 ⟨zs, H2, I2, rz, es', μ2, re, s2', x2, e2, q⟩ => ?_
        rw [k2]
        exact last I2 r rz (rd.ext s1' x2) re s2' (x1.trans x2) e1 e2 q
      · rw [hp, k3]
        rfl
end
end LD
namespace LD
open PySem PySem.Spec PyProof.Rows L2

/-! ### targets -/
theorem wipe_get {σ : L2.St} : ∀ (vs : List Nat) (j : Nat), (wipe σ vs)[j]? = if j ∈ vs ∧ j < σ.length then some none else σ[j]?
  | [], j => by simp [wipe]
  | v :: vs, j => by
    unfold wipe
    have ih := wipe_get (σ := σ) vs j
    by_cases hv : v = j
    · subst hv
      by_cases hl : v < σ.length
      · rw [List.getElem?_set_self (by rw [wipe_length]; exact hl)]
        simp [hl]
      · rw [List.getElem?_eq_none (by rw [List.length_set, wipe_length]; omega), List.getElem?_eq_none (by omega)]
        simp [hl]
    · rw [List.getElem?_set_ne hv, ih]
      simp [Ne.symm hv]
theorem wipe_set {σ : L2.St} {i : Nat} {x : Option V} {vs : List Nat} (h : i ∈ vs) : wipe (σ.set i x) vs = wipe σ vs := by
  apply List.ext_getElem?
  intro j
  rw [wipe_get, wipe_get, List.length_set]
  by_cases hj : j ∈ vs ∧ j < σ.length
  · rw [if_pos hj, if_pos hj]
  · rw [if_neg hj, if_neg hj]
    by_cases e : i = j
    · subst e
      have hl : ¬ i < σ.length := fun q => hj ⟨h, q⟩
      rw [List.getElem?_eq_none (by rw [List.length_set]; omega), List.getElem?_eq_none (by omega)]
    · rw [List.getElem?_set_ne e]
theorem wipe_wipe {σ : L2.St} {vs : List Nat} : wipe (wipe σ vs) vs = wipe σ vs := by
  apply List.ext_getElem?
  intro j
  rw [wipe_get, wipe_get, wipe_length]
  by_cases hj : j ∈ vs ∧ j < σ.length
  · rw [if_pos hj, if_pos hj]
  · rw [if_neg hj]
def gD (K : PySem.W.Frag) (tg : Tg) : TG := fun v σ H Q => ∃ d ρ μ ρ', Rep K H v d ∧ ERep K H σ ρ ∧ SRep K H μ ∧ tgD μ tg d ρ = some ρ' ∧
  ∀ σ', ERep K H σ' ρ' → (∀ vs : List Nat, (∀ i ∈ slots tg, i ∈ vs) → wipe σ' vs = wipe σ vs) → Q σ' H
def gsD (K : PySem.W.Frag) (ts : Tgs) : TGs := fun us σ H Q => ∃ ds ρ μ ρ', Reps K H us ds ∧ ERep K H σ ρ ∧ SRep K H μ ∧ tgsD μ ts ds ρ = some ρ' ∧
  ∀ σ', ERep K H σ' ρ' → (∀ vs : List Nat, (∀ i ∈ slotsL ts, i ∈ vs) → wipe σ' vs = wipe σ vs) → Q σ' H
theorem PG.or {X : Cx} {e : Expr} {t t' : TG} (h : PG X e t) (h' : PG X e t') : PG X e (fun v σ H Q => t v σ H Q ∨ t' v σ H Q) := ⟨fun pins s σ H v u Q I r q => by
  rcases q with q | q
  · exact h.run pins s σ H v u Q I r q
  · exact h'.run pins s σ H v u Q I r q⟩
theorem asg_len {env : Env} : ∀ {es : List Expr}, (∀ e ∈ es, isStar e = false) → (assignEach es env).length = es.length ∧ (assignEach es env).findIdx? (·.1) = none
  | [], _ => ⟨rfl, rfl⟩
  | e :: es, h => by
    obtain ⟨h1, h2⟩ := asg_len (env := env) (es := es) fun e he => h e (List.mem_cons_of_mem _ he)
    have he := h e List.mem_cons_self
    have q : assignEach (e :: es) env = (false, assign e env) :: assignEach es env := by
      cases e <;> first
        | rfl
        | cases he
    rw [q]
    refine ⟨by rw [List.length_cons, List.length_cons, h1], ?_⟩
    rw [List.findIdx?_cons, h2]
    rfl
theorem asg_cons {env : Env} {e : Expr} {es : List Expr} (h : isStar e = false) : (assignEach (e :: es) env).map (·.2) = assign e env :: (assignEach es env).map (·.2) := by
  cases e <;> first
    | rfl
    | cases h
/-- what storing needs of the context -/
structure StOk (L : LC) (X : Cx) : Prop where
  N : X.N = L.N
  nd : X.N.Nodup
  sc : X.env.scope = L.sc
  calm : X.calm = L.calm
  st : ∀ x, stOk L x = true → X.fn x = true ∨ X.env.scope.names.lookup x = some .local
theorem cStore_ok {L : LC} {X : Cx} (c : StOk L X) {x : Str} {i : Nat} (h : cStore L x = some i) : X.N[i]? = some x ∧ Loc X.env.scope x ∧ (X.fn x = true ∨ X.env.scope.names.lookup x = some .local) := by
  unfold cStore at h
  split at h
  · rename_i hk
    rw [Bool.and_eq_true] at hk
    have h3 := c.st x hk.2
    split at h
    · rename_i e
      exact ⟨by rw [c.N]; exact ixOf_ok h, .inl (by rw [c.sc]; exact e), h3⟩
    · rename_i e
      exact ⟨by rw [c.N]; exact ixOf_ok h, .inr (by rw [c.sc]; exact e), h3⟩
    · cases h
  · cases h
theorem cTg_star {L : LC} {n : Nat} {e : Expr} {t : Tg} (h : cTg L n e = some t) : isStar e = false := by
  cases n with
  | zero => cases h
  | succ n => cases e <;> first
    | rfl
    | cases h
theorem cTgs_star {L : LC} : ∀ {n : Nat} {es : List Expr} {ts : Tgs}, cTgs L n es = some ts → ∀ e ∈ es, isStar e = false
  | 0, _, _, h => by cases h
  | n + 1, [], _, _ => fun _ he => by cases he
  | n + 1, e :: es, ts, h => by
    simp only [cTgs] at h
    split at h
    · rename_i t ts' e1 e2
      intro a ha
      rcases List.mem_cons.mp ha with q | q
      · subst q; exact cTg_star e1
      · exact cTgs_star e2 a q
    · cases h
theorem tgs_len {μ : Mu} : ∀ {ts : Tgs} {ds : List D} {ρ ρ' : Rho}, tgsD μ ts ds ρ = some ρ' → ds.length = ts.len
  | .nil, [], _, _, _ => rfl
  | .nil, _ :: _, _, _, h => by simp [tgsD] at h
  | .cons t ts, [], _, _, h => by simp [tgsD] at h
  | .cons t ts, d :: ds, ρ, ρ', h => by
    simp only [tgsD] at h
    split at h
    · rw [List.length_cons, tgs_len h]
      rfl
    · cases h
theorem cTgs_len {L : LC} : ∀ {n : Nat} {es : List Expr} {ts : Tgs}, cTgs L n es = some ts → ts.len = es.length
  | 0, _, _, h => by cases h
  | n + 1, [], _, h => by cases h; rfl
  | n + 1, e :: es, ts, h => by
    simp only [cTgs] at h
    split at h
    · rename_i t ts' e1 e2
      cases h
      rw [List.length_cons, ← cTgs_len e2]
      rfl
    · cases h
mutual
theorem d_tg {L : LC} {X : Cx} (c : StOk L X) : ∀ (n : Nat) (e : Expr) (tg : Tg), cTg L n e = some tg → PG X e (gD X.K tg)
  | 0, _, _, h => by cases h
  | n + 1, e, tg, h => by
    cases e with
    | Name x pos =>
      have h' : (cStore L x).map Tg.nm = some tg := h
      cases q : cStore L x with
      | none => rw [q] at h'; cases h'
      | some i =>
        rw [q] at h'
        cases h'
        obtain ⟨h1, h2, h3⟩ := cStore_ok c q
        refine (pg_name c.nd h1 h2 h3).weak fun v σ H Q ⟨d, ρ, μ, ρ', rv, er, s, e1, k⟩ => ?_
        simp only [tgD] at e1
        cases e1
        exact k _ (er.set rv i) fun vs hv => wipe_set (hv i (by simp [slots]))
    | Tuple es kk pos =>
      have h' : (if L.calm = true then (cTgs L n es).map Tg.tp else none) = some tg := h
      split at h'
      · rename_i hc
        cases q : cTgs L n es with
        | none => rw [q] at h'; cases h'
        | some ts =>
          rw [q] at h'
          cases h'
          have hs := d_tgs c n es ts q
          obtain ⟨a1, a2⟩ := asg_len (env := X.env) (cTgs_star q)
          have hc' : X.calm = true := by rw [c.calm]; exact hc
          refine (PG.or (pg_tup hc' hs a1 a2) (pg_lst hc' hs a1 a2)).weak fun v σ H Q ⟨d, ρ, μ, ρ', rv, er, s, e1, k⟩ => ?_
          simp only [tgD] at e1
          split at e1
          · rename_i ds e2
            obtain ⟨a, vs, rfl, rs, hq⟩ := seq_ok rv s e2
            have hl : vs.length = es.length := by rw [rs.length, tgs_len e1, cTgs_len q]
            rcases hq with ⟨hq, _⟩ | ⟨hq, _⟩
            · exact .inr ⟨a, vs, rfl, hq, hl, ds, ρ, μ, ρ', rs, er, s, e1, fun σ' er' hw => k σ' er' fun vs hv => hw vs (by simpa [slots] using hv)⟩
            · exact .inl ⟨a, vs, rfl, hq, hl, ds, ρ, μ, ρ', rs, er, s, e1, fun σ' er' hw => k σ' er' fun vs hv => hw vs (by simpa [slots] using hv)⟩
          · cases e1
      · cases h'
    | _ => cases h
theorem d_tgs {L : LC} {X : Cx} (c : StOk L X) : ∀ (n : Nat) (es : List Expr) (ts : Tgs), cTgs L n es = some ts → PGs X es (gsD X.K ts)
  | 0, _, _, h => by cases h
  | n + 1, [], ts, h => by
    cases h
    refine ⟨fun pins st σ H us vs Q I r ⟨ds, ρ, μ, ρ', rs, er, s, e1, k⟩ => ?_⟩
    refine pgs_nil.run pins st σ H us vs Q I r ?_
    cases rs with
    | nil =>
      simp only [tgsD] at e1
      cases e1
      exact ⟨rfl, k σ er fun _ _ => rfl⟩
    | cons => simp [tgsD] at e1
  | n + 1, e :: es, ts, h => by
    simp only [cTgs] at h
    split at h
    · rename_i t ts' e1 e2
      cases h
      have h1 := d_tg c n e t e1
      have h2 := d_tgs c n es ts' e2
      refine ⟨fun pins st σ H us vs Q I r ⟨ds, ρ, μ, ρ', rs, er, s, e3, k⟩ => ?_⟩
      refine (pgs_cons h1 h2 (asg_cons (cTg_star e1))).run pins st σ H us vs Q I r ?_
      cases rs with
      | nil => simp [tgsD] at e3
      | @cons v us' d ds' rv rs =>
        simp only [tgsD] at e3
        split at e3
        · rename_i ρ1 e4
          refine ⟨v, us', rfl, d, ρ, μ, ρ1, rv, er, s, e4, fun σ1 er1 w1 => ⟨ds', ρ1, μ, ρ', rs, er1, s, e3, fun σ2 er2 w2 => k σ2 er2 fun vs hv => ?_⟩⟩
          rw [w2 vs fun i hi => hv i (by simp [slotsL, hi]), w1 vs fun i hi => hv i (by simp [slotsL, hi])]
        · cases e3
    · cases h
end

/-! ### what is walked -/
section
variable {X : Cx} {cls : Str → Addr} {W : WX} {Φ : Nat → Spec} {a b tg : Expr} {ea eb : E} {pos p : Pos}
/-- a list or a tuple, whichever comes -/
theorem pi_seq {tl : TE} (hl : PE X a tl) : PI X tg a (fun σ H R => tl σ H fun x H1 => ∃ c, x = .ref c ∧ (((∃ xs, SqL X.K H1 c xs) ∧ R (Itl X.K c) H1) ∨ ((∃ xs, SqT X.K H1 c xs) ∧ R (Itt X.K c) H1))) := by
  refine ⟨fun pins s σ H R I h => ?_⟩
  refine thn (hl.run pins s σ H _ I h) fun v s1 ⟨x, H1, I1, r1, q1⟩ => ?_
  obtain ⟨c, e, q⟩ := q1
  subst e
  cases r1
  rcases q with ⟨⟨xs, hq⟩, q⟩ | ⟨⟨xs, hq⟩, q⟩
  · obtain ⟨its, rv, p, hz⟩ := I1.list hq
    refine wpAny_pyIter_list p.isList ?_
    refine ⟨s1.heap.objs.size, [s1.heap.objs.size], _, _, H1, rfl, I1.kept (t' := s1.toks) fun b o e => Heap.get?_push_of_some _ e, turn_list c _, ⟨_, Heap.get?_push_size _ rfl, rfl, rfl⟩, fun b hb => ?_, q⟩
    have e : b = s1.heap.objs.size := by simpa using hb
    subst e
    exact I1.fpOk (Nat.le_refl _) (I1.hok.fresh (Nat.le_refl _))
  · obtain ⟨its, rv, p, hz⟩ := I1.tuple hq
    refine wpAny_pyIter_tuple (show s1.heap.IsTuple c its.toArray from p) ?_
    refine ⟨s1.heap.objs.size, [s1.heap.objs.size], _, _, H1, rfl, I1.kept (t' := s1.toks) fun b o e => Heap.get?_push_of_some _ e, turn_tuple c _, ⟨_, Heap.get?_push_size _ rfl, rfl, rfl⟩, fun b hb => ?_, q⟩
    have e : b = s1.heap.objs.size := by simpa using hb
    subst e
    exact I1.fpOk (Nat.le_refl _) (I1.hok.fresh (Nat.le_refl _))
theorem i_val (ha : PE X a (TEd X.K cls W Φ ea)) : PI X tg a (TId X.K cls W Φ (.val ea)) :=
  (pi_seq ha).weak fun σ H R ⟨ρ, μ, er, s, h⟩ => by
    simp only [wpI] at h
    refine TEd.first er s h fun d μ1 h1 v H1 rv s1 x1 => ?_
    split at h1
    · rename_i xs e
      obtain ⟨c, vs, rfl, rs, hq⟩ := seq_ok rv s1 e
      refine ⟨c, rfl, ?_⟩
      rcases hq with ⟨hq, ht⟩ | ⟨hq, ht⟩
      · exact .inl ⟨⟨vs, hq⟩, h1 _ H1 s1 x1 (it_list rv s1 e ht)⟩
      · exact .inr ⟨⟨vs, hq⟩, h1 _ H1 s1 x1 (it_tup rv s1 e (by rw [ht]; rfl))⟩
    · exact h1.elim
theorem i_rng1 (hg : Gl X "range") (hm : X.mg "range" = none) (hst : isStar a = false) (ha : PE X a (TEd X.K cls W Φ ea)) : PI X tg (.Call (.Name "range" p) [a] [] pos) (TId X.K cls W Φ (.rng1 ea)) :=
  (pi_range1 hg hm (pa_cons ha pa_nil (star_cons hst)) (star_cons hst)).weak fun σ H R ⟨ρ, μ, er, s, h⟩ => by
    simp only [wpI] at h
    refine TEd.first er s h fun d μ1 h1 v H1 rv s1 x1 => ?_
    split at h1
    · cases rv
      exact ⟨_, rfl, h1.1.1, h1.1.2, h1.2 _ H1 s1 x1 (it_rng _ _)⟩
    · exact h1.elim
theorem i_rng2 (hg : Gl X "range") (hm : X.mg "range" = none) (h1 : isStar a = false) (h2 : isStar b = false) (ha : PE X a (TEd X.K cls W Φ ea)) (hb : PE X b (TEd X.K cls W Φ eb)) : PI X tg (.Call (.Name "range" p) [a, b] [] pos) (TId X.K cls W Φ (.rng2 ea eb)) :=
  (pi_range2 hg hm (pa_cons ha (pa_cons hb pa_nil (star_cons h2)) (star_cons h1)) (by rw [star_cons h1, star_cons h2]; rfl) (star_cons h2)).weak fun σ H R ⟨ρ, μ, er, s, h⟩ => by
    simp only [wpI] at h
    refine TEd.first er s h fun d μ1 h1 v H1 rv s1 x1 => TEd.next er s s1 x1 h1 fun d2 μ2 h2 v2 H2 rv2 s2 x2 => ?_
    split at h2
    · cases rv; cases rv2
      exact ⟨_, _, rfl, h2.1, h2.2 _ H2 s2 (x1.trans x2) (it_rng _ _)⟩
    · exact h2.elim
theorem i_zip {elts : List Expr} {kk : Nat} {tpos : Pos} (hg : Gl X "zip") (hm : X.mg "zip" = none) (h1 : isStar a = false) (h2 : isStar b = false) (ha : PE X a (TEd X.K cls W Φ ea)) (hb : PE X b (TEd X.K cls W Φ eb)) : PI X (.Tuple elts kk tpos) (.Call (.Name "zip" p) [a, b] [] pos) (TId X.K cls W Φ (.zip ea eb)) :=
  (RZ.pi_zipA hg hm (pa_cons ha (pa_cons hb pa_nil (star_cons h2)) (star_cons h1)) (star_cons h1) (star_plain fun e he => by
    have e' : e = b := by simpa using he
    subst e'
    exact h2)).weak fun σ H R ⟨ρ, μ, er, s, h⟩ => by
    simp only [wpI] at h
    refine TEd.first er s h fun d μ1 h1 v H1 rv s1 x1 => TEd.next er s s1 x1 h1 fun d2 μ2 h2 v2 H2 rv2 s2 x2 => ?_
    split at h2
    · rename_i xs ys e1 e2
      have rv' := rv.ext s1 x2
      obtain ⟨c, vs, rfl, rs, hq⟩ := seq_ok rv' s2 e1
      obtain ⟨c2, ws, rfl, ss, hq2⟩ := seq_ok rv2 s2 e2
      refine ⟨c, c2, vs, ws, rfl, ?_⟩
      have ht := h2.1
      rcases hq with ⟨hq, t1⟩ | ⟨hq, t1⟩
      · rcases hq2 with ⟨hq2, t2⟩ | ⟨hq2, t2⟩
        · exact .inl ⟨hq, hq2, h2.2 _ H2 s2 (x1.trans x2) (it_zipL rv' rv2 s2 e1 e2 t1 t2)⟩
        · rw [t1, t2] at ht; cases ht
      · rcases hq2 with ⟨hq2, t2⟩ | ⟨hq2, t2⟩
        · rw [t2, t1] at ht; cases ht
        · exact .inr ⟨hq, hq2, h2.2 _ H2 s2 (x1.trans x2) (it_zipT rv' rv2 s2 e1 e2 (by rw [t1]; rfl) (by rw [t2]; rfl))⟩
    · exact h2.elim
theorem it_enum {K : PySem.W.Frag} {H0 : Hp} {μ0 : Mu} {a : Addr} {d : D} {xs : List D} (r : Rep K H0 (.ref a) d) (s0 : SRep K H0 μ0) (h : seqOf d μ0 = some xs) (ht : isTup d = false) : ItIs K (Ite K a) H0 μ0 (enuL 0 xs) (liveOf d xs) := by
  intro i H μ s x l
  obtain ⟨b, vs, e, rs, q⟩ := seq_at r s0 h s x l
  cases e
  rcases q with ⟨q, _⟩ | ⟨_, q⟩
  · refine ⟨fun d' hd => ?_, fun hl => ⟨vs, q, by rw [rs.length]; rw [enuL_length] at hl; exact hl⟩⟩
    obtain ⟨w, g1, rfl⟩ := enuL_get hd
    obtain ⟨v, h1, h2⟩ := rs.get g1
    refine ⟨⟨vs, v, q, h1⟩, fun y H' hy => ?_⟩
    obtain ⟨T, z, rfl, n, rfl, f⟩ := hy
    have e := (f vs q).symm.trans h1
    cases e
    rw [Nat.zero_add]
    exact pair_new s n (.int _) h2
  · rw [ht] at q; cases q
theorem i_enu {elts : List Expr} {kk : Nat} {tpos : Pos} (hg : Gl X "enumerate") (hm : X.mg "enumerate" = none) (h1 : isStar a = false) (ha : PE X a (TEd X.K cls W Φ ea)) : PI X (.Tuple elts kk tpos) (.Call (.Name "enumerate" p) [a] [] pos) (TId X.K cls W Φ (.enu ea)) :=
  (pi_enum hg hm (pa_cons ha pa_nil (star_cons h1)) (star_cons h1)).weak fun σ H R ⟨ρ, μ, er, s, h⟩ => by
    simp only [wpI] at h
    refine TEd.first er s h fun d μ1 h1 v H1 rv s1 x1 => ?_
    split at h1
    · rename_i xs e1
      obtain ⟨c, vs, rfl, rs, hq⟩ := seq_ok rv s1 e1
      rcases hq with ⟨hq, t1⟩ | ⟨hq, t1⟩
      · exact ⟨c, vs, rfl, hq, h1.2 _ H1 s1 x1 (it_enum rv s1 e1 t1)⟩
      · rw [t1] at h1
        cases h1.1
    · exact h1.elim
end
end LD
namespace LD
open PySem PySem.Spec PyProof.Rows L2

/-! ### what a change of a list beside the store leaves -/
section
variable {K : PySem.W.Frag} {H H' : Hp} {μ : Mu}
structure Keeps (H H' : Hp) : Prop where
  tup : ∀ a xs, H a = some (.tup xs) → H' a = some (.tup xs)
  frz : ∀ a o u, H a = some (.frz o u) → H' a = some (.frz o u)
theorem Keeps.upd {p : Addr} {vs : List V} {o : HO} (h : H p = some (.lst vs)) : Keeps H (upd H p o) :=
  ⟨fun a xs e => by rw [upd_ne (ne_of e h (by intro z; cases z))]; exact e, fun a ob u e => by rw [upd_ne (ne_of e h (by intro z; cases z))]; exact e⟩
mutual
theorem Rep.keeps (k : Keeps H H') {v : V} {d : D} (h : Rep K H v d) : Rep K H' v d := by
  cases h with
  | non => exact .non
  | bl b => exact .bl b
  | int i => exact .int i
  | str y => exact .str y
  | ty n => exact .ty n
  | ref a => exact .ref a
  | tup h1 h2 =>
    refine .tup ?_ (Reps.keeps k h2)
    rcases h1 with (h1 | ⟨o, h1⟩) | h1
    · exact .inl (.inl (k.tup _ _ h1))
    · exact .inl (.inr ⟨o, k.frz _ _ _ h1⟩)
    · exact .inr h1
  | rod h0 h1 h2 => exact .rod h0 h1 (Reps.keeps k h2)
  | rol h1 h2 =>
    refine .rol ?_ (Reps.keeps k h2)
    rcases h1 with ⟨o, h1⟩ | h1
    · exact .inl ⟨o, k.frz _ _ _ h1⟩
    · exact .inr h1
theorem Reps.keeps (k : Keeps H H') {vs : List V} {ds : List D} (h : Reps K H vs ds) : Reps K H' vs ds := by
  cases h with
  | nil => exact .nil
  | cons h1 h2 => exact .cons (Rep.keeps k h1) (Reps.keeps k h2)
end
theorem SRep.keeps (s : SRep K H μ) (k : Keeps H H') (e : ∀ a o, μ a = some o → H' a = H a) : SRep K H' μ := fun a o h => by
  have r := s a o h
  cases o with
  | lst ds =>
    obtain ⟨vs, h1, h2⟩ := r
    exact ⟨vs, (e a _ h).trans h1, h2.keeps k⟩
  | dic kvs =>
    obtain ⟨vs, h1, h2⟩ := r
    exact ⟨vs, (e a _ h).trans h1, Paired.mapP h2 fun _ _ z => ⟨z.1, z.2.keeps k⟩⟩
end

/-! ### comprehensions -/
abbrev W0 : WX := fun _ _ _ _ => False
def TFd (K : PySem.W.Frag) (Φ : Nat → Spec) (es : Es) : TT := fun σ H Q => ∃ ρ μ, ERep K H σ ρ ∧ SRep K H μ ∧ wpIf Φ es ρ μ fun b μ' => ∀ H', SRep K H' μ' → Ext H μ H' μ' → Q b H'
section
variable {X : Cx} {cls : Str → Addr} {W : WX} {Φ : Nat → Spec} {a b tg : Expr} {ea eb : E} {pos p : Pos}
theorem f_nil : PTs X [] (TFd X.K Φ .nil) := ⟨fun pins st σ H Q I ⟨ρ, μ, er, s, h⟩ => pts_nil.run pins st σ H Q I (by
  simp only [wpIf] at h
  exact h H s Ext.refl)⟩
theorem f_one (h : PT X a (TTd X.K cls W0 Φ ea)) : PTs X [a] (TFd X.K Φ (.cons ea .nil)) := ⟨fun pins st σ H Q I ⟨ρ, μ, er, s, q⟩ => (pts_one h).run pins st σ H Q I (by
  simp only [wpIf] at q
  refine ⟨ρ, μ, er, s, wpE_mono (fun _ _ z => z.elim) ea _ _ _ _ (fun d μ1 q1 => ?_) q⟩
  unfold finT
  split at q1
  · rename_i e; rw [e]; exact q1
  · rename_i e; rw [e]; exact q1
  · exact q1.elim)⟩
theorem lc_read {tgd : Tg} {it : I} {ifs : Es} {elt : E} {vs : List Nat} (hsl : ∀ i ∈ slots tgd, i ∈ vs) {σ : L2.St} {H : Hp} {P : VK} (h : TEd X.K cls W Φ (.comp tgd it ifs elt vs) σ H P) :
    tLc (TId X.K cls W Φ it) (gD X.K tgd) (TFd X.K Φ ifs) (TEd X.K cls W0 Φ elt) vs σ H P := by
  obtain ⟨ρ, μ, er, s, h⟩ := h
  simp only [wpE] at h
  refine ⟨ρ, μ, er, s, wpI_mono (fun _ _ z => z) it _ _ _ _ (fun ds live μ1 h1 J H1 s1 x1 hJ Dl hD => ?_) h⟩
  have m1 : μ1 Dl = none := s1.none_of hD
  refine ⟨fun i m Hc => i + m = ds.length ∧ ∃ μ2 accV acc, SRep X.K Hc μ2 ∧ Ext H1 μ1 Hc μ2 ∧ Hc Dl = some (.lst accV) ∧ μ2 Dl = none ∧ Reps X.K Hc accV acc ∧
    compL tgd (fun ρ' μ' R => wpIf Φ ifs ρ' μ' R) (fun ρ' μ' R => wpE Φ (fun _ _ => False) elt ρ' μ' R) live (wipeR ρ vs) (ds.drop i) acc μ2 fun acc μ' => newL acc μ' (fin X.K H μ P), ⟨ds.length, ?_⟩, ?_⟩
  · exact ⟨by omega, μ1, [], [], s1.new hD, Ext.new hD m1, upd_same, m1, .nil, by rw [List.drop_zero]; exact h1⟩
  · rintro i m Hc ⟨hi, μ2, accV, acc, s2, x2, d2, n2, ra, hl⟩
    by_cases hlt : i < ds.length
    · rw [List.drop_eq_getElem_cons hlt] at hl
      unfold compL at hl
      obtain ⟨l2, hl⟩ := hl
      obtain ⟨j1, _⟩ := hJ i Hc μ2 s2 x2 l2
      obtain ⟨go, yl⟩ := j1 ds[i] (List.getElem?_eq_getElem hlt)
      refine .inr ⟨go, fun H' => ∃ μ2 accV acc, SRep X.K H' μ2 ∧ Ext H1 μ1 H' μ2 ∧ H' Dl = some (.lst accV) ∧ μ2 Dl = none ∧ Reps X.K H' accV acc ∧
        compL tgd (fun ρ' μ' R => wpIf Φ ifs ρ' μ' R) (fun ρ' μ' R => wpE Φ (fun _ _ => False) elt ρ' μ' R) live (wipeR ρ vs) (ds.drop (i + 1)) acc μ2 fun acc μ' => newL acc μ' (fin X.K H μ P), fun H' q => ⟨m - 1, by omega, by omega, q⟩, fun y H' hy => ?_⟩
      obtain ⟨ry, s3, x3⟩ := yl y H' hy
      have x13 := x2.trans x3
      have er3 : ERep X.K H' (wipe σ vs) (wipeR ρ vs) := (er.ext s (x1.trans x13)).wipe vs
      split at hl
      · exact hl.elim
      · rename_i ρ' e'
        refine ⟨ds[i], wipeR ρ vs, μ2, ρ', ry, er3, s3, e', fun σ2 er2 w2 => ⟨?_, ρ', μ2, er2, s3, wpIf_mono ifs _ _ _ _ (fun b μ3 q3 H3 s4 x4 => ?_) hl⟩⟩
        · rw [w2 vs hsl, wipe_wipe]
        · obtain ⟨d3, n3⟩ := x3 _ _ d2 n2
          obtain ⟨d4, n4⟩ := x4 _ _ d3 n3
          have ra4 := (ra.ext s2 x3).ext s3 x4
          cases b with
          | true =>
            refine iteT ?_
            have q3 := q3
            rw [if_pos rfl] at q3
            refine ⟨ρ', μ3, er2.ext s3 x4, s4, wpE_mono (fun _ _ z => z.elim) elt _ _ _ _ (fun d μ4 q4 v H4 rv s5 x5 => ?_) q3⟩
            obtain ⟨d5, n5⟩ := x5 _ _ d4 n4
            refine ⟨accV, d5, by rw [ra.length]; exact q4.1, μ4, accV ++ [v], acc ++ [d], ?_, ?_, upd_same, n5, ?_, q4.2⟩
            · exact s5.keeps (Keeps.upd d5) fun c o e => upd_ne fun z => by rw [z, n5] at e; cases e
            · intro c o e1 e2
              obtain ⟨g1, g2⟩ := (x13.trans (x4.trans x5)) c o e1 e2
              exact ⟨by rw [upd_ne fun z => by rw [z, hD] at e1; cases e1]; exact g1, g2⟩
            · exact ((ra4.ext s4 x5).keeps (Keeps.upd d5)).append (.cons (rv.keeps (Keeps.upd d5)) .nil)
          | false =>
            refine iteF ?_
            rw [if_neg Bool.false_ne_true] at q3
            exact ⟨μ3, accV, acc, s4, x13.trans x4, d4, n4, ra4, q3⟩
    · have hi' : i = ds.length := by omega
      rw [List.drop_of_length_le (by omega)] at hl
      unfold compL at hl
      obtain ⟨_, j2⟩ := hJ i Hc μ2 s2 x2 hl.1
      refine .inl ⟨j2 (by omega), ?_⟩
      refine hl.2 Dl n2 _ Hc (.ref Dl) ?_ ?_
      · intro c o e
        by_cases hc : c = Dl
        · subst hc
          rw [up_same] at e
          cases e
          exact ⟨accV, d2, ra⟩
        · rw [up_ne hc] at e
          exact s2 c o e
      · intro c o e1 e2
        obtain ⟨g1, g2⟩ := (x1.trans x2) c o e1 e2
        obtain ⟨k1, _⟩ := x1 c o e1 e2
        refine ⟨g1, ?_⟩
        rw [up_ne fun z => by rw [z, hD] at k1; cases k1]
        exact g2
theorem d_comp {elt iter : Expr} {ifs : List Expr} {scope : Scope} {own : List (Str × Nat)} {tgd : Tg} {it : I} {eifs : Es} {eelt : E} (hc : X.calm = true) (hN : X.N.Nodup) (hi : PI X tg iter (TId X.K cls W Φ it)) (ok : BlkOk X.N X.env.scope scope own)
    (hg : ∀ (s : Shared) (H : Hp) (C : Addr) (cl : List (Str × Addr)) (fp : List Addr), PG (X.blk s H scope (compEnvC scope cl C X.env) fp) tg (gD X.K tgd)) (ht : ∀ (s : Shared) (H : Hp) (C : Addr) (cl : List (Str × Addr)) (fp : List Addr), PTs (X.blk s H scope (compEnvC scope cl C X.env) fp) ifs (TFd X.K Φ eifs))
    (he : ∀ (s : Shared) (H : Hp) (C : Addr) (cl : List (Str × Addr)) (fp : List Addr), PE (X.blk s H scope (compEnvC scope cl C X.env) fp) elt (TEd X.K cls W0 Φ eelt)) (hs : ∀ x, foldedSetIterable iter X.env x = pure x) (hsl : ∀ i ∈ slots tgd, i ∈ own.map (·.2)) :
    PE X (.ListComp elt [⟨tg, iter, ifs, 0⟩] scope pos) (TEd X.K cls W Φ (.comp tgd it eifs eelt (own.map (·.2)))) :=
  (pe_lc hc hN hi ok hg ht he hs).weak fun σ H P h => lc_read hsl h
end
end LD
namespace LD
open PySem PySem.Spec PyProof.Rows L2

structure GOk (G : GC) (P : Program) (w : World) (K : PySem.W.Frag) (mg : Str → Option Value) (base : Heap) (cls : Str → Addr) (Φ : Nat → Spec) (k : Nat) : Prop where
  fns : ∀ x f ps pats, G.fns.lookup x = some (f, ps, pats) → ∃ fa fd, mg x = some (.ref fa) ∧ PySem.W.keepIn K (.ref fa) = true ∧ FnOk P w K mg base (L2.CX P w) k fa fd ps (spD K cls ps.length (Φ f)) ∧
    ∀ np kn perm, pats.contains (np, kn) = true → permOf ps np kn = some perm → ∀ (s : Shared) (us ws : List Value), K.In s.heap → us.length = np → ws.length = kn.length → BindsTo s fd ⟨us, kn.zip ws⟩ (ps.zip (permA .none perm (us ++ ws)))
  cons : ∀ x d, G.cons.lookup x = some d → ∃ v u, mg x = some u ∧ RelV v u ∧ ∀ H, Rep K H v d
  free : ∀ x, G.free.contains x = true → mg x = none
  gcd : G.gcd = true → mg "gcd" = some (.builtin "math.gcd")
  excs : ∀ x, G.excs.contains x = true → mg x = some (.ref (cls x)) ∧ PySem.W.excIn K (cls x) He.veBase "ValueError.__new__" = true ∧ PySem.W.keepIn K (.ref (cls x)) = true ∧ PySem.W.subIn K (.ref (cls x)) (.type "BaseException") = some true ∧ PySem.W.typeIn K (.ref (cls x)) = some (.type "type")
/-- where one stands -/
structure Ctx (G : GC) (cls : Str → Addr) (Φ : Nat → Spec) (k : Nat) (L : LC) (X : Cx) (W : WX) : Prop where
  g : GOk G X.prog X.w X.K X.mg X.base cls Φ k
  s : StOk L X
  room : L.calm = true → Room k X.A
  units : X.A.units + 65 < cLine
  tk : Takes X W
section
variable {G : GC} {cls : Str → Addr} {Φ : Nat → Spec} {k : Nat}
theorem Ctx.blk {L : LC} {X : Cx} {W : WX} (c : Ctx G cls Φ k L X W) (scope : Scope) (s : Shared) (H : Hp) (C : Addr) (cl : List (Str × Addr)) (fp : List Addr) :
    Ctx G cls Φ k ⟨L.N, relS scope L.sc, some scope.names, L.calm⟩ (X.blk s H scope (compEnvC scope cl C X.env) fp) W0 where
  g := c.g
  s := by
    refine ⟨c.s.N, c.s.nd, ?_, c.s.calm, fun x h => ?_⟩
    · show relS scope X.env.scope = relS scope L.sc
      rw [c.s.sc]
    · unfold stOk at h
      dsimp only at h
      rw [Bool.or_eq_true, decide_eq_true_eq, decide_eq_true_eq] at h
      rcases h with h | h
      · refine .inr ?_
        show (relS scope X.env.scope).names.lookup x = _
        rw [c.s.sc]
        exact h
      · refine .inl ?_
        show (scope.names.lookup x == some .cell) = true
        rw [h]
        rfl
  room := c.room
  units := c.units
  tk := takes0
theorem cE_star {L : LC} {n : Nat} {e : Expr} {t : E} (h : cE G L n e = some t) : isStar e = false := by
  cases n with
  | zero => simp [cE] at h
  | succ n => cases e with
    | Starred => simp [cE] at h
    | _ => rfl
theorem cEs_star {L : LC} : ∀ {n : Nat} {es : List Expr} {ts : Es}, cEs G L n es = some ts → ∀ e ∈ es, isStar e = false
  | 0, _, _, h => by simp [cEs] at h
  | n + 1, [], _, _ => fun _ he => by cases he
  | n + 1, e :: es, ts, h => by
    simp only [cEs] at h
    split at h
    · rename_i t ts' e1 e2
      intro a ha
      rcases List.mem_cons.mp ha with q | q
      · subst q; exact cE_star e1
      · exact cEs_star e2 a q
    · cases h
theorem cE_set {L : LC} {n : Nat} {e : Expr} {t : E} (h : cE G L n e = some t) : (∀ elts kk p, e ≠ .Set elts kk p) ∧ ∀ lo hi st p, e ≠ .Slice lo hi st p := by
  cases n with
  | zero => simp [cE] at h
  | succ n => cases e with
    | Set => simp [cE] at h
    | Slice => simp [cE] at h
    | _ =>
      constructor
      · intros; intro z; cases z
      · intros; intro z; cases z
theorem behind_ok {L : LC} {n : Nat} {e : Expr} {t : E} (op : CmpOp) (h : cE G L n e = some t) : behindInMarks op e = false := by
  have := (cE_set h).1
  cases e <;> first
    | rfl
    | exact absurd rfl (this _ _ _)
theorem fold_ok {L : LC} {n : Nat} {e : Expr} {t : E} {env : Env} (h : cE G L n e = some t) : ∀ x, foldedSetIterable e env x = pure x := by
  have := (cE_set h).1
  cases e <;> first
    | (intro _; rfl)
    | exact absurd rfl (this _ _ _)
theorem ix_plain {L : LC} {n : Nat} {e : Expr} {t : E} (h : cE G L n e = some t) : PlainIx e := by
  have := (cE_set h).2
  cases e <;> first
    | exact fun _ _ => rfl
    | exact absurd rfl (this _ _ _ _)
theorem wpEs_len {L : LC} : ∀ {n : Nat} {es : List Expr} {ts : Es}, cEs G L n es = some ts → ∀ X ρ μ Q, wpEs Φ X ts ρ μ Q → wpEs Φ X ts ρ μ fun ds μ' => ds.length = es.length ∧ Q ds μ'
  | 0, _, _, h => by simp [cEs] at h
  | n + 1, [], ts, h => by
    simp only [cEs] at h
    cases h
    intro X ρ μ Q h
    simp only [wpEs] at h ⊢
    exact ⟨rfl, h⟩
  | n + 1, e :: es, ts, h => by
    simp only [cEs] at h
    split at h
    · rename_i t ts' e1 e2
      cases h
      intro X ρ μ Q h
      simp only [wpEs] at h ⊢
      refine wpE_mono (fun _ _ z => z) t _ _ _ _ (fun d μ1 h1 => ?_) h
      exact wpEs_mono (fun _ _ z => z) ts' _ _ _ _ (fun ds μ2 h2 => ⟨by rw [List.length_cons, List.length_cons, h2.1], h2.2⟩) (wpEs_len e2 _ _ _ _ h1)
    · cases h
theorem wpKs_len {L : LC} : ∀ {n : Nat} {es : List Keyword} {ts : Es}, cKs G L n es = some ts → ∀ X ρ μ Q, wpEs Φ X ts ρ μ Q → wpEs Φ X ts ρ μ fun ds μ' => ds.length = es.length ∧ Q ds μ'
  | 0, _, _, h => by simp [cKs] at h
  | n + 1, [], ts, h => by
    simp only [cKs] at h
    cases h
    intro X ρ μ Q h
    simp only [wpEs] at h ⊢
    exact ⟨rfl, h⟩
  | n + 1, ⟨_, e, _⟩ :: es, ts, h => by
    simp only [cKs] at h
    split at h
    · rename_i t ts' e1 e2
      cases h
      intro X ρ μ Q h
      simp only [wpEs] at h ⊢
      refine wpE_mono (fun _ _ z => z) t _ _ _ _ (fun d μ1 h1 => ?_) h
      exact wpEs_mono (fun _ _ z => z) ts' _ _ _ _ (fun ds μ2 h2 => ⟨by rw [List.length_cons, List.length_cons, h2.1], h2.2⟩) (wpKs_len e2 _ _ _ _ h1)
    · cases h
theorem perm_len {ps : List Str} {np : Nat} {ks : List Str} {perm : List Nat} (h : permOf ps np ks = some perm) : perm.length = ps.length := by
  unfold permOf at h
  have go : ∀ (l : List Nat) (f : Nat → Option Nat) (r : List Nat), l.mapM f = some r → r.length = l.length := by
    intro l f
    induction l with
    | nil => intro r h; rw [List.mapM_nil] at h; cases h; rfl
    | cons x xs ih =>
      intro r h
      rw [List.mapM_cons] at h
      cases e : f x with
      | none => rw [e] at h; cases h
      | some y =>
        rw [e] at h
        cases e2 : xs.mapM f with
        | none => rw [e2] at h; cases h
        | some ys =>
          rw [e2] at h
          cases h
          rw [List.length_cons, List.length_cons, ih _ e2]
  rw [go _ _ _ h, List.length_range]
variable (G cls Φ k) in
structure Snd (n : Nat) : Prop where
  e : ∀ {L : LC} {X : Cx} {W : WX}, Ctx G cls Φ k L X W → ∀ {e : Expr} {e' : E}, cE G L n e = some e' → PE X e (TEd X.K cls W Φ e')
  t : ∀ {L : LC} {X : Cx} {W : WX}, Ctx G cls Φ k L X W → ∀ {e : Expr} {e' : E}, cE G L n e = some e' → PT X e (TTd X.K cls W Φ e')
  w : ∀ {L : LC} {X : Cx} {W : WX}, Ctx G cls Φ k L X W → ∀ {op : BoolOp} {es : List Expr} {pos : Pos} {e' : E}, cE G L n (.BoolOp op es pos) = some e' → PW X (.BoolOp op es pos) (TTd X.K cls W Φ e')
  es : ∀ {L : LC} {X : Cx} {W : WX}, Ctx G cls Φ k L X W → ∀ {e : List Expr} {e' : Es}, cEs G L n e = some e' → PA X e (TAd X.K cls W Φ e')
  ks : ∀ {L : LC} {X : Cx} {W : WX}, Ctx G cls Φ k L X W → ∀ {e : List Keyword} {e' : Es}, cKs G L n e = some e' → PK X e (TAd X.K cls W Φ e')
  o : ∀ {L : LC} {X : Cx} {W : WX}, Ctx G cls Φ k L X W → ∀ {e : Option Expr} {e' : O}, cO G L n e = some e' → PO X e (TOd X.K cls W Φ e')
  i : ∀ {L : LC} {X : Cx} {W : WX}, Ctx G cls Φ k L X W → ∀ {tg e : Expr} {e' : I}, cI G L n tg e = some e' → PI X tg e (TId X.K cls W Φ e')
theorem okName_ok {x : Str} (h : okName x = true) : (x == ("__debug__" : Str)) = false ∧ (x == ("__classdict__" : Str)) = false ∧ x ≠ "__name__" := by
  unfold okName at h
  rw [Bool.and_eq_true, Bool.and_eq_true, Bool.not_eq_true', Bool.not_eq_true', Bool.not_eq_true', decide_eq_false_iff_not] at h
  exact ⟨h.1.1, h.1.2, h.2⟩
theorem isGl_ok {L : LC} {X : Cx} (c : StOk L X) {x : Str} (h : isGl L x = true) : Gl X x := by
  unfold isGl at h
  have := of_decide_eq_true h
  show X.env.scope.names.lookup x = _
  rw [c.sc]
  exact this
theorem cName_ok {L : LC} {X : Cx} {W : WX} (c : Ctx G cls Φ k L X W) {x : Str} {pos : Pos} {e' : E} (h : cName G L x = some e') : PE X (.Name x pos) (TEd X.K cls W Φ e') := by
  unfold cName at h
  split at h
  · rename_i ok
    obtain ⟨n1, n2, n3⟩ := okName_ok ok
    split at h
    · rename_i i e
      cases h
      unfold cVar at e
      have hv : ∀ {kd : NameKind}, L.sc.names.lookup x = some kd → (kd = .local ∨ kd = .cell ∨ kd = .free) → Vis X.env.scope x := fun {kd} q r => by
        unfold Vis
        rw [c.s.sc, q]
        rcases r with r | r | r <;> subst r
        · exact .inl rfl
        · exact .inr (.inl rfl)
        · exact .inr (.inr rfl)
      split at e
      · rename_i q; exact d_v (by rw [c.s.N]; exact ixOf_ok e) (hv q (.inl rfl)) n1 n2
      · rename_i q; exact d_v (by rw [c.s.N]; exact ixOf_ok e) (hv q (.inr (.inl rfl))) n1 n2
      · rename_i q; exact d_v (by rw [c.s.N]; exact ixOf_ok e) (hv q (.inr (.inr rfl))) n1 n2
      · cases e
    · split at h
      · rename_i hg
        cases q : G.cons.lookup x with
        | none => rw [q] at h; cases h
        | some d =>
          rw [q] at h
          cases h
          obtain ⟨v, u, h1, h2, h3⟩ := c.g.cons x d q
          exact d_c (pe_glob (isGl_ok c.s hg) h1 h2 n1) h3
      · cases h
  · cases h
end
end LD
namespace LD
open PySem PySem.Spec PyProof.Rows L2
section
variable {G : GC} {cls : Str → Addr} {Φ : Nat → Spec} {k : Nat}
theorem own_mem {N : List Str} {scope : Scope} {tg : Tg} (h : ((slots tg).all fun i => ((ownOf N scope).map (·.2)).contains i) = true) : ∀ i ∈ slots tg, i ∈ (ownOf N scope).map (·.2) := by
  rw [List.all_eq_true] at h
  intro i hi
  have := h i hi
  exact List.contains_iff_mem.mp this
theorem cI_fold {L : LC} {n : Nat} {tg e : Expr} {i : I} {env : Env} (h : cI G L n tg e = some i) : ∀ x, foldedSetIterable e env x = pure x := by
  cases n with
  | zero => simp [cI] at h
  | succ n =>
    cases e with
    | Set =>
      simp only [cI] at h
      cases q : cE G L n (.Set _ _ _) with
      | none => rw [q] at h; cases h
      | some t => exact fold_ok q
    | _ => intro _; rfl
theorem snd_e {n : Nat} (ih : Snd G cls Φ k n) {L : LC} {X : Cx} {W : WX} (c : Ctx G cls Φ k L X W) {e : Expr} {e' : E} (h : cE G L (n + 1) e = some e') : PE X e (TEd X.K cls W Φ e') := by
  unfold cE at h
  split at h
  · cases h; exact d_c pe_int fun _ => .int _
  · cases h; exact d_c pe_bl fun _ => .bl _
  · cases h; exact d_c pe_non fun _ => .non
  · cases h; exact d_c pe_str fun _ => .str _
  · exact cName_ok c h
  · split at h
    · rename_i h1 h2; cases h; exact d_bin (ih.e c h1) (ih.e c h2)
    · cases h
  · rename_i a pos
    cases q : cE G L n a with
    | none => rw [q] at h; cases h
    | some a' => rw [q] at h; cases h; exact d_neg (ih.e c q)
  · rename_i a pos
    cases q : cE G L n a with
    | none => rw [q] at h; cases h
    | some a' => rw [q] at h; cases h; exact d_not (ih.e c q)
  · split at h
    · exact pe_one (ih.e c h)
    · split at h
      · rename_i h1 h2
        cases h
        split
        · exact d_and (ih.e c h1) (ih.e c h2)
        · exact d_or (ih.e c h1) (ih.e c h2)
      · cases h
  · split at h
    · rename_i h1 h2 h3; cases h; exact d_ite (ih.t c h1) (ih.e c h2) (ih.e c h3)
    · cases h
  · split at h
    · rename_i h1 h2; cases h; exact d_cmp c.units (ih.e c h1) (ih.e c h2) (behind_ok _ h2)
    · cases h
  · split at h
    · rename_i h1 h2 h3; cases h; exact d_chn c.units (ih.e c h1) (ih.e c h2) (ih.e c h3) (behind_ok _ h3)
    · cases h
  · rename_i es _ _
    cases q : cEs G L n es with
    | none => rw [q] at h; cases h
    | some a' => rw [q] at h; cases h; exact d_tup (ih.es c q)
  · rename_i es _
    cases q : cEs G L n es with
    | none => rw [q] at h; cases h
    | some a' => rw [q] at h; cases h; exact d_lst (ih.es c q)
  · rename_i a _ _ _ _ _
    cases q : cE G L n a with
    | none => rw [q] at h; cases h
    | some a' => rw [q] at h; cases h; exact d_rev (ih.e c q)
  · split at h
    · rename_i h1 h2 h3; cases h; exact d_sl (ih.e c h1) (ih.o c h2) (ih.o c h3)
    · cases h
  · split at h
    · rename_i h1 h2; cases h; exact d_ix (ih.e c h1) (ih.e c h2) (ix_plain h2)
    · cases h
  · -- a call of a name
    rename_i x p args kws pos
    split at h
    · rename_i hk
      rw [Bool.and_eq_true] at hk
      obtain ⟨n1, n2, n3⟩ := okName_ok hk.1
      have hg := isGl_ok c.s hk.2
      split at h
      · rename_i f ps pats q
        split at h
        · rename_i kn hkn
          split at h
          · rename_i hp
            rw [Bool.and_eq_true] at hp
            split at h
            · rename_i perm as ks e1 e2 e3
              cases h
              obtain ⟨fa, fd, m1, m2, m3, m4⟩ := c.g.fns x f ps pats q
              have hkl := (kw_names (env := X.env) (pos := pos) hkn).2.2.2
              refine d_call m3 (c.room hp.1) c.tk hg m1 m2 (fun s us ws ks h1 h2 => m4 _ kn perm hp.2 e1 s us ws ks h1 h2) (perm_len e1) (ih.es c e2) (ih.ks c e3) hkn (cEs_star e2) n1 (fun e => ?_) (fun e => ?_) (wpEs_len e2) (by rw [← hkl]; exact wpKs_len e3)
              · subst e
                cases n with
                | zero => simp [cEs] at e2
                | succ n => simp only [cEs] at e2; cases e2; rfl
              · subst e
                cases n with
                | zero => simp [cKs] at e3
                | succ n => simp only [cKs] at e3; cases e3; rfl
            · cases h
          · cases h
        · cases h
      · split at h
        · rename_i hc
          rw [Bool.and_eq_true] at hc
          have hcalm : X.calm = true := by rw [c.s.calm]; exact hc.2
          have hkws : kws = [] := by
            cases kws with
            | nil => rfl
            | cons _ _ => cases hc.1
          subst hkws
          split at h
          · rename_i hx
            subst hx
            split at h
            · rename_i hf
              split at h
              · split at h
                · rename_i hh
                  simp only [Bool.and_eq_true] at hh
                  split at h
                  · rename_i a' ty e1 e2
                    cases h
                    obtain ⟨k1, k2, k3⟩ := okName_ok hh.2
                    exact d_isi1 e2 hg (c.g.free _ hf) (isGl_ok c.s hh.1.2) (c.g.free _ hh.1.1) k3 k1 (cE_star e1) (ih.e c e1)
                  · cases h
                · cases h
              · split at h
                · rename_i hh
                  simp only [Bool.and_eq_true] at hh
                  split at h
                  · rename_i a' ty ty2 e1 e2 e3
                    cases h
                    obtain ⟨⟨⟨⟨⟨g1, g2⟩, g3⟩, g4⟩, g5⟩, g6⟩ := hh
                    obtain ⟨k1, k2, k3⟩ := okName_ok g3
                    obtain ⟨l1, l2, l3⟩ := okName_ok g6
                    exact d_isi2 e2 e3 hg (c.g.free _ hf) (isGl_ok c.s g2) (c.g.free _ g1) k3 k1 (isGl_ok c.s g5) (c.g.free _ g4) l3 l1 (cE_star e1) (ih.e c e1)
                  · cases h
                · cases h
              · cases h
            · cases h
          · split at h
            · rename_i hx
              subst hx
              split at h
              · rename_i hh
                rw [Bool.and_eq_true] at hh
                cases args with
                | nil => cases hh.2
                | cons a args =>
                  cases q : cEs G L n (a :: args) with
                  | none => rw [q] at h; cases h
                  | some as =>
                    rw [q] at h
                    cases h
                    exact d_gcd hcalm c.units hg (c.g.gcd hh.1) (cEs_star q) (ih.es c q) n1
              · cases h
            · split at h
              · rename_i hh
                rw [Bool.and_eq_true] at hh
                cases args with
                | nil => cases hh.2
                | cons a args =>
                  split at h
                  · rename_i b as e1 e2
                    cases h
                    exact d_bi hcalm c.units e1 hg (c.g.free _ hh.1) (cEs_star e2) (ih.es c e2) n3 n1
                  · cases h
              · cases h
        · cases h
    · cases h
  · -- a method with an argument
    split at h
    · rename_i hk
      rw [Bool.and_eq_true] at hk
      split at h
      · rename_i e1 e2
        split at h
        · rename_i hm
          subst hm
          cases h
          exact d_app hk.1 hk.2 (cE_star e2) (ih.e c e1) (ih.e c e2)
        · split at h
          · rename_i hm
            subst hm
            cases h
            exact d_ext hk.1 hk.2 (cE_star e2) (ih.e c e1) (ih.e c e2)
          · cases h
      · cases h
    · cases h
  · split at h
    · rename_i hk
      rw [Bool.and_eq_true] at hk
      split at h
      · rename_i e1
        split at h
        · rename_i hm
          subst hm
          cases h
          exact d_pop hk.1 hk.2 (ih.e c e1)
        · cases h
      · cases h
    · cases h
  · -- a comprehension
    rename_i elt tg it ifs scope pos
    split at h
    · rename_i hk
      rw [Bool.and_eq_true] at hk
      have hcalm : X.calm = true := by rw [c.s.calm]; exact hk.1
      split at h
      · rename_i it' tg' ifs' elt' e1 e2 e3 e4
        split at h
        · rename_i hs
          cases h
          have ok : BlkOk X.N X.env.scope scope (ownOf L.N scope) := by
            rw [c.s.N, c.s.sc]
            exact blkOk_by hk.2
          refine d_comp hcalm c.s.nd (ih.i c e1) ok (fun s H C cl fp => d_tg (c.blk scope s H C cl fp).s n tg tg' e2) (fun s H C cl fp => ?_) (fun s H C cl fp => ih.e (c.blk scope s H C cl fp) e4) (cI_fold e1) (own_mem hs)
          split at e3
          · cases e3; exact f_nil
          · split at e3
            · rename_i g1
              cases e3
              exact f_one (ih.t (c.blk scope s H C cl fp) g1)
            · cases e3
          · cases e3
        · cases h
      · cases h
    · cases h
  · cases h
end
end LD
namespace LD
open PySem PySem.Spec PyProof.Rows L2
section
variable {G : GC} {cls : Str → Addr} {Φ : Nat → Spec} {k : Nat}
theorem t_ite {X : Cx} {W : WX} {a b c : Expr} {ea eb ec : E} {pos : Pos} (hc : PT X c (TTd X.K cls W Φ ec)) (ha : PT X a (TTd X.K cls W Φ ea)) (hb : PT X b (TTd X.K cls W Φ eb)) : PT X (.IfExp c a b pos) (TTd X.K cls W Φ (.ite ec ea eb)) := by
  refine ⟨fun pins st σ H Q I h => ?_⟩
  obtain ⟨ρ, μ, er, s, h⟩ := h
  simp only [wpE] at h
  show wpAny (model X.prog X.w) X.A (do if ← isTrue c X.env (eval c X.env) then isTrue a X.env (eval a X.env) else isTrue b X.env (eval b X.env)) _ _ _
  refine wpAny_bind (thn (hc.run pins st σ H (fun d H1 => if d = true then TTd X.K cls W Φ ea σ H1 Q else TTd X.K cls W Φ eb σ H1 Q) I (TTd.first er s h fun d μ1 h1 => ?_)) fun d s1 ⟨H1, I1, q1⟩ => ?_)
  · unfold finT
    split at h1
    · rename_i e
      rw [e]
      exact fun H1 s1 x1 => iteT (TTd.next er s s1 x1 h1 fun d μ' q => q.trans x1)
    · rename_i e
      rw [e]
      exact fun H1 s1 x1 => iteF (TTd.next er s s1 x1 h1 fun d μ' q => q.trans x1)
    · exact h1.elim
  · cases d with
    | true => exact ha.run pins s1 σ H1 Q I1 q1
    | false => exact hb.run pins s1 σ H1 Q I1 q1
theorem snd_w {n : Nat} (ih : Snd G cls Φ k n) {L : LC} {X : Cx} {W : WX} (c : Ctx G cls Φ k L X W) {op : BoolOp} {es : List Expr} {pos : Pos} {e' : E} (h : cE G L (n + 1) (.BoolOp op es pos) = some e') : PW X (.BoolOp op es pos) (TTd X.K cls W Φ e') := by
  simp only [cE] at h
  cases es with
  | nil => cases h
  | cons a r =>
    cases r with
    | nil =>
      cases op with
      | And => exact pw_and1 (ih.t c h)
      | Or => exact pw_or1 (ih.t c h)
    | cons b r =>
      dsimp only at h
      split at h
      · rename_i h1 h2
        cases h
        cases op with
        | And => exact w_and (ih.t c h1) (ih.w c h2)
        | Or => exact w_or (ih.t c h1) (ih.w c h2)
      · cases h
theorem snd_t {n : Nat} (ih : Snd G cls Φ k n) {L : LC} {X : Cx} {W : WX} (c : Ctx G cls Φ k L X W) {e : Expr} {e' : E} (h : cE G L (n + 1) e = some e') : PT X e (TTd X.K cls W Φ e') := by
  cases e with
  | BoolOp op es pos => exact (snd_w ih c h).pt
  | UnaryOp op a pos =>
    cases op with
    | Not =>
      have h' : (cE G L n a).map E.not = some e' := by simpa only [cE] using h
      cases q : cE G L n a with
      | none => rw [q] at h'; cases h'
      | some a' => rw [q] at h'; cases h'; exact t_not (ih.t c q)
    | USub => exact d_tru (snd_e ih c h) fun _ => rfl
    | UAdd => simp [cE] at h
    | Invert => simp [cE] at h
  | IfExp t a b pos =>
    simp only [cE] at h
    split at h
    · rename_i h1 h2 h3; cases h; exact t_ite (ih.t c h1) (ih.t c h2) (ih.t c h3)
    · cases h
  | Compare a ops bs pos =>
    unfold cE at h
    split at h <;> first
      | (rename_i e; cases e; done)
      | skip
    all_goals first
      | (rename_i q; cases q
         split at h
         · rename_i h1 h2; cases h; exact t_cmp c.units (ih.e c h1) (ih.e c h2) (behind_ok _ h2)
         · cases h)
      | (rename_i q; cases q
         split at h
         · rename_i h1 h2 h3; cases h; exact t_chn c.units (ih.e c h1) (ih.e c h2) (ih.e c h3) (behind_ok _ h3)
         · cases h)
      | cases h
  | Set => simp [cE] at h
  | _ => exact d_tru (snd_e ih c h) fun _ => rfl
theorem snd : ∀ n, Snd G cls Φ k n
  | 0 => by
    refine ⟨?_, ?_, ?_, ?_, ?_, ?_, ?_⟩
    · intros; rename_i h; simp [cE] at h
    · intros; rename_i h; simp [cE] at h
    · intros; rename_i h; simp [cE] at h
    · intros; rename_i h; simp [cEs] at h
    · intros; rename_i h; simp [cKs] at h
    · intros; rename_i h; simp [cO] at h
    · intros; rename_i h; simp [cI] at h
  | n + 1 => by
    have ih := snd n
    refine ⟨fun c _ _ h => snd_e ih c h, fun c _ _ h => snd_t ih c h, fun c _ _ _ _ h => snd_w ih c h, ?_, ?_, ?_, ?_⟩
    · intro L X W c e e' h
      cases e with
      | nil => simp only [cEs] at h; cases h; exact a_nil
      | cons e es =>
        simp only [cEs] at h
        split at h
        · rename_i h1 h2; cases h; exact a_cons (cE_star h1) (ih.e c h1) (ih.es c h2)
        · cases h
    · intro L X W c e e' h
      cases e with
      | nil => simp only [cKs] at h; cases h; exact k_nil
      | cons e es =>
        obtain ⟨nm, e, kp⟩ := e
        simp only [cKs] at h
        split at h
        · rename_i h1 h2; cases h; exact k_cons (ih.e c h1) (ih.ks c h2)
        · cases h
    · intro L X W c e e' h
      cases e with
      | none => simp only [cO] at h; cases h; exact o_none
      | some e =>
        have h' : (cE G L n e).map O.so = some e' := by simpa only [cO] using h
        cases q : cE G L n e with
        | none => rw [q] at h'; cases h'
        | some a' => rw [q] at h'; cases h'; exact o_some (ih.e c q)
    · intro L X W c tg e e' h
      have val : ∀ {x : Option E}, x.map I.val = some e' → (∀ y, x = some y → PE X e (TEd X.K cls W Φ y)) → PI X tg e (TId X.K cls W Φ e') := fun {x} h hx => by
        cases x with
        | none => cases h
        | some y => cases h; exact i_val (hx y rfl)
      unfold cI at h
      split at h
      · rename_i x p args kws pos
        split at h
        · rename_i hk
          simp only [Bool.and_eq_true] at hk
          obtain ⟨⟨⟨⟨hk1, hk2⟩, hk3⟩, hk4⟩, hk5⟩ := hk
          have hg := isGl_ok c.s hk2
          have hkws : kws = [] := by
            cases kws with
            | nil => rfl
            | cons _ _ => cases hk4
          subst hkws
          have hm := c.g.free _ hk3
          split at h
          · rename_i a
            split at h
            · rename_i hx
              subst hx
              cases q : cE G L n a with
              | none => rw [q] at h; cases h
              | some a' => rw [q] at h; cases h; exact i_rng1 hg hm (cE_star q) (ih.e c q)
            · split at h
              · split at h
                · rename_i hx
                  subst hx
                  cases q : cE G L n a with
                  | none => rw [q] at h; cases h
                  | some a' => rw [q] at h; cases h; exact i_enu hg hm (cE_star q) (ih.e c q)
                · cases h
              · cases h
          · split at h
            · rename_i e1 e2
              split at h
              · rename_i hx
                subst hx
                cases h
                exact i_rng2 hg hm (cE_star e1) (cE_star e2) (ih.e c e1) (ih.e c e2)
              · split at h
                · split at h
                  · rename_i hx
                    subst hx
                    cases h
                    exact i_zip hg hm (cE_star e1) (cE_star e2) (ih.e c e1) (ih.e c e2)
                  · cases h
                · cases h
            · cases h
          · cases h
        · exact val h fun y q => ih.e c q
      · exact val h fun y q => ih.e c q
end
end LD
namespace LD
open PySem PySem.Spec PyProof.Rows L2

mutual
inductive S where
  | ex (e : E) | ret (e : E) | retN
  | asg (t : Tg) (e : E) | sub (o i e : E) | aug (i : Nat) (op : Operator) (e : E)
  | iff (t : E) (a b : Ss) | whl (t : E) (b : Ss) | for (tg : Tg) (it : I) (b : Ss)
  | pass | brk | cont | raise (x : Str)
inductive Ss where
  | nil | cons (s : S) (ss : Ss)
end
/-- what is wanted behind a statement -/
structure DE where
  nx : Rho → Mu → Prop
  rt : QD
  bk : Rho → Mu → Prop := fun _ _ => False
  ct : Rho → Mu → Prop := fun _ _ => False
  xx : Str → Rho → Mu → Prop := fun _ _ _ => False
structure DLe (C D : DE) : Prop where
  nx : ∀ ρ μ, C.nx ρ μ → D.nx ρ μ
  rt : ∀ d μ, C.rt d μ → D.rt d μ
  bk : ∀ ρ μ, C.bk ρ μ → D.bk ρ μ
  ct : ∀ ρ μ, C.ct ρ μ → D.ct ρ μ
  xx : ∀ x ρ μ, C.xx x ρ μ → D.xx x ρ μ
def forL (tg : Tg) (wb : DE → Rho → Mu → Prop) (live : Mu → Prop) : List D → DE → Rho → Mu → Prop
  | [], C, ρ, μ => live μ ∧ C.nx ρ μ
  | x :: xs, C, ρ, μ => live μ ∧ match tgD μ tg x ρ with
    | none => False
    | some ρ' => wb { C with nx := forL tg wb live xs C, ct := forL tg wb live xs C, bk := C.nx } ρ' μ
mutual
def wpS (Φ : Nat → Spec) : S → DE → Rho → Mu → Prop
  | .ex e, C, ρ, μ => wpE Φ (fun x μ' => C.xx x ρ μ') e ρ μ fun _ μ' => C.nx ρ μ'
  | .ret e, C, ρ, μ => wpE Φ (fun x μ' => C.xx x ρ μ') e ρ μ C.rt
  | .retN, C, _, μ => C.rt .non μ
  | .asg t e, C, ρ, μ => wpE Φ (fun x μ' => C.xx x ρ μ') e ρ μ fun d μ' => match tgD μ' t d ρ with
    | some ρ' => C.nx ρ' μ'
    | none => False
  | .sub o i e, C, ρ, μ => wpE Φ (fun x μ' => C.xx x ρ μ') e ρ μ fun v μ1 => wpE Φ (fun x μ' => C.xx x ρ μ') o ρ μ1 fun x μ2 => wpE Φ (fun x μ' => C.xx x ρ μ') i ρ μ2 fun y μ3 => setD x y v μ3 fun μ4 => C.nx ρ μ4
  | .aug i op e, C, ρ, μ => match ρ[i]? with
    | some (some x) => wpE Φ (fun x μ' => C.xx x ρ μ') e ρ μ fun y μ1 => augD op x y μ1 fun z μ2 => C.nx (ρ.set i (some z)) μ2
    | _ => False
  | .iff t a b, C, ρ, μ => wpE Φ (fun x μ' => C.xx x ρ μ') t ρ μ fun d μ1 => match tru d μ1 with
    | some true => wpSs Φ a C ρ μ1
    | some false => wpSs Φ b C ρ μ1
    | none => False
  | .whl t b, C, ρ, μ => ∃ Wd : Nat → Rho → Mu → Prop, (∃ m, Wd m ρ μ) ∧ ∀ m ρ μ, Wd m ρ μ → wpE Φ (fun x μ' => C.xx x ρ μ') t ρ μ fun d μ1 => match tru d μ1 with
    | some true => wpSs Φ b { C with nx := fun ρ' μ' => ∃ m', m' < m ∧ Wd m' ρ' μ', ct := fun ρ' μ' => ∃ m', m' < m ∧ Wd m' ρ' μ', bk := C.nx } ρ μ1
    | some false => C.nx ρ μ1
    | none => False
  | .for tg it b, C, ρ, μ => wpI Φ (fun x μ' => C.xx x ρ μ') it ρ μ fun ds live μ1 => forL tg (fun C' ρ' μ' => wpSs Φ b C' ρ' μ') live ds C ρ μ1
  | .pass, C, ρ, μ => C.nx ρ μ
  | .brk, C, ρ, μ => C.bk ρ μ
  | .cont, C, ρ, μ => C.ct ρ μ
  | .raise x, C, ρ, μ => C.xx x ρ μ
def wpSs (Φ : Nat → Spec) : Ss → DE → Rho → Mu → Prop
  | .nil, C, ρ, μ => C.nx ρ μ
  | .cons s ss, C, ρ, μ => wpS Φ s { C with nx := fun ρ' μ' => wpSs Φ ss C ρ' μ' } ρ μ
end
theorem forL_mono {tg : Tg} {wb : DE → Rho → Mu → Prop} {live : Mu → Prop} (hb : ∀ C D, DLe C D → ∀ ρ μ, wb C ρ μ → wb D ρ μ) {C B : DE} (l : DLe C B) : ∀ (xs : List D) (ρ : Rho) (μ : Mu), forL tg wb live xs C ρ μ → forL tg wb live xs B ρ μ
  | [], ρ, μ, h => ⟨h.1, l.nx _ _ h.2⟩
  | x :: xs, ρ, μ, h => by
    unfold forL at h ⊢
    refine ⟨h.1, ?_⟩
    have h2 := h.2
    split at h2
    · exact h2
    · exact hb { C with nx := forL tg wb live xs C, ct := forL tg wb live xs C, bk := C.nx } { B with nx := forL tg wb live xs B, ct := forL tg wb live xs B, bk := B.nx } ⟨forL_mono hb l xs, l.rt, l.nx, forL_mono hb l xs, l.xx⟩ _ _ h2
mutual
theorem wpS_mono {Φ : Nat → Spec} : ∀ (s : S) (C D : DE), DLe C D → ∀ ρ μ, wpS Φ s C ρ μ → wpS Φ s D ρ μ
  | .ex e, C, D, l, ρ, μ, h => by
    simp only [wpS] at h ⊢
    exact wpE_mono (fun _ _ => l.xx _ _ _) e _ _ _ _ (fun d m h => l.nx _ _ h) h
  | .ret e, C, D, l, ρ, μ, h => by
    simp only [wpS] at h ⊢
    exact wpE_mono (fun _ _ => l.xx _ _ _) e _ _ _ _ (fun d m h => l.rt _ _ h) h
  | .retN, C, D, l, ρ, μ, h => by
    simp only [wpS] at h ⊢
    exact l.rt _ _ h
  | .asg t e, C, D, l, ρ, μ, h => by
    simp only [wpS] at h ⊢
    refine wpE_mono (fun _ _ => l.xx _ _ _) e _ _ _ _ (fun d m h => ?_) h
    split at h
    · exact l.nx _ _ h
    · exact h.elim
  | .sub o i e, C, D, l, ρ, μ, h => by
    simp only [wpS] at h ⊢
    exact wpE_mono (fun _ _ => l.xx _ _ _) e _ _ _ _ (fun d m h => wpE_mono (fun _ _ => l.xx _ _ _) o _ _ _ _ (fun d m h => wpE_mono (fun _ _ => l.xx _ _ _) i _ _ _ _ (fun d m h => setD_mono (fun _ => l.nx _ _) h) h) h) h
  | .aug i op e, C, D, l, ρ, μ, h => by
    simp only [wpS] at h ⊢
    split at h
    · exact wpE_mono (fun _ _ => l.xx _ _ _) e _ _ _ _ (fun d m h => augD_mono (fun _ _ => l.nx _ _) h) h
    · exact h.elim
  | .iff t a b, C, D, l, ρ, μ, h => by
    simp only [wpS] at h ⊢
    refine wpE_mono (fun _ _ => l.xx _ _ _) t _ _ _ _ (fun d m h => ?_) h
    split at h
    · exact wpSs_mono a _ _ l _ _ h
    · exact wpSs_mono b _ _ l _ _ h
    · exact h.elim
  | .whl t b, C, D, l, ρ, μ, h => by
    simp only [wpS] at h ⊢
    obtain ⟨Wd, h0, h⟩ := h
    refine ⟨Wd, h0, fun m ρ μ w => wpE_mono (fun _ _ => l.xx _ _ _) t _ _ _ _ (fun d μ1 h => ?_) (h m ρ μ w)⟩
    split at h
    · exact wpSs_mono b { C with nx := fun ρ' μ' => ∃ m', m' < m ∧ Wd m' ρ' μ', ct := fun ρ' μ' => ∃ m', m' < m ∧ Wd m' ρ' μ', bk := C.nx } { D with nx := fun ρ' μ' => ∃ m', m' < m ∧ Wd m' ρ' μ', ct := fun ρ' μ' => ∃ m', m' < m ∧ Wd m' ρ' μ', bk := D.nx } ⟨fun _ _ z => z, l.rt, l.nx, fun _ _ z => z, l.xx⟩ _ _ h
    · exact l.nx _ _ h
    · exact h.elim
  | .for tg it b, C, D, l, ρ, μ, h => by
    simp only [wpS] at h ⊢
    exact wpI_mono (fun _ _ => l.xx _ _ _) it _ _ _ _ (fun ds live m h => forL_mono (fun C D l ρ μ h => wpSs_mono b C D l ρ μ h) l _ _ _ h) h
  | .pass, C, D, l, ρ, μ, h => by
    simp only [wpS] at h ⊢
    exact l.nx _ _ h
  | .brk, C, D, l, ρ, μ, h => by
    simp only [wpS] at h ⊢
    exact l.bk _ _ h
  | .cont, C, D, l, ρ, μ, h => by
    simp only [wpS] at h ⊢
    exact l.ct _ _ h
  | .raise x, C, D, l, ρ, μ, h => by
    simp only [wpS] at h ⊢
    exact l.xx _ _ _ h
theorem wpSs_mono {Φ : Nat → Spec} : ∀ (s : Ss) (C D : DE), DLe C D → ∀ ρ μ, wpSs Φ s C ρ μ → wpSs Φ s D ρ μ
  | .nil, C, D, l, ρ, μ, h => by
    simp only [wpSs] at h ⊢
    exact l.nx _ _ h
  | .cons s ss, C, D, l, ρ, μ, h => by
    simp only [wpSs] at h ⊢
    exact wpS_mono s { C with nx := fun ρ' μ' => wpSs Φ ss C ρ' μ' } { D with nx := fun ρ' μ' => wpSs Φ ss D ρ' μ' } ⟨fun ρ μ h => wpSs_mono ss _ _ l ρ μ h, l.rt, l.bk, l.ct, l.xx⟩ _ _ h
end

/-! ### the text turned into S -/
/-- what the two or three names' stores do: none: the model has no word -/
def swapN (sc : Scope) (ts vs : List Expr) : Option (Option (List Str)) :=
  if !(ts.length == 2 || ts.length == 3) || vs.length != ts.length then some none
  else if (vs.any fun | .Starred .. => true | _ => false) then some none
  else if ((ts.filterMap fun
    | .Name id pos => if sc.names.lookup id == some .local && pos.line == (ts.head?.map (·.pos.line)).getD 0 then some id else none
    | _ => none).length != ts.length || (ts.filterMap fun
    | .Name id pos => if sc.names.lookup id == some .local && pos.line == (ts.head?.map (·.pos.line)).getD 0 then some id else none
    | _ => none).eraseDups.length != (ts.filterMap fun
    | .Name id pos => if sc.names.lookup id == some .local && pos.line == (ts.head?.map (·.pos.line)).getD 0 then some id else none
    | _ => none).length) then some none
  else if vs.all (foldedForSure 8) then some none
  else if vs.all (constantsAlone 8) then none
  else some (some (ts.filterMap fun
    | .Name id pos => if sc.names.lookup id == some .local && pos.line == (ts.head?.map (·.pos.line)).getD 0 then some id else none
    | _ => none))
theorem swapN_ok {env : Env} {sc : Scope} {ts vs : List Expr} {k k2 : Nat} {p p2 : Pos} {r : Option (List Str)} (hs : env.scope = sc) (hk : sc.kind = .function) (h : swapN sc ts vs = some r) : swappedStores [.Tuple ts k p] (.Tuple vs k2 p2) env = pure r := by
  have hb : env.blockKind = .function := by unfold Env.blockKind; rw [hs, hk]; rfl
  have kd : ∀ x, env.kindOf x = sc.names.lookup x := fun x => by unfold Env.kindOf; rw [hs]
  unfold swappedStores
  unfold swapN at h
  simp only [hb, kd, bne_self_eq_false, Bool.or_false]
  split at h
  · rename_i c
    cases h
    exact if_pos c
  · rename_i c
    refine (if_neg c).trans ?_
    split at h
    · rename_i c2
      cases h
      exact if_pos c2
    · rename_i c2
      refine (if_neg c2).trans ?_
      split at h
      · rename_i c3
        cases h
        exact if_pos c3
      · rename_i c3
        refine (if_neg c3).trans ?_
        split at h
        · rename_i c4
          cases h
          exact if_pos c4
        · rename_i c4
          refine (if_neg c4).trans ?_
          split at h
          · cases h
          · rename_i c5
            cases h
            exact if_neg c5
end LD
namespace LD
open PySem PySem.Spec PyProof.Rows L2

def isComp : Expr → Bool
  | .ListComp .. => true
  | .SetComp .. => true
  | .DictComp .. => true
  | _ => false
def isTupE : Expr → Bool
  | .Tuple .. => true
  | _ => false
/-- a comprehension stored where it runs -/
def swapC (L : LC) (x : Str) (p p2 : Pos) (scope : Scope) : Bool := decide (L.sc.kind = .function) && decide (L.sc.names.lookup x = some .local) && (p.line == p2.line) && !(scope.names.any fun (n, k) => n == x && (k == .local || k == .cell))
mutual
def cS (G : GC) (L : LC) : Nat → Stmt → Option S
  | 0, _ => none
  | n + 1, s => match s with
    | .Expr e _ => if isComp e then none else (cE G L n e).map .ex
    | .Return (some e) _ => (cE G L n e).map .ret
    | .Return none _ => some .retN
    | .Assign [.Name x p] (.ListComp elt gs scope p2) pos => (match cTg L n (.Name x p), cE G L n (.ListComp elt gs scope p2) with
      | some t', some e' => some (.asg t' e')
      | _, _ => none)
    | .Assign [.Name x p] e _ => if isComp e then none else (match cTg L n (.Name x p), cE G L n e with
      | some t', some e' => some (.asg t' e')
      | _, _ => none)
    | .Assign [.Tuple ts k p] (.Tuple vs k2 p2) pos => if L.calm then (match cTg L n (.Tuple ts k p), cEs G L n vs, swapN L.sc ts vs with
      | some t', some es', some none => some (.asg t' (.tup es'))
      | some t', some es', some (some _) => (match ts, vs with
        | [.Name x _, .Name y _], [_, _] => if decide (L.sc.names.lookup x = some .local) && decide (L.sc.names.lookup y = some .local) && decide (x ≠ y) && decide (swapN L.sc ts vs = some (some [x, y])) then some (.asg t' (.tup es')) else none
        | [.Name x _, .Name y _, .Name z _], [_, _, _] => if decide (L.sc.names.lookup x = some .local) && decide (L.sc.names.lookup y = some .local) && decide (L.sc.names.lookup z = some .local) && decide (x ≠ y) && decide (x ≠ z) && decide (y ≠ z) && decide (swapN L.sc ts vs = some (some [x, y, z])) then some (.asg t' (.tup es')) else none
        | _, _ => none)
      | _, _, _ => none) else none
    | .Assign [.Tuple ts k p] e _ => if isTupE e then none else (match cTg L n (.Tuple ts k p), cE G L n e with
      | some t', some e' => some (.asg t' e')
      | _, _ => none)
    | .Assign [.Subscript o i p] e _ => (match cE G L n o, cE G L n i, cE G L n e with
      | some o', some i', some e' => some (.sub o' i' e')
      | _, _, _ => none)
    | .AugAssign (.Name x _) op e _ => (match cStore L x, cE G L n e with
      | some i, some e' => some (.aug i op e')
      | _, _ => none)
    | .If t a b _ => (match cE G L n t, cSs G L n a, cSs G L n b with
      | some t', some a', some b' => some (.iff t' a' b')
      | _, _, _ => none)
    | .While t b [] _ => (match cE G L n t, cSs G L n b with
      | some t', some b' => some (.whl t' b')
      | _, _ => none)
    | .For tg it b [] _ => if L.calm then (match cTg L n tg, cI G L n tg it, cSs G L n b with
      | some t', some i', some b' => some (.for t' i' b')
      | _, _, _ => none) else none
    | .Pass _ => some .pass
    | .Break _ => some .brk
    | .Continue _ => some .cont
    | .Raise (some (.Call (.Name x _) [] [] _)) none _ => if L.calm && okName x && isGl L x && G.excs.contains x then some (.raise x) else none
    | _ => none
def cSs (G : GC) (L : LC) : Nat → List Stmt → Option Ss
  | 0, _ => none
  | _ + 1, [] => some .nil
  | n + 1, s :: ss => match cS G L n s, cSs G L n ss with
    | some s', some ss' => some (.cons s' ss')
    | _, _ => none
end

/-! ### readings -/
section
variable (K : PySem.W.Frag) (cls : Str → Addr) (W : WX) (Φ : Nat → Spec)
def liftD (H : Hp) (μ : Mu) (C : Ends) : DE where
  nx := fun ρ' μ' => ∀ σ' H', ERep K H' σ' ρ' → SRep K H' μ' → Ext H μ H' μ' → C.nx σ' H'
  rt := fin K H μ C.rt
  bk := fun ρ' μ' => ∀ σ' H', ERep K H' σ' ρ' → SRep K H' μ' → Ext H μ H' μ' → C.bk σ' H'
  ct := fun ρ' μ' => ∀ σ' H', ERep K H' σ' ρ' → SRep K H' μ' → Ext H μ H' μ' → C.ct σ' H'
  xx := fun x ρ' μ' => ∀ σ' H', ERep K H' σ' ρ' → SRep K H' μ' → Ext H μ H' μ' → W (.ref (cls x)) none σ' H'
def TSd (s : S) : TS := fun C σ H => ∃ ρ μ, ERep K H σ ρ ∧ SRep K H μ ∧ wpS Φ s (liftD K cls W H μ C) ρ μ
def TSsd (s : Ss) : TS := fun C σ H => ∃ ρ μ, ERep K H σ ρ ∧ SRep K H μ ∧ wpSs Φ s (liftD K cls W H μ C) ρ μ
end
section
variable {K : PySem.W.Frag} {cls : Str → Addr} {W : WX} {Φ : Nat → Spec} {σ : L2.St} {H H1 : Hp} {μ μ1 : Mu} {C : Ends}
theorem lift_trans (x : Ext H μ H1 μ1) : DLe (liftD K cls W H μ C) (liftD K cls W H1 μ1 C) :=
  ⟨fun _ _ h σ' H' a b c => h σ' H' a b (x.trans c), fun _ _ h => h.trans x, fun _ _ h σ' H' a b c => h σ' H' a b (x.trans c), fun _ _ h σ' H' a b c => h σ' H' a b (x.trans c), fun _ _ _ h σ' H' a b c => h σ' H' a b (x.trans c)⟩
/-- what is wanted of an exception of an expression of a statement -/
theorem xx_xw {ρ : Rho} (er : ERep K H σ ρ) (s : SRep K H μ) (n : Str) (μ' : Mu) (h : (liftD K cls W H μ C).xx n ρ μ') : xw K cls W σ H μ n μ' := fun H' s' x => h σ H' (er.ext s x) s' x
theorem TEd.stmt {e : E} {ρ : Rho} {P : VK} (er : ERep K H σ ρ) (s : SRep K H μ) {Q : QD} (h : wpE Φ (fun x μ' => (liftD K cls W H μ C).xx x ρ μ') e ρ μ Q) (q : ∀ d μ', Q d μ' → fin K H μ P d μ') : TEd K cls W Φ e σ H P :=
  ⟨ρ, μ, er, s, wpE_mono (xx_xw er s) e _ _ _ _ q h⟩
theorem TTd.stmt {e : E} {ρ : Rho} {P : Bool → Hp → Prop} (er : ERep K H σ ρ) (s : SRep K H μ) {Q : QD} (h : wpE Φ (fun x μ' => (liftD K cls W H μ C).xx x ρ μ') e ρ μ Q) (q : ∀ d μ', Q d μ' → finT K H μ P d μ') : TTd K cls W Φ e σ H P :=
  ⟨ρ, μ, er, s, wpE_mono (xx_xw er s) e _ _ _ _ q h⟩
theorem TSsd.next {e : Ss} {ρ : Rho} {B : Ends} (er : ERep K H1 σ ρ) (s1 : SRep K H1 μ1) {C : DE} (h : wpSs Φ e C ρ μ1) (q : DLe C (liftD K cls W H1 μ1 B)) : TSsd K cls W Φ e B σ H1 :=
  ⟨ρ, μ1, er, s1, wpSs_mono e _ _ q _ _ h⟩
end
section
variable {X : Cx} {cls : Str → Addr} {W : WX} {Φ : Nat → Spec} {a b c : Expr} {ea eb ec : E} {pos : Pos} {sa sb : Ss} {la lb : List Stmt}
theorem s_ex (hs : swapsWith a none pos.line X.env = pure false) (ha : PE X a (TEd X.K cls W Φ ea)) : PS X (.Expr a pos) (TSd X.K cls W Φ (.ex ea)) :=
  (ps_expr ha hs).weak fun C σ H ⟨ρ, μ, er, s, h⟩ => by
    simp only [wpS] at h
    exact TEd.stmt er s h fun d μ1 h1 v H1 rv s1 x1 => h1 σ H1 (er.ext s x1) s1 x1
theorem s_ret (ha : PE X a (TEd X.K cls W Φ ea)) : PS X (.Return (some a) pos) (TSd X.K cls W Φ (.ret ea)) :=
  (ps_ret ha).weak fun C σ H ⟨ρ, μ, er, s, h⟩ => by
    simp only [wpS] at h
    exact TEd.stmt er s h fun d μ1 h1 => h1
theorem s_retN : PS X (.Return none pos) (TSd X.K cls W Φ .retN) :=
  ps_retN.weak fun C σ H ⟨ρ, μ, er, s, h⟩ => by
    simp only [wpS] at h
    exact h _ _ .non s Ext.refl
theorem asg_read {K : PySem.W.Frag} {tg : Tg} {C : Ends} {σ : L2.St} {H : Hp} (h : TSd K cls W Φ (.asg tg ea) C σ H) : tAsg (TEd K cls W Φ ea) (gD K tg) C σ H := by
  obtain ⟨ρ, μ, er, s, h⟩ := h
  simp only [wpS] at h
  refine TEd.stmt er s h fun d μ1 h1 v H1 rv s1 x1 => ?_
  split at h1
  · rename_i ρ' e
    exact ⟨d, ρ, μ1, ρ', rv, er.ext s x1, s1, e, fun σ' er' _ => h1 σ' H1 er' s1 x1⟩
  · exact h1.elim
theorem s_asg {t : Expr} {tg : Tg} (hs : swapsWithSole [t] a pos.line X.env = pure false) (hw : swappedStores [t] a X.env = pure none) (h1 : (assignEach [t] X.env).map (·.2) = [assign t X.env]) (ht : PG X t (gD X.K tg)) (ha : PE X a (TEd X.K cls W Φ ea)) :
    PS X (.Assign [t] a pos) (TSd X.K cls W Φ (.asg tg ea)) := (ps_asg ha ht hs hw h1).weak fun _ _ _ h => asg_read h
theorem s_sub {o i : Expr} {eo ei : E} {p : Pos} (hs : swapsWithSole [.Subscript o i p] a pos.line X.env = pure false) (hsl : ∀ lo hi st q, i ≠ .Slice lo hi st q) (ho : PE X o (TEd X.K cls W Φ eo)) (hi : PE X i (TEd X.K cls W Φ ei)) (ha : PE X a (TEd X.K cls W Φ ea)) :
    PS X (.Assign [.Subscript o i p] a pos) (TSd X.K cls W Φ (.sub eo ei ea)) :=
  (ps_asg ha (pg_sub ho hi set_ok (by
    intro v
    cases i <;> first
      | rfl
      | exact absurd rfl (hsl _ _ _ _))) hs rfl rfl).weak fun C σ H ⟨ρ, μ, er, s, h⟩ => by
    simp only [wpS] at h
    refine TEd.stmt er s h fun d μ1 h1 v H1 rv s1 x1 => ?_
    refine ⟨ρ, μ1, er.ext s x1, s1, wpE_mono (fun n μ' q H' s' x' => q σ H' (er.ext s (x1.trans x')) s' (x1.trans x')) eo _ _ _ _ (fun d2 μ2 h2 v2 H2 rv2 s2 x2 => ?_) h1⟩
    have x12 := x1.trans x2
    refine ⟨ρ, μ2, er.ext s x12, s2, wpE_mono (fun n μ' q H' s' x' => q σ H' (er.ext s (x12.trans x')) s' (x12.trans x')) ei _ _ _ _ (fun d3 μ3 h3 v3 H3 rv3 s3 x3 => ?_) h2⟩
    have x13 := x12.trans x3
    exact ⟨d2, d3, d, μ3, rv2.ext s2 x3, rv3, (rv.ext s1 x2).ext s2 x3, s3, setD_mono (fun μ4 q H' s' x' => q σ H' (er.ext s (x13.trans x')) s' (x13.trans x')) h3⟩
theorem s_aug {x : Str} {i : Nat} {op : Operator} {p : Pos} (hN : X.N.Nodup) (hi : X.N[i]? = some x) (hx : Loc X.env.scope x) (hf : X.fn x = true ∨ X.env.scope.names.lookup x = some .local) (ha : PE X a (TEd X.K cls W Φ ea)) :
    PS X (.AugAssign (.Name x p) op a pos) (TSd X.K cls W Φ (.aug i op ea)) :=
  (ps_aug hN hi hx ha (aug_ok op) hf).weak fun C σ H ⟨ρ, μ, er, s, h⟩ => by
    simp only [wpS] at h
    split at h
    · rename_i d e
      obtain ⟨v, h1, h2⟩ := er.get i d e
      refine ⟨v, h1, TEd.stmt er s h fun d2 μ1 q1 v2 H1 rv2 s1 x1 => ⟨d, d2, μ1, h2.ext s x1, rv2, s1, augD_mono (fun z μ2 q2 v3 H2 rv3 s2 x2 => ?_) q1⟩⟩
      exact q2 _ H2 ((er.ext s (x1.trans x2)).set rv3 i) s2 (x1.trans x2)
    · exact h.elim
theorem s_iff (hc : PT X c (TTd X.K cls W Φ ec)) (ha : PSs X la (TSsd X.K cls W Φ sa)) (hb : PSs X lb (TSsd X.K cls W Φ sb)) : PS X (.If c la lb pos) (TSd X.K cls W Φ (.iff ec sa sb)) :=
  (ps_if hc ha hb).weak fun C σ H ⟨ρ, μ, er, s, h⟩ => by
    simp only [wpS] at h
    refine TTd.stmt er s h fun d μ1 h1 => ?_
    unfold finT
    split at h1
    · rename_i e
      rw [e]
      exact fun H1 s1 x1 => iteT (TSsd.next (er.ext s x1) s1 h1 (lift_trans x1))
    · rename_i e
      rw [e]
      exact fun H1 s1 x1 => iteF (TSsd.next (er.ext s x1) s1 h1 (lift_trans x1))
    · exact h1.elim
theorem s_whl (hp : PassesOwn (model X.prog X.w) X.A X.env X.xe) (hc : PT X c (TTd X.K cls W Φ ec)) (ha : PSs X la (TSsd X.K cls W Φ sa)) : PS X (.While c la [] pos) (TSd X.K cls W Φ (.whl ec sa)) :=
  (ps_while hp hc ha).weak fun C σ H ⟨ρ, μ, er, s, h⟩ => by
    simp only [wpS] at h
    obtain ⟨Wd, ⟨m0, w0⟩, h⟩ := h
    refine ⟨fun m σ' H' => ∃ ρ' μ', ERep X.K H' σ' ρ' ∧ SRep X.K H' μ' ∧ Ext H μ H' μ' ∧ Wd m ρ' μ', ⟨m0, ρ, μ, er, s, Ext.refl, w0⟩, ?_⟩
    rintro m σ1 H1 ⟨ρ1, μ1, er1, s1, x1, w1⟩
    have h1 := h m ρ1 μ1 w1
    refine ⟨ρ1, μ1, er1, s1, wpE_mono (fun n μ' q H' s' x' => q σ1 H' (er1.ext s1 x') s' (x1.trans x')) ec _ _ _ _ (fun d μ2 h2 => ?_) h1⟩
    unfold finT
    split at h2
    · rename_i e
      rw [e]
      intro H2 s2 x2
      have x12 := x1.trans x2
      refine iteT ⟨fun σ' H' => ∃ m', m' < m ∧ ∃ ρ' μ', ERep X.K H' σ' ρ' ∧ SRep X.K H' μ' ∧ Ext H μ H' μ' ∧ Wd m' ρ' μ', fun σ' H' q => q, ?_⟩
      refine TSsd.next (er1.ext s1 x2) s2 h2 ⟨fun ρ' μ' q σ' H' e' s' x' => ?_, fun d' μ' q => q.trans x12, fun ρ' μ' q σ' H' e' s' x' => q σ' H' e' s' (x12.trans x'), fun ρ' μ' q σ' H' e' s' x' => ?_, fun n ρ' μ' q σ' H' e' s' x' => q σ' H' e' s' (x12.trans x')⟩
      · obtain ⟨m', hm, w'⟩ := q
        exact ⟨m', hm, ρ', μ', e', s', x12.trans x', w'⟩
      · obtain ⟨m', hm, w'⟩ := q
        exact ⟨m', hm, ρ', μ', e', s', x12.trans x', w'⟩
    · rename_i e
      rw [e]
      exact fun H2 s2 x2 => iteF (h2 σ1 H2 (er1.ext s1 x2) s2 (x1.trans x2))
    · exact h2.elim
theorem s_for {t it : Expr} {tg : Tg} {i : I} (hp : PassesOwn (model X.prog X.w) X.A X.env X.xe) (hc : X.calm = true) (hi : PI X t it (TId X.K cls W Φ i)) (ht : PG X t (gD X.K tg)) (hb : PSs X la (TSsd X.K cls W Φ sa)) (hs : ∀ x, foldedSetIterable it X.env x = pure x) :
    PS X (.For t it la [] pos) (TSd X.K cls W Φ (.for tg i sa)) :=
  (ps_for hp hc hi ht hb hs).weak fun C σ H ⟨ρ, μ, er, s, h⟩ => by
    simp only [wpS] at h
    refine ⟨ρ, μ, er, s, wpI_mono (xx_xw er s) i _ _ _ _ (fun ds live μ1 h1 J H1 s1 x1 hJ => ?_) h⟩
    refine ⟨fun j m σ' H' => j + m = ds.length ∧ ∃ ρ' μ', ERep X.K H' σ' ρ' ∧ SRep X.K H' μ' ∧ Ext H1 μ1 H' μ' ∧ forL tg (fun C' ρ' μ' => wpSs Φ sa C' ρ' μ') live (ds.drop j) (liftD X.K cls W H μ C) ρ' μ', ⟨ds.length, by omega, ρ, μ1, er.ext s x1, s1, Ext.refl, by rw [List.drop_zero]; exact h1⟩, ?_⟩
    rintro j m σ2 H2 ⟨hj, ρ2, μ2, er2, s2, x2, hl⟩
    by_cases hlt : j < ds.length
    · rw [List.drop_eq_getElem_cons hlt] at hl
      unfold forL at hl
      obtain ⟨l2, hl⟩ := hl
      obtain ⟨j1, _⟩ := hJ j H2 μ2 s2 x2 l2
      obtain ⟨go, yl⟩ := j1 ds[j] (List.getElem?_eq_getElem hlt)
      refine .inr ⟨go, fun σ' H' => ∃ ρ' μ', ERep X.K H' σ' ρ' ∧ SRep X.K H' μ' ∧ Ext H1 μ1 H' μ' ∧ forL tg (fun C' ρ' μ' => wpSs Φ sa C' ρ' μ') live (ds.drop (j + 1)) (liftD X.K cls W H μ C) ρ' μ', fun σ' H' q => ⟨m - 1, by omega, by omega, q⟩, fun y H' hy => ?_⟩
      obtain ⟨ry, s3, x3⟩ := yl y H' hy
      have x13 := x2.trans x3
      split at hl
      · exact hl.elim
      · rename_i ρ' e'
        refine ⟨ds[j], ρ2, μ2, ρ', ry, er2.ext s2 x3, s3, e', fun σ3 er3 _ => ?_⟩
        have xa := x1.trans x13
        exact TSsd.next er3 s3 hl ⟨fun ρ' μ' q σ' H' e' s' x' => ⟨ρ', μ', e', s', x13.trans x', q⟩, fun d' μ' q => q.trans xa, fun ρ' μ' q σ' H' e' s' x' => q σ' H' e' s' (xa.trans x'), fun ρ' μ' q σ' H' e' s' x' => ⟨ρ', μ', e', s', x13.trans x', q⟩, fun n ρ' μ' q σ' H' e' s' x' => q σ' H' e' s' (xa.trans x')⟩
    · rw [List.drop_of_length_le (by omega)] at hl
      unfold forL at hl
      obtain ⟨_, j2⟩ := hJ j H2 μ2 s2 x2 hl.1
      exact .inl ⟨j2 (by omega), hl.2 σ2 H2 er2 s2 (x1.trans x2)⟩
theorem s_pass : PS X (.Pass pos) (TSd X.K cls W Φ .pass) := ps_pass.weak fun C σ H ⟨ρ, μ, er, s, h⟩ => by
  simp only [wpS] at h
  exact h σ H er s Ext.refl
theorem s_brk : PS X (.Break pos) (TSd X.K cls W Φ .brk) := ps_break.weak fun C σ H ⟨ρ, μ, er, s, h⟩ => by
  simp only [wpS] at h
  exact h σ H er s Ext.refl
theorem s_cont : PS X (.Continue pos) (TSd X.K cls W Φ .cont) := ps_continue.weak fun C σ H ⟨ρ, μ, er, s, h⟩ => by
  simp only [wpS] at h
  exact h σ H er s Ext.refl
theorem ss_nil : PSs X [] (TSsd X.K cls W Φ .nil) := pss_nil.weak fun C σ H ⟨ρ, μ, er, s, h⟩ => by
  simp only [wpSs] at h
  exact h σ H er s Ext.refl
theorem ss_cons {st : Stmt} {es : S} (h1 : PS X st (TSd X.K cls W Φ es)) (h2 : PSs X la (TSsd X.K cls W Φ sa)) : PSs X (st :: la) (TSsd X.K cls W Φ (.cons es sa)) :=
  (pss_cons h1 h2).weak fun C σ H ⟨ρ, μ, er, s, h⟩ => by
    simp only [wpSs] at h
    refine ⟨ρ, μ, er, s, wpS_mono es _ (liftD X.K cls W H μ { C with nx := TSsd X.K cls W Φ sa C }) ?_ _ _ h⟩
    exact ⟨fun ρ' μ' q σ' H' e' s' x' => TSsd.next e' s' q (lift_trans x'), fun _ _ q => q, fun _ _ q => q, fun _ _ q => q, fun _ _ _ q => q⟩
end
end LD
namespace LD
open PySem PySem.Spec PyProof.Rows L2

/-- X(), an own exception without a word -/
theorem pmk_own0 {X : Cx} {C : Addr} {bmB : List Value} {B newId initId : String} {x : Str} {p pos : Pos} (F : ExcBaseFacts B newId initId bmB) (q : PySem.W.excIn X.K C bmB newId = true) (gC : X.mg x = some (.ref C)) (kC : PySem.W.keepIn X.K (.ref C) = true) (r : Raises X (.ref C)) (hg : Gl X x)
    (hdb : (x == ("__debug__" : Str)) = false) : PMk X (.Call (.Name x p) [] [] pos) (fun _ H Q => Q (.ref C) none H) := by
  intro pins s σ H Q I h
  refine wpAny_Call_Name_kw (ld_glob I hg gC ?_ hdb)
  refine PySem.W.callWith_K0 (first := []) I.kIn kC ?_
  obtain ⟨bm, N, nm, qn, bs, hdct, sn, sub, ab, col, dd, k0, k1, k2, k3, k5, mN, hC, hN, hni, T⟩ := exc_obj I.kIn q
  refine wpAny_call_exc_subT F T hC hN hni (fun h' e hm => ?_) (by show 0 ≤ sizeLine; omega)
  exact mk_of I hm r h (I.hok.gone hm.new)
section
variable {G : GC} {cls : Str → Addr} {Φ : Nat → Spec} {k : Nat}
/-- where a statement stands -/
structure SCtx (G : GC) (cls : Str → Addr) (Φ : Nat → Spec) (k : Nat) (L : LC) (X : Cx) (W : WX) : Prop extends Ctx G cls Φ k L X W where
  po : PassesOwn (model X.prog X.w) X.A X.env X.xe
  kd : L.sc.kind = .function
theorem noSwap {e : Expr} {t : Option Expr} {l : Nat} {env : Env} (h : isComp e = false) : swapsWith e t l env = pure false := by
  cases e <;> first
    | rfl
    | cases h
theorem noStore {t e : Expr} {env : Env} (h : isTupE e = false) : swappedStores [t] e env = pure none := by
  cases t <;> cases e <;> first
    | rfl
    | cases h
theorem noStoreN {x : Str} {p : Pos} {e : Expr} {env : Env} : swappedStores [.Name x p] e env = pure none := by
  cases e <;> rfl
theorem s_raise {L : LC} {X : Cx} {W : WX} (c : SCtx G cls Φ k L X W) {x : Str} {p p2 pos : Pos} (hc : L.calm = true) (ok : okName x = true) (hg : isGl L x = true) (he : G.excs.contains x = true) : PS X (.Raise (some (.Call (.Name x p) [] [] p2)) none pos) (TSd X.K cls W Φ (.raise x)) := by
  obtain ⟨e1, e2, e3, e4, e5⟩ := c.g.excs x he
  refine (ps_raise (by rw [c.s.calm]; exact hc) c.tk (pmk_own0 PySem.F.excBase_ValueError e2 e1 e3 (raises_own e4 e5) (isGl_ok c.s hg) (okName_ok ok).1)).weak fun C σ H ⟨ρ, μ, er, s, h⟩ => ?_
  simp only [wpS] at h
  exact h σ H er s Ext.refl
theorem tup_asg {K : PySem.W.Frag} {W : WX} {tg : Tg} {ees : Es} {C : Ends} {σ : L2.St} {H : Hp} {P : List V → Hp → Prop} (h : TSd K cls W Φ (.asg tg (.tup ees)) C σ H)
    (q : ∀ ds μ1 ρ vs H1, ERep K H1 σ ρ → SRep K H1 μ1 → Reps K H1 vs ds → ∀ ρ', tgD μ1 tg (.tup ds) ρ = some ρ' → (∀ σ', ERep K H1 σ' ρ' → C.nx σ' H1) → P vs H1) : TAd K cls W Φ ees σ H P := by
  obtain ⟨ρ, μ, er, s, h⟩ := h
  simp only [wpS, wpE] at h
  refine ⟨ρ, μ, er, s, wpEs_mono (xx_xw er s) ees _ _ _ _ (fun ds μ1 h1 vs H1 rv s1 x1 => ?_) h⟩
  have h2 := h1.2
  split at h2
  · rename_i ρ' e
    exact q ds μ1 ρ vs H1 (er.ext s x1) s1 rv ρ' e fun σ' er' => h2 σ' H1 er' s1 x1
  · exact h2.elim
theorem cTg_nm {L : LC} {n : Nat} {x : Str} {p : Pos} {t : Tg} (h : cTg L n (.Name x p) = some t) : ∃ i, t = .nm i ∧ cStore L x = some i := by
  cases n with
  | zero => simp [cTg] at h
  | succ n =>
    have h' : (cStore L x).map Tg.nm = some t := h
    cases q : cStore L x with
    | none => rw [q] at h'; cases h'
    | some i => rw [q] at h'; cases h'; exact ⟨i, rfl, rfl⟩
theorem cTg_2 {L : LC} {n : Nat} {x y : Str} {p q r : Pos} {kk : Nat} {t : Tg} (h : cTg L n (.Tuple [.Name x p, .Name y q] kk r) = some t) : ∃ i j, t = .tp (.cons (.nm i) (.cons (.nm j) .nil)) ∧ cStore L x = some i ∧ cStore L y = some j := by
  cases n with
  | zero => simp [cTg] at h
  | succ n =>
    have h' : (if L.calm = true then (cTgs L n [.Name x p, .Name y q]).map Tg.tp else none) = some t := h
    split at h'
    · cases n with
      | zero => simp [cTgs] at h'
      | succ n =>
        simp only [cTgs] at h'
        cases e1 : cTg L n (.Name x p) with
        | none => rw [e1] at h'; cases h'
        | some t1 =>
          rw [e1] at h'
          cases n with
          | zero => simp [cTgs] at h'
          | succ n =>
            simp only [cTgs] at h'
            cases e2 : cTg L n (.Name y q) with
            | none => rw [e2] at h'; cases h'
            | some t2 =>
              rw [e2] at h'
              cases n with
              | zero => simp [cTgs] at h'
              | succ n =>
                simp only [cTgs] at h'
                cases h'
                obtain ⟨i, rfl, hi⟩ := cTg_nm e1
                obtain ⟨j, rfl, hj⟩ := cTg_nm e2
                exact ⟨i, j, rfl, hi, hj⟩
    · cases h'
theorem cTg_3 {L : LC} {n : Nat} {x y z : Str} {p q r r2 : Pos} {kk : Nat} {t : Tg} (h : cTg L n (.Tuple [.Name x p, .Name y q, .Name z r] kk r2) = some t) : ∃ i j l, t = .tp (.cons (.nm i) (.cons (.nm j) (.cons (.nm l) .nil))) ∧ cStore L x = some i ∧ cStore L y = some j ∧ cStore L z = some l := by
  cases n with
  | zero => simp [cTg] at h
  | succ n =>
    have h' : (if L.calm = true then (cTgs L n [.Name x p, .Name y q, .Name z r]).map Tg.tp else none) = some t := h
    split at h'
    · cases n with
      | zero => simp [cTgs] at h'
      | succ n =>
        simp only [cTgs] at h'
        cases e1 : cTg L n (.Name x p) with
        | none => rw [e1] at h'; cases h'
        | some t1 =>
          rw [e1] at h'
          cases n with
          | zero => simp [cTgs] at h'
          | succ n =>
            simp only [cTgs] at h'
            cases e2 : cTg L n (.Name y q) with
            | none => rw [e2] at h'; cases h'
            | some t2 =>
              rw [e2] at h'
              cases n with
              | zero => simp [cTgs] at h'
              | succ n =>
                simp only [cTgs] at h'
                cases e3 : cTg L n (.Name z r) with
                | none => rw [e3] at h'; cases h'
                | some t3 =>
                  rw [e3] at h'
                  cases n with
                  | zero => simp [cTgs] at h'
                  | succ n =>
                    simp only [cTgs] at h'
                    cases h'
                    obtain ⟨i, rfl, hi⟩ := cTg_nm e1
                    obtain ⟨j, rfl, hj⟩ := cTg_nm e2
                    obtain ⟨l, rfl, hl⟩ := cTg_nm e3
                    exact ⟨i, j, l, rfl, hi, hj, hl⟩
    · cases h'
theorem slot_ne {N : List Str} {x y : Str} {i j : Nat} (hi : N[i]? = some x) (hj : N[j]? = some y) (h : x ≠ y) : i ≠ j := fun e => by
  subst e
  rw [hi] at hj
  exact h (Option.some.inj hj)
theorem cE_comp {n : Nat} {L : LC} {X : Cx} {W : WX} (c : Ctx G cls Φ k L X W) {elt : Expr} {gs : List Comprehension} {scope : Scope} {p2 : Pos} {e' : E} (h : cE G L n (.ListComp elt gs scope p2) = some e') :
    ∃ tg it ifs it' tg' ifs' elt', gs = [⟨tg, it, ifs, 0⟩] ∧ e' = .comp tg' it' ifs' elt' ((ownOf L.N scope).map (·.2)) ∧ X.calm = true ∧ PI X tg it (TId X.K cls W Φ it') ∧ BlkOk X.N X.env.scope scope (ownOf L.N scope) ∧
      (∀ (s : Shared) (H : Hp) (C : Addr) (cl : List (Str × Addr)) (fp : List Addr), PG (X.blk s H scope (compEnvC scope cl C X.env) fp) tg (gD X.K tg')) ∧ (∀ (s : Shared) (H : Hp) (C : Addr) (cl : List (Str × Addr)) (fp : List Addr), PTs (X.blk s H scope (compEnvC scope cl C X.env) fp) ifs (TFd X.K Φ ifs')) ∧
      (∀ (s : Shared) (H : Hp) (C : Addr) (cl : List (Str × Addr)) (fp : List Addr), PE (X.blk s H scope (compEnvC scope cl C X.env) fp) elt (TEd X.K cls W0 Φ elt')) ∧ (∀ x, foldedSetIterable it X.env x = pure x) ∧ ∀ i ∈ slots tg', i ∈ (ownOf L.N scope).map (·.2) := by
  cases n with
  | zero => simp [cE] at h
  | succ n =>
    have ih := snd (G := G) (cls := cls) (Φ := Φ) (k := k) n
    unfold cE at h
    split at h <;> first
      | (rename_i q; cases q; done)
      | skip
    · rename_i elt tg it ifs scope pos q
      cases q
      split at h
      · rename_i hk
        rw [Bool.and_eq_true] at hk
        have hcalm : X.calm = true := by rw [c.s.calm]; exact hk.1
        split at h
        · rename_i it' tg' ifs' elt' e1 e2 e3 e4
          split at h
          · rename_i hs
            cases h
            have ok : BlkOk X.N X.env.scope scope (ownOf L.N scope) := by
              rw [c.s.N, c.s.sc]
              exact blkOk_by hk.2
            refine ⟨tg, it, ifs, it', tg', ifs', elt', rfl, rfl, hcalm, ih.i c e1, ok, fun s H C cl fp => d_tg (c.blk scope s H C cl fp).s n tg tg' e2, fun s H C cl fp => ?_, fun s H C cl fp => ih.e (c.blk scope s H C cl fp) e4, cI_fold e1, own_mem hs⟩
            split at e3
            · cases e3; exact f_nil
            · split at e3
              · rename_i g1
                cases e3
                exact f_one (ih.t (c.blk scope s H C cl fp) g1)
              · cases e3
            · cases e3
          · cases h
        · cases h
      · cases h
    · cases h
variable (G cls Φ k) in
structure SndS (n : Nat) : Prop where
  s : ∀ {L : LC} {X : Cx} {W : WX}, SCtx G cls Φ k L X W → ∀ {e : Stmt} {e' : S}, cS G L n e = some e' → PS X e (TSd X.K cls W Φ e')
  ss : ∀ {L : LC} {X : Cx} {W : WX}, SCtx G cls Φ k L X W → ∀ {e : List Stmt} {e' : Ss}, cSs G L n e = some e' → PSs X e (TSsd X.K cls W Φ e')
theorem snd_s {n : Nat} (ih : SndS G cls Φ k n) {L : LC} {X : Cx} {W : WX} (c : SCtx G cls Φ k L X W) {e : Stmt} {e' : S} (h : cS G L (n + 1) e = some e') : PS X e (TSd X.K cls W Φ e') := by
  have ie := snd (G := G) (cls := cls) (Φ := Φ) (k := k) n
  unfold cS at h
  split at h
  · rename_i a pos
    split at h
    · cases h
    · rename_i hc
      cases q : cE G L n a with
      | none => rw [q] at h; cases h
      | some a' => rw [q] at h; cases h; exact s_ex (noSwap (by simpa using hc)) (ie.e c.toCtx q)
  · rename_i a pos
    cases q : cE G L n a with
    | none => rw [q] at h; cases h
    | some a' => rw [q] at h; cases h; exact s_ret (ie.e c.toCtx q)
  · cases h; exact s_retN
  · rename_i x p elt gs scope p2 pos
    split at h
    · rename_i t' e' e1 e2
      cases h
      by_cases hsw : swapC L x p p2 scope = true
      · obtain ⟨i, rfl, hst⟩ := cTg_nm e1
        obtain ⟨h1, h2, h3⟩ := cStore_ok c.s hst
        unfold swapC at hsw
        simp only [Bool.and_eq_true, decide_eq_true_eq, Bool.not_eq_true'] at hsw
        obtain ⟨⟨⟨k1, k2⟩, k3⟩, k4⟩ := hsw
        obtain ⟨tg, it, ifs, it', tg', ifs', elt', rfl, rfl, hcalm, g1, g2, g3, g4, g5, g6, g7⟩ := cE_comp c.toCtx e2
        refine (ps_setLc hcalm c.s.nd h1 (by rw [c.s.sc]; exact k2) (sw_true (by rw [c.s.sc]; exact k1) (by rw [c.s.sc]; exact k2) k3 k4) g1 g2 g3 g4 g5 g6).weak fun C σ H ⟨ρ, μ, er, s, h⟩ => ?_
        simp only [wpS] at h
        refine lc_read (cls := cls) (W := W) g7 ⟨ρ, μ, er, s, wpE_mono (xx_xw er s) (.comp tg' it' ifs' elt' _) _ _ _ _ (fun d μ1 h1 v H1 rv s1 x1 => ?_) h⟩
        simp only [tgD] at h1
        exact h1 _ H1 ((er.ext s x1).set rv i) s1 x1
      · refine s_asg ?_ noStoreN rfl (d_tg c.s _ _ _ e1) (ie.e c.toCtx e2)
        have hb : X.env.blockKind = .function := by unfold Env.blockKind; rw [c.s.sc, c.kd]; rfl
        have hk : X.env.kindOf x = L.sc.names.lookup x := by unfold Env.kindOf; rw [c.s.sc]
        show (pure (X.env.blockKind == .function && X.env.kindOf x == some .local && p.line == p2.line && !(scope.names.any fun (n, k) => n == x && (k == .local || k == .cell))) : Sem Bool) = pure false
        refine congrArg pure ?_
        rw [hb, hk]
        unfold swapC at hsw
        rw [c.kd] at hsw
        simp only [decide_true, Bool.true_and] at hsw
        have e3 : (L.sc.names.lookup x == some NameKind.local) = decide (L.sc.names.lookup x = some .local) := by
          rw [Bool.eq_iff_iff]
          simp
        rw [e3]
        exact Bool.eq_false_iff.mpr hsw
    · cases h
  · rename_i x p a pos hnl
    split at h
    · cases h
    · rename_i hc
      split at h
      · rename_i e1 e2
        cases h
        exact s_asg (show swapsWithSole [Expr.Name x p] a pos.line X.env = pure false from (by show swapsWith a (some (.Name x p)) pos.line X.env = pure false; exact noSwap (by simpa using hc))) noStoreN rfl (d_tg c.s _ _ _ e1) (ie.e c.toCtx e2)
      · cases h
  · rename_i ts kk p vs k2 p2 pos
    split at h
    · rename_i hc
      have hcalm : X.calm = true := by rw [c.s.calm]; exact hc
      split at h
      · rename_i e1 e2 e3
        cases h
        exact s_asg rfl (swapN_ok c.s.sc c.kd e3) rfl (d_tg c.s _ _ _ e1) (d_tup (ie.es c.toCtx e2))
      · rename_i e1 e2 e3
        split at h
        · split at h
          · rename_i hk
            simp only [Bool.and_eq_true, decide_eq_true_eq] at hk
            obtain ⟨⟨⟨k1, k2⟩, k3⟩, k4⟩ := hk
            cases h
            obtain ⟨i, j, rfl, s1, s2⟩ := cTg_2 e1
            obtain ⟨i1, _, _⟩ := cStore_ok c.s s1
            obtain ⟨j1, _, _⟩ := cStore_ok c.s s2
            refine (ps_par hcalm c.s.nd i1 j1 (slot_ne i1 j1 k3) (by rw [c.s.sc]; exact k1) (by rw [c.s.sc]; exact k2) (ie.es c.toCtx e2) (swapN_ok c.s.sc c.kd k4)).weak fun C σ H h => ?_
            refine tup_asg h fun ds μ1 ρ vs H1 er s rv ρ' e k => ?_
            simp only [tgD, seqOf] at e
            cases rv with
            | nil => simp [tgsD] at e
            | cons r1 rv =>
              cases rv with
              | nil => simp [tgsD, tgD] at e
              | cons r2 rv =>
                cases rv with
                | cons r3 rv => simp [tgsD, tgD] at e
                | nil =>
                  simp only [tgsD, tgD] at e
                  cases e
                  exact ⟨_, _, rfl, k _ ((er.set r1 i).set r2 j)⟩
          · cases h
        · split at h
          · rename_i hk
            simp only [Bool.and_eq_true, decide_eq_true_eq] at hk
            obtain ⟨⟨⟨⟨⟨⟨k1, k2⟩, k3⟩, k4⟩, k5⟩, k6⟩, k7⟩ := hk
            cases h
            obtain ⟨i, j, l, rfl, s1, s2, s3⟩ := cTg_3 e1
            obtain ⟨i1, _, _⟩ := cStore_ok c.s s1
            obtain ⟨j1, _, _⟩ := cStore_ok c.s s2
            obtain ⟨l1, _, _⟩ := cStore_ok c.s s3
            refine (ps_par3 hcalm c.s.nd i1 j1 l1 (slot_ne i1 j1 k4) (slot_ne i1 l1 k5) (slot_ne j1 l1 k6) (by rw [c.s.sc]; exact k1) (by rw [c.s.sc]; exact k2) (by rw [c.s.sc]; exact k3) (ie.es c.toCtx e2) (swapN_ok c.s.sc c.kd k7)).weak fun C σ H h => ?_
            refine tup_asg h fun ds μ1 ρ vs H1 er s rv ρ' e k => ?_
            simp only [tgD, seqOf] at e
            cases rv with
            | nil => simp [tgsD] at e
            | cons r1 rv =>
              cases rv with
              | nil => simp [tgsD, tgD] at e
              | cons r2 rv =>
                cases rv with
                | nil => simp [tgsD, tgD] at e
                | cons r3 rv =>
                  cases rv with
                  | cons r4 rv => simp [tgsD, tgD] at e
                  | nil =>
                    simp only [tgsD, tgD] at e
                    cases e
                    exact ⟨_, _, _, rfl, k _ (((er.set r1 i).set r2 j).set r3 l)⟩
          · cases h
        · cases h
      · cases h
    · cases h
  · rename_i ts kk p a pos hnt
    split at h
    · cases h
    · rename_i hc
      split at h
      · rename_i e1 e2
        cases h
        refine s_asg ?_ (noStore (by simpa using hc)) rfl (d_tg c.s _ _ _ e1) (ie.e c.toCtx e2)
        cases a <;> rfl
      · cases h
  · rename_i o i p a pos
    split at h
    · rename_i e1 e2 e3
      cases h
      refine s_sub ?_ (cE_set e2).2 (ie.e c.toCtx e1) (ie.e c.toCtx e2) (ie.e c.toCtx e3)
      cases a <;> rfl
    · cases h
  · rename_i x p op a pos
    split at h
    · rename_i e1 e2
      cases h
      obtain ⟨h1, h2, h3⟩ := cStore_ok c.s e1
      exact s_aug c.s.nd h1 h2 h3 (ie.e c.toCtx e2)
    · cases h
  · split at h
    · rename_i e1 e2 e3
      cases h
      exact s_iff (ie.t c.toCtx e1) (ih.ss c e2) (ih.ss c e3)
    · cases h
  · split at h
    · rename_i e1 e2
      cases h
      exact s_whl c.po (ie.t c.toCtx e1) (ih.ss c e2)
    · cases h
  · split at h
    · rename_i hc
      split at h
      · rename_i e1 e2 e3
        cases h
        exact s_for c.po (by rw [c.s.calm]; exact hc) (ie.i c.toCtx e2) (d_tg c.s _ _ _ e1) (ih.ss c e3) (cI_fold e2)
      · cases h
    · cases h
  · cases h; exact s_pass
  · cases h; exact s_brk
  · cases h; exact s_cont
  · split at h
    · rename_i hk
      simp only [Bool.and_eq_true] at hk
      cases h
      exact s_raise c hk.1.1.1 hk.1.1.2 hk.1.2 hk.2
    · cases h
  · cases h
end
end LD
namespace LD
open PySem PySem.Spec PyProof.Rows L2
section
variable {G : GC} {cls : Str → Addr} {Φ : Nat → Spec} {k : Nat}
theorem sndS : ∀ n, SndS G cls Φ k n
  | 0 => ⟨fun {L X W} _ {e e'} h => by simp [cS] at h, fun {L X W} _ {e e'} h => by simp [cSs] at h⟩
  | n + 1 => ⟨fun {L X W} c {e e'} h => snd_s (sndS n) c h, fun {L X W} c {e e'} h => by
      cases e with
      | nil => unfold cSs at h; cases h; exact ss_nil
      | cons s ss =>
        unfold cSs at h
        split at h
        · rename_i s' ss' e1 e2
          cases h
          exact ss_cons ((sndS n).s c e1) ((sndS n).ss c e2)
        · cases h⟩
/-- the first is a part of the second: what is not wanted is forgotten -/
def Sub (μ μ1 : Mu) : Prop := ∀ a o, μ a = some o → μ1 a = some o
theorem Sub.refl {μ : Mu} : Sub μ μ := fun _ _ h => h
theorem Sub.trans {μ μ1 μ2 : Mu} (h : Sub μ μ1) (k : Sub μ1 μ2) : Sub μ μ2 := fun a o e => k a o (h a o e)
theorem Sub.up {μ : Mu} {p : Addr} {o : MO} (h : μ p = none) : Sub μ (up μ p o) := fun a u e => by
  unfold LD.up
  split
  · rename_i q
    subst q
    rw [h] at e
    cases e
  · exact e
theorem Sub.srep {K : PySem.W.Frag} {H : Hp} {μ μ1 : Mu} (h : Sub μ μ1) (s : SRep K H μ1) : SRep K H μ := fun a o e => s a o (h a o e)
theorem Sub.ext {H H' : Hp} {μ0 μ μ1 : Mu} (h : Sub μ μ1) (x : Ext H μ0 H' μ1) : Ext H μ0 H' μ := fun a o e n => by
  obtain ⟨h1, h2⟩ := x a o e n
  refine ⟨h1, ?_⟩
  cases q : μ a with
  | none => rfl
  | some u =>
    rw [h a u q] at h2
    cases h2
/-- a body keeps what its Spec says -/
def Meets (Φ : Nat → Spec) (n m : Nat) (b : Ss) (sp : Spec) : Prop :=
  ∀ ds μ, ds.length = n → sp.pre ds μ → wpSs Φ b { nx := fun _ μ1 => ∃ μ', Sub μ' μ1 ∧ sp.post ds μ .non μ', rt := fun d μ1 => ∃ μ', Sub μ' μ1 ∧ sp.post ds μ d μ', xx := fun x _ μ1 => ∃ μ', Sub μ' μ1 ∧ sp.exc ds μ x μ' } (ds.map some ++ List.replicate (m - n) none) μ
theorem start_er {K : PySem.W.Frag} {H : Hp} {N : List Str} {vs : List V} {ds : List D} (r : Reps K H vs ds) : ERep K H (L2.start N vs) (ds.map some ++ List.replicate (N.length - ds.length) none) := by
  have hl := r.length
  refine ⟨?_, fun i d h => ?_⟩
  · unfold L2.start
    rw [List.length_append, List.length_append, List.length_map, List.length_map, List.length_replicate, List.length_replicate, hl]
  · by_cases hi : i < ds.length
    · rw [List.getElem?_append_left (by rw [List.length_map]; exact hi), List.getElem?_map] at h
      cases e : ds[i]? with
      | none => rw [e] at h; cases h
      | some d' =>
        rw [e] at h
        cases h
        obtain ⟨v, h1, h2⟩ := r.get e
        refine ⟨v, ?_, h2⟩
        unfold L2.start
        rw [List.getElem?_append_left (by rw [List.length_map, hl]; exact hi), List.getElem?_map, h1]
        rfl
    · rw [List.getElem?_append_right (by rw [List.length_map]; omega)] at h
      rw [List.getElem?_replicate] at h
      split at h <;> cases h
variable {P : Program} {w : World} {K : PySem.W.Frag} {mg : Str → Option Value} {base : Heap} {x qual : Str} {params : Arguments} {body : List Stmt} {scope : Scope} {dvs : List V} {kws : List (Str × V)} {f : Addr} {fd : FuncData}
/-- the def's promise, by its body's text turned into Ss -/
theorem def_ok {N ps : List Str} {n : Nat} {b : Ss} {sp : Spec} (g : GOk G P w K mg base cls Φ k) (F : FunD K x qual params body scope dvs kws f fd) (S : FnScope N ps scope) (hc : cSs G ⟨N, scope, none, true⟩ n body = some b) (m : Meets Φ ps.length N.length b sp) :
    FnOk P w K mg base (L2.CX P w) (k + 1) f fd ps (spD K cls ps.length sp) := by
  refine F.ok S (fun vs H Q E h => ?_) fun cdv A outer s H vs Q E hr h => ?_
  · obtain ⟨ds, μ, hl, r, _⟩ := h
    rw [r.length]; exact hl
  · obtain ⟨ds, μ, hl, r, sr, hp⟩ := h
    obtain ⟨h1, h2, h3⟩ := hp
    have c : SCtx G cls Φ k ⟨N, scope, none, true⟩ (cxOf (L2.CX P w) P w K mg base N qual scope f cdv A outer s H E) (fun c d _ H => E c d H) := {
      g := g
      s := ⟨rfl, S.nd, rfl, rfl, fun _ _ => .inl rfl⟩
      room := fun _ => hr
      units := by have := hr.un; show (A.deeper _).units + 65 < _; omega
      tk := takes_of rfl rfl rfl rfl
      po := passes_of rfl
      kd := S.kind }
    refine ⟨_, (sndS n).ss c hc, _, μ, start_er r, sr, ?_⟩
    rw [hl]
    have mm := m ds μ hl h1
    refine wpSs_mono b _ _ ?_ _ _ mm
    exact ⟨fun ρ μ1 ⟨μ', b, q⟩ σ' H' e' s' x' => h2 _ _ q _ _ .non (b.srep s') (b.ext x'), fun d μ1 ⟨μ', b, q⟩ v H' rv s' x' => h2 d μ' q v H' rv (b.srep s') (b.ext x'), fun _ _ q => q.elim, fun _ _ q => q.elim, fun n ρ μ1 ⟨μ', b, q⟩ σ' H' e' s' x' => h3 n μ' q H' (b.srep s') (b.ext x')⟩
end
end LD
namespace LD
open PySem PySem.Spec PyProof.Rows L2 He
/-! ### the head's Hook: facts, defs, a Bool -/
def hookE (n : Nat) (fa : List Fa) (fn : List DefD) (ex : PySem.W.Frag → Bool) : PySem.W.Hook where
  α := AlD × Bool
  obs := fun s => (obsDG n fa fn s.heap.get?, ex (frG s.heap.get? (asD s.heap.get? n)))
  val := fun _ => (valD fn, true)
  says := fun _ h => ∃ K : PySem.W.Frag, K.In h ∧ SaysD fa fn K ∧ ex K = true
  of := fun _ _ e => ⟨_, frG_in, congrArg (fun z : AlD × Bool => z.1) e, congrArg (fun z : AlD × Bool => z.2) e⟩
  keeps := fun _ _ _ ⟨K, hK, c⟩ k => ⟨K, PySem.W.Frag.In.keeps hK k, c⟩
def obsE (n : Nat) (fa : List Fa) (fn : List DefD) (ex : PySem.W.Frag → Bool) (g : Addr → Option Obj) : AlD × Bool := (obsDG n fa fn g, ex (frG g (asD g n)))
theorem obsE_eq {n : Nat} {fa : List Fa} {fn : List DefD} {ex : PySem.W.Frag → Bool} {g : Addr → Option Obj} {s : Shared} (h : ∀ a, g a = s.heap.get? a) : obsE n fa fn ex g = (hookE n fa fn ex).obs s := by
  have e : g = s.heap.get? := funext h
  rw [e] <;> rfl
/-- the walk's end: a Hook's saying, the script's bits -/
theorem walk_EB {l : PySem.W.OpenLaw} {n k : Nat} {q : Program} {loose : List Str} {XP : (Str → Option Value) → Heap → Prop} {YP : World → Heap → Prop} {d : DefRec} {x : Str}
    (hn : l.most = some n) (hn2 : n ≤ sizeLine) (hdf : d.params.defaults = []) (hr : Room k callerA)
    (F : ∀ (w : World) (mg : Str → Option Value) (fa : Addr) (h : Heap), YP w h → h.Ns mainGlobals mg → mg d.name = some (.ref fa) →
      ∃ (K : PySem.W.Frag) (fd : FuncData) (sp : Sp), K.In h ∧ (∀ (s : Shared) (u : Value), BindsTo s fd ⟨[u], []⟩ [(x, u)]) ∧
        (∀ (H : Hp) (a : Addr) (ns : List Int), ns.length ≤ n → (∀ z ∈ ns, Builtin.Int.intBits z ≤ 1048576) → SqL K H a (ns.map V.int) → sp [.ref a] H (fun v _ => v = .bl true) fun _ _ _ => False) ∧
        ∀ base : Heap, K.In base → base.Ns mainGlobals mg → FnOk l.prog w K mg base (L2.CX l.prog w) k fa fd [x] sp) :
    PySem.W.WalkO q loose XP YP l.row.toRowW d [] (fun f vs => PySem.call f vs) := by
  refine Att.attach_callB hn hdf fun w s₀ s₁ mg mb fa o pm cd doc a vs ns G Y ho hd hcd hmg hobj hints hlen hbits hg => ?_
  obtain ⟨K, fd, sp, KX, hb, hsp, hF⟩ := F w mg fa _ Y G.T.g hmg
  exact law_call KX G.T.g G.T.b G.T.builtins G.T.nolimit hg hobj hints (Nat.le_trans hlen hn2) hr hF hb (fun H hO hS => hsp H a ns hlen hbits hS) fun H e s' => fun ⟨_, _, _, _, _, _, _, _, _, _, _, _, z⟩ => z.elim

/-! ### the table of defs -/
/-- what a call with such a pattern binds -/
def Bnd (st : Stmt) (x : Str) (ps : List Str) (np : Nat) (kn : List Str) (perm : List Nat) : Prop :=
  ∀ (kV doc pm : Value) (an : Option Addr) (cdv ct : Value) (us ws : List Value), us.length = np → ws.length = kn.length → bindArgs (PySem.W.fnOf x x (defArgs st) (defBody st) (defScope st) .none kV doc pm an cdv ct) ⟨us, kn.zip ws⟩ = pure (ps.zip (permA .none perm (us ++ ws)))
def BndP (st : Stmt) (x : Str) (ps : List Str) : List (Nat × List Str) → Prop
  | [] => True
  | (np, kn) :: r => (∃ perm, permOf ps np kn = some perm ∧ Bnd st x ps np kn perm) ∧ BndP st x ps r
def BndF (st : Nat → Stmt) : List (Str × Nat × List Str × List (Nat × List Str)) → Prop
  | [] => True
  | (x, f, ps, pats) :: r => BndP (st f) x ps pats ∧ BndF st r
theorem BndP.get {st : Stmt} {x : Str} {ps : List Str} : ∀ {pats : List (Nat × List Str)}, BndP st x ps pats → ∀ {np : Nat} {kn : List Str}, pats.contains (np, kn) = true → ∀ {perm : List Nat}, permOf ps np kn = some perm → Bnd st x ps np kn perm
  | [], _, _, _, h, _, _ => by simp at h
  | (np', kn') :: r, b, np, kn, h, perm, hp => by
    rw [List.contains_cons, Bool.or_eq_true, beq_iff_eq] at h
    rcases h with h | h
    · cases h
      obtain ⟨perm', e, q⟩ := b.1
      rw [hp] at e
      cases e
      exact q
    · exact BndP.get b.2 h hp
theorem lookup_mem {α : Type} {l : List (Str × α)} {x : Str} {a : α} (h : l.lookup x = some a) : (x, a) ∈ l := PySem.mem_of_lookup h
theorem BndF.get {st : Nat → Stmt} : ∀ {fs : List (Str × Nat × List Str × List (Nat × List Str))}, BndF st fs → ∀ {x : Str} {f : Nat} {ps : List Str} {pats : List (Nat × List Str)}, (x, f, ps, pats) ∈ fs → BndP (st f) x ps pats
  | [], _, _, _, _, _, h => by cases h
  | (x', f', ps', pats') :: r, b, x, f, ps, pats, h => by
    rcases List.mem_cons.mp h with e | e
    · cases e
      exact b.1
    · exact BndF.get b.2 e
/-- the function object at a -/
def fdAt (K : PySem.W.Frag) (a : Addr) : FuncData := match K.lookup a with
  | some ⟨_, _, .func fd, _⟩ => fd
  | _ => PySem.W.fnOf "" "" ⟨[], [], none, [], [], none, []⟩ [] { kind := .function, names := [], isGenerator := false, isCoroutine := false, more := [] } .none .none .none .none none .none .none
def mkD (st : Nat → Stmt) (e : Str × Nat × List Str × List (Nat × List Str)) : DefD := ⟨(e.1, none), e.1, e.1, defArgs (st e.2.1), defBody (st e.2.1), defScope (st e.2.1), [], []⟩
theorem funD_at {K : PySem.W.Frag} {x qual : Str} {params : Arguments} {body : List Stmt} {scope : Scope} {dvs : List V} {kws : List (Str × V)} {f : Addr} {fd : FuncData} (F : FunD K x qual params body scope dvs kws f fd) : fd = fdAt K f := by
  obtain ⟨oc, od, dV, kV, doc, pm, an, cdv, ct, osl, rfl, lk, hcd, hD, hK⟩ := F.ex
  unfold fdAt
  rw [lk]
section
variable {G : GC} {cls : Str → Addr} {Φ : Nat → Spec} {k : Nat} {P : Program} {w : World} {K : PySem.W.Frag} {mg : Str → Option Value} {base : Heap}
/-- the names by numbers -/
def nmOf (fs : List (Str × Nat × List Str × List (Nat × List Str))) (f : Nat) : Str := match fs.find? (fun e => e.2.1 == f) with
  | some e => e.1
  | none => ""
def psOf (fs : List (Str × Nat × List Str × List (Nat × List Str))) (f : Nat) : List Str := match fs.find? (fun e => e.2.1 == f) with
  | some e => e.2.2.1
  | none => []
/-- the defs by numbers keep what Φ says -/
def Oks (G : GC) (cls : Str → Addr) (P : Program) (w : World) (K : PySem.W.Frag) (mg : Str → Option Value) (base : Heap) (Φ : Nat → Spec) (k : Nat) : Prop :=
  ∀ f, FnOk P w K mg base (L2.CX P w) k (fAd K (nmOf G.fns f, none)) (fdAt K (fAd K (nmOf G.fns f, none))) (psOf G.fns f) (spD K cls (psOf G.fns f).length (Φ f))
def vac : Spec := ⟨fun _ _ => False, fun _ _ _ _ => False, fun _ _ _ _ => False⟩
theorem Oks.vac : Oks G cls P w K mg base (fun _ => LD.vac) k := fun f => by
  refine ⟨fun vs H Q E h => ?_, fun A outer s H args us vs Q E _ _ _ _ h => ?_⟩
  · obtain ⟨_, _, _, _, _, h, _⟩ := h
    exact h.elim
  · obtain ⟨_, _, _, _, _, h, _⟩ := h
    exact h.elim
def upd (Φ : Nat → Spec) (n : Nat) (sp : Spec) : Nat → Spec := fun f => if f = n then sp else Φ f
theorem Oks.mono {j : Nat} (o : Oks G cls P w K mg base Φ k) (h : k ≤ j) : Oks G cls P w K mg base Φ j := fun f => (o f).mono h
theorem Oks.upd {n : Nat} {sp : Spec} (o : Oks G cls P w K mg base Φ k) (h : FnOk P w K mg base (L2.CX P w) (k + 1) (fAd K (nmOf G.fns n, none)) (fdAt K (fAd K (nmOf G.fns n, none))) (psOf G.fns n) (spD K cls (psOf G.fns n).length sp)) :
    Oks G cls P w K mg base (LD.upd Φ n sp) (k + 1) := fun f => by
  unfold LD.upd
  by_cases e : f = n
  · subst e
    rw [if_pos rfl]
    exact h
  · rw [if_neg e]
    exact (o f).mono (Nat.le_succ k)
/-- what stands fast -/
structure Tab (G : GC) (st : Nat → Stmt) (cls : Str → Addr) (K : PySem.W.Frag) (mg : Str → Option Value) : Prop where
  num : ∀ e ∈ G.fns, nmOf G.fns e.2.1 = e.1 ∧ psOf G.fns e.2.1 = e.2.2.1
  glo : ∀ e ∈ G.fns, mg e.1 = some (.ref (fAd K (e.1, none)))
  fn : ∀ e ∈ G.fns, FunD K e.1 e.1 (defArgs (st e.2.1)) (defBody (st e.2.1)) (defScope (st e.2.1)) [] [] (fAd K (e.1, none)) (fdAt K (fAd K (e.1, none)))
  bnd : BndF st G.fns
  cons : ∀ x d, G.cons.lookup x = some d → ∃ v u, mg x = some u ∧ RelV v u ∧ ∀ H, Rep K H v d
  free : ∀ x, G.free.contains x = true → mg x = none
  gcd : G.gcd = true → mg "gcd" = some (.builtin "math.gcd")
  excs : ∀ x, G.excs.contains x = true → mg x = some (.ref (cls x)) ∧ PySem.W.excIn K (cls x) He.veBase "ValueError.__new__" = true ∧ PySem.W.keepIn K (.ref (cls x)) = true ∧ PySem.W.subIn K (.ref (cls x)) (.type "BaseException") = some true ∧ PySem.W.typeIn K (.ref (cls x)) = some (.type "type")
theorem Tab.binds {st : Nat → Stmt} (t : Tab G st cls K mg) {x : Str} {f : Nat} {ps : List Str} {pats : List (Nat × List Str)} (h : (x, f, ps, pats) ∈ G.fns) {np : Nat} {kn : List Str} {perm : List Nat} (hp : pats.contains (np, kn) = true) (hq : permOf ps np kn = some perm) (s : Shared) (us ws : List Value)
    (h1 : us.length = np) (h2 : ws.length = kn.length) : BindsTo s (fdAt K (fAd K (x, none))) ⟨us, kn.zip ws⟩ (ps.zip (permA .none perm (us ++ ws))) := by
  have F := t.fn _ h
  have b := (t.bnd.get h).get hp hq
  dsimp only at F
  obtain ⟨oc, od, dV, kV, doc, pm, an, cdv, ct, osl, e, lk, hcd, hD, hK⟩ := F.ex
  rcases hD with ⟨_, rfl⟩ | ⟨e, _⟩
  · rw [e]
    exact .of_eq (b kV doc pm an cdv ct us ws h1 h2)
  · exact absurd rfl e
theorem Tab.gok {st : Nat → Stmt} (t : Tab G st cls K mg) (o : Oks G cls P w K mg base Φ k) : GOk G P w K mg base cls Φ k where
  fns := fun x f ps pats h => by
    have hm := lookup_mem h
    obtain ⟨n1, n2⟩ := t.num _ hm
    dsimp only at n1 n2
    have of := o f
    rw [n1, n2] at of
    exact ⟨_, _, t.glo _ hm, (t.fn _ hm).kp, of, fun np kn perm hp hq s us ws _ h1 h2 => t.binds hm hp hq s us ws h1 h2⟩
  cons := t.cons
  free := t.free
  gcd := t.gcd
  excs := t.excs
/-- one def more -/
theorem Tab.step {st : Nat → Stmt} (t : Tab G st cls K mg) (o : Oks G cls P w K mg base Φ k) {x : Str} {f : Nat} {ps : List Str} {pats : List (Nat × List Str)} (h : (x, f, ps, pats) ∈ G.fns) {N : List Str} {n : Nat} {b : Ss} {sp : Spec} (S : FnScope N ps (defScope (st f)))
    (hc : cSs G ⟨N, defScope (st f), none, true⟩ n (defBody (st f)) = some b) (m : Meets Φ ps.length N.length b sp) : Oks G cls P w K mg base (upd Φ f sp) (k + 1) := by
  obtain ⟨n1, n2⟩ := t.num _ h
  dsimp only at n1 n2
  refine o.upd ?_
  rw [n1, n2]
  exact def_ok (t.gok o) (t.fn _ h) S hc m
end
end LD
namespace LD
open PySem PySem.Spec PyProof.Rows L2 He
def al2 (p : Value → D → Bool) : List Value → List D → Bool
  | [], [] => true
  | u :: us, d :: ds => p u d && al2 p us ds
  | _, _ => false
def denB : List DictEntry → List Int → Bool
  | [], [] => true
  | e :: es, k :: ks => (match e.key with
    | .int i _ => decide (i = k)
    | _ => false) && (decide (e.hash = hashInt k) && denB es ks)
  | _, _ => false
theorem denB_ok : ∀ {es : List DictEntry} {ks : List Int} {vs : List V}, denB es ks = true → Vals vs (es.map (·.val)) → DEnt es ks vs
  | [], [], _, _, r => by cases r; trivial
  | [], _ :: _, _, h, _ => by cases h
  | _ :: _, [], _, h, _ => by cases h
  | e :: es, k :: ks, vs, h, r => by
    obtain ⟨h1, h2⟩ := ba (show ((match e.key with
      | .int i _ => decide (i = k)
      | _ => false) && (decide (e.hash = hashInt k) && denB es ks)) = true from h)
    obtain ⟨h2, h3⟩ := ba h2
    rw [List.map_cons] at r
    cases r with
    | cons r1 r2 =>
      refine ⟨?_, of_decide_eq_true h2, r1, denB_ok h3 r2⟩
      split at h1
      · rename_i i t e1
        have e2 : i = k := of_decide_eq_true h1
        exact ⟨t, by rw [e1, e2]⟩
      · cases h1
/-- a constant of the module is that -/
def repB (K : PySem.W.Frag) : Nat → Value → D → Bool
  | 0, _, _ => false
  | n + 1, u, d => match d, u with
    | .non, .none => true
    | .bl b, .bool c => b == c
    | .int i, .int j _ => decide (i = j)
    | .str x, .str y _ => decide (x = y)
    | .tup ds, .ref a => (match K.lookup a with
      | some ⟨.type c, _, .seq its _, _⟩ => decide (c = "tuple") && (decide (its.size ≤ sizeLine) && al2 (repB K n) its.toList ds)
      | _ => false)
    | .rol ds, .ref a => (match K.lookup a with
      | some ⟨.type c, none, .seq its _, _⟩ => decide (c = "list") && (decide (its.size ≤ sizeLine) && al2 (repB K n) its.toList ds)
      | _ => false)
    | .rod ks ds, .ref a => (match K.lookup a with
      | some ⟨.type c, none, .dict es _, sl⟩ => (decide (c = "dict") && sl.isEmpty) && (denB es.toList ks && al2 (repB K n) (es.toList.map (·.val)) ds)
      | _ => false)
    | _, _ => false
theorem al2_ok {K : PySem.W.Frag} {p : Value → D → Bool} (hp : ∀ u d, p u d = true → ∃ v, RelV v u ∧ ∀ H, Rep K H v d) : ∀ {us : List Value} {ds : List D}, al2 p us ds = true → ∃ vs, Vals vs us ∧ ∀ H, Reps K H vs ds
  | [], [], _ => ⟨[], .nil, fun _ => .nil⟩
  | [], _ :: _, h => by cases h
  | _ :: _, [], h => by cases h
  | u :: us, d :: ds, h => by
    obtain ⟨h1, h2⟩ := ba (show (p u d && al2 p us ds) = true from h)
    obtain ⟨v, r, q⟩ := hp u d h1
    obtain ⟨vs, rs, qs⟩ := al2_ok hp h2
    exact ⟨v :: vs, .cons r rs, fun H => .cons (q H) (qs H)⟩
theorem repB_ok {K : PySem.W.Frag} : ∀ (n : Nat) (u : Value) (d : D), repB K n u d = true → ∃ v, RelV v u ∧ ∀ H, Rep K H v d
  | 0, _, _, h => by cases h
  | n + 1, u, d, h => by
    unfold repB at h
    split at h
    · exact ⟨.non, rfl, fun _ => .non⟩
    · rename_i b c
      have e : b = c := eq_of_beq h
      subst e
      exact ⟨.bl b, rfl, fun _ => .bl b⟩
    · rename_i i j t
      have e : i = j := of_decide_eq_true h
      subst e
      exact ⟨.int i, ⟨t, rfl⟩, fun _ => .int i⟩
    · rename_i x y t
      have e : x = y := of_decide_eq_true h
      subst e
      exact ⟨.str x, ⟨t, rfl⟩, fun _ => .str x⟩
    · rename_i ds a
      split at h
      · rename_i c od its n' osl lk
        obtain ⟨h1, h2⟩ := ba h
        obtain ⟨h2, h3⟩ := ba h2
        obtain ⟨vs, r, q⟩ := al2_ok (repB_ok n) h3
        exact ⟨.ref a, rfl, fun H => .tup (.inr ⟨_, its, n', lk, congrArg Value.type (of_decide_eq_true h1), rfl, of_decide_eq_true h2, r⟩) (q H)⟩
      · cases h
    · rename_i ds a
      split at h
      · rename_i c its n' osl lk
        obtain ⟨h1, h2⟩ := ba h
        obtain ⟨h2, h3⟩ := ba h2
        obtain ⟨vs, r, q⟩ := al2_ok (repB_ok n) h3
        exact ⟨.ref a, rfl, fun H => .rol (.inr ⟨_, its, n', lk, congrArg Value.type (of_decide_eq_true h1), rfl, rfl, of_decide_eq_true h2, r⟩) (q H)⟩
      · cases h
    · rename_i ks ds a
      split at h
      · rename_i c es n' sl lk
        obtain ⟨h1, h2⟩ := ba h
        obtain ⟨h1, h4⟩ := ba h1
        obtain ⟨h2, h3⟩ := ba h2
        obtain ⟨vs, r, q⟩ := al2_ok (repB_ok n) h3
        have e1 : c = "dict" := of_decide_eq_true h1
        have e2 : sl = #[] := Array.isEmpty_iff.mp h4
        subst e1 e2
        exact ⟨.ref a, rfl, fun H => .rod lk (denB_ok h2 r) (q H)⟩
      · cases h
    · cases h
def consB (K : PySem.W.Frag) (x : Str) (d : D) : Bool := match PySem.W.nsIn K mainGlobals x with
  | some (some u) => repB K 9 u d
  | _ => false
def exB (G : GC) (K : PySem.W.Frag) : Bool := G.cons.all (fun p => consB K p.1 p.2) && (!G.gcd || eqO (PySem.W.nsIn K mainGlobals "gcd") (some (some (.builtin "math.gcd"))))
def faOf (G : GC) : List Fa := G.fns.map (fun e => .glo e.1) ++ (G.free.map .free ++ (G.excs.map .glo ++ G.excs.map .exc))
def numB (G : GC) : Bool := G.fns.all fun e => decide (nmOf G.fns e.2.1 = e.1) && decide (psOf G.fns e.2.1 = e.2.2.1)
theorem tab_of {G : GC} {st : Nat → Stmt} {K : PySem.W.Frag} {h : Heap} {mg : Str → Option Value} (X : K.In h) (N : h.Ns mainGlobals mg) (c : SaysD (faOf G) (G.fns.map (mkD st)) K) (ex : exB G K = true) (num : numB G = true) (b : BndF st G.fns) : Tab G st (ga K) K mg where
  num := fun e he => by
    obtain ⟨h1, h2⟩ := ba (List.all_eq_true.mp num e he)
    exact ⟨of_decide_eq_true h1, of_decide_eq_true h2⟩
  glo := fun e he => He.glo_ok X N (c.facts (List.mem_append_left _ (List.mem_map_of_mem (f := fun e => Fa.glo e.1) he)))
  fn := fun e he => by
    obtain ⟨fd, F⟩ := c.defs (d := mkD st e) (List.mem_map_of_mem he)
    have F' : FunD K e.1 e.1 (defArgs (st e.2.1)) (defBody (st e.2.1)) (defScope (st e.2.1)) [] [] (fAd K (e.1, none)) fd := F
    have q := funD_at F'
    rw [← q]
    exact F'
  bnd := b
  cons := fun x d h => by
    have m := lookup_mem h
    have q := List.all_eq_true.mp (ba ex).1 _ m
    unfold consB at q
    split at q
    · rename_i u e
      obtain ⟨v, r, hv⟩ := repB_ok 9 u d q
      exact ⟨v, u, PySem.W.mg_of X N e, r, hv⟩
    · cases q
  free := fun x h => He.free_ok X N (c.facts (List.mem_append_right _ (List.mem_append_left _ (List.mem_map_of_mem (List.contains_iff_mem.mp h)))))
  gcd := fun h => by
    have q := (ba ex).2
    rw [h] at q
    exact PySem.W.mg_of X N (eqO_ok q)
  excs := fun x h => by
    have m := List.contains_iff_mem.mp h
    have e1 := He.glo_ok X N (c.facts (f := .glo x) (List.mem_append_right _ (List.mem_append_right _ (List.mem_append_left _ (List.mem_map_of_mem m)))))
    exact ⟨e1, He.exc_ok (c.facts (f := .exc x) (List.mem_append_right _ (List.mem_append_right _ (List.mem_append_right _ (List.mem_map_of_mem m)))))⟩
end LD
namespace LD
open PySem PySem.Spec PyProof.Rows L2 He
/-- the world, with one answer said -/
def setFT (w : World) (b : Bool) : World := { w with params := { w.params with followText := fun row => match decide (row = "special-get-raises") with
  | true => b
  | false => w.params.followText row } }
theorem setFT_eq {w : World} {b : Bool} (h : w.params.followText "special-get-raises" = b) : setFT w b = w := by
  have e : (fun row => match decide (row = "special-get-raises") with
    | true => b
    | false => w.params.followText row) = w.params.followText := by
    funext row
    by_cases c : row = "special-get-raises"
    · rw [decide_eq_true c, c]
      exact h.symm
    · rw [decide_eq_false c]
  unfold setFT
  rw [e]
theorem by_FT {p : World → Prop} (h : ∀ w b, p (setFT w b)) (w : World) : p w := by
  have := h w (w.params.followText "special-get-raises")
  rw [setFT_eq rfl] at this
  exact this
end LD
namespace LD
open PySem PySem.Spec PyProof.Rows L2

/-! ### specs by families -/
def fam {ι : Type} (args : ι → List D) (pre : ι → Mu → Prop) (post : ι → Mu → D → Mu → Prop) : Spec where
  pre := fun ds μ => ∃ i, ds = args i ∧ pre i μ
  post := fun ds μ d μ' => ∀ i, ds = args i → pre i μ → post i μ d μ'
theorem fam_run {ι : Type} {args : ι → List D} {pre : ι → Mu → Prop} {post : ι → Mu → D → Mu → Prop} (i : ι) {μ : Mu} {X : Str → Mu → Prop} {Q : QD} (h : pre i μ) (q : ∀ d μ', post i μ d μ' → Q d μ') : (fam args pre post).run (args i) μ X Q :=
  ⟨⟨i, rfl, h⟩, fun d μ' z => q d μ' (z i rfl h), fun _ _ z => z.elim⟩
/-- what a body is to end in -/
def RtF {ι : Type} (post : ι → Mu → D → Mu → Prop) (i : ι) (μ : Mu) : DE := { nx := fun _ μ1 => ∃ μ', Sub μ' μ1 ∧ post i μ .non μ', rt := fun d μ1 => ∃ μ', Sub μ' μ1 ∧ post i μ d μ' }
theorem fam_meets {ι : Type} {args : ι → List D} {pre : ι → Mu → Prop} {post : ι → Mu → D → Mu → Prop} {Φ : Nat → Spec} {n m : Nat} {b : Ss} (inj : ∀ i j μ, args i = args j → pre i μ → pre j μ → i = j)
    (h : ∀ i μ, pre i μ → wpSs Φ b (RtF post i μ) ((args i).map some ++ List.replicate (m - n) none) μ) : Meets Φ n m b (fam args pre post) := by
  rintro ds μ hl ⟨i, rfl, hp⟩
  have hh := h i μ hp
  refine wpSs_mono b _ _ ?_ _ _ hh
  refine ⟨fun _ μ1 z => ?_, fun d μ1 z => ?_, fun _ _ z => z, fun _ _ z => z, fun _ _ _ z => z.elim⟩
  · obtain ⟨μ', s, z⟩ := z
    exact ⟨μ', s, fun j e hj => by rw [← inj i j μ e hp hj]; exact z⟩
  · obtain ⟨μ', s, z⟩ := z
    exact ⟨μ', s, fun j e hj => by rw [← inj i j μ e hp hj]; exact z⟩
/-- a def that only computes -/
def pur {ι : Type} (args : ι → List D) (pre : ι → Mu → Prop) (val : ι → D) : Spec := fam args pre (fun i μ d μ' => d = val i ∧ μ' = μ)
theorem pur_run {ι : Type} {args : ι → List D} {pre : ι → Mu → Prop} {val : ι → D} (inj : ∀ i j, args i = args j → i = j) (i : ι) {μ : Mu} {X : Str → Mu → Prop} {Q : QD} : (pur args pre val).run (args i) μ X Q ↔ pre i μ ∧ Q (val i) μ := by
  constructor
  · rintro ⟨⟨j, e, h⟩, q, _⟩
    have e2 := inj i j e
    subst e2
    exact ⟨h, q _ _ fun k e3 _ => by rw [inj i k e3]; exact ⟨rfl, rfl⟩⟩
  · rintro ⟨h, q⟩
    exact fam_run i h fun d μ' z => by obtain ⟨rfl, rfl⟩ := z; exact q
/-- what the body of a pure def is to end in -/
def RtP (d0 : D) (μ : Mu) : DE := { nx := fun _ μ1 => Sub μ μ1 ∧ D.non = d0, rt := fun d μ1 => Sub μ μ1 ∧ d = d0 }
theorem pur_meets {ι : Type} {args : ι → List D} {pre : ι → Mu → Prop} {val : ι → D} {Φ : Nat → Spec} {n m : Nat} {b : Ss} (inj : ∀ i j, args i = args j → i = j)
    (h : ∀ i μ, pre i μ → wpSs Φ b (RtP (val i) μ) ((args i).map some ++ List.replicate (m - n) none) μ) : Meets Φ n m b (pur args pre val) :=
  fam_meets (fun i j _ e _ _ => inj i j e) fun i μ hp => by
    have hh := h i μ hp
    refine wpSs_mono b _ _ ?_ _ _ hh
    exact ⟨fun _ μ1 ⟨s, z⟩ => ⟨μ, s, z, rfl⟩, fun d μ1 ⟨s, z⟩ => ⟨μ, s, z, rfl⟩, fun _ _ z => z, fun _ _ z => z, fun _ _ _ z => z⟩

/-! ### sizes -/
def Sz (n : Nat) (x : Int) : Prop := x.natAbs < 2 ^ n
instance instDecSz {n : Nat} {x : Int} : Decidable (Sz n x) := by unfold Sz; infer_instance
theorem Sz.mono {m n : Nat} {x : Int} (h : Sz m x) (l : m ≤ n) : Sz n x := Nat.lt_of_lt_of_le h (Nat.pow_le_pow_right (by decide) l)
theorem Sz.bits {n : Nat} {x : Int} (h : Sz n x) : Builtin.Int.intBits x ≤ n := by
  unfold Builtin.Int.intBits
  split
  · exact Nat.zero_le _
  · rename_i hx
    have h0 : x.natAbs ≠ 0 := by
      intro e
      apply hx
      have : x = 0 := by omega
      rw [this]; rfl
    have := (Nat.log2_lt h0).mpr h
    omega
theorem Sz.log2 {n : Nat} {x : Int} (h : Sz n x) (hx : x ≠ 0) : x.natAbs.log2 < n := (Nat.log2_lt (by omega)).mpr h
theorem Sz.mulOk {m n : Nat} {x y : Int} (h : Sz m x) (k : Sz n y) (l : m + n ≤ 134217728) : IntMulOk x y := IntMulOk.of_le h.bits k.bits l
theorem Sz.mul {m n : Nat} {x y : Int} (h : Sz m x) (k : Sz n y) : Sz (m + n) (x * y) := by
  unfold Sz at *
  rw [Int.natAbs_mul, Nat.pow_add]
  exact Nat.mul_lt_mul'' h k
theorem Sz.add {m n : Nat} {x y : Int} (h : Sz m x) (k : Sz n y) : Sz (m + n + 1) (x + y) := by
  unfold Sz at *
  have h1 : 2 ^ m ≤ 2 ^ (m + n) := Nat.pow_le_pow_right (by decide) (by omega)
  have h2 : 2 ^ n ≤ 2 ^ (m + n) := Nat.pow_le_pow_right (by decide) (by omega)
  have h3 : 2 ^ (m + n + 1) = 2 * 2 ^ (m + n) := by rw [Nat.pow_succ]; omega
  have := Int.natAbs_add_le x y
  omega
theorem Sz.neg {n : Nat} {x : Int} (h : Sz n x) : Sz n (-x) := by unfold Sz at *; rw [Int.natAbs_neg]; exact h
theorem Sz.sub {m n : Nat} {x y : Int} (h : Sz m x) (k : Sz n y) : Sz (m + n + 1) (x - y) := by rw [Int.sub_eq_add_neg]; exact h.add k.neg
theorem Sz.of_le {n : Nat} {x y : Int} (h : Sz n y) (l : x.natAbs ≤ y.natAbs) : Sz n x := Nat.lt_of_le_of_lt l h

/-! ### fractions -/
def fr (q : Rat) : D := .tup [.int q.num, .int q.den]
theorem fr_inj {p q : Rat} (h : fr p = fr q) : p = q := by
  unfold fr at h
  injection h with h
  injection h with h1 h2
  injection h2 with h2 _
  injection h1 with h1
  injection h2 with h2
  exact Rat.ext h1 (by omega)
def SzR (n : Nat) (q : Rat) : Prop := Sz n q.num ∧ q.den < 2 ^ n
instance instDecSzR {n : Nat} {q : Rat} : Decidable (SzR n q) := by unfold SzR; infer_instance
theorem SzR.mono {m n : Nat} {q : Rat} (h : SzR m q) (l : m ≤ n) : SzR n q := ⟨h.1.mono l, Nat.lt_of_lt_of_le h.2 (Nat.pow_le_pow_right (by decide) l)⟩
theorem szR_divInt {n : Nat} {a b : Int} (ha : Sz n a) (hb : Sz n b) (h0 : 0 < n) : SzR n (Rat.divInt a b) := by
  refine ⟨?_, ?_⟩
  · rw [Rat.num_divInt]
    refine ha.of_le ?_
    have h1 : (b.sign * a / ((b.gcd a : Nat) : Int)).natAbs ≤ (b.sign * a).natAbs := by
      rw [Int.natAbs_ediv_of_dvd (Int.dvd_trans (Int.gcd_dvd_right ..) (Int.dvd_mul_left ..))]
      exact Nat.div_le_self _ _
    refine Nat.le_trans h1 ?_
    rw [Int.natAbs_mul, Int.natAbs_sign]
    split
    · omega
    · omega
  · rw [Rat.den_divInt]
    split
    · exact Nat.one_lt_two_pow (by omega)
    · exact Nat.lt_of_le_of_lt (Nat.div_le_self _ _) hb
theorem rat_divInt_add (p q : Rat) : p + q = Rat.divInt (p.num * q.den + q.num * p.den) (p.den * q.den) := by
  have hp : (p.den : Int) ≠ 0 := by have := p.den_nz; omega
  have hq : (q.den : Int) ≠ 0 := by have := q.den_nz; omega
  rw [← Rat.divInt_add_divInt _ _ hp hq, Rat.num_divInt_den, Rat.num_divInt_den]
theorem rat_divInt_mul (p q : Rat) : p * q = Rat.divInt (p.num * q.num) (p.den * q.den) := by
  rw [← Rat.divInt_mul_divInt, Rat.num_divInt_den, Rat.num_divInt_den]
theorem SzR.den {n : Nat} {q : Rat} (h : SzR n q) : Sz n (q.den : Int) := by
  unfold Sz; rw [Int.natAbs_natCast]; exact h.2
theorem SzR.add {m n : Nat} {p q : Rat} (h : SzR m p) (k : SzR n q) : SzR (m + n + 1) (p + q) := by
  rw [rat_divInt_add]
  have h1 : Sz (m + n) (p.num * q.den) := h.1.mul k.den
  have h2 : Sz (m + n) (q.num * p.den) := (k.1.mul h.den).mono (by omega)
  refine szR_divInt ?_ ((h.den.mul k.den).mono (by omega)) (by omega)
  unfold Sz at *
  have := Int.natAbs_add_le (p.num * q.den) (q.num * p.den)
  rw [Nat.pow_succ]
  omega
theorem SzR.mul {m n : Nat} {p q : Rat} (h : SzR m p) (k : SzR n q) : SzR (m + n) (p * q) := by
  rw [rat_divInt_mul]
  have hm : 0 < m := by
    rcases Nat.eq_zero_or_pos m with e | e
    · subst e
      have := h.2
      have := p.den_nz
      omega
    · exact e
  exact szR_divInt (h.1.mul k.1) (h.den.mul k.den) (by omega)
theorem den_pos (q : Rat) : (0 : Int) < q.den := by have := q.den_nz; omega
theorem den_ne (q : Rat) : (q.den : Int) ≠ 0 := by have := q.den_nz; omega
end LD
namespace LD
open PySem PySem.Spec PyProof.Rows L2

/-! ### the readings, one by one -/
section
variable {Φ : Nat → Spec} {X : Str → Mu → Prop} {ρ : Rho} {μ : Mu} {Q : QD} {C : DE}
/-- simp does not look into what such a mark names -/
inductive Bx {α : Sort u} (a : α) : Type where
  | mk
/-- a comprehension over what its iterator gave -/
def compW (Φ : Nat → Spec) (tg : Tg) (ifs : Es) (elt : E) (live : Mu → Prop) (ρ : Rho) (ds : List D) (μ : Mu) (Q : List D → Mu → Prop) (_ : Bx Q := .mk) : Prop := compL tg (fun ρ' μ' R => wpIf Φ ifs ρ' μ' R) (fun ρ' μ' R => wpE Φ (fun _ _ => False) elt ρ' μ' R) live ρ ds [] μ Q
def forW (Φ : Nat → Spec) (tg : Tg) (b : Ss) (live : Mu → Prop) (ds : List D) (C : DE) (ρ : Rho) (μ : Mu) (_ : Bx C := .mk) : Prop := forL tg (fun C' ρ' μ' => wpSs Φ b C' ρ' μ') live ds C ρ μ
def whlW (Φ : Nat → Spec) (t : E) (b : Ss) (C : DE) (ρ : Rho) (μ : Mu) (_ : Bx C := .mk) : Prop := wpS Φ (.whl t b) C ρ μ
def runK (s : Spec) (ds : List D) (μ : Mu) (X : Str → Mu → Prop) (Q : QD) (_ : Bx Q := .mk) (_ : Bx X := .mk) : Prop := s.run ds μ X Q
def nlK (xs : List D) (μ : Mu) (Q : QD) (_ : Bx Q := .mk) : Prop := newL xs μ Q
def slK (x : D) (lo hi : Option Int) (μ : Mu) (Q : QD) (_ : Bx Q := .mk) : Prop := slD x lo hi μ Q
def eqK (x y : D) (μ : Mu) (Q : Bool → Prop) (_ : Bx Q := .mk) : Prop := eqQ x y μ Q
def getK (o : Option (Option D)) (k : D → Prop) (_ : Bx k := .mk) : Prop := match o with
  | some (some d) => k d
  | _ => False
def truK (o : Option Bool) (A B : Prop) (_ : Bx A := .mk) (_ : Bx B := .mk) : Prop := match o with
  | some true => A
  | some false => B
  | none => False
def bK (o : Option Bool) (k : Bool → Prop) (_ : Bx k := .mk) : Prop := match o with
  | some b => k b
  | none => False
def asgK (o : Option Rho) (k : Rho → Prop) (_ : Bx k := .mk) : Prop := match o with
  | some ρ => k ρ
  | none => False
def atK (o : Option D) (k : D → Prop) (_ : Bx k := .mk) : Prop := match o with
  | some d => k d
  | none => False
def iteK (b : Bool) (A B : Prop) (_ : Bx A := .mk) (_ : Bx B := .mk) : Prop := if b = true then A else B
def seqK (o : Option (List D)) (k : List D → Prop) (_ : Bx k := .mk) : Prop := match o with
  | some xs => k xs
  | none => False
theorem getK_s {d : D} {k : D → Prop} {u : Bx k} : getK (some (some d)) k u = k d := rfl
theorem truK_t {A B : Prop} {u : Bx A} {v : Bx B} : truK (some true) A B u v = A := rfl
theorem truK_f {A B : Prop} {u : Bx A} {v : Bx B} : truK (some false) A B u v = B := rfl
theorem bK_s {b : Bool} {k : Bool → Prop} {u : Bx k} : bK (some b) k u = k b := rfl
theorem asgK_s {ρ : Rho} {k : Rho → Prop} {u : Bx k} : asgK (some ρ) k u = k ρ := rfl
theorem atK_s {d : D} {k : D → Prop} {u : Bx k} : atK (some d) k u = k d := rfl
theorem seqK_s {d : List D} {k : List D → Prop} {u : Bx k} : seqK (some d) k u = k d := rfl
theorem iteK_t {A B : Prop} {u : Bx A} {v : Bx B} : iteK true A B u v = A := rfl
theorem iteK_f {A B : Prop} {u : Bx A} {v : Bx B} : iteK false A B u v = B := rfl
theorem e_v {i : Nat} : wpE Φ X (.v i) ρ μ Q = getK ρ[i]? fun d => Q d μ := by (simp only [wpE]) <;> rfl
theorem e_c {d : D} : wpE Φ X (.c d) ρ μ Q = Q d μ := by (simp only [wpE]) <;> rfl
theorem e_bin {op : Operator} {a b : E} : wpE Φ X (.bin op a b) ρ μ Q = wpE Φ X a ρ μ fun x μ1 => wpE Φ X b ρ μ1 fun y μ2 => binD op x y μ2 Q := by (simp only [wpE]) <;> rfl
theorem e_neg {a : E} : wpE Φ X (.neg a) ρ μ Q = wpE Φ X a ρ μ fun x μ1 => match x with
    | .int i => Q (.int (-i)) μ1
    | _ => False := by (simp only [wpE]) <;> rfl
theorem e_cmp {op : CmpOp} {a b : E} : wpE Φ X (.cmp op a b) ρ μ Q = wpE Φ X a ρ μ fun x μ1 => wpE Φ X b ρ μ1 fun y μ2 => cmpD op x y μ2 fun k => Q (.bl k) μ2 := by (simp only [wpE]) <;> rfl
theorem e_chn {op op' : CmpOp} {a b c : E} : wpE Φ X (.chn op op' a b c) ρ μ Q = wpE Φ X a ρ μ fun x μ1 => wpE Φ X b ρ μ1 fun y μ2 => cmpD op x y μ2 fun k =>
      iteK k (wpE Φ X c ρ μ2 fun z μ3 => cmpD op' y z μ3 fun k' => Q (.bl k') μ3) (Q (.bl false) μ2) := by (simp only [wpE]) <;> rfl
theorem e_and {a b : E} : wpE Φ X (.and a b) ρ μ Q = wpE Φ X a ρ μ fun x μ1 => truK (tru x μ1) (wpE Φ X b ρ μ1 Q) (Q x μ1) := by (simp only [wpE]) <;> rfl
theorem e_or {a b : E} : wpE Φ X (.or a b) ρ μ Q = wpE Φ X a ρ μ fun x μ1 => truK (tru x μ1) (Q x μ1) (wpE Φ X b ρ μ1 Q) := by (simp only [wpE]) <;> rfl
theorem e_not {a : E} : wpE Φ X (.not a) ρ μ Q = wpE Φ X a ρ μ fun x μ1 => bK (tru x μ1) fun k => Q (.bl (!k)) μ1 := by (simp only [wpE]) <;> rfl
theorem e_ite {t a b : E} : wpE Φ X (.ite t a b) ρ μ Q = wpE Φ X t ρ μ fun x μ1 => truK (tru x μ1) (wpE Φ X a ρ μ1 Q) (wpE Φ X b ρ μ1 Q) := by (simp only [wpE]) <;> rfl
theorem e_tup {es : Es} : wpE Φ X (.tup es) ρ μ Q = wpEs Φ X es ρ μ fun ds μ1 => ds.length ≤ sizeLine ∧ Q (.tup ds) μ1 := by (simp only [wpE]) <;> rfl
theorem e_lst {es : Es} : wpE Φ X (.lst es) ρ μ Q = wpEs Φ X es ρ μ fun ds μ1 => ds.length ≤ sizeLine ∧ nlK ds μ1 Q := by (simp only [wpE]) <;> rfl
theorem e_ix {a b : E} : wpE Φ X (.ix a b) ρ μ Q = wpE Φ X a ρ μ fun x μ1 => wpE Φ X b ρ μ1 fun y μ2 => ixD x y μ2 Q := by (simp only [wpE]) <;> rfl
theorem e_sl {a : E} {lo hi : O} : wpE Φ X (.sl a lo hi) ρ μ Q = wpE Φ X a ρ μ fun x μ1 => wpO Φ X lo ρ μ1 fun l μ2 => wpO Φ X hi ρ μ2 fun h μ3 => slK x l h μ3 Q := by (simp only [wpE]) <;> rfl
theorem e_rev {a : E} : wpE Φ X (.rev a) ρ μ Q = wpE Φ X a ρ μ fun x μ1 => revD x μ1 Q := by (simp only [wpE]) <;> rfl
theorem e_call {f : Nat} {es ks : Es} {perm : List Nat} : wpE Φ X (.call f es ks perm) ρ μ Q = wpEs Φ X es ρ μ fun ds μ1 => wpEs Φ X ks ρ μ1 fun zs μ2 => runK (Φ f) (permA .non perm (ds ++ zs)) μ2 X Q := by (simp only [wpE]) <;> rfl
theorem e_bi {b : Bi} {es : Es} : wpE Φ X (.bi b es) ρ μ Q = wpEs Φ X es ρ μ fun ds μ1 => biD b ds μ1 Q := by (simp only [wpE]) <;> rfl
theorem e_isi {a : E} {ns : List String} : wpE Φ X (.isi a ns) ρ μ Q = wpE Φ X a ρ μ fun x μ1 => bK ((tyN x μ1).bind fun t => isiD t ns) fun b => Q (.bl b) μ1 := by
  simp only [wpE]
  congr 1
  funext x μ1
  cases tyN x μ1 <;> rfl
theorem e_app {o a : E} : wpE Φ X (.app o a) ρ μ Q = wpE Φ X o ρ μ fun x μ1 => isL x μ1 = true ∧ wpE Φ X a ρ μ1 fun y μ2 => appD x y μ2 Q := by (simp only [wpE]) <;> rfl
theorem e_ext {o a : E} : wpE Φ X (.ext o a) ρ μ Q = wpE Φ X o ρ μ fun x μ1 => isL x μ1 = true ∧ wpE Φ X a ρ μ1 fun y μ2 => extD x y μ2 Q := by (simp only [wpE]) <;> rfl
theorem e_pop {o : E} : wpE Φ X (.pop o) ρ μ Q = wpE Φ X o ρ μ fun x μ1 => popD x μ1 Q := by (simp only [wpE]) <;> rfl
theorem e_comp {tg : Tg} {it : I} {ifs : Es} {elt : E} {own : List Nat} : wpE Φ X (.comp tg it ifs elt own) ρ μ Q = wpI Φ X it ρ μ fun ds live μ1 => compW Φ tg ifs elt live (wipeR ρ own) ds μ1 fun acc μ2 => nlK acc μ2 Q := by (simp only [wpE]) <;> rfl
theorem es_nil {Q : List D → Mu → Prop} : wpEs Φ X .nil ρ μ Q = Q [] μ := by (simp only [wpEs]) <;> rfl
theorem es_cons {e : E} {es : Es} {Q : List D → Mu → Prop} : wpEs Φ X (.cons e es) ρ μ Q = wpE Φ X e ρ μ fun d μ1 => wpEs Φ X es ρ μ1 fun ds μ2 => Q (d :: ds) μ2 := by (simp only [wpEs]) <;> rfl
theorem if_nil {Q : Bool → Mu → Prop} : wpIf Φ .nil ρ μ Q = Q true μ := by (simp only [wpIf]) <;> rfl
theorem if_cons {e : E} {es : Es} {Q : Bool → Mu → Prop} : wpIf Φ (.cons e es) ρ μ Q = wpE Φ (fun _ _ => False) e ρ μ fun d μ1 => truK (tru d μ1) (wpIf Φ es ρ μ1 Q) (Q false μ1) := by (simp only [wpIf]) <;> rfl
theorem o_no {Q : Option Int → Mu → Prop} : wpO Φ X .no ρ μ Q = Q none μ := by (simp only [wpO]) <;> rfl
theorem o_so {e : E} {Q : Option Int → Mu → Prop} : wpO Φ X (.so e) ρ μ Q = wpE Φ X e ρ μ fun d μ1 => match d with
    | .int i => Q (some i) μ1
    | _ => False := by (simp only [wpO]) <;> rfl
theorem s_ex' {e : E} : wpS Φ (.ex e) C ρ μ = wpE Φ (fun x μ' => C.xx x ρ μ') e ρ μ fun _ μ' => C.nx ρ μ' := by (simp only [wpS]) <;> rfl
theorem s_ret' {e : E} : wpS Φ (.ret e) C ρ μ = wpE Φ (fun x μ' => C.xx x ρ μ') e ρ μ C.rt := by (simp only [wpS]) <;> rfl
theorem s_retN' : wpS Φ .retN C ρ μ = C.rt .non μ := by (simp only [wpS]) <;> rfl
theorem s_asg' {t : Tg} {e : E} : wpS Φ (.asg t e) C ρ μ = wpE Φ (fun x μ' => C.xx x ρ μ') e ρ μ fun d μ' => asgK (tgD μ' t d ρ) fun ρ' => C.nx ρ' μ' := by (simp only [wpS]) <;> rfl
theorem s_sub' {o i e : E} : wpS Φ (.sub o i e) C ρ μ = wpE Φ (fun x μ' => C.xx x ρ μ') e ρ μ fun v μ1 => wpE Φ (fun x μ' => C.xx x ρ μ') o ρ μ1 fun x μ2 => wpE Φ (fun x μ' => C.xx x ρ μ') i ρ μ2 fun y μ3 => setD x y v μ3 fun μ4 => C.nx ρ μ4 := by (simp only [wpS]) <;> rfl
theorem s_aug' {i : Nat} {op : Operator} {e : E} : wpS Φ (.aug i op e) C ρ μ = getK ρ[i]? fun x => wpE Φ (fun x μ' => C.xx x ρ μ') e ρ μ fun y μ1 => augD op x y μ1 fun z μ2 => C.nx (ρ.set i (some z)) μ2 := by (simp only [wpS]) <;> rfl
theorem s_iff' {t : E} {a b : Ss} : wpS Φ (.iff t a b) C ρ μ = wpE Φ (fun x μ' => C.xx x ρ μ') t ρ μ fun d μ1 => truK (tru d μ1) (wpSs Φ a C ρ μ1) (wpSs Φ b C ρ μ1) := by (simp only [wpS]) <;> rfl
theorem s_whl' {t : E} {b : Ss} : wpS Φ (.whl t b) C ρ μ = whlW Φ t b C ρ μ := rfl
theorem s_for' {tg : Tg} {it : I} {b : Ss} : wpS Φ (.for tg it b) C ρ μ = wpI Φ (fun x μ' => C.xx x ρ μ') it ρ μ fun ds live μ1 => forW Φ tg b live ds C ρ μ1 := by (simp only [wpS]) <;> rfl
theorem s_pass' : wpS Φ .pass C ρ μ = C.nx ρ μ := by (simp only [wpS]) <;> rfl
theorem s_brk' : wpS Φ .brk C ρ μ = C.bk ρ μ := by (simp only [wpS]) <;> rfl
theorem s_cont' : wpS Φ .cont C ρ μ = C.ct ρ μ := by (simp only [wpS]) <;> rfl
theorem s_raise' {x : Str} : wpS Φ (.raise x) C ρ μ = C.xx x ρ μ := by (simp only [wpS]) <;> rfl
theorem ss_nil' : wpSs Φ .nil C ρ μ = C.nx ρ μ := by (simp only [wpSs]) <;> rfl
theorem ss_cons' {s : S} {ss : Ss} : wpSs Φ (.cons s ss) C ρ μ = wpS Φ s { C with nx := fun ρ' μ' => wpSs Φ ss C ρ' μ' } ρ μ := by (simp only [wpSs]) <;> rfl
/-- a while, by an invariant that falls -/
theorem whlW_ind {t : E} {b : Ss} (I : Nat → Rho → Mu → Prop) (m0 : Nat) (h0 : I m0 ρ μ)
    (step : ∀ m ρ μ, I m ρ μ → wpE Φ (fun x μ' => C.xx x ρ μ') t ρ μ fun d μ1 => truK (tru d μ1) (wpSs Φ b { C with nx := fun ρ' μ' => ∃ m', m' < m ∧ I m' ρ' μ', ct := fun ρ' μ' => ∃ m', m' < m ∧ I m' ρ' μ', bk := C.nx } ρ μ1) (C.nx ρ μ1)) : whlW Φ t b C ρ μ := by
  unfold whlW
  simp only [wpS]
  exact ⟨I, ⟨m0, h0⟩, step⟩
end
/-! ### simp does not look behind calls -/
theorem sl_tup {xs : List D} {lo hi : Option Int} {μ : Mu} {Q : QD} : slK (.tup xs) lo hi μ Q = Q (.tup (cutD xs lo hi)) μ := rfl
theorem sl_rol {xs : List D} {lo hi : Option Int} {μ : Mu} {Q : QD} : slK (.rol xs) lo hi μ Q = nlK (cutD xs lo hi) μ Q := rfl
/-! what built-ins do, by kinds of values -/
section
variable {Φ : Nat → Spec} {X : Str → Mu → Prop} {ρ : Rho} {μ : Mu} {Q : QD} {xs ys : List D}
theorem bi_len_tup : biD .len [.tup xs] μ Q = Q (.int xs.length) μ := rfl
theorem bi_len_rol : biD .len [.rol xs] μ Q = Q (.int xs.length) μ := rfl
theorem bi_len_ref {a : Addr} : biD .len [.ref a] μ Q = seqK (seqOf (.ref a) μ) fun xs => Q (.int xs.length) μ := rfl
theorem bi_abs {i : Int} : biD .abs [.int i] μ Q = Q (.int (i.natAbs : Int)) μ := rfl
theorem bi_int {i : Int} : biD .int [.int i] μ Q = Q (.int i) μ := rfl
theorem bi_intb {k : Bool} : biD .int [.bl k] μ Q = Q (.int (if k then 1 else 0)) μ := rfl
theorem bi_gcd {i j : Int} : biD .gcd [.int i, .int j] μ Q = Q (.int (Int.gcd i j : Int)) μ := rfl
theorem bi_tup_tup : biD .tuple [.tup xs] μ Q = Q (.tup xs) μ := rfl
theorem bi_tup_rol : biD .tuple [.rol xs] μ Q = Q (.tup xs) μ := rfl
theorem bi_tup_ref {a : Addr} : biD .tuple [.ref a] μ Q = seqK (seqOf (.ref a) μ) fun xs => Q (.tup xs) μ := rfl
theorem bi_lst_tup : biD .list [.tup xs] μ Q = nlK xs μ Q := rfl
theorem bi_lst_rol : biD .list [.rol xs] μ Q = nlK xs μ Q := rfl
theorem bi_lst_ref {a : Addr} : biD .list [.ref a] μ Q = seqK (seqOf (.ref a) μ) fun xs => nlK xs μ Q := rfl
def intsK (o : Option (List Int)) (k : List Int → Prop) (_ : Bx k := .mk) : Prop := match o with
  | some ns => k ns
  | none => False
theorem intsK_s {ns : List Int} {k : List Int → Prop} {u : Bx k} : intsK (some ns) k u = k ns := rfl
def blsK (o : Option (List Bool)) (k : List Bool → Prop) (_ : Bx k := .mk) : Prop := match o with
  | some ns => k ns
  | none => False
theorem blsK_s {ns : List Bool} {k : List Bool → Prop} {u : Bx k} : blsK (some ns) k u = k ns := rfl
theorem bi_sum_tup : biD .sum [.tup xs] μ Q = intsK (intsOf xs) fun ns => Q (.int ns.sum) μ := rfl
theorem bi_sum_rol : biD .sum [.rol xs] μ Q = seqK (seqL (.rol xs) μ) fun xs => intsK (intsOf xs) fun ns => Q (.int ns.sum) μ := rfl
theorem bi_sum {a : Addr} : biD .sum [.ref a] μ Q = seqK (seqL (.ref a) μ) fun xs => intsK (intsOf xs) fun ns => Q (.int ns.sum) μ := rfl
theorem bi_all {d : D} : biD .all [d] μ Q = seqK (seqL d μ) fun xs => blsK (blsOf xs) fun ns => Q (.bl (ns.all id)) μ := rfl
theorem bi_any {d : D} : biD .any [d] μ Q = seqK (seqL d μ) fun xs => blsK (blsOf xs) fun ns => Q (.bl (ns.any id)) μ := rfl
theorem bi_max2 {i j : Int} : biD .max [.int i, .int j] μ Q = Q (.int (if j > i then j else i)) μ := rfl
theorem bi_min2 {i j : Int} : biD .min [.int i, .int j] μ Q = Q (.int (if j < i then j else i)) μ := rfl
theorem cmp_eq {x y : D} {P : Bool → Prop} : cmpD .Eq x y μ P = eqK x y μ P := rfl
theorem cmp_ne {x y : D} {P : Bool → Prop} : cmpD .NotEq x y μ P = eqK x y μ fun b => P (!b) := rfl
theorem cmp_lt {i j : Int} {P : Bool → Prop} : cmpD .Lt (.int i) (.int j) μ P = P (decide (i < j)) := rfl
theorem cmp_le {i j : Int} {P : Bool → Prop} : cmpD .LtE (.int i) (.int j) μ P = P (decide (i ≤ j)) := rfl
theorem cmp_gt {i j : Int} {P : Bool → Prop} : cmpD .Gt (.int i) (.int j) μ P = P (decide (j < i)) := rfl
theorem cmp_ge {i j : Int} {P : Bool → Prop} : cmpD .GtE (.int i) (.int j) μ P = P (decide (j ≤ i)) := rfl
theorem cmp_is {a b : Bool} {P : Bool → Prop} : cmpD .Is (.bl a) (.bl b) μ P = P (decide (a = b)) := rfl
theorem cmp_isn {a b : Bool} {P : Bool → Prop} : cmpD .IsNot (.bl a) (.bl b) μ P = P (!decide (a = b)) := rfl
theorem cmp_isN {d : D} {P : Bool → Prop} : cmpD .Is d .non μ P = P (isNon d) := by cases d <;> rfl
theorem cmp_isnN {d : D} {P : Bool → Prop} : cmpD .IsNot d .non μ P = P (!isNon d) := by cases d <;> rfl
theorem tru_non : tru .non μ = some false := rfl
theorem tru_bl {b : Bool} : tru (.bl b) μ = some b := rfl
theorem tru_int {i : Int} : tru (.int i) μ = some (i != 0) := rfl
theorem tru_tup : tru (.tup xs) μ = some (!xs.isEmpty) := rfl
theorem tru_rol : tru (.rol xs) μ = some (!xs.isEmpty) := rfl
theorem tru_ref {a : Addr} (h : μ a = some (.lst xs)) : tru (.ref a) μ = some (!xs.isEmpty) := by unfold tru; simp only [h]
theorem tru_up {a : Addr} : tru (.ref a) (up μ a (.lst xs)) = some (!xs.isEmpty) := tru_ref up_same
theorem seqOf_ref {a : Addr} (h : μ a = some (.lst xs)) : seqOf (.ref a) μ = some xs := by unfold seqOf; simp only [h]
theorem seqOf_up {a : Addr} : seqOf (.ref a) (up μ a (.lst xs)) = some xs := seqOf_ref up_same
theorem seqOf_tup : seqOf (.tup xs) μ = some xs := rfl
theorem seqOf_rol : seqOf (.rol xs) μ = some xs := rfl
theorem seqL_ref {a : Addr} (h : μ a = some (.lst xs)) : seqL (.ref a) μ = some xs := seqOf_ref h
theorem seqL_up' {a : Addr} : seqL (.ref a) (up μ a (.lst xs)) = some xs := seqOf_up
theorem seqL_rol : seqL (.rol xs) μ = some xs := rfl
theorem tyN_ref {a : Addr} (h : μ a = some (.lst xs)) : tyN (.ref a) μ = some "list" := by unfold tyN; simp only [h]
theorem tyN_up {a : Addr} : tyN (.ref a) (up μ a (.lst xs)) = some "list" := tyN_ref up_same
theorem i_valE {e : E} {Q : List D → (Mu → Prop) → Mu → Prop} : wpI Φ X (.val e) ρ μ Q = wpE Φ X e ρ μ fun d μ1 => seqK (seqOf d μ1) fun xs => Q xs (liveOf d xs) μ1 := by (simp only [wpI]) <;> rfl
theorem i_rng1E {a : E} {Q : List D → (Mu → Prop) → Mu → Prop} : wpI Φ X (.rng1 a) ρ μ Q = wpE Φ X a ρ μ fun x μ1 => match x with
    | .int j => (-(2 ^ 62) ≤ j ∧ j < 2 ^ 62) ∧ Q (rngL 0 j.toNat) (fun _ => True) μ1
    | _ => False := by (simp only [wpI]) <;> rfl
theorem i_rng2E {a b : E} {Q : List D → (Mu → Prop) → Mu → Prop} : wpI Φ X (.rng2 a b) ρ μ Q = wpE Φ X a ρ μ fun x μ1 => wpE Φ X b ρ μ1 fun y μ2 => match x, y with
    | .int i, .int j => (-(2 ^ 62) ≤ i ∧ i < 2 ^ 62 ∧ -(2 ^ 62) ≤ j ∧ j < 2 ^ 62) ∧ Q (rngL i (j - i).toNat) (fun _ => True) μ2
    | _, _ => False := by (simp only [wpI]) <;> rfl
theorem i_zipE {a b : E} {Q : List D → (Mu → Prop) → Mu → Prop} : wpI Φ X (.zip a b) ρ μ Q = wpE Φ X a ρ μ fun x μ1 => wpE Φ X b ρ μ1 fun y μ2 => seqK (seqOf x μ2) fun xs => seqK (seqOf y μ2) fun ys => isTup x = isTup y ∧ Q (zipL xs ys) (fun μ' => liveOf x xs μ' ∧ liveOf y ys μ') μ2 := by
  simp only [wpI]
  congr 1
  funext x μ1
  congr 1
  funext y μ2
  cases seqOf x μ2 <;> cases seqOf y μ2 <;> rfl
theorem i_enuE {a : E} {Q : List D → (Mu → Prop) → Mu → Prop} : wpI Φ X (.enu a) ρ μ Q = wpE Φ X a ρ μ fun x μ1 => seqK (seqOf x μ1) fun xs => isTup x = false ∧ Q (enuL 0 xs) (liveOf x xs) μ1 := by (simp only [wpI]) <;> rfl
theorem isi_c {t : String} {ns : List String} : ((some t).bind fun t => isiD t ns) = isiD t ns := rfl
theorem tg_nm {i : Nat} {d : D} {ρ : Rho} : tgD μ (.nm i) d ρ = some (ρ.set i (some d)) := rfl
theorem tg_tp {ts : Tgs} {ρ : Rho} : tgD μ (.tp ts) (.tup xs) ρ = tgsD μ ts xs ρ := rfl
end
/-! ### loops -/
section
variable {Φ : Nat → Spec}
theorem forL_ind {tg : Tg} {b : Ss} {live : Mu → Prop} {C : DE} (I : List D → Rho → Mu → Prop)
    (step : ∀ x xs ρ μ, I (x :: xs) ρ μ → live μ ∧ ∃ ρ', tgD μ tg x ρ = some ρ' ∧ wpSs Φ b { C with nx := I xs, ct := I xs, bk := C.nx } ρ' μ)
    (fin : ∀ ρ μ, I [] ρ μ → live μ ∧ C.nx ρ μ) : ∀ (xs : List D) (ρ : Rho) (μ : Mu), I xs ρ μ → forW Φ tg b live xs C ρ μ
  | [], ρ, μ, h => by unfold forW forL; exact fin ρ μ h
  | x :: xs, ρ, μ, h => by
    unfold forW forL
    obtain ⟨h1, ρ', e, h2⟩ := step x xs ρ μ h
    refine ⟨h1, ?_⟩
    rw [e]
    refine wpSs_mono b { C with nx := I xs, ct := I xs, bk := C.nx } _ ?_ _ _ h2
    exact ⟨fun ρ μ h => forL_ind I step fin xs ρ μ h, fun _ _ h => h, fun _ _ h => h, fun ρ μ h => forL_ind I step fin xs ρ μ h, fun _ _ _ h => h⟩
theorem compL_ind {tg : Tg} {ifs : Es} {elt : E} {live : Mu → Prop} {ρ : Rho} {Q : List D → Mu → Prop} (I : List D → List D → Mu → Prop)
    (step : ∀ x xs acc μ, I (x :: xs) acc μ → live μ ∧ ∃ ρ', tgD μ tg x ρ = some ρ' ∧ wpIf Φ ifs ρ' μ fun b μ1 => if b = true then wpE Φ (fun _ _ => False) elt ρ' μ1 fun y μ2 => acc.length < sizeLine ∧ I xs (acc ++ [y]) μ2 else I xs acc μ1)
    (fin : ∀ acc μ, I [] acc μ → live μ ∧ Q acc μ) : ∀ (xs acc : List D) (μ : Mu), I xs acc μ → compL tg (fun ρ' μ' R => wpIf Φ ifs ρ' μ' R) (fun ρ' μ' R => wpE Φ (fun _ _ => False) elt ρ' μ' R) live ρ xs acc μ Q
  | [], acc, μ, h => by unfold compL; exact fin acc μ h
  | x :: xs, acc, μ, h => by
    unfold compL
    obtain ⟨h1, ρ', e, h2⟩ := step x xs acc μ h
    refine ⟨h1, ?_⟩
    rw [e]
    refine wpIf_mono ifs _ _ _ _ (fun b μ1 h3 => ?_) h2
    split at h3
    · rename_i hb
      rw [if_pos hb]
      exact wpE_mono (fun _ _ z => z) elt _ _ _ _ (fun y μ2 h4 => ⟨h4.1, compL_ind I step fin xs _ μ2 h4.2⟩) h3
    · rename_i hb
      rw [if_neg hb]
      exact compL_ind I step fin xs _ μ1 h3
/-- a comprehension that only maps -/
theorem compL_map {tg : Tg} {elt : E} {live : Mu → Prop} {ρ : Rho} {Q : List D → Mu → Prop} {f : D → D} {μ : Mu} (hl : live μ) (xs : List D) (hs : xs.length ≤ sizeLine)
    (step : ∀ x ∈ xs, ∀ R : QD, R (f x) μ → ∃ ρ', tgD μ tg x ρ = some ρ' ∧ wpE Φ (fun _ _ => False) elt ρ' μ R) (q : Q (xs.map f) μ) :
    compW Φ tg .nil elt live ρ xs μ Q := by
  unfold compW
  refine compL_ind (fun ys acc μ' => μ' = μ ∧ acc ++ ys.map f = xs.map f ∧ ∀ y ∈ ys, y ∈ xs) (fun x ys acc μ' h => ?_) (fun acc μ' h => ?_) xs [] μ ⟨rfl, rfl, fun _ h => h⟩
  · obtain ⟨rfl, e, m⟩ := h
    have hlen : acc.length < sizeLine := by
      have := congrArg List.length e
      rw [List.length_append, List.length_map, List.length_map, List.length_cons] at this
      omega
    obtain ⟨ρ', e1, e2⟩ := step x (m x (List.mem_cons_self ..)) (fun y μ2 => acc.length < sizeLine ∧ μ2 = μ' ∧ (acc ++ [y]) ++ ys.map f = xs.map f ∧ ∀ y ∈ ys, y ∈ xs) ⟨hlen, rfl, by rw [List.append_assoc]; exact e, fun y hy => m y (List.mem_cons_of_mem _ hy)⟩
    refine ⟨hl, ρ', e1, ?_⟩
    simp only [wpIf]
    exact e2
  · obtain ⟨rfl, e, m⟩ := h
    rw [List.map_nil, List.append_nil] at e
    rw [e]
    exact ⟨hl, q⟩
end

/-! ### small readings -/
theorem eq_int {a b : Int} {μ : Mu} {Q : Bool → Prop} : eqK (.int a) (.int b) μ Q ↔ Q (decide (a = b)) := by
  have e : (PyData.eqv (.int a) (.int b)) = decide (a = b) := by
    show (a == b) = _
    rw [Bool.eq_iff_iff]; simp
  unfold eqK eqQ
  simp only [pdOf, e]
  constructor
  · exact fun h => h.2.2
  · exact fun h => ⟨rfl, rfl, h⟩
theorem eq_fr {p q : Rat} {μ : Mu} {Q : Bool → Prop} : eqK (fr p) (fr q) μ Q ↔ Q (decide (p = q)) := by
  have e : (PyData.eqv (.tuple [.int p.num, .int p.den]) (.tuple [.int q.num, .int q.den])) = decide (p = q) := by
    rw [Bool.eq_iff_iff, decide_eq_true_iff]
    simp only [PyData.eqv, PyData.eqvAll, Bool.and_true, Bool.and_eq_true, beq_iff_eq]
    constructor
    · intro h; exact Rat.ext h.1 (by have := h.2; omega)
    · intro h; rw [h]; exact ⟨rfl, rfl⟩
  unfold eqK eqQ
  simp only [fr, pdOf, pdL, Option.map, e]
  constructor
  · exact fun h => h.2.2
  · exact fun h => ⟨rfl, rfl, h⟩
theorem ixD_int {xs : List D} {i : Int} {μ : Mu} {Q : QD} : ixD (.tup xs) (.int i) μ Q = atK (atI xs i) fun d => Q d μ := rfl
theorem ixD_rod {ks : List Int} {xs : List D} {i : Int} {μ : Mu} {Q : QD} : ixD (.rod ks xs) (.int i) μ Q = atK (lookI ks xs i) fun d => Q d μ := rfl
theorem atI_nat {α : Type} {xs : List α} {n : Nat} (h : n < xs.length) : atI xs (n : Int) = xs[n]? := by
  unfold atI ixN
  rw [if_pos (by omega), if_pos (by omega)]
  simp
theorem atI0 {α : Type} {x : α} {xs : List α} : atI (x :: xs) 0 = some x := atI_nat (n := 0) (by simp)
theorem atI1 {α : Type} {x y : α} {xs : List α} : atI (x :: y :: xs) 1 = some y := atI_nat (n := 1) (by simp)
theorem atI2 {α : Type} {x y z : α} {xs : List α} : atI (x :: y :: z :: xs) 2 = some z := atI_nat (n := 2) (by simp)
theorem atI3 {α : Type} {x y z u : α} {xs : List α} : atI (x :: y :: z :: u :: xs) 3 = some u := atI_nat (n := 3) (by simp)
theorem isi_int : isiD "int" ["int"] = some true ∧ isiD "int" ["bool"] = some false ∧ isiD "int" ["tuple"] = some false ∧ isiD "int" ["list"] = some false ∧ isiD "int" ["str"] = some false ∧ isiD "int" ["list", "tuple"] = some false ∧ isiD "int" ["bool", "str"] = some false := by
  refine ⟨?_, ?_, ?_, ?_, ?_, ?_, ?_⟩ <;> decide +kernel
theorem isi_bl : isiD "bool" ["int"] = some true ∧ isiD "bool" ["bool"] = some true ∧ isiD "bool" ["tuple"] = some false ∧ isiD "bool" ["list"] = some false ∧ isiD "bool" ["str"] = some false ∧ isiD "bool" ["list", "tuple"] = some false ∧ isiD "bool" ["bool", "str"] = some true := by
  refine ⟨?_, ?_, ?_, ?_, ?_, ?_, ?_⟩ <;> decide +kernel
theorem isi_tup : isiD "tuple" ["int"] = some false ∧ isiD "tuple" ["bool"] = some false ∧ isiD "tuple" ["tuple"] = some true ∧ isiD "tuple" ["list"] = some false ∧ isiD "tuple" ["str"] = some false ∧ isiD "tuple" ["list", "tuple"] = some true ∧ isiD "tuple" ["bool", "str"] = some false := by
  refine ⟨?_, ?_, ?_, ?_, ?_, ?_, ?_⟩ <;> decide +kernel
theorem isi_rol : isiD "list" ["int"] = some false ∧ isiD "list" ["bool"] = some false ∧ isiD "list" ["tuple"] = some false ∧ isiD "list" ["list"] = some true ∧ isiD "list" ["str"] = some false ∧ isiD "list" ["list", "tuple"] = some true ∧ isiD "list" ["bool", "str"] = some false := by
  refine ⟨?_, ?_, ?_, ?_, ?_, ?_, ?_⟩ <;> decide +kernel
theorem isi_str : isiD "str" ["int"] = some false ∧ isiD "str" ["bool"] = some false ∧ isiD "str" ["tuple"] = some false ∧ isiD "str" ["list"] = some false ∧ isiD "str" ["str"] = some true ∧ isiD "str" ["list", "tuple"] = some false ∧ isiD "str" ["bool", "str"] = some true := by
  refine ⟨?_, ?_, ?_, ?_, ?_, ?_, ?_⟩ <;> decide +kernel
theorem isi_non : isiD "NoneType" ["int"] = some false ∧ isiD "NoneType" ["bool"] = some false ∧ isiD "NoneType" ["tuple"] = some false ∧ isiD "NoneType" ["list"] = some false ∧ isiD "NoneType" ["str"] = some false ∧ isiD "NoneType" ["list", "tuple"] = some false ∧ isiD "NoneType" ["bool", "str"] = some false := by
  refine ⟨?_, ?_, ?_, ?_, ?_, ?_, ?_⟩ <;> decide +kernel

end LD
namespace LD
open PySem PySem.Spec PyProof.Rows L2
/-! ### the package: plain, fractions -/
abbrev b_is_number : Ss := (.cons (.ret (.and (.isi (.v 0) ["int"]) (.not (.isi (.v 0) ["bool"])))) .nil)
abbrev b_is_within (i_is_number : Nat) : Ss := (.cons (.ret (.and (.call i_is_number (.cons (.v 0) .nil) .nil [0]) (.chn .LtE .LtE (.v 1) (.v 0) (.v 2)))) .nil)
abbrev b_is_long : Ss := (.cons (.ret (.and (.isi (.v 0) ["tuple"]) (.cmp .Eq (.bi .len (.cons (.v 0) .nil)) (.v 1)))) .nil)
abbrev b_are_numbers (i_is_long : Nat) (i_is_number : Nat) : Ss := (.cons (.ret (.and (.call i_is_long (.cons (.v 0) (.cons (.v 1) .nil)) .nil [0, 1]) (.bi .all (.cons (.comp (.nm 2) (.val (.v 0)) .nil (.call i_is_number (.cons (.v 2) .nil) .nil [0]) [2]) .nil)))) .nil)
abbrev b_tupled (i_tupled : Nat) : Ss := (.cons (.ret (.ite (.isi (.v 0) ["list", "tuple"]) (.bi .tuple (.cons (.comp (.nm 1) (.val (.v 0)) .nil (.call i_tupled (.cons (.v 1) .nil) .nil [0]) [1]) .nil)) (.v 0))) .nil)
abbrev b_is_fraction_of (i_is_long : Nat) (i_is_number : Nat) : Ss := (.cons (.iff (.or (.not (.call i_is_long (.cons (.v 0) (.cons (.c (.int 2)) .nil)) .nil [0, 1])) (.or (.not (.call i_is_number (.cons (.ix (.v 0) (.c (.int 0))) .nil) .nil [0])) (.not (.call i_is_number (.cons (.ix (.v 0) (.c (.int 1))) .nil) .nil [0])))) (.cons (.ret (.c (.bl false))) .nil) .nil) (.cons (.ret (.and (.cmp .Gt (.ix (.v 0) (.c (.int 1))) (.c (.int 0))) (.cmp .Eq (.bi .gcd (.cons (.ix (.v 0) (.c (.int 0))) (.cons (.ix (.v 0) (.c (.int 1))) .nil))) (.c (.int 1))))) .nil))
abbrev b_lowest : Ss := (.cons (.asg (.nm 2) (.bin .Mult (.bi .gcd (.cons (.v 0) (.cons (.v 1) .nil))) (.ite (.cmp .Gt (.v 1) (.c (.int 0))) (.c (.int 1)) (.neg (.c (.int 1)))))) (.cons (.ret (.tup (.cons (.bin .FloorDiv (.v 0) (.v 2)) (.cons (.bin .FloorDiv (.v 1) (.v 2)) .nil)))) .nil))
abbrev b_added (i_lowest : Nat) : Ss := (.cons (.ret (.call i_lowest (.cons (.bin .Add (.bin .Mult (.ix (.v 0) (.c (.int 0))) (.ix (.v 1) (.c (.int 1)))) (.bin .Mult (.ix (.v 1) (.c (.int 0))) (.ix (.v 0) (.c (.int 1))))) (.cons (.bin .Mult (.ix (.v 0) (.c (.int 1))) (.ix (.v 1) (.c (.int 1)))) .nil)) .nil [0, 1])) .nil)
abbrev b_times (i_lowest : Nat) : Ss := (.cons (.ret (.call i_lowest (.cons (.bin .Mult (.ix (.v 0) (.c (.int 0))) (.ix (.v 1) (.c (.int 0)))) (.cons (.bin .Mult (.ix (.v 0) (.c (.int 1))) (.ix (.v 1) (.c (.int 1)))) .nil)) .nil [0, 1])) .nil)
abbrev b_sure_fraction (i_tupled : Nat) (i_is_fraction_of : Nat) : Ss := (.cons (.asg (.nm 1) (.call i_tupled (.cons (.v 0) .nil) .nil [0])) (.cons (.iff (.not (.call i_is_fraction_of (.cons (.v 1) .nil) .nil [0])) (.cons (.raise ("Unfit" : Str)) .nil) .nil) (.cons (.ret (.v 1)) .nil)))
abbrev b_fraction_sum (i_sure_fraction : Nat) (i_added : Nat) : Ss := (.cons (.asg (.nm 2) (.call i_sure_fraction (.cons (.v 0) .nil) .nil [0])) (.cons (.ret (.call i_added (.cons (.v 2) (.cons (.call i_sure_fraction (.cons (.v 1) .nil) .nil [0]) .nil)) .nil [0, 1])) .nil))
/-- values that stand for themselves -/
def flat : D → Bool
  | .non => true
  | .bl _ => true
  | .int _ => true
  | .str _ => true
  | .tup _ => true
  | _ => false
def isInt : D → Bool
  | .int _ => true
  | _ => false
def sp_is_number : Spec := pur (fun d : D => [d]) (fun d _ => flat d = true) fun d => .bl (isInt d)
theorem inj1 {α : Type} (i j : α) (h : [i] = [j]) : i = j := (List.cons.inj h).1
theorem run_is_number {d : D} {μ : Mu} {X : Str → Mu → Prop} {Q : QD} : runK sp_is_number [d] μ X Q ↔ flat d = true ∧ Q (.bl (isInt d)) μ := pur_run inj1 d
theorem m_is_number {Φ : Nat → Spec} : Meets Φ 1 1 b_is_number sp_is_number := pur_meets inj1 fun d μ h => by
  cases d <;> first
    | (cases h; done)
    | (simp only [b_is_number, isInt, Nat.sub_self, ↓e_v, ↓e_c, ↓e_bin, ↓e_neg, ↓e_cmp, ↓e_chn, ↓e_and, ↓e_or, ↓e_not, ↓e_ite, ↓e_tup, ↓e_lst, ↓e_ix, ↓e_sl, ↓e_rev, ↓e_call, ↓e_bi, ↓e_isi, ↓e_app, ↓e_ext, ↓e_pop, ↓e_comp, ↓es_nil, ↓es_cons, ↓if_nil, ↓if_cons, ↓o_no, ↓o_so, ↓s_ex', ↓s_ret', ↓s_retN', ↓s_asg', ↓s_sub', ↓s_aug', ↓s_iff', ↓s_whl', ↓s_for', ↓s_pass', ↓s_brk', ↓s_cont', ↓s_raise', ↓ss_nil', ↓ss_cons', ↓i_valE, ↓i_rng1E, ↓i_rng2E, ↓i_zipE, ↓i_enuE, ↓getK_s, ↓truK_t, ↓truK_f, ↓bK_s, ↓asgK_s, ↓atK_s, ↓seqK_s, ↓intsK_s, ↓blsK_s, ↓iteK_t, ↓iteK_f, ↓binD, ↓augD, ↓cmp_eq, ↓cmp_ne, ↓cmp_lt, ↓cmp_le, ↓cmp_gt, ↓cmp_ge, ↓cmp_is, ↓cmp_isn, ↓cmp_isN, ↓cmp_isnN, isNon, ↓ixD_int, ↓ixD_rod, atI0, atI1, atI2, atI3, ↓sl_tup, ↓sl_rol, ↓bi_len_tup, ↓bi_len_rol, ↓bi_len_ref, ↓bi_abs, ↓bi_int, ↓bi_intb, ↓bi_gcd, ↓bi_tup_tup, ↓bi_tup_rol, ↓bi_tup_ref, ↓bi_lst_tup, ↓bi_lst_rol, ↓bi_lst_ref, ↓bi_sum, ↓bi_sum_tup, ↓bi_sum_rol, ↓bi_all, ↓bi_any, ↓bi_max2, ↓bi_min2, tg_nm, tg_tp, tgsD, seqOf_tup, seqOf_rol, seqOf_up, seqL_rol, seqL_up', tru_non, tru_bl, tru_int, tru_tup, tru_rol, tru_up, ↓eq_int, isi_c, isi_int, isi_bl, isi_tup, isi_non, isi_str, isi_rol, tyN_up, tyN, List.getElem?_cons_zero, List.getElem?_cons_succ, List.set_cons_zero, List.set_cons_succ, permA, List.map_cons, List.map_nil, List.getD_cons_zero, List.getD_cons_succ, List.cons_append, List.nil_append, List.append_nil, List.replicate_succ, List.replicate_zero, RtP, ite_true, ite_false, if_true, if_false, Bool.false_eq_true, decide_true, decide_false, Bool.not_true, Bool.not_false, List.length_cons, List.length_nil, Bool.not_true, Bool.not_false]; exact ⟨.refl, trivial⟩)
def sp_is_within : Spec := pur (fun p : Int × Int × Int => [.int p.1, .int p.2.1, .int p.2.2]) (fun _ _ => True) fun p => .bl (decide (p.2.1 ≤ p.1) && decide (p.1 ≤ p.2.2))
theorem run_is_within {a b c : Int} {μ : Mu} {X : Str → Mu → Prop} {Q : QD} : runK sp_is_within [.int a, .int b, .int c] μ X Q ↔ True ∧ Q (.bl (decide (b ≤ a) && decide (a ≤ c))) μ :=
  pur_run (args := fun p : Int × Int × Int => [.int p.1, .int p.2.1, .int p.2.2]) (by rintro ⟨a, b, c⟩ ⟨d, e, f⟩ h; simpa using h) (a, b, c)
theorem m_is_within {Φ : Nat → Spec} {i : Nat} (h : Φ i = sp_is_number) : Meets Φ 3 3 (b_is_within i) sp_is_within := pur_meets (by rintro ⟨a, b, c⟩ ⟨d, e, f⟩ h; simpa using h) fun ⟨a, b, c⟩ μ _ => by
  simp only [b_is_within, Nat.sub_self, ↓e_v, ↓e_c, ↓e_bin, ↓e_neg, ↓e_cmp, ↓e_chn, ↓e_and, ↓e_or, ↓e_not, ↓e_ite, ↓e_tup, ↓e_lst, ↓e_ix, ↓e_sl, ↓e_rev, ↓e_call, ↓e_bi, ↓e_isi, ↓e_app, ↓e_ext, ↓e_pop, ↓e_comp, ↓es_nil, ↓es_cons, ↓if_nil, ↓if_cons, ↓o_no, ↓o_so, ↓s_ex', ↓s_ret', ↓s_retN', ↓s_asg', ↓s_sub', ↓s_aug', ↓s_iff', ↓s_whl', ↓s_for', ↓s_pass', ↓s_brk', ↓s_cont', ↓s_raise', ↓ss_nil', ↓ss_cons', ↓i_valE, ↓i_rng1E, ↓i_rng2E, ↓i_zipE, ↓i_enuE, ↓getK_s, ↓truK_t, ↓truK_f, ↓bK_s, ↓asgK_s, ↓atK_s, ↓seqK_s, ↓intsK_s, ↓blsK_s, ↓iteK_t, ↓iteK_f, ↓binD, ↓augD, ↓cmp_eq, ↓cmp_ne, ↓cmp_lt, ↓cmp_le, ↓cmp_gt, ↓cmp_ge, ↓cmp_is, ↓cmp_isn, ↓cmp_isN, ↓cmp_isnN, isNon, ↓ixD_int, ↓ixD_rod, atI0, atI1, atI2, atI3, ↓sl_tup, ↓sl_rol, ↓bi_len_tup, ↓bi_len_rol, ↓bi_len_ref, ↓bi_abs, ↓bi_int, ↓bi_intb, ↓bi_gcd, ↓bi_tup_tup, ↓bi_tup_rol, ↓bi_tup_ref, ↓bi_lst_tup, ↓bi_lst_rol, ↓bi_lst_ref, ↓bi_sum, ↓bi_sum_tup, ↓bi_sum_rol, ↓bi_all, ↓bi_any, ↓bi_max2, ↓bi_min2, tg_nm, tg_tp, tgsD, seqOf_tup, seqOf_rol, seqOf_up, seqL_rol, seqL_up', tru_non, tru_bl, tru_int, tru_tup, tru_rol, tru_up, ↓eq_int, isi_c, isi_int, isi_bl, isi_tup, isi_non, isi_str, isi_rol, tyN_up, tyN, List.getElem?_cons_zero, List.getElem?_cons_succ, List.set_cons_zero, List.set_cons_succ, permA, List.map_cons, List.map_nil, List.getD_cons_zero, List.getD_cons_succ, List.cons_append, List.nil_append, List.append_nil, List.replicate_succ, List.replicate_zero, RtP, ite_true, ite_false, if_true, if_false, Bool.false_eq_true, decide_true, decide_false, Bool.not_true, Bool.not_false, List.length_cons, List.length_nil, h, run_is_number, isInt, flat, true_and]
  by_cases q : b ≤ a
  · simp only [q, decide_true, ↓e_v, ↓e_c, ↓e_bin, ↓e_neg, ↓e_cmp, ↓e_chn, ↓e_and, ↓e_or, ↓e_not, ↓e_ite, ↓e_tup, ↓e_lst, ↓e_ix, ↓e_sl, ↓e_rev, ↓e_call, ↓e_bi, ↓e_isi, ↓e_app, ↓e_ext, ↓e_pop, ↓e_comp, ↓es_nil, ↓es_cons, ↓if_nil, ↓if_cons, ↓o_no, ↓o_so, ↓s_ex', ↓s_ret', ↓s_retN', ↓s_asg', ↓s_sub', ↓s_aug', ↓s_iff', ↓s_whl', ↓s_for', ↓s_pass', ↓s_brk', ↓s_cont', ↓s_raise', ↓ss_nil', ↓ss_cons', ↓i_valE, ↓i_rng1E, ↓i_rng2E, ↓i_zipE, ↓i_enuE, ↓getK_s, ↓truK_t, ↓truK_f, ↓bK_s, ↓asgK_s, ↓atK_s, ↓seqK_s, ↓intsK_s, ↓blsK_s, ↓iteK_t, ↓iteK_f, ↓binD, ↓augD, ↓cmp_eq, ↓cmp_ne, ↓cmp_lt, ↓cmp_le, ↓cmp_gt, ↓cmp_ge, ↓cmp_is, ↓cmp_isn, ↓cmp_isN, ↓cmp_isnN, isNon, ↓ixD_int, ↓ixD_rod, atI0, atI1, atI2, atI3, ↓sl_tup, ↓sl_rol, ↓bi_len_tup, ↓bi_len_rol, ↓bi_len_ref, ↓bi_abs, ↓bi_int, ↓bi_intb, ↓bi_gcd, ↓bi_tup_tup, ↓bi_tup_rol, ↓bi_tup_ref, ↓bi_lst_tup, ↓bi_lst_rol, ↓bi_lst_ref, ↓bi_sum, ↓bi_sum_tup, ↓bi_sum_rol, ↓bi_all, ↓bi_any, ↓bi_max2, ↓bi_min2, tg_nm, tg_tp, tgsD, seqOf_tup, seqOf_rol, seqOf_up, seqL_rol, seqL_up', tru_non, tru_bl, tru_int, tru_tup, tru_rol, tru_up, ↓eq_int, isi_c, isi_int, isi_bl, isi_tup, isi_non, isi_str, isi_rol, tyN_up, tyN, List.getElem?_cons_zero, List.getElem?_cons_succ, List.set_cons_zero, List.set_cons_succ, permA, List.map_cons, List.map_nil, List.getD_cons_zero, List.getD_cons_succ, List.cons_append, List.nil_append, List.append_nil, List.replicate_succ, List.replicate_zero, RtP, ite_true, ite_false, if_true, if_false, Bool.false_eq_true, decide_true, decide_false, Bool.not_true, Bool.not_false, List.length_cons, List.length_nil, Bool.true_and]; exact ⟨.refl, trivial⟩
  · simp only [q, decide_false, ↓e_v, ↓e_c, ↓e_bin, ↓e_neg, ↓e_cmp, ↓e_chn, ↓e_and, ↓e_or, ↓e_not, ↓e_ite, ↓e_tup, ↓e_lst, ↓e_ix, ↓e_sl, ↓e_rev, ↓e_call, ↓e_bi, ↓e_isi, ↓e_app, ↓e_ext, ↓e_pop, ↓e_comp, ↓es_nil, ↓es_cons, ↓if_nil, ↓if_cons, ↓o_no, ↓o_so, ↓s_ex', ↓s_ret', ↓s_retN', ↓s_asg', ↓s_sub', ↓s_aug', ↓s_iff', ↓s_whl', ↓s_for', ↓s_pass', ↓s_brk', ↓s_cont', ↓s_raise', ↓ss_nil', ↓ss_cons', ↓i_valE, ↓i_rng1E, ↓i_rng2E, ↓i_zipE, ↓i_enuE, ↓getK_s, ↓truK_t, ↓truK_f, ↓bK_s, ↓asgK_s, ↓atK_s, ↓seqK_s, ↓intsK_s, ↓blsK_s, ↓iteK_t, ↓iteK_f, ↓binD, ↓augD, ↓cmp_eq, ↓cmp_ne, ↓cmp_lt, ↓cmp_le, ↓cmp_gt, ↓cmp_ge, ↓cmp_is, ↓cmp_isn, ↓cmp_isN, ↓cmp_isnN, isNon, ↓ixD_int, ↓ixD_rod, atI0, atI1, atI2, atI3, ↓sl_tup, ↓sl_rol, ↓bi_len_tup, ↓bi_len_rol, ↓bi_len_ref, ↓bi_abs, ↓bi_int, ↓bi_intb, ↓bi_gcd, ↓bi_tup_tup, ↓bi_tup_rol, ↓bi_tup_ref, ↓bi_lst_tup, ↓bi_lst_rol, ↓bi_lst_ref, ↓bi_sum, ↓bi_sum_tup, ↓bi_sum_rol, ↓bi_all, ↓bi_any, ↓bi_max2, ↓bi_min2, tg_nm, tg_tp, tgsD, seqOf_tup, seqOf_rol, seqOf_up, seqL_rol, seqL_up', tru_non, tru_bl, tru_int, tru_tup, tru_rol, tru_up, ↓eq_int, isi_c, isi_int, isi_bl, isi_tup, isi_non, isi_str, isi_rol, tyN_up, tyN, List.getElem?_cons_zero, List.getElem?_cons_succ, List.set_cons_zero, List.set_cons_succ, permA, List.map_cons, List.map_nil, List.getD_cons_zero, List.getD_cons_succ, List.cons_append, List.nil_append, List.append_nil, List.replicate_succ, List.replicate_zero, RtP, ite_true, ite_false, if_true, if_false, Bool.false_eq_true, decide_true, decide_false, Bool.not_true, Bool.not_false, List.length_cons, List.length_nil, Bool.false_and]; exact ⟨.refl, trivial⟩

def longV : D → Int → Bool
  | .tup xs, n => decide ((xs.length : Int) = n)
  | _, _ => false
def sp_is_long : Spec := pur (fun p : D × Int => [p.1, .int p.2]) (fun p μ => flat p.1 = true ∨ isL p.1 μ = true) fun p => .bl (longV p.1 p.2)
theorem injDI (i j : D × Int) (h : [i.1, D.int i.2] = [j.1, D.int j.2]) : i = j := by
  obtain ⟨a, b⟩ := i
  obtain ⟨c, d⟩ := j
  simpa using h
theorem run_is_long {d : D} {n : Int} {μ : Mu} {X : Str → Mu → Prop} {Q : QD} : runK sp_is_long [d, .int n] μ X Q ↔ (flat d = true ∨ isL d μ = true) ∧ Q (.bl (longV d n)) μ := pur_run (args := fun p : D × Int => [p.1, .int p.2]) injDI (d, n)
theorem isL_ref {a : Addr} {μ : Mu} (h : isL (.ref a) μ = true) : ∃ xs, μ a = some (.lst xs) := by
  unfold isL at h
  dsimp only at h
  split at h
  · rename_i xs e
    exact ⟨xs, e⟩
  · cases h
theorem m_is_long {Φ : Nat → Spec} : Meets Φ 2 2 b_is_long sp_is_long := pur_meets injDI fun ⟨d, n⟩ μ h => by
  dsimp only at h
  cases d with
  | ref a =>
    obtain ⟨xs, e⟩ := isL_ref (h.resolve_left (fun z => by cases z))
    simp only [b_is_long, longV, ↓e_v, ↓e_c, ↓e_bin, ↓e_neg, ↓e_cmp, ↓e_chn, ↓e_and, ↓e_or, ↓e_not, ↓e_ite, ↓e_tup, ↓e_lst, ↓e_ix, ↓e_sl, ↓e_rev, ↓e_call, ↓e_bi, ↓e_isi, ↓e_app, ↓e_ext, ↓e_pop, ↓e_comp, ↓es_nil, ↓es_cons, ↓if_nil, ↓if_cons, ↓o_no, ↓o_so, ↓s_ex', ↓s_ret', ↓s_retN', ↓s_asg', ↓s_sub', ↓s_aug', ↓s_iff', ↓s_whl', ↓s_for', ↓s_pass', ↓s_brk', ↓s_cont', ↓s_raise', ↓ss_nil', ↓ss_cons', ↓i_valE, ↓i_rng1E, ↓i_rng2E, ↓i_zipE, ↓i_enuE, ↓getK_s, ↓truK_t, ↓truK_f, ↓bK_s, ↓asgK_s, ↓atK_s, ↓seqK_s, ↓intsK_s, ↓blsK_s, ↓iteK_t, ↓iteK_f, ↓binD, ↓augD, ↓cmp_eq, ↓cmp_ne, ↓cmp_lt, ↓cmp_le, ↓cmp_gt, ↓cmp_ge, ↓cmp_is, ↓cmp_isn, ↓cmp_isN, ↓cmp_isnN, isNon, ↓ixD_int, ↓ixD_rod, atI0, atI1, atI2, atI3, ↓sl_tup, ↓sl_rol, ↓bi_len_tup, ↓bi_len_rol, ↓bi_len_ref, ↓bi_abs, ↓bi_int, ↓bi_intb, ↓bi_gcd, ↓bi_tup_tup, ↓bi_tup_rol, ↓bi_tup_ref, ↓bi_lst_tup, ↓bi_lst_rol, ↓bi_lst_ref, ↓bi_sum, ↓bi_sum_tup, ↓bi_sum_rol, ↓bi_all, ↓bi_any, ↓bi_max2, ↓bi_min2, tg_nm, tg_tp, tgsD, seqOf_tup, seqOf_rol, seqOf_up, seqL_rol, seqL_up', tru_non, tru_bl, tru_int, tru_tup, tru_rol, tru_up, ↓eq_int, isi_c, isi_int, isi_bl, isi_tup, isi_non, isi_str, isi_rol, tyN_up, tyN, List.getElem?_cons_zero, List.getElem?_cons_succ, List.set_cons_zero, List.set_cons_succ, permA, List.map_cons, List.map_nil, List.getD_cons_zero, List.getD_cons_succ, List.cons_append, List.nil_append, List.append_nil, List.replicate_succ, List.replicate_zero, RtP, ite_true, ite_false, if_true, if_false, Bool.false_eq_true, decide_true, decide_false, Bool.not_true, Bool.not_false, List.length_cons, List.length_nil, e]
    exact ⟨.refl, trivial⟩
  | rol xs =>
    simp only [b_is_long, longV, ↓e_v, ↓e_c, ↓e_bin, ↓e_neg, ↓e_cmp, ↓e_chn, ↓e_and, ↓e_or, ↓e_not, ↓e_ite, ↓e_tup, ↓e_lst, ↓e_ix, ↓e_sl, ↓e_rev, ↓e_call, ↓e_bi, ↓e_isi, ↓e_app, ↓e_ext, ↓e_pop, ↓e_comp, ↓es_nil, ↓es_cons, ↓if_nil, ↓if_cons, ↓o_no, ↓o_so, ↓s_ex', ↓s_ret', ↓s_retN', ↓s_asg', ↓s_sub', ↓s_aug', ↓s_iff', ↓s_whl', ↓s_for', ↓s_pass', ↓s_brk', ↓s_cont', ↓s_raise', ↓ss_nil', ↓ss_cons', ↓i_valE, ↓i_rng1E, ↓i_rng2E, ↓i_zipE, ↓i_enuE, ↓getK_s, ↓truK_t, ↓truK_f, ↓bK_s, ↓asgK_s, ↓atK_s, ↓seqK_s, ↓intsK_s, ↓blsK_s, ↓iteK_t, ↓iteK_f, ↓binD, ↓augD, ↓cmp_eq, ↓cmp_ne, ↓cmp_lt, ↓cmp_le, ↓cmp_gt, ↓cmp_ge, ↓cmp_is, ↓cmp_isn, ↓cmp_isN, ↓cmp_isnN, isNon, ↓ixD_int, ↓ixD_rod, atI0, atI1, atI2, atI3, ↓sl_tup, ↓sl_rol, ↓bi_len_tup, ↓bi_len_rol, ↓bi_len_ref, ↓bi_abs, ↓bi_int, ↓bi_intb, ↓bi_gcd, ↓bi_tup_tup, ↓bi_tup_rol, ↓bi_tup_ref, ↓bi_lst_tup, ↓bi_lst_rol, ↓bi_lst_ref, ↓bi_sum, ↓bi_sum_tup, ↓bi_sum_rol, ↓bi_all, ↓bi_any, ↓bi_max2, ↓bi_min2, tg_nm, tg_tp, tgsD, seqOf_tup, seqOf_rol, seqOf_up, seqL_rol, seqL_up', tru_non, tru_bl, tru_int, tru_tup, tru_rol, tru_up, ↓eq_int, isi_c, isi_int, isi_bl, isi_tup, isi_non, isi_str, isi_rol, tyN_up, tyN, List.getElem?_cons_zero, List.getElem?_cons_succ, List.set_cons_zero, List.set_cons_succ, permA, List.map_cons, List.map_nil, List.getD_cons_zero, List.getD_cons_succ, List.cons_append, List.nil_append, List.append_nil, List.replicate_succ, List.replicate_zero, RtP, ite_true, ite_false, if_true, if_false, Bool.false_eq_true, decide_true, decide_false, Bool.not_true, Bool.not_false, List.length_cons, List.length_nil]
    exact ⟨.refl, trivial⟩
  | ty a => rcases h with h | h <;> cases h
  | rod a b => rcases h with h | h <;> cases h
  | _ =>
    simp only [b_is_long, longV, ↓e_v, ↓e_c, ↓e_bin, ↓e_neg, ↓e_cmp, ↓e_chn, ↓e_and, ↓e_or, ↓e_not, ↓e_ite, ↓e_tup, ↓e_lst, ↓e_ix, ↓e_sl, ↓e_rev, ↓e_call, ↓e_bi, ↓e_isi, ↓e_app, ↓e_ext, ↓e_pop, ↓e_comp, ↓es_nil, ↓es_cons, ↓if_nil, ↓if_cons, ↓o_no, ↓o_so, ↓s_ex', ↓s_ret', ↓s_retN', ↓s_asg', ↓s_sub', ↓s_aug', ↓s_iff', ↓s_whl', ↓s_for', ↓s_pass', ↓s_brk', ↓s_cont', ↓s_raise', ↓ss_nil', ↓ss_cons', ↓i_valE, ↓i_rng1E, ↓i_rng2E, ↓i_zipE, ↓i_enuE, ↓getK_s, ↓truK_t, ↓truK_f, ↓bK_s, ↓asgK_s, ↓atK_s, ↓seqK_s, ↓intsK_s, ↓blsK_s, ↓iteK_t, ↓iteK_f, ↓binD, ↓augD, ↓cmp_eq, ↓cmp_ne, ↓cmp_lt, ↓cmp_le, ↓cmp_gt, ↓cmp_ge, ↓cmp_is, ↓cmp_isn, ↓cmp_isN, ↓cmp_isnN, isNon, ↓ixD_int, ↓ixD_rod, atI0, atI1, atI2, atI3, ↓sl_tup, ↓sl_rol, ↓bi_len_tup, ↓bi_len_rol, ↓bi_len_ref, ↓bi_abs, ↓bi_int, ↓bi_intb, ↓bi_gcd, ↓bi_tup_tup, ↓bi_tup_rol, ↓bi_tup_ref, ↓bi_lst_tup, ↓bi_lst_rol, ↓bi_lst_ref, ↓bi_sum, ↓bi_sum_tup, ↓bi_sum_rol, ↓bi_all, ↓bi_any, ↓bi_max2, ↓bi_min2, tg_nm, tg_tp, tgsD, seqOf_tup, seqOf_rol, seqOf_up, seqL_rol, seqL_up', tru_non, tru_bl, tru_int, tru_tup, tru_rol, tru_up, ↓eq_int, isi_c, isi_int, isi_bl, isi_tup, isi_non, isi_str, isi_rol, tyN_up, tyN, List.getElem?_cons_zero, List.getElem?_cons_succ, List.set_cons_zero, List.set_cons_succ, permA, List.map_cons, List.map_nil, List.getD_cons_zero, List.getD_cons_succ, List.cons_append, List.nil_append, List.append_nil, List.replicate_succ, List.replicate_zero, RtP, ite_true, ite_false, if_true, if_false, Bool.false_eq_true, decide_true, decide_false, Bool.not_true, Bool.not_false, List.length_cons, List.length_nil]
    exact ⟨.refl, trivial⟩
/-- are_numbers -/
def sp_are_numbers : Spec := pur (fun p : D × Int => [p.1, .int p.2]) (fun p _ => flat p.1 = true ∧ ∀ xs, p.1 = .tup xs → xs.length ≤ sizeLine ∧ ∀ x ∈ xs, flat x = true) fun p => .bl (longV p.1 p.2 && (match p.1 with
  | .tup xs => xs.all isInt
  | _ => false))
def numV (xs : List D) (n : Int) : Bool := decide ((xs.length : Int) = n) && xs.all isInt
theorem run_are_numbers {xs : List D} {n : Int} {μ : Mu} {X : Str → Mu → Prop} {Q : QD} : runK sp_are_numbers [.tup xs, .int n] μ X Q ↔ (xs.length ≤ sizeLine ∧ ∀ x ∈ xs, flat x = true) ∧ Q (.bl (numV xs n)) μ := by
  refine (pur_run (args := fun p : D × Int => [p.1, .int p.2]) injDI (.tup xs, n)).trans ?_
  constructor
  · exact fun h => ⟨h.1.2 xs rfl, h.2⟩
  · exact fun h => ⟨⟨rfl, fun ys e => by cases e; exact h.1⟩, h.2⟩
theorem m_are_numbers {Φ : Nat → Spec} {i j : Nat} (hi : Φ i = sp_is_long) (hj : Φ j = sp_is_number) : Meets Φ 2 3 (b_are_numbers i j) sp_are_numbers := pur_meets injDI fun ⟨d, n⟩ μ h => by
  obtain ⟨h, hx⟩ := h
  dsimp only at h hx
  cases d with
  | tup xs =>
    obtain ⟨hlen, hx⟩ := hx xs rfl
    simp only [b_are_numbers, ↓e_v, ↓e_c, ↓e_bin, ↓e_neg, ↓e_cmp, ↓e_chn, ↓e_and, ↓e_or, ↓e_not, ↓e_ite, ↓e_tup, ↓e_lst, ↓e_ix, ↓e_sl, ↓e_rev, ↓e_call, ↓e_bi, ↓e_isi, ↓e_app, ↓e_ext, ↓e_pop, ↓e_comp, ↓es_nil, ↓es_cons, ↓if_nil, ↓if_cons, ↓o_no, ↓o_so, ↓s_ex', ↓s_ret', ↓s_retN', ↓s_asg', ↓s_sub', ↓s_aug', ↓s_iff', ↓s_whl', ↓s_for', ↓s_pass', ↓s_brk', ↓s_cont', ↓s_raise', ↓ss_nil', ↓ss_cons', ↓i_valE, ↓i_rng1E, ↓i_rng2E, ↓i_zipE, ↓i_enuE, ↓getK_s, ↓truK_t, ↓truK_f, ↓bK_s, ↓asgK_s, ↓atK_s, ↓seqK_s, ↓intsK_s, ↓blsK_s, ↓iteK_t, ↓iteK_f, ↓binD, ↓augD, ↓cmp_eq, ↓cmp_ne, ↓cmp_lt, ↓cmp_le, ↓cmp_gt, ↓cmp_ge, ↓cmp_is, ↓cmp_isn, ↓cmp_isN, ↓cmp_isnN, isNon, ↓ixD_int, ↓ixD_rod, atI0, atI1, atI2, atI3, ↓sl_tup, ↓sl_rol, ↓bi_len_tup, ↓bi_len_rol, ↓bi_len_ref, ↓bi_abs, ↓bi_int, ↓bi_intb, ↓bi_gcd, ↓bi_tup_tup, ↓bi_tup_rol, ↓bi_tup_ref, ↓bi_lst_tup, ↓bi_lst_rol, ↓bi_lst_ref, ↓bi_sum, ↓bi_sum_tup, ↓bi_sum_rol, ↓bi_all, ↓bi_any, ↓bi_max2, ↓bi_min2, tg_nm, tg_tp, tgsD, seqOf_tup, seqOf_rol, seqOf_up, seqL_rol, seqL_up', tru_non, tru_bl, tru_int, tru_tup, tru_rol, tru_up, ↓eq_int, isi_c, isi_int, isi_bl, isi_tup, isi_non, isi_str, isi_rol, tyN_up, tyN, List.getElem?_cons_zero, List.getElem?_cons_succ, List.set_cons_zero, List.set_cons_succ, permA, List.map_cons, List.map_nil, List.getD_cons_zero, List.getD_cons_succ, List.cons_append, List.nil_append, List.append_nil, List.replicate_succ, List.replicate_zero, RtP, ite_true, ite_false, if_true, if_false, Bool.false_eq_true, decide_true, decide_false, Bool.not_true, Bool.not_false, List.length_cons, List.length_nil, hi, run_is_long, flat, longV, true_and, true_or]
    by_cases q : ((xs.length : Int) = n)
    · simp only [q, decide_true, ↓e_v, ↓e_c, ↓e_bin, ↓e_neg, ↓e_cmp, ↓e_chn, ↓e_and, ↓e_or, ↓e_not, ↓e_ite, ↓e_tup, ↓e_lst, ↓e_ix, ↓e_sl, ↓e_rev, ↓e_call, ↓e_bi, ↓e_isi, ↓e_app, ↓e_ext, ↓e_pop, ↓e_comp, ↓es_nil, ↓es_cons, ↓if_nil, ↓if_cons, ↓o_no, ↓o_so, ↓s_ex', ↓s_ret', ↓s_retN', ↓s_asg', ↓s_sub', ↓s_aug', ↓s_iff', ↓s_whl', ↓s_for', ↓s_pass', ↓s_brk', ↓s_cont', ↓s_raise', ↓ss_nil', ↓ss_cons', ↓i_valE, ↓i_rng1E, ↓i_rng2E, ↓i_zipE, ↓i_enuE, ↓getK_s, ↓truK_t, ↓truK_f, ↓bK_s, ↓asgK_s, ↓atK_s, ↓seqK_s, ↓intsK_s, ↓blsK_s, ↓iteK_t, ↓iteK_f, ↓binD, ↓augD, ↓cmp_eq, ↓cmp_ne, ↓cmp_lt, ↓cmp_le, ↓cmp_gt, ↓cmp_ge, ↓cmp_is, ↓cmp_isn, ↓cmp_isN, ↓cmp_isnN, isNon, ↓ixD_int, ↓ixD_rod, atI0, atI1, atI2, atI3, ↓sl_tup, ↓sl_rol, ↓bi_len_tup, ↓bi_len_rol, ↓bi_len_ref, ↓bi_abs, ↓bi_int, ↓bi_intb, ↓bi_gcd, ↓bi_tup_tup, ↓bi_tup_rol, ↓bi_tup_ref, ↓bi_lst_tup, ↓bi_lst_rol, ↓bi_lst_ref, ↓bi_sum, ↓bi_sum_tup, ↓bi_sum_rol, ↓bi_all, ↓bi_any, ↓bi_max2, ↓bi_min2, tg_nm, tg_tp, tgsD, seqOf_tup, seqOf_rol, seqOf_up, seqL_rol, seqL_up', tru_non, tru_bl, tru_int, tru_tup, tru_rol, tru_up, ↓eq_int, isi_c, isi_int, isi_bl, isi_tup, isi_non, isi_str, isi_rol, tyN_up, tyN, List.getElem?_cons_zero, List.getElem?_cons_succ, List.set_cons_zero, List.set_cons_succ, permA, List.map_cons, List.map_nil, List.getD_cons_zero, List.getD_cons_succ, List.cons_append, List.nil_append, List.append_nil, List.replicate_succ, List.replicate_zero, RtP, ite_true, ite_false, if_true, if_false, Bool.false_eq_true, decide_true, decide_false, Bool.not_true, Bool.not_false, List.length_cons, List.length_nil, Bool.true_and]
      refine compL_map (f := fun d => .bl (isInt d)) trivial xs hlen (fun x hm R r => ⟨_, rfl, ?_⟩) ?_
      · simp only [↓e_v, ↓e_c, ↓e_bin, ↓e_neg, ↓e_cmp, ↓e_chn, ↓e_and, ↓e_or, ↓e_not, ↓e_ite, ↓e_tup, ↓e_lst, ↓e_ix, ↓e_sl, ↓e_rev, ↓e_call, ↓e_bi, ↓e_isi, ↓e_app, ↓e_ext, ↓e_pop, ↓e_comp, ↓es_nil, ↓es_cons, ↓if_nil, ↓if_cons, ↓o_no, ↓o_so, ↓s_ex', ↓s_ret', ↓s_retN', ↓s_asg', ↓s_sub', ↓s_aug', ↓s_iff', ↓s_whl', ↓s_for', ↓s_pass', ↓s_brk', ↓s_cont', ↓s_raise', ↓ss_nil', ↓ss_cons', ↓i_valE, ↓i_rng1E, ↓i_rng2E, ↓i_zipE, ↓i_enuE, ↓getK_s, ↓truK_t, ↓truK_f, ↓bK_s, ↓asgK_s, ↓atK_s, ↓seqK_s, ↓intsK_s, ↓blsK_s, ↓iteK_t, ↓iteK_f, ↓binD, ↓augD, ↓cmp_eq, ↓cmp_ne, ↓cmp_lt, ↓cmp_le, ↓cmp_gt, ↓cmp_ge, ↓cmp_is, ↓cmp_isn, ↓cmp_isN, ↓cmp_isnN, isNon, ↓ixD_int, ↓ixD_rod, atI0, atI1, atI2, atI3, ↓sl_tup, ↓sl_rol, ↓bi_len_tup, ↓bi_len_rol, ↓bi_len_ref, ↓bi_abs, ↓bi_int, ↓bi_intb, ↓bi_gcd, ↓bi_tup_tup, ↓bi_tup_rol, ↓bi_tup_ref, ↓bi_lst_tup, ↓bi_lst_rol, ↓bi_lst_ref, ↓bi_sum, ↓bi_sum_tup, ↓bi_sum_rol, ↓bi_all, ↓bi_any, ↓bi_max2, ↓bi_min2, tg_nm, tg_tp, tgsD, seqOf_tup, seqOf_rol, seqOf_up, seqL_rol, seqL_up', tru_non, tru_bl, tru_int, tru_tup, tru_rol, tru_up, ↓eq_int, isi_c, isi_int, isi_bl, isi_tup, isi_non, isi_str, isi_rol, tyN_up, tyN, List.getElem?_cons_zero, List.getElem?_cons_succ, List.set_cons_zero, List.set_cons_succ, permA, List.map_cons, List.map_nil, List.getD_cons_zero, List.getD_cons_succ, List.cons_append, List.nil_append, List.append_nil, List.replicate_succ, List.replicate_zero, RtP, ite_true, ite_false, if_true, if_false, Bool.false_eq_true, decide_true, decide_false, Bool.not_true, Bool.not_false, List.length_cons, List.length_nil, hj, run_is_number, wipeR]
        exact ⟨hx x hm, r⟩
      · intro p hp
        have e : xs.map (fun d => D.bl (isInt d)) = (xs.map isInt).map D.bl := by rw [List.map_map]; rfl
        rw [e]
        simp only [↓e_v, ↓e_c, ↓e_bin, ↓e_neg, ↓e_cmp, ↓e_chn, ↓e_and, ↓e_or, ↓e_not, ↓e_ite, ↓e_tup, ↓e_lst, ↓e_ix, ↓e_sl, ↓e_rev, ↓e_call, ↓e_bi, ↓e_isi, ↓e_app, ↓e_ext, ↓e_pop, ↓e_comp, ↓es_nil, ↓es_cons, ↓if_nil, ↓if_cons, ↓o_no, ↓o_so, ↓s_ex', ↓s_ret', ↓s_retN', ↓s_asg', ↓s_sub', ↓s_aug', ↓s_iff', ↓s_whl', ↓s_for', ↓s_pass', ↓s_brk', ↓s_cont', ↓s_raise', ↓ss_nil', ↓ss_cons', ↓i_valE, ↓i_rng1E, ↓i_rng2E, ↓i_zipE, ↓i_enuE, ↓getK_s, ↓truK_t, ↓truK_f, ↓bK_s, ↓asgK_s, ↓atK_s, ↓seqK_s, ↓intsK_s, ↓blsK_s, ↓iteK_t, ↓iteK_f, ↓binD, ↓augD, ↓cmp_eq, ↓cmp_ne, ↓cmp_lt, ↓cmp_le, ↓cmp_gt, ↓cmp_ge, ↓cmp_is, ↓cmp_isn, ↓cmp_isN, ↓cmp_isnN, isNon, ↓ixD_int, ↓ixD_rod, atI0, atI1, atI2, atI3, ↓sl_tup, ↓sl_rol, ↓bi_len_tup, ↓bi_len_rol, ↓bi_len_ref, ↓bi_abs, ↓bi_int, ↓bi_intb, ↓bi_gcd, ↓bi_tup_tup, ↓bi_tup_rol, ↓bi_tup_ref, ↓bi_lst_tup, ↓bi_lst_rol, ↓bi_lst_ref, ↓bi_sum, ↓bi_sum_tup, ↓bi_sum_rol, ↓bi_all, ↓bi_any, ↓bi_max2, ↓bi_min2, tg_nm, tg_tp, tgsD, seqOf_tup, seqOf_rol, seqOf_up, seqL_rol, seqL_up', tru_non, tru_bl, tru_int, tru_tup, tru_rol, tru_up, ↓eq_int, isi_c, isi_int, isi_bl, isi_tup, isi_non, isi_str, isi_rol, tyN_up, tyN, List.getElem?_cons_zero, List.getElem?_cons_succ, List.set_cons_zero, List.set_cons_succ, permA, List.map_cons, List.map_nil, List.getD_cons_zero, List.getD_cons_succ, List.cons_append, List.nil_append, List.append_nil, List.replicate_succ, List.replicate_zero, RtP, ite_true, ite_false, if_true, if_false, Bool.false_eq_true, decide_true, decide_false, Bool.not_true, Bool.not_false, List.length_cons, List.length_nil, up_same, blsOf_map]
        refine ⟨.up hp, ?_⟩
        rw [List.all_map, decide_eq_true q]
        rfl
    · simp only [q, decide_false, ↓e_v, ↓e_c, ↓e_bin, ↓e_neg, ↓e_cmp, ↓e_chn, ↓e_and, ↓e_or, ↓e_not, ↓e_ite, ↓e_tup, ↓e_lst, ↓e_ix, ↓e_sl, ↓e_rev, ↓e_call, ↓e_bi, ↓e_isi, ↓e_app, ↓e_ext, ↓e_pop, ↓e_comp, ↓es_nil, ↓es_cons, ↓if_nil, ↓if_cons, ↓o_no, ↓o_so, ↓s_ex', ↓s_ret', ↓s_retN', ↓s_asg', ↓s_sub', ↓s_aug', ↓s_iff', ↓s_whl', ↓s_for', ↓s_pass', ↓s_brk', ↓s_cont', ↓s_raise', ↓ss_nil', ↓ss_cons', ↓i_valE, ↓i_rng1E, ↓i_rng2E, ↓i_zipE, ↓i_enuE, ↓getK_s, ↓truK_t, ↓truK_f, ↓bK_s, ↓asgK_s, ↓atK_s, ↓seqK_s, ↓intsK_s, ↓blsK_s, ↓iteK_t, ↓iteK_f, ↓binD, ↓augD, ↓cmp_eq, ↓cmp_ne, ↓cmp_lt, ↓cmp_le, ↓cmp_gt, ↓cmp_ge, ↓cmp_is, ↓cmp_isn, ↓cmp_isN, ↓cmp_isnN, isNon, ↓ixD_int, ↓ixD_rod, atI0, atI1, atI2, atI3, ↓sl_tup, ↓sl_rol, ↓bi_len_tup, ↓bi_len_rol, ↓bi_len_ref, ↓bi_abs, ↓bi_int, ↓bi_intb, ↓bi_gcd, ↓bi_tup_tup, ↓bi_tup_rol, ↓bi_tup_ref, ↓bi_lst_tup, ↓bi_lst_rol, ↓bi_lst_ref, ↓bi_sum, ↓bi_sum_tup, ↓bi_sum_rol, ↓bi_all, ↓bi_any, ↓bi_max2, ↓bi_min2, tg_nm, tg_tp, tgsD, seqOf_tup, seqOf_rol, seqOf_up, seqL_rol, seqL_up', tru_non, tru_bl, tru_int, tru_tup, tru_rol, tru_up, ↓eq_int, isi_c, isi_int, isi_bl, isi_tup, isi_non, isi_str, isi_rol, tyN_up, tyN, List.getElem?_cons_zero, List.getElem?_cons_succ, List.set_cons_zero, List.set_cons_succ, permA, List.map_cons, List.map_nil, List.getD_cons_zero, List.getD_cons_succ, List.cons_append, List.nil_append, List.append_nil, List.replicate_succ, List.replicate_zero, RtP, ite_true, ite_false, if_true, if_false, Bool.false_eq_true, decide_true, decide_false, Bool.not_true, Bool.not_false, List.length_cons, List.length_nil, Bool.false_and]
      exact ⟨.refl, trivial⟩
  | ref a => cases h
  | rol a => cases h
  | ty a => cases h
  | rod a b => cases h
  | _ =>
    simp only [b_are_numbers, ↓e_v, ↓e_c, ↓e_bin, ↓e_neg, ↓e_cmp, ↓e_chn, ↓e_and, ↓e_or, ↓e_not, ↓e_ite, ↓e_tup, ↓e_lst, ↓e_ix, ↓e_sl, ↓e_rev, ↓e_call, ↓e_bi, ↓e_isi, ↓e_app, ↓e_ext, ↓e_pop, ↓e_comp, ↓es_nil, ↓es_cons, ↓if_nil, ↓if_cons, ↓o_no, ↓o_so, ↓s_ex', ↓s_ret', ↓s_retN', ↓s_asg', ↓s_sub', ↓s_aug', ↓s_iff', ↓s_whl', ↓s_for', ↓s_pass', ↓s_brk', ↓s_cont', ↓s_raise', ↓ss_nil', ↓ss_cons', ↓i_valE, ↓i_rng1E, ↓i_rng2E, ↓i_zipE, ↓i_enuE, ↓getK_s, ↓truK_t, ↓truK_f, ↓bK_s, ↓asgK_s, ↓atK_s, ↓seqK_s, ↓intsK_s, ↓blsK_s, ↓iteK_t, ↓iteK_f, ↓binD, ↓augD, ↓cmp_eq, ↓cmp_ne, ↓cmp_lt, ↓cmp_le, ↓cmp_gt, ↓cmp_ge, ↓cmp_is, ↓cmp_isn, ↓cmp_isN, ↓cmp_isnN, isNon, ↓ixD_int, ↓ixD_rod, atI0, atI1, atI2, atI3, ↓sl_tup, ↓sl_rol, ↓bi_len_tup, ↓bi_len_rol, ↓bi_len_ref, ↓bi_abs, ↓bi_int, ↓bi_intb, ↓bi_gcd, ↓bi_tup_tup, ↓bi_tup_rol, ↓bi_tup_ref, ↓bi_lst_tup, ↓bi_lst_rol, ↓bi_lst_ref, ↓bi_sum, ↓bi_sum_tup, ↓bi_sum_rol, ↓bi_all, ↓bi_any, ↓bi_max2, ↓bi_min2, tg_nm, tg_tp, tgsD, seqOf_tup, seqOf_rol, seqOf_up, seqL_rol, seqL_up', tru_non, tru_bl, tru_int, tru_tup, tru_rol, tru_up, ↓eq_int, isi_c, isi_int, isi_bl, isi_tup, isi_non, isi_str, isi_rol, tyN_up, tyN, List.getElem?_cons_zero, List.getElem?_cons_succ, List.set_cons_zero, List.set_cons_succ, permA, List.map_cons, List.map_nil, List.getD_cons_zero, List.getD_cons_succ, List.cons_append, List.nil_append, List.append_nil, List.replicate_succ, List.replicate_zero, RtP, ite_true, ite_false, if_true, if_false, Bool.false_eq_true, decide_true, decide_false, Bool.not_true, Bool.not_false, List.length_cons, List.length_nil, hi, run_is_long, flat, longV, true_and, true_or, Bool.false_and]
    exact ⟨.refl, trivial⟩
end LD
namespace LD
open PySem PySem.Spec PyProof.Rows L2
/-- tuples in tuples, n deep -/
def plain : Nat → D → Bool
  | 0, .tup _ => false
  | n + 1, .tup xs => decide (xs.length ≤ sizeLine) && xs.all (plain n)
  | _, d => flat d
def sp_tupled (n : Nat) : Spec := pur (fun d : D => [d]) (fun d _ => plain n d = true) fun d => d
theorem run_tupled {n : Nat} {d : D} {μ : Mu} {X : Str → Mu → Prop} {Q : QD} : runK (sp_tupled n) [d] μ X Q ↔ plain n d = true ∧ Q d μ := pur_run inj1 d
theorem m_tupled0 {Φ : Nat → Spec} {i : Nat} : Meets Φ 1 2 (b_tupled i) (sp_tupled 0) := pur_meets inj1 fun d μ h => by
  cases d <;> first
    | (cases h; done)
    | (simp only [b_tupled, ↓e_v, ↓e_c, ↓e_bin, ↓e_neg, ↓e_cmp, ↓e_chn, ↓e_and, ↓e_or, ↓e_not, ↓e_ite, ↓e_tup, ↓e_lst, ↓e_ix, ↓e_sl, ↓e_rev, ↓e_call, ↓e_bi, ↓e_isi, ↓e_app, ↓e_ext, ↓e_pop, ↓e_comp, ↓es_nil, ↓es_cons, ↓if_nil, ↓if_cons, ↓o_no, ↓o_so, ↓s_ex', ↓s_ret', ↓s_retN', ↓s_asg', ↓s_sub', ↓s_aug', ↓s_iff', ↓s_whl', ↓s_for', ↓s_pass', ↓s_brk', ↓s_cont', ↓s_raise', ↓ss_nil', ↓ss_cons', ↓i_valE, ↓i_rng1E, ↓i_rng2E, ↓i_zipE, ↓i_enuE, ↓getK_s, ↓truK_t, ↓truK_f, ↓bK_s, ↓asgK_s, ↓atK_s, ↓seqK_s, ↓intsK_s, ↓blsK_s, ↓iteK_t, ↓iteK_f, ↓binD, ↓augD, ↓cmp_eq, ↓cmp_ne, ↓cmp_lt, ↓cmp_le, ↓cmp_gt, ↓cmp_ge, ↓cmp_is, ↓cmp_isn, ↓cmp_isN, ↓cmp_isnN, isNon, ↓ixD_int, ↓ixD_rod, atI0, atI1, atI2, atI3, ↓sl_tup, ↓sl_rol, ↓bi_len_tup, ↓bi_len_rol, ↓bi_len_ref, ↓bi_abs, ↓bi_int, ↓bi_intb, ↓bi_gcd, ↓bi_tup_tup, ↓bi_tup_rol, ↓bi_tup_ref, ↓bi_lst_tup, ↓bi_lst_rol, ↓bi_lst_ref, ↓bi_sum, ↓bi_sum_tup, ↓bi_sum_rol, ↓bi_all, ↓bi_any, ↓bi_max2, ↓bi_min2, tg_nm, tg_tp, tgsD, seqOf_tup, seqOf_rol, seqOf_up, seqL_rol, seqL_up', tru_non, tru_bl, tru_int, tru_tup, tru_rol, tru_up, ↓eq_int, isi_c, isi_int, isi_bl, isi_tup, isi_non, isi_str, isi_rol, tyN_up, tyN, List.getElem?_cons_zero, List.getElem?_cons_succ, List.set_cons_zero, List.set_cons_succ, permA, List.map_cons, List.map_nil, List.getD_cons_zero, List.getD_cons_succ, List.cons_append, List.nil_append, List.append_nil, List.replicate_succ, List.replicate_zero, RtP, ite_true, ite_false, if_true, if_false, Bool.false_eq_true, decide_true, decide_false, Bool.not_true, Bool.not_false, List.length_cons, List.length_nil]; exact ⟨.refl, trivial⟩)
theorem m_tupled {Φ : Nat → Spec} {i n : Nat} (hi : Φ i = sp_tupled n) : Meets Φ 1 2 (b_tupled i) (sp_tupled (n + 1)) := pur_meets inj1 fun d μ h => by
  cases d with
  | tup xs =>
    unfold plain at h
    rw [Bool.and_eq_true, decide_eq_true_iff, List.all_eq_true] at h
    simp only [b_tupled, ↓e_v, ↓e_c, ↓e_bin, ↓e_neg, ↓e_cmp, ↓e_chn, ↓e_and, ↓e_or, ↓e_not, ↓e_ite, ↓e_tup, ↓e_lst, ↓e_ix, ↓e_sl, ↓e_rev, ↓e_call, ↓e_bi, ↓e_isi, ↓e_app, ↓e_ext, ↓e_pop, ↓e_comp, ↓es_nil, ↓es_cons, ↓if_nil, ↓if_cons, ↓o_no, ↓o_so, ↓s_ex', ↓s_ret', ↓s_retN', ↓s_asg', ↓s_sub', ↓s_aug', ↓s_iff', ↓s_whl', ↓s_for', ↓s_pass', ↓s_brk', ↓s_cont', ↓s_raise', ↓ss_nil', ↓ss_cons', ↓i_valE, ↓i_rng1E, ↓i_rng2E, ↓i_zipE, ↓i_enuE, ↓getK_s, ↓truK_t, ↓truK_f, ↓bK_s, ↓asgK_s, ↓atK_s, ↓seqK_s, ↓intsK_s, ↓blsK_s, ↓iteK_t, ↓iteK_f, ↓binD, ↓augD, ↓cmp_eq, ↓cmp_ne, ↓cmp_lt, ↓cmp_le, ↓cmp_gt, ↓cmp_ge, ↓cmp_is, ↓cmp_isn, ↓cmp_isN, ↓cmp_isnN, isNon, ↓ixD_int, ↓ixD_rod, atI0, atI1, atI2, atI3, ↓sl_tup, ↓sl_rol, ↓bi_len_tup, ↓bi_len_rol, ↓bi_len_ref, ↓bi_abs, ↓bi_int, ↓bi_intb, ↓bi_gcd, ↓bi_tup_tup, ↓bi_tup_rol, ↓bi_tup_ref, ↓bi_lst_tup, ↓bi_lst_rol, ↓bi_lst_ref, ↓bi_sum, ↓bi_sum_tup, ↓bi_sum_rol, ↓bi_all, ↓bi_any, ↓bi_max2, ↓bi_min2, tg_nm, tg_tp, tgsD, seqOf_tup, seqOf_rol, seqOf_up, seqL_rol, seqL_up', tru_non, tru_bl, tru_int, tru_tup, tru_rol, tru_up, ↓eq_int, isi_c, isi_int, isi_bl, isi_tup, isi_non, isi_str, isi_rol, tyN_up, tyN, List.getElem?_cons_zero, List.getElem?_cons_succ, List.set_cons_zero, List.set_cons_succ, permA, List.map_cons, List.map_nil, List.getD_cons_zero, List.getD_cons_succ, List.cons_append, List.nil_append, List.append_nil, List.replicate_succ, List.replicate_zero, RtP, ite_true, ite_false, if_true, if_false, Bool.false_eq_true, decide_true, decide_false, Bool.not_true, Bool.not_false, List.length_cons, List.length_nil]
    refine compL_map (f := fun d => d) trivial xs h.1 (fun x hm R r => ⟨_, rfl, ?_⟩) ?_
    · simp only [↓e_v, ↓e_c, ↓e_bin, ↓e_neg, ↓e_cmp, ↓e_chn, ↓e_and, ↓e_or, ↓e_not, ↓e_ite, ↓e_tup, ↓e_lst, ↓e_ix, ↓e_sl, ↓e_rev, ↓e_call, ↓e_bi, ↓e_isi, ↓e_app, ↓e_ext, ↓e_pop, ↓e_comp, ↓es_nil, ↓es_cons, ↓if_nil, ↓if_cons, ↓o_no, ↓o_so, ↓s_ex', ↓s_ret', ↓s_retN', ↓s_asg', ↓s_sub', ↓s_aug', ↓s_iff', ↓s_whl', ↓s_for', ↓s_pass', ↓s_brk', ↓s_cont', ↓s_raise', ↓ss_nil', ↓ss_cons', ↓i_valE, ↓i_rng1E, ↓i_rng2E, ↓i_zipE, ↓i_enuE, ↓getK_s, ↓truK_t, ↓truK_f, ↓bK_s, ↓asgK_s, ↓atK_s, ↓seqK_s, ↓intsK_s, ↓blsK_s, ↓iteK_t, ↓iteK_f, ↓binD, ↓augD, ↓cmp_eq, ↓cmp_ne, ↓cmp_lt, ↓cmp_le, ↓cmp_gt, ↓cmp_ge, ↓cmp_is, ↓cmp_isn, ↓cmp_isN, ↓cmp_isnN, isNon, ↓ixD_int, ↓ixD_rod, atI0, atI1, atI2, atI3, ↓sl_tup, ↓sl_rol, ↓bi_len_tup, ↓bi_len_rol, ↓bi_len_ref, ↓bi_abs, ↓bi_int, ↓bi_intb, ↓bi_gcd, ↓bi_tup_tup, ↓bi_tup_rol, ↓bi_tup_ref, ↓bi_lst_tup, ↓bi_lst_rol, ↓bi_lst_ref, ↓bi_sum, ↓bi_sum_tup, ↓bi_sum_rol, ↓bi_all, ↓bi_any, ↓bi_max2, ↓bi_min2, tg_nm, tg_tp, tgsD, seqOf_tup, seqOf_rol, seqOf_up, seqL_rol, seqL_up', tru_non, tru_bl, tru_int, tru_tup, tru_rol, tru_up, ↓eq_int, isi_c, isi_int, isi_bl, isi_tup, isi_non, isi_str, isi_rol, tyN_up, tyN, List.getElem?_cons_zero, List.getElem?_cons_succ, List.set_cons_zero, List.set_cons_succ, permA, List.map_cons, List.map_nil, List.getD_cons_zero, List.getD_cons_succ, List.cons_append, List.nil_append, List.append_nil, List.replicate_succ, List.replicate_zero, RtP, ite_true, ite_false, if_true, if_false, Bool.false_eq_true, decide_true, decide_false, Bool.not_true, Bool.not_false, List.length_cons, List.length_nil, hi, run_tupled, wipeR]
      exact ⟨h.2 x hm, r⟩
    · intro p hp
      rw [List.map_id']
      simp only [↓e_v, ↓e_c, ↓e_bin, ↓e_neg, ↓e_cmp, ↓e_chn, ↓e_and, ↓e_or, ↓e_not, ↓e_ite, ↓e_tup, ↓e_lst, ↓e_ix, ↓e_sl, ↓e_rev, ↓e_call, ↓e_bi, ↓e_isi, ↓e_app, ↓e_ext, ↓e_pop, ↓e_comp, ↓es_nil, ↓es_cons, ↓if_nil, ↓if_cons, ↓o_no, ↓o_so, ↓s_ex', ↓s_ret', ↓s_retN', ↓s_asg', ↓s_sub', ↓s_aug', ↓s_iff', ↓s_whl', ↓s_for', ↓s_pass', ↓s_brk', ↓s_cont', ↓s_raise', ↓ss_nil', ↓ss_cons', ↓i_valE, ↓i_rng1E, ↓i_rng2E, ↓i_zipE, ↓i_enuE, ↓getK_s, ↓truK_t, ↓truK_f, ↓bK_s, ↓asgK_s, ↓atK_s, ↓seqK_s, ↓intsK_s, ↓blsK_s, ↓iteK_t, ↓iteK_f, ↓binD, ↓augD, ↓cmp_eq, ↓cmp_ne, ↓cmp_lt, ↓cmp_le, ↓cmp_gt, ↓cmp_ge, ↓cmp_is, ↓cmp_isn, ↓cmp_isN, ↓cmp_isnN, isNon, ↓ixD_int, ↓ixD_rod, atI0, atI1, atI2, atI3, ↓sl_tup, ↓sl_rol, ↓bi_len_tup, ↓bi_len_rol, ↓bi_len_ref, ↓bi_abs, ↓bi_int, ↓bi_intb, ↓bi_gcd, ↓bi_tup_tup, ↓bi_tup_rol, ↓bi_tup_ref, ↓bi_lst_tup, ↓bi_lst_rol, ↓bi_lst_ref, ↓bi_sum, ↓bi_sum_tup, ↓bi_sum_rol, ↓bi_all, ↓bi_any, ↓bi_max2, ↓bi_min2, tg_nm, tg_tp, tgsD, seqOf_tup, seqOf_rol, seqOf_up, seqL_rol, seqL_up', tru_non, tru_bl, tru_int, tru_tup, tru_rol, tru_up, ↓eq_int, isi_c, isi_int, isi_bl, isi_tup, isi_non, isi_str, isi_rol, tyN_up, tyN, List.getElem?_cons_zero, List.getElem?_cons_succ, List.set_cons_zero, List.set_cons_succ, permA, List.map_cons, List.map_nil, List.getD_cons_zero, List.getD_cons_succ, List.cons_append, List.nil_append, List.append_nil, List.replicate_succ, List.replicate_zero, RtP, ite_true, ite_false, if_true, if_false, Bool.false_eq_true, decide_true, decide_false, Bool.not_true, Bool.not_false, List.length_cons, List.length_nil, up_same]
      exact ⟨.up hp, trivial⟩
  | ref a => cases h
  | rol a => cases h
  | ty a => cases h
  | rod a b => cases h
  | _ =>
    simp only [b_tupled, ↓e_v, ↓e_c, ↓e_bin, ↓e_neg, ↓e_cmp, ↓e_chn, ↓e_and, ↓e_or, ↓e_not, ↓e_ite, ↓e_tup, ↓e_lst, ↓e_ix, ↓e_sl, ↓e_rev, ↓e_call, ↓e_bi, ↓e_isi, ↓e_app, ↓e_ext, ↓e_pop, ↓e_comp, ↓es_nil, ↓es_cons, ↓if_nil, ↓if_cons, ↓o_no, ↓o_so, ↓s_ex', ↓s_ret', ↓s_retN', ↓s_asg', ↓s_sub', ↓s_aug', ↓s_iff', ↓s_whl', ↓s_for', ↓s_pass', ↓s_brk', ↓s_cont', ↓s_raise', ↓ss_nil', ↓ss_cons', ↓i_valE, ↓i_rng1E, ↓i_rng2E, ↓i_zipE, ↓i_enuE, ↓getK_s, ↓truK_t, ↓truK_f, ↓bK_s, ↓asgK_s, ↓atK_s, ↓seqK_s, ↓intsK_s, ↓blsK_s, ↓iteK_t, ↓iteK_f, ↓binD, ↓augD, ↓cmp_eq, ↓cmp_ne, ↓cmp_lt, ↓cmp_le, ↓cmp_gt, ↓cmp_ge, ↓cmp_is, ↓cmp_isn, ↓cmp_isN, ↓cmp_isnN, isNon, ↓ixD_int, ↓ixD_rod, atI0, atI1, atI2, atI3, ↓sl_tup, ↓sl_rol, ↓bi_len_tup, ↓bi_len_rol, ↓bi_len_ref, ↓bi_abs, ↓bi_int, ↓bi_intb, ↓bi_gcd, ↓bi_tup_tup, ↓bi_tup_rol, ↓bi_tup_ref, ↓bi_lst_tup, ↓bi_lst_rol, ↓bi_lst_ref, ↓bi_sum, ↓bi_sum_tup, ↓bi_sum_rol, ↓bi_all, ↓bi_any, ↓bi_max2, ↓bi_min2, tg_nm, tg_tp, tgsD, seqOf_tup, seqOf_rol, seqOf_up, seqL_rol, seqL_up', tru_non, tru_bl, tru_int, tru_tup, tru_rol, tru_up, ↓eq_int, isi_c, isi_int, isi_bl, isi_tup, isi_non, isi_str, isi_rol, tyN_up, tyN, List.getElem?_cons_zero, List.getElem?_cons_succ, List.set_cons_zero, List.set_cons_succ, permA, List.map_cons, List.map_nil, List.getD_cons_zero, List.getD_cons_succ, List.cons_append, List.nil_append, List.append_nil, List.replicate_succ, List.replicate_zero, RtP, ite_true, ite_false, if_true, if_false, Bool.false_eq_true, decide_true, decide_false, Bool.not_true, Bool.not_false, List.length_cons, List.length_nil]
    exact ⟨.refl, trivial⟩
/-! fractions -/
theorem inj_ii (i j : Int × Int) (h : [D.int i.1, .int i.2] = [D.int j.1, .int j.2]) : i = j := by
  obtain ⟨a, b⟩ := i
  obtain ⟨c, d⟩ := j
  simpa using h
theorem num_fdiv {a b : Int} (h : b ≠ 0) : a.fdiv ((Int.gcd a b : Int) * (if b > 0 then 1 else -1)) = (Rat.divInt a b).num := by
  rw [Rat.num_divInt, Int.gcd_comm]
  split
  · rename_i hb
    rw [Int.mul_one, Int.fdiv_eq_ediv_of_nonneg _ (by omega), Int.sign_eq_one_of_pos hb, Int.one_mul]
  · rename_i hb
    have hb' : b < 0 := by omega
    rw [Int.sign_eq_neg_one_of_neg hb']
    have e : ((Int.gcd b a : Int) * -1) = -(Int.gcd b a : Int) := by omega
    have e2 : (-1 * a : Int) = -a := by omega
    rw [e, e2, ← Int.neg_neg a, Int.neg_fdiv_neg, Int.neg_neg, Int.fdiv_eq_ediv_of_nonneg _ (by omega)]
theorem den_fdiv {a b : Int} (h : b ≠ 0) : b.fdiv ((Int.gcd a b : Int) * (if b > 0 then 1 else -1)) = ((Rat.divInt a b).den : Int) := by
  rw [Rat.den_divInt, if_neg h, Int.gcd_comm]
  split
  · rename_i hb
    rw [Int.mul_one, Int.fdiv_eq_ediv_of_nonneg _ (by omega), Int.natCast_ediv]
    congr 1
    omega
  · rename_i hb
    have hb' : b < 0 := by omega
    have e : ((Int.gcd b a : Int) * -1) = -(Int.gcd b a : Int) := by omega
    rw [e, ← Int.neg_neg b, Int.neg_fdiv_neg, Int.fdiv_eq_ediv_of_nonneg _ (by omega), Int.neg_neg, Int.natCast_ediv]
    congr 1
    omega
theorem gcd_pos {a b : Int} (h : b ≠ 0) : 0 < Int.gcd a b := Int.gcd_pos_of_ne_zero_right _ h
theorem gcd_le {a b : Int} (h : b ≠ 0) : Int.gcd a b ≤ b.natAbs := Nat.le_of_dvd (by omega) (by
  have := Int.gcd_dvd_right a b
  exact Int.natAbs_dvd_natAbs.mpr this)
def sp_lowest : Spec := pur (fun p : Int × Int => [.int p.1, .int p.2]) (fun p _ => p.2 ≠ 0 ∧ Sz 8999 p.2) fun p => fr (Rat.divInt p.1 p.2)
theorem run_lowest {a b : Int} {μ : Mu} {X : Str → Mu → Prop} {Q : QD} : runK sp_lowest [.int a, .int b] μ X Q ↔ (b ≠ 0 ∧ Sz 8999 b) ∧ Q (fr (Rat.divInt a b)) μ := pur_run inj_ii (a, b)
theorem m_lowest {Φ : Nat → Spec} : Meets Φ 2 3 b_lowest sp_lowest := pur_meets inj_ii fun ⟨a, b⟩ μ h => by
  obtain ⟨h0, h1⟩ := h
  dsimp only at h0 h1
  have hg := gcd_pos (a := a) h0
  have hl := gcd_le (a := a) h0
  have hd : (Int.gcd a b : Int) * (if b > 0 then 1 else -1) ≠ 0 := by split <;> omega
  have hz : ((Int.gcd a b : Int) * (if b > 0 then 1 else -1)).natAbs.log2 < 9000 := by
    refine Nat.lt_of_lt_of_le (Sz.log2 (h1.of_le ?_) hd) (by decide)
    split <;> omega
  have e1 := num_fdiv (a := a) h0
  have e2 := den_fdiv (a := a) h0
  simp only [b_lowest, ↓e_v, ↓e_c, ↓e_bin, ↓e_neg, ↓e_cmp, ↓e_chn, ↓e_and, ↓e_or, ↓e_not, ↓e_ite, ↓e_tup, ↓e_lst, ↓e_ix, ↓e_sl, ↓e_rev, ↓e_call, ↓e_bi, ↓e_isi, ↓e_app, ↓e_ext, ↓e_pop, ↓e_comp, ↓es_nil, ↓es_cons, ↓if_nil, ↓if_cons, ↓o_no, ↓o_so, ↓s_ex', ↓s_ret', ↓s_retN', ↓s_asg', ↓s_sub', ↓s_aug', ↓s_iff', ↓s_whl', ↓s_for', ↓s_pass', ↓s_brk', ↓s_cont', ↓s_raise', ↓ss_nil', ↓ss_cons', ↓i_valE, ↓i_rng1E, ↓i_rng2E, ↓i_zipE, ↓i_enuE, ↓getK_s, ↓truK_t, ↓truK_f, ↓bK_s, ↓asgK_s, ↓atK_s, ↓seqK_s, ↓intsK_s, ↓blsK_s, ↓iteK_t, ↓iteK_f, ↓binD, ↓augD, ↓cmp_eq, ↓cmp_ne, ↓cmp_lt, ↓cmp_le, ↓cmp_gt, ↓cmp_ge, ↓cmp_is, ↓cmp_isn, ↓cmp_isN, ↓cmp_isnN, isNon, ↓ixD_int, ↓ixD_rod, atI0, atI1, atI2, atI3, ↓sl_tup, ↓sl_rol, ↓bi_len_tup, ↓bi_len_rol, ↓bi_len_ref, ↓bi_abs, ↓bi_int, ↓bi_intb, ↓bi_gcd, ↓bi_tup_tup, ↓bi_tup_rol, ↓bi_tup_ref, ↓bi_lst_tup, ↓bi_lst_rol, ↓bi_lst_ref, ↓bi_sum, ↓bi_sum_tup, ↓bi_sum_rol, ↓bi_all, ↓bi_any, ↓bi_max2, ↓bi_min2, tg_nm, tg_tp, tgsD, seqOf_tup, seqOf_rol, seqOf_up, seqL_rol, seqL_up', tru_non, tru_bl, tru_int, tru_tup, tru_rol, tru_up, ↓eq_int, isi_c, isi_int, isi_bl, isi_tup, isi_non, isi_str, isi_rol, tyN_up, tyN, List.getElem?_cons_zero, List.getElem?_cons_succ, List.set_cons_zero, List.set_cons_succ, permA, List.map_cons, List.map_nil, List.getD_cons_zero, List.getD_cons_succ, List.cons_append, List.nil_append, List.append_nil, List.replicate_succ, List.replicate_zero, RtP, ite_true, ite_false, if_true, if_false, Bool.false_eq_true, decide_true, decide_false, Bool.not_true, Bool.not_false, List.length_cons, List.length_nil]
  by_cases hb : b > 0
  · have hb' : (0 : Int) < b := hb
    rw [if_pos hb] at e1 e2 hd hz
    simp only [decide_true, hb', ↓e_v, ↓e_c, ↓e_bin, ↓e_neg, ↓e_cmp, ↓e_chn, ↓e_and, ↓e_or, ↓e_not, ↓e_ite, ↓e_tup, ↓e_lst, ↓e_ix, ↓e_sl, ↓e_rev, ↓e_call, ↓e_bi, ↓e_isi, ↓e_app, ↓e_ext, ↓e_pop, ↓e_comp, ↓es_nil, ↓es_cons, ↓if_nil, ↓if_cons, ↓o_no, ↓o_so, ↓s_ex', ↓s_ret', ↓s_retN', ↓s_asg', ↓s_sub', ↓s_aug', ↓s_iff', ↓s_whl', ↓s_for', ↓s_pass', ↓s_brk', ↓s_cont', ↓s_raise', ↓ss_nil', ↓ss_cons', ↓i_valE, ↓i_rng1E, ↓i_rng2E, ↓i_zipE, ↓i_enuE, ↓getK_s, ↓truK_t, ↓truK_f, ↓bK_s, ↓asgK_s, ↓atK_s, ↓seqK_s, ↓intsK_s, ↓blsK_s, ↓iteK_t, ↓iteK_f, ↓binD, ↓augD, ↓cmp_eq, ↓cmp_ne, ↓cmp_lt, ↓cmp_le, ↓cmp_gt, ↓cmp_ge, ↓cmp_is, ↓cmp_isn, ↓cmp_isN, ↓cmp_isnN, isNon, ↓ixD_int, ↓ixD_rod, atI0, atI1, atI2, atI3, ↓sl_tup, ↓sl_rol, ↓bi_len_tup, ↓bi_len_rol, ↓bi_len_ref, ↓bi_abs, ↓bi_int, ↓bi_intb, ↓bi_gcd, ↓bi_tup_tup, ↓bi_tup_rol, ↓bi_tup_ref, ↓bi_lst_tup, ↓bi_lst_rol, ↓bi_lst_ref, ↓bi_sum, ↓bi_sum_tup, ↓bi_sum_rol, ↓bi_all, ↓bi_any, ↓bi_max2, ↓bi_min2, tg_nm, tg_tp, tgsD, seqOf_tup, seqOf_rol, seqOf_up, seqL_rol, seqL_up', tru_non, tru_bl, tru_int, tru_tup, tru_rol, tru_up, ↓eq_int, isi_c, isi_int, isi_bl, isi_tup, isi_non, isi_str, isi_rol, tyN_up, tyN, List.getElem?_cons_zero, List.getElem?_cons_succ, List.set_cons_zero, List.set_cons_succ, permA, List.map_cons, List.map_nil, List.getD_cons_zero, List.getD_cons_succ, List.cons_append, List.nil_append, List.append_nil, List.replicate_succ, List.replicate_zero, RtP, ite_true, ite_false, if_true, if_false, Bool.false_eq_true, decide_true, decide_false, Bool.not_true, Bool.not_false, List.length_cons, List.length_nil]
    refine ⟨.of_right (by decide), ⟨hd, hz⟩, ⟨hd, hz⟩, by decide, .refl, ?_⟩
    rw [e1, e2]
    rfl
  · have hb' : ¬ (0 : Int) < b := hb
    rw [if_neg hb] at e1 e2 hd hz
    simp only [decide_false, hb', ↓e_v, ↓e_c, ↓e_bin, ↓e_neg, ↓e_cmp, ↓e_chn, ↓e_and, ↓e_or, ↓e_not, ↓e_ite, ↓e_tup, ↓e_lst, ↓e_ix, ↓e_sl, ↓e_rev, ↓e_call, ↓e_bi, ↓e_isi, ↓e_app, ↓e_ext, ↓e_pop, ↓e_comp, ↓es_nil, ↓es_cons, ↓if_nil, ↓if_cons, ↓o_no, ↓o_so, ↓s_ex', ↓s_ret', ↓s_retN', ↓s_asg', ↓s_sub', ↓s_aug', ↓s_iff', ↓s_whl', ↓s_for', ↓s_pass', ↓s_brk', ↓s_cont', ↓s_raise', ↓ss_nil', ↓ss_cons', ↓i_valE, ↓i_rng1E, ↓i_rng2E, ↓i_zipE, ↓i_enuE, ↓getK_s, ↓truK_t, ↓truK_f, ↓bK_s, ↓asgK_s, ↓atK_s, ↓seqK_s, ↓intsK_s, ↓blsK_s, ↓iteK_t, ↓iteK_f, ↓binD, ↓augD, ↓cmp_eq, ↓cmp_ne, ↓cmp_lt, ↓cmp_le, ↓cmp_gt, ↓cmp_ge, ↓cmp_is, ↓cmp_isn, ↓cmp_isN, ↓cmp_isnN, isNon, ↓ixD_int, ↓ixD_rod, atI0, atI1, atI2, atI3, ↓sl_tup, ↓sl_rol, ↓bi_len_tup, ↓bi_len_rol, ↓bi_len_ref, ↓bi_abs, ↓bi_int, ↓bi_intb, ↓bi_gcd, ↓bi_tup_tup, ↓bi_tup_rol, ↓bi_tup_ref, ↓bi_lst_tup, ↓bi_lst_rol, ↓bi_lst_ref, ↓bi_sum, ↓bi_sum_tup, ↓bi_sum_rol, ↓bi_all, ↓bi_any, ↓bi_max2, ↓bi_min2, tg_nm, tg_tp, tgsD, seqOf_tup, seqOf_rol, seqOf_up, seqL_rol, seqL_up', tru_non, tru_bl, tru_int, tru_tup, tru_rol, tru_up, ↓eq_int, isi_c, isi_int, isi_bl, isi_tup, isi_non, isi_str, isi_rol, tyN_up, tyN, List.getElem?_cons_zero, List.getElem?_cons_succ, List.set_cons_zero, List.set_cons_succ, permA, List.map_cons, List.map_nil, List.getD_cons_zero, List.getD_cons_succ, List.cons_append, List.nil_append, List.append_nil, List.replicate_succ, List.replicate_zero, RtP, ite_true, ite_false, if_true, if_false, Bool.false_eq_true, decide_true, decide_false, Bool.not_true, Bool.not_false, List.length_cons, List.length_nil]
    refine ⟨.of_right (by decide), ⟨hd, hz⟩, ⟨hd, hz⟩, by decide, .refl, ?_⟩
    rw [e1, e2]
    rfl
end LD
namespace LD
open PySem PySem.Spec PyProof.Rows L2
abbrev b_over (i_lowest : Nat) : Ss := (.cons (.ret (.call i_lowest (.cons (.bin .Mult (.ix (.v 0) (.c (.int 0))) (.ix (.v 1) (.c (.int 1)))) (.cons (.bin .Mult (.ix (.v 0) (.c (.int 1))) (.ix (.v 1) (.c (.int 0)))) .nil)) .nil [0, 1])) .nil)
abbrev b_is_fraction (i_is_fraction_of : Nat) : Ss := (.cons (.ret (.call i_is_fraction_of (.cons (.v 0) .nil) .nil [0])) .nil)
abbrev b_fraction (i_is_number : Nat) (i_lowest : Nat) : Ss := (.cons (.iff (.or (.not (.call i_is_number (.cons (.v 0) .nil) .nil [0])) (.not (.call i_is_number (.cons (.v 1) .nil) .nil [0]))) (.cons (.raise ("Unfit" : Str)) .nil) .nil) (.cons (.iff (.cmp .Eq (.v 1) (.c (.int 0))) (.cons (.raise ("CanNot" : Str)) .nil) .nil) (.cons (.ret (.call i_lowest (.cons (.v 0) (.cons (.v 1) .nil)) .nil [0, 1])) .nil)))
abbrev b_fraction_product (i_sure_fraction : Nat) (i_times : Nat) : Ss := (.cons (.asg (.nm 2) (.call i_sure_fraction (.cons (.v 0) .nil) .nil [0])) (.cons (.ret (.call i_times (.cons (.v 2) (.cons (.call i_sure_fraction (.cons (.v 1) .nil) .nil [0]) .nil)) .nil [0, 1])) .nil))
theorem inj_rr (i j : Rat × Rat) (h : [fr i.1, fr i.2] = [fr j.1, fr j.2]) : i = j := by
  obtain ⟨a, b⟩ := i
  obtain ⟨c, d⟩ := j
  injection h with h1 h2
  injection h2 with h2 _
  exact Prod.ext (fr_inj h1) (fr_inj h2)
theorem ix_fr0 {p : Rat} {μ : Mu} {Q : QD} : ixD (fr p) (.int 0) μ Q = Q (.int p.num) μ := by unfold fr; rw [ixD_int, atI0]; rfl
theorem ix_fr1 {p : Rat} {μ : Mu} {Q : QD} : ixD (fr p) (.int 1) μ Q = Q (.int p.den) μ := by unfold fr; rw [ixD_int, atI1]; rfl
/-- sizes of two that are put together -/
def Sz2 (p q : Rat) : Prop := ∃ m n, SzR m p ∧ SzR n q ∧ m + n ≤ 8998
theorem Sz2.muls {p q : Rat} (h : Sz2 p q) : IntMulOk p.num q.den ∧ IntMulOk q.num p.den ∧ IntMulOk p.den q.den ∧ IntMulOk p.num q.num ∧ IntMulOk p.den q.num := by
  obtain ⟨m, n, h1, h2, h3⟩ := h
  exact ⟨h1.1.mulOk h2.den (by omega), h2.1.mulOk h1.den (by omega), h1.den.mulOk h2.den (by omega), h1.1.mulOk h2.1 (by omega), h1.den.mulOk h2.1 (by omega)⟩
theorem Sz2.den {p q : Rat} (h : Sz2 p q) : (p.den : Int) * q.den ≠ 0 ∧ Sz 8999 (p.den * q.den : Int) := by
  obtain ⟨m, n, h1, h2, h3⟩ := h
  exact ⟨Int.mul_ne_zero (den_ne p) (den_ne q), (h1.den.mul h2.den).mono (by omega)⟩
def sp_added : Spec := pur (fun p : Rat × Rat => [fr p.1, fr p.2]) (fun p _ => Sz2 p.1 p.2) fun p => fr (p.1 + p.2)
theorem run_added {p q : Rat} {μ : Mu} {X : Str → Mu → Prop} {Q : QD} : runK sp_added [fr p, fr q] μ X Q ↔ Sz2 p q ∧ Q (fr (p + q)) μ := pur_run inj_rr (p, q)
theorem m_added {Φ : Nat → Spec} {i : Nat} (hi : Φ i = sp_lowest) : Meets Φ 2 2 (b_added i) sp_added := pur_meets inj_rr fun ⟨p, q⟩ μ h => by
  dsimp only at h
  obtain ⟨m1, m2, m3, m4, m5⟩ := h.muls
  obtain ⟨d1, d2⟩ := h.den
  simp only [b_added, ↓e_v, ↓e_c, ↓e_bin, ↓e_neg, ↓e_cmp, ↓e_chn, ↓e_and, ↓e_or, ↓e_not, ↓e_ite, ↓e_tup, ↓e_lst, ↓e_ix, ↓e_sl, ↓e_rev, ↓e_call, ↓e_bi, ↓e_isi, ↓e_app, ↓e_ext, ↓e_pop, ↓e_comp, ↓es_nil, ↓es_cons, ↓if_nil, ↓if_cons, ↓o_no, ↓o_so, ↓s_ex', ↓s_ret', ↓s_retN', ↓s_asg', ↓s_sub', ↓s_aug', ↓s_iff', ↓s_whl', ↓s_for', ↓s_pass', ↓s_brk', ↓s_cont', ↓s_raise', ↓ss_nil', ↓ss_cons', ↓i_valE, ↓i_rng1E, ↓i_rng2E, ↓i_zipE, ↓i_enuE, ↓getK_s, ↓truK_t, ↓truK_f, ↓bK_s, ↓asgK_s, ↓atK_s, ↓seqK_s, ↓intsK_s, ↓blsK_s, ↓iteK_t, ↓iteK_f, ↓binD, ↓augD, ↓cmp_eq, ↓cmp_ne, ↓cmp_lt, ↓cmp_le, ↓cmp_gt, ↓cmp_ge, ↓cmp_is, ↓cmp_isn, ↓cmp_isN, ↓cmp_isnN, isNon, ↓ixD_int, ↓ixD_rod, atI0, atI1, atI2, atI3, ↓sl_tup, ↓sl_rol, ↓bi_len_tup, ↓bi_len_rol, ↓bi_len_ref, ↓bi_abs, ↓bi_int, ↓bi_intb, ↓bi_gcd, ↓bi_tup_tup, ↓bi_tup_rol, ↓bi_tup_ref, ↓bi_lst_tup, ↓bi_lst_rol, ↓bi_lst_ref, ↓bi_sum, ↓bi_sum_tup, ↓bi_sum_rol, ↓bi_all, ↓bi_any, ↓bi_max2, ↓bi_min2, tg_nm, tg_tp, tgsD, seqOf_tup, seqOf_rol, seqOf_up, seqL_rol, seqL_up', tru_non, tru_bl, tru_int, tru_tup, tru_rol, tru_up, ↓eq_int, isi_c, isi_int, isi_bl, isi_tup, isi_non, isi_str, isi_rol, tyN_up, tyN, List.getElem?_cons_zero, List.getElem?_cons_succ, List.set_cons_zero, List.set_cons_succ, permA, List.map_cons, List.map_nil, List.getD_cons_zero, List.getD_cons_succ, List.cons_append, List.nil_append, List.append_nil, List.replicate_succ, List.replicate_zero, RtP, ite_true, ite_false, if_true, if_false, Bool.false_eq_true, decide_true, decide_false, Bool.not_true, Bool.not_false, List.length_cons, List.length_nil, ↓ix_fr0, ↓ix_fr1, hi, run_lowest]
  refine ⟨m1, m2, m3, ⟨d1, d2⟩, .refl, ?_⟩
  rw [rat_divInt_add]
def sp_times : Spec := pur (fun p : Rat × Rat => [fr p.1, fr p.2]) (fun p _ => Sz2 p.1 p.2) fun p => fr (p.1 * p.2)
theorem run_times {p q : Rat} {μ : Mu} {X : Str → Mu → Prop} {Q : QD} : runK sp_times [fr p, fr q] μ X Q ↔ Sz2 p q ∧ Q (fr (p * q)) μ := pur_run inj_rr (p, q)
theorem m_times {Φ : Nat → Spec} {i : Nat} (hi : Φ i = sp_lowest) : Meets Φ 2 2 (b_times i) sp_times := pur_meets inj_rr fun ⟨p, q⟩ μ h => by
  dsimp only at h
  obtain ⟨m1, m2, m3, m4, m5⟩ := h.muls
  obtain ⟨d1, d2⟩ := h.den
  simp only [b_times, ↓e_v, ↓e_c, ↓e_bin, ↓e_neg, ↓e_cmp, ↓e_chn, ↓e_and, ↓e_or, ↓e_not, ↓e_ite, ↓e_tup, ↓e_lst, ↓e_ix, ↓e_sl, ↓e_rev, ↓e_call, ↓e_bi, ↓e_isi, ↓e_app, ↓e_ext, ↓e_pop, ↓e_comp, ↓es_nil, ↓es_cons, ↓if_nil, ↓if_cons, ↓o_no, ↓o_so, ↓s_ex', ↓s_ret', ↓s_retN', ↓s_asg', ↓s_sub', ↓s_aug', ↓s_iff', ↓s_whl', ↓s_for', ↓s_pass', ↓s_brk', ↓s_cont', ↓s_raise', ↓ss_nil', ↓ss_cons', ↓i_valE, ↓i_rng1E, ↓i_rng2E, ↓i_zipE, ↓i_enuE, ↓getK_s, ↓truK_t, ↓truK_f, ↓bK_s, ↓asgK_s, ↓atK_s, ↓seqK_s, ↓intsK_s, ↓blsK_s, ↓iteK_t, ↓iteK_f, ↓binD, ↓augD, ↓cmp_eq, ↓cmp_ne, ↓cmp_lt, ↓cmp_le, ↓cmp_gt, ↓cmp_ge, ↓cmp_is, ↓cmp_isn, ↓cmp_isN, ↓cmp_isnN, isNon, ↓ixD_int, ↓ixD_rod, atI0, atI1, atI2, atI3, ↓sl_tup, ↓sl_rol, ↓bi_len_tup, ↓bi_len_rol, ↓bi_len_ref, ↓bi_abs, ↓bi_int, ↓bi_intb, ↓bi_gcd, ↓bi_tup_tup, ↓bi_tup_rol, ↓bi_tup_ref, ↓bi_lst_tup, ↓bi_lst_rol, ↓bi_lst_ref, ↓bi_sum, ↓bi_sum_tup, ↓bi_sum_rol, ↓bi_all, ↓bi_any, ↓bi_max2, ↓bi_min2, tg_nm, tg_tp, tgsD, seqOf_tup, seqOf_rol, seqOf_up, seqL_rol, seqL_up', tru_non, tru_bl, tru_int, tru_tup, tru_rol, tru_up, ↓eq_int, isi_c, isi_int, isi_bl, isi_tup, isi_non, isi_str, isi_rol, tyN_up, tyN, List.getElem?_cons_zero, List.getElem?_cons_succ, List.set_cons_zero, List.set_cons_succ, permA, List.map_cons, List.map_nil, List.getD_cons_zero, List.getD_cons_succ, List.cons_append, List.nil_append, List.append_nil, List.replicate_succ, List.replicate_zero, RtP, ite_true, ite_false, if_true, if_false, Bool.false_eq_true, decide_true, decide_false, Bool.not_true, Bool.not_false, List.length_cons, List.length_nil, ↓ix_fr0, ↓ix_fr1, hi, run_lowest]
  refine ⟨m4, m3, ⟨d1, d2⟩, .refl, ?_⟩
  rw [rat_divInt_mul]
/-- a quotient -/
theorem rat_over (p q : Rat) (h : q ≠ 0) : Rat.divInt (p.num * q.den) (p.den * q.num) = p / q := by
  have h1 := Rat.num_divInt_den p
  have h2 := Rat.num_divInt_den q
  have h3 : q.num ≠ 0 := fun e => h (by rw [← h2, e]; simp)
  have h4 := den_ne p
  have h5 := den_ne q
  have e : Rat.divInt (p.num * q.den) (p.den * q.num) * q = p := by
    have e1 : Rat.divInt (p.num * q.den) (p.den * q.num) * Rat.divInt q.num q.den = Rat.divInt p.num p.den := by
      rw [Rat.divInt_mul_divInt, Rat.divInt_eq_divInt_iff (Int.mul_ne_zero (Int.mul_ne_zero h4 h3) h5) h4]
      grind
    rw [h1, h2] at e1
    exact e1
  rw [← e, Rat.div_def]
  grind
def sp_over : Spec := pur (fun p : Rat × Rat => [fr p.1, fr p.2]) (fun p _ => Sz2 p.1 p.2 ∧ p.2 ≠ 0) fun p => fr (p.1 / p.2)
theorem run_over {p q : Rat} {μ : Mu} {X : Str → Mu → Prop} {Q : QD} : runK sp_over [fr p, fr q] μ X Q ↔ (Sz2 p q ∧ q ≠ 0) ∧ Q (fr (p / q)) μ := pur_run inj_rr (p, q)
theorem m_over {Φ : Nat → Spec} {i : Nat} (hi : Φ i = sp_lowest) : Meets Φ 2 2 (b_over i) sp_over := pur_meets inj_rr fun ⟨p, q⟩ μ h => by
  obtain ⟨h, hq⟩ := h
  dsimp only at h hq
  obtain ⟨m1, m2, m3, m4, m5⟩ := h.muls
  have h3 : q.num ≠ 0 := fun e => hq (by rw [← Rat.num_divInt_den q, e]; simp)
  have hz : Sz 8999 (p.den * q.num) := by
    obtain ⟨m, n, h1, h2, h3⟩ := h
    exact (h1.den.mul h2.1).mono (by omega)
  simp only [b_over, ↓e_v, ↓e_c, ↓e_bin, ↓e_neg, ↓e_cmp, ↓e_chn, ↓e_and, ↓e_or, ↓e_not, ↓e_ite, ↓e_tup, ↓e_lst, ↓e_ix, ↓e_sl, ↓e_rev, ↓e_call, ↓e_bi, ↓e_isi, ↓e_app, ↓e_ext, ↓e_pop, ↓e_comp, ↓es_nil, ↓es_cons, ↓if_nil, ↓if_cons, ↓o_no, ↓o_so, ↓s_ex', ↓s_ret', ↓s_retN', ↓s_asg', ↓s_sub', ↓s_aug', ↓s_iff', ↓s_whl', ↓s_for', ↓s_pass', ↓s_brk', ↓s_cont', ↓s_raise', ↓ss_nil', ↓ss_cons', ↓i_valE, ↓i_rng1E, ↓i_rng2E, ↓i_zipE, ↓i_enuE, ↓getK_s, ↓truK_t, ↓truK_f, ↓bK_s, ↓asgK_s, ↓atK_s, ↓seqK_s, ↓intsK_s, ↓blsK_s, ↓iteK_t, ↓iteK_f, ↓binD, ↓augD, ↓cmp_eq, ↓cmp_ne, ↓cmp_lt, ↓cmp_le, ↓cmp_gt, ↓cmp_ge, ↓cmp_is, ↓cmp_isn, ↓cmp_isN, ↓cmp_isnN, isNon, ↓ixD_int, ↓ixD_rod, atI0, atI1, atI2, atI3, ↓sl_tup, ↓sl_rol, ↓bi_len_tup, ↓bi_len_rol, ↓bi_len_ref, ↓bi_abs, ↓bi_int, ↓bi_intb, ↓bi_gcd, ↓bi_tup_tup, ↓bi_tup_rol, ↓bi_tup_ref, ↓bi_lst_tup, ↓bi_lst_rol, ↓bi_lst_ref, ↓bi_sum, ↓bi_sum_tup, ↓bi_sum_rol, ↓bi_all, ↓bi_any, ↓bi_max2, ↓bi_min2, tg_nm, tg_tp, tgsD, seqOf_tup, seqOf_rol, seqOf_up, seqL_rol, seqL_up', tru_non, tru_bl, tru_int, tru_tup, tru_rol, tru_up, ↓eq_int, isi_c, isi_int, isi_bl, isi_tup, isi_non, isi_str, isi_rol, tyN_up, tyN, List.getElem?_cons_zero, List.getElem?_cons_succ, List.set_cons_zero, List.set_cons_succ, permA, List.map_cons, List.map_nil, List.getD_cons_zero, List.getD_cons_succ, List.cons_append, List.nil_append, List.append_nil, List.replicate_succ, List.replicate_zero, RtP, ite_true, ite_false, if_true, if_false, Bool.false_eq_true, decide_true, decide_false, Bool.not_true, Bool.not_false, List.length_cons, List.length_nil, ↓ix_fr0, ↓ix_fr1, hi, run_lowest]
  refine ⟨m1, m5, ⟨Int.mul_ne_zero (den_ne p) h3, hz⟩, .refl, ?_⟩
  rw [rat_over p q hq]
/-- is that a fraction in lowest terms -/
def isFr : D → Bool
  | .tup [.int a, .int b] => decide (0 < b) && decide ((Int.gcd a b : Int) = 1)
  | _ => false
theorem isFr_fr (p : Rat) : isFr (fr p) = true := by
  unfold fr isFr
  have := p.den_nz
  have h2 : Int.gcd p.num (p.den : Int) = 1 := p.reduced
  simp only [h2, Bool.and_eq_true, decide_eq_true_eq]
  omega
def frPre (d : D) (μ : Mu) : Prop := (flat d = true ∧ ∀ xs, d = .tup xs → ∀ x ∈ xs, flat x = true) ∨ isL d μ = true
def sp_is_fraction_of : Spec := pur (fun d : D => [d]) frPre fun d => .bl (isFr d)
theorem run_is_fraction_of {d : D} {μ : Mu} {X : Str → Mu → Prop} {Q : QD} : runK sp_is_fraction_of [d] μ X Q ↔ frPre d μ ∧ Q (.bl (isFr d)) μ := pur_run inj1 d
theorem frPre_fr (p : Rat) (μ : Mu) : frPre (fr p) μ := .inl ⟨rfl, fun xs e x hx => by
  unfold fr at e
  cases e
  rcases List.mem_cons.mp hx with h | h
  · rw [h]; rfl
  · rcases List.mem_cons.mp h with h | h
    · rw [h]; rfl
    · cases h⟩
theorem m_is_fraction_of {Φ : Nat → Spec} {i j : Nat} (hi : Φ i = sp_is_long) (hj : Φ j = sp_is_number) : Meets Φ 1 1 (b_is_fraction_of i j) sp_is_fraction_of := pur_meets inj1 fun d μ h => by
  cases d with
  | tup xs =>
    have h : ∀ x ∈ xs, flat x = true := by
      rcases h with h | h
      · exact h.2 xs rfl
      · cases h
    match xs, h with
    | [], _ => simp only [b_is_fraction_of, ↓e_v, ↓e_c, ↓e_bin, ↓e_neg, ↓e_cmp, ↓e_chn, ↓e_and, ↓e_or, ↓e_not, ↓e_ite, ↓e_tup, ↓e_lst, ↓e_ix, ↓e_sl, ↓e_rev, ↓e_call, ↓e_bi, ↓e_isi, ↓e_app, ↓e_ext, ↓e_pop, ↓e_comp, ↓es_nil, ↓es_cons, ↓if_nil, ↓if_cons, ↓o_no, ↓o_so, ↓s_ex', ↓s_ret', ↓s_retN', ↓s_asg', ↓s_sub', ↓s_aug', ↓s_iff', ↓s_whl', ↓s_for', ↓s_pass', ↓s_brk', ↓s_cont', ↓s_raise', ↓ss_nil', ↓ss_cons', ↓i_valE, ↓i_rng1E, ↓i_rng2E, ↓i_zipE, ↓i_enuE, ↓getK_s, ↓truK_t, ↓truK_f, ↓bK_s, ↓asgK_s, ↓atK_s, ↓seqK_s, ↓intsK_s, ↓blsK_s, ↓iteK_t, ↓iteK_f, ↓binD, ↓augD, ↓cmp_eq, ↓cmp_ne, ↓cmp_lt, ↓cmp_le, ↓cmp_gt, ↓cmp_ge, ↓cmp_is, ↓cmp_isn, ↓cmp_isN, ↓cmp_isnN, isNon, ↓ixD_int, ↓ixD_rod, atI0, atI1, atI2, atI3, ↓sl_tup, ↓sl_rol, ↓bi_len_tup, ↓bi_len_rol, ↓bi_len_ref, ↓bi_abs, ↓bi_int, ↓bi_intb, ↓bi_gcd, ↓bi_tup_tup, ↓bi_tup_rol, ↓bi_tup_ref, ↓bi_lst_tup, ↓bi_lst_rol, ↓bi_lst_ref, ↓bi_sum, ↓bi_sum_tup, ↓bi_sum_rol, ↓bi_all, ↓bi_any, ↓bi_max2, ↓bi_min2, tg_nm, tg_tp, tgsD, seqOf_tup, seqOf_rol, seqOf_up, seqL_rol, seqL_up', tru_non, tru_bl, tru_int, tru_tup, tru_rol, tru_up, ↓eq_int, isi_c, isi_int, isi_bl, isi_tup, isi_non, isi_str, isi_rol, tyN_up, tyN, List.getElem?_cons_zero, List.getElem?_cons_succ, List.set_cons_zero, List.set_cons_succ, permA, List.map_cons, List.map_nil, List.getD_cons_zero, List.getD_cons_succ, List.cons_append, List.nil_append, List.append_nil, List.replicate_succ, List.replicate_zero, RtP, ite_true, ite_false, if_true, if_false, Bool.false_eq_true, decide_true, decide_false, Bool.not_true, Bool.not_false, List.length_cons, List.length_nil, hi, run_is_long, flat, show longV (.tup []) 2 = false from rfl, true_and, true_or, Bool.not_false]; exact ⟨.refl, rfl⟩
    | [x], _ => simp only [b_is_fraction_of, ↓e_v, ↓e_c, ↓e_bin, ↓e_neg, ↓e_cmp, ↓e_chn, ↓e_and, ↓e_or, ↓e_not, ↓e_ite, ↓e_tup, ↓e_lst, ↓e_ix, ↓e_sl, ↓e_rev, ↓e_call, ↓e_bi, ↓e_isi, ↓e_app, ↓e_ext, ↓e_pop, ↓e_comp, ↓es_nil, ↓es_cons, ↓if_nil, ↓if_cons, ↓o_no, ↓o_so, ↓s_ex', ↓s_ret', ↓s_retN', ↓s_asg', ↓s_sub', ↓s_aug', ↓s_iff', ↓s_whl', ↓s_for', ↓s_pass', ↓s_brk', ↓s_cont', ↓s_raise', ↓ss_nil', ↓ss_cons', ↓i_valE, ↓i_rng1E, ↓i_rng2E, ↓i_zipE, ↓i_enuE, ↓getK_s, ↓truK_t, ↓truK_f, ↓bK_s, ↓asgK_s, ↓atK_s, ↓seqK_s, ↓intsK_s, ↓blsK_s, ↓iteK_t, ↓iteK_f, ↓binD, ↓augD, ↓cmp_eq, ↓cmp_ne, ↓cmp_lt, ↓cmp_le, ↓cmp_gt, ↓cmp_ge, ↓cmp_is, ↓cmp_isn, ↓cmp_isN, ↓cmp_isnN, isNon, ↓ixD_int, ↓ixD_rod, atI0, atI1, atI2, atI3, ↓sl_tup, ↓sl_rol, ↓bi_len_tup, ↓bi_len_rol, ↓bi_len_ref, ↓bi_abs, ↓bi_int, ↓bi_intb, ↓bi_gcd, ↓bi_tup_tup, ↓bi_tup_rol, ↓bi_tup_ref, ↓bi_lst_tup, ↓bi_lst_rol, ↓bi_lst_ref, ↓bi_sum, ↓bi_sum_tup, ↓bi_sum_rol, ↓bi_all, ↓bi_any, ↓bi_max2, ↓bi_min2, tg_nm, tg_tp, tgsD, seqOf_tup, seqOf_rol, seqOf_up, seqL_rol, seqL_up', tru_non, tru_bl, tru_int, tru_tup, tru_rol, tru_up, ↓eq_int, isi_c, isi_int, isi_bl, isi_tup, isi_non, isi_str, isi_rol, tyN_up, tyN, List.getElem?_cons_zero, List.getElem?_cons_succ, List.set_cons_zero, List.set_cons_succ, permA, List.map_cons, List.map_nil, List.getD_cons_zero, List.getD_cons_succ, List.cons_append, List.nil_append, List.append_nil, List.replicate_succ, List.replicate_zero, RtP, ite_true, ite_false, if_true, if_false, Bool.false_eq_true, decide_true, decide_false, Bool.not_true, Bool.not_false, List.length_cons, List.length_nil, hi, run_is_long, flat, show longV (.tup [x]) 2 = false from rfl, true_and, true_or, Bool.not_false]; exact ⟨.refl, by cases x <;> rfl⟩
    | x :: y :: z :: xs, _ =>
      have e : longV (.tup (x :: y :: z :: xs)) 2 = false := by
        simp only [longV, List.length_cons, decide_eq_false_iff_not]
        omega
      simp only [b_is_fraction_of, ↓e_v, ↓e_c, ↓e_bin, ↓e_neg, ↓e_cmp, ↓e_chn, ↓e_and, ↓e_or, ↓e_not, ↓e_ite, ↓e_tup, ↓e_lst, ↓e_ix, ↓e_sl, ↓e_rev, ↓e_call, ↓e_bi, ↓e_isi, ↓e_app, ↓e_ext, ↓e_pop, ↓e_comp, ↓es_nil, ↓es_cons, ↓if_nil, ↓if_cons, ↓o_no, ↓o_so, ↓s_ex', ↓s_ret', ↓s_retN', ↓s_asg', ↓s_sub', ↓s_aug', ↓s_iff', ↓s_whl', ↓s_for', ↓s_pass', ↓s_brk', ↓s_cont', ↓s_raise', ↓ss_nil', ↓ss_cons', ↓i_valE, ↓i_rng1E, ↓i_rng2E, ↓i_zipE, ↓i_enuE, ↓getK_s, ↓truK_t, ↓truK_f, ↓bK_s, ↓asgK_s, ↓atK_s, ↓seqK_s, ↓intsK_s, ↓blsK_s, ↓iteK_t, ↓iteK_f, ↓binD, ↓augD, ↓cmp_eq, ↓cmp_ne, ↓cmp_lt, ↓cmp_le, ↓cmp_gt, ↓cmp_ge, ↓cmp_is, ↓cmp_isn, ↓cmp_isN, ↓cmp_isnN, isNon, ↓ixD_int, ↓ixD_rod, atI0, atI1, atI2, atI3, ↓sl_tup, ↓sl_rol, ↓bi_len_tup, ↓bi_len_rol, ↓bi_len_ref, ↓bi_abs, ↓bi_int, ↓bi_intb, ↓bi_gcd, ↓bi_tup_tup, ↓bi_tup_rol, ↓bi_tup_ref, ↓bi_lst_tup, ↓bi_lst_rol, ↓bi_lst_ref, ↓bi_sum, ↓bi_sum_tup, ↓bi_sum_rol, ↓bi_all, ↓bi_any, ↓bi_max2, ↓bi_min2, tg_nm, tg_tp, tgsD, seqOf_tup, seqOf_rol, seqOf_up, seqL_rol, seqL_up', tru_non, tru_bl, tru_int, tru_tup, tru_rol, tru_up, ↓eq_int, isi_c, isi_int, isi_bl, isi_tup, isi_non, isi_str, isi_rol, tyN_up, tyN, List.getElem?_cons_zero, List.getElem?_cons_succ, List.set_cons_zero, List.set_cons_succ, permA, List.map_cons, List.map_nil, List.getD_cons_zero, List.getD_cons_succ, List.cons_append, List.nil_append, List.append_nil, List.replicate_succ, List.replicate_zero, RtP, ite_true, ite_false, if_true, if_false, Bool.false_eq_true, decide_true, decide_false, Bool.not_true, Bool.not_false, List.length_cons, List.length_nil, hi, run_is_long, flat, true_and, true_or, e, Bool.not_false]
      exact ⟨.refl, by unfold isFr; split <;> first | trivial | (rename_i e; cases e)⟩
    | [x, y], h =>
      have hx := h x (by simp)
      have hy := h y (by simp)
      cases hix : isInt x
      · simp only [b_is_fraction_of, ↓e_v, ↓e_c, ↓e_bin, ↓e_neg, ↓e_cmp, ↓e_chn, ↓e_and, ↓e_or, ↓e_not, ↓e_ite, ↓e_tup, ↓e_lst, ↓e_ix, ↓e_sl, ↓e_rev, ↓e_call, ↓e_bi, ↓e_isi, ↓e_app, ↓e_ext, ↓e_pop, ↓e_comp, ↓es_nil, ↓es_cons, ↓if_nil, ↓if_cons, ↓o_no, ↓o_so, ↓s_ex', ↓s_ret', ↓s_retN', ↓s_asg', ↓s_sub', ↓s_aug', ↓s_iff', ↓s_whl', ↓s_for', ↓s_pass', ↓s_brk', ↓s_cont', ↓s_raise', ↓ss_nil', ↓ss_cons', ↓i_valE, ↓i_rng1E, ↓i_rng2E, ↓i_zipE, ↓i_enuE, ↓getK_s, ↓truK_t, ↓truK_f, ↓bK_s, ↓asgK_s, ↓atK_s, ↓seqK_s, ↓intsK_s, ↓blsK_s, ↓iteK_t, ↓iteK_f, ↓binD, ↓augD, ↓cmp_eq, ↓cmp_ne, ↓cmp_lt, ↓cmp_le, ↓cmp_gt, ↓cmp_ge, ↓cmp_is, ↓cmp_isn, ↓cmp_isN, ↓cmp_isnN, isNon, ↓ixD_int, ↓ixD_rod, atI0, atI1, atI2, atI3, ↓sl_tup, ↓sl_rol, ↓bi_len_tup, ↓bi_len_rol, ↓bi_len_ref, ↓bi_abs, ↓bi_int, ↓bi_intb, ↓bi_gcd, ↓bi_tup_tup, ↓bi_tup_rol, ↓bi_tup_ref, ↓bi_lst_tup, ↓bi_lst_rol, ↓bi_lst_ref, ↓bi_sum, ↓bi_sum_tup, ↓bi_sum_rol, ↓bi_all, ↓bi_any, ↓bi_max2, ↓bi_min2, tg_nm, tg_tp, tgsD, seqOf_tup, seqOf_rol, seqOf_up, seqL_rol, seqL_up', tru_non, tru_bl, tru_int, tru_tup, tru_rol, tru_up, ↓eq_int, isi_c, isi_int, isi_bl, isi_tup, isi_non, isi_str, isi_rol, tyN_up, tyN, List.getElem?_cons_zero, List.getElem?_cons_succ, List.set_cons_zero, List.set_cons_succ, permA, List.map_cons, List.map_nil, List.getD_cons_zero, List.getD_cons_succ, List.cons_append, List.nil_append, List.append_nil, List.replicate_succ, List.replicate_zero, RtP, ite_true, ite_false, if_true, if_false, Bool.false_eq_true, decide_true, decide_false, Bool.not_true, Bool.not_false, List.length_cons, List.length_nil, hi, hj, run_is_long, run_is_number, show flat (.tup [x, y]) = true from rfl, show longV (.tup [x, y]) 2 = true from rfl, true_and, true_or, hx, hy, Bool.not_true, Bool.not_false, hix]
        exact ⟨.refl, by cases x <;> first | rfl | (cases hix; done)⟩
      · cases hiy : isInt y
        · simp only [b_is_fraction_of, ↓e_v, ↓e_c, ↓e_bin, ↓e_neg, ↓e_cmp, ↓e_chn, ↓e_and, ↓e_or, ↓e_not, ↓e_ite, ↓e_tup, ↓e_lst, ↓e_ix, ↓e_sl, ↓e_rev, ↓e_call, ↓e_bi, ↓e_isi, ↓e_app, ↓e_ext, ↓e_pop, ↓e_comp, ↓es_nil, ↓es_cons, ↓if_nil, ↓if_cons, ↓o_no, ↓o_so, ↓s_ex', ↓s_ret', ↓s_retN', ↓s_asg', ↓s_sub', ↓s_aug', ↓s_iff', ↓s_whl', ↓s_for', ↓s_pass', ↓s_brk', ↓s_cont', ↓s_raise', ↓ss_nil', ↓ss_cons', ↓i_valE, ↓i_rng1E, ↓i_rng2E, ↓i_zipE, ↓i_enuE, ↓getK_s, ↓truK_t, ↓truK_f, ↓bK_s, ↓asgK_s, ↓atK_s, ↓seqK_s, ↓intsK_s, ↓blsK_s, ↓iteK_t, ↓iteK_f, ↓binD, ↓augD, ↓cmp_eq, ↓cmp_ne, ↓cmp_lt, ↓cmp_le, ↓cmp_gt, ↓cmp_ge, ↓cmp_is, ↓cmp_isn, ↓cmp_isN, ↓cmp_isnN, isNon, ↓ixD_int, ↓ixD_rod, atI0, atI1, atI2, atI3, ↓sl_tup, ↓sl_rol, ↓bi_len_tup, ↓bi_len_rol, ↓bi_len_ref, ↓bi_abs, ↓bi_int, ↓bi_intb, ↓bi_gcd, ↓bi_tup_tup, ↓bi_tup_rol, ↓bi_tup_ref, ↓bi_lst_tup, ↓bi_lst_rol, ↓bi_lst_ref, ↓bi_sum, ↓bi_sum_tup, ↓bi_sum_rol, ↓bi_all, ↓bi_any, ↓bi_max2, ↓bi_min2, tg_nm, tg_tp, tgsD, seqOf_tup, seqOf_rol, seqOf_up, seqL_rol, seqL_up', tru_non, tru_bl, tru_int, tru_tup, tru_rol, tru_up, ↓eq_int, isi_c, isi_int, isi_bl, isi_tup, isi_non, isi_str, isi_rol, tyN_up, tyN, List.getElem?_cons_zero, List.getElem?_cons_succ, List.set_cons_zero, List.set_cons_succ, permA, List.map_cons, List.map_nil, List.getD_cons_zero, List.getD_cons_succ, List.cons_append, List.nil_append, List.append_nil, List.replicate_succ, List.replicate_zero, RtP, ite_true, ite_false, if_true, if_false, Bool.false_eq_true, decide_true, decide_false, Bool.not_true, Bool.not_false, List.length_cons, List.length_nil, hi, hj, run_is_long, run_is_number, show flat (.tup [x, y]) = true from rfl, show longV (.tup [x, y]) 2 = true from rfl, true_and, true_or, hx, hy, Bool.not_true, Bool.not_false, hix, hiy]
          exact ⟨.refl, by cases x <;> cases y <;> first | rfl | (cases hiy; done)⟩
        · cases x <;> first | (cases hix; done) | skip
          cases y <;> first | (cases hiy; done) | skip
          rename_i a b _
          by_cases hb : 0 < b
          · simp only [b_is_fraction_of, ↓e_v, ↓e_c, ↓e_bin, ↓e_neg, ↓e_cmp, ↓e_chn, ↓e_and, ↓e_or, ↓e_not, ↓e_ite, ↓e_tup, ↓e_lst, ↓e_ix, ↓e_sl, ↓e_rev, ↓e_call, ↓e_bi, ↓e_isi, ↓e_app, ↓e_ext, ↓e_pop, ↓e_comp, ↓es_nil, ↓es_cons, ↓if_nil, ↓if_cons, ↓o_no, ↓o_so, ↓s_ex', ↓s_ret', ↓s_retN', ↓s_asg', ↓s_sub', ↓s_aug', ↓s_iff', ↓s_whl', ↓s_for', ↓s_pass', ↓s_brk', ↓s_cont', ↓s_raise', ↓ss_nil', ↓ss_cons', ↓i_valE, ↓i_rng1E, ↓i_rng2E, ↓i_zipE, ↓i_enuE, ↓getK_s, ↓truK_t, ↓truK_f, ↓bK_s, ↓asgK_s, ↓atK_s, ↓seqK_s, ↓intsK_s, ↓blsK_s, ↓iteK_t, ↓iteK_f, ↓binD, ↓augD, ↓cmp_eq, ↓cmp_ne, ↓cmp_lt, ↓cmp_le, ↓cmp_gt, ↓cmp_ge, ↓cmp_is, ↓cmp_isn, ↓cmp_isN, ↓cmp_isnN, isNon, ↓ixD_int, ↓ixD_rod, atI0, atI1, atI2, atI3, ↓sl_tup, ↓sl_rol, ↓bi_len_tup, ↓bi_len_rol, ↓bi_len_ref, ↓bi_abs, ↓bi_int, ↓bi_intb, ↓bi_gcd, ↓bi_tup_tup, ↓bi_tup_rol, ↓bi_tup_ref, ↓bi_lst_tup, ↓bi_lst_rol, ↓bi_lst_ref, ↓bi_sum, ↓bi_sum_tup, ↓bi_sum_rol, ↓bi_all, ↓bi_any, ↓bi_max2, ↓bi_min2, tg_nm, tg_tp, tgsD, seqOf_tup, seqOf_rol, seqOf_up, seqL_rol, seqL_up', tru_non, tru_bl, tru_int, tru_tup, tru_rol, tru_up, ↓eq_int, isi_c, isi_int, isi_bl, isi_tup, isi_non, isi_str, isi_rol, tyN_up, tyN, List.getElem?_cons_zero, List.getElem?_cons_succ, List.set_cons_zero, List.set_cons_succ, permA, List.map_cons, List.map_nil, List.getD_cons_zero, List.getD_cons_succ, List.cons_append, List.nil_append, List.append_nil, List.replicate_succ, List.replicate_zero, RtP, ite_true, ite_false, if_true, if_false, Bool.false_eq_true, decide_true, decide_false, Bool.not_true, Bool.not_false, List.length_cons, List.length_nil, hi, hj, run_is_long, run_is_number, show flat (.tup [.int a, .int b]) = true from rfl, show longV (.tup [.int a, .int b]) 2 = true from rfl, true_and, true_or, hx, hy, Bool.not_true, Bool.not_false, isInt, isFr, hb, decide_true, Bool.true_and]
            exact ⟨.refl, trivial⟩
          · simp only [b_is_fraction_of, ↓e_v, ↓e_c, ↓e_bin, ↓e_neg, ↓e_cmp, ↓e_chn, ↓e_and, ↓e_or, ↓e_not, ↓e_ite, ↓e_tup, ↓e_lst, ↓e_ix, ↓e_sl, ↓e_rev, ↓e_call, ↓e_bi, ↓e_isi, ↓e_app, ↓e_ext, ↓e_pop, ↓e_comp, ↓es_nil, ↓es_cons, ↓if_nil, ↓if_cons, ↓o_no, ↓o_so, ↓s_ex', ↓s_ret', ↓s_retN', ↓s_asg', ↓s_sub', ↓s_aug', ↓s_iff', ↓s_whl', ↓s_for', ↓s_pass', ↓s_brk', ↓s_cont', ↓s_raise', ↓ss_nil', ↓ss_cons', ↓i_valE, ↓i_rng1E, ↓i_rng2E, ↓i_zipE, ↓i_enuE, ↓getK_s, ↓truK_t, ↓truK_f, ↓bK_s, ↓asgK_s, ↓atK_s, ↓seqK_s, ↓intsK_s, ↓blsK_s, ↓iteK_t, ↓iteK_f, ↓binD, ↓augD, ↓cmp_eq, ↓cmp_ne, ↓cmp_lt, ↓cmp_le, ↓cmp_gt, ↓cmp_ge, ↓cmp_is, ↓cmp_isn, ↓cmp_isN, ↓cmp_isnN, isNon, ↓ixD_int, ↓ixD_rod, atI0, atI1, atI2, atI3, ↓sl_tup, ↓sl_rol, ↓bi_len_tup, ↓bi_len_rol, ↓bi_len_ref, ↓bi_abs, ↓bi_int, ↓bi_intb, ↓bi_gcd, ↓bi_tup_tup, ↓bi_tup_rol, ↓bi_tup_ref, ↓bi_lst_tup, ↓bi_lst_rol, ↓bi_lst_ref, ↓bi_sum, ↓bi_sum_tup, ↓bi_sum_rol, ↓bi_all, ↓bi_any, ↓bi_max2, ↓bi_min2, tg_nm, tg_tp, tgsD, seqOf_tup, seqOf_rol, seqOf_up, seqL_rol, seqL_up', tru_non, tru_bl, tru_int, tru_tup, tru_rol, tru_up, ↓eq_int, isi_c, isi_int, isi_bl, isi_tup, isi_non, isi_str, isi_rol, tyN_up, tyN, List.getElem?_cons_zero, List.getElem?_cons_succ, List.set_cons_zero, List.set_cons_succ, permA, List.map_cons, List.map_nil, List.getD_cons_zero, List.getD_cons_succ, List.cons_append, List.nil_append, List.append_nil, List.replicate_succ, List.replicate_zero, RtP, ite_true, ite_false, if_true, if_false, Bool.false_eq_true, decide_true, decide_false, Bool.not_true, Bool.not_false, List.length_cons, List.length_nil, hi, hj, run_is_long, run_is_number, show flat (.tup [.int a, .int b]) = true from rfl, show longV (.tup [.int a, .int b]) 2 = true from rfl, true_and, true_or, hx, hy, Bool.not_true, Bool.not_false, isInt, isFr, hb, decide_false, Bool.false_and]
            exact ⟨.refl, trivial⟩
  | ref a =>
    obtain ⟨xs, e⟩ := isL_ref (h.resolve_left (fun z => by cases z.1))
    have e2 : isL (.ref a) μ = true := by unfold isL; simp only [e]
    simp only [b_is_fraction_of, ↓e_v, ↓e_c, ↓e_bin, ↓e_neg, ↓e_cmp, ↓e_chn, ↓e_and, ↓e_or, ↓e_not, ↓e_ite, ↓e_tup, ↓e_lst, ↓e_ix, ↓e_sl, ↓e_rev, ↓e_call, ↓e_bi, ↓e_isi, ↓e_app, ↓e_ext, ↓e_pop, ↓e_comp, ↓es_nil, ↓es_cons, ↓if_nil, ↓if_cons, ↓o_no, ↓o_so, ↓s_ex', ↓s_ret', ↓s_retN', ↓s_asg', ↓s_sub', ↓s_aug', ↓s_iff', ↓s_whl', ↓s_for', ↓s_pass', ↓s_brk', ↓s_cont', ↓s_raise', ↓ss_nil', ↓ss_cons', ↓i_valE, ↓i_rng1E, ↓i_rng2E, ↓i_zipE, ↓i_enuE, ↓getK_s, ↓truK_t, ↓truK_f, ↓bK_s, ↓asgK_s, ↓atK_s, ↓seqK_s, ↓intsK_s, ↓blsK_s, ↓iteK_t, ↓iteK_f, ↓binD, ↓augD, ↓cmp_eq, ↓cmp_ne, ↓cmp_lt, ↓cmp_le, ↓cmp_gt, ↓cmp_ge, ↓cmp_is, ↓cmp_isn, ↓cmp_isN, ↓cmp_isnN, isNon, ↓ixD_int, ↓ixD_rod, atI0, atI1, atI2, atI3, ↓sl_tup, ↓sl_rol, ↓bi_len_tup, ↓bi_len_rol, ↓bi_len_ref, ↓bi_abs, ↓bi_int, ↓bi_intb, ↓bi_gcd, ↓bi_tup_tup, ↓bi_tup_rol, ↓bi_tup_ref, ↓bi_lst_tup, ↓bi_lst_rol, ↓bi_lst_ref, ↓bi_sum, ↓bi_sum_tup, ↓bi_sum_rol, ↓bi_all, ↓bi_any, ↓bi_max2, ↓bi_min2, tg_nm, tg_tp, tgsD, seqOf_tup, seqOf_rol, seqOf_up, seqL_rol, seqL_up', tru_non, tru_bl, tru_int, tru_tup, tru_rol, tru_up, ↓eq_int, isi_c, isi_int, isi_bl, isi_tup, isi_non, isi_str, isi_rol, tyN_up, tyN, List.getElem?_cons_zero, List.getElem?_cons_succ, List.set_cons_zero, List.set_cons_succ, permA, List.map_cons, List.map_nil, List.getD_cons_zero, List.getD_cons_succ, List.cons_append, List.nil_append, List.append_nil, List.replicate_succ, List.replicate_zero, RtP, ite_true, ite_false, if_true, if_false, Bool.false_eq_true, decide_true, decide_false, Bool.not_true, Bool.not_false, List.length_cons, List.length_nil, hi, run_is_long, flat, longV, e2, or_true, true_and, Bool.not_false]
    exact ⟨.refl, rfl⟩
  | rol xs =>
    rcases h with h | h
    · cases h.1
    · cases h
  | ty a => rcases h with h | h <;> first | cases h.1 | cases h
  | rod a b => rcases h with h | h <;> first | cases h.1 | cases h
  | _ =>
    simp only [b_is_fraction_of, ↓e_v, ↓e_c, ↓e_bin, ↓e_neg, ↓e_cmp, ↓e_chn, ↓e_and, ↓e_or, ↓e_not, ↓e_ite, ↓e_tup, ↓e_lst, ↓e_ix, ↓e_sl, ↓e_rev, ↓e_call, ↓e_bi, ↓e_isi, ↓e_app, ↓e_ext, ↓e_pop, ↓e_comp, ↓es_nil, ↓es_cons, ↓if_nil, ↓if_cons, ↓o_no, ↓o_so, ↓s_ex', ↓s_ret', ↓s_retN', ↓s_asg', ↓s_sub', ↓s_aug', ↓s_iff', ↓s_whl', ↓s_for', ↓s_pass', ↓s_brk', ↓s_cont', ↓s_raise', ↓ss_nil', ↓ss_cons', ↓i_valE, ↓i_rng1E, ↓i_rng2E, ↓i_zipE, ↓i_enuE, ↓getK_s, ↓truK_t, ↓truK_f, ↓bK_s, ↓asgK_s, ↓atK_s, ↓seqK_s, ↓intsK_s, ↓blsK_s, ↓iteK_t, ↓iteK_f, ↓binD, ↓augD, ↓cmp_eq, ↓cmp_ne, ↓cmp_lt, ↓cmp_le, ↓cmp_gt, ↓cmp_ge, ↓cmp_is, ↓cmp_isn, ↓cmp_isN, ↓cmp_isnN, isNon, ↓ixD_int, ↓ixD_rod, atI0, atI1, atI2, atI3, ↓sl_tup, ↓sl_rol, ↓bi_len_tup, ↓bi_len_rol, ↓bi_len_ref, ↓bi_abs, ↓bi_int, ↓bi_intb, ↓bi_gcd, ↓bi_tup_tup, ↓bi_tup_rol, ↓bi_tup_ref, ↓bi_lst_tup, ↓bi_lst_rol, ↓bi_lst_ref, ↓bi_sum, ↓bi_sum_tup, ↓bi_sum_rol, ↓bi_all, ↓bi_any, ↓bi_max2, ↓bi_min2, tg_nm, tg_tp, tgsD, seqOf_tup, seqOf_rol, seqOf_up, seqL_rol, seqL_up', tru_non, tru_bl, tru_int, tru_tup, tru_rol, tru_up, ↓eq_int, isi_c, isi_int, isi_bl, isi_tup, isi_non, isi_str, isi_rol, tyN_up, tyN, List.getElem?_cons_zero, List.getElem?_cons_succ, List.set_cons_zero, List.set_cons_succ, permA, List.map_cons, List.map_nil, List.getD_cons_zero, List.getD_cons_succ, List.cons_append, List.nil_append, List.append_nil, List.replicate_succ, List.replicate_zero, RtP, ite_true, ite_false, if_true, if_false, Bool.false_eq_true, decide_true, decide_false, Bool.not_true, Bool.not_false, List.length_cons, List.length_nil, hi, run_is_long, flat, longV, true_and, true_or, Bool.not_false]
    exact ⟨.refl, rfl⟩
end LD
namespace LD
open PySem PySem.Spec PyProof.Rows L2
abbrev b_saw_in (i_added : Nat) (i_lowest : Nat) (i_times : Nat) : Ss := (.cons (.asg (.tp (.cons (.nm 2) (.cons (.nm 3) (.cons (.nm 4) (.cons (.nm 5) .nil))))) (.tup (.cons (.c (.tup [(.int 0), (.int 1)])) (.cons (.c (.int 1)) (.cons (.bin .Mod (.v 0) (.v 1)) (.cons (.v 1) .nil)))))) (.cons (.whl (.cmp .Gt (.v 4) (.c (.int 0))) (.cons (.asg (.nm 6) (.call i_added (.cons (.call i_lowest (.cons (.bin .Add (.bin .Add (.bin .Mult (.v 4) (.v 4)) (.bin .Mult (.v 5) (.v 5))) (.c (.int 1))) (.cons (.bin .Mult (.bin .Mult (.c (.int 12)) (.v 4)) (.v 5)) .nil)) .nil [0, 1]) (.cons (.tup (.cons (.neg (.c (.int 1))) (.cons (.c (.int 4)) .nil))) .nil)) .nil [0, 1])) (.cons (.asg (.nm 2) (.call i_added (.cons (.v 2) (.cons (.call i_times (.cons (.tup (.cons (.v 3) (.cons (.c (.int 1)) .nil))) (.cons (.v 6) .nil)) .nil [0, 1]) .nil)) .nil [0, 1])) (.cons (.asg (.tp (.cons (.nm 4) (.cons (.nm 5) (.cons (.nm 3) .nil)))) (.tup (.cons (.bin .Mod (.v 5) (.v 4)) (.cons (.v 4) (.cons (.bin .Sub (.c (.int 0)) (.v 3)) .nil))))) .nil)))) (.cons (.ret (.v 2)) .nil)))
abbrev b_tooth (i_lowest : Nat) : Ss := (.cons (.asg (.nm 2) (.bin .Mod (.v 0) (.v 1))) (.cons (.ret (.ite (.cmp .Eq (.v 2) (.c (.int 0))) (.c (.tup [(.int 0), (.int 1)])) (.call i_lowest (.cons (.bin .Sub (.bin .Mult (.c (.int 2)) (.v 2)) (.v 1)) (.cons (.bin .Mult (.c (.int 2)) (.v 1)) .nil)) .nil [0, 1]))) .nil))
abbrev b_sure_two (i_is_within : Nat) : Ss := (.cons (.iff (.or (.not (.call i_is_within (.cons (.v 0) (.cons (.bin .Sub (.c (.int 0)) (.c (.int 1000000000000))) (.cons (.c (.int 1000000000000)) .nil))) .nil [0, 1, 2])) (.or (.not (.call i_is_within (.cons (.v 1) (.cons (.c (.int 1)) (.cons (.c (.int 1000000000000)) .nil))) .nil [0, 1, 2])) (.cmp .NotEq (.bi .gcd (.cons (.v 0) (.cons (.v 1) .nil))) (.c (.int 1))))) (.cons (.raise ("Unfit" : Str)) .nil) .nil) (.cons (.ret (.tup (.cons (.v 0) (.cons (.v 1) .nil)))) .nil))
abbrev b_saw (i_sure_two : Nat) (i_saw_in : Nat) : Ss := (.cons (.asg (.tp (.cons (.nm 2) (.cons (.nm 3) .nil))) (.call i_sure_two (.cons (.v 0) (.cons (.v 1) .nil)) .nil [0, 1])) (.cons (.ret (.call i_saw_in (.cons (.v 2) (.cons (.v 3) .nil)) .nil [0, 1])) .nil))
abbrev b_sawtooth (i_is_within : Nat) (i_tooth : Nat) : Ss := (.cons (.iff (.or (.not (.call i_is_within (.cons (.v 0) (.cons (.bin .Sub (.c (.int 0)) (.c (.int 1000000000000))) (.cons (.c (.int 1000000000000)) .nil))) .nil [0, 1, 2])) (.not (.call i_is_within (.cons (.v 1) (.cons (.c (.int 1)) (.cons (.c (.int 1000000000000)) .nil))) .nil [0, 1, 2]))) (.cons (.raise ("Unfit" : Str)) .nil) .nil) (.cons (.ret (.call i_tooth (.cons (.v 0) (.cons (.v 1) .nil)) .nil [0, 1])) .nil))
abbrev b_turned_over (i_sure_two : Nat) (i_added : Nat) (i_lowest : Nat) : Ss := (.cons (.asg (.tp (.cons (.nm 2) (.cons (.nm 3) .nil))) (.call i_sure_two (.cons (.v 0) (.cons (.v 1) .nil)) .nil [0, 1])) (.cons (.iff (.cmp .Lt (.v 2) (.c (.int 1))) (.cons (.raise ("Unfit" : Str)) .nil) .nil) (.cons (.ret (.call i_added (.cons (.call i_lowest (.cons (.bin .Add (.bin .Add (.bin .Mult (.v 2) (.v 2)) (.bin .Mult (.v 3) (.v 3))) (.c (.int 1))) (.cons (.bin .Mult (.bin .Mult (.c (.int 12)) (.v 2)) (.v 3)) .nil)) .nil [0, 1]) (.cons (.tup (.cons (.neg (.c (.int 1))) (.cons (.c (.int 4)) .nil))) .nil)) .nil [0, 1])) .nil)))
def sp_is_fraction : Spec := sp_is_fraction_of
theorem m_is_fraction {Φ : Nat → Spec} {i : Nat} (hi : Φ i = sp_is_fraction_of) : Meets Φ 1 1 (b_is_fraction i) sp_is_fraction_of := pur_meets inj1 fun d μ h => by
  simp only [b_is_fraction, ↓e_v, ↓e_c, ↓e_bin, ↓e_neg, ↓e_cmp, ↓e_chn, ↓e_and, ↓e_or, ↓e_not, ↓e_ite, ↓e_tup, ↓e_lst, ↓e_ix, ↓e_sl, ↓e_rev, ↓e_call, ↓e_bi, ↓e_isi, ↓e_app, ↓e_ext, ↓e_pop, ↓e_comp, ↓es_nil, ↓es_cons, ↓if_nil, ↓if_cons, ↓o_no, ↓o_so, ↓s_ex', ↓s_ret', ↓s_retN', ↓s_asg', ↓s_sub', ↓s_aug', ↓s_iff', ↓s_whl', ↓s_for', ↓s_pass', ↓s_brk', ↓s_cont', ↓s_raise', ↓ss_nil', ↓ss_cons', ↓i_valE, ↓i_rng1E, ↓i_rng2E, ↓i_zipE, ↓i_enuE, ↓getK_s, ↓truK_t, ↓truK_f, ↓bK_s, ↓asgK_s, ↓atK_s, ↓seqK_s, ↓intsK_s, ↓blsK_s, ↓iteK_t, ↓iteK_f, ↓binD, ↓augD, ↓cmp_eq, ↓cmp_ne, ↓cmp_lt, ↓cmp_le, ↓cmp_gt, ↓cmp_ge, ↓cmp_is, ↓cmp_isn, ↓cmp_isN, ↓cmp_isnN, isNon, ↓ixD_int, ↓ixD_rod, atI0, atI1, atI2, atI3, ↓sl_tup, ↓sl_rol, ↓bi_len_tup, ↓bi_len_rol, ↓bi_len_ref, ↓bi_abs, ↓bi_int, ↓bi_intb, ↓bi_gcd, ↓bi_tup_tup, ↓bi_tup_rol, ↓bi_tup_ref, ↓bi_lst_tup, ↓bi_lst_rol, ↓bi_lst_ref, ↓bi_sum, ↓bi_sum_tup, ↓bi_sum_rol, ↓bi_all, ↓bi_any, ↓bi_max2, ↓bi_min2, tg_nm, tg_tp, tgsD, seqOf_tup, seqOf_rol, seqOf_up, seqL_rol, seqL_up', tru_non, tru_bl, tru_int, tru_tup, tru_rol, tru_up, ↓eq_int, isi_c, isi_int, isi_bl, isi_tup, isi_non, isi_str, isi_rol, tyN_up, tyN, List.getElem?_cons_zero, List.getElem?_cons_succ, List.set_cons_zero, List.set_cons_succ, permA, List.map_cons, List.map_nil, List.getD_cons_zero, List.getD_cons_succ, List.cons_append, List.nil_append, List.append_nil, List.replicate_succ, List.replicate_zero, RtP, ite_true, ite_false, if_true, if_false, Bool.false_eq_true, decide_true, decide_false, Bool.not_true, Bool.not_false, List.length_cons, List.length_nil, hi, run_is_fraction_of]
  exact ⟨h, .refl, trivial⟩
theorem inj_r (i j : Rat) (h : [fr i] = [fr j]) : i = j := fr_inj (List.cons.inj h).1
theorem plain_fr {n : Nat} (p : Rat) : plain (n + 1) (fr p) = true := by
  unfold fr plain
  have e : ((List.cons (D.int p.num) [D.int p.den]).length ≤ sizeLine) := by show 2 ≤ sizeLine; decide
  rw [decide_eq_true e]
  cases n <;> rfl
def sp_sure_fraction : Spec := pur (fun p : Rat => [fr p]) (fun _ _ => True) fr
theorem run_sure_fraction {p : Rat} {μ : Mu} {X : Str → Mu → Prop} {Q : QD} : runK sp_sure_fraction [fr p] μ X Q ↔ True ∧ Q (fr p) μ := pur_run inj_r p
theorem m_sure_fraction {Φ : Nat → Spec} {i j n : Nat} (hi : Φ i = sp_tupled (n + 1)) (hj : Φ j = sp_is_fraction_of) : Meets Φ 1 2 (b_sure_fraction i j) sp_sure_fraction := pur_meets inj_r fun p μ _ => by
  simp only [b_sure_fraction, ↓e_v, ↓e_c, ↓e_bin, ↓e_neg, ↓e_cmp, ↓e_chn, ↓e_and, ↓e_or, ↓e_not, ↓e_ite, ↓e_tup, ↓e_lst, ↓e_ix, ↓e_sl, ↓e_rev, ↓e_call, ↓e_bi, ↓e_isi, ↓e_app, ↓e_ext, ↓e_pop, ↓e_comp, ↓es_nil, ↓es_cons, ↓if_nil, ↓if_cons, ↓o_no, ↓o_so, ↓s_ex', ↓s_ret', ↓s_retN', ↓s_asg', ↓s_sub', ↓s_aug', ↓s_iff', ↓s_whl', ↓s_for', ↓s_pass', ↓s_brk', ↓s_cont', ↓s_raise', ↓ss_nil', ↓ss_cons', ↓i_valE, ↓i_rng1E, ↓i_rng2E, ↓i_zipE, ↓i_enuE, ↓getK_s, ↓truK_t, ↓truK_f, ↓bK_s, ↓asgK_s, ↓atK_s, ↓seqK_s, ↓intsK_s, ↓blsK_s, ↓iteK_t, ↓iteK_f, ↓binD, ↓augD, ↓cmp_eq, ↓cmp_ne, ↓cmp_lt, ↓cmp_le, ↓cmp_gt, ↓cmp_ge, ↓cmp_is, ↓cmp_isn, ↓cmp_isN, ↓cmp_isnN, isNon, ↓ixD_int, ↓ixD_rod, atI0, atI1, atI2, atI3, ↓sl_tup, ↓sl_rol, ↓bi_len_tup, ↓bi_len_rol, ↓bi_len_ref, ↓bi_abs, ↓bi_int, ↓bi_intb, ↓bi_gcd, ↓bi_tup_tup, ↓bi_tup_rol, ↓bi_tup_ref, ↓bi_lst_tup, ↓bi_lst_rol, ↓bi_lst_ref, ↓bi_sum, ↓bi_sum_tup, ↓bi_sum_rol, ↓bi_all, ↓bi_any, ↓bi_max2, ↓bi_min2, tg_nm, tg_tp, tgsD, seqOf_tup, seqOf_rol, seqOf_up, seqL_rol, seqL_up', tru_non, tru_bl, tru_int, tru_tup, tru_rol, tru_up, ↓eq_int, isi_c, isi_int, isi_bl, isi_tup, isi_non, isi_str, isi_rol, tyN_up, tyN, List.getElem?_cons_zero, List.getElem?_cons_succ, List.set_cons_zero, List.set_cons_succ, permA, List.map_cons, List.map_nil, List.getD_cons_zero, List.getD_cons_succ, List.cons_append, List.nil_append, List.append_nil, List.replicate_succ, List.replicate_zero, RtP, ite_true, ite_false, if_true, if_false, Bool.false_eq_true, decide_true, decide_false, Bool.not_true, Bool.not_false, List.length_cons, List.length_nil, hi, hj, run_tupled, plain_fr, run_is_fraction_of, isFr_fr, true_and, Bool.not_true]
  exact ⟨frPre_fr p μ, .refl, trivial⟩
def sp_fraction_sum : Spec := sp_added
theorem m_fraction_sum {Φ : Nat → Spec} {i j : Nat} (hi : Φ i = sp_sure_fraction) (hj : Φ j = sp_added) : Meets Φ 2 3 (b_fraction_sum i j) sp_added := pur_meets inj_rr fun ⟨p, q⟩ μ h => by
  simp only [b_fraction_sum, ↓e_v, ↓e_c, ↓e_bin, ↓e_neg, ↓e_cmp, ↓e_chn, ↓e_and, ↓e_or, ↓e_not, ↓e_ite, ↓e_tup, ↓e_lst, ↓e_ix, ↓e_sl, ↓e_rev, ↓e_call, ↓e_bi, ↓e_isi, ↓e_app, ↓e_ext, ↓e_pop, ↓e_comp, ↓es_nil, ↓es_cons, ↓if_nil, ↓if_cons, ↓o_no, ↓o_so, ↓s_ex', ↓s_ret', ↓s_retN', ↓s_asg', ↓s_sub', ↓s_aug', ↓s_iff', ↓s_whl', ↓s_for', ↓s_pass', ↓s_brk', ↓s_cont', ↓s_raise', ↓ss_nil', ↓ss_cons', ↓i_valE, ↓i_rng1E, ↓i_rng2E, ↓i_zipE, ↓i_enuE, ↓getK_s, ↓truK_t, ↓truK_f, ↓bK_s, ↓asgK_s, ↓atK_s, ↓seqK_s, ↓intsK_s, ↓blsK_s, ↓iteK_t, ↓iteK_f, ↓binD, ↓augD, ↓cmp_eq, ↓cmp_ne, ↓cmp_lt, ↓cmp_le, ↓cmp_gt, ↓cmp_ge, ↓cmp_is, ↓cmp_isn, ↓cmp_isN, ↓cmp_isnN, isNon, ↓ixD_int, ↓ixD_rod, atI0, atI1, atI2, atI3, ↓sl_tup, ↓sl_rol, ↓bi_len_tup, ↓bi_len_rol, ↓bi_len_ref, ↓bi_abs, ↓bi_int, ↓bi_intb, ↓bi_gcd, ↓bi_tup_tup, ↓bi_tup_rol, ↓bi_tup_ref, ↓bi_lst_tup, ↓bi_lst_rol, ↓bi_lst_ref, ↓bi_sum, ↓bi_sum_tup, ↓bi_sum_rol, ↓bi_all, ↓bi_any, ↓bi_max2, ↓bi_min2, tg_nm, tg_tp, tgsD, seqOf_tup, seqOf_rol, seqOf_up, seqL_rol, seqL_up', tru_non, tru_bl, tru_int, tru_tup, tru_rol, tru_up, ↓eq_int, isi_c, isi_int, isi_bl, isi_tup, isi_non, isi_str, isi_rol, tyN_up, tyN, List.getElem?_cons_zero, List.getElem?_cons_succ, List.set_cons_zero, List.set_cons_succ, permA, List.map_cons, List.map_nil, List.getD_cons_zero, List.getD_cons_succ, List.cons_append, List.nil_append, List.append_nil, List.replicate_succ, List.replicate_zero, RtP, ite_true, ite_false, if_true, if_false, Bool.false_eq_true, decide_true, decide_false, Bool.not_true, Bool.not_false, List.length_cons, List.length_nil, hi, hj, run_sure_fraction, run_added, true_and]
  exact ⟨h, .refl, trivial⟩
theorem m_fraction_product {Φ : Nat → Spec} {i j : Nat} (hi : Φ i = sp_sure_fraction) (hj : Φ j = sp_times) : Meets Φ 2 3 (b_fraction_product i j) sp_times := pur_meets inj_rr fun ⟨p, q⟩ μ h => by
  simp only [b_fraction_product, ↓e_v, ↓e_c, ↓e_bin, ↓e_neg, ↓e_cmp, ↓e_chn, ↓e_and, ↓e_or, ↓e_not, ↓e_ite, ↓e_tup, ↓e_lst, ↓e_ix, ↓e_sl, ↓e_rev, ↓e_call, ↓e_bi, ↓e_isi, ↓e_app, ↓e_ext, ↓e_pop, ↓e_comp, ↓es_nil, ↓es_cons, ↓if_nil, ↓if_cons, ↓o_no, ↓o_so, ↓s_ex', ↓s_ret', ↓s_retN', ↓s_asg', ↓s_sub', ↓s_aug', ↓s_iff', ↓s_whl', ↓s_for', ↓s_pass', ↓s_brk', ↓s_cont', ↓s_raise', ↓ss_nil', ↓ss_cons', ↓i_valE, ↓i_rng1E, ↓i_rng2E, ↓i_zipE, ↓i_enuE, ↓getK_s, ↓truK_t, ↓truK_f, ↓bK_s, ↓asgK_s, ↓atK_s, ↓seqK_s, ↓intsK_s, ↓blsK_s, ↓iteK_t, ↓iteK_f, ↓binD, ↓augD, ↓cmp_eq, ↓cmp_ne, ↓cmp_lt, ↓cmp_le, ↓cmp_gt, ↓cmp_ge, ↓cmp_is, ↓cmp_isn, ↓cmp_isN, ↓cmp_isnN, isNon, ↓ixD_int, ↓ixD_rod, atI0, atI1, atI2, atI3, ↓sl_tup, ↓sl_rol, ↓bi_len_tup, ↓bi_len_rol, ↓bi_len_ref, ↓bi_abs, ↓bi_int, ↓bi_intb, ↓bi_gcd, ↓bi_tup_tup, ↓bi_tup_rol, ↓bi_tup_ref, ↓bi_lst_tup, ↓bi_lst_rol, ↓bi_lst_ref, ↓bi_sum, ↓bi_sum_tup, ↓bi_sum_rol, ↓bi_all, ↓bi_any, ↓bi_max2, ↓bi_min2, tg_nm, tg_tp, tgsD, seqOf_tup, seqOf_rol, seqOf_up, seqL_rol, seqL_up', tru_non, tru_bl, tru_int, tru_tup, tru_rol, tru_up, ↓eq_int, isi_c, isi_int, isi_bl, isi_tup, isi_non, isi_str, isi_rol, tyN_up, tyN, List.getElem?_cons_zero, List.getElem?_cons_succ, List.set_cons_zero, List.set_cons_succ, permA, List.map_cons, List.map_nil, List.getD_cons_zero, List.getD_cons_succ, List.cons_append, List.nil_append, List.append_nil, List.replicate_succ, List.replicate_zero, RtP, ite_true, ite_false, if_true, if_false, Bool.false_eq_true, decide_true, decide_false, Bool.not_true, Bool.not_false, List.length_cons, List.length_nil, hi, hj, run_sure_fraction, run_times, true_and]
  exact ⟨h, .refl, trivial⟩
theorem m_fraction {Φ : Nat → Spec} {i j : Nat} (hi : Φ i = sp_is_number) (hj : Φ j = sp_lowest) : Meets Φ 2 2 (b_fraction i j) sp_lowest := pur_meets inj_ii fun ⟨a, b⟩ μ h => by
  obtain ⟨h1, h2⟩ := h
  dsimp only at h1 h2
  simp only [b_fraction, ↓e_v, ↓e_c, ↓e_bin, ↓e_neg, ↓e_cmp, ↓e_chn, ↓e_and, ↓e_or, ↓e_not, ↓e_ite, ↓e_tup, ↓e_lst, ↓e_ix, ↓e_sl, ↓e_rev, ↓e_call, ↓e_bi, ↓e_isi, ↓e_app, ↓e_ext, ↓e_pop, ↓e_comp, ↓es_nil, ↓es_cons, ↓if_nil, ↓if_cons, ↓o_no, ↓o_so, ↓s_ex', ↓s_ret', ↓s_retN', ↓s_asg', ↓s_sub', ↓s_aug', ↓s_iff', ↓s_whl', ↓s_for', ↓s_pass', ↓s_brk', ↓s_cont', ↓s_raise', ↓ss_nil', ↓ss_cons', ↓i_valE, ↓i_rng1E, ↓i_rng2E, ↓i_zipE, ↓i_enuE, ↓getK_s, ↓truK_t, ↓truK_f, ↓bK_s, ↓asgK_s, ↓atK_s, ↓seqK_s, ↓intsK_s, ↓blsK_s, ↓iteK_t, ↓iteK_f, ↓binD, ↓augD, ↓cmp_eq, ↓cmp_ne, ↓cmp_lt, ↓cmp_le, ↓cmp_gt, ↓cmp_ge, ↓cmp_is, ↓cmp_isn, ↓cmp_isN, ↓cmp_isnN, isNon, ↓ixD_int, ↓ixD_rod, atI0, atI1, atI2, atI3, ↓sl_tup, ↓sl_rol, ↓bi_len_tup, ↓bi_len_rol, ↓bi_len_ref, ↓bi_abs, ↓bi_int, ↓bi_intb, ↓bi_gcd, ↓bi_tup_tup, ↓bi_tup_rol, ↓bi_tup_ref, ↓bi_lst_tup, ↓bi_lst_rol, ↓bi_lst_ref, ↓bi_sum, ↓bi_sum_tup, ↓bi_sum_rol, ↓bi_all, ↓bi_any, ↓bi_max2, ↓bi_min2, tg_nm, tg_tp, tgsD, seqOf_tup, seqOf_rol, seqOf_up, seqL_rol, seqL_up', tru_non, tru_bl, tru_int, tru_tup, tru_rol, tru_up, ↓eq_int, isi_c, isi_int, isi_bl, isi_tup, isi_non, isi_str, isi_rol, tyN_up, tyN, List.getElem?_cons_zero, List.getElem?_cons_succ, List.set_cons_zero, List.set_cons_succ, permA, List.map_cons, List.map_nil, List.getD_cons_zero, List.getD_cons_succ, List.cons_append, List.nil_append, List.append_nil, List.replicate_succ, List.replicate_zero, RtP, ite_true, ite_false, if_true, if_false, Bool.false_eq_true, decide_true, decide_false, Bool.not_true, Bool.not_false, List.length_cons, List.length_nil, hi, hj, run_is_number, run_lowest, flat, isInt, true_and, Bool.not_true, decide_eq_false h1]
  exact ⟨⟨h1, h2⟩, .refl, trivial⟩
/-! ### saws -/
theorem fmod_pos {a b : Int} (h : 0 < b) : a.fmod b = a % b := Int.fmod_eq_emod_of_nonneg a (by omega)
def toothQ (a b : Int) : Rat := if a % b = 0 then 0 else Rat.divInt (2 * (a % b) - b) (2 * b)
theorem fr0 : D.tup [.int 0, .int 1] = fr 0 := rfl
def sp_tooth : Spec := pur (fun p : Int × Int => [.int p.1, .int p.2]) (fun p _ => 0 < p.2 ∧ Sz 4000 p.2) fun p => fr (toothQ p.1 p.2)
theorem run_tooth {a b : Int} {μ : Mu} {X : Str → Mu → Prop} {Q : QD} : runK sp_tooth [.int a, .int b] μ X Q ↔ (0 < b ∧ Sz 4000 b) ∧ Q (fr (toothQ a b)) μ := pur_run inj_ii (a, b)
theorem sz2 : Sz 2 2 := by decide
theorem m_tooth {Φ : Nat → Spec} {i : Nat} (hi : Φ i = sp_lowest) : Meets Φ 2 3 (b_tooth i) sp_tooth := pur_meets inj_ii fun ⟨a, b⟩ μ h => by
  obtain ⟨h1, h2⟩ := h
  dsimp only at h1 h2
  have h0 : b ≠ 0 := by omega
  simp only [b_tooth, ↓e_v, ↓e_c, ↓e_bin, ↓e_neg, ↓e_cmp, ↓e_chn, ↓e_and, ↓e_or, ↓e_not, ↓e_ite, ↓e_tup, ↓e_lst, ↓e_ix, ↓e_sl, ↓e_rev, ↓e_call, ↓e_bi, ↓e_isi, ↓e_app, ↓e_ext, ↓e_pop, ↓e_comp, ↓es_nil, ↓es_cons, ↓if_nil, ↓if_cons, ↓o_no, ↓o_so, ↓s_ex', ↓s_ret', ↓s_retN', ↓s_asg', ↓s_sub', ↓s_aug', ↓s_iff', ↓s_whl', ↓s_for', ↓s_pass', ↓s_brk', ↓s_cont', ↓s_raise', ↓ss_nil', ↓ss_cons', ↓i_valE, ↓i_rng1E, ↓i_rng2E, ↓i_zipE, ↓i_enuE, ↓getK_s, ↓truK_t, ↓truK_f, ↓bK_s, ↓asgK_s, ↓atK_s, ↓seqK_s, ↓intsK_s, ↓blsK_s, ↓iteK_t, ↓iteK_f, ↓binD, ↓augD, ↓cmp_eq, ↓cmp_ne, ↓cmp_lt, ↓cmp_le, ↓cmp_gt, ↓cmp_ge, ↓cmp_is, ↓cmp_isn, ↓cmp_isN, ↓cmp_isnN, isNon, ↓ixD_int, ↓ixD_rod, atI0, atI1, atI2, atI3, ↓sl_tup, ↓sl_rol, ↓bi_len_tup, ↓bi_len_rol, ↓bi_len_ref, ↓bi_abs, ↓bi_int, ↓bi_intb, ↓bi_gcd, ↓bi_tup_tup, ↓bi_tup_rol, ↓bi_tup_ref, ↓bi_lst_tup, ↓bi_lst_rol, ↓bi_lst_ref, ↓bi_sum, ↓bi_sum_tup, ↓bi_sum_rol, ↓bi_all, ↓bi_any, ↓bi_max2, ↓bi_min2, tg_nm, tg_tp, tgsD, seqOf_tup, seqOf_rol, seqOf_up, seqL_rol, seqL_up', tru_non, tru_bl, tru_int, tru_tup, tru_rol, tru_up, ↓eq_int, isi_c, isi_int, isi_bl, isi_tup, isi_non, isi_str, isi_rol, tyN_up, tyN, List.getElem?_cons_zero, List.getElem?_cons_succ, List.set_cons_zero, List.set_cons_succ, permA, List.map_cons, List.map_nil, List.getD_cons_zero, List.getD_cons_succ, List.cons_append, List.nil_append, List.append_nil, List.replicate_succ, List.replicate_zero, RtP, ite_true, ite_false, if_true, if_false, Bool.false_eq_true, decide_true, decide_false, Bool.not_true, Bool.not_false, List.length_cons, List.length_nil, fmod_pos h1]
  refine ⟨h0, ?_⟩
  unfold toothQ
  by_cases e : a % b = 0
  · simp only [e, decide_true, ↓e_v, ↓e_c, ↓e_bin, ↓e_neg, ↓e_cmp, ↓e_chn, ↓e_and, ↓e_or, ↓e_not, ↓e_ite, ↓e_tup, ↓e_lst, ↓e_ix, ↓e_sl, ↓e_rev, ↓e_call, ↓e_bi, ↓e_isi, ↓e_app, ↓e_ext, ↓e_pop, ↓e_comp, ↓es_nil, ↓es_cons, ↓if_nil, ↓if_cons, ↓o_no, ↓o_so, ↓s_ex', ↓s_ret', ↓s_retN', ↓s_asg', ↓s_sub', ↓s_aug', ↓s_iff', ↓s_whl', ↓s_for', ↓s_pass', ↓s_brk', ↓s_cont', ↓s_raise', ↓ss_nil', ↓ss_cons', ↓i_valE, ↓i_rng1E, ↓i_rng2E, ↓i_zipE, ↓i_enuE, ↓getK_s, ↓truK_t, ↓truK_f, ↓bK_s, ↓asgK_s, ↓atK_s, ↓seqK_s, ↓intsK_s, ↓blsK_s, ↓iteK_t, ↓iteK_f, ↓binD, ↓augD, ↓cmp_eq, ↓cmp_ne, ↓cmp_lt, ↓cmp_le, ↓cmp_gt, ↓cmp_ge, ↓cmp_is, ↓cmp_isn, ↓cmp_isN, ↓cmp_isnN, isNon, ↓ixD_int, ↓ixD_rod, atI0, atI1, atI2, atI3, ↓sl_tup, ↓sl_rol, ↓bi_len_tup, ↓bi_len_rol, ↓bi_len_ref, ↓bi_abs, ↓bi_int, ↓bi_intb, ↓bi_gcd, ↓bi_tup_tup, ↓bi_tup_rol, ↓bi_tup_ref, ↓bi_lst_tup, ↓bi_lst_rol, ↓bi_lst_ref, ↓bi_sum, ↓bi_sum_tup, ↓bi_sum_rol, ↓bi_all, ↓bi_any, ↓bi_max2, ↓bi_min2, tg_nm, tg_tp, tgsD, seqOf_tup, seqOf_rol, seqOf_up, seqL_rol, seqL_up', tru_non, tru_bl, tru_int, tru_tup, tru_rol, tru_up, ↓eq_int, isi_c, isi_int, isi_bl, isi_tup, isi_non, isi_str, isi_rol, tyN_up, tyN, List.getElem?_cons_zero, List.getElem?_cons_succ, List.set_cons_zero, List.set_cons_succ, permA, List.map_cons, List.map_nil, List.getD_cons_zero, List.getD_cons_succ, List.cons_append, List.nil_append, List.append_nil, List.replicate_succ, List.replicate_zero, RtP, ite_true, ite_false, if_true, if_false, Bool.false_eq_true, decide_true, decide_false, Bool.not_true, Bool.not_false, List.length_cons, List.length_nil, fr0, fmod_pos h1]
    exact ⟨.refl, trivial⟩
  · simp only [e, decide_false, ↓e_v, ↓e_c, ↓e_bin, ↓e_neg, ↓e_cmp, ↓e_chn, ↓e_and, ↓e_or, ↓e_not, ↓e_ite, ↓e_tup, ↓e_lst, ↓e_ix, ↓e_sl, ↓e_rev, ↓e_call, ↓e_bi, ↓e_isi, ↓e_app, ↓e_ext, ↓e_pop, ↓e_comp, ↓es_nil, ↓es_cons, ↓if_nil, ↓if_cons, ↓o_no, ↓o_so, ↓s_ex', ↓s_ret', ↓s_retN', ↓s_asg', ↓s_sub', ↓s_aug', ↓s_iff', ↓s_whl', ↓s_for', ↓s_pass', ↓s_brk', ↓s_cont', ↓s_raise', ↓ss_nil', ↓ss_cons', ↓i_valE, ↓i_rng1E, ↓i_rng2E, ↓i_zipE, ↓i_enuE, ↓getK_s, ↓truK_t, ↓truK_f, ↓bK_s, ↓asgK_s, ↓atK_s, ↓seqK_s, ↓intsK_s, ↓blsK_s, ↓iteK_t, ↓iteK_f, ↓binD, ↓augD, ↓cmp_eq, ↓cmp_ne, ↓cmp_lt, ↓cmp_le, ↓cmp_gt, ↓cmp_ge, ↓cmp_is, ↓cmp_isn, ↓cmp_isN, ↓cmp_isnN, isNon, ↓ixD_int, ↓ixD_rod, atI0, atI1, atI2, atI3, ↓sl_tup, ↓sl_rol, ↓bi_len_tup, ↓bi_len_rol, ↓bi_len_ref, ↓bi_abs, ↓bi_int, ↓bi_intb, ↓bi_gcd, ↓bi_tup_tup, ↓bi_tup_rol, ↓bi_tup_ref, ↓bi_lst_tup, ↓bi_lst_rol, ↓bi_lst_ref, ↓bi_sum, ↓bi_sum_tup, ↓bi_sum_rol, ↓bi_all, ↓bi_any, ↓bi_max2, ↓bi_min2, tg_nm, tg_tp, tgsD, seqOf_tup, seqOf_rol, seqOf_up, seqL_rol, seqL_up', tru_non, tru_bl, tru_int, tru_tup, tru_rol, tru_up, ↓eq_int, isi_c, isi_int, isi_bl, isi_tup, isi_non, isi_str, isi_rol, tyN_up, tyN, List.getElem?_cons_zero, List.getElem?_cons_succ, List.set_cons_zero, List.set_cons_succ, permA, List.map_cons, List.map_nil, List.getD_cons_zero, List.getD_cons_succ, List.cons_append, List.nil_append, List.append_nil, List.replicate_succ, List.replicate_zero, RtP, ite_true, ite_false, if_true, if_false, Bool.false_eq_true, decide_true, decide_false, Bool.not_true, Bool.not_false, List.length_cons, List.length_nil, hi, run_lowest, fmod_pos h1]
    refine ⟨.of_left (by decide), .of_left (by decide), ⟨by omega, (sz2.mul h2).mono (by decide)⟩, .refl, by first | trivial | rfl⟩
/-- numbers that saws take -/
def Sw (a b : Int) : Prop := -1000000000000 ≤ a ∧ a ≤ 1000000000000 ∧ 1 ≤ b ∧ b ≤ 1000000000000
def sp_sawtooth : Spec := pur (fun p : Int × Int => [.int p.1, .int p.2]) (fun p _ => Sw p.1 p.2) fun p => fr (toothQ p.1 p.2)
theorem run_sawtooth {a b : Int} {μ : Mu} {X : Str → Mu → Prop} {Q : QD} : runK sp_sawtooth [.int a, .int b] μ X Q ↔ Sw a b ∧ Q (fr (toothQ a b)) μ := pur_run inj_ii (a, b)
theorem Sw.sz {a b : Int} (h : Sw a b) : Sz 40 a ∧ Sz 40 b := by
  unfold Sw at h
  unfold Sz
  omega
theorem m_sawtooth {Φ : Nat → Spec} {i j : Nat} (hi : Φ i = sp_is_within) (hj : Φ j = sp_tooth) : Meets Φ 2 2 (b_sawtooth i j) sp_sawtooth := pur_meets inj_ii fun ⟨a, b⟩ μ h => by
  have hs := h.sz
  obtain ⟨h1, h2, h3, h4⟩ := h
  dsimp only at h1 h2 h3 h4 hs
  have e1 : (0 - 1000000000000 : Int) = -1000000000000 := rfl
  simp only [b_sawtooth, hi, hj, run_is_within, run_tooth, true_and, e1, decide_eq_true h1, decide_eq_true h2, decide_eq_true h3, decide_eq_true h4, Bool.and_self, Bool.not_true, ↓e_v, ↓e_c, ↓e_bin, ↓e_neg, ↓e_cmp, ↓e_chn, ↓e_and, ↓e_or, ↓e_not, ↓e_ite, ↓e_tup, ↓e_lst, ↓e_ix, ↓e_sl, ↓e_rev, ↓e_call, ↓e_bi, ↓e_isi, ↓e_app, ↓e_ext, ↓e_pop, ↓e_comp, ↓es_nil, ↓es_cons, ↓if_nil, ↓if_cons, ↓o_no, ↓o_so, ↓s_ex', ↓s_ret', ↓s_retN', ↓s_asg', ↓s_sub', ↓s_aug', ↓s_iff', ↓s_whl', ↓s_for', ↓s_pass', ↓s_brk', ↓s_cont', ↓s_raise', ↓ss_nil', ↓ss_cons', ↓i_valE, ↓i_rng1E, ↓i_rng2E, ↓i_zipE, ↓i_enuE, ↓getK_s, ↓truK_t, ↓truK_f, ↓bK_s, ↓asgK_s, ↓atK_s, ↓seqK_s, ↓intsK_s, ↓blsK_s, ↓iteK_t, ↓iteK_f, ↓binD, ↓augD, ↓cmp_eq, ↓cmp_ne, ↓cmp_lt, ↓cmp_le, ↓cmp_gt, ↓cmp_ge, ↓cmp_is, ↓cmp_isn, ↓cmp_isN, ↓cmp_isnN, isNon, ↓ixD_int, ↓ixD_rod, atI0, atI1, atI2, atI3, ↓sl_tup, ↓sl_rol, ↓bi_len_tup, ↓bi_len_rol, ↓bi_len_ref, ↓bi_abs, ↓bi_int, ↓bi_intb, ↓bi_gcd, ↓bi_tup_tup, ↓bi_tup_rol, ↓bi_tup_ref, ↓bi_lst_tup, ↓bi_lst_rol, ↓bi_lst_ref, ↓bi_sum, ↓bi_sum_tup, ↓bi_sum_rol, ↓bi_all, ↓bi_any, ↓bi_max2, ↓bi_min2, tg_nm, tg_tp, tgsD, seqOf_tup, seqOf_rol, seqOf_up, seqL_rol, seqL_up', tru_non, tru_bl, tru_int, tru_tup, tru_rol, tru_up, ↓eq_int, isi_c, isi_int, isi_bl, isi_tup, isi_non, isi_str, isi_rol, tyN_up, tyN, List.getElem?_cons_zero, List.getElem?_cons_succ, List.set_cons_zero, List.set_cons_succ, permA, List.map_cons, List.map_nil, List.getD_cons_zero, List.getD_cons_succ, List.cons_append, List.nil_append, List.append_nil, List.replicate_succ, List.replicate_zero, RtP, ite_true, ite_false, if_true, if_false, Bool.false_eq_true, decide_true, decide_false, Bool.not_true, Bool.not_false, List.length_cons, List.length_nil]
  exact ⟨⟨by omega, hs.2.mono (by decide)⟩, .refl, trivial⟩
def sp_sure_two : Spec := pur (fun p : Int × Int => [.int p.1, .int p.2]) (fun p _ => Sw p.1 p.2 ∧ Int.gcd p.1 p.2 = 1) fun p => .tup [.int p.1, .int p.2]
theorem run_sure_two {a b : Int} {μ : Mu} {X : Str → Mu → Prop} {Q : QD} : runK sp_sure_two [.int a, .int b] μ X Q ↔ (Sw a b ∧ Int.gcd a b = 1) ∧ Q (.tup [.int a, .int b]) μ := pur_run inj_ii (a, b)
theorem m_sure_two {Φ : Nat → Spec} {i : Nat} (hi : Φ i = sp_is_within) : Meets Φ 2 2 (b_sure_two i) sp_sure_two := pur_meets inj_ii fun ⟨a, b⟩ μ h => by
  obtain ⟨⟨h1, h2, h3, h4⟩, h5⟩ := h
  dsimp only at h1 h2 h3 h4 h5
  have e1 : (0 - 1000000000000 : Int) = -1000000000000 := rfl
  have e2 : decide (((1 : Nat) : Int) = 1) = true := rfl
  simp only [b_sure_two, hi, run_is_within, true_and, e1, e2, h5, decide_eq_true h1, decide_eq_true h2, decide_eq_true h3, decide_eq_true h4, Bool.and_self, Bool.not_true, ↓e_v, ↓e_c, ↓e_bin, ↓e_neg, ↓e_cmp, ↓e_chn, ↓e_and, ↓e_or, ↓e_not, ↓e_ite, ↓e_tup, ↓e_lst, ↓e_ix, ↓e_sl, ↓e_rev, ↓e_call, ↓e_bi, ↓e_isi, ↓e_app, ↓e_ext, ↓e_pop, ↓e_comp, ↓es_nil, ↓es_cons, ↓if_nil, ↓if_cons, ↓o_no, ↓o_so, ↓s_ex', ↓s_ret', ↓s_retN', ↓s_asg', ↓s_sub', ↓s_aug', ↓s_iff', ↓s_whl', ↓s_for', ↓s_pass', ↓s_brk', ↓s_cont', ↓s_raise', ↓ss_nil', ↓ss_cons', ↓i_valE, ↓i_rng1E, ↓i_rng2E, ↓i_zipE, ↓i_enuE, ↓getK_s, ↓truK_t, ↓truK_f, ↓bK_s, ↓asgK_s, ↓atK_s, ↓seqK_s, ↓intsK_s, ↓blsK_s, ↓iteK_t, ↓iteK_f, ↓binD, ↓augD, ↓cmp_eq, ↓cmp_ne, ↓cmp_lt, ↓cmp_le, ↓cmp_gt, ↓cmp_ge, ↓cmp_is, ↓cmp_isn, ↓cmp_isN, ↓cmp_isnN, isNon, ↓ixD_int, ↓ixD_rod, atI0, atI1, atI2, atI3, ↓sl_tup, ↓sl_rol, ↓bi_len_tup, ↓bi_len_rol, ↓bi_len_ref, ↓bi_abs, ↓bi_int, ↓bi_intb, ↓bi_gcd, ↓bi_tup_tup, ↓bi_tup_rol, ↓bi_tup_ref, ↓bi_lst_tup, ↓bi_lst_rol, ↓bi_lst_ref, ↓bi_sum, ↓bi_sum_tup, ↓bi_sum_rol, ↓bi_all, ↓bi_any, ↓bi_max2, ↓bi_min2, tg_nm, tg_tp, tgsD, seqOf_tup, seqOf_rol, seqOf_up, seqL_rol, seqL_up', tru_non, tru_bl, tru_int, tru_tup, tru_rol, tru_up, ↓eq_int, isi_c, isi_int, isi_bl, isi_tup, isi_non, isi_str, isi_rol, tyN_up, tyN, List.getElem?_cons_zero, List.getElem?_cons_succ, List.set_cons_zero, List.set_cons_succ, permA, List.map_cons, List.map_nil, List.getD_cons_zero, List.getD_cons_succ, List.cons_append, List.nil_append, List.append_nil, List.replicate_succ, List.replicate_zero, RtP, ite_true, ite_false, if_true, if_false, Bool.false_eq_true, decide_true, decide_false, Bool.not_true, Bool.not_false, List.length_cons, List.length_nil]
  exact ⟨by decide, .refl, trivial⟩
/-- one step of the saws -/
def partQ (near far : Int) : Rat := Rat.divInt (near * near + far * far + 1) (12 * near * far) + Rat.divInt (-1) 4
/-- the saws, by turning over -/
def sawE (near far : Nat) : Rat := if h : near = 0 then 0 else partQ near far - sawE (far % near) near
termination_by near
decreasing_by exact Nat.mod_lt _ (by omega)
theorem sawE0 {far : Nat} : sawE 0 far = 0 := by rw [sawE]; rfl
theorem sawE1 {near far : Nat} (h : near ≠ 0) : sawE near far = partQ near far - sawE (far % near) near := by rw [sawE]; exact dif_neg h
def sawQ (a b : Int) : Rat := sawE (a % b).toNat b.toNat
def sp_saw_in : Spec := pur (fun p : Int × Int => [.int p.1, .int p.2]) (fun p _ => 1 ≤ p.2 ∧ p.2 ≤ 1000000000000) fun p => fr (sawQ p.1 p.2)
theorem run_saw_in {a b : Int} {μ : Mu} {X : Str → Mu → Prop} {Q : QD} : runK sp_saw_in [.int a, .int b] μ X Q ↔ (1 ≤ b ∧ b ≤ 1000000000000) ∧ Q (fr (sawQ a b)) μ := pur_run inj_ii (a, b)
def sp_saw : Spec := pur (fun p : Int × Int => [.int p.1, .int p.2]) (fun p _ => Sw p.1 p.2 ∧ Int.gcd p.1 p.2 = 1) fun p => fr (sawQ p.1 p.2)
theorem run_saw {a b : Int} {μ : Mu} {X : Str → Mu → Prop} {Q : QD} : runK sp_saw [.int a, .int b] μ X Q ↔ (Sw a b ∧ Int.gcd a b = 1) ∧ Q (fr (sawQ a b)) μ := pur_run inj_ii (a, b)
theorem m_saw {Φ : Nat → Spec} {i j : Nat} (hi : Φ i = sp_sure_two) (hj : Φ j = sp_saw_in) : Meets Φ 2 4 (b_saw i j) sp_saw := pur_meets inj_ii fun ⟨a, b⟩ μ h => by
  simp only [b_saw, ↓e_v, ↓e_c, ↓e_bin, ↓e_neg, ↓e_cmp, ↓e_chn, ↓e_and, ↓e_or, ↓e_not, ↓e_ite, ↓e_tup, ↓e_lst, ↓e_ix, ↓e_sl, ↓e_rev, ↓e_call, ↓e_bi, ↓e_isi, ↓e_app, ↓e_ext, ↓e_pop, ↓e_comp, ↓es_nil, ↓es_cons, ↓if_nil, ↓if_cons, ↓o_no, ↓o_so, ↓s_ex', ↓s_ret', ↓s_retN', ↓s_asg', ↓s_sub', ↓s_aug', ↓s_iff', ↓s_whl', ↓s_for', ↓s_pass', ↓s_brk', ↓s_cont', ↓s_raise', ↓ss_nil', ↓ss_cons', ↓i_valE, ↓i_rng1E, ↓i_rng2E, ↓i_zipE, ↓i_enuE, ↓getK_s, ↓truK_t, ↓truK_f, ↓bK_s, ↓asgK_s, ↓atK_s, ↓seqK_s, ↓intsK_s, ↓blsK_s, ↓iteK_t, ↓iteK_f, ↓binD, ↓augD, ↓cmp_eq, ↓cmp_ne, ↓cmp_lt, ↓cmp_le, ↓cmp_gt, ↓cmp_ge, ↓cmp_is, ↓cmp_isn, ↓cmp_isN, ↓cmp_isnN, isNon, ↓ixD_int, ↓ixD_rod, atI0, atI1, atI2, atI3, ↓sl_tup, ↓sl_rol, ↓bi_len_tup, ↓bi_len_rol, ↓bi_len_ref, ↓bi_abs, ↓bi_int, ↓bi_intb, ↓bi_gcd, ↓bi_tup_tup, ↓bi_tup_rol, ↓bi_tup_ref, ↓bi_lst_tup, ↓bi_lst_rol, ↓bi_lst_ref, ↓bi_sum, ↓bi_sum_tup, ↓bi_sum_rol, ↓bi_all, ↓bi_any, ↓bi_max2, ↓bi_min2, tg_nm, tg_tp, tgsD, seqOf_tup, seqOf_rol, seqOf_up, seqL_rol, seqL_up', tru_non, tru_bl, tru_int, tru_tup, tru_rol, tru_up, ↓eq_int, isi_c, isi_int, isi_bl, isi_tup, isi_non, isi_str, isi_rol, tyN_up, tyN, List.getElem?_cons_zero, List.getElem?_cons_succ, List.set_cons_zero, List.set_cons_succ, permA, List.map_cons, List.map_nil, List.getD_cons_zero, List.getD_cons_succ, List.cons_append, List.nil_append, List.append_nil, List.replicate_succ, List.replicate_zero, RtP, ite_true, ite_false, if_true, if_false, Bool.false_eq_true, decide_true, decide_false, Bool.not_true, Bool.not_false, List.length_cons, List.length_nil, hi, hj, run_sure_two, run_saw_in]
  exact ⟨h, h.1.2.2, .refl, trivial⟩
theorem fr_int (s : Int) : D.tup [.int s, .int 1] = fr s := rfl
theorem fr_q4 : D.tup [.int (-1), .int 4] = fr (Rat.divInt (-1) 4) := by
  have e1 : (Rat.divInt (-1) 4).num = -1 := by decide +kernel
  have e2 : (Rat.divInt (-1) 4).den = 4 := by decide +kernel
  unfold fr
  rw [e1, e2]
  rfl
theorem szr_q4 : SzR 3 (Rat.divInt (-1) 4) := by decide +kernel
theorem sz_part {n f : Int} (h0 : 1 ≤ n) (h : n ≤ 1000000000000) (h1 : 1 ≤ f) (h2 : f ≤ 1000000000000) : (12 * n * f ≠ 0 ∧ Sz 84 (12 * n * f)) ∧ SzR 84 (Rat.divInt (n * n + f * f + 1) (12 * n * f)) := by
  have hn : Sz 40 n := by unfold Sz; omega
  have hf : Sz 40 f := by unfold Sz; omega
  have z : Sz 84 (12 * n * f) := ((show Sz 4 12 by decide).mul hn).mul hf
  refine ⟨⟨Int.mul_ne_zero (by omega) (by omega), z⟩, szR_divInt ?_ z (by decide)⟩
  have a1 := hn.mul hn
  have a2 := hf.mul hf
  unfold Sz at *
  omega
theorem m_saw_in {Φ : Nat → Spec} {i j l : Nat} (hi : Φ i = sp_added) (hj : Φ j = sp_lowest) (hl : Φ l = sp_times) : Meets Φ 2 7 (b_saw_in i j l) sp_saw_in := pur_meets inj_ii fun ⟨a, b⟩ μ h => by
  obtain ⟨h1, h2⟩ := h
  dsimp only at h1 h2
  have hb0 : (0 : Int) < b := by omega
  simp only [b_saw_in, ↓e_v, ↓e_c, ↓e_bin, ↓e_neg, ↓e_cmp, ↓e_chn, ↓e_and, ↓e_or, ↓e_not, ↓e_ite, ↓e_tup, ↓e_lst, ↓e_ix, ↓e_sl, ↓e_rev, ↓e_call, ↓e_bi, ↓e_isi, ↓e_app, ↓e_ext, ↓e_pop, ↓e_comp, ↓es_nil, ↓es_cons, ↓if_nil, ↓if_cons, ↓o_no, ↓o_so, ↓s_ex', ↓s_ret', ↓s_retN', ↓s_asg', ↓s_sub', ↓s_aug', ↓s_iff', ↓s_whl', ↓s_for', ↓s_pass', ↓s_brk', ↓s_cont', ↓s_raise', ↓ss_nil', ↓ss_cons', ↓i_valE, ↓i_rng1E, ↓i_rng2E, ↓i_zipE, ↓i_enuE, ↓getK_s, ↓truK_t, ↓truK_f, ↓bK_s, ↓asgK_s, ↓atK_s, ↓seqK_s, ↓intsK_s, ↓blsK_s, ↓iteK_t, ↓iteK_f, ↓binD, ↓augD, ↓cmp_eq, ↓cmp_ne, ↓cmp_lt, ↓cmp_le, ↓cmp_gt, ↓cmp_ge, ↓cmp_is, ↓cmp_isn, ↓cmp_isN, ↓cmp_isnN, isNon, ↓ixD_int, ↓ixD_rod, atI0, atI1, atI2, atI3, ↓sl_tup, ↓sl_rol, ↓bi_len_tup, ↓bi_len_rol, ↓bi_len_ref, ↓bi_abs, ↓bi_int, ↓bi_intb, ↓bi_gcd, ↓bi_tup_tup, ↓bi_tup_rol, ↓bi_tup_ref, ↓bi_lst_tup, ↓bi_lst_rol, ↓bi_lst_ref, ↓bi_sum, ↓bi_sum_tup, ↓bi_sum_rol, ↓bi_all, ↓bi_any, ↓bi_max2, ↓bi_min2, tg_nm, tg_tp, tgsD, seqOf_tup, seqOf_rol, seqOf_up, seqL_rol, seqL_up', tru_non, tru_bl, tru_int, tru_tup, tru_rol, tru_up, ↓eq_int, isi_c, isi_int, isi_bl, isi_tup, isi_non, isi_str, isi_rol, tyN_up, tyN, List.getElem?_cons_zero, List.getElem?_cons_succ, List.set_cons_zero, List.set_cons_succ, permA, List.map_cons, List.map_nil, List.getD_cons_zero, List.getD_cons_succ, List.cons_append, List.nil_append, List.append_nil, List.replicate_succ, List.replicate_zero, RtP, ite_true, ite_false, if_true, if_false, Bool.false_eq_true, decide_true, decide_false, Bool.not_true, Bool.not_false, List.length_cons, List.length_nil, fmod_pos hb0, fr0]
  refine ⟨by omega, by decide, ?_⟩
  refine whlW_ind (fun m ρ μ' => μ' = μ ∧ ∃ (f : Rat) (s : Int) (n g : Nat) (z : Option D) (k : Nat), ρ = [some (.int a), some (.int b), some (fr f), some (.int s), some (.int n), some (.int g), z] ∧ n = m ∧ n < g ∧ (g : Int) ≤ 1000000000000 ∧ (s = 1 ∨ s = -1) ∧ k ≤ 80 ∧ n * g < 2 ^ (80 - k) ∧ SzR (91 * k + 1) f ∧ f + s * sawE n g = sawQ a b) (a % b).toNat ?_ ?_
  · have e1 := Int.emod_nonneg a (show b ≠ 0 by omega)
    have e2 := Int.emod_lt_of_pos a hb0
    refine ⟨rfl, 0, 1, (a % b).toNat, b.toNat, none, 0, ?_, rfl, by omega, by omega, .inl rfl, by omega, ?_, ⟨by decide, by decide⟩, ?_⟩
    · rw [Int.toNat_of_nonneg e1, Int.toNat_of_nonneg (by omega)]
    · have : (a % b).toNat * b.toNat < 2 ^ 40 * 2 ^ 40 := Nat.mul_lt_mul'' (by omega) (by omega)
      simpa using this
    · unfold sawQ
      grind
  · rintro m ρ μ' ⟨rfl, f, s, n, g, z, k, rfl, rfl, hng, hg, hs, hk, hp, hz, hv⟩
    by_cases hn : n = 0
    · subst hn
      simp only [show decide ((0 : Int) < ((0 : Nat) : Int)) = false from rfl, ↓e_v, ↓e_c, ↓e_bin, ↓e_neg, ↓e_cmp, ↓e_chn, ↓e_and, ↓e_or, ↓e_not, ↓e_ite, ↓e_tup, ↓e_lst, ↓e_ix, ↓e_sl, ↓e_rev, ↓e_call, ↓e_bi, ↓e_isi, ↓e_app, ↓e_ext, ↓e_pop, ↓e_comp, ↓es_nil, ↓es_cons, ↓if_nil, ↓if_cons, ↓o_no, ↓o_so, ↓s_ex', ↓s_ret', ↓s_retN', ↓s_asg', ↓s_sub', ↓s_aug', ↓s_iff', ↓s_whl', ↓s_for', ↓s_pass', ↓s_brk', ↓s_cont', ↓s_raise', ↓ss_nil', ↓ss_cons', ↓i_valE, ↓i_rng1E, ↓i_rng2E, ↓i_zipE, ↓i_enuE, ↓getK_s, ↓truK_t, ↓truK_f, ↓bK_s, ↓asgK_s, ↓atK_s, ↓seqK_s, ↓intsK_s, ↓blsK_s, ↓iteK_t, ↓iteK_f, ↓binD, ↓augD, ↓cmp_eq, ↓cmp_ne, ↓cmp_lt, ↓cmp_le, ↓cmp_gt, ↓cmp_ge, ↓cmp_is, ↓cmp_isn, ↓cmp_isN, ↓cmp_isnN, isNon, ↓ixD_int, ↓ixD_rod, atI0, atI1, atI2, atI3, ↓sl_tup, ↓sl_rol, ↓bi_len_tup, ↓bi_len_rol, ↓bi_len_ref, ↓bi_abs, ↓bi_int, ↓bi_intb, ↓bi_gcd, ↓bi_tup_tup, ↓bi_tup_rol, ↓bi_tup_ref, ↓bi_lst_tup, ↓bi_lst_rol, ↓bi_lst_ref, ↓bi_sum, ↓bi_sum_tup, ↓bi_sum_rol, ↓bi_all, ↓bi_any, ↓bi_max2, ↓bi_min2, tg_nm, tg_tp, tgsD, seqOf_tup, seqOf_rol, seqOf_up, seqL_rol, seqL_up', tru_non, tru_bl, tru_int, tru_tup, tru_rol, tru_up, ↓eq_int, isi_c, isi_int, isi_bl, isi_tup, isi_non, isi_str, isi_rol, tyN_up, tyN, List.getElem?_cons_zero, List.getElem?_cons_succ, List.set_cons_zero, List.set_cons_succ, permA, List.map_cons, List.map_nil, List.getD_cons_zero, List.getD_cons_succ, List.cons_append, List.nil_append, List.append_nil, List.replicate_succ, List.replicate_zero, RtP, ite_true, ite_false, if_true, if_false, Bool.false_eq_true, decide_true, decide_false, Bool.not_true, Bool.not_false, List.length_cons, List.length_nil]
      refine ⟨.refl, ?_⟩
      rw [sawE0] at hv
      have e : f = sawQ a b := by grind
      rw [e]
    · have hn1 : (0 : Int) < n := by omega
      have hg1 : (0 : Int) < g := by omega
      have hk2 : k < 80 := by
        rcases Nat.lt_or_ge k 80 with q | q
        · exact q
        · have e : k = 80 := by omega
          subst e
          have : 1 ≤ n * g := Nat.mul_pos (by omega) (by omega)
          simp at hp
          omega
      obtain ⟨p1, p2⟩ := sz_part (n := n) (f := g) (by omega) (by omega) (by omega) hg
      have hs2 : SzR 2 (s : Rat) := by rcases hs with rfl | rfl <;> exact ⟨by decide, by decide⟩
      have p3 : SzR 88 (partQ n g) := (p2.add szr_q4).mono (by decide)
      have p4 : SzR 90 ((s : Rat) * partQ n g) := (hs2.mul p3).mono (by decide)
      have hsz : ∀ x y : Int, Sz 40 x → IntMulOk x y := fun x y hx => .of_left (Nat.le_trans hx.bits (by decide))
      have hzn : Sz 40 (n : Int) := by unfold Sz; omega
      have hzg : Sz 40 (g : Int) := by unfold Sz; omega
      simp only [decide_eq_true hn1, ↓e_v, ↓e_c, ↓e_bin, ↓e_neg, ↓e_cmp, ↓e_chn, ↓e_and, ↓e_or, ↓e_not, ↓e_ite, ↓e_tup, ↓e_lst, ↓e_ix, ↓e_sl, ↓e_rev, ↓e_call, ↓e_bi, ↓e_isi, ↓e_app, ↓e_ext, ↓e_pop, ↓e_comp, ↓es_nil, ↓es_cons, ↓if_nil, ↓if_cons, ↓o_no, ↓o_so, ↓s_ex', ↓s_ret', ↓s_retN', ↓s_asg', ↓s_sub', ↓s_aug', ↓s_iff', ↓s_whl', ↓s_for', ↓s_pass', ↓s_brk', ↓s_cont', ↓s_raise', ↓ss_nil', ↓ss_cons', ↓i_valE, ↓i_rng1E, ↓i_rng2E, ↓i_zipE, ↓i_enuE, ↓getK_s, ↓truK_t, ↓truK_f, ↓bK_s, ↓asgK_s, ↓atK_s, ↓seqK_s, ↓intsK_s, ↓blsK_s, ↓iteK_t, ↓iteK_f, ↓binD, ↓augD, ↓cmp_eq, ↓cmp_ne, ↓cmp_lt, ↓cmp_le, ↓cmp_gt, ↓cmp_ge, ↓cmp_is, ↓cmp_isn, ↓cmp_isN, ↓cmp_isnN, isNon, ↓ixD_int, ↓ixD_rod, atI0, atI1, atI2, atI3, ↓sl_tup, ↓sl_rol, ↓bi_len_tup, ↓bi_len_rol, ↓bi_len_ref, ↓bi_abs, ↓bi_int, ↓bi_intb, ↓bi_gcd, ↓bi_tup_tup, ↓bi_tup_rol, ↓bi_tup_ref, ↓bi_lst_tup, ↓bi_lst_rol, ↓bi_lst_ref, ↓bi_sum, ↓bi_sum_tup, ↓bi_sum_rol, ↓bi_all, ↓bi_any, ↓bi_max2, ↓bi_min2, tg_nm, tg_tp, tgsD, seqOf_tup, seqOf_rol, seqOf_up, seqL_rol, seqL_up', tru_non, tru_bl, tru_int, tru_tup, tru_rol, tru_up, ↓eq_int, isi_c, isi_int, isi_bl, isi_tup, isi_non, isi_str, isi_rol, tyN_up, tyN, List.getElem?_cons_zero, List.getElem?_cons_succ, List.set_cons_zero, List.set_cons_succ, permA, List.map_cons, List.map_nil, List.getD_cons_zero, List.getD_cons_succ, List.cons_append, List.nil_append, List.append_nil, List.replicate_succ, List.replicate_zero, RtP, ite_true, ite_false, if_true, if_false, Bool.false_eq_true, decide_true, decide_false, Bool.not_true, Bool.not_false, List.length_cons, List.length_nil, fr_int, fr_q4, fmod_pos hn1, hi, hj, hl, run_lowest, run_added, run_times]
      refine ⟨hsz _ _ hzn, hsz _ _ hzg, .of_left (by decide), .of_right (Nat.le_trans hzg.bits (by decide)), ⟨p1.1, p1.2.mono (by decide)⟩, by decide, ⟨84, 3, p2, szr_q4, by decide⟩, by decide, ⟨2, 88, hs2, p3, by decide⟩, ⟨91 * k + 1, 90, hz, p4, by omega⟩, by omega, by decide, ?_⟩
      refine ⟨g % n, Nat.mod_lt _ (by omega), trivial, f + s * partQ n g, 0 - s, g % n, n, some (fr (partQ n g)), k + 1, ?_, rfl, Nat.mod_lt _ (by omega), by omega, by omega, hk2, ?_, (hz.add p4).mono (by omega), ?_⟩
      · rfl
      · have e1 : g % n < n := Nat.mod_lt _ (by omega)
        have e2 : g % n + n ≤ g := by
          have := Nat.div_add_mod g n
          have h3 : 1 ≤ g / n := Nat.div_pos (by omega) (by omega)
          have h4 : n * 1 ≤ n * (g / n) := Nat.mul_le_mul_left n h3
          omega
        have e3 : 2 * (g % n * n) ≤ n * g := by
          have : (2 * (g % n)) * n ≤ g * n := Nat.mul_le_mul_right n (by omega)
          rw [Nat.mul_comm n g]
          rw [← Nat.mul_assoc]
          exact this
        have e4 : 2 ^ (80 - k) = 2 * 2 ^ (80 - (k + 1)) := by
          rw [show 80 - k = (80 - (k + 1)) + 1 by omega, Nat.pow_succ]
          omega
        omega
      · rw [← hv, sawE1 (near := n) (far := g) hn]
        have : ((0 - s : Int) : Rat) = -(s : Rat) := by rw [Int.zero_sub, Rat.intCast_neg]
        rw [this]
        grind
end LD
namespace LD
open PySem PySem.Spec PyProof.Rows L2
/-! ### what every law begins with -/
abbrev b__law_box (c0 : Int) : Ss := (.cons (.asg (.nm 2) (.ite (.cmp .Lt (.v 1) (.bi .len (.cons (.v 0) .nil))) (.ix (.v 0) (.v 1)) (.c (.int 0)))) (.cons (.ret (.lst (.cons (.bin .Mult (.bi .abs (.cons (.v 2) .nil)) (.bi .int (.cons (.cmp .GtE (.bi .abs (.cons (.v 2) .nil)) (.bin .Pow (.c (.int 10)) (.c (.int 18)))) .nil))) (.cons (.bin .Add (.bin .Add (.bin .Mod (.bi .int (.cons (.v 2) .nil)) (.c (.int 2305843009213693951))) (.bin .Mult (.c (.int 39373)) (.v 1))) (.c (.int c0))) (.cons (.c (.int 0)) .nil))))) .nil))
abbrev b__law_take : Ss := (.cons (.iff (.cmp .Gt (.ix (.v 0) (.c (.int 0))) (.c (.int 0))) (.cons (.asg (.nm 2) (.bin .Mod (.bi .int (.cons (.ix (.v 0) (.c (.int 0))) .nil)) (.v 1))) (.cons (.sub (.v 0) (.c (.int 0)) (.bin .FloorDiv (.ix (.v 0) (.c (.int 0))) (.v 1))) (.cons (.ret (.v 2)) .nil))) .nil) (.cons (.sub (.v 0) (.c (.int 2)) (.bin .Add (.ix (.v 0) (.c (.int 2))) (.c (.int 1)))) (.cons (.asg (.nm 3) (.bin .Mod (.bi .int (.cons (.bin .Mult (.bin .Add (.ix (.v 0) (.c (.int 1))) (.bin .Mult (.c (.int 48271)) (.ix (.v 0) (.c (.int 2))))) (.bin .Add (.c (.int 39373)) (.ix (.v 0) (.c (.int 2))))) .nil)) (.c (.int 2147483647)))) (.cons (.asg (.nm 4) (.bin .Add (.bin .Mod (.bi .int (.cons (.v 3) .nil)) (.c (.int 40009))) (.c (.int 7)))) (.cons (.asg (.nm 5) (.bin .Mod (.bi .int (.cons (.bin .Mult (.bin .Add (.bin .Add (.v 3) (.ix (.v 0) (.c (.int 2)))) (.bin .FloorDiv (.ix (.v 0) (.c (.int 1))) (.c (.int 1000003)))) (.v 4)) .nil)) (.c (.int 2147483629)))) (.cons (.ret (.bin .Mod (.bi .int (.cons (.bin .FloorDiv (.bin .Mod (.bi .int (.cons (.bin .Add (.bin .Mult (.v 5) (.c (.int 48271))) (.v 3)) .nil)) (.c (.int 2147483587))) (.c (.int 64))) .nil)) (.v 1))) .nil))))))
abbrev b__law_cells : Ss := (.cons (.asg (.nm 2) (.or (.bi .list (.cons (.sl (.v 0) .no (.so (.v 1))) .nil)) (.lst (.cons (.c (.int 0)) .nil)))) (.cons (.for (.tp (.cons (.nm 3) (.cons (.nm 4) .nil))) (.enu (.sl (.v 0) (.so (.v 1)) (.so (.c (.int 63))))) (.cons (.asg (.nm 5) (.bin .Mod (.bi .int (.cons (.v 3) .nil)) (.v 1))) (.cons (.sub (.v 2) (.v 5) (.bin .Add (.ix (.v 2) (.v 5)) (.bin .Mult (.v 4) (.bin .Add (.v 3) (.c (.int 2)))))) .nil))) (.cons (.ret (.v 2)) .nil)))
abbrev b__law_of (i__law_take : Nat) : Ss := (.cons (.ret (.ix (.v 1) (.call i__law_take (.cons (.v 0) (.cons (.bi .len (.cons (.v 1) .nil)) .nil)) .nil [0, 1]))) .nil)
theorem ixD_at {a : Addr} {xs : List D} {i : Int} {μ : Mu} {Q : QD} (h : μ a = some (.lst xs)) : ixD (.ref a) (.int i) μ Q = atK (atI xs i) fun d => Q d μ := by
  unfold ixD ixS seqOf
  simp only [h] <;> rfl
theorem ixD_up {a : Addr} {xs : List D} {i : Int} {μ : Mu} {Q : QD} : ixD (.ref a) (.int i) (up μ a (.lst xs)) Q = atK (atI xs i) fun d => Q d (up μ a (.lst xs)) := ixD_at up_same
theorem setD_at {a : Addr} {xs : List D} {k : Int} {j : Nat} {v : D} {μ : Mu} {Q : Mu → Prop} (h : μ a = some (.lst xs)) (hj : ixN xs.length k = some j) : setD (.ref a) (.int k) v μ Q = Q (up μ a (.lst (xs.set j v))) := by
  unfold setD
  simp only [h, hj]
theorem ixN_nat {n k : Nat} (h : k < n) : ixN n (k : Int) = some k := by
  unfold ixN
  rw [if_pos (by omega), if_pos (by omega)]
  rfl
def tin3 (t0 t1 t2 : Int) : MO := .lst [.int t0, .int t1, .int t2]
/-- the box of numbers to be drawn from: at most n were drawn behind the script's -/
def Tin (μ : Mu) (a : Addr) (n : Nat) : Prop := ∃ t0 t1 t2 : Int, μ a = some (tin3 t0 t1 t2) ∧ 0 ≤ t0 ∧ 0 ≤ t1 ∧ t1 < 2 ^ 63 ∧ 0 ≤ t2 ∧ t2 ≤ n
structure TkI where
  a : Addr
  b : Int
  t0 : Int
  t1 : Int
  t2 : Int
def TkI.args (i : TkI) : List D := [.ref i.a, .int i.b]
def TkI.pre (i : TkI) (μ : Mu) : Prop := μ i.a = some (tin3 i.t0 i.t1 i.t2) ∧ 0 ≤ i.t0 ∧ 0 ≤ i.t1 ∧ i.t1 < 2 ^ 63 ∧ 0 ≤ i.t2 ∧ i.t2 < 2 ^ 40 ∧ 1 ≤ i.b ∧ i.b < 2 ^ 62
def TkI.post (i : TkI) (μ : Mu) (d : D) (μ' : Mu) : Prop := ∃ r t0 t2 : Int, d = .int r ∧ 0 ≤ r ∧ r < i.b ∧ μ' = up μ i.a (tin3 t0 i.t1 t2) ∧ 0 ≤ t0 ∧ i.t2 ≤ t2 ∧ t2 ≤ i.t2 + 1
def sp_take : Spec := fam TkI.args TkI.pre TkI.post
theorem take_run {a : Addr} {b : Int} {n : Nat} {μ : Mu} {X : Str → Mu → Prop} {Q : QD} (t : Tin μ a n) (hn : n < 2 ^ 40) (h1 : 1 ≤ b) (h2 : b < 2 ^ 62) (q : ∀ (r : Int) (o : MO), 0 ≤ r → r < b → Tin (up μ a o) a (n + 1) → Q (.int r) (up μ a o)) : sp_take.run [.ref a, .int b] μ X Q := by
  obtain ⟨t0, t1, t2, e, g0, g1, g2, g3, g4⟩ := t
  refine fam_run (args := TkI.args) (pre := TkI.pre) (post := TkI.post) ⟨a, b, t0, t1, t2⟩ ⟨e, g0, g1, g2, g3, by dsimp only; omega, h1, h2⟩ fun d μ' h => ?_
  obtain ⟨r, s0, s2, rfl, k1, k2, rfl, k3, k4, k5⟩ := h
  dsimp only at k1 k2 k3 k4 k5
  exact q r _ k1 k2 ⟨s0, t1, s2, up_same, k3, g1, g2, by omega, by omega⟩
theorem sz_of {n : Nat} {x : Int} (h0 : -(2 ^ n : Nat) < x) (h1 : x < (2 ^ n : Nat)) : Sz n x := by unfold Sz; omega
theorem mul64 {x y : Int} (h : Sz 64 x) : IntMulOk x y := .of_left h.bits
theorem m_take {Φ : Nat → Spec} : Meets Φ 2 6 b__law_take sp_take := fam_meets (by
  rintro ⟨a, b, t0, t1, t2⟩ ⟨a', b', s0, s1, s2⟩ μ h hp hq
  unfold TkI.args at h
  injection h with h1 h2
  injection h2 with h2 _
  injection h1 with h1
  injection h2 with h2
  dsimp only at h1 h2
  subst h1 h2
  have e := hp.1.symm.trans hq.1
  unfold tin3 at e
  simp only [Option.some.injEq, MO.lst.injEq, List.cons.injEq, D.int.injEq] at e
  obtain ⟨rfl, rfl, rfl, _⟩ := e
  rfl) fun ⟨a, b, t0, t1, t2⟩ μ h => by
  obtain ⟨e, g0, g1, g2, g3, g4, g5, g6⟩ := h
  dsimp only at e g0 g1 g2 g3 g4 g5 g6
  have hb : (0 : Int) < b := by omega
  have hb0 : b ≠ 0 := by omega
  have hbl : b.natAbs.log2 < 9000 := Nat.lt_of_lt_of_le ((sz_of (n := 62) (by omega) (by omega)).log2 hb0) (by decide)
  have e3 : ixN [D.int t0, D.int t1, D.int t2].length 2 = some 2 := rfl
  have e4 : ixN [D.int t0, D.int t1, D.int t2].length 0 = some 0 := rfl
  unfold tin3 at e
  by_cases h0 : 0 < t0
  · simp only [TkI.args, b__law_take, h0, decide_true, ↓e_v, ↓e_c, ↓e_bin, ↓e_neg, ↓e_cmp, ↓e_chn, ↓e_and, ↓e_or, ↓e_not, ↓e_ite, ↓e_tup, ↓e_lst, ↓e_ix, ↓e_sl, ↓e_rev, ↓e_call, ↓e_bi, ↓e_isi, ↓e_app, ↓e_ext, ↓e_pop, ↓e_comp, ↓es_nil, ↓es_cons, ↓if_nil, ↓if_cons, ↓o_no, ↓o_so, ↓s_ex', ↓s_ret', ↓s_retN', ↓s_asg', ↓s_sub', ↓s_aug', ↓s_iff', ↓s_whl', ↓s_for', ↓s_pass', ↓s_brk', ↓s_cont', ↓s_raise', ↓ss_nil', ↓ss_cons', ↓i_valE, ↓i_rng1E, ↓i_rng2E, ↓i_zipE, ↓i_enuE, ↓getK_s, ↓truK_t, ↓truK_f, ↓bK_s, ↓asgK_s, ↓atK_s, ↓seqK_s, ↓intsK_s, ↓blsK_s, ↓iteK_t, ↓iteK_f, ↓binD, ↓augD, ↓cmp_eq, ↓cmp_ne, ↓cmp_lt, ↓cmp_le, ↓cmp_gt, ↓cmp_ge, ↓cmp_is, ↓cmp_isn, ↓cmp_isN, ↓cmp_isnN, isNon, ↓ixD_int, ↓ixD_rod, atI0, atI1, atI2, atI3, ↓sl_tup, ↓sl_rol, ↓bi_len_tup, ↓bi_len_rol, ↓bi_len_ref, ↓bi_abs, ↓bi_int, ↓bi_intb, ↓bi_gcd, ↓bi_tup_tup, ↓bi_tup_rol, ↓bi_tup_ref, ↓bi_lst_tup, ↓bi_lst_rol, ↓bi_lst_ref, ↓bi_sum, ↓bi_sum_tup, ↓bi_sum_rol, ↓bi_all, ↓bi_any, ↓bi_max2, ↓bi_min2, tg_nm, tg_tp, tgsD, seqOf_tup, seqOf_rol, seqOf_up, seqL_rol, seqL_up', tru_non, tru_bl, tru_int, tru_tup, tru_rol, tru_up, ↓eq_int, isi_c, isi_int, isi_bl, isi_tup, isi_non, isi_str, isi_rol, tyN_up, tyN, List.getElem?_cons_zero, List.getElem?_cons_succ, List.set_cons_zero, List.set_cons_succ, permA, List.map_cons, List.map_nil, List.getD_cons_zero, List.getD_cons_succ, List.cons_append, List.nil_append, List.append_nil, List.replicate_succ, List.replicate_zero, RtP, ite_true, ite_false, if_true, if_false, Bool.false_eq_true, decide_true, decide_false, Bool.not_true, Bool.not_false, List.length_cons, List.length_nil, ↓ixD_at e, ↓setD_at e e4, fmod_pos hb]
    refine ⟨hb0, ⟨hb0, hbl⟩, ?_⟩
    refine ⟨_, .refl, ⟨t0 % b, t0.fdiv b, t2, rfl, Int.emod_nonneg _ hb0, Int.emod_lt_of_pos _ hb, rfl, ?_, Int.le_refl _, by dsimp only; omega⟩⟩
    rw [Int.fdiv_eq_ediv_of_nonneg _ (by omega)]
    exact Int.ediv_nonneg g0 (by omega)
  · simp only [TkI.args, b__law_take, h0, decide_false, ↓e_v, ↓e_c, ↓e_bin, ↓e_neg, ↓e_cmp, ↓e_chn, ↓e_and, ↓e_or, ↓e_not, ↓e_ite, ↓e_tup, ↓e_lst, ↓e_ix, ↓e_sl, ↓e_rev, ↓e_call, ↓e_bi, ↓e_isi, ↓e_app, ↓e_ext, ↓e_pop, ↓e_comp, ↓es_nil, ↓es_cons, ↓if_nil, ↓if_cons, ↓o_no, ↓o_so, ↓s_ex', ↓s_ret', ↓s_retN', ↓s_asg', ↓s_sub', ↓s_aug', ↓s_iff', ↓s_whl', ↓s_for', ↓s_pass', ↓s_brk', ↓s_cont', ↓s_raise', ↓ss_nil', ↓ss_cons', ↓i_valE, ↓i_rng1E, ↓i_rng2E, ↓i_zipE, ↓i_enuE, ↓getK_s, ↓truK_t, ↓truK_f, ↓bK_s, ↓asgK_s, ↓atK_s, ↓seqK_s, ↓intsK_s, ↓blsK_s, ↓iteK_t, ↓iteK_f, ↓binD, ↓augD, ↓cmp_eq, ↓cmp_ne, ↓cmp_lt, ↓cmp_le, ↓cmp_gt, ↓cmp_ge, ↓cmp_is, ↓cmp_isn, ↓cmp_isN, ↓cmp_isnN, isNon, ↓ixD_int, ↓ixD_rod, atI0, atI1, atI2, atI3, ↓sl_tup, ↓sl_rol, ↓bi_len_tup, ↓bi_len_rol, ↓bi_len_ref, ↓bi_abs, ↓bi_int, ↓bi_intb, ↓bi_gcd, ↓bi_tup_tup, ↓bi_tup_rol, ↓bi_tup_ref, ↓bi_lst_tup, ↓bi_lst_rol, ↓bi_lst_ref, ↓bi_sum, ↓bi_sum_tup, ↓bi_sum_rol, ↓bi_all, ↓bi_any, ↓bi_max2, ↓bi_min2, tg_nm, tg_tp, tgsD, seqOf_tup, seqOf_rol, seqOf_up, seqL_rol, seqL_up', tru_non, tru_bl, tru_int, tru_tup, tru_rol, tru_up, ↓eq_int, isi_c, isi_int, isi_bl, isi_tup, isi_non, isi_str, isi_rol, tyN_up, tyN, List.getElem?_cons_zero, List.getElem?_cons_succ, List.set_cons_zero, List.set_cons_succ, permA, List.map_cons, List.map_nil, List.getD_cons_zero, List.getD_cons_succ, List.cons_append, List.nil_append, List.append_nil, List.replicate_succ, List.replicate_zero, RtP, ite_true, ite_false, if_true, if_false, Bool.false_eq_true, decide_true, decide_false, Bool.not_true, Bool.not_false, List.length_cons, List.length_nil, ↓ixD_at e, ↓setD_at e e3, ↓ixD_up, fmod_pos (show (0 : Int) < 2147483647 by decide), fmod_pos (show (0 : Int) < 40009 by decide), fmod_pos (show (0 : Int) < 2147483629 by decide), fmod_pos (show (0 : Int) < 2147483587 by decide), fmod_pos hb]
    have m1 : IntMulOk 48271 (t2 + 1) := mul64 (by decide)
    have m2 : IntMulOk (t1 + 48271 * (t2 + 1)) (39373 + (t2 + 1)) := .of_right (Nat.le_trans (sz_of (n := 42) (by omega) (by omega)).bits (by decide))
    refine ⟨m1, m2, by decide, by decide, ⟨by decide, by decide⟩, .of_right ?_, by decide, .of_right ?_, by decide, ⟨by decide, by decide⟩, hb0, ?_⟩
    · exact Nat.le_trans (sz_of (n := 62) (by omega) (by omega)).bits (by decide)
    · exact Nat.le_trans (sz_of (n := 62) (by omega) (by omega)).bits (by decide)
    · exact ⟨_, .refl, ⟨_, t0, t2 + 1, rfl, Int.emod_nonneg _ hb0, Int.emod_lt_of_pos _ hb, rfl, g0, by dsimp only; omega, by dsimp only; omega⟩⟩
/-- the cells' first number drawn into a box -/
structure BxI where
  p : Addr
  x : Int
  xs : List Int
def BxI.pre (i : BxI) (μ : Mu) : Prop := μ i.p = some (.lst (.int i.x :: i.xs.map D.int)) ∧ Sz 2097152 i.x
def sp_box : Spec := fam (fun i : BxI => [.ref i.p, .int 0]) BxI.pre fun _ μ d μ' => ∃ b t0 t1, d = .ref b ∧ μ b = none ∧ μ' = up μ b (tin3 t0 t1 0) ∧ 0 ≤ t0 ∧ 0 ≤ t1 ∧ t1 < 2 ^ 63
theorem box_run {p : Addr} {x : Int} {xs : List Int} {μ : Mu} {X : Str → Mu → Prop} {Q : QD} (h : μ p = some (.lst (.int x :: xs.map D.int))) (hz : Sz 2097152 x) (q : ∀ (b : Addr) (o : MO), μ b = none → Tin (up μ b o) b 0 → Q (.ref b) (up μ b o)) : sp_box.run [.ref p, .int 0] μ X Q := by
  refine fam_run (args := fun i : BxI => [.ref i.p, .int 0]) (pre := BxI.pre) ⟨p, x, xs⟩ ⟨h, hz⟩ fun d μ' h => ?_
  obtain ⟨b, t0, t1, rfl, hb, rfl, h0, h1, h2⟩ := h
  exact q b _ hb ⟨t0, t1, 0, up_same, h0, h1, h2, Int.le_refl _, Int.le_refl _⟩
theorem map_int_inj {xs ys : List Int} (h : xs.map D.int = ys.map D.int) : xs = ys := by
  have := congrArg intsOf h
  rw [intsOf_map, intsOf_map] at this
  exact Option.some.inj this
theorem m_box {Φ : Nat → Spec} {c0 : Int} (hc0 : 0 ≤ c0) (hc1 : c0 < 2 ^ 62) : Meets Φ 2 3 (b__law_box c0) sp_box := fam_meets (by
  rintro ⟨p, x, xs⟩ ⟨p', x', xs'⟩ μ h hp hq
  injection h with h1 h2
  injection h1 with h1
  dsimp only at h1
  subst h1
  have e := hp.1.symm.trans hq.1
  simp only [Option.some.injEq, MO.lst.injEq, List.cons.injEq, D.int.injEq] at e
  obtain ⟨rfl, e⟩ := e
  rw [map_int_inj e]) fun ⟨p, x, xs⟩ μ h => by
  obtain ⟨e, hz⟩ := h
  dsimp only at e hz
  have hl2 : (0 : Int) < (((xs.map D.int).length + 1 : Nat) : Int) := by omega
  simp only [b__law_box, decide_eq_true hl2, ↓e_v, ↓e_c, ↓e_bin, ↓e_neg, ↓e_cmp, ↓e_chn, ↓e_and, ↓e_or, ↓e_not, ↓e_ite, ↓e_tup, ↓e_lst, ↓e_ix, ↓e_sl, ↓e_rev, ↓e_call, ↓e_bi, ↓e_isi, ↓e_app, ↓e_ext, ↓e_pop, ↓e_comp, ↓es_nil, ↓es_cons, ↓if_nil, ↓if_cons, ↓o_no, ↓o_so, ↓s_ex', ↓s_ret', ↓s_retN', ↓s_asg', ↓s_sub', ↓s_aug', ↓s_iff', ↓s_whl', ↓s_for', ↓s_pass', ↓s_brk', ↓s_cont', ↓s_raise', ↓ss_nil', ↓ss_cons', ↓i_valE, ↓i_rng1E, ↓i_rng2E, ↓i_zipE, ↓i_enuE, ↓getK_s, ↓truK_t, ↓truK_f, ↓bK_s, ↓asgK_s, ↓atK_s, ↓seqK_s, ↓intsK_s, ↓blsK_s, ↓iteK_t, ↓iteK_f, ↓binD, ↓augD, ↓cmp_eq, ↓cmp_ne, ↓cmp_lt, ↓cmp_le, ↓cmp_gt, ↓cmp_ge, ↓cmp_is, ↓cmp_isn, ↓cmp_isN, ↓cmp_isnN, isNon, ↓ixD_int, ↓ixD_rod, atI0, atI1, atI2, atI3, ↓sl_tup, ↓sl_rol, ↓bi_len_tup, ↓bi_len_rol, ↓bi_len_ref, ↓bi_abs, ↓bi_int, ↓bi_intb, ↓bi_gcd, ↓bi_tup_tup, ↓bi_tup_rol, ↓bi_tup_ref, ↓bi_lst_tup, ↓bi_lst_rol, ↓bi_lst_ref, ↓bi_sum, ↓bi_sum_tup, ↓bi_sum_rol, ↓bi_all, ↓bi_any, ↓bi_max2, ↓bi_min2, tg_nm, tg_tp, tgsD, seqOf_tup, seqOf_rol, seqOf_up, seqL_rol, seqL_up', tru_non, tru_bl, tru_int, tru_tup, tru_rol, tru_up, ↓eq_int, isi_c, isi_int, isi_bl, isi_tup, isi_non, isi_str, isi_rol, tyN_up, tyN, List.getElem?_cons_zero, List.getElem?_cons_succ, List.set_cons_zero, List.set_cons_succ, permA, List.map_cons, List.map_nil, List.getD_cons_zero, List.getD_cons_succ, List.cons_append, List.nil_append, List.append_nil, List.replicate_succ, List.replicate_zero, RtP, ite_true, ite_false, if_true, if_false, Bool.false_eq_true, decide_true, decide_false, Bool.not_true, Bool.not_false, List.length_cons, List.length_nil, seqOf_ref e, ↓ixD_at e, fmod_pos (show (0 : Int) < 2305843009213693951 by decide)]
  have hmod := Int.emod_nonneg x (show (2305843009213693951 : Int) ≠ 0 by decide)
  have hmod2 := Int.emod_lt_of_pos x (show (0 : Int) < 2305843009213693951 by decide)
  refine ⟨⟨by decide, by decide, by decide⟩, .of_right ?_, by decide, .of_left (by decide), by decide, ?_⟩
  · split <;> decide
  · intro b hb
    refine ⟨_, .refl, b, _, _, rfl, hb, rfl, ?_, by omega, by omega⟩
    refine Int.mul_nonneg (by omega) ?_
    split <;> decide
/-- one of some goods -/
structure OfI where
  a : Addr
  g : Addr
  xs : List D
  t0 : Int
  t1 : Int
  t2 : Int
def OfI.pre (i : OfI) (μ : Mu) : Prop := μ i.a = some (tin3 i.t0 i.t1 i.t2) ∧ 0 ≤ i.t0 ∧ 0 ≤ i.t1 ∧ i.t1 < 2 ^ 63 ∧ 0 ≤ i.t2 ∧ i.t2 < 2 ^ 40 - 1 ∧ μ i.g = some (.lst i.xs) ∧ i.g ≠ i.a ∧ 0 < i.xs.length ∧ i.xs.length < 2 ^ 62
def OfI.post (i : OfI) (μ : Mu) (d : D) (μ' : Mu) : Prop := ∃ t0 t2 : Int, d ∈ i.xs ∧ μ' = up μ i.a (tin3 t0 i.t1 t2) ∧ 0 ≤ t0 ∧ i.t2 ≤ t2 ∧ t2 ≤ i.t2 + 1
def sp_of : Spec := fam (fun i : OfI => [.ref i.a, .ref i.g]) OfI.pre OfI.post
theorem of_run {a g : Addr} {xs : List D} {n : Nat} {μ : Mu} {X : Str → Mu → Prop} {Q : QD} (t : Tin μ a n) (hn : n < 2 ^ 40 - 1) (h : μ g = some (.lst xs)) (hg : g ≠ a) (h0 : 0 < xs.length) (h1 : xs.length < 2 ^ 62) (q : ∀ (d : D) (o : MO), d ∈ xs → Tin (up μ a o) a (n + 1) → Q d (up μ a o)) : sp_of.run [.ref a, .ref g] μ X Q := by
  obtain ⟨t0, t1, t2, e, g0, g1, g2, g3, g4⟩ := t
  refine fam_run (args := fun i : OfI => [.ref i.a, .ref i.g]) (pre := OfI.pre) (post := OfI.post) ⟨a, g, xs, t0, t1, t2⟩ ⟨e, g0, g1, g2, g3, by dsimp only; omega, h, hg, h0, h1⟩ fun d μ' h => ?_
  obtain ⟨s0, s2, k0, rfl, k3, k4, k5⟩ := h
  dsimp only at k0 k3 k4 k5
  exact q d _ k0 ⟨s0, t1, s2, up_same, k3, g1, g2, by omega, by omega⟩
theorem m_of {Φ : Nat → Spec} {i : Nat} (hi : Φ i = sp_take) : Meets Φ 2 2 (b__law_of i) sp_of := fam_meets (by
  rintro ⟨a, g, xs, t0, t1, t2⟩ ⟨a', g', xs', s0, s1, s2⟩ μ h hp hq
  injection h with h1 h2
  injection h2 with h2 _
  injection h1 with h1
  injection h2 with h2
  dsimp only at h1 h2
  subst h1 h2
  have e := hp.1.symm.trans hq.1
  have e2 := hp.2.2.2.2.2.2.1.symm.trans hq.2.2.2.2.2.2.1
  unfold tin3 at e
  simp only [Option.some.injEq, MO.lst.injEq, List.cons.injEq, D.int.injEq] at e e2
  obtain ⟨rfl, rfl, rfl, _⟩ := e
  subst e2
  rfl) fun ⟨a, g, xs, t0, t1, t2⟩ μ h => by
  obtain ⟨e, g0, g1, g2, g3, g4, e2, hg, h0, h1⟩ := h
  dsimp only at e g0 g1 g2 g3 g4 e2 hg h0 h1
  simp only [b__law_of, ↓e_v, ↓e_c, ↓e_bin, ↓e_neg, ↓e_cmp, ↓e_chn, ↓e_and, ↓e_or, ↓e_not, ↓e_ite, ↓e_tup, ↓e_lst, ↓e_ix, ↓e_sl, ↓e_rev, ↓e_call, ↓e_bi, ↓e_isi, ↓e_app, ↓e_ext, ↓e_pop, ↓e_comp, ↓es_nil, ↓es_cons, ↓if_nil, ↓if_cons, ↓o_no, ↓o_so, ↓s_ex', ↓s_ret', ↓s_retN', ↓s_asg', ↓s_sub', ↓s_aug', ↓s_iff', ↓s_whl', ↓s_for', ↓s_pass', ↓s_brk', ↓s_cont', ↓s_raise', ↓ss_nil', ↓ss_cons', ↓i_valE, ↓i_rng1E, ↓i_rng2E, ↓i_zipE, ↓i_enuE, ↓getK_s, ↓truK_t, ↓truK_f, ↓bK_s, ↓asgK_s, ↓atK_s, ↓seqK_s, ↓intsK_s, ↓blsK_s, ↓iteK_t, ↓iteK_f, ↓binD, ↓augD, ↓cmp_eq, ↓cmp_ne, ↓cmp_lt, ↓cmp_le, ↓cmp_gt, ↓cmp_ge, ↓cmp_is, ↓cmp_isn, ↓cmp_isN, ↓cmp_isnN, isNon, ↓ixD_int, ↓ixD_rod, atI0, atI1, atI2, atI3, ↓sl_tup, ↓sl_rol, ↓bi_len_tup, ↓bi_len_rol, ↓bi_len_ref, ↓bi_abs, ↓bi_int, ↓bi_intb, ↓bi_gcd, ↓bi_tup_tup, ↓bi_tup_rol, ↓bi_tup_ref, ↓bi_lst_tup, ↓bi_lst_rol, ↓bi_lst_ref, ↓bi_sum, ↓bi_sum_tup, ↓bi_sum_rol, ↓bi_all, ↓bi_any, ↓bi_max2, ↓bi_min2, tg_nm, tg_tp, tgsD, seqOf_tup, seqOf_rol, seqOf_up, seqL_rol, seqL_up', tru_non, tru_bl, tru_int, tru_tup, tru_rol, tru_up, ↓eq_int, isi_c, isi_int, isi_bl, isi_tup, isi_non, isi_str, isi_rol, tyN_up, tyN, List.getElem?_cons_zero, List.getElem?_cons_succ, List.set_cons_zero, List.set_cons_succ, permA, List.map_cons, List.map_nil, List.getD_cons_zero, List.getD_cons_succ, List.cons_append, List.nil_append, List.append_nil, List.replicate_succ, List.replicate_zero, RtP, ite_true, ite_false, if_true, if_false, Bool.false_eq_true, decide_true, decide_false, Bool.not_true, Bool.not_false, List.length_cons, List.length_nil, seqOf_ref e2, hi]
  refine fam_run (args := TkI.args) (pre := TkI.pre) (post := TkI.post) ⟨a, xs.length, t0, t1, t2⟩ ⟨e, g0, g1, g2, g3, by dsimp only; omega, by dsimp only; omega, by dsimp only; omega⟩ fun d μ' h => ?_
  obtain ⟨r, s0, s2, rfl, k1, k2, rfl, k3, k4, k5⟩ := h
  dsimp only at k1 k2 k3 k4 k5
  rw [ixD_at (xs := xs) (by rw [up_ne hg]; exact e2)]
  have hr : r = ((r.toNat : Nat) : Int) := by omega
  rw [hr, atI_nat (by omega), List.getElem?_eq_getElem (by omega)]
  exact ⟨_, .refl, s0, s2, List.getElem_mem _, rfl, k3, k4, k5⟩
/-! ### the cells -/
structure CeI where
  d : D
  ns : List Int
  m : Nat
def CeI.pre (i : CeI) (μ : Mu) : Prop := seqL i.d μ = some (i.ns.map D.int) ∧ i.ns.length ≤ 63 ∧ (∀ z ∈ i.ns, Sz 1048576 z) ∧ 1 ≤ i.m ∧ i.m ≤ 63
def sp_cells : Spec := fam (fun i : CeI => [i.d, .int i.m]) CeI.pre fun i μ d μ' => ∃ p x xs, d = .ref p ∧ μ p = none ∧ μ' = up μ p (.lst (.int x :: xs.map D.int)) ∧ xs.length < i.m ∧ ∀ z ∈ x :: xs, Sz 2097152 z
theorem cells_run {d : D} {ns : List Int} {m : Nat} {μ : Mu} {X : Str → Mu → Prop} {Q : QD} (h : seqL d μ = some (ns.map D.int)) (h1 : ns.length ≤ 63) (h2 : ∀ z ∈ ns, Sz 1048576 z) (h3 : 1 ≤ m) (h4 : m ≤ 63) (q : ∀ p x xs, μ p = none → xs.length < m → (∀ z ∈ x :: xs, Sz 2097152 z) → Q (.ref p) (up μ p (.lst (.int x :: xs.map D.int)))) : sp_cells.run [d, .int m] μ X Q := by
  refine fam_run (args := fun i : CeI => [i.d, .int i.m]) (pre := CeI.pre) ⟨d, ns, m⟩ ⟨h, h1, h2, h3, h4⟩ fun d μ' h => ?_
  obtain ⟨p, x, xs, rfl, hp, rfl, hl, hz⟩ := h
  exact q p x xs hp hl hz
theorem cutD_map {α β : Type} (f : α → β) (xs : List α) (lo hi : Option Int) : cutD (xs.map f) lo hi = (cutD xs lo hi).map f := by
  unfold cutD
  rw [List.length_map, List.map_take, List.map_drop]
theorem cutD_hi {α : Type} (xs : List α) (m : Nat) : cutD xs none (some (m : Int)) = xs.take m := by
  unfold cutD
  rw [HT.sIx_none, HT.sIx_nat, List.drop_zero, Nat.sub_zero, ← List.take_take, List.take_length]
theorem cutD_lo {α : Type} (xs : List α) (m k : Nat) (h : xs.length ≤ k) : cutD xs (some (m : Int)) (some (k : Int)) = xs.drop m := by
  unfold cutD
  rw [HT.sIx_nat, HT.sIx_nat]
  rcases Nat.le_total m xs.length with q | q
  · rw [Nat.min_eq_left q, Nat.min_eq_right h]
    exact List.take_of_length_le (by rw [List.length_drop]; omega)
  · rw [Nat.min_eq_right q, List.drop_length, List.drop_of_length_le q, List.take_nil]
end LD
namespace LD
open PySem PySem.Spec PyProof.Rows L2
def b_cells_tail : Ss := (.cons (.for (.tp (.cons (.nm 3) (.cons (.nm 4) .nil))) (.enu (.sl (.v 0) (.so (.v 1)) (.so (.c (.int 63))))) (.cons (.asg (.nm 5) (.bin .Mod (.bi .int (.cons (.v 3) .nil)) (.v 1))) (.cons (.sub (.v 2) (.v 5) (.bin .Add (.ix (.v 2) (.v 5)) (.bin .Mult (.v 4) (.bin .Add (.v 3) (.c (.int 2)))))) .nil))) (.cons (.ret (.v 2)) .nil))
theorem sl_lst {d : D} {xs : List D} {lo hi : Option Int} {μ : Mu} {Q : QD} (h : seqL d μ = some xs) (q : newL (cutD xs lo hi) μ Q) : slD d lo hi μ Q := by
  cases d with
  | rol ys =>
    cases h
    exact q
  | ref a =>
    unfold seqL seqOf at h
    dsimp only at h
    unfold slD
    dsimp only
    split at h
    · rename_i ys e
      cases h
      exact q
    · cases h
  | tup ys => cases h
  | _ => cases h
@[irreducible] def big : Nat := 2 ^ 1048584
theorem lt_big {x : Int} {n : Nat} (h : Sz n x) (hn : n ≤ 1048584) : x.natAbs < big := by
  unfold big
  exact Nat.lt_of_lt_of_le h (Nat.pow_le_pow_right (by decide) hn)
theorem pow64 (n : Nat) : 64 * 2 ^ n = 2 ^ (6 + n) := by
  rw [Nat.pow_add]
theorem sz_big {x : Int} (h : x.natAbs < 64 * big) : Sz 2097152 x := by
  unfold big at h
  rw [pow64] at h
  exact Nat.lt_of_lt_of_le h (Nat.pow_le_pow_right (by decide) (by decide))
theorem enuL_cons {i : Nat} {x : D} {xs : List D} : enuL i (x :: xs) = .tup [.int (i : Int), x] :: enuL (i + 1) xs := rfl
theorem cells_tail {Φ : Nat → Spec} {d : D} {ns : List Int} {m : Nat} {B : Mu} {p : Addr} {xs0 : List Int} {C : DE} (hd : seqL d B = some (ns.map D.int)) (hns : ns.length ≤ 63) (hz : ∀ z ∈ ns, Sz 1048576 z) (h1 : 1 ≤ m) (h2 : m ≤ 63) (hp : B p = some (.lst (xs0.map D.int)))
    (hx : ∀ z ∈ xs0, Sz 1048576 z) (hl : xs0.length = m ∨ ns.length ≤ m)
    (q : ∀ (μ1 : Mu) (xs : List Int), xs.length = xs0.length → (∀ z ∈ xs, Sz 2097152 z) → μ1 p = some (.lst (xs.map D.int)) → (∀ a o, a ≠ p → B a = some o → μ1 a = some o) → C.rt (.ref p) μ1) :
    wpSs Φ b_cells_tail C [some d, some (.int m), some (.ref p), none, none, none] B := by
  simp only [b_cells_tail, ↓e_v, ↓e_c, ↓e_bin, ↓e_neg, ↓e_cmp, ↓e_chn, ↓e_and, ↓e_or, ↓e_not, ↓e_ite, ↓e_tup, ↓e_lst, ↓e_ix, ↓e_sl, ↓e_rev, ↓e_call, ↓e_bi, ↓e_isi, ↓e_app, ↓e_ext, ↓e_pop, ↓e_comp, ↓es_nil, ↓es_cons, ↓if_nil, ↓if_cons, ↓o_no, ↓o_so, ↓s_ex', ↓s_ret', ↓s_retN', ↓s_asg', ↓s_sub', ↓s_aug', ↓s_iff', ↓s_whl', ↓s_for', ↓s_pass', ↓s_brk', ↓s_cont', ↓s_raise', ↓ss_nil', ↓ss_cons', ↓i_valE, ↓i_rng1E, ↓i_rng2E, ↓i_zipE, ↓i_enuE, ↓getK_s, ↓truK_t, ↓truK_f, ↓bK_s, ↓asgK_s, ↓atK_s, ↓seqK_s, ↓intsK_s, ↓blsK_s, ↓iteK_t, ↓iteK_f, ↓binD, ↓augD, ↓cmp_eq, ↓cmp_ne, ↓cmp_lt, ↓cmp_le, ↓cmp_gt, ↓cmp_ge, ↓cmp_is, ↓cmp_isn, ↓cmp_isN, ↓cmp_isnN, isNon, ↓ixD_int, ↓ixD_rod, atI0, atI1, atI2, atI3, ↓sl_tup, ↓sl_rol, ↓bi_len_tup, ↓bi_len_rol, ↓bi_len_ref, ↓bi_abs, ↓bi_int, ↓bi_intb, ↓bi_gcd, ↓bi_tup_tup, ↓bi_tup_rol, ↓bi_tup_ref, ↓bi_lst_tup, ↓bi_lst_rol, ↓bi_lst_ref, ↓bi_sum, ↓bi_sum_tup, ↓bi_sum_rol, ↓bi_all, ↓bi_any, ↓bi_max2, ↓bi_min2, tg_nm, tg_tp, tgsD, seqOf_tup, seqOf_rol, seqOf_up, seqL_rol, seqL_up', tru_non, tru_bl, tru_int, tru_tup, tru_rol, tru_up, ↓eq_int, isi_c, isi_int, isi_bl, isi_tup, isi_non, isi_str, isi_rol, tyN_up, tyN, List.getElem?_cons_zero, List.getElem?_cons_succ, List.set_cons_zero, List.set_cons_succ, permA, List.map_cons, List.map_nil, List.getD_cons_zero, List.getD_cons_succ, List.cons_append, List.nil_append, List.append_nil, List.replicate_succ, List.replicate_zero, RtP, ite_true, ite_false, if_true, if_false, Bool.false_eq_true, decide_true, decide_false, Bool.not_true, Bool.not_false, List.length_cons, List.length_nil]
  refine sl_lst hd ?_
  have e63 : (63 : Int) = ((63 : Nat) : Int) := rfl
  rw [e63, cutD_map, cutD_lo ns m 63 hns]
  intro r hr
  have hrp : r ≠ p := by
    intro e
    rw [e, hp] at hr
    cases hr
  have hpr : p ≠ r := fun e => hrp e.symm
  simp only [↓e_v, ↓e_c, ↓e_bin, ↓e_neg, ↓e_cmp, ↓e_chn, ↓e_and, ↓e_or, ↓e_not, ↓e_ite, ↓e_tup, ↓e_lst, ↓e_ix, ↓e_sl, ↓e_rev, ↓e_call, ↓e_bi, ↓e_isi, ↓e_app, ↓e_ext, ↓e_pop, ↓e_comp, ↓es_nil, ↓es_cons, ↓if_nil, ↓if_cons, ↓o_no, ↓o_so, ↓s_ex', ↓s_ret', ↓s_retN', ↓s_asg', ↓s_sub', ↓s_aug', ↓s_iff', ↓s_whl', ↓s_for', ↓s_pass', ↓s_brk', ↓s_cont', ↓s_raise', ↓ss_nil', ↓ss_cons', ↓i_valE, ↓i_rng1E, ↓i_rng2E, ↓i_zipE, ↓i_enuE, ↓getK_s, ↓truK_t, ↓truK_f, ↓bK_s, ↓asgK_s, ↓atK_s, ↓seqK_s, ↓intsK_s, ↓blsK_s, ↓iteK_t, ↓iteK_f, ↓binD, ↓augD, ↓cmp_eq, ↓cmp_ne, ↓cmp_lt, ↓cmp_le, ↓cmp_gt, ↓cmp_ge, ↓cmp_is, ↓cmp_isn, ↓cmp_isN, ↓cmp_isnN, isNon, ↓ixD_int, ↓ixD_rod, atI0, atI1, atI2, atI3, ↓sl_tup, ↓sl_rol, ↓bi_len_tup, ↓bi_len_rol, ↓bi_len_ref, ↓bi_abs, ↓bi_int, ↓bi_intb, ↓bi_gcd, ↓bi_tup_tup, ↓bi_tup_rol, ↓bi_tup_ref, ↓bi_lst_tup, ↓bi_lst_rol, ↓bi_lst_ref, ↓bi_sum, ↓bi_sum_tup, ↓bi_sum_rol, ↓bi_all, ↓bi_any, ↓bi_max2, ↓bi_min2, tg_nm, tg_tp, tgsD, seqOf_tup, seqOf_rol, seqOf_up, seqL_rol, seqL_up', tru_non, tru_bl, tru_int, tru_tup, tru_rol, tru_up, ↓eq_int, isi_c, isi_int, isi_bl, isi_tup, isi_non, isi_str, isi_rol, tyN_up, tyN, List.getElem?_cons_zero, List.getElem?_cons_succ, List.set_cons_zero, List.set_cons_succ, permA, List.map_cons, List.map_nil, List.getD_cons_zero, List.getD_cons_succ, List.cons_append, List.nil_append, List.append_nil, List.replicate_succ, List.replicate_zero, RtP, ite_true, ite_false, if_true, if_false, Bool.false_eq_true, decide_true, decide_false, Bool.not_true, Bool.not_false, List.length_cons, List.length_nil, up_same, isTup, liveOf]
  refine ⟨trivial, ?_⟩
  refine forL_ind (fun ys ρ μ' => ∃ (i : Nat) (rest xs : List Int) (z3 z4 z5 : Option D), ys = enuL i (rest.map D.int) ∧ i + rest.length ≤ 63 ∧ ρ = [some d, some (.int m), some (.ref p), z3, z4, z5] ∧ μ' p = some (.lst (xs.map D.int)) ∧ μ' r = some (.lst ((ns.drop m).map D.int)) ∧ (∀ a o, a ≠ p → B a = some o → μ' a = some o) ∧ xs.length = xs0.length ∧ (∀ z ∈ xs, z.natAbs < (i + 1) * big) ∧ (∀ z ∈ rest, Sz 1048576 z) ∧ (rest ≠ [] → xs0.length = m)) ?_ ?_ _ _ _ ?_
  · rintro x ys ρ μ' ⟨i, rest, xs, z3, z4, z5, e, hi, rfl, ep, er, ek, el, ez, erz, em⟩
    cases rest with
    | nil => cases e
    | cons y rest =>
      rw [List.map_cons, enuL_cons] at e
      injection e with e1 e2
      subst e1
      have hm := em (by simp)
      have hm0 : (0 : Int) < m := by omega
      have hm1 : (m : Int) ≠ 0 := by omega
      refine ⟨er, [some d, some (.int m), some (.ref p), some (.int (i : Int)), some (.int y), z5], rfl, ?_⟩
      have ej : ((i : Int) % (m : Int)) = ((i % m : Nat) : Int) := rfl
      have hj : i % m < xs.length := by rw [el, hm]; exact Nat.mod_lt _ (by omega)
      have hj2 : ixN (xs.map D.int).length ((i % m : Nat) : Int) = some (i % m) := ixN_nat (by rw [List.length_map]; exact hj)
      have hat : atI (xs.map D.int) ((i % m : Nat) : Int) = some (.int xs[i % m]) := by
        rw [atI_nat (by rw [List.length_map]; exact hj), List.getElem?_map, List.getElem?_eq_getElem hj]
        rfl
      have hy := erz y (List.mem_cons_self ..)
      have hk : Sz 7 ((i : Int) + 2) := by
        have : i ≤ 63 := by have := hi; rw [List.length_cons] at this; omega
        unfold Sz
        omega
      simp only [↓e_v, ↓e_c, ↓e_bin, ↓e_neg, ↓e_cmp, ↓e_chn, ↓e_and, ↓e_or, ↓e_not, ↓e_ite, ↓e_tup, ↓e_lst, ↓e_ix, ↓e_sl, ↓e_rev, ↓e_call, ↓e_bi, ↓e_isi, ↓e_app, ↓e_ext, ↓e_pop, ↓e_comp, ↓es_nil, ↓es_cons, ↓if_nil, ↓if_cons, ↓o_no, ↓o_so, ↓s_ex', ↓s_ret', ↓s_retN', ↓s_asg', ↓s_sub', ↓s_aug', ↓s_iff', ↓s_whl', ↓s_for', ↓s_pass', ↓s_brk', ↓s_cont', ↓s_raise', ↓ss_nil', ↓ss_cons', ↓i_valE, ↓i_rng1E, ↓i_rng2E, ↓i_zipE, ↓i_enuE, ↓getK_s, ↓truK_t, ↓truK_f, ↓bK_s, ↓asgK_s, ↓atK_s, ↓seqK_s, ↓intsK_s, ↓blsK_s, ↓iteK_t, ↓iteK_f, ↓binD, ↓augD, ↓cmp_eq, ↓cmp_ne, ↓cmp_lt, ↓cmp_le, ↓cmp_gt, ↓cmp_ge, ↓cmp_is, ↓cmp_isn, ↓cmp_isN, ↓cmp_isnN, isNon, ↓ixD_int, ↓ixD_rod, atI0, atI1, atI2, atI3, ↓sl_tup, ↓sl_rol, ↓bi_len_tup, ↓bi_len_rol, ↓bi_len_ref, ↓bi_abs, ↓bi_int, ↓bi_intb, ↓bi_gcd, ↓bi_tup_tup, ↓bi_tup_rol, ↓bi_tup_ref, ↓bi_lst_tup, ↓bi_lst_rol, ↓bi_lst_ref, ↓bi_sum, ↓bi_sum_tup, ↓bi_sum_rol, ↓bi_all, ↓bi_any, ↓bi_max2, ↓bi_min2, tg_nm, tg_tp, tgsD, seqOf_tup, seqOf_rol, seqOf_up, seqL_rol, seqL_up', tru_non, tru_bl, tru_int, tru_tup, tru_rol, tru_up, ↓eq_int, isi_c, isi_int, isi_bl, isi_tup, isi_non, isi_str, isi_rol, tyN_up, tyN, List.getElem?_cons_zero, List.getElem?_cons_succ, List.set_cons_zero, List.set_cons_succ, permA, List.map_cons, List.map_nil, List.getD_cons_zero, List.getD_cons_succ, List.cons_append, List.nil_append, List.append_nil, List.replicate_succ, List.replicate_zero, RtP, ite_true, ite_false, if_true, if_false, Bool.false_eq_true, decide_true, decide_false, Bool.not_true, Bool.not_false, List.length_cons, List.length_nil, fmod_pos hm0, ej, ↓ixD_at ep, hat, ↓setD_at ep hj2]
      refine ⟨hm1, hy.mulOk hk (by decide), ?_⟩
      refine ⟨i + 1, rest, xs.set (i % m) (xs[i % m] + y * ((i : Int) + 2)), _, _, _, e2, by rw [List.length_cons] at hi; omega, rfl, ?_, ?_, ?_, by rw [List.length_set, el], ?_, fun z hz => erz z (List.mem_cons_of_mem _ hz), fun _ => hm⟩
      · rw [up_same, List.map_set]
      · rw [up_ne hrp]; exact er
      · intro a o ha hb
        rw [up_ne ha]; exact ek a o ha hb
      · intro z hz
        have e3 : (i + 1 + 1) * big = (i + 1) * big + big := by rw [Nat.add_mul (i + 1) 1, Nat.one_mul]
        rcases List.mem_or_eq_of_mem_set hz with h | h
        · have := ez z h
          omega
        · rw [h]
          have a1 := ez _ (List.getElem_mem hj)
          have a2 : (y * ((i : Int) + 2)).natAbs < big := lt_big (hy.mul hk) (by decide)
          have a3 := Int.natAbs_add_le xs[i % m] (y * ((i : Int) + 2))
          omega
  · rintro ρ μ' ⟨i, rest, xs, z3, z4, z5, e, hi, rfl, ep, er, ek, el, ez, erz, em⟩
    refine ⟨er, ?_⟩
    simp only [↓e_v, ↓e_c, ↓e_bin, ↓e_neg, ↓e_cmp, ↓e_chn, ↓e_and, ↓e_or, ↓e_not, ↓e_ite, ↓e_tup, ↓e_lst, ↓e_ix, ↓e_sl, ↓e_rev, ↓e_call, ↓e_bi, ↓e_isi, ↓e_app, ↓e_ext, ↓e_pop, ↓e_comp, ↓es_nil, ↓es_cons, ↓if_nil, ↓if_cons, ↓o_no, ↓o_so, ↓s_ex', ↓s_ret', ↓s_retN', ↓s_asg', ↓s_sub', ↓s_aug', ↓s_iff', ↓s_whl', ↓s_for', ↓s_pass', ↓s_brk', ↓s_cont', ↓s_raise', ↓ss_nil', ↓ss_cons', ↓i_valE, ↓i_rng1E, ↓i_rng2E, ↓i_zipE, ↓i_enuE, ↓getK_s, ↓truK_t, ↓truK_f, ↓bK_s, ↓asgK_s, ↓atK_s, ↓seqK_s, ↓intsK_s, ↓blsK_s, ↓iteK_t, ↓iteK_f, ↓binD, ↓augD, ↓cmp_eq, ↓cmp_ne, ↓cmp_lt, ↓cmp_le, ↓cmp_gt, ↓cmp_ge, ↓cmp_is, ↓cmp_isn, ↓cmp_isN, ↓cmp_isnN, isNon, ↓ixD_int, ↓ixD_rod, atI0, atI1, atI2, atI3, ↓sl_tup, ↓sl_rol, ↓bi_len_tup, ↓bi_len_rol, ↓bi_len_ref, ↓bi_abs, ↓bi_int, ↓bi_intb, ↓bi_gcd, ↓bi_tup_tup, ↓bi_tup_rol, ↓bi_tup_ref, ↓bi_lst_tup, ↓bi_lst_rol, ↓bi_lst_ref, ↓bi_sum, ↓bi_sum_tup, ↓bi_sum_rol, ↓bi_all, ↓bi_any, ↓bi_max2, ↓bi_min2, tg_nm, tg_tp, tgsD, seqOf_tup, seqOf_rol, seqOf_up, seqL_rol, seqL_up', tru_non, tru_bl, tru_int, tru_tup, tru_rol, tru_up, ↓eq_int, isi_c, isi_int, isi_bl, isi_tup, isi_non, isi_str, isi_rol, tyN_up, tyN, List.getElem?_cons_zero, List.getElem?_cons_succ, List.set_cons_zero, List.set_cons_succ, permA, List.map_cons, List.map_nil, List.getD_cons_zero, List.getD_cons_succ, List.cons_append, List.nil_append, List.append_nil, List.replicate_succ, List.replicate_zero, RtP, ite_true, ite_false, if_true, if_false, Bool.false_eq_true, decide_true, decide_false, Bool.not_true, Bool.not_false, List.length_cons, List.length_nil]
    refine q μ' xs el (fun z hz => ?_) ep ek
    have a1 := ez z hz
    have a2 : (i + 1) * big ≤ 64 * big := Nat.mul_le_mul_right _ (by omega)
    exact sz_big (Nat.lt_of_lt_of_le a1 a2)
  · refine ⟨0, ns.drop m, xs0, none, none, none, rfl, by rw [List.length_drop]; omega, rfl, ?_, up_same, fun a o ha hb => ?_, rfl, fun z hz => ?_, fun z hz' => hz z (List.mem_of_mem_drop hz'), fun hne => ?_⟩
    · rw [up_ne hpr]; exact hp
    · have : a ≠ r := fun e => by rw [e, hr] at hb; cases hb
      rw [up_ne this]; exact hb
    · rw [Nat.zero_add, Nat.one_mul]
      exact lt_big (hx z hz) (by decide)
    · rcases hl with h | h
      · exact h
      · exact absurd (List.drop_of_length_le h) hne
theorem seqL_up {d : D} {xs : List D} {μ : Mu} {p : Addr} {o : MO} (h : seqL d μ = some xs) (hp : μ p = none) : seqL d (up μ p o) = some xs := by
  cases d with
  | ref a =>
    unfold seqL seqOf at *
    dsimp only at *
    have : a ≠ p := by
      intro e
      subst e
      rw [hp] at h
      cases h
    rw [up_ne this]
    exact h
  | rol ys => exact h
  | tup ys => cases h
  | _ => cases h
theorem m_cells {Φ : Nat → Spec} : Meets Φ 2 6 b__law_cells sp_cells := fam_meets (by
  rintro ⟨d, ns, m⟩ ⟨d', ns', m'⟩ μ h hp hq
  injection h with h1 h2
  injection h2 with h2 _
  injection h2 with h2
  dsimp only at h1 h2
  have e3 : m = m' := by omega
  subst h1 e3
  have e := hp.1.symm.trans hq.1
  have e4 : ns = ns' := map_int_inj (Option.some.inj e)
  subst e4
  rfl) fun ⟨d, ns, m⟩ μ h => by
  obtain ⟨hd, hns, hz, h1, h2⟩ := h
  dsimp only at hd hns hz h1 h2
  show wpSs Φ (.cons (.asg (.nm 2) (.or (.bi .list (.cons (.sl (.v 0) .no (.so (.v 1))) .nil)) (.lst (.cons (.c (.int 0)) .nil)))) b_cells_tail) _ _ _
  simp only [↓e_v, ↓e_c, ↓e_bin, ↓e_neg, ↓e_cmp, ↓e_chn, ↓e_and, ↓e_or, ↓e_not, ↓e_ite, ↓e_tup, ↓e_lst, ↓e_ix, ↓e_sl, ↓e_rev, ↓e_call, ↓e_bi, ↓e_isi, ↓e_app, ↓e_ext, ↓e_pop, ↓e_comp, ↓es_nil, ↓es_cons, ↓if_nil, ↓if_cons, ↓o_no, ↓o_so, ↓s_ex', ↓s_ret', ↓s_retN', ↓s_asg', ↓s_sub', ↓s_aug', ↓s_iff', ↓s_whl', ↓s_for', ↓s_pass', ↓s_brk', ↓s_cont', ↓s_raise', ↓ss_nil', ↓ss_cons', ↓i_valE, ↓i_rng1E, ↓i_rng2E, ↓i_zipE, ↓i_enuE, ↓getK_s, ↓truK_t, ↓truK_f, ↓bK_s, ↓asgK_s, ↓atK_s, ↓seqK_s, ↓intsK_s, ↓blsK_s, ↓iteK_t, ↓iteK_f, ↓binD, ↓augD, ↓cmp_eq, ↓cmp_ne, ↓cmp_lt, ↓cmp_le, ↓cmp_gt, ↓cmp_ge, ↓cmp_is, ↓cmp_isn, ↓cmp_isN, ↓cmp_isnN, isNon, ↓ixD_int, ↓ixD_rod, atI0, atI1, atI2, atI3, ↓sl_tup, ↓sl_rol, ↓bi_len_tup, ↓bi_len_rol, ↓bi_len_ref, ↓bi_abs, ↓bi_int, ↓bi_intb, ↓bi_gcd, ↓bi_tup_tup, ↓bi_tup_rol, ↓bi_tup_ref, ↓bi_lst_tup, ↓bi_lst_rol, ↓bi_lst_ref, ↓bi_sum, ↓bi_sum_tup, ↓bi_sum_rol, ↓bi_all, ↓bi_any, ↓bi_max2, ↓bi_min2, tg_nm, tg_tp, tgsD, seqOf_tup, seqOf_rol, seqOf_up, seqL_rol, seqL_up', tru_non, tru_bl, tru_int, tru_tup, tru_rol, tru_up, ↓eq_int, isi_c, isi_int, isi_bl, isi_tup, isi_non, isi_str, isi_rol, tyN_up, tyN, List.getElem?_cons_zero, List.getElem?_cons_succ, List.set_cons_zero, List.set_cons_succ, permA, List.map_cons, List.map_nil, List.getD_cons_zero, List.getD_cons_succ, List.cons_append, List.nil_append, List.append_nil, List.replicate_succ, List.replicate_zero, RtP, ite_true, ite_false, if_true, if_false, Bool.false_eq_true, decide_true, decide_false, Bool.not_true, Bool.not_false, List.length_cons, List.length_nil]
  refine sl_lst hd ?_
  rw [cutD_map, cutD_hi]
  intro r hr
  simp only [↓e_v, ↓e_c, ↓e_bin, ↓e_neg, ↓e_cmp, ↓e_chn, ↓e_and, ↓e_or, ↓e_not, ↓e_ite, ↓e_tup, ↓e_lst, ↓e_ix, ↓e_sl, ↓e_rev, ↓e_call, ↓e_bi, ↓e_isi, ↓e_app, ↓e_ext, ↓e_pop, ↓e_comp, ↓es_nil, ↓es_cons, ↓if_nil, ↓if_cons, ↓o_no, ↓o_so, ↓s_ex', ↓s_ret', ↓s_retN', ↓s_asg', ↓s_sub', ↓s_aug', ↓s_iff', ↓s_whl', ↓s_for', ↓s_pass', ↓s_brk', ↓s_cont', ↓s_raise', ↓ss_nil', ↓ss_cons', ↓i_valE, ↓i_rng1E, ↓i_rng2E, ↓i_zipE, ↓i_enuE, ↓getK_s, ↓truK_t, ↓truK_f, ↓bK_s, ↓asgK_s, ↓atK_s, ↓seqK_s, ↓intsK_s, ↓blsK_s, ↓iteK_t, ↓iteK_f, ↓binD, ↓augD, ↓cmp_eq, ↓cmp_ne, ↓cmp_lt, ↓cmp_le, ↓cmp_gt, ↓cmp_ge, ↓cmp_is, ↓cmp_isn, ↓cmp_isN, ↓cmp_isnN, isNon, ↓ixD_int, ↓ixD_rod, atI0, atI1, atI2, atI3, ↓sl_tup, ↓sl_rol, ↓bi_len_tup, ↓bi_len_rol, ↓bi_len_ref, ↓bi_abs, ↓bi_int, ↓bi_intb, ↓bi_gcd, ↓bi_tup_tup, ↓bi_tup_rol, ↓bi_tup_ref, ↓bi_lst_tup, ↓bi_lst_rol, ↓bi_lst_ref, ↓bi_sum, ↓bi_sum_tup, ↓bi_sum_rol, ↓bi_all, ↓bi_any, ↓bi_max2, ↓bi_min2, tg_nm, tg_tp, tgsD, seqOf_tup, seqOf_rol, seqOf_up, seqL_rol, seqL_up', tru_non, tru_bl, tru_int, tru_tup, tru_rol, tru_up, ↓eq_int, isi_c, isi_int, isi_bl, isi_tup, isi_non, isi_str, isi_rol, tyN_up, tyN, List.getElem?_cons_zero, List.getElem?_cons_succ, List.set_cons_zero, List.set_cons_succ, permA, List.map_cons, List.map_nil, List.getD_cons_zero, List.getD_cons_succ, List.cons_append, List.nil_append, List.append_nil, List.replicate_succ, List.replicate_zero, RtP, ite_true, ite_false, if_true, if_false, Bool.false_eq_true, decide_true, decide_false, Bool.not_true, Bool.not_false, List.length_cons, List.length_nil, up_same]
  intro p hp
  have hpr : p ≠ r := by
    intro e
    rw [e, up_same] at hp
    cases hp
  have hrp : r ≠ p := fun e => hpr e.symm
  rw [up_ne hpr] at hp
  have fin : ∀ (B : Mu) (p' : Addr) (xs0 : List Int), seqL d B = some (ns.map D.int) → Sub μ B → μ p' = none → B p' = some (.lst (xs0.map D.int)) → xs0 ≠ [] → xs0.length ≤ m → (∀ z ∈ xs0, Sz 1048576 z) → (xs0.length = m ∨ ns.length ≤ m) →
      wpSs Φ b_cells_tail (RtF (fun (i : CeI) μ d μ' => ∃ p x xs, d = .ref p ∧ μ p = none ∧ μ' = up μ p (.lst (.int x :: xs.map D.int)) ∧ xs.length < i.m ∧ ∀ z ∈ x :: xs, Sz 2097152 z) ⟨d, ns, m⟩ μ) [some d, some (.int m), some (.ref p'), none, none, none] B := fun B p' xs0 g1 g2 g3 g4 g5 g6 g7 g8 => by
    refine cells_tail g1 hns hz h1 h2 g4 g7 g8 fun μ1 xs e1 e2 e3 e4 => ?_
    cases xs with
    | nil =>
      have : xs0.length = 0 := e1.symm
      exact absurd (List.length_eq_zero_iff.mp this) g5
    | cons x xs =>
      refine ⟨up μ p' (.lst (.int x :: xs.map D.int)), fun a o h => ?_, p', x, xs, rfl, g3, rfl, by dsimp only; rw [List.length_cons] at e1; omega, e2⟩
      by_cases ha : a = p'
      · subst ha
        rw [up_same] at h
        cases h
        exact e3
      · rw [up_ne ha] at h
        exact e4 a o ha (g2 a o h)
  have sub1 : Sub μ (up μ r (.lst ((ns.take m).map D.int))) := .up hr
  cases ht : ns.take m with
  | nil =>
    have hn : ns = [] := by
      rcases List.take_eq_nil_iff.mp ht with h | h
      · omega
      · exact h
    simp only [↓e_v, ↓e_c, ↓e_bin, ↓e_neg, ↓e_cmp, ↓e_chn, ↓e_and, ↓e_or, ↓e_not, ↓e_ite, ↓e_tup, ↓e_lst, ↓e_ix, ↓e_sl, ↓e_rev, ↓e_call, ↓e_bi, ↓e_isi, ↓e_app, ↓e_ext, ↓e_pop, ↓e_comp, ↓es_nil, ↓es_cons, ↓if_nil, ↓if_cons, ↓o_no, ↓o_so, ↓s_ex', ↓s_ret', ↓s_retN', ↓s_asg', ↓s_sub', ↓s_aug', ↓s_iff', ↓s_whl', ↓s_for', ↓s_pass', ↓s_brk', ↓s_cont', ↓s_raise', ↓ss_nil', ↓ss_cons', ↓i_valE, ↓i_rng1E, ↓i_rng2E, ↓i_zipE, ↓i_enuE, ↓getK_s, ↓truK_t, ↓truK_f, ↓bK_s, ↓asgK_s, ↓atK_s, ↓seqK_s, ↓intsK_s, ↓blsK_s, ↓iteK_t, ↓iteK_f, ↓binD, ↓augD, ↓cmp_eq, ↓cmp_ne, ↓cmp_lt, ↓cmp_le, ↓cmp_gt, ↓cmp_ge, ↓cmp_is, ↓cmp_isn, ↓cmp_isN, ↓cmp_isnN, isNon, ↓ixD_int, ↓ixD_rod, atI0, atI1, atI2, atI3, ↓sl_tup, ↓sl_rol, ↓bi_len_tup, ↓bi_len_rol, ↓bi_len_ref, ↓bi_abs, ↓bi_int, ↓bi_intb, ↓bi_gcd, ↓bi_tup_tup, ↓bi_tup_rol, ↓bi_tup_ref, ↓bi_lst_tup, ↓bi_lst_rol, ↓bi_lst_ref, ↓bi_sum, ↓bi_sum_tup, ↓bi_sum_rol, ↓bi_all, ↓bi_any, ↓bi_max2, ↓bi_min2, tg_nm, tg_tp, tgsD, seqOf_tup, seqOf_rol, seqOf_up, seqL_rol, seqL_up', tru_non, tru_bl, tru_int, tru_tup, tru_rol, tru_up, ↓eq_int, isi_c, isi_int, isi_bl, isi_tup, isi_non, isi_str, isi_rol, tyN_up, tyN, List.getElem?_cons_zero, List.getElem?_cons_succ, List.set_cons_zero, List.set_cons_succ, permA, List.map_cons, List.map_nil, List.getD_cons_zero, List.getD_cons_succ, List.cons_append, List.nil_append, List.append_nil, List.replicate_succ, List.replicate_zero, RtP, ite_true, ite_false, if_true, if_false, Bool.false_eq_true, decide_true, decide_false, Bool.not_true, Bool.not_false, List.length_cons, List.length_nil, up_same, List.isEmpty_nil, Bool.not_true]
    refine ⟨by decide, ?_⟩
    intro p2 hp2
    have hp2p : p2 ≠ p := by
      intro e
      rw [e, up_same] at hp2
      cases hp2
    rw [up_ne hp2p] at hp2
    have hp2r : p2 ≠ r := by
      intro e
      rw [e, up_same] at hp2
      cases hp2
    rw [up_ne hp2r] at hp2
    refine fin _ p2 [0] (seqL_up (seqL_up (seqL_up hd hr) (by rw [up_ne hpr]; exact hp)) (by rw [up_ne hp2p, up_ne hp2r]; exact hp2)) ?_ hp2 up_same (by simp) (by simpa using h1) (fun z hz => ?_) (.inr (by rw [hn]; simp))
    · refine (Sub.up hr).trans ((Sub.up ?_).trans (Sub.up ?_))
      · rw [up_ne hpr]; exact hp
      · rw [up_ne hp2p, up_ne hp2r]; exact hp2
    · rcases List.mem_cons.mp hz with h | h
      · rw [h]; unfold Sz; exact Nat.two_pow_pos _
      · cases h
  | cons x xs =>
    simp only [↓e_v, ↓e_c, ↓e_bin, ↓e_neg, ↓e_cmp, ↓e_chn, ↓e_and, ↓e_or, ↓e_not, ↓e_ite, ↓e_tup, ↓e_lst, ↓e_ix, ↓e_sl, ↓e_rev, ↓e_call, ↓e_bi, ↓e_isi, ↓e_app, ↓e_ext, ↓e_pop, ↓e_comp, ↓es_nil, ↓es_cons, ↓if_nil, ↓if_cons, ↓o_no, ↓o_so, ↓s_ex', ↓s_ret', ↓s_retN', ↓s_asg', ↓s_sub', ↓s_aug', ↓s_iff', ↓s_whl', ↓s_for', ↓s_pass', ↓s_brk', ↓s_cont', ↓s_raise', ↓ss_nil', ↓ss_cons', ↓i_valE, ↓i_rng1E, ↓i_rng2E, ↓i_zipE, ↓i_enuE, ↓getK_s, ↓truK_t, ↓truK_f, ↓bK_s, ↓asgK_s, ↓atK_s, ↓seqK_s, ↓intsK_s, ↓blsK_s, ↓iteK_t, ↓iteK_f, ↓binD, ↓augD, ↓cmp_eq, ↓cmp_ne, ↓cmp_lt, ↓cmp_le, ↓cmp_gt, ↓cmp_ge, ↓cmp_is, ↓cmp_isn, ↓cmp_isN, ↓cmp_isnN, isNon, ↓ixD_int, ↓ixD_rod, atI0, atI1, atI2, atI3, ↓sl_tup, ↓sl_rol, ↓bi_len_tup, ↓bi_len_rol, ↓bi_len_ref, ↓bi_abs, ↓bi_int, ↓bi_intb, ↓bi_gcd, ↓bi_tup_tup, ↓bi_tup_rol, ↓bi_tup_ref, ↓bi_lst_tup, ↓bi_lst_rol, ↓bi_lst_ref, ↓bi_sum, ↓bi_sum_tup, ↓bi_sum_rol, ↓bi_all, ↓bi_any, ↓bi_max2, ↓bi_min2, tg_nm, tg_tp, tgsD, seqOf_tup, seqOf_rol, seqOf_up, seqL_rol, seqL_up', tru_non, tru_bl, tru_int, tru_tup, tru_rol, tru_up, ↓eq_int, isi_c, isi_int, isi_bl, isi_tup, isi_non, isi_str, isi_rol, tyN_up, tyN, List.getElem?_cons_zero, List.getElem?_cons_succ, List.set_cons_zero, List.set_cons_succ, permA, List.map_cons, List.map_nil, List.getD_cons_zero, List.getD_cons_succ, List.cons_append, List.nil_append, List.append_nil, List.replicate_succ, List.replicate_zero, RtP, ite_true, ite_false, if_true, if_false, Bool.false_eq_true, decide_true, decide_false, Bool.not_true, Bool.not_false, List.length_cons, List.length_nil, up_same, List.isEmpty_cons, Bool.not_false]
    refine fin _ p (x :: xs) (seqL_up (seqL_up hd hr) (by rw [up_ne hpr]; exact hp)) ?_ hp up_same (by simp) ?_ (fun z hz' => hz z (List.mem_of_mem_take (ht ▸ hz'))) ?_
    · refine (Sub.up hr).trans (Sub.up ?_)
      rw [up_ne hpr]; exact hp
    · rw [← ht, List.length_take]; omega
    · rw [← ht, List.length_take]
      omega
end LD
namespace LD
/-! ### sums -/
def sm : Nat → (Nat → Int) → Int
  | 0, _ => 0
  | n + 1, f => sm n f + f n
theorem sm_succ {n : Nat} {f : Nat → Int} : sm (n + 1) f = sm n f + f n := rfl
theorem sm_congr {n : Nat} {f g : Nat → Int} (h : ∀ i, i < n → f i = g i) : sm n f = sm n g := by
  induction n with
  | zero => rfl
  | succ n ih => rw [sm_succ, sm_succ, ih fun i hi => h i (by omega), h n (by omega)]
theorem sm_add {n : Nat} {f g : Nat → Int} : sm n (fun i => f i + g i) = sm n f + sm n g := by
  induction n with
  | zero => rfl
  | succ n ih => rw [sm_succ, sm_succ, sm_succ, ih]; omega
theorem sm_mul {n : Nat} {f : Nat → Int} (c : Int) : sm n (fun i => c * f i) = c * sm n f := by
  induction n with
  | zero => simp [sm]
  | succ n ih => rw [sm_succ, sm_succ, ih, Int.mul_add]
theorem sm_zero {n : Nat} : sm n (fun _ => 0) = 0 := by
  induction n with
  | zero => rfl
  | succ n ih => rw [sm_succ, ih]; rfl
theorem sm_const {n : Nat} (c : Int) : sm n (fun _ => c) = n * c := by
  induction n with
  | zero => simp [sm]
  | succ n ih => rw [sm_succ, ih]; grind
theorem sm_swap {n m : Nat} {f : Nat → Nat → Int} : sm n (fun i => sm m fun j => f i j) = sm m fun j => sm n fun i => f i j := by
  induction n with
  | zero => rw [show (fun j => sm 0 fun i => f i j) = fun _ => (0 : Int) from rfl, sm_zero]; rfl
  | succ n ih => rw [sm_succ, ih, ← sm_add]; rfl
theorem sm_one {n i0 : Nat} {p : Nat → Prop} [DecidablePred p] (c : Int) (h0 : i0 < n) (h : ∀ i, i < n → (p i ↔ i = i0)) : sm n (fun i => if p i then c else 0) = c := by
  induction n with
  | zero => omega
  | succ n ih =>
    rw [sm_succ]
    by_cases e : i0 = n
    · have e1 : sm n (fun i => if p i then c else 0) = 0 := by
        rw [sm_congr (g := fun _ => 0) fun i hi => ?_, sm_zero]
        rw [if_neg]
        intro hp
        have := (h i (by omega)).mp hp
        omega
      rw [e1, if_pos ((h n (by omega)).mpr e.symm)]
      omega
    · rw [ih (by omega) fun i hi => h i (by omega), if_neg]
      · omega
      · intro hp
        exact e ((h n (by omega)).mp hp).symm
theorem sm_i {n : Nat} : 2 * sm n (fun i => (i : Int)) = n * (n - 1) := by
  induction n with
  | zero => rfl
  | succ n ih => rw [sm_succ]; grind
theorem sm_ii {n : Nat} : 6 * sm n (fun i => (i : Int) * i) = (n - 1) * n * (2 * n - 1) := by
  induction n with
  | zero => rfl
  | succ n ih => rw [sm_succ]; grind
theorem bez (a b : Nat) : ∃ x y : Int, x * a + y * b = Nat.gcd a b := by
  induction a, b using Nat.gcd.induction with
  | H0 n => exact ⟨0, 1, by simp⟩
  | H1 m n hm ih =>
    obtain ⟨x, y, e⟩ := ih
    refine ⟨y - x * (n / m : Nat), x, ?_⟩
    rw [Nat.gcd_rec, ← e]
    have := Nat.div_add_mod n m
    have e2 : ((n % m : Nat) : Int) = n - m * (n / m : Nat) := by
      have : ((m * (n / m) + n % m : Nat) : Int) = n := by rw [this]
      push_cast at this ⊢
      omega
    rw [e2]
    grind
/-- the inverse -/
theorem inv_ex {a b : Nat} (hb : 1 < b) (h : Nat.gcd a b = 1) : ∃ x : Nat, x < b ∧ a * x % b = 1 := by
  obtain ⟨x, y, e⟩ := bez a b
  rw [h] at e
  have hb0 : (b : Int) ≠ 0 := by omega
  refine ⟨(x % b).toNat, ?_, ?_⟩
  · have := Int.emod_lt_of_pos x (show (0 : Int) < b by omega)
    have := Int.emod_nonneg x hb0
    omega
  · have h1 := Int.emod_nonneg x hb0
    have e1 : ((a * (x % b).toNat % b : Nat) : Int) = 1 := by
      push_cast
      rw [Int.toNat_of_nonneg h1, Int.mul_emod, Int.emod_emod_of_dvd _ (Int.dvd_refl _), ← Int.mul_emod]
      have : (a : Int) * x = 1 + b * (-y) := by
        have : x * a + y * b = ((1 : Nat) : Int) := e
        grind
      rw [this, Int.add_mul_emod_self_left]
      exact Int.emod_eq_of_lt (by omega) (by omega)
    omega
theorem perm_iff {a b x i j : Nat} (hx : a * x % b = 1) (hi : i < b) (hj : j < b) : a * i % b = j ↔ i = x * j % b := by
  have hm : ∀ u : Nat, u < b → a * x * u % b = u := fun u hu => by
    rw [Nat.mul_mod, hx]
    by_cases h1 : b = 1
    · subst h1
      have : u = 0 := by omega
      subst this
      rfl
    · rw [Nat.one_mul, Nat.mod_mod, Nat.mod_eq_of_lt hu]
  constructor
  · intro h
    have : x * (a * i % b) % b = a * x * i % b := by
      rw [Nat.mul_mod, Nat.mod_mod, ← Nat.mul_mod]
      congr 1
      grind
    rw [← h, this, hm i hi]
  · intro h
    have : a * (x * j % b) % b = a * x * j % b := by
      rw [Nat.mul_mod, Nat.mod_mod, ← Nat.mul_mod]
      congr 1
      grind
    rw [h, this, hm j hj]
/-- multiplying by a number without a common divisor only changes the order -/
theorem sm_perm {a b : Nat} (hb : 1 < b) (h : Nat.gcd a b = 1) (g : Nat → Int) : sm b (fun i => g (a * i % b)) = sm b g := by
  obtain ⟨x, hx, e⟩ := inv_ex hb h
  have s1 : sm b (fun i => g (a * i % b)) = sm b fun i => sm b fun j => if a * i % b = j then g j else 0 := by
    refine sm_congr fun i hi => ?_
    have hr : a * i % b < b := Nat.mod_lt _ (by omega)
    rw [sm_congr (f := fun j => if a * i % b = j then g j else 0) (g := fun j => if a * i % b = j then g (a * i % b) else 0) fun j hj => ?_]
    · rw [sm_one (p := fun j => a * i % b = j) _ hr fun j hj => ⟨fun h => h.symm, fun h => h.symm⟩]
    · split
      · rename_i q; rw [q]
      · rfl
  rw [s1, sm_swap]
  refine sm_congr fun j hj => ?_
  exact sm_one (p := fun i => a * i % b = j) (i0 := x * j % b) _ (Nat.mod_lt _ (by omega)) fun i hi => perm_iff e hi hj
theorem sm_perm1 {a b : Nat} (hb : 1 ≤ b) (h : Nat.gcd a b = 1) (g : Nat → Int) : sm b (fun i => g (a * i % b)) = sm b g := by
  rcases Nat.eq_or_lt_of_le hb with e | e
  · subst e
    simp [sm]
  · exact sm_perm e h g
/-! ### whole parts -/
def qq (a b i : Nat) : Int := ((a * i / b : Nat) : Int)
def PP (a b : Nat) : Int := sm b fun i => (i : Int) * qq a b i
theorem r_eq (a b i : Nat) : ((a * i % b : Nat) : Int) = a * i + -(b : Int) * qq a b i := by
  unfold qq
  have := Nat.div_add_mod (a * i) b
  have e : ((b * (a * i / b) + a * i % b : Nat) : Int) = ((a * i : Nat) : Int) := by rw [this]
  push_cast at e ⊢
  grind
section
variable {a b : Nat}
theorem L1 (hb : 1 ≤ b) (h : Nat.gcd a b = 1) : 2 * sm b (qq a b) = (a - 1) * (b - 1) := by
  have e := sm_perm1 hb h fun u => (u : Int)
  rw [sm_congr (g := fun i => (a : Int) * i + -(b : Int) * qq a b i) fun i _ => r_eq a b i, sm_add, sm_mul, sm_mul] at e
  have e2 := sm_i (n := b)
  have hb0 : (b : Int) ≠ 0 := by omega
  refine Int.eq_of_mul_eq_mul_left hb0 ?_
  grind
theorem L2 (hb : 1 ≤ b) (h : Nat.gcd a b = 1) : ((a : Int) * a - 1) * (b - 1) * (2 * b - 1) - 12 * a * PP a b + 6 * b * sm b (fun i => qq a b i * qq a b i) = 0 := by
  have e := sm_perm1 hb h fun u => (u : Int) * u
  have e1 : sm b (fun i => ((a * i % b : Nat) : Int) * ((a * i % b : Nat) : Int)) = a * a * sm b (fun i => (i : Int) * i) + (-(2 * a * b) * PP a b + b * b * sm b fun i => qq a b i * qq a b i) := by
    unfold PP
    rw [← sm_mul, ← sm_mul, ← sm_mul, ← sm_add, ← sm_add]
    refine sm_congr fun i _ => ?_
    rw [r_eq]
    grind
  rw [e1] at e
  have e2 := sm_ii (n := b)
  have hb0 : (b : Int) ≠ 0 := by omega
  refine Int.eq_of_mul_eq_mul_left hb0 ?_
  grind
theorem tri (q m : Nat) : 2 * sm m (fun j => if j ≤ q then (j : Int) else 0) = if m ≤ q then (m : Int) * (m - 1) else q * (q + 1) := by
  induction m with
  | zero => simp [sm]
  | succ m ih =>
    rw [sm_succ, Int.mul_add, ih]
    by_cases h : m ≤ q
    · rw [if_pos h, if_pos h]
      by_cases h2 : m + 1 ≤ q
      · rw [if_pos h2]; grind
      · rw [if_neg h2]
        have : q = m := by omega
        subst this
        grind
    · rw [if_neg h, if_neg h, if_neg (by omega)]
      omega
theorem cnt {p n : Nat} (h : p < n) (c : Int) : sm n (fun i => if p < i then c else 0) = (n - 1 - p) * c := by
  induction n with
  | zero => omega
  | succ n ih =>
    rw [sm_succ]
    by_cases e : p = n
    · subst e
      rw [if_neg (by omega), sm_congr (g := fun _ => 0) fun i hi => if_neg (by omega), sm_zero]
      grind
    · rw [ih (by omega), if_pos (by omega)]
      grind
theorem L3 (ha : 1 ≤ a) (hb : 1 ≤ b) (h : Nat.gcd a b = 1) : sm b (fun i => qq a b i * qq a b i) + sm b (qq a b) = (b - 1) * a * (a - 1) - 2 * PP b a := by
  have e1 : sm b (fun i => qq a b i * qq a b i) + sm b (qq a b) = sm b fun i => sm a fun j => if j ≤ a * i / b then 2 * (j : Int) else 0 := by
    rw [← sm_add]
    refine sm_congr fun i hi => ?_
    have hq : a * i / b < a := Nat.div_lt_of_lt_mul (by rw [Nat.mul_comm b a]; exact Nat.mul_lt_mul_of_pos_left hi (by omega))
    have e := tri (a * i / b) a
    rw [if_neg (by omega), ← sm_mul] at e
    rw [sm_congr (g := fun j => 2 * (if j ≤ a * i / b then (j : Int) else 0)) fun j _ => by split <;> simp, e]
    unfold qq
    grind
  have e2 : sm a (fun j => sm b fun i => if j ≤ a * i / b then 2 * (j : Int) else 0) = sm a fun j => 2 * ((b : Int) - 1) * j + -2 * ((j : Int) * qq b a j) := by
    refine sm_congr fun j hj => ?_
    by_cases hj0 : j = 0
    · subst hj0
      rw [sm_congr (g := fun _ => 0) fun i hi => by simp, sm_zero]
      simp
    · have hp : b * j / a < b := Nat.div_lt_of_lt_mul (by rw [Nat.mul_comm a b]; exact Nat.mul_lt_mul_of_pos_left hj (by omega))
      have hs := Nat.div_add_mod (b * j) a
      have hs1 : b * j % a < a := Nat.mod_lt _ (by omega)
      have hs0 : b * j % a ≠ 0 := by
        intro z
        have d : a ∣ b * j := Nat.dvd_of_mod_eq_zero z
        have d2 : a ∣ j := Nat.Coprime.dvd_of_dvd_mul_left h d
        have := Nat.le_of_dvd (by omega) d2
        omega
      have key : ∀ i, (j ≤ a * i / b) ↔ (b * j / a < i) := fun i => by
        rw [Nat.le_div_iff_mul_le (by omega), Nat.mul_comm j b]
        constructor
        · intro q
          refine Nat.lt_of_mul_lt_mul_left (a := a) ?_
          omega
        · intro q
          have : a * (b * j / a + 1) ≤ a * i := Nat.mul_le_mul_left a q
          rw [Nat.mul_add] at this
          omega
      rw [sm_congr (g := fun i => if b * j / a < i then 2 * (j : Int) else 0) fun i _ => by simp only [key], cnt hp]
      unfold qq
      grind
  rw [e1, sm_swap, e2, sm_add, sm_mul, sm_mul]
  have e3 := sm_i (n := a)
  unfold PP
  grind
theorem recip (ha : 1 ≤ a) (hb : 1 ≤ b) (h : Nat.gcd a b = 1) : 12 * a * PP a b + 12 * b * PP b a = ((a : Int) * a - 1) * (b - 1) * (2 * b - 1) + 6 * a * b * (a - 1) * (b - 1) - 3 * b * (a - 1) * (b - 1) := by
  have e1 := L1 hb h
  have e2 := L2 hb h
  have e3 := L3 ha hb h
  grind
end
end LD
namespace LD
theorem gcd_emod_left (a : Int) (b : Int) : Int.gcd (a % b) b = Int.gcd a b := by
  have e : a = a % b + (a / b) * b := by
    have := Int.emod_add_mul_ediv a b
    grind
  have := Int.gcd_add_mul_right_left b (a % b) (a / b)
  rw [← e] at this
  exact this.symm
theorem inv2 {x y : Rat} (h : x * y = 1) : x⁻¹ = y := by
  have : x ≠ 0 := by intro e; rw [e] at h; grind
  grind
theorem rat_saw {n f A B : Rat} (hn : n ≠ 0) (hf : f ≠ 0) (h : 3 * n * n * A + 3 * f * f * B = n * f * (n * n + f * f + 1 - 3 * n * f)) : (n * n + f * f + 1) / (12 * n * f) - 1 / 4 - B / (4 * n * n) = A / (4 * f * f) := by
  obtain ⟨i, hi⟩ : ∃ i, n * i = 1 := ⟨n⁻¹, Rat.mul_inv_cancel _ hn⟩
  obtain ⟨j, hj⟩ : ∃ j, f * j = 1 := ⟨f⁻¹, Rat.mul_inv_cancel _ hf⟩
  have e1 : (12 * n * f)⁻¹ = (1/12) * i * j := inv2 (by grind)
  have e2 : (4 * n * n)⁻¹ = (1/4) * i * i := inv2 (by grind)
  have e3 : (4 * f * f)⁻¹ = (1/4) * j * j := inv2 (by grind)
  rw [Rat.div_def, Rat.div_def _ (4 * n * n), Rat.div_def _ (4 * f * f), e1, e2, e3]
  have key : (3 * n * n * A + 3 * f * f * B) * (i * i * j * j) = (n * f * (n * n + f * f + 1 - 3 * n * f)) * (i * i * j * j) := by rw [h]
  grind
theorem poly1 {D P S1 S2 a b : Int} (h1 : D + b * b = 4 * a * S2 + (-4 * b * P + (-2 * b * S1 + (-2 * b * S1 + b * (b * b))))) (h2 : 2 * S1 = b * (b - 1)) (h3 : 6 * S2 = (b - 1) * b * (2 * b - 1)) : 3 * D = 2 * a * (b - 1) * b * (2 * b - 1) - 12 * b * P - 3 * b * b * (b - 1) := by grind
theorem poly2 {D1 D2 P1 P2 a b : Int} (h1 : 3 * D1 = 2 * a * (b - 1) * b * (2 * b - 1) - 12 * b * P1 - 3 * b * b * (b - 1)) (h2 : 3 * D2 = 2 * b * (a - 1) * a * (2 * a - 1) - 12 * a * P2 - 3 * a * a * (a - 1))
    (h3 : 12 * a * P1 + 12 * b * P2 = (a * a - 1) * (b - 1) * (2 * b - 1) + 6 * a * b * (a - 1) * (b - 1) - 3 * b * (a - 1) * (b - 1)) : 3 * a * a * D1 + 3 * b * b * D2 = a * b * (a * a + b * b + 1 - 3 * a * b) := by
  have e1 : 3 * a * a * D1 + 3 * b * b * D2 = a * a * (3 * D1) + b * b * (3 * D2) := by grind
  have e2 : a * a * (2 * a * (b - 1) * b * (2 * b - 1) - 12 * b * P1 - 3 * b * b * (b - 1)) + b * b * (2 * b * (a - 1) * a * (2 * a - 1) - 12 * a * P2 - 3 * a * a * (a - 1)) = a * a * (2 * a * (b - 1) * b * (2 * b - 1) - 3 * b * b * (b - 1)) + b * b * (2 * b * (a - 1) * a * (2 * a - 1) - 3 * a * a * (a - 1)) - a * b * (12 * a * P1 + 12 * b * P2) := by grind
  rw [e1, h1, h2, e2, h3]
  grind
/-! ### sawteeth as whole numbers -/
def FI (b : Nat) (z : Int) : Int := if z % b = 0 then 0 else 2 * (z % b) - b
def DD (a : Int) (b : Nat) : Int := sm b fun i => FI b i * FI b (a * i)
theorem FI_congr {b : Nat} {x y : Int} (h : x % b = y % b) : FI b x = FI b y := by unfold FI; rw [h]
theorem FI_neg {b : Nat} {z : Int} (hb : 1 ≤ b) : FI b (-z) = -FI b z := by
  unfold FI
  have hb0 : (b : Int) ≠ 0 := by omega
  by_cases h : z % b = 0
  · have : (-z) % b = 0 := Int.emod_eq_zero_of_dvd (Int.dvd_neg.mpr (Int.dvd_of_emod_eq_zero h))
    rw [if_pos h, if_pos this]; rfl
  · have h1 := Int.emod_nonneg z hb0
    have h2 := Int.emod_lt_of_pos z (show (0 : Int) < b by omega)
    have e : (-z) % b = b - z % b := by
      have e1 : -z = (b - z % b) + b * (-(z / b) - 1) := by
        have := Int.emod_add_mul_ediv z b
        grind
      rw [e1, Int.add_mul_emod_self_left]
      exact Int.emod_eq_of_lt (by omega) (by omega)
    rw [if_neg h, e, if_neg (by omega)]
    omega
theorem DD_mod {a c : Int} {b : Nat} (h : a % b = c % b) : DD a b = DD c b := by
  refine sm_congr fun i _ => ?_
  rw [FI_congr (x := a * i) (y := c * i)]
  rw [Int.mul_emod, h, ← Int.mul_emod]
theorem DD_neg {a : Int} {b : Nat} (hb : 1 ≤ b) : DD (-a) b = -DD a b := by
  have : DD (-a) b = sm b fun i => -1 * (FI b i * FI b (a * i)) := sm_congr fun i _ => by
    rw [Int.neg_mul, FI_neg hb]; grind
  rw [this, sm_mul]
  unfold DD
  omega
theorem DD_inv {a x : Int} {b : Nat} (hb : 1 ≤ b) (hg : Int.gcd a b = 1) (h : a * x % b = 1 % b) : DD x b = DD a b := by
  have hb0 : (b : Int) ≠ 0 := by omega
  have h1 := Int.emod_nonneg a hb0
  have hg' : Nat.gcd (a % b).toNat b = 1 := by
    have e : ((a % b).toNat : Int) = a % b := Int.toNat_of_nonneg h1
    have : Int.gcd ((a % b).toNat : Int) b = 1 := by rw [e, gcd_emod_left]; exact hg
    exact this
  have p := sm_perm1 hb hg' fun u => FI b u * FI b (x * u)
  have e : DD x b = sm b fun u => FI b u * FI b (x * u) := rfl
  rw [e, ← p]
  refine sm_congr fun i _ => ?_
  have e1 : (((a % b).toNat * i % b : Nat) : Int) % b = a * i % b := by
    push_cast
    rw [Int.toNat_of_nonneg h1, Int.emod_emod_of_dvd _ (Int.dvd_refl _), Int.mul_emod, Int.emod_emod_of_dvd _ (Int.dvd_refl _), ← Int.mul_emod]
  rw [FI_congr e1, FI_congr (x := x * (((a % b).toNat * i % b : Nat) : Int)) (y := i)]
  · exact Int.mul_comm _ _
  · rw [Int.mul_emod, e1, ← Int.mul_emod]
    have : x * (a * i) = (a * x) * i := by grind
    rw [this, Int.mul_emod, h, ← Int.mul_emod, Int.one_mul]
theorem DD_val {a b : Nat} (hb : 1 ≤ b) (hg : Nat.gcd a b = 1) : 3 * DD a b = 2 * a * (b - 1) * b * (2 * b - 1) - 12 * b * PP a b - 3 * b * b * (b - 1) := by
  have e1 : DD a b + sm b (fun i => if i = 0 then (b : Int) * b else 0) = sm b fun i => (4 * a) * ((i : Int) * i) + ((-4 * b) * ((i : Int) * qq a b i) + ((-2 * b) * (i : Int) + ((-2 * b) * (((a * i % b : Nat) : Int)) + b * b))) := by
    unfold DD
    rw [← sm_add]
    refine sm_congr fun i hi => ?_
    have r := r_eq a b i
    have hm : ((a : Int) * i) % b = ((a * i % b : Nat) : Int) := by push_cast; rfl
    have hi2 : (i : Int) % b = i := Int.emod_eq_of_lt (by omega) (by omega)
    by_cases h0 : i = 0
    · subst h0
      simp [FI]
    · have hne : a * i % b ≠ 0 := by
        intro z
        have d : b ∣ a * i := Nat.dvd_of_mod_eq_zero z
        have d2 : b ∣ i := Nat.Coprime.dvd_of_dvd_mul_left (Nat.Coprime.symm hg) d
        have := Nat.le_of_dvd (by omega) d2
        omega
      unfold FI
      rw [hm, hi2, if_neg (by omega), if_neg (by omega), if_neg h0]
      grind
  rw [sm_one (p := fun i => i = 0) (i0 := 0) _ (by omega) (fun i _ => Iff.rfl), sm_add, sm_add, sm_add, sm_add, sm_mul, sm_mul, sm_mul, sm_mul, sm_const] at e1
  have e2 := sm_perm1 hb hg fun u => (u : Int)
  have e3 := sm_i (n := b)
  have e4 := sm_ii (n := b)
  have e5 : sm b (fun i => (i : Int) * qq a b i) = PP a b := rfl
  rw [e2, e5] at e1
  exact poly1 e1 e3 e4
theorem DD_recip {a b : Nat} (ha : 1 ≤ a) (hb : 1 ≤ b) (hg : Nat.gcd a b = 1) : 3 * a * a * DD a b + 3 * b * b * DD b a = a * b * (a * a + b * b + 1 - 3 * a * b) := by
  have e1 := DD_val hb hg
  have e2 := DD_val ha (by rw [Nat.gcd_comm]; exact hg)
  have e3 := recip ha hb hg
  exact poly2 e1 e2 e3
theorem partQ_eq {n f : Int} : partQ n f = ((n : Rat) * n + f * f + 1) / (12 * n * f) - 1 / 4 := by
  unfold partQ
  rw [Rat.divInt_eq_div, Rat.divInt_eq_div]
  push_cast
  grind
theorem saw_sum : ∀ (n f : Nat), 1 ≤ f → Nat.gcd n f = 1 → n < f → sawE n f = (DD n f : Rat) / (4 * f * f) := by
  intro n
  induction n using Nat.strongRecOn with
  | ind n ih =>
    intro f hf hg hn
    by_cases h0 : n = 0
    · subst h0
      have : f = 1 := by simpa using hg
      subst this
      rw [sawE0]
      have : DD ((0 : Nat) : Int) 1 = 0 := by decide
      rw [this]
      grind
    · rw [sawE1 h0]
      have hg2 : Nat.gcd (f % n) n = 1 := by rw [← Nat.gcd_rec]; exact hg
      rw [ih (f % n) (Nat.mod_lt _ (by omega)) n (by omega) hg2 (Nat.mod_lt _ (by omega))]
      have e1 : DD ((f % n : Nat) : Int) n = DD (f : Int) n := DD_mod (by push_cast; exact Int.emod_emod_of_dvd _ (Int.dvd_refl _))
      rw [e1, partQ_eq]
      have e2 := DD_recip (by omega) hf hg
      have e3 : (3 * (n : Rat) * n * (DD n f : Rat) + 3 * f * f * (DD f n : Rat)) = n * f * (n * n + f * f + 1 - 3 * n * f) := by
        have := congrArg (Int.cast : Int → Rat) e2
        simp only [Rat.intCast_add, Rat.intCast_sub, Rat.intCast_mul] at this
        exact this
      have hn0 : (n : Rat) ≠ 0 := by exact_mod_cast h0
      have hf0 : (f : Rat) ≠ 0 := by exact_mod_cast (by omega : f ≠ 0)
      exact rat_saw hn0 hf0 e3
theorem sawQ_sum {a b : Int} (hb : 1 ≤ b) (hg : Int.gcd a b = 1) : sawQ a b = (DD a b.toNat : Rat) / (4 * b * b) := by
  obtain ⟨n, rfl⟩ : ∃ n : Nat, b = n := ⟨b.toNat, by omega⟩
  have hb0 : (n : Int) ≠ 0 := by omega
  have h1 := Int.emod_nonneg a hb0
  have h2 := Int.emod_lt_of_pos a (show (0 : Int) < n by omega)
  have e : ((a % n).toNat : Int) = a % n := Int.toNat_of_nonneg h1
  unfold sawQ
  rw [Int.toNat_natCast, saw_sum _ _ (by omega) ?_ (by omega)]
  · rw [e, DD_mod (a := a % n) (c := a) (Int.emod_emod_of_dvd _ (Int.dvd_refl _))]
    rfl
  · have : Int.gcd ((a % n).toNat : Int) n = 1 := by rw [e, gcd_emod_left]; exact hg
    exact this
end LD
namespace LD
theorem natRat {b : Int} (h : 0 ≤ b) : ((b.toNat : Nat) : Rat) = (b : Rat) := by
  have : ((b.toNat : Int) : Rat) = (b : Rat) := by rw [Int.toNat_of_nonneg h]
  exact this
theorem ratNe {b : Int} (h : b ≠ 0) : (b : Rat) ≠ 0 := by
  intro e
  exact h (Rat.intCast_eq_zero_iff.mp e)
theorem sawQ_mod {a c b : Int} (h : a % b = c % b) : sawQ a b = sawQ c b := by unfold sawQ; rw [h]
theorem sawQ_per {a b t : Int} : sawQ (a + b * t) b = sawQ a b := sawQ_mod (Int.add_mul_emod_self_left ..)
theorem sawQ_inv {a b x : Int} (hb : 1 ≤ b) (hg : Int.gcd a b = 1) (hx : Int.gcd x b = 1) (h : a * x % b = 1 % b) : sawQ x b = sawQ a b := by
  rw [sawQ_sum hb hg, sawQ_sum hb hx]
  have e : (b.toNat : Int) = b := Int.toNat_of_nonneg (by omega)
  rw [DD_inv (a := a) (x := x) (by omega) (by rw [e]; exact hg) (by rw [e]; exact h)]
theorem gcd_neg1 {a b : Int} (h : Int.gcd a b = 1) : Int.gcd (-a) b = 1 := by rw [Int.neg_gcd]; exact h
theorem sawQ_neg {a b : Int} (hb : 1 ≤ b) (hg : Int.gcd a b = 1) : sawQ (-a) b = -sawQ a b := by
  rw [sawQ_sum hb hg, sawQ_sum hb (gcd_neg1 hg), DD_neg (by omega)]
  rw [Rat.intCast_neg, Rat.div_def, Rat.div_def]
  grind
theorem sawQ_recip {a b : Int} (ha : 1 ≤ a) (hb : 1 ≤ b) (hg : Int.gcd a b = 1) : sawQ a b + sawQ b a = partQ a b := by
  obtain ⟨n, rfl⟩ : ∃ n : Nat, a = n := ⟨a.toNat, by omega⟩
  obtain ⟨f, rfl⟩ : ∃ f : Nat, b = f := ⟨b.toNat, by omega⟩
  have hg' : Int.gcd (f : Int) n = 1 := by rw [Int.gcd_comm]; exact hg
  rw [sawQ_sum hb hg, sawQ_sum ha hg', partQ_eq, Int.toNat_natCast, Int.toNat_natCast]
  have e2 := DD_recip (a := n) (b := f) (by omega) (by omega) hg
  have e3 : (3 * ((n : Int) : Rat) * ((n : Int) : Rat) * (DD n f : Rat) + 3 * ((f : Int) : Rat) * ((f : Int) : Rat) * (DD f n : Rat)) = ((n : Int) : Rat) * ((f : Int) : Rat) * (((n : Int) : Rat) * ((n : Int) : Rat) + ((f : Int) : Rat) * ((f : Int) : Rat) + 1 - 3 * ((n : Int) : Rat) * ((f : Int) : Rat)) := by
    have := congrArg (Int.cast : Int → Rat) e2
    simp only [Rat.intCast_add, Rat.intCast_sub, Rat.intCast_mul] at this
    exact this
  have := rat_saw (ratNe (b := (n : Int)) (by omega)) (ratNe (b := (f : Int)) (by omega)) e3
  grind
theorem even_bb (b : Int) : ∃ k : Int, b * (b - 1) = 2 * k := by
  rcases (show b % 2 = 0 ∨ b % 2 = 1 by omega) with h | h
  · exact ⟨(b / 2) * (b - 1), by
      have : b = 2 * (b / 2) := by omega
      grind⟩
  · exact ⟨b * ((b - 1) / 2), by
      have : b - 1 = 2 * ((b - 1) / 2) := by omega
      grind⟩
theorem poly3 {a n f t x u : Int} (h1 : a = n + f * t) (h2 : a * x = 1 + f * u) : n * x = 1 + f * (u - t * x) := by
  subst h1
  grind
theorem poly4 {n x f v P Q : Int} (h0 : (n * n - 1) * (f - 1) * (2 * f - 1) - 12 * n * P + 6 * f * Q = 0) (h1 : n * x = 1 + f * v) : 12 * P = n - x + f * (n * v + x * (n * n - 1) * (2 * f - 3) + 6 * x * Q - 12 * v * P) := by
  have e : 12 * P - (n - x + f * (n * v + x * (n * n - 1) * (2 * f - 3) + 6 * x * Q - 12 * v * P)) = -(x * ((n * n - 1) * (f - 1) * (2 * f - 1) - 12 * n * P + 6 * f * Q)) + (n - 12 * P) * (n * x - (1 + f * v)) := by grind
  rw [h0, h1] at e
  grind
theorem poly5 {D P n f t x w : Int} (h1 : 3 * D = 2 * n * (f - 1) * f * (2 * f - 1) - 12 * f * P - 3 * f * f * (f - 1)) (h2 : 12 * P = n - x + f * w) : f * (x + (n + f * t)) - 3 * D = f * f * (t - 2 * n * (2 * f - 3) + w + 3 * (f - 1)) := by
  have e : 12 * f * P = f * (n - x + f * w) := by rw [← h2]; grind
  rw [h1, e]
  grind
theorem inv4 {F j : Rat} (h : F * j = 1) : (4 * F * F)⁻¹ = (1/4) * j * j := inv2 (by grind)
theorem rat6 {F A Z : Rat} (hF : F ≠ 0) (h : 3 * A = 2 * F * Z) : 6 * F * (A / (4 * F * F)) = Z := by
  obtain ⟨j, hj⟩ : ∃ j, F * j = 1 := ⟨F⁻¹, Rat.mul_inv_cancel _ hF⟩
  rw [Rat.div_def, inv4 hj]
  grind
theorem rat12 {F A Y Z : Rat} (hF : F ≠ 0) (h : F * Y - 3 * A = F * F * Z) : Y / F - 12 * (A / (4 * F * F)) = Z := by
  obtain ⟨j, hj⟩ : ∃ j, F * j = 1 := ⟨F⁻¹, Rat.mul_inv_cancel _ hF⟩
  rw [Rat.div_def, Rat.div_def, inv4 hj, inv2 hj]
  have e8 : (F * Y - 3 * A) * (j * j) = F * F * Z * (j * j) := by rw [h]
  grind
/-- 6 b S is whole -/
theorem sawQ_six {a b : Int} (hb : 1 ≤ b) (hg : Int.gcd a b = 1) : ∃ k : Int, 6 * (b : Rat) * sawQ a b = (k : Rat) := by
  obtain ⟨f, rfl⟩ : ∃ f : Nat, b = f := ⟨b.toNat, by omega⟩
  have hb0 : (f : Int) ≠ 0 := by omega
  have h1 := Int.emod_nonneg a hb0
  obtain ⟨n, hn⟩ : ∃ n : Nat, a % f = n := ⟨(a % f).toNat, by omega⟩
  have hgn : Nat.gcd n f = 1 := by
    have : Int.gcd (n : Int) f = 1 := by rw [← hn, gcd_emod_left]; exact hg
    exact this
  rw [sawQ_sum hb hg, Int.toNat_natCast, DD_mod (a := a) (c := n) (by rw [← hn]; exact (Int.emod_emod_of_dvd _ (Int.dvd_refl _)).symm)]
  have e := DD_val (a := n) (b := f) (by omega) hgn
  obtain ⟨k, hk⟩ := even_bb f
  refine ⟨(n : Int) * (f - 1) * (2 * f - 1) - 6 * PP n f - 3 * k, ?_⟩
  have e3 : 3 * DD (n : Int) f = 2 * f * ((n : Int) * (f - 1) * (2 * f - 1) - 6 * PP n f - 3 * k) := by grind
  have e4 := congrArg (Int.cast : Int → Rat) e3
  generalize ((n : Int) * (f - 1) * (2 * f - 1) - 6 * PP n f - 3 * k) = z at e4 ⊢
  simp only [Rat.intCast_mul] at e4
  exact rat6 (ratNe hb0) e4
/-- what is left by 12 S -/
theorem sawQ_twelve {a b x : Int} (hb : 1 ≤ b) (hg : Int.gcd a b = 1) (h : a * x % b = 1 % b) : ∃ k : Int, ((x : Rat) + a) / b - 12 * sawQ a b = (k : Rat) := by
  obtain ⟨f, rfl⟩ : ∃ f : Nat, b = f := ⟨b.toNat, by omega⟩
  have hb0 : (f : Int) ≠ 0 := by omega
  have h1 := Int.emod_nonneg a hb0
  obtain ⟨n, hn⟩ : ∃ n : Nat, a % f = n := ⟨(a % f).toNat, by omega⟩
  have hgn : Nat.gcd n f = 1 := by
    have : Int.gcd (n : Int) f = 1 := by rw [← hn, gcd_emod_left]; exact hg
    exact this
  rw [sawQ_sum hb hg, Int.toNat_natCast, DD_mod (a := a) (c := n) (by rw [← hn]; exact (Int.emod_emod_of_dvd _ (Int.dvd_refl _)).symm)]
  have e := DD_val (a := n) (b := f) (by omega) hgn
  have e2 := L2 (a := n) (b := f) (by omega) hgn
  obtain ⟨t, ht⟩ : ∃ t : Int, a = n + f * t := ⟨a / f, by have := Int.emod_add_mul_ediv a f; rw [hn] at this; exact this.symm⟩
  obtain ⟨u, hu⟩ : ∃ u : Int, a * x = 1 + f * u := by
    have d : (f : Int) ∣ a * x - 1 := Int.dvd_of_emod_eq_zero (by rw [Int.sub_emod, h, Int.sub_self]; rfl)
    obtain ⟨u, hu⟩ := d
    exact ⟨u, by omega⟩
  have hnx : (n : Int) * x = 1 + f * (u - t * x) := poly3 ht hu
  obtain ⟨v, hv⟩ : ∃ v, v = u - t * x := ⟨_, rfl⟩
  rw [← hv] at hnx
  obtain ⟨Qq, hQ⟩ : ∃ Qq, Qq = sm f (fun i => qq n f i * qq n f i) := ⟨_, rfl⟩
  rw [← hQ] at e2
  have hw := poly4 e2 hnx
  have hz := poly5 (t := t) e hw
  rw [← ht] at hz
  obtain ⟨k, hk⟩ : ∃ k : Int, (f : Int) * (x + a) - 3 * DD n f = f * f * k := ⟨_, hz⟩
  refine ⟨k, ?_⟩
  have e4 := congrArg (Int.cast : Int → Rat) hk
  rw [Rat.intCast_sub, Rat.intCast_mul, Rat.intCast_mul, Rat.intCast_mul (_ * _), Rat.intCast_mul, Rat.intCast_add] at e4
  exact rat12 (ratNe hb0) e4
theorem sawQ_one {b : Int} (hb : 1 ≤ b) : sawQ 1 b = ((b : Rat) - 1) * (b - 2) / (12 * b) := by
  have e := sawQ_recip (a := 1) (b := b) (by omega) hb (by simp)
  have e1 : sawQ b 1 = 0 := by
    unfold sawQ
    rw [Int.emod_one]
    exact sawE0
  rw [e1, partQ_eq] at e
  have hb0 := ratNe (b := b) (by omega)
  have e2 : sawQ 1 b = ((1 : Int) * (1 : Int) + b * b + 1) / (12 * (1 : Int) * b) - 1 / 4 := by grind
  rw [e2]
  generalize (b : Rat) = B at *
  obtain ⟨j, hj⟩ : ∃ j, B * j = 1 := ⟨B⁻¹, Rat.mul_inv_cancel _ hb0⟩
  have e5 : (12 * ((1 : Int) : Rat) * B)⁻¹ = (1/12) * j := inv2 (by grind)
  have e6 : (12 * B)⁻¹ = (1/12) * j := inv2 (by grind)
  rw [Rat.div_def, Rat.div_def (_ * _), e5, e6]
  grind
end LD
namespace LD
theorem toothQ_eq {z b : Int} (hb : 1 ≤ b) : toothQ z b = ((FI b.toNat z : Int) : Rat) / (2 * b) := by
  have e : (b.toNat : Int) = b := Int.toNat_of_nonneg (by omega)
  unfold toothQ FI
  rw [e]
  split
  · rw [Rat.div_def]; grind
  · rw [Rat.divInt_eq_div, Rat.intCast_mul]; rfl
theorem FI_bound {b : Nat} (hb : 1 ≤ b) (z : Int) : (FI b z).natAbs ≤ b := by
  unfold FI
  have h1 := Int.emod_nonneg z (show (b : Int) ≠ 0 by omega)
  have h2 := Int.emod_lt_of_pos z (show (0 : Int) < b by omega)
  split <;> omega
theorem sm_bound {n c : Nat} {f : Nat → Int} (h : ∀ i, (f i).natAbs ≤ c) : (sm n f).natAbs ≤ n * c := by
  induction n with
  | zero => simp [sm]
  | succ n ih =>
    rw [sm_succ]
    have := Int.natAbs_add_le (sm n f) (f n)
    have := h n
    rw [Nat.add_mul]
    omega
theorem sm_shift {t : Nat} (ht : 1 ≤ t) (k : Nat) (g : Nat → Int) : sm t (fun j => g ((k + j) % t)) = sm t g := by
  have s1 : sm t (fun j => g ((k + j) % t)) = sm t fun j => sm t fun u => if (k + j) % t = u then g u else 0 := by
    refine sm_congr fun j hj => ?_
    have hr : (k + j) % t < t := Nat.mod_lt _ (by omega)
    rw [sm_congr (f := fun u => if (k + j) % t = u then g u else 0) (g := fun u => if (k + j) % t = u then g ((k + j) % t) else 0) fun u hu => ?_]
    · rw [sm_one (p := fun u => (k + j) % t = u) _ hr fun u hu => ⟨fun h => h.symm, fun h => h.symm⟩]
    · split
      · rename_i q; rw [q]
      · rfl
  rw [s1, sm_swap]
  refine sm_congr fun u hu => ?_
  have hk : k % t < t := Nat.mod_lt _ (by omega)
  refine sm_one (p := fun j => (k + j) % t = u) (i0 := (u + (t - k % t)) % t) _ (Nat.mod_lt _ (by omega)) fun j hj => ?_
  have e1 : (k + j) % t = (k % t + j) % t := by rw [Nat.add_mod, Nat.add_mod (k % t) j, Nat.mod_mod]
  rw [e1]
  generalize k % t = r at *
  have e2 : (r + j) % t = if r + j < t then r + j else r + j - t := by
    split
    · exact Nat.mod_eq_of_lt (by omega)
    · rw [Nat.mod_eq_sub_mod (by omega)]
      exact Nat.mod_eq_of_lt (by omega)
  have e3 : (u + (t - r)) % t = if u + (t - r) < t then u + (t - r) else u + (t - r) - t := by
    split
    · exact Nat.mod_eq_of_lt (by omega)
    · rw [Nat.mod_eq_sub_mod (by omega)]
      exact Nat.mod_eq_of_lt (by omega)
  rw [e2, e3]
  split <;> split <;> omega
/-- sawteeth at parts -/
theorem teeth_parts {b t k : Nat} (hb : 1 ≤ b) (ht : 1 ≤ t) : sm t (fun j => FI (b * t) ((k : Int) + j * b)) = t * FI b k := by
  have hr : k % b < b := Nat.mod_lt _ (by omega)
  have hk := Nat.div_add_mod k b
  have e1 : ∀ j : Nat, (((k : Int) + j * b) % ((b * t : Nat) : Int)) = ((b * ((k / b + j) % t) + k % b : Nat) : Int) := fun j => by
    have h1 : ((k : Int) + j * b) = ((k + j * b : Nat) : Int) := by push_cast; rfl
    rw [h1]
    have h2 : (k + j * b) % (b * t) = b * ((k / b + j) % t) + k % b := by
      have h3 : k + j * b = b * (k / b + j) + k % b := by
        rw [Nat.mul_add, Nat.mul_comm j b]
        omega
      have h4 := Nat.div_add_mod (k / b + j) t
      have h5 : (k / b + j) % t < t := Nat.mod_lt _ (by omega)
      have h6 : k + j * b = b * t * ((k / b + j) / t) + (b * ((k / b + j) % t) + k % b) := by
        rw [h3]
        conv => lhs; rw [← h4]
        grind
      have h7 : b * ((k / b + j) % t) + k % b < b * t := by
        have : b * ((k / b + j) % t + 1) ≤ b * t := Nat.mul_le_mul_left b h5
        rw [Nat.mul_add] at this
        omega
      rw [h6, Nat.mul_add_mod, Nat.mod_eq_of_lt h7]
    exact_mod_cast h2
  have e2 : sm t (fun j => FI (b * t) ((k : Int) + j * b)) = sm t fun j => (fun u : Nat => if b * u + k % b = 0 then (0 : Int) else 2 * ((b * u + k % b : Nat) : Int) - (b * t : Nat)) ((k / b + j) % t) := by
    refine sm_congr fun j hj => ?_
    unfold FI
    rw [e1 j]
    dsimp only
    split
    · rw [if_pos (by omega)]
    · rw [if_neg (by omega)]
  rw [e2, sm_shift ht (k / b) (fun u : Nat => if b * u + k % b = 0 then (0 : Int) else 2 * ((b * u + k % b : Nat) : Int) - (b * t : Nat))]
  have e3 := sm_i (n := t)
  have hm : (k : Int) % b = ((k % b : Nat) : Int) := by push_cast; rfl
  unfold FI
  rw [hm]
  by_cases h0 : k % b = 0
  · rw [h0, show (if ((0 : Nat) : Int) = 0 then (0 : Int) else 2 * ((0 : Nat) : Int) - (b : Int)) = 0 from if_pos rfl, Int.mul_zero]
    have e4 : sm t (fun u => if b * u + 0 = 0 then (0 : Int) else 2 * ((b * u + 0 : Nat) : Int) - (b * t : Nat)) = sm t fun u => (2 * b) * (u : Int) + (-((b * t : Nat) : Int) + if u = 0 then ((b * t : Nat) : Int) else 0) := by
      refine sm_congr fun u _ => ?_
      by_cases hu : u = 0
      · subst hu
        simp
        grind
      · have : b * u ≠ 0 := Nat.mul_ne_zero (by omega) hu
        rw [if_neg (by omega), if_neg hu]
        push_cast
        grind
    rw [e4, sm_add, sm_mul, sm_add, sm_const, sm_one (p := fun u => u = 0) (i0 := 0) _ (by omega) fun u _ => Iff.rfl]
    push_cast
    grind
  · rw [if_neg (by omega)]
    have e4 : sm t (fun u => if b * u + k % b = 0 then (0 : Int) else 2 * ((b * u + k % b : Nat) : Int) - (b * t : Nat)) = sm t fun u => (2 * b) * (u : Int) + (2 * ((k % b : Nat) : Int) - ((b * t : Nat) : Int)) := by
      refine sm_congr fun u _ => ?_
      rw [if_neg (by omega)]
      push_cast
      grind
    rw [e4, sm_add, sm_mul, sm_const]
    push_cast
    grind
end LD
namespace LD
open PySem PySem.Spec PyProof.Rows L2
abbrev b__law_gcd : Ss := (.cons (.asg (.tp (.cons (.nm 0) (.cons (.nm 1) .nil))) (.tup (.cons (.bi .abs (.cons (.v 0) .nil)) (.cons (.bi .abs (.cons (.v 1) .nil)) .nil)))) (.cons (.whl (.cmp .Gt (.v 1) (.c (.int 0))) (.cons (.asg (.tp (.cons (.nm 0) (.cons (.nm 1) .nil))) (.tup (.cons (.v 1) (.cons (.bin .Mod (.v 0) (.v 1)) .nil)))) .nil)) (.cons (.ret (.v 0)) .nil)))
abbrev b__law_cut (i__law_gcd : Nat) : Ss := (.cons (.asg (.nm 2) (.call i__law_gcd (.cons (.v 0) (.cons (.v 1) .nil)) .nil [0, 1])) (.cons (.asg (.nm 2) (.ite (.cmp .Gt (.v 1) (.c (.int 0))) (.v 2) (.bin .Sub (.c (.int 0)) (.v 2)))) (.cons (.ret (.tup (.cons (.bin .FloorDiv (.v 0) (.v 2)) (.cons (.bin .FloorDiv (.v 1) (.v 2)) .nil)))) .nil)))
abbrev b__law_bezout : Ss := (.cons (.asg (.tp (.cons (.nm 2) (.cons (.nm 3) (.cons (.nm 4) (.cons (.nm 5) (.cons (.nm 6) (.cons (.nm 7) .nil))))))) (.tup (.cons (.v 0) (.cons (.v 1) (.cons (.c (.int 1)) (.cons (.c (.int 0)) (.cons (.c (.int 0)) (.cons (.c (.int 1)) .nil)))))))) (.cons (.whl (.cmp .NotEq (.v 3) (.c (.int 0))) (.cons (.asg (.nm 8) (.bin .FloorDiv (.v 2) (.v 3))) (.cons (.asg (.tp (.cons (.nm 2) (.cons (.nm 3) (.cons (.nm 4) (.cons (.nm 5) (.cons (.nm 6) (.cons (.nm 7) .nil))))))) (.tup (.cons (.v 3) (.cons (.bin .Sub (.v 2) (.bin .Mult (.v 8) (.v 3))) (.cons (.v 6) (.cons (.v 7) (.cons (.bin .Sub (.v 4) (.bin .Mult (.v 8) (.v 6))) (.cons (.bin .Sub (.v 5) (.bin .Mult (.v 8) (.v 7))) .nil)))))))) .nil))) (.cons (.ret (.ite (.cmp .Eq (.v 2) (.c (.int 1))) (.tup (.cons (.v 4) (.cons (.v 5) .nil))) (.tup (.cons (.bin .Sub (.c (.int 0)) (.v 4)) (.cons (.bin .Sub (.c (.int 0)) (.v 5)) .nil))))) .nil)))
abbrev b_is_move_of (i_are_numbers : Nat) : Ss := (.cons (.iff (.or (.not (.call i_are_numbers (.cons (.v 0) (.cons (.c (.int 4)) .nil)) .nil [0, 1])) (.cmp .NotEq (.bin .Sub (.bin .Mult (.ix (.v 0) (.c (.int 0))) (.ix (.v 0) (.c (.int 3)))) (.bin .Mult (.ix (.v 0) (.c (.int 1))) (.ix (.v 0) (.c (.int 2))))) (.c (.int 1)))) (.cons (.ret (.c (.bl false))) .nil) .nil) (.cons (.ret (.or (.cmp .Gt (.ix (.v 0) (.c (.int 2))) (.c (.int 0))) (.and (.cmp .Eq (.ix (.v 0) (.c (.int 2))) (.c (.int 0))) (.cmp .Eq (.ix (.v 0) (.c (.int 3))) (.c (.int 1)))))) .nil))
abbrev b_sure_move (i_tupled : Nat) (i_is_move_of : Nat) : Ss := (.cons (.asg (.nm 1) (.call i_tupled (.cons (.v 0) .nil) .nil [0])) (.cons (.iff (.not (.call i_is_move_of (.cons (.v 1) .nil) .nil [0])) (.cons (.raise ("Unfit" : Str)) .nil) .nil) (.cons (.ret (.v 1)) .nil)))
abbrev b_whole_in (i_added : Nat) (i_lowest : Nat) (i_times : Nat) (i_saw_in : Nat) : Ss := (.cons (.asg (.tp (.cons (.nm 1) (.cons (.nm 2) (.cons (.nm 3) (.cons (.nm 4) .nil))))) (.v 0)) (.cons (.iff (.cmp .Eq (.v 3) (.c (.int 0))) (.cons (.ret (.v 2)) .nil) .nil) (.cons (.asg (.nm 5) (.call i_added (.cons (.call i_lowest (.cons (.bin .Add (.v 1) (.v 4)) (.cons (.v 3) .nil)) .nil [0, 1]) (.cons (.call i_times (.cons (.tup (.cons (.neg (.c (.int 12))) (.cons (.c (.int 1)) .nil))) (.cons (.call i_saw_in (.cons (.v 4) (.cons (.v 3) .nil)) .nil [0, 1]) .nil)) .nil [0, 1]) .nil)) .nil [0, 1])) (.cons (.ret (.ix (.v 5) (.c (.int 0)))) .nil))))
abbrev b_move_number (i_whole_in : Nat) (i_sure_move : Nat) : Ss := (.cons (.ret (.call i_whole_in (.cons (.call i_sure_move (.cons (.v 0) .nil) .nil [0]) .nil) .nil [0])) .nil)
abbrev b_teeth (i_sure_two : Nat) (i_times : Nat) (i_tooth : Nat) : Ss := (.cons (.asg (.tp (.cons (.nm 2) (.cons (.nm 3) .nil))) (.call i_sure_two (.cons (.v 0) (.cons (.v 1) .nil)) .nil [0, 1])) (.cons (.iff (.cmp .Gt (.v 3) (.c (.int 2000))) (.cons (.raise ("Unfit" : Str)) .nil) .nil) (.cons (.ret (.bi .tuple (.cons (.comp (.nm 4) (.rng2 (.c (.int 1)) (.v 3)) .nil (.call i_times (.cons (.call i_tooth (.cons (.v 4) (.cons (.v 3) .nil)) .nil [0, 1]) (.cons (.call i_tooth (.cons (.bin .Mult (.v 2) (.v 4)) (.cons (.v 3) .nil)) .nil [0, 1]) .nil)) .nil [0, 1]) [4]) .nil))) .nil)))
def sp_lgcd : Spec := pur (fun p : Int × Int => [.int p.1, .int p.2]) (fun _ _ => True) fun p => .int (Int.gcd p.1 p.2)
theorem run_lgcd {a b : Int} {μ : Mu} {X : Str → Mu → Prop} {Q : QD} : runK sp_lgcd [.int a, .int b] μ X Q ↔ True ∧ Q (.int (Int.gcd a b)) μ := pur_run inj_ii (a, b)
theorem m_lgcd {Φ : Nat → Spec} : Meets Φ 2 2 b__law_gcd sp_lgcd := pur_meets inj_ii fun ⟨a, b⟩ μ _ => by
  simp only [b__law_gcd, ↓e_v, ↓e_c, ↓e_bin, ↓e_neg, ↓e_cmp, ↓e_chn, ↓e_and, ↓e_or, ↓e_not, ↓e_ite, ↓e_tup, ↓e_lst, ↓e_ix, ↓e_sl, ↓e_rev, ↓e_call, ↓e_bi, ↓e_isi, ↓e_app, ↓e_ext, ↓e_pop, ↓e_comp, ↓es_nil, ↓es_cons, ↓if_nil, ↓if_cons, ↓o_no, ↓o_so, ↓s_ex', ↓s_ret', ↓s_retN', ↓s_asg', ↓s_sub', ↓s_aug', ↓s_iff', ↓s_whl', ↓s_for', ↓s_pass', ↓s_brk', ↓s_cont', ↓s_raise', ↓ss_nil', ↓ss_cons', ↓i_valE, ↓i_rng1E, ↓i_rng2E, ↓i_zipE, ↓i_enuE, ↓getK_s, ↓truK_t, ↓truK_f, ↓bK_s, ↓asgK_s, ↓atK_s, ↓seqK_s, ↓intsK_s, ↓blsK_s, ↓iteK_t, ↓iteK_f, ↓binD, ↓augD, ↓cmp_eq, ↓cmp_ne, ↓cmp_lt, ↓cmp_le, ↓cmp_gt, ↓cmp_ge, ↓cmp_is, ↓cmp_isn, ↓cmp_isN, ↓cmp_isnN, isNon, ↓ixD_int, ↓ixD_rod, atI0, atI1, atI2, atI3, ↓sl_tup, ↓sl_rol, ↓bi_len_tup, ↓bi_len_rol, ↓bi_len_ref, ↓bi_abs, ↓bi_int, ↓bi_intb, ↓bi_gcd, ↓bi_tup_tup, ↓bi_tup_rol, ↓bi_tup_ref, ↓bi_lst_tup, ↓bi_lst_rol, ↓bi_lst_ref, ↓bi_sum, ↓bi_sum_tup, ↓bi_sum_rol, ↓bi_all, ↓bi_any, ↓bi_max2, ↓bi_min2, tg_nm, tg_tp, tgsD, seqOf_tup, seqOf_rol, seqOf_up, seqL_rol, seqL_up', tru_non, tru_bl, tru_int, tru_tup, tru_rol, tru_up, ↓eq_int, isi_c, isi_int, isi_bl, isi_tup, isi_non, isi_str, isi_rol, tyN_up, tyN, List.getElem?_cons_zero, List.getElem?_cons_succ, List.set_cons_zero, List.set_cons_succ, permA, List.map_cons, List.map_nil, List.getD_cons_zero, List.getD_cons_succ, List.cons_append, List.nil_append, List.append_nil, List.replicate_succ, List.replicate_zero, RtP, ite_true, ite_false, if_true, if_false, Bool.false_eq_true, decide_true, decide_false, Bool.not_true, Bool.not_false, List.length_cons, List.length_nil]
  refine ⟨by decide, ?_⟩
  refine whlW_ind (fun m ρ μ' => μ' = μ ∧ ∃ x : Nat, ρ = [some (.int (x : Int)), some (.int (m : Int))] ∧ Nat.gcd x m = Int.gcd a b) b.natAbs ⟨rfl, a.natAbs, rfl, rfl⟩ ?_
  rintro m ρ μ' ⟨rfl, x, rfl, hg⟩
  by_cases h0 : m = 0
  · subst h0
    simp only [↓e_v, ↓e_c, ↓e_bin, ↓e_neg, ↓e_cmp, ↓e_chn, ↓e_and, ↓e_or, ↓e_not, ↓e_ite, ↓e_tup, ↓e_lst, ↓e_ix, ↓e_sl, ↓e_rev, ↓e_call, ↓e_bi, ↓e_isi, ↓e_app, ↓e_ext, ↓e_pop, ↓e_comp, ↓es_nil, ↓es_cons, ↓if_nil, ↓if_cons, ↓o_no, ↓o_so, ↓s_ex', ↓s_ret', ↓s_retN', ↓s_asg', ↓s_sub', ↓s_aug', ↓s_iff', ↓s_whl', ↓s_for', ↓s_pass', ↓s_brk', ↓s_cont', ↓s_raise', ↓ss_nil', ↓ss_cons', ↓i_valE, ↓i_rng1E, ↓i_rng2E, ↓i_zipE, ↓i_enuE, ↓getK_s, ↓truK_t, ↓truK_f, ↓bK_s, ↓asgK_s, ↓atK_s, ↓seqK_s, ↓intsK_s, ↓blsK_s, ↓iteK_t, ↓iteK_f, ↓binD, ↓augD, ↓cmp_eq, ↓cmp_ne, ↓cmp_lt, ↓cmp_le, ↓cmp_gt, ↓cmp_ge, ↓cmp_is, ↓cmp_isn, ↓cmp_isN, ↓cmp_isnN, isNon, ↓ixD_int, ↓ixD_rod, atI0, atI1, atI2, atI3, ↓sl_tup, ↓sl_rol, ↓bi_len_tup, ↓bi_len_rol, ↓bi_len_ref, ↓bi_abs, ↓bi_int, ↓bi_intb, ↓bi_gcd, ↓bi_tup_tup, ↓bi_tup_rol, ↓bi_tup_ref, ↓bi_lst_tup, ↓bi_lst_rol, ↓bi_lst_ref, ↓bi_sum, ↓bi_sum_tup, ↓bi_sum_rol, ↓bi_all, ↓bi_any, ↓bi_max2, ↓bi_min2, tg_nm, tg_tp, tgsD, seqOf_tup, seqOf_rol, seqOf_up, seqL_rol, seqL_up', tru_non, tru_bl, tru_int, tru_tup, tru_rol, tru_up, ↓eq_int, isi_c, isi_int, isi_bl, isi_tup, isi_non, isi_str, isi_rol, tyN_up, tyN, List.getElem?_cons_zero, List.getElem?_cons_succ, List.set_cons_zero, List.set_cons_succ, permA, List.map_cons, List.map_nil, List.getD_cons_zero, List.getD_cons_succ, List.cons_append, List.nil_append, List.append_nil, List.replicate_succ, List.replicate_zero, RtP, ite_true, ite_false, if_true, if_false, Bool.false_eq_true, decide_true, decide_false, Bool.not_true, Bool.not_false, List.length_cons, List.length_nil, show decide ((0 : Int) < ((0 : Nat) : Int)) = false from rfl]
    refine ⟨.refl, ?_⟩
    rw [← hg, Nat.gcd_zero_right]
  · have hm : (0 : Int) < m := by omega
    simp only [↓e_v, ↓e_c, ↓e_bin, ↓e_neg, ↓e_cmp, ↓e_chn, ↓e_and, ↓e_or, ↓e_not, ↓e_ite, ↓e_tup, ↓e_lst, ↓e_ix, ↓e_sl, ↓e_rev, ↓e_call, ↓e_bi, ↓e_isi, ↓e_app, ↓e_ext, ↓e_pop, ↓e_comp, ↓es_nil, ↓es_cons, ↓if_nil, ↓if_cons, ↓o_no, ↓o_so, ↓s_ex', ↓s_ret', ↓s_retN', ↓s_asg', ↓s_sub', ↓s_aug', ↓s_iff', ↓s_whl', ↓s_for', ↓s_pass', ↓s_brk', ↓s_cont', ↓s_raise', ↓ss_nil', ↓ss_cons', ↓i_valE, ↓i_rng1E, ↓i_rng2E, ↓i_zipE, ↓i_enuE, ↓getK_s, ↓truK_t, ↓truK_f, ↓bK_s, ↓asgK_s, ↓atK_s, ↓seqK_s, ↓intsK_s, ↓blsK_s, ↓iteK_t, ↓iteK_f, ↓binD, ↓augD, ↓cmp_eq, ↓cmp_ne, ↓cmp_lt, ↓cmp_le, ↓cmp_gt, ↓cmp_ge, ↓cmp_is, ↓cmp_isn, ↓cmp_isN, ↓cmp_isnN, isNon, ↓ixD_int, ↓ixD_rod, atI0, atI1, atI2, atI3, ↓sl_tup, ↓sl_rol, ↓bi_len_tup, ↓bi_len_rol, ↓bi_len_ref, ↓bi_abs, ↓bi_int, ↓bi_intb, ↓bi_gcd, ↓bi_tup_tup, ↓bi_tup_rol, ↓bi_tup_ref, ↓bi_lst_tup, ↓bi_lst_rol, ↓bi_lst_ref, ↓bi_sum, ↓bi_sum_tup, ↓bi_sum_rol, ↓bi_all, ↓bi_any, ↓bi_max2, ↓bi_min2, tg_nm, tg_tp, tgsD, seqOf_tup, seqOf_rol, seqOf_up, seqL_rol, seqL_up', tru_non, tru_bl, tru_int, tru_tup, tru_rol, tru_up, ↓eq_int, isi_c, isi_int, isi_bl, isi_tup, isi_non, isi_str, isi_rol, tyN_up, tyN, List.getElem?_cons_zero, List.getElem?_cons_succ, List.set_cons_zero, List.set_cons_succ, permA, List.map_cons, List.map_nil, List.getD_cons_zero, List.getD_cons_succ, List.cons_append, List.nil_append, List.append_nil, List.replicate_succ, List.replicate_zero, RtP, ite_true, ite_false, if_true, if_false, Bool.false_eq_true, decide_true, decide_false, Bool.not_true, Bool.not_false, List.length_cons, List.length_nil, decide_eq_true hm, fmod_pos hm]
    refine ⟨by omega, by decide, x % m, Nat.mod_lt _ (by omega), trivial, m, rfl, ?_⟩
    rw [← hg, Nat.gcd_comm m, ← Nat.gcd_rec, Nat.gcd_comm]
theorem ite_neg' {b : Int} {g : Int} : (if b > 0 then g else 0 - g) = g * (if b > 0 then 1 else -1) := by
  split <;> omega
theorem m_lcut {Φ : Nat → Spec} {i : Nat} (hi : Φ i = sp_lgcd) : Meets Φ 2 3 (b__law_cut i) sp_lowest := pur_meets inj_ii fun ⟨a, b⟩ μ h => by
  obtain ⟨h0, h1⟩ := h
  dsimp only at h0 h1
  have hg := gcd_pos (a := a) h0
  have hl := gcd_le (a := a) h0
  have hd : (Int.gcd a b : Int) * (if b > 0 then 1 else -1) ≠ 0 := by split <;> omega
  have hz : ((Int.gcd a b : Int) * (if b > 0 then 1 else -1)).natAbs.log2 < 9000 := by
    refine Nat.lt_of_lt_of_le (Sz.log2 (h1.of_le ?_) hd) (by decide)
    split <;> omega
  have e1 := num_fdiv (a := a) h0
  have e2 := den_fdiv (a := a) h0
  rw [← ite_neg'] at e1 e2 hd hz
  by_cases hb : (0 : Int) < b
  · rw [if_pos hb] at e1 e2 hd hz
    simp only [b__law_cut, decide_true, hb, ↓e_v, ↓e_c, ↓e_bin, ↓e_neg, ↓e_cmp, ↓e_chn, ↓e_and, ↓e_or, ↓e_not, ↓e_ite, ↓e_tup, ↓e_lst, ↓e_ix, ↓e_sl, ↓e_rev, ↓e_call, ↓e_bi, ↓e_isi, ↓e_app, ↓e_ext, ↓e_pop, ↓e_comp, ↓es_nil, ↓es_cons, ↓if_nil, ↓if_cons, ↓o_no, ↓o_so, ↓s_ex', ↓s_ret', ↓s_retN', ↓s_asg', ↓s_sub', ↓s_aug', ↓s_iff', ↓s_whl', ↓s_for', ↓s_pass', ↓s_brk', ↓s_cont', ↓s_raise', ↓ss_nil', ↓ss_cons', ↓i_valE, ↓i_rng1E, ↓i_rng2E, ↓i_zipE, ↓i_enuE, ↓getK_s, ↓truK_t, ↓truK_f, ↓bK_s, ↓asgK_s, ↓atK_s, ↓seqK_s, ↓intsK_s, ↓blsK_s, ↓iteK_t, ↓iteK_f, ↓binD, ↓augD, ↓cmp_eq, ↓cmp_ne, ↓cmp_lt, ↓cmp_le, ↓cmp_gt, ↓cmp_ge, ↓cmp_is, ↓cmp_isn, ↓cmp_isN, ↓cmp_isnN, isNon, ↓ixD_int, ↓ixD_rod, atI0, atI1, atI2, atI3, ↓sl_tup, ↓sl_rol, ↓bi_len_tup, ↓bi_len_rol, ↓bi_len_ref, ↓bi_abs, ↓bi_int, ↓bi_intb, ↓bi_gcd, ↓bi_tup_tup, ↓bi_tup_rol, ↓bi_tup_ref, ↓bi_lst_tup, ↓bi_lst_rol, ↓bi_lst_ref, ↓bi_sum, ↓bi_sum_tup, ↓bi_sum_rol, ↓bi_all, ↓bi_any, ↓bi_max2, ↓bi_min2, tg_nm, tg_tp, tgsD, seqOf_tup, seqOf_rol, seqOf_up, seqL_rol, seqL_up', tru_non, tru_bl, tru_int, tru_tup, tru_rol, tru_up, ↓eq_int, isi_c, isi_int, isi_bl, isi_tup, isi_non, isi_str, isi_rol, tyN_up, tyN, List.getElem?_cons_zero, List.getElem?_cons_succ, List.set_cons_zero, List.set_cons_succ, permA, List.map_cons, List.map_nil, List.getD_cons_zero, List.getD_cons_succ, List.cons_append, List.nil_append, List.append_nil, List.replicate_succ, List.replicate_zero, RtP, ite_true, ite_false, if_true, if_false, Bool.false_eq_true, decide_true, decide_false, Bool.not_true, Bool.not_false, List.length_cons, List.length_nil, hi, run_lgcd, true_and]
    refine ⟨⟨hd, hz⟩, ⟨hd, hz⟩, by decide, .refl, ?_⟩
    rw [e1, e2]
    rfl
  · rw [if_neg hb] at e1 e2 hd hz
    simp only [b__law_cut, decide_false, hb, ↓e_v, ↓e_c, ↓e_bin, ↓e_neg, ↓e_cmp, ↓e_chn, ↓e_and, ↓e_or, ↓e_not, ↓e_ite, ↓e_tup, ↓e_lst, ↓e_ix, ↓e_sl, ↓e_rev, ↓e_call, ↓e_bi, ↓e_isi, ↓e_app, ↓e_ext, ↓e_pop, ↓e_comp, ↓es_nil, ↓es_cons, ↓if_nil, ↓if_cons, ↓o_no, ↓o_so, ↓s_ex', ↓s_ret', ↓s_retN', ↓s_asg', ↓s_sub', ↓s_aug', ↓s_iff', ↓s_whl', ↓s_for', ↓s_pass', ↓s_brk', ↓s_cont', ↓s_raise', ↓ss_nil', ↓ss_cons', ↓i_valE, ↓i_rng1E, ↓i_rng2E, ↓i_zipE, ↓i_enuE, ↓getK_s, ↓truK_t, ↓truK_f, ↓bK_s, ↓asgK_s, ↓atK_s, ↓seqK_s, ↓intsK_s, ↓blsK_s, ↓iteK_t, ↓iteK_f, ↓binD, ↓augD, ↓cmp_eq, ↓cmp_ne, ↓cmp_lt, ↓cmp_le, ↓cmp_gt, ↓cmp_ge, ↓cmp_is, ↓cmp_isn, ↓cmp_isN, ↓cmp_isnN, isNon, ↓ixD_int, ↓ixD_rod, atI0, atI1, atI2, atI3, ↓sl_tup, ↓sl_rol, ↓bi_len_tup, ↓bi_len_rol, ↓bi_len_ref, ↓bi_abs, ↓bi_int, ↓bi_intb, ↓bi_gcd, ↓bi_tup_tup, ↓bi_tup_rol, ↓bi_tup_ref, ↓bi_lst_tup, ↓bi_lst_rol, ↓bi_lst_ref, ↓bi_sum, ↓bi_sum_tup, ↓bi_sum_rol, ↓bi_all, ↓bi_any, ↓bi_max2, ↓bi_min2, tg_nm, tg_tp, tgsD, seqOf_tup, seqOf_rol, seqOf_up, seqL_rol, seqL_up', tru_non, tru_bl, tru_int, tru_tup, tru_rol, tru_up, ↓eq_int, isi_c, isi_int, isi_bl, isi_tup, isi_non, isi_str, isi_rol, tyN_up, tyN, List.getElem?_cons_zero, List.getElem?_cons_succ, List.set_cons_zero, List.set_cons_succ, permA, List.map_cons, List.map_nil, List.getD_cons_zero, List.getD_cons_succ, List.cons_append, List.nil_append, List.append_nil, List.replicate_succ, List.replicate_zero, RtP, ite_true, ite_false, if_true, if_false, Bool.false_eq_true, decide_true, decide_false, Bool.not_true, Bool.not_false, List.length_cons, List.length_nil, hi, run_lgcd, true_and]
    refine ⟨⟨hd, hz⟩, ⟨hd, hz⟩, by decide, .refl, ?_⟩
    rw [e1, e2]
    rfl
/-! numbers x, y with x a + y b = 1 -/
def sp_bez : Spec := fam (fun p : Int × Int => [.int p.1, .int p.2]) (fun p _ => 1 ≤ p.1 ∧ p.1 < 2 ^ 62 ∧ 1 ≤ p.2 ∧ p.2 < 2 ^ 62 ∧ Int.gcd p.1 p.2 = 1) fun p μ d μ' => μ' = μ ∧ ∃ x y : Int, d = .tup [.int x, .int y] ∧ x * p.1 + y * p.2 = 1 ∧ x.natAbs ≤ p.2.natAbs
theorem bez_run {a b : Int} {μ : Mu} {X : Str → Mu → Prop} {Q : QD} (h : 1 ≤ a ∧ a < 2 ^ 62 ∧ 1 ≤ b ∧ b < 2 ^ 62 ∧ Int.gcd a b = 1) (q : ∀ x y : Int, x * a + y * b = 1 → x.natAbs ≤ b.natAbs → Q (.tup [.int x, .int y]) μ) : sp_bez.run [.int a, .int b] μ X Q := by
  refine fam_run (args := fun p : Int × Int => [.int p.1, .int p.2]) (pre := fun p _ => 1 ≤ p.1 ∧ p.1 < 2 ^ 62 ∧ 1 ≤ p.2 ∧ p.2 < 2 ^ 62 ∧ Int.gcd p.1 p.2 = 1) (a, b) h fun d μ' h => ?_
  obtain ⟨rfl, x, y, rfl, h1, h2⟩ := h
  exact q x y h1 h2
theorem bez_alg {A B a b x y u v s X U q : Int} (e1 : x * A + y * B = a) (e2 : u * A + v * B = b) (ex : x = s * X) (eu : u = -(s * U)) (eb : U * a + X * b = B) :
    (u * A + v * B = b) ∧ ((x - q * u) * A + (y - q * v) * B = a - q * b) ∧ u = -s * U ∧ x - q * u = -(-s * (X + q * U)) ∧ (X + q * U) * b + U * (a - q * b) = B := by
  subst ex eu
  refine ⟨e2, by grind, by grind, by grind, by grind⟩
theorem m_bez {Φ : Nat → Spec} : Meets Φ 2 9 b__law_bezout sp_bez := fam_meets (fun i j _ e _ _ => inj_ii i j e) fun ⟨A, B⟩ μ h => by
  obtain ⟨hA, hA2, hB, hB2, hg⟩ := h
  dsimp only at hA hA2 hB hB2 hg
  simp only [b__law_bezout, ↓e_v, ↓e_c, ↓e_bin, ↓e_neg, ↓e_cmp, ↓e_chn, ↓e_and, ↓e_or, ↓e_not, ↓e_ite, ↓e_tup, ↓e_lst, ↓e_ix, ↓e_sl, ↓e_rev, ↓e_call, ↓e_bi, ↓e_isi, ↓e_app, ↓e_ext, ↓e_pop, ↓e_comp, ↓es_nil, ↓es_cons, ↓if_nil, ↓if_cons, ↓o_no, ↓o_so, ↓s_ex', ↓s_ret', ↓s_retN', ↓s_asg', ↓s_sub', ↓s_aug', ↓s_iff', ↓s_whl', ↓s_for', ↓s_pass', ↓s_brk', ↓s_cont', ↓s_raise', ↓ss_nil', ↓ss_cons', ↓i_valE, ↓i_rng1E, ↓i_rng2E, ↓i_zipE, ↓i_enuE, ↓getK_s, ↓truK_t, ↓truK_f, ↓bK_s, ↓asgK_s, ↓atK_s, ↓seqK_s, ↓intsK_s, ↓blsK_s, ↓iteK_t, ↓iteK_f, ↓binD, ↓augD, ↓cmp_eq, ↓cmp_ne, ↓cmp_lt, ↓cmp_le, ↓cmp_gt, ↓cmp_ge, ↓cmp_is, ↓cmp_isn, ↓cmp_isN, ↓cmp_isnN, isNon, ↓ixD_int, ↓ixD_rod, atI0, atI1, atI2, atI3, ↓sl_tup, ↓sl_rol, ↓bi_len_tup, ↓bi_len_rol, ↓bi_len_ref, ↓bi_abs, ↓bi_int, ↓bi_intb, ↓bi_gcd, ↓bi_tup_tup, ↓bi_tup_rol, ↓bi_tup_ref, ↓bi_lst_tup, ↓bi_lst_rol, ↓bi_lst_ref, ↓bi_sum, ↓bi_sum_tup, ↓bi_sum_rol, ↓bi_all, ↓bi_any, ↓bi_max2, ↓bi_min2, tg_nm, tg_tp, tgsD, seqOf_tup, seqOf_rol, seqOf_up, seqL_rol, seqL_up', tru_non, tru_bl, tru_int, tru_tup, tru_rol, tru_up, ↓eq_int, isi_c, isi_int, isi_bl, isi_tup, isi_non, isi_str, isi_rol, tyN_up, tyN, List.getElem?_cons_zero, List.getElem?_cons_succ, List.set_cons_zero, List.set_cons_succ, permA, List.map_cons, List.map_nil, List.getD_cons_zero, List.getD_cons_succ, List.cons_append, List.nil_append, List.append_nil, List.replicate_succ, List.replicate_zero, RtP, ite_true, ite_false, if_true, if_false, Bool.false_eq_true, decide_true, decide_false, Bool.not_true, Bool.not_false, List.length_cons, List.length_nil]
  refine ⟨by decide, ?_⟩
  refine whlW_ind (fun m ρ μ' => μ' = μ ∧ ∃ (a x y u v s X U : Int) (z : Option D), ρ = [some (.int A), some (.int B), some (.int a), some (.int (m : Int)), some (.int x), some (.int y), some (.int u), some (.int v), z] ∧ 1 ≤ a ∧ a < 2 ^ 62 ∧ (m : Int) < 2 ^ 62 ∧ Int.gcd a m = 1 ∧ x * A + y * B = a ∧ u * A + v * B = m ∧ x = s * X ∧ u = -(s * U) ∧ U * a + X * m = B ∧ 0 ≤ X ∧ 0 ≤ U ∧ X ≤ B ∧ (s = 1 ∨ s = -1)) B.toNat ?_ ?_
  · refine ⟨rfl, A, 1, 0, 0, 1, 1, 1, 0, none, ?_, hA, hA2, by omega, ?_, by omega, by omega, by omega, by omega, by omega, by omega, by omega, hB, .inl rfl⟩
    · rw [Int.toNat_of_nonneg (by omega)]
    · rw [Int.toNat_of_nonneg (by omega)]; exact hg
  · rintro m ρ μ' ⟨rfl, a, x, y, u, v, s, X, U, z, rfl, h1, h2, h3, hgm, e1, e2, ex, eu, eb, hX, hU, hXB, hs⟩
    by_cases h0 : m = 0
    · subst h0
      have ea : a = 1 := by
        have : Int.gcd a ((0 : Nat) : Int) = a.natAbs := by simp
        omega
      subst ea
      simp only [↓e_v, ↓e_c, ↓e_bin, ↓e_neg, ↓e_cmp, ↓e_chn, ↓e_and, ↓e_or, ↓e_not, ↓e_ite, ↓e_tup, ↓e_lst, ↓e_ix, ↓e_sl, ↓e_rev, ↓e_call, ↓e_bi, ↓e_isi, ↓e_app, ↓e_ext, ↓e_pop, ↓e_comp, ↓es_nil, ↓es_cons, ↓if_nil, ↓if_cons, ↓o_no, ↓o_so, ↓s_ex', ↓s_ret', ↓s_retN', ↓s_asg', ↓s_sub', ↓s_aug', ↓s_iff', ↓s_whl', ↓s_for', ↓s_pass', ↓s_brk', ↓s_cont', ↓s_raise', ↓ss_nil', ↓ss_cons', ↓i_valE, ↓i_rng1E, ↓i_rng2E, ↓i_zipE, ↓i_enuE, ↓getK_s, ↓truK_t, ↓truK_f, ↓bK_s, ↓asgK_s, ↓atK_s, ↓seqK_s, ↓intsK_s, ↓blsK_s, ↓iteK_t, ↓iteK_f, ↓binD, ↓augD, ↓cmp_eq, ↓cmp_ne, ↓cmp_lt, ↓cmp_le, ↓cmp_gt, ↓cmp_ge, ↓cmp_is, ↓cmp_isn, ↓cmp_isN, ↓cmp_isnN, isNon, ↓ixD_int, ↓ixD_rod, atI0, atI1, atI2, atI3, ↓sl_tup, ↓sl_rol, ↓bi_len_tup, ↓bi_len_rol, ↓bi_len_ref, ↓bi_abs, ↓bi_int, ↓bi_intb, ↓bi_gcd, ↓bi_tup_tup, ↓bi_tup_rol, ↓bi_tup_ref, ↓bi_lst_tup, ↓bi_lst_rol, ↓bi_lst_ref, ↓bi_sum, ↓bi_sum_tup, ↓bi_sum_rol, ↓bi_all, ↓bi_any, ↓bi_max2, ↓bi_min2, tg_nm, tg_tp, tgsD, seqOf_tup, seqOf_rol, seqOf_up, seqL_rol, seqL_up', tru_non, tru_bl, tru_int, tru_tup, tru_rol, tru_up, ↓eq_int, isi_c, isi_int, isi_bl, isi_tup, isi_non, isi_str, isi_rol, tyN_up, tyN, List.getElem?_cons_zero, List.getElem?_cons_succ, List.set_cons_zero, List.set_cons_succ, permA, List.map_cons, List.map_nil, List.getD_cons_zero, List.getD_cons_succ, List.cons_append, List.nil_append, List.append_nil, List.replicate_succ, List.replicate_zero, RtP, ite_true, ite_false, if_true, if_false, Bool.false_eq_true, decide_true, decide_false, Bool.not_true, Bool.not_false, List.length_cons, List.length_nil, show decide (((0 : Nat) : Int) = 0) = true from rfl, show decide ((1 : Int) = 1) = true from rfl, Bool.not_true]
      refine ⟨show 2 ≤ sizeLine by decide, _, .refl, rfl, x, y, rfl, e1, ?_⟩
      dsimp only
      rcases hs with rfl | rfl <;> omega
    · have hm : (0 : Int) < m := by omega
      have hm0 : (m : Int) ≠ 0 := by omega
      have hml : (m : Int).natAbs.log2 < 9000 := Nat.lt_of_lt_of_le ((sz_of (n := 62) (by omega) (by omega)).log2 hm0) (by decide)
      have hq0 : 0 ≤ a / (m : Int) := Int.ediv_nonneg (by omega) (by omega)
      have hq1 : a / (m : Int) ≤ a := Int.ediv_le_self _ (by omega)
      have hsz : Sz 64 (a / (m : Int)) := sz_of (by omega) (by omega)
      have hr : a - a / (m : Int) * m = ((a % (m : Int)).toNat : Int) := by
        have := Int.emod_add_mul_ediv a m
        rw [Int.toNat_of_nonneg (Int.emod_nonneg _ hm0)]
        grind
      have hr2 := Int.emod_lt_of_pos a hm
      have hr3 := Int.emod_nonneg a hm0
      simp only [↓e_v, ↓e_c, ↓e_bin, ↓e_neg, ↓e_cmp, ↓e_chn, ↓e_and, ↓e_or, ↓e_not, ↓e_ite, ↓e_tup, ↓e_lst, ↓e_ix, ↓e_sl, ↓e_rev, ↓e_call, ↓e_bi, ↓e_isi, ↓e_app, ↓e_ext, ↓e_pop, ↓e_comp, ↓es_nil, ↓es_cons, ↓if_nil, ↓if_cons, ↓o_no, ↓o_so, ↓s_ex', ↓s_ret', ↓s_retN', ↓s_asg', ↓s_sub', ↓s_aug', ↓s_iff', ↓s_whl', ↓s_for', ↓s_pass', ↓s_brk', ↓s_cont', ↓s_raise', ↓ss_nil', ↓ss_cons', ↓i_valE, ↓i_rng1E, ↓i_rng2E, ↓i_zipE, ↓i_enuE, ↓getK_s, ↓truK_t, ↓truK_f, ↓bK_s, ↓asgK_s, ↓atK_s, ↓seqK_s, ↓intsK_s, ↓blsK_s, ↓iteK_t, ↓iteK_f, ↓binD, ↓augD, ↓cmp_eq, ↓cmp_ne, ↓cmp_lt, ↓cmp_le, ↓cmp_gt, ↓cmp_ge, ↓cmp_is, ↓cmp_isn, ↓cmp_isN, ↓cmp_isnN, isNon, ↓ixD_int, ↓ixD_rod, atI0, atI1, atI2, atI3, ↓sl_tup, ↓sl_rol, ↓bi_len_tup, ↓bi_len_rol, ↓bi_len_ref, ↓bi_abs, ↓bi_int, ↓bi_intb, ↓bi_gcd, ↓bi_tup_tup, ↓bi_tup_rol, ↓bi_tup_ref, ↓bi_lst_tup, ↓bi_lst_rol, ↓bi_lst_ref, ↓bi_sum, ↓bi_sum_tup, ↓bi_sum_rol, ↓bi_all, ↓bi_any, ↓bi_max2, ↓bi_min2, tg_nm, tg_tp, tgsD, seqOf_tup, seqOf_rol, seqOf_up, seqL_rol, seqL_up', tru_non, tru_bl, tru_int, tru_tup, tru_rol, tru_up, ↓eq_int, isi_c, isi_int, isi_bl, isi_tup, isi_non, isi_str, isi_rol, tyN_up, tyN, List.getElem?_cons_zero, List.getElem?_cons_succ, List.set_cons_zero, List.set_cons_succ, permA, List.map_cons, List.map_nil, List.getD_cons_zero, List.getD_cons_succ, List.cons_append, List.nil_append, List.append_nil, List.replicate_succ, List.replicate_zero, RtP, ite_true, ite_false, if_true, if_false, Bool.false_eq_true, decide_true, decide_false, Bool.not_true, Bool.not_false, List.length_cons, List.length_nil, decide_eq_false hm0, Bool.not_false, Int.fdiv_eq_ediv_of_nonneg a (Int.le_of_lt hm)]
      refine ⟨⟨hm0, hml⟩, mul64 hsz, mul64 hsz, mul64 hsz, by decide, (a % (m : Int)).toNat, by omega, trivial, ?_⟩
      obtain ⟨k1, k2, k3, k4, k5⟩ := bez_alg (q := a / (m : Int)) e1 e2 ex eu eb
      have hUB : U ≤ B := by
        have : U * 1 ≤ U * a := Int.mul_le_mul_of_nonneg_left h1 hU
        have : 0 ≤ X * m := Int.mul_nonneg hX (by omega)
        omega
      refine ⟨m, u, v, x - a / (m : Int) * u, y - a / (m : Int) * v, -s, U, X + a / (m : Int) * U, some (.int (a / (m : Int))), ?_, by omega, h3, by omega, ?_, k1, by rw [← hr]; exact k2, k3, k4, ?_, hU, ?_, hUB, by omega⟩
      · rw [← hr]
      · rw [Int.toNat_of_nonneg hr3, Int.gcd_comm, gcd_emod_left]
        exact hgm
      · rw [← hr]; exact k5
      · have := Int.mul_nonneg hq0 hU
        omega
end LD
namespace LD
open PySem PySem.Spec PyProof.Rows L2
/-- four numbers -/
abbrev I4 := Int × Int × Int × Int
def a4 (p : I4) : List D := [.tup [.int p.1, .int p.2.1, .int p.2.2.1, .int p.2.2.2]]
theorem inj_4 (i j : I4) (h : a4 i = a4 j) : i = j := by
  obtain ⟨a, b, c, d⟩ := i
  obtain ⟨a', b', c', d'⟩ := j
  simpa [a4] using h
/-- a move with a third number above 0 -/
def Mv (p : I4) : Prop := p.1 * p.2.2.2 - p.2.1 * p.2.2.1 = 1 ∧ 1 ≤ p.2.2.1 ∧ Sz 62 p.1 ∧ Sz 62 p.2.1 ∧ Sz 62 p.2.2.1 ∧ Sz 62 p.2.2.2
def sp_is_move_of : Spec := pur a4 (fun p _ => Mv p) fun _ => .bl true
theorem run_is_move_of {a b c d : Int} {μ : Mu} {X : Str → Mu → Prop} {Q : QD} : runK sp_is_move_of [.tup [.int a, .int b, .int c, .int d]] μ X Q ↔ Mv (a, b, c, d) ∧ Q (.bl true) μ := pur_run (args := a4) inj_4 (a, b, c, d)
theorem m_is_move_of {Φ : Nat → Spec} {i : Nat} (hi : Φ i = sp_are_numbers) : Meets Φ 1 1 (b_is_move_of i) sp_is_move_of := pur_meets inj_4 fun ⟨a, b, c, d⟩ μ h => by
  obtain ⟨h1, h2, s1, s2, s3, s4⟩ := h
  dsimp only at h1 h2 s1 s2 s3 s4
  have hc : (0 : Int) < c := by omega
  have e1 : numV [D.int a, D.int b, D.int c, D.int d] 4 = true := rfl
  have f1 : ∀ x ∈ ([D.int a, D.int b, D.int c, D.int d] : List D), flat x = true := by
    intro x hx
    simp only [List.mem_cons, List.not_mem_nil, or_false] at hx
    rcases hx with rfl | rfl | rfl | rfl <;> rfl
  simp only [a4, b_is_move_of, ↓e_v, ↓e_c, ↓e_bin, ↓e_neg, ↓e_cmp, ↓e_chn, ↓e_and, ↓e_or, ↓e_not, ↓e_ite, ↓e_tup, ↓e_lst, ↓e_ix, ↓e_sl, ↓e_rev, ↓e_call, ↓e_bi, ↓e_isi, ↓e_app, ↓e_ext, ↓e_pop, ↓e_comp, ↓es_nil, ↓es_cons, ↓if_nil, ↓if_cons, ↓o_no, ↓o_so, ↓s_ex', ↓s_ret', ↓s_retN', ↓s_asg', ↓s_sub', ↓s_aug', ↓s_iff', ↓s_whl', ↓s_for', ↓s_pass', ↓s_brk', ↓s_cont', ↓s_raise', ↓ss_nil', ↓ss_cons', ↓i_valE, ↓i_rng1E, ↓i_rng2E, ↓i_zipE, ↓i_enuE, ↓getK_s, ↓truK_t, ↓truK_f, ↓bK_s, ↓asgK_s, ↓atK_s, ↓seqK_s, ↓intsK_s, ↓blsK_s, ↓iteK_t, ↓iteK_f, ↓binD, ↓augD, ↓cmp_eq, ↓cmp_ne, ↓cmp_lt, ↓cmp_le, ↓cmp_gt, ↓cmp_ge, ↓cmp_is, ↓cmp_isn, ↓cmp_isN, ↓cmp_isnN, isNon, ↓ixD_int, ↓ixD_rod, atI0, atI1, atI2, atI3, ↓sl_tup, ↓sl_rol, ↓bi_len_tup, ↓bi_len_rol, ↓bi_len_ref, ↓bi_abs, ↓bi_int, ↓bi_intb, ↓bi_gcd, ↓bi_tup_tup, ↓bi_tup_rol, ↓bi_tup_ref, ↓bi_lst_tup, ↓bi_lst_rol, ↓bi_lst_ref, ↓bi_sum, ↓bi_sum_tup, ↓bi_sum_rol, ↓bi_all, ↓bi_any, ↓bi_max2, ↓bi_min2, tg_nm, tg_tp, tgsD, seqOf_tup, seqOf_rol, seqOf_up, seqL_rol, seqL_up', tru_non, tru_bl, tru_int, tru_tup, tru_rol, tru_up, ↓eq_int, isi_c, isi_int, isi_bl, isi_tup, isi_non, isi_str, isi_rol, tyN_up, tyN, List.getElem?_cons_zero, List.getElem?_cons_succ, List.set_cons_zero, List.set_cons_succ, permA, List.map_cons, List.map_nil, List.getD_cons_zero, List.getD_cons_succ, List.cons_append, List.nil_append, List.append_nil, List.replicate_succ, List.replicate_zero, RtP, ite_true, ite_false, if_true, if_false, Bool.false_eq_true, decide_true, decide_false, Bool.not_true, Bool.not_false, List.length_cons, List.length_nil, hi, run_are_numbers, e1, Bool.not_true, h1, show decide ((1 : Int) = 1) = true from rfl, decide_eq_true hc]
  exact ⟨⟨by decide, f1⟩, mul64 (s1.mono (by decide)), mul64 (s2.mono (by decide)), .refl, trivial⟩
def v4 (p : I4) : D := .tup [.int p.1, .int p.2.1, .int p.2.2.1, .int p.2.2.2]
def sp_sure_move : Spec := pur a4 (fun p _ => Mv p) v4
theorem run_sure_move {a b c d : Int} {μ : Mu} {X : Str → Mu → Prop} {Q : QD} : runK sp_sure_move [.tup [.int a, .int b, .int c, .int d]] μ X Q ↔ Mv (a, b, c, d) ∧ Q (.tup [.int a, .int b, .int c, .int d]) μ := pur_run (args := a4) (val := v4) inj_4 (a, b, c, d)
theorem plain4 {n : Nat} {a b c d : Int} : plain (n + 1) (.tup [.int a, .int b, .int c, .int d]) = true := by
  unfold plain
  have e : ((([D.int a, D.int b, D.int c, D.int d] : List D)).length ≤ sizeLine) := by show 4 ≤ sizeLine; decide
  rw [decide_eq_true e]
  cases n <;> rfl
theorem m_sure_move {Φ : Nat → Spec} {i j n : Nat} (hi : Φ i = sp_tupled (n + 1)) (hj : Φ j = sp_is_move_of) : Meets Φ 1 2 (b_sure_move i j) sp_sure_move := pur_meets inj_4 fun ⟨a, b, c, d⟩ μ h => by
  simp only [a4, b_sure_move, ↓e_v, ↓e_c, ↓e_bin, ↓e_neg, ↓e_cmp, ↓e_chn, ↓e_and, ↓e_or, ↓e_not, ↓e_ite, ↓e_tup, ↓e_lst, ↓e_ix, ↓e_sl, ↓e_rev, ↓e_call, ↓e_bi, ↓e_isi, ↓e_app, ↓e_ext, ↓e_pop, ↓e_comp, ↓es_nil, ↓es_cons, ↓if_nil, ↓if_cons, ↓o_no, ↓o_so, ↓s_ex', ↓s_ret', ↓s_retN', ↓s_asg', ↓s_sub', ↓s_aug', ↓s_iff', ↓s_whl', ↓s_for', ↓s_pass', ↓s_brk', ↓s_cont', ↓s_raise', ↓ss_nil', ↓ss_cons', ↓i_valE, ↓i_rng1E, ↓i_rng2E, ↓i_zipE, ↓i_enuE, ↓getK_s, ↓truK_t, ↓truK_f, ↓bK_s, ↓asgK_s, ↓atK_s, ↓seqK_s, ↓intsK_s, ↓blsK_s, ↓iteK_t, ↓iteK_f, ↓binD, ↓augD, ↓cmp_eq, ↓cmp_ne, ↓cmp_lt, ↓cmp_le, ↓cmp_gt, ↓cmp_ge, ↓cmp_is, ↓cmp_isn, ↓cmp_isN, ↓cmp_isnN, isNon, ↓ixD_int, ↓ixD_rod, atI0, atI1, atI2, atI3, ↓sl_tup, ↓sl_rol, ↓bi_len_tup, ↓bi_len_rol, ↓bi_len_ref, ↓bi_abs, ↓bi_int, ↓bi_intb, ↓bi_gcd, ↓bi_tup_tup, ↓bi_tup_rol, ↓bi_tup_ref, ↓bi_lst_tup, ↓bi_lst_rol, ↓bi_lst_ref, ↓bi_sum, ↓bi_sum_tup, ↓bi_sum_rol, ↓bi_all, ↓bi_any, ↓bi_max2, ↓bi_min2, tg_nm, tg_tp, tgsD, seqOf_tup, seqOf_rol, seqOf_up, seqL_rol, seqL_up', tru_non, tru_bl, tru_int, tru_tup, tru_rol, tru_up, ↓eq_int, isi_c, isi_int, isi_bl, isi_tup, isi_non, isi_str, isi_rol, tyN_up, tyN, List.getElem?_cons_zero, List.getElem?_cons_succ, List.set_cons_zero, List.set_cons_succ, permA, List.map_cons, List.map_nil, List.getD_cons_zero, List.getD_cons_succ, List.cons_append, List.nil_append, List.append_nil, List.replicate_succ, List.replicate_zero, RtP, ite_true, ite_false, if_true, if_false, Bool.false_eq_true, decide_true, decide_false, Bool.not_true, Bool.not_false, List.length_cons, List.length_nil, hi, hj, run_tupled, plain4, run_is_move_of, true_and, Bool.not_true]
  exact ⟨h, .refl, rfl⟩
theorem szr_saw {a b : Int} (hb : 1 ≤ b) (hb2 : b ≤ 1000000000000) (hg : Int.gcd a b = 1) : SzR 130 (sawQ a b) := by
  rw [sawQ_sum hb hg]
  have e : ((DD a b.toNat : Int) : Rat) / (4 * b * b) = Rat.divInt (DD a b.toNat) (4 * b * b) := by
    rw [Rat.divInt_eq_div, Rat.intCast_mul, Rat.intCast_mul]
    rfl
  rw [e]
  have h1 : (DD a b.toNat).natAbs ≤ b.toNat * (b.toNat * b.toNat) := sm_bound fun i => by
    rw [Int.natAbs_mul]
    exact Nat.mul_le_mul (FI_bound (by omega) _) (FI_bound (by omega) _)
  have h2 : b.toNat * (b.toNat * b.toNat) ≤ 1000000000000 * (1000000000000 * 1000000000000) := Nat.mul_le_mul (by omega) (Nat.mul_le_mul (by omega) (by omega))
  have hb3 : Sz 40 b := by unfold Sz; omega
  refine szR_divInt ?_ ((((show Sz 3 4 by decide).mul hb3).mul hb3).mono (by decide)) (by decide)
  unfold Sz
  exact Nat.lt_of_le_of_lt (Nat.le_trans h1 h2) (by decide)
/-- the number of a move -/
def wholeQ (a c d : Int) : Rat := Rat.divInt (a + d) c + ((-12 : Int) : Rat) * sawQ d c
def sp_whole_in : Spec := pur a4 (fun p _ => Mv p ∧ p.2.2.1 ≤ 1000000000000) fun p => .int (wholeQ p.1 p.2.2.1 p.2.2.2).num
theorem run_whole_in {a b c d : Int} {μ : Mu} {X : Str → Mu → Prop} {Q : QD} : runK sp_whole_in [.tup [.int a, .int b, .int c, .int d]] μ X Q ↔ (Mv (a, b, c, d) ∧ c ≤ 1000000000000) ∧ Q (.int (wholeQ a c d).num) μ := pur_run (args := a4) inj_4 (a, b, c, d)
theorem gcd_of_det {a b c d : Int} (h : a * d - b * c = 1) : Int.gcd d c = 1 := by
  have h1 := Int.gcd_dvd_left d c
  have h2 := Int.gcd_dvd_right d c
  have h3 : (Int.gcd d c : Int) ∣ 1 := by
    rw [← h]
    exact Int.dvd_sub (Int.dvd_mul_of_dvd_right h1) (Int.dvd_mul_of_dvd_right h2)
  have h4 : Int.gcd d c ∣ 1 := Int.natCast_dvd_natCast.mp h3
  exact Nat.dvd_one.mp h4
theorem m_whole_in {Φ : Nat → Spec} {i j k l : Nat} (hi : Φ i = sp_added) (hj : Φ j = sp_lowest) (hk : Φ k = sp_times) (hl : Φ l = sp_saw_in) : Meets Φ 1 6 (b_whole_in i j k l) sp_whole_in := pur_meets inj_4 fun ⟨a, b, c, d⟩ μ h => by
  obtain ⟨⟨h1, h2, s1, s2, s3, s4⟩, h3⟩ := h
  dsimp only at h1 h2 s1 s2 s3 s4 h3
  have hc0 : c ≠ 0 := by omega
  have z1 : SzR 130 (Rat.divInt (a + d) c) := szR_divInt ((s1.add s4).mono (by decide)) (s3.mono (by decide)) (by decide)
  have z2 := szr_saw h2 h3 (gcd_of_det h1)
  have z3 : SzR 5 ((-12 : Int) : Rat) := by decide
  simp only [a4, b_whole_in, ↓e_v, ↓e_c, ↓e_bin, ↓e_neg, ↓e_cmp, ↓e_chn, ↓e_and, ↓e_or, ↓e_not, ↓e_ite, ↓e_tup, ↓e_lst, ↓e_ix, ↓e_sl, ↓e_rev, ↓e_call, ↓e_bi, ↓e_isi, ↓e_app, ↓e_ext, ↓e_pop, ↓e_comp, ↓es_nil, ↓es_cons, ↓if_nil, ↓if_cons, ↓o_no, ↓o_so, ↓s_ex', ↓s_ret', ↓s_retN', ↓s_asg', ↓s_sub', ↓s_aug', ↓s_iff', ↓s_whl', ↓s_for', ↓s_pass', ↓s_brk', ↓s_cont', ↓s_raise', ↓ss_nil', ↓ss_cons', ↓i_valE, ↓i_rng1E, ↓i_rng2E, ↓i_zipE, ↓i_enuE, ↓getK_s, ↓truK_t, ↓truK_f, ↓bK_s, ↓asgK_s, ↓atK_s, ↓seqK_s, ↓intsK_s, ↓blsK_s, ↓iteK_t, ↓iteK_f, ↓binD, ↓augD, ↓cmp_eq, ↓cmp_ne, ↓cmp_lt, ↓cmp_le, ↓cmp_gt, ↓cmp_ge, ↓cmp_is, ↓cmp_isn, ↓cmp_isN, ↓cmp_isnN, isNon, ↓ixD_int, ↓ixD_rod, atI0, atI1, atI2, atI3, ↓sl_tup, ↓sl_rol, ↓bi_len_tup, ↓bi_len_rol, ↓bi_len_ref, ↓bi_abs, ↓bi_int, ↓bi_intb, ↓bi_gcd, ↓bi_tup_tup, ↓bi_tup_rol, ↓bi_tup_ref, ↓bi_lst_tup, ↓bi_lst_rol, ↓bi_lst_ref, ↓bi_sum, ↓bi_sum_tup, ↓bi_sum_rol, ↓bi_all, ↓bi_any, ↓bi_max2, ↓bi_min2, tg_nm, tg_tp, tgsD, seqOf_tup, seqOf_rol, seqOf_up, seqL_rol, seqL_up', tru_non, tru_bl, tru_int, tru_tup, tru_rol, tru_up, ↓eq_int, isi_c, isi_int, isi_bl, isi_tup, isi_non, isi_str, isi_rol, tyN_up, tyN, List.getElem?_cons_zero, List.getElem?_cons_succ, List.set_cons_zero, List.set_cons_succ, permA, List.map_cons, List.map_nil, List.getD_cons_zero, List.getD_cons_succ, List.cons_append, List.nil_append, List.append_nil, List.replicate_succ, List.replicate_zero, RtP, ite_true, ite_false, if_true, if_false, Bool.false_eq_true, decide_true, decide_false, Bool.not_true, Bool.not_false, List.length_cons, List.length_nil, hi, hj, hk, hl, decide_eq_false hc0, run_lowest, run_saw_in, fr_int, run_times, run_added, ↓ix_fr0]
  exact ⟨⟨hc0, s3.mono (by decide)⟩, by decide, ⟨h2, h3⟩, ⟨5, 130, z3, z2, by decide⟩, ⟨130, 135, z1, z3.mul z2, by decide⟩, .refl, rfl⟩
theorem m_move_number {Φ : Nat → Spec} {i j : Nat} (hi : Φ i = sp_whole_in) (hj : Φ j = sp_sure_move) : Meets Φ 1 1 (b_move_number i j) sp_whole_in := pur_meets inj_4 fun ⟨a, b, c, d⟩ μ h => by
  simp only [a4, b_move_number, ↓e_v, ↓e_c, ↓e_bin, ↓e_neg, ↓e_cmp, ↓e_chn, ↓e_and, ↓e_or, ↓e_not, ↓e_ite, ↓e_tup, ↓e_lst, ↓e_ix, ↓e_sl, ↓e_rev, ↓e_call, ↓e_bi, ↓e_isi, ↓e_app, ↓e_ext, ↓e_pop, ↓e_comp, ↓es_nil, ↓es_cons, ↓if_nil, ↓if_cons, ↓o_no, ↓o_so, ↓s_ex', ↓s_ret', ↓s_retN', ↓s_asg', ↓s_sub', ↓s_aug', ↓s_iff', ↓s_whl', ↓s_for', ↓s_pass', ↓s_brk', ↓s_cont', ↓s_raise', ↓ss_nil', ↓ss_cons', ↓i_valE, ↓i_rng1E, ↓i_rng2E, ↓i_zipE, ↓i_enuE, ↓getK_s, ↓truK_t, ↓truK_f, ↓bK_s, ↓asgK_s, ↓atK_s, ↓seqK_s, ↓intsK_s, ↓blsK_s, ↓iteK_t, ↓iteK_f, ↓binD, ↓augD, ↓cmp_eq, ↓cmp_ne, ↓cmp_lt, ↓cmp_le, ↓cmp_gt, ↓cmp_ge, ↓cmp_is, ↓cmp_isn, ↓cmp_isN, ↓cmp_isnN, isNon, ↓ixD_int, ↓ixD_rod, atI0, atI1, atI2, atI3, ↓sl_tup, ↓sl_rol, ↓bi_len_tup, ↓bi_len_rol, ↓bi_len_ref, ↓bi_abs, ↓bi_int, ↓bi_intb, ↓bi_gcd, ↓bi_tup_tup, ↓bi_tup_rol, ↓bi_tup_ref, ↓bi_lst_tup, ↓bi_lst_rol, ↓bi_lst_ref, ↓bi_sum, ↓bi_sum_tup, ↓bi_sum_rol, ↓bi_all, ↓bi_any, ↓bi_max2, ↓bi_min2, tg_nm, tg_tp, tgsD, seqOf_tup, seqOf_rol, seqOf_up, seqL_rol, seqL_up', tru_non, tru_bl, tru_int, tru_tup, tru_rol, tru_up, ↓eq_int, isi_c, isi_int, isi_bl, isi_tup, isi_non, isi_str, isi_rol, tyN_up, tyN, List.getElem?_cons_zero, List.getElem?_cons_succ, List.set_cons_zero, List.set_cons_succ, permA, List.map_cons, List.map_nil, List.getD_cons_zero, List.getD_cons_succ, List.cons_append, List.nil_append, List.append_nil, List.replicate_succ, List.replicate_zero, RtP, ite_true, ite_false, if_true, if_false, Bool.false_eq_true, decide_true, decide_false, Bool.not_true, Bool.not_false, List.length_cons, List.length_nil, hi, hj, run_sure_move, run_whole_in]
  exact ⟨h.1, h, .refl, trivial⟩
def sp_turned : Spec := pur (fun p : Int × Int => [.int p.1, .int p.2]) (fun p _ => (Sw p.1 p.2 ∧ Int.gcd p.1 p.2 = 1) ∧ 1 ≤ p.1) fun p => fr (partQ p.1 p.2)
theorem run_turned {a b : Int} {μ : Mu} {X : Str → Mu → Prop} {Q : QD} : runK sp_turned [.int a, .int b] μ X Q ↔ ((Sw a b ∧ Int.gcd a b = 1) ∧ 1 ≤ a) ∧ Q (fr (partQ a b)) μ := pur_run inj_ii (a, b)
theorem m_turned {Φ : Nat → Spec} {i j k : Nat} (hi : Φ i = sp_sure_two) (hj : Φ j = sp_added) (hk : Φ k = sp_lowest) : Meets Φ 2 4 (b_turned_over i j k) sp_turned := pur_meets inj_ii fun ⟨a, b⟩ μ h => by
  obtain ⟨⟨h1, h2⟩, h3⟩ := h
  have hs := h1.sz
  obtain ⟨g1, g2, g3, g4⟩ := id h1
  dsimp only at h1 h2 h3 hs g1 g2 g3 g4
  obtain ⟨p1, p2⟩ := sz_part (n := a) (f := b) h3 g2 g3 g4
  have hn : ¬ a < 1 := by omega
  simp only [b_turned_over, ↓e_v, ↓e_c, ↓e_bin, ↓e_neg, ↓e_cmp, ↓e_chn, ↓e_and, ↓e_or, ↓e_not, ↓e_ite, ↓e_tup, ↓e_lst, ↓e_ix, ↓e_sl, ↓e_rev, ↓e_call, ↓e_bi, ↓e_isi, ↓e_app, ↓e_ext, ↓e_pop, ↓e_comp, ↓es_nil, ↓es_cons, ↓if_nil, ↓if_cons, ↓o_no, ↓o_so, ↓s_ex', ↓s_ret', ↓s_retN', ↓s_asg', ↓s_sub', ↓s_aug', ↓s_iff', ↓s_whl', ↓s_for', ↓s_pass', ↓s_brk', ↓s_cont', ↓s_raise', ↓ss_nil', ↓ss_cons', ↓i_valE, ↓i_rng1E, ↓i_rng2E, ↓i_zipE, ↓i_enuE, ↓getK_s, ↓truK_t, ↓truK_f, ↓bK_s, ↓asgK_s, ↓atK_s, ↓seqK_s, ↓intsK_s, ↓blsK_s, ↓iteK_t, ↓iteK_f, ↓binD, ↓augD, ↓cmp_eq, ↓cmp_ne, ↓cmp_lt, ↓cmp_le, ↓cmp_gt, ↓cmp_ge, ↓cmp_is, ↓cmp_isn, ↓cmp_isN, ↓cmp_isnN, isNon, ↓ixD_int, ↓ixD_rod, atI0, atI1, atI2, atI3, ↓sl_tup, ↓sl_rol, ↓bi_len_tup, ↓bi_len_rol, ↓bi_len_ref, ↓bi_abs, ↓bi_int, ↓bi_intb, ↓bi_gcd, ↓bi_tup_tup, ↓bi_tup_rol, ↓bi_tup_ref, ↓bi_lst_tup, ↓bi_lst_rol, ↓bi_lst_ref, ↓bi_sum, ↓bi_sum_tup, ↓bi_sum_rol, ↓bi_all, ↓bi_any, ↓bi_max2, ↓bi_min2, tg_nm, tg_tp, tgsD, seqOf_tup, seqOf_rol, seqOf_up, seqL_rol, seqL_up', tru_non, tru_bl, tru_int, tru_tup, tru_rol, tru_up, ↓eq_int, isi_c, isi_int, isi_bl, isi_tup, isi_non, isi_str, isi_rol, tyN_up, tyN, List.getElem?_cons_zero, List.getElem?_cons_succ, List.set_cons_zero, List.set_cons_succ, permA, List.map_cons, List.map_nil, List.getD_cons_zero, List.getD_cons_succ, List.cons_append, List.nil_append, List.append_nil, List.replicate_succ, List.replicate_zero, RtP, ite_true, ite_false, if_true, if_false, Bool.false_eq_true, decide_true, decide_false, Bool.not_true, Bool.not_false, List.length_cons, List.length_nil, hi, hj, hk, run_sure_two, decide_eq_false hn, run_lowest, fr_q4, run_added]
  refine ⟨⟨h1, h2⟩, mul64 (hs.1.mono (by decide)), mul64 (hs.2.mono (by decide)), mul64 (by decide), .of_right (Nat.le_trans hs.2.bits (by decide)), ⟨p1.1, p1.2.mono (by decide)⟩, by decide, ⟨84, 3, p2, szr_q4, by decide⟩, .refl, rfl⟩
/-- a sawtooth's size -/
theorem szr_tooth {z b : Int} (hb : 1 ≤ b) (h : Sz 40 b) : SzR 43 (toothQ z b) := by
  unfold toothQ
  split
  · exact SzR.mono (m := 1) (by decide) (by decide)
  · have h1 := Int.emod_nonneg z (show b ≠ 0 by omega)
    have h2 := Int.emod_lt_of_pos z (show (0 : Int) < b by omega)
    refine szR_divInt ?_ ((sz2.mul h).mono (by decide)) (by decide)
    unfold Sz at *
    omega
def tq (a b : Int) (i : Int) : Rat := toothQ i b * toothQ (a * i) b
def toQ (a b : Int) : D → D
  | .int i => fr (tq a b i)
  | d => d
def sp_teeth : Spec := pur (fun p : Int × Int => [.int p.1, .int p.2]) (fun p _ => (Sw p.1 p.2 ∧ Int.gcd p.1 p.2 = 1) ∧ p.2 ≤ 2000) fun p => .tup ((rngL 1 (p.2 - 1).toNat).map (toQ p.1 p.2))
theorem run_teeth {a b : Int} {μ : Mu} {X : Str → Mu → Prop} {Q : QD} : runK sp_teeth [.int a, .int b] μ X Q ↔ ((Sw a b ∧ Int.gcd a b = 1) ∧ b ≤ 2000) ∧ Q (.tup ((rngL 1 (b - 1).toNat).map (toQ a b))) μ := pur_run inj_ii (a, b)
theorem mem_rngL {lo : Int} {n : Nat} {x : D} (h : x ∈ rngL lo n) : ∃ i : Nat, i < n ∧ x = .int (lo + i) := by
  unfold rngL at h
  obtain ⟨i, hi, rfl⟩ := List.mem_map.mp h
  exact ⟨i, List.mem_range.mp hi, rfl⟩
theorem len_rngL {lo : Int} {n : Nat} : (rngL lo n).length = n := by unfold rngL; rw [List.length_map, List.length_range]
theorem m_teeth {Φ : Nat → Spec} {i j k : Nat} (hi : Φ i = sp_sure_two) (hj : Φ j = sp_times) (hk : Φ k = sp_tooth) : Meets Φ 2 5 (b_teeth i j k) sp_teeth := pur_meets inj_ii fun ⟨a, b⟩ μ h => by
  obtain ⟨⟨h1, h2⟩, h3⟩ := h
  have hs := h1.sz
  obtain ⟨g1, g2, g3, g4⟩ := id h1
  dsimp only at h1 h2 h3 hs g1 g2 g3 g4
  have hn : ¬ (2000 : Int) < b := by omega
  simp only [b_teeth, ↓e_v, ↓e_c, ↓e_bin, ↓e_neg, ↓e_cmp, ↓e_chn, ↓e_and, ↓e_or, ↓e_not, ↓e_ite, ↓e_tup, ↓e_lst, ↓e_ix, ↓e_sl, ↓e_rev, ↓e_call, ↓e_bi, ↓e_isi, ↓e_app, ↓e_ext, ↓e_pop, ↓e_comp, ↓es_nil, ↓es_cons, ↓if_nil, ↓if_cons, ↓o_no, ↓o_so, ↓s_ex', ↓s_ret', ↓s_retN', ↓s_asg', ↓s_sub', ↓s_aug', ↓s_iff', ↓s_whl', ↓s_for', ↓s_pass', ↓s_brk', ↓s_cont', ↓s_raise', ↓ss_nil', ↓ss_cons', ↓i_valE, ↓i_rng1E, ↓i_rng2E, ↓i_zipE, ↓i_enuE, ↓getK_s, ↓truK_t, ↓truK_f, ↓bK_s, ↓asgK_s, ↓atK_s, ↓seqK_s, ↓intsK_s, ↓blsK_s, ↓iteK_t, ↓iteK_f, ↓binD, ↓augD, ↓cmp_eq, ↓cmp_ne, ↓cmp_lt, ↓cmp_le, ↓cmp_gt, ↓cmp_ge, ↓cmp_is, ↓cmp_isn, ↓cmp_isN, ↓cmp_isnN, isNon, ↓ixD_int, ↓ixD_rod, atI0, atI1, atI2, atI3, ↓sl_tup, ↓sl_rol, ↓bi_len_tup, ↓bi_len_rol, ↓bi_len_ref, ↓bi_abs, ↓bi_int, ↓bi_intb, ↓bi_gcd, ↓bi_tup_tup, ↓bi_tup_rol, ↓bi_tup_ref, ↓bi_lst_tup, ↓bi_lst_rol, ↓bi_lst_ref, ↓bi_sum, ↓bi_sum_tup, ↓bi_sum_rol, ↓bi_all, ↓bi_any, ↓bi_max2, ↓bi_min2, tg_nm, tg_tp, tgsD, seqOf_tup, seqOf_rol, seqOf_up, seqL_rol, seqL_up', tru_non, tru_bl, tru_int, tru_tup, tru_rol, tru_up, ↓eq_int, isi_c, isi_int, isi_bl, isi_tup, isi_non, isi_str, isi_rol, tyN_up, tyN, List.getElem?_cons_zero, List.getElem?_cons_succ, List.set_cons_zero, List.set_cons_succ, permA, List.map_cons, List.map_nil, List.getD_cons_zero, List.getD_cons_succ, List.cons_append, List.nil_append, List.append_nil, List.replicate_succ, List.replicate_zero, RtP, ite_true, ite_false, if_true, if_false, Bool.false_eq_true, decide_true, decide_false, Bool.not_true, Bool.not_false, List.length_cons, List.length_nil, hi, run_sure_two, decide_eq_false hn]
  refine ⟨⟨h1, h2⟩, ⟨by decide, by decide, by omega, by omega⟩, ?_⟩
  refine compL_map (f := toQ a b) trivial _ (by rw [len_rngL]; exact Nat.le_trans (show (b - 1).toNat ≤ 2000 by omega) (by decide)) (fun x hm R r => ⟨_, rfl, ?_⟩) ?_
  · obtain ⟨u, hu, rfl⟩ := mem_rngL hm
    have z := szr_tooth (z := 1 + u) g3 hs.2
    have z' := szr_tooth (z := a * (1 + u)) g3 hs.2
    simp only [↓e_v, ↓e_c, ↓e_bin, ↓e_neg, ↓e_cmp, ↓e_chn, ↓e_and, ↓e_or, ↓e_not, ↓e_ite, ↓e_tup, ↓e_lst, ↓e_ix, ↓e_sl, ↓e_rev, ↓e_call, ↓e_bi, ↓e_isi, ↓e_app, ↓e_ext, ↓e_pop, ↓e_comp, ↓es_nil, ↓es_cons, ↓if_nil, ↓if_cons, ↓o_no, ↓o_so, ↓s_ex', ↓s_ret', ↓s_retN', ↓s_asg', ↓s_sub', ↓s_aug', ↓s_iff', ↓s_whl', ↓s_for', ↓s_pass', ↓s_brk', ↓s_cont', ↓s_raise', ↓ss_nil', ↓ss_cons', ↓i_valE, ↓i_rng1E, ↓i_rng2E, ↓i_zipE, ↓i_enuE, ↓getK_s, ↓truK_t, ↓truK_f, ↓bK_s, ↓asgK_s, ↓atK_s, ↓seqK_s, ↓intsK_s, ↓blsK_s, ↓iteK_t, ↓iteK_f, ↓binD, ↓augD, ↓cmp_eq, ↓cmp_ne, ↓cmp_lt, ↓cmp_le, ↓cmp_gt, ↓cmp_ge, ↓cmp_is, ↓cmp_isn, ↓cmp_isN, ↓cmp_isnN, isNon, ↓ixD_int, ↓ixD_rod, atI0, atI1, atI2, atI3, ↓sl_tup, ↓sl_rol, ↓bi_len_tup, ↓bi_len_rol, ↓bi_len_ref, ↓bi_abs, ↓bi_int, ↓bi_intb, ↓bi_gcd, ↓bi_tup_tup, ↓bi_tup_rol, ↓bi_tup_ref, ↓bi_lst_tup, ↓bi_lst_rol, ↓bi_lst_ref, ↓bi_sum, ↓bi_sum_tup, ↓bi_sum_rol, ↓bi_all, ↓bi_any, ↓bi_max2, ↓bi_min2, tg_nm, tg_tp, tgsD, seqOf_tup, seqOf_rol, seqOf_up, seqL_rol, seqL_up', tru_non, tru_bl, tru_int, tru_tup, tru_rol, tru_up, ↓eq_int, isi_c, isi_int, isi_bl, isi_tup, isi_non, isi_str, isi_rol, tyN_up, tyN, List.getElem?_cons_zero, List.getElem?_cons_succ, List.set_cons_zero, List.set_cons_succ, permA, List.map_cons, List.map_nil, List.getD_cons_zero, List.getD_cons_succ, List.cons_append, List.nil_append, List.append_nil, List.replicate_succ, List.replicate_zero, RtP, ite_true, ite_false, if_true, if_false, Bool.false_eq_true, decide_true, decide_false, Bool.not_true, Bool.not_false, List.length_cons, List.length_nil, hj, hk, wipeR, run_tooth, run_times]
    exact ⟨⟨by omega, hs.2.mono (by decide)⟩, mul64 (hs.1.mono (by decide)), ⟨by omega, hs.2.mono (by decide)⟩, ⟨43, 43, z, z', by decide⟩, r⟩
  · intro p hp
    simp only [↓e_v, ↓e_c, ↓e_bin, ↓e_neg, ↓e_cmp, ↓e_chn, ↓e_and, ↓e_or, ↓e_not, ↓e_ite, ↓e_tup, ↓e_lst, ↓e_ix, ↓e_sl, ↓e_rev, ↓e_call, ↓e_bi, ↓e_isi, ↓e_app, ↓e_ext, ↓e_pop, ↓e_comp, ↓es_nil, ↓es_cons, ↓if_nil, ↓if_cons, ↓o_no, ↓o_so, ↓s_ex', ↓s_ret', ↓s_retN', ↓s_asg', ↓s_sub', ↓s_aug', ↓s_iff', ↓s_whl', ↓s_for', ↓s_pass', ↓s_brk', ↓s_cont', ↓s_raise', ↓ss_nil', ↓ss_cons', ↓i_valE, ↓i_rng1E, ↓i_rng2E, ↓i_zipE, ↓i_enuE, ↓getK_s, ↓truK_t, ↓truK_f, ↓bK_s, ↓asgK_s, ↓atK_s, ↓seqK_s, ↓intsK_s, ↓blsK_s, ↓iteK_t, ↓iteK_f, ↓binD, ↓augD, ↓cmp_eq, ↓cmp_ne, ↓cmp_lt, ↓cmp_le, ↓cmp_gt, ↓cmp_ge, ↓cmp_is, ↓cmp_isn, ↓cmp_isN, ↓cmp_isnN, isNon, ↓ixD_int, ↓ixD_rod, atI0, atI1, atI2, atI3, ↓sl_tup, ↓sl_rol, ↓bi_len_tup, ↓bi_len_rol, ↓bi_len_ref, ↓bi_abs, ↓bi_int, ↓bi_intb, ↓bi_gcd, ↓bi_tup_tup, ↓bi_tup_rol, ↓bi_tup_ref, ↓bi_lst_tup, ↓bi_lst_rol, ↓bi_lst_ref, ↓bi_sum, ↓bi_sum_tup, ↓bi_sum_rol, ↓bi_all, ↓bi_any, ↓bi_max2, ↓bi_min2, tg_nm, tg_tp, tgsD, seqOf_tup, seqOf_rol, seqOf_up, seqL_rol, seqL_up', tru_non, tru_bl, tru_int, tru_tup, tru_rol, tru_up, ↓eq_int, isi_c, isi_int, isi_bl, isi_tup, isi_non, isi_str, isi_rol, tyN_up, tyN, List.getElem?_cons_zero, List.getElem?_cons_succ, List.set_cons_zero, List.set_cons_succ, permA, List.map_cons, List.map_nil, List.getD_cons_zero, List.getD_cons_succ, List.cons_append, List.nil_append, List.append_nil, List.replicate_succ, List.replicate_zero, RtP, ite_true, ite_false, if_true, if_false, Bool.false_eq_true, decide_true, decide_false, Bool.not_true, Bool.not_false, List.length_cons, List.length_nil, up_same]
    exact ⟨.up hp, trivial⟩
end LD
namespace LD
open PySem PySem.Spec PyProof.Rows L2
abbrev b_signed : Ss := (.cons (.iff (.or (.cmp .Gt (.ix (.v 0) (.c (.int 2))) (.c (.int 0))) (.and (.cmp .Eq (.ix (.v 0) (.c (.int 2))) (.c (.int 0))) (.cmp .Gt (.ix (.v 0) (.c (.int 3))) (.c (.int 0))))) (.cons (.ret (.v 0)) .nil) .nil) (.cons (.ret (.bi .tuple (.cons (.comp (.nm 1) (.val (.v 0)) .nil (.bin .Sub (.c (.int 0)) (.v 1)) [1]) .nil))) .nil))
abbrev b_product (i_signed : Nat) : Ss := (.cons (.asg (.tp (.cons (.nm 2) (.cons (.nm 3) (.cons (.nm 4) (.cons (.nm 5) .nil))))) (.v 0)) (.cons (.asg (.tp (.cons (.nm 6) (.cons (.nm 7) (.cons (.nm 8) (.cons (.nm 9) .nil))))) (.v 1)) (.cons (.ret (.call i_signed (.cons (.tup (.cons (.bin .Add (.bin .Mult (.v 2) (.v 6)) (.bin .Mult (.v 3) (.v 8))) (.cons (.bin .Add (.bin .Mult (.v 2) (.v 7)) (.bin .Mult (.v 3) (.v 9))) (.cons (.bin .Add (.bin .Mult (.v 4) (.v 6)) (.bin .Mult (.v 5) (.v 8))) (.cons (.bin .Add (.bin .Mult (.v 4) (.v 7)) (.bin .Mult (.v 5) (.v 9))) .nil))))) .nil) .nil [0])) .nil)))
abbrev b_size_of : Ss := (.cons (.ret (.bi .abs (.cons (.bin .Add (.ix (.v 0) (.c (.int 0))) (.ix (.v 0) (.c (.int 3)))) .nil))) .nil)
/-! moves as tables -/
def sgn4 (p : I4) : I4 := if 0 < p.2.2.1 ∨ (p.2.2.1 = 0 ∧ 0 < p.2.2.2) then p else (-p.1, -p.2.1, -p.2.2.1, -p.2.2.2)
def mul4 (p q : I4) : I4 := (p.1 * q.1 + p.2.1 * q.2.2.1, p.1 * q.2.1 + p.2.1 * q.2.2.2, p.2.2.1 * q.1 + p.2.2.2 * q.2.2.1, p.2.2.1 * q.2.1 + p.2.2.2 * q.2.2.2)
def sp_signed : Spec := pur a4 (fun _ _ => True) fun p => v4 (sgn4 p)
theorem run_signed {a b c d : Int} {μ : Mu} {X : Str → Mu → Prop} {Q : QD} : runK sp_signed [.tup [.int a, .int b, .int c, .int d]] μ X Q ↔ True ∧ Q (v4 (sgn4 (a, b, c, d))) μ := pur_run (args := a4) inj_4 (a, b, c, d)
theorem m_signed {Φ : Nat → Spec} : Meets Φ 1 2 b_signed sp_signed := pur_meets inj_4 fun ⟨a, b, c, d⟩ μ _ => by
  have neg : wpE Φ (fun _ _ => False) (.bi .tuple (.cons (.comp (.nm 1) (.val (.v 0)) .nil (.bin .Sub (.c (.int 0)) (.v 1)) [1]) .nil)) [some (.tup [.int a, .int b, .int c, .int d]), none] μ fun e μ1 => Sub μ μ1 ∧ e = v4 (-a, -b, -c, -d) := by
    simp only [↓e_v, ↓e_c, ↓e_bin, ↓e_neg, ↓e_cmp, ↓e_chn, ↓e_and, ↓e_or, ↓e_not, ↓e_ite, ↓e_tup, ↓e_lst, ↓e_ix, ↓e_sl, ↓e_rev, ↓e_call, ↓e_bi, ↓e_isi, ↓e_app, ↓e_ext, ↓e_pop, ↓e_comp, ↓es_nil, ↓es_cons, ↓if_nil, ↓if_cons, ↓o_no, ↓o_so, ↓s_ex', ↓s_ret', ↓s_retN', ↓s_asg', ↓s_sub', ↓s_aug', ↓s_iff', ↓s_whl', ↓s_for', ↓s_pass', ↓s_brk', ↓s_cont', ↓s_raise', ↓ss_nil', ↓ss_cons', ↓i_valE, ↓i_rng1E, ↓i_rng2E, ↓i_zipE, ↓i_enuE, ↓getK_s, ↓truK_t, ↓truK_f, ↓bK_s, ↓asgK_s, ↓atK_s, ↓seqK_s, ↓intsK_s, ↓blsK_s, ↓iteK_t, ↓iteK_f, ↓binD, ↓augD, ↓cmp_eq, ↓cmp_ne, ↓cmp_lt, ↓cmp_le, ↓cmp_gt, ↓cmp_ge, ↓cmp_is, ↓cmp_isn, ↓cmp_isN, ↓cmp_isnN, isNon, ↓ixD_int, ↓ixD_rod, atI0, atI1, atI2, atI3, ↓sl_tup, ↓sl_rol, ↓bi_len_tup, ↓bi_len_rol, ↓bi_len_ref, ↓bi_abs, ↓bi_int, ↓bi_intb, ↓bi_gcd, ↓bi_tup_tup, ↓bi_tup_rol, ↓bi_tup_ref, ↓bi_lst_tup, ↓bi_lst_rol, ↓bi_lst_ref, ↓bi_sum, ↓bi_sum_tup, ↓bi_sum_rol, ↓bi_all, ↓bi_any, ↓bi_max2, ↓bi_min2, tg_nm, tg_tp, tgsD, seqOf_tup, seqOf_rol, seqOf_up, seqL_rol, seqL_up', tru_non, tru_bl, tru_int, tru_tup, tru_rol, tru_up, ↓eq_int, isi_c, isi_int, isi_bl, isi_tup, isi_non, isi_str, isi_rol, tyN_up, tyN, List.getElem?_cons_zero, List.getElem?_cons_succ, List.set_cons_zero, List.set_cons_succ, permA, List.map_cons, List.map_nil, List.getD_cons_zero, List.getD_cons_succ, List.cons_append, List.nil_append, List.append_nil, List.replicate_succ, List.replicate_zero, RtP, ite_true, ite_false, if_true, if_false, Bool.false_eq_true, decide_true, decide_false, Bool.not_true, Bool.not_false, List.length_cons, List.length_nil]
    refine compL_map (f := fun x => match x with
      | .int i => .int (0 - i)
      | x => x) trivial _ (by show 4 ≤ sizeLine; decide) (fun x hm R r => ⟨_, rfl, ?_⟩) ?_
    · simp only [List.mem_cons, List.not_mem_nil, or_false] at hm
      rcases hm with rfl | rfl | rfl | rfl <;> (simp only [↓e_v, ↓e_c, ↓e_bin, ↓e_neg, ↓e_cmp, ↓e_chn, ↓e_and, ↓e_or, ↓e_not, ↓e_ite, ↓e_tup, ↓e_lst, ↓e_ix, ↓e_sl, ↓e_rev, ↓e_call, ↓e_bi, ↓e_isi, ↓e_app, ↓e_ext, ↓e_pop, ↓e_comp, ↓es_nil, ↓es_cons, ↓if_nil, ↓if_cons, ↓o_no, ↓o_so, ↓s_ex', ↓s_ret', ↓s_retN', ↓s_asg', ↓s_sub', ↓s_aug', ↓s_iff', ↓s_whl', ↓s_for', ↓s_pass', ↓s_brk', ↓s_cont', ↓s_raise', ↓ss_nil', ↓ss_cons', ↓i_valE, ↓i_rng1E, ↓i_rng2E, ↓i_zipE, ↓i_enuE, ↓getK_s, ↓truK_t, ↓truK_f, ↓bK_s, ↓asgK_s, ↓atK_s, ↓seqK_s, ↓intsK_s, ↓blsK_s, ↓iteK_t, ↓iteK_f, ↓binD, ↓augD, ↓cmp_eq, ↓cmp_ne, ↓cmp_lt, ↓cmp_le, ↓cmp_gt, ↓cmp_ge, ↓cmp_is, ↓cmp_isn, ↓cmp_isN, ↓cmp_isnN, isNon, ↓ixD_int, ↓ixD_rod, atI0, atI1, atI2, atI3, ↓sl_tup, ↓sl_rol, ↓bi_len_tup, ↓bi_len_rol, ↓bi_len_ref, ↓bi_abs, ↓bi_int, ↓bi_intb, ↓bi_gcd, ↓bi_tup_tup, ↓bi_tup_rol, ↓bi_tup_ref, ↓bi_lst_tup, ↓bi_lst_rol, ↓bi_lst_ref, ↓bi_sum, ↓bi_sum_tup, ↓bi_sum_rol, ↓bi_all, ↓bi_any, ↓bi_max2, ↓bi_min2, tg_nm, tg_tp, tgsD, seqOf_tup, seqOf_rol, seqOf_up, seqL_rol, seqL_up', tru_non, tru_bl, tru_int, tru_tup, tru_rol, tru_up, ↓eq_int, isi_c, isi_int, isi_bl, isi_tup, isi_non, isi_str, isi_rol, tyN_up, tyN, List.getElem?_cons_zero, List.getElem?_cons_succ, List.set_cons_zero, List.set_cons_succ, permA, List.map_cons, List.map_nil, List.getD_cons_zero, List.getD_cons_succ, List.cons_append, List.nil_append, List.append_nil, List.replicate_succ, List.replicate_zero, RtP, ite_true, ite_false, if_true, if_false, Bool.false_eq_true, decide_true, decide_false, Bool.not_true, Bool.not_false, List.length_cons, List.length_nil, wipeR]; exact r)
    · intro p hp
      simp only [↓e_v, ↓e_c, ↓e_bin, ↓e_neg, ↓e_cmp, ↓e_chn, ↓e_and, ↓e_or, ↓e_not, ↓e_ite, ↓e_tup, ↓e_lst, ↓e_ix, ↓e_sl, ↓e_rev, ↓e_call, ↓e_bi, ↓e_isi, ↓e_app, ↓e_ext, ↓e_pop, ↓e_comp, ↓es_nil, ↓es_cons, ↓if_nil, ↓if_cons, ↓o_no, ↓o_so, ↓s_ex', ↓s_ret', ↓s_retN', ↓s_asg', ↓s_sub', ↓s_aug', ↓s_iff', ↓s_whl', ↓s_for', ↓s_pass', ↓s_brk', ↓s_cont', ↓s_raise', ↓ss_nil', ↓ss_cons', ↓i_valE, ↓i_rng1E, ↓i_rng2E, ↓i_zipE, ↓i_enuE, ↓getK_s, ↓truK_t, ↓truK_f, ↓bK_s, ↓asgK_s, ↓atK_s, ↓seqK_s, ↓intsK_s, ↓blsK_s, ↓iteK_t, ↓iteK_f, ↓binD, ↓augD, ↓cmp_eq, ↓cmp_ne, ↓cmp_lt, ↓cmp_le, ↓cmp_gt, ↓cmp_ge, ↓cmp_is, ↓cmp_isn, ↓cmp_isN, ↓cmp_isnN, isNon, ↓ixD_int, ↓ixD_rod, atI0, atI1, atI2, atI3, ↓sl_tup, ↓sl_rol, ↓bi_len_tup, ↓bi_len_rol, ↓bi_len_ref, ↓bi_abs, ↓bi_int, ↓bi_intb, ↓bi_gcd, ↓bi_tup_tup, ↓bi_tup_rol, ↓bi_tup_ref, ↓bi_lst_tup, ↓bi_lst_rol, ↓bi_lst_ref, ↓bi_sum, ↓bi_sum_tup, ↓bi_sum_rol, ↓bi_all, ↓bi_any, ↓bi_max2, ↓bi_min2, tg_nm, tg_tp, tgsD, seqOf_tup, seqOf_rol, seqOf_up, seqL_rol, seqL_up', tru_non, tru_bl, tru_int, tru_tup, tru_rol, tru_up, ↓eq_int, isi_c, isi_int, isi_bl, isi_tup, isi_non, isi_str, isi_rol, tyN_up, tyN, List.getElem?_cons_zero, List.getElem?_cons_succ, List.set_cons_zero, List.set_cons_succ, permA, List.map_cons, List.map_nil, List.getD_cons_zero, List.getD_cons_succ, List.cons_append, List.nil_append, List.append_nil, List.replicate_succ, List.replicate_zero, RtP, ite_true, ite_false, if_true, if_false, Bool.false_eq_true, decide_true, decide_false, Bool.not_true, Bool.not_false, List.length_cons, List.length_nil, up_same]
      exact ⟨.up hp, by simp only [v4, Int.zero_sub]⟩
  by_cases h1 : 0 < c
  · simp only [a4, b_signed, ↓e_v, ↓e_c, ↓e_bin, ↓e_neg, ↓e_cmp, ↓e_chn, ↓e_and, ↓e_or, ↓e_not, ↓e_ite, ↓e_tup, ↓e_lst, ↓e_ix, ↓e_sl, ↓e_rev, ↓e_call, ↓e_bi, ↓e_isi, ↓e_app, ↓e_ext, ↓e_pop, ↓e_comp, ↓es_nil, ↓es_cons, ↓if_nil, ↓if_cons, ↓o_no, ↓o_so, ↓s_ex', ↓s_ret', ↓s_retN', ↓s_asg', ↓s_sub', ↓s_aug', ↓s_iff', ↓s_whl', ↓s_for', ↓s_pass', ↓s_brk', ↓s_cont', ↓s_raise', ↓ss_nil', ↓ss_cons', ↓i_valE, ↓i_rng1E, ↓i_rng2E, ↓i_zipE, ↓i_enuE, ↓getK_s, ↓truK_t, ↓truK_f, ↓bK_s, ↓asgK_s, ↓atK_s, ↓seqK_s, ↓intsK_s, ↓blsK_s, ↓iteK_t, ↓iteK_f, ↓binD, ↓augD, ↓cmp_eq, ↓cmp_ne, ↓cmp_lt, ↓cmp_le, ↓cmp_gt, ↓cmp_ge, ↓cmp_is, ↓cmp_isn, ↓cmp_isN, ↓cmp_isnN, isNon, ↓ixD_int, ↓ixD_rod, atI0, atI1, atI2, atI3, ↓sl_tup, ↓sl_rol, ↓bi_len_tup, ↓bi_len_rol, ↓bi_len_ref, ↓bi_abs, ↓bi_int, ↓bi_intb, ↓bi_gcd, ↓bi_tup_tup, ↓bi_tup_rol, ↓bi_tup_ref, ↓bi_lst_tup, ↓bi_lst_rol, ↓bi_lst_ref, ↓bi_sum, ↓bi_sum_tup, ↓bi_sum_rol, ↓bi_all, ↓bi_any, ↓bi_max2, ↓bi_min2, tg_nm, tg_tp, tgsD, seqOf_tup, seqOf_rol, seqOf_up, seqL_rol, seqL_up', tru_non, tru_bl, tru_int, tru_tup, tru_rol, tru_up, ↓eq_int, isi_c, isi_int, isi_bl, isi_tup, isi_non, isi_str, isi_rol, tyN_up, tyN, List.getElem?_cons_zero, List.getElem?_cons_succ, List.set_cons_zero, List.set_cons_succ, permA, List.map_cons, List.map_nil, List.getD_cons_zero, List.getD_cons_succ, List.cons_append, List.nil_append, List.append_nil, List.replicate_succ, List.replicate_zero, RtP, ite_true, ite_false, if_true, if_false, Bool.false_eq_true, decide_true, decide_false, Bool.not_true, Bool.not_false, List.length_cons, List.length_nil, decide_eq_true h1]
    refine ⟨.refl, ?_⟩
    unfold sgn4
    rw [if_pos (.inl h1)]
    rfl
  · by_cases h2 : c = 0
    · by_cases h3 : 0 < d
      · simp only [a4, b_signed, ↓e_v, ↓e_c, ↓e_bin, ↓e_neg, ↓e_cmp, ↓e_chn, ↓e_and, ↓e_or, ↓e_not, ↓e_ite, ↓e_tup, ↓e_lst, ↓e_ix, ↓e_sl, ↓e_rev, ↓e_call, ↓e_bi, ↓e_isi, ↓e_app, ↓e_ext, ↓e_pop, ↓e_comp, ↓es_nil, ↓es_cons, ↓if_nil, ↓if_cons, ↓o_no, ↓o_so, ↓s_ex', ↓s_ret', ↓s_retN', ↓s_asg', ↓s_sub', ↓s_aug', ↓s_iff', ↓s_whl', ↓s_for', ↓s_pass', ↓s_brk', ↓s_cont', ↓s_raise', ↓ss_nil', ↓ss_cons', ↓i_valE, ↓i_rng1E, ↓i_rng2E, ↓i_zipE, ↓i_enuE, ↓getK_s, ↓truK_t, ↓truK_f, ↓bK_s, ↓asgK_s, ↓atK_s, ↓seqK_s, ↓intsK_s, ↓blsK_s, ↓iteK_t, ↓iteK_f, ↓binD, ↓augD, ↓cmp_eq, ↓cmp_ne, ↓cmp_lt, ↓cmp_le, ↓cmp_gt, ↓cmp_ge, ↓cmp_is, ↓cmp_isn, ↓cmp_isN, ↓cmp_isnN, isNon, ↓ixD_int, ↓ixD_rod, atI0, atI1, atI2, atI3, ↓sl_tup, ↓sl_rol, ↓bi_len_tup, ↓bi_len_rol, ↓bi_len_ref, ↓bi_abs, ↓bi_int, ↓bi_intb, ↓bi_gcd, ↓bi_tup_tup, ↓bi_tup_rol, ↓bi_tup_ref, ↓bi_lst_tup, ↓bi_lst_rol, ↓bi_lst_ref, ↓bi_sum, ↓bi_sum_tup, ↓bi_sum_rol, ↓bi_all, ↓bi_any, ↓bi_max2, ↓bi_min2, tg_nm, tg_tp, tgsD, seqOf_tup, seqOf_rol, seqOf_up, seqL_rol, seqL_up', tru_non, tru_bl, tru_int, tru_tup, tru_rol, tru_up, ↓eq_int, isi_c, isi_int, isi_bl, isi_tup, isi_non, isi_str, isi_rol, tyN_up, tyN, List.getElem?_cons_zero, List.getElem?_cons_succ, List.set_cons_zero, List.set_cons_succ, permA, List.map_cons, List.map_nil, List.getD_cons_zero, List.getD_cons_succ, List.cons_append, List.nil_append, List.append_nil, List.replicate_succ, List.replicate_zero, RtP, ite_true, ite_false, if_true, if_false, Bool.false_eq_true, decide_true, decide_false, Bool.not_true, Bool.not_false, List.length_cons, List.length_nil, decide_eq_false h1, decide_eq_true h2, decide_eq_true h3]
        refine ⟨.refl, ?_⟩
        unfold sgn4
        rw [if_pos (.inr ⟨h2, h3⟩)]
        rfl
      · simp only [a4, b_signed, ↓e_v, ↓e_c, ↓e_bin, ↓e_neg, ↓e_cmp, ↓e_chn, ↓e_and, ↓e_or, ↓e_not, ↓e_ite, ↓e_tup, ↓e_lst, ↓e_ix, ↓e_sl, ↓e_rev, ↓e_call, ↓e_bi, ↓e_isi, ↓e_app, ↓e_ext, ↓e_pop, ↓e_comp, ↓es_nil, ↓es_cons, ↓if_nil, ↓if_cons, ↓o_no, ↓o_so, ↓s_ex', ↓s_ret', ↓s_retN', ↓s_asg', ↓s_sub', ↓s_aug', ↓s_iff', ↓s_whl', ↓s_for', ↓s_pass', ↓s_brk', ↓s_cont', ↓s_raise', ↓ss_nil', ↓ss_cons', ↓i_valE, ↓i_rng1E, ↓i_rng2E, ↓i_zipE, ↓i_enuE, ↓getK_s, ↓truK_t, ↓truK_f, ↓bK_s, ↓asgK_s, ↓atK_s, ↓seqK_s, ↓intsK_s, ↓blsK_s, ↓iteK_t, ↓iteK_f, ↓binD, ↓augD, ↓cmp_eq, ↓cmp_ne, ↓cmp_lt, ↓cmp_le, ↓cmp_gt, ↓cmp_ge, ↓cmp_is, ↓cmp_isn, ↓cmp_isN, ↓cmp_isnN, isNon, ↓ixD_int, ↓ixD_rod, atI0, atI1, atI2, atI3, ↓sl_tup, ↓sl_rol, ↓bi_len_tup, ↓bi_len_rol, ↓bi_len_ref, ↓bi_abs, ↓bi_int, ↓bi_intb, ↓bi_gcd, ↓bi_tup_tup, ↓bi_tup_rol, ↓bi_tup_ref, ↓bi_lst_tup, ↓bi_lst_rol, ↓bi_lst_ref, ↓bi_sum, ↓bi_sum_tup, ↓bi_sum_rol, ↓bi_all, ↓bi_any, ↓bi_max2, ↓bi_min2, tg_nm, tg_tp, tgsD, seqOf_tup, seqOf_rol, seqOf_up, seqL_rol, seqL_up', tru_non, tru_bl, tru_int, tru_tup, tru_rol, tru_up, ↓eq_int, isi_c, isi_int, isi_bl, isi_tup, isi_non, isi_str, isi_rol, tyN_up, tyN, List.getElem?_cons_zero, List.getElem?_cons_succ, List.set_cons_zero, List.set_cons_succ, permA, List.map_cons, List.map_nil, List.getD_cons_zero, List.getD_cons_succ, List.cons_append, List.nil_append, List.append_nil, List.replicate_succ, List.replicate_zero, RtP, ite_true, ite_false, if_true, if_false, Bool.false_eq_true, decide_true, decide_false, Bool.not_true, Bool.not_false, List.length_cons, List.length_nil, decide_eq_false h1, decide_eq_true h2, decide_eq_false h3]
        simp only [↓e_v, ↓e_c, ↓e_bin, ↓e_neg, ↓e_cmp, ↓e_chn, ↓e_and, ↓e_or, ↓e_not, ↓e_ite, ↓e_tup, ↓e_lst, ↓e_ix, ↓e_sl, ↓e_rev, ↓e_call, ↓e_bi, ↓e_isi, ↓e_app, ↓e_ext, ↓e_pop, ↓e_comp, ↓es_nil, ↓es_cons, ↓if_nil, ↓if_cons, ↓o_no, ↓o_so, ↓s_ex', ↓s_ret', ↓s_retN', ↓s_asg', ↓s_sub', ↓s_aug', ↓s_iff', ↓s_whl', ↓s_for', ↓s_pass', ↓s_brk', ↓s_cont', ↓s_raise', ↓ss_nil', ↓ss_cons', ↓i_valE, ↓i_rng1E, ↓i_rng2E, ↓i_zipE, ↓i_enuE, ↓getK_s, ↓truK_t, ↓truK_f, ↓bK_s, ↓asgK_s, ↓atK_s, ↓seqK_s, ↓intsK_s, ↓blsK_s, ↓iteK_t, ↓iteK_f, ↓binD, ↓augD, ↓cmp_eq, ↓cmp_ne, ↓cmp_lt, ↓cmp_le, ↓cmp_gt, ↓cmp_ge, ↓cmp_is, ↓cmp_isn, ↓cmp_isN, ↓cmp_isnN, isNon, ↓ixD_int, ↓ixD_rod, atI0, atI1, atI2, atI3, ↓sl_tup, ↓sl_rol, ↓bi_len_tup, ↓bi_len_rol, ↓bi_len_ref, ↓bi_abs, ↓bi_int, ↓bi_intb, ↓bi_gcd, ↓bi_tup_tup, ↓bi_tup_rol, ↓bi_tup_ref, ↓bi_lst_tup, ↓bi_lst_rol, ↓bi_lst_ref, ↓bi_sum, ↓bi_sum_tup, ↓bi_sum_rol, ↓bi_all, ↓bi_any, ↓bi_max2, ↓bi_min2, tg_nm, tg_tp, tgsD, seqOf_tup, seqOf_rol, seqOf_up, seqL_rol, seqL_up', tru_non, tru_bl, tru_int, tru_tup, tru_rol, tru_up, ↓eq_int, isi_c, isi_int, isi_bl, isi_tup, isi_non, isi_str, isi_rol, tyN_up, tyN, List.getElem?_cons_zero, List.getElem?_cons_succ, List.set_cons_zero, List.set_cons_succ, permA, List.map_cons, List.map_nil, List.getD_cons_zero, List.getD_cons_succ, List.cons_append, List.nil_append, List.append_nil, List.replicate_succ, List.replicate_zero, RtP, ite_true, ite_false, if_true, if_false, Bool.false_eq_true, decide_true, decide_false, Bool.not_true, Bool.not_false, List.length_cons, List.length_nil] at neg
        unfold sgn4
        rw [if_neg (by rintro (h | h); exact h1 h; exact h3 h.2)]
        exact neg
    · simp only [a4, b_signed, ↓e_v, ↓e_c, ↓e_bin, ↓e_neg, ↓e_cmp, ↓e_chn, ↓e_and, ↓e_or, ↓e_not, ↓e_ite, ↓e_tup, ↓e_lst, ↓e_ix, ↓e_sl, ↓e_rev, ↓e_call, ↓e_bi, ↓e_isi, ↓e_app, ↓e_ext, ↓e_pop, ↓e_comp, ↓es_nil, ↓es_cons, ↓if_nil, ↓if_cons, ↓o_no, ↓o_so, ↓s_ex', ↓s_ret', ↓s_retN', ↓s_asg', ↓s_sub', ↓s_aug', ↓s_iff', ↓s_whl', ↓s_for', ↓s_pass', ↓s_brk', ↓s_cont', ↓s_raise', ↓ss_nil', ↓ss_cons', ↓i_valE, ↓i_rng1E, ↓i_rng2E, ↓i_zipE, ↓i_enuE, ↓getK_s, ↓truK_t, ↓truK_f, ↓bK_s, ↓asgK_s, ↓atK_s, ↓seqK_s, ↓intsK_s, ↓blsK_s, ↓iteK_t, ↓iteK_f, ↓binD, ↓augD, ↓cmp_eq, ↓cmp_ne, ↓cmp_lt, ↓cmp_le, ↓cmp_gt, ↓cmp_ge, ↓cmp_is, ↓cmp_isn, ↓cmp_isN, ↓cmp_isnN, isNon, ↓ixD_int, ↓ixD_rod, atI0, atI1, atI2, atI3, ↓sl_tup, ↓sl_rol, ↓bi_len_tup, ↓bi_len_rol, ↓bi_len_ref, ↓bi_abs, ↓bi_int, ↓bi_intb, ↓bi_gcd, ↓bi_tup_tup, ↓bi_tup_rol, ↓bi_tup_ref, ↓bi_lst_tup, ↓bi_lst_rol, ↓bi_lst_ref, ↓bi_sum, ↓bi_sum_tup, ↓bi_sum_rol, ↓bi_all, ↓bi_any, ↓bi_max2, ↓bi_min2, tg_nm, tg_tp, tgsD, seqOf_tup, seqOf_rol, seqOf_up, seqL_rol, seqL_up', tru_non, tru_bl, tru_int, tru_tup, tru_rol, tru_up, ↓eq_int, isi_c, isi_int, isi_bl, isi_tup, isi_non, isi_str, isi_rol, tyN_up, tyN, List.getElem?_cons_zero, List.getElem?_cons_succ, List.set_cons_zero, List.set_cons_succ, permA, List.map_cons, List.map_nil, List.getD_cons_zero, List.getD_cons_succ, List.cons_append, List.nil_append, List.append_nil, List.replicate_succ, List.replicate_zero, RtP, ite_true, ite_false, if_true, if_false, Bool.false_eq_true, decide_true, decide_false, Bool.not_true, Bool.not_false, List.length_cons, List.length_nil, decide_eq_false h1, decide_eq_false h2]
      simp only [↓e_v, ↓e_c, ↓e_bin, ↓e_neg, ↓e_cmp, ↓e_chn, ↓e_and, ↓e_or, ↓e_not, ↓e_ite, ↓e_tup, ↓e_lst, ↓e_ix, ↓e_sl, ↓e_rev, ↓e_call, ↓e_bi, ↓e_isi, ↓e_app, ↓e_ext, ↓e_pop, ↓e_comp, ↓es_nil, ↓es_cons, ↓if_nil, ↓if_cons, ↓o_no, ↓o_so, ↓s_ex', ↓s_ret', ↓s_retN', ↓s_asg', ↓s_sub', ↓s_aug', ↓s_iff', ↓s_whl', ↓s_for', ↓s_pass', ↓s_brk', ↓s_cont', ↓s_raise', ↓ss_nil', ↓ss_cons', ↓i_valE, ↓i_rng1E, ↓i_rng2E, ↓i_zipE, ↓i_enuE, ↓getK_s, ↓truK_t, ↓truK_f, ↓bK_s, ↓asgK_s, ↓atK_s, ↓seqK_s, ↓intsK_s, ↓blsK_s, ↓iteK_t, ↓iteK_f, ↓binD, ↓augD, ↓cmp_eq, ↓cmp_ne, ↓cmp_lt, ↓cmp_le, ↓cmp_gt, ↓cmp_ge, ↓cmp_is, ↓cmp_isn, ↓cmp_isN, ↓cmp_isnN, isNon, ↓ixD_int, ↓ixD_rod, atI0, atI1, atI2, atI3, ↓sl_tup, ↓sl_rol, ↓bi_len_tup, ↓bi_len_rol, ↓bi_len_ref, ↓bi_abs, ↓bi_int, ↓bi_intb, ↓bi_gcd, ↓bi_tup_tup, ↓bi_tup_rol, ↓bi_tup_ref, ↓bi_lst_tup, ↓bi_lst_rol, ↓bi_lst_ref, ↓bi_sum, ↓bi_sum_tup, ↓bi_sum_rol, ↓bi_all, ↓bi_any, ↓bi_max2, ↓bi_min2, tg_nm, tg_tp, tgsD, seqOf_tup, seqOf_rol, seqOf_up, seqL_rol, seqL_up', tru_non, tru_bl, tru_int, tru_tup, tru_rol, tru_up, ↓eq_int, isi_c, isi_int, isi_bl, isi_tup, isi_non, isi_str, isi_rol, tyN_up, tyN, List.getElem?_cons_zero, List.getElem?_cons_succ, List.set_cons_zero, List.set_cons_succ, permA, List.map_cons, List.map_nil, List.getD_cons_zero, List.getD_cons_succ, List.cons_append, List.nil_append, List.append_nil, List.replicate_succ, List.replicate_zero, RtP, ite_true, ite_false, if_true, if_false, Bool.false_eq_true, decide_true, decide_false, Bool.not_true, Bool.not_false, List.length_cons, List.length_nil] at neg
      unfold sgn4
      rw [if_neg (by rintro (h | h); exact h1 h; exact h2 h.1)]
      exact neg
def SzM (n : Nat) (p : I4) : Prop := Sz n p.1 ∧ Sz n p.2.1 ∧ Sz n p.2.2.1 ∧ Sz n p.2.2.2
theorem SzM.mono {m n : Nat} {p : I4} (h : SzM m p) (l : m ≤ n) : SzM n p := ⟨h.1.mono l, h.2.1.mono l, h.2.2.1.mono l, h.2.2.2.mono l⟩
theorem szM_sgn {n : Nat} {p : I4} (h : SzM n p) : SzM n (sgn4 p) := by
  unfold sgn4
  split
  · exact h
  · exact ⟨h.1.neg, h.2.1.neg, h.2.2.1.neg, h.2.2.2.neg⟩
theorem sz_mad {m n : Nat} {a b c d : Int} (h1 : Sz m a) (h2 : Sz n b) (h3 : Sz m c) (h4 : Sz n d) : Sz (m + n + 1) (a * b + c * d) := by
  have z1 := h1.mul h2
  have z2 := h3.mul h4
  unfold Sz at *
  have := Int.natAbs_add_le (a * b) (c * d)
  rw [Nat.pow_succ]
  omega
theorem szM_mul {m n : Nat} {p q : I4} (h : SzM m p) (k : SzM n q) : SzM (m + n + 1) (mul4 p q) :=
  ⟨sz_mad h.1 k.1 h.2.1 k.2.2.1, sz_mad h.1 k.2.1 h.2.1 k.2.2.2, sz_mad h.2.2.1 k.1 h.2.2.2 k.2.2.1, sz_mad h.2.2.1 k.2.1 h.2.2.2 k.2.2.2⟩
theorem inj_44 (i j : I4 × I4) (h : [v4 i.1, v4 i.2] = [v4 j.1, v4 j.2]) : i = j := by
  obtain ⟨⟨a, b, c, d⟩, e, f, g, k⟩ := i
  obtain ⟨⟨a', b', c', d'⟩, e', f', g', k'⟩ := j
  simpa [v4, and_assoc] using h
def Sz2M (p q : I4) : Prop := ∃ m n, SzM m p ∧ SzM n q ∧ m + n ≤ 134217728
def sp_product : Spec := pur (fun p : I4 × I4 => [v4 p.1, v4 p.2]) (fun p _ => Sz2M p.1 p.2) fun p => v4 (sgn4 (mul4 p.1 p.2))
theorem run_product {p q : I4} {μ : Mu} {X : Str → Mu → Prop} {Q : QD} : runK sp_product [v4 p, v4 q] μ X Q ↔ Sz2M p q ∧ Q (v4 (sgn4 (mul4 p q))) μ := pur_run inj_44 (p, q)
theorem m_product {Φ : Nat → Spec} {i : Nat} (hi : Φ i = sp_signed) : Meets Φ 2 10 (b_product i) sp_product := pur_meets inj_44 fun ⟨⟨a, b, c, d⟩, e, f, g, k⟩ μ h => by
  obtain ⟨m, n, ⟨p1, p2, p3, p4⟩, ⟨q1, q2, q3, q4⟩, hmn⟩ := h
  dsimp only at p1 p2 p3 p4 q1 q2 q3 q4
  simp only [v4, b_product, ↓e_v, ↓e_c, ↓e_bin, ↓e_neg, ↓e_cmp, ↓e_chn, ↓e_and, ↓e_or, ↓e_not, ↓e_ite, ↓e_tup, ↓e_lst, ↓e_ix, ↓e_sl, ↓e_rev, ↓e_call, ↓e_bi, ↓e_isi, ↓e_app, ↓e_ext, ↓e_pop, ↓e_comp, ↓es_nil, ↓es_cons, ↓if_nil, ↓if_cons, ↓o_no, ↓o_so, ↓s_ex', ↓s_ret', ↓s_retN', ↓s_asg', ↓s_sub', ↓s_aug', ↓s_iff', ↓s_whl', ↓s_for', ↓s_pass', ↓s_brk', ↓s_cont', ↓s_raise', ↓ss_nil', ↓ss_cons', ↓i_valE, ↓i_rng1E, ↓i_rng2E, ↓i_zipE, ↓i_enuE, ↓getK_s, ↓truK_t, ↓truK_f, ↓bK_s, ↓asgK_s, ↓atK_s, ↓seqK_s, ↓intsK_s, ↓blsK_s, ↓iteK_t, ↓iteK_f, ↓binD, ↓augD, ↓cmp_eq, ↓cmp_ne, ↓cmp_lt, ↓cmp_le, ↓cmp_gt, ↓cmp_ge, ↓cmp_is, ↓cmp_isn, ↓cmp_isN, ↓cmp_isnN, isNon, ↓ixD_int, ↓ixD_rod, atI0, atI1, atI2, atI3, ↓sl_tup, ↓sl_rol, ↓bi_len_tup, ↓bi_len_rol, ↓bi_len_ref, ↓bi_abs, ↓bi_int, ↓bi_intb, ↓bi_gcd, ↓bi_tup_tup, ↓bi_tup_rol, ↓bi_tup_ref, ↓bi_lst_tup, ↓bi_lst_rol, ↓bi_lst_ref, ↓bi_sum, ↓bi_sum_tup, ↓bi_sum_rol, ↓bi_all, ↓bi_any, ↓bi_max2, ↓bi_min2, tg_nm, tg_tp, tgsD, seqOf_tup, seqOf_rol, seqOf_up, seqL_rol, seqL_up', tru_non, tru_bl, tru_int, tru_tup, tru_rol, tru_up, ↓eq_int, isi_c, isi_int, isi_bl, isi_tup, isi_non, isi_str, isi_rol, tyN_up, tyN, List.getElem?_cons_zero, List.getElem?_cons_succ, List.set_cons_zero, List.set_cons_succ, permA, List.map_cons, List.map_nil, List.getD_cons_zero, List.getD_cons_succ, List.cons_append, List.nil_append, List.append_nil, List.replicate_succ, List.replicate_zero, RtP, ite_true, ite_false, if_true, if_false, Bool.false_eq_true, decide_true, decide_false, Bool.not_true, Bool.not_false, List.length_cons, List.length_nil, hi, run_signed, true_and]
  exact ⟨p1.mulOk q1 hmn, p2.mulOk q3 hmn, p1.mulOk q2 hmn, p2.mulOk q4 hmn, p3.mulOk q1 hmn, p4.mulOk q3 hmn, p3.mulOk q2 hmn, p4.mulOk q4 hmn, by decide, .refl, rfl⟩
end LD
namespace LD
open PySem PySem.Spec PyProof.Rows L2
abbrev b_shortest : Ss := (.cons (.asg (.nm 1) (.lst .nil)) (.cons (.for (.nm 2) (.val (.v 0)) (.cons (.iff (.or (.cmp .Eq (.v 1) (.lst .nil)) (.cmp .NotEq (.cmp .Eq (.ix (.v 1) (.neg (.c (.int 1)))) (.c (.int 1))) (.cmp .Eq (.v 2) (.c (.int 1))))) (.cons (.ex (.app (.v 1) (.v 2))) .nil) (.cons (.iff (.cmp .Eq (.v 2) (.c (.int 1))) (.cons (.ex (.pop (.v 1))) .nil) (.cons (.asg (.nm 3) (.bin .Mod (.bin .Sub (.bin .Add (.bin .Sub (.pop (.v 1)) (.c (.int 1))) (.v 2)) (.c (.int 1))) (.c (.int 3)))) (.cons (.iff (.cmp .NotEq (.v 3) (.c (.int 0))) (.cons (.ex (.app (.v 1) (.bin .Add (.v 3) (.c (.int 1))))) .nil) .nil) .nil))) .nil)) .nil)) (.cons (.ret (.bi .tuple (.cons (.v 1) .nil))) .nil)))
theorem eq_bl {a b : Bool} {μ : Mu} {Q : Bool → Prop} : eqK (.bl a) (.bl b) μ Q ↔ Q (decide (a = b)) := by
  have e : (PyData.eqv (.bool a) (.bool b)) = decide (a = b) := by
    show (a == b) = _
    rw [Bool.eq_iff_iff]; simp
  unfold eqK eqQ
  simp only [pdOf, e]
  constructor
  · exact fun h => h.2.2
  · exact fun h => ⟨rfl, rfl, h⟩
theorem pdL_ints {μ : Mu} {n : Nat} : ∀ xs : List Int, pdL (pdOf μ (n + 1)) (xs.map D.int) = some (xs.map PyData.int)
  | [] => rfl
  | x :: xs => by
    rw [List.map_cons]
    unfold pdL
    rw [pdL_ints xs]
    rfl
theorem lay_ints : ∀ xs : List Int, PyData.canLayAll0 (xs.map PyData.int) = true
  | [] => by simp [PyData.canLayAll0]
  | x :: xs => by
    rw [List.map_cons]
    unfold PyData.canLayAll0
    rw [lay_ints xs]
    simp [PyData.canLay0]
theorem depth_ints : ∀ xs : List Int, PyData.depthAll (xs.map PyData.int) = 0
  | [] => by simp [PyData.depthAll]
  | x :: xs => by
    rw [List.map_cons]
    unfold PyData.depthAll
    rw [depth_ints xs]
    simp [PyData.depth]
theorem shaped_ints (xs : List Int) : SeqAt.shaped (.list (xs.map PyData.int)) = true := by
  unfold SeqAt.shaped
  have h1 : (PyData.list (xs.map PyData.int)).canLay0 = true := by
    unfold PyData.canLay0
    exact lay_ints xs
  have h2 : (PyData.list (xs.map PyData.int)).depth ≤ 64 := by
    unfold PyData.depth
    rw [depth_ints xs]
    decide
  rw [h1, decide_eq_true h2]
  rfl
theorem eq_ints {p q : Addr} {xs ys : List Int} {μ : Mu} {Q : Bool → Prop} (hp : μ p = some (.lst (xs.map D.int))) (hq : μ q = some (.lst (ys.map D.int))) (h : Q (decide (xs = ys))) : eqK (.ref p) (.ref q) μ Q := by
  have e : ∀ xs ys : List Int, PyData.eqvAll (xs.map PyData.int) (ys.map PyData.int) = decide (xs = ys) := by
    intro xs
    induction xs with
    | nil => intro ys; cases ys <;> simp [PyData.eqvAll]
    | cons x xs ih =>
      intro ys
      cases ys with
      | nil => simp [PyData.eqvAll]
      | cons y ys =>
        simp only [List.map_cons, PyData.eqvAll, PyData.eqv, ih]
        rw [Bool.eq_iff_iff]
        simp
  have e2 : PyData.eqv (.list (xs.map PyData.int)) (.list (ys.map PyData.int)) = decide (xs = ys) := by
    simp only [PyData.eqv]
    exact e xs ys
  have pd : ∀ {r : Addr} {zs : List Int}, μ r = some (.lst (zs.map D.int)) → pdOf μ 9 (.ref r) = some (.list (zs.map PyData.int)) := fun {r zs} e => by
    show (match μ r with
      | some (.lst xs) => (pdL (pdOf μ 8) xs).map PyData.list
      | _ => none) = _
    rw [e]
    show (pdL (pdOf μ 8) (zs.map D.int)).map PyData.list = _
    rw [pdL_ints]
    rfl
  unfold eqK eqQ
  rw [pd hp, pd hq]
  exact ⟨shaped_ints xs, shaped_ints ys, by rw [e2]; exact h⟩
/-- one letter more on the stack -/
def stp : List Int → Int → List Int
  | [], x => [x]
  | y :: ys, x => if decide (y = 1) ≠ decide (x = 1) then x :: y :: ys else if x = 1 then ys else if (y - 1 + x - 1) % 3 ≠ 0 then ((y - 1 + x - 1) % 3 + 1) :: ys else ys
def short (w : List Int) : List Int := (w.foldl stp []).reverse
/-- letters -/
def Lt3 (w : List Int) : Prop := ∀ x ∈ w, x = 1 ∨ x = 2 ∨ x = 3
theorem stp_len (rs : List Int) (x : Int) : (stp rs x).length ≤ rs.length + 1 := by
  unfold stp
  split
  · simp
  · split
    · simp
    · split
      · simp only [List.length_cons]; omega
      · split <;> simp only [List.length_cons] <;> omega
theorem inj_w (i j : List Int) (h : [D.tup (i.map D.int)] = [D.tup (j.map D.int)]) : i = j := by
  injection h with h _
  injection h with h
  exact map_int_inj h
def sp_shortest : Spec := pur (fun w : List Int => [D.tup (w.map D.int)]) (fun w _ => w.length ≤ 1000000) fun w => .tup ((short w).map D.int)
theorem run_shortest {w : List Int} {μ : Mu} {X : Str → Mu → Prop} {Q : QD} : runK sp_shortest [.tup (w.map D.int)] μ X Q ↔ w.length ≤ 1000000 ∧ Q (.tup ((short w).map D.int)) μ := pur_run inj_w w
end LD
namespace LD
open PySem PySem.Spec PyProof.Rows L2
theorem isL_at {p : Addr} {xs : List D} {μ : Mu} (h : μ p = some (.lst xs)) : isL (.ref p) μ = true := by unfold isL; simp only [h]
theorem appD_at {p : Addr} {xs : List D} {y : D} {μ : Mu} {Q : QD} (h : μ p = some (.lst xs)) : appD (.ref p) y μ Q = (xs.length < sizeLine ∧ Q .non (up μ p (.lst (xs ++ [y])))) := by unfold appD; simp only [h] <;> rfl
theorem popD_at {p : Addr} {xs : List D} {y : D} {μ : Mu} {Q : QD} (h : μ p = some (.lst (xs ++ [y]))) : popD (.ref p) μ Q = Q y (up μ p (.lst xs)) := by
  unfold popD
  simp only [h, List.getLast?_append, List.getLast?_singleton, Option.some_or, List.dropLast_concat] <;> rfl
theorem atI_last {xs : List D} {y : D} : atI (xs ++ [y]) (-1) = some y := by
  unfold atI ixN
  rw [if_neg (by decide), if_pos (by rw [List.length_append, List.length_singleton]; omega)]
  simp
  rw [show (-1 + ((xs.length : Int) + 1)).toNat = xs.length by omega]
  simp
end LD
namespace LD
open PySem PySem.Spec PyProof.Rows L2
abbrev b_move_product (i_product : Nat) (i_sure_move : Nat) : Ss := (.cons (.ret (.call i_product (.cons (.call i_sure_move (.cons (.v 0) .nil) .nil [0]) (.cons (.call i_sure_move (.cons (.v 1) .nil) .nil [0]) .nil)) .nil [0, 1])) .nil)
abbrev b_move_size (i_size_of : Nat) (i_sure_move : Nat) : Ss := (.cons (.ret (.call i_size_of (.cons (.call i_sure_move (.cons (.v 0) .nil) .nil [0]) .nil) .nil [0])) .nil)
abbrev b_move_in (i_product : Nat) : Ss := (.cons (.asg (.nm 1) (.c (.tup [(.int 1), (.int 0), (.int 0), (.int 1)]))) (.cons (.for (.nm 2) (.val (.v 0)) (.cons (.asg (.nm 1) (.call i_product (.cons (.v 1) (.cons (.ix (.c (.rod [1, 2, 3] [(.tup [(.int 0), (.int (-1)), (.int 1), (.int 0)]), (.tup [(.int 0), (.int (-1)), (.int 1), (.int 1)]), (.tup [(.int (-1)), (.int (-1)), (.int 1), (.int 0)])])) (.v 2)) .nil)) .nil [0, 1])) .nil)) (.cons (.ret (.v 1)) .nil)))
abbrev b__law_mark : Ss := (.cons (.ret (.ite (.or (.cmp .Gt (.ix (.v 0) (.c (.int 2))) (.c (.int 0))) (.and (.cmp .Eq (.ix (.v 0) (.c (.int 2))) (.c (.int 0))) (.cmp .Gt (.ix (.v 0) (.c (.int 3))) (.c (.int 0))))) (.v 0) (.bi .tuple (.cons (.comp (.nm 1) (.val (.v 0)) .nil (.bin .Sub (.c (.int 0)) (.v 1)) [1]) .nil)))) .nil)
abbrev b__law_times (i__law_mark : Nat) : Ss := (.cons (.ret (.call i__law_mark (.cons (.tup (.cons (.bin .Add (.bin .Mult (.ix (.v 0) (.c (.int 0))) (.ix (.v 1) (.c (.int 0)))) (.bin .Mult (.ix (.v 0) (.c (.int 1))) (.ix (.v 1) (.c (.int 2))))) (.cons (.bin .Add (.bin .Mult (.ix (.v 0) (.c (.int 0))) (.ix (.v 1) (.c (.int 1)))) (.bin .Mult (.ix (.v 0) (.c (.int 1))) (.ix (.v 1) (.c (.int 3))))) (.cons (.bin .Add (.bin .Mult (.ix (.v 0) (.c (.int 2))) (.ix (.v 1) (.c (.int 0)))) (.bin .Mult (.ix (.v 0) (.c (.int 3))) (.ix (.v 1) (.c (.int 2))))) (.cons (.bin .Add (.bin .Mult (.ix (.v 0) (.c (.int 2))) (.ix (.v 1) (.c (.int 1)))) (.bin .Mult (.ix (.v 0) (.c (.int 3))) (.ix (.v 1) (.c (.int 3))))) .nil))))) .nil) .nil [0])) .nil)
abbrev b__law_letter : Ss := (.cons (.ret (.ix (.tup (.cons (.tup (.cons (.c (.int 0)) (.cons (.neg (.c (.int 1))) (.cons (.c (.int 1)) (.cons (.c (.int 0)) .nil))))) (.cons (.tup (.cons (.c (.int 0)) (.cons (.neg (.c (.int 1))) (.cons (.c (.int 1)) (.cons (.c (.int 1)) .nil))))) (.cons (.tup (.cons (.neg (.c (.int 1))) (.cons (.neg (.c (.int 1))) (.cons (.c (.int 1)) (.cons (.c (.int 0)) .nil))))) .nil)))) (.bin .Sub (.v 0) (.c (.int 1))))) .nil)
abbrev b__law_spell (i__law_times : Nat) (i__law_letter : Nat) : Ss := (.cons (.asg (.nm 1) (.tup (.cons (.c (.int 1)) (.cons (.c (.int 0)) (.cons (.c (.int 0)) (.cons (.c (.int 1)) .nil)))))) (.cons (.for (.nm 2) (.val (.v 0)) (.cons (.asg (.nm 1) (.call i__law_times (.cons (.v 1) (.cons (.call i__law_letter (.cons (.v 2) .nil) .nil [0]) .nil)) .nil [0, 1])) .nil)) (.cons (.ret (.v 1)) .nil)))
/-! ### moves of any size -/
def det4 (p : I4) : Int := p.1 * p.2.2.2 - p.2.1 * p.2.2.1
def Mv1 (p : I4) : Prop := det4 p = 1 ∧ (0 < p.2.2.1 ∨ p.2.2.1 = 0 ∧ p.2.2.2 = 1)
def MvN (p : I4) : Prop := Mv1 p ∧ SzM 60000 p
theorem mulBig {x y : Int} {m n : Nat} (h : Sz m x) (k : Sz n y) (l : m + n ≤ 134217728) : IntMulOk x y := h.mulOk k l
def sp_mv_is : Spec := pur a4 (fun p _ => MvN p) fun _ => .bl true
theorem run_mv_is {a b c d : Int} {μ : Mu} {X : Str → Mu → Prop} {Q : QD} : runK sp_mv_is [.tup [.int a, .int b, .int c, .int d]] μ X Q ↔ MvN (a, b, c, d) ∧ Q (.bl true) μ := pur_run (args := a4) inj_4 (a, b, c, d)
theorem m_mv_is {Φ : Nat → Spec} {i : Nat} (hi : Φ i = sp_are_numbers) : Meets Φ 1 1 (b_is_move_of i) sp_mv_is := pur_meets inj_4 fun ⟨a, b, c, d⟩ μ h => by
  obtain ⟨⟨h1, h2⟩, s1, s2, s3, s4⟩ := h
  unfold det4 at h1
  dsimp only at h1 h2 s1 s2 s3 s4
  have e1 : numV [D.int a, D.int b, D.int c, D.int d] 4 = true := rfl
  have f1 : ∀ x ∈ ([D.int a, D.int b, D.int c, D.int d] : List D), flat x = true := by
    intro x hx
    simp only [List.mem_cons, List.not_mem_nil, or_false] at hx
    rcases hx with rfl | rfl | rfl | rfl <;> rfl
  have m1 := mulBig s1 s4 (by decide)
  have m2 := mulBig s2 s3 (by decide)
  by_cases hc : 0 < c
  · simp only [a4, b_is_move_of, ↓e_v, ↓e_c, ↓e_bin, ↓e_neg, ↓e_cmp, ↓e_chn, ↓e_and, ↓e_or, ↓e_not, ↓e_ite, ↓e_tup, ↓e_lst, ↓e_ix, ↓e_sl, ↓e_rev, ↓e_call, ↓e_bi, ↓e_isi, ↓e_app, ↓e_ext, ↓e_pop, ↓e_comp, ↓es_nil, ↓es_cons, ↓if_nil, ↓if_cons, ↓o_no, ↓o_so, ↓s_ex', ↓s_ret', ↓s_retN', ↓s_asg', ↓s_sub', ↓s_aug', ↓s_iff', ↓s_whl', ↓s_for', ↓s_pass', ↓s_brk', ↓s_cont', ↓s_raise', ↓ss_nil', ↓ss_cons', ↓i_valE, ↓i_rng1E, ↓i_rng2E, ↓i_zipE, ↓i_enuE, ↓getK_s, ↓truK_t, ↓truK_f, ↓bK_s, ↓asgK_s, ↓atK_s, ↓seqK_s, ↓intsK_s, ↓blsK_s, ↓iteK_t, ↓iteK_f, ↓binD, ↓augD, ↓cmp_eq, ↓cmp_ne, ↓cmp_lt, ↓cmp_le, ↓cmp_gt, ↓cmp_ge, ↓cmp_is, ↓cmp_isn, ↓cmp_isN, ↓cmp_isnN, isNon, ↓ixD_int, ↓ixD_rod, atI0, atI1, atI2, atI3, ↓sl_tup, ↓sl_rol, ↓bi_len_tup, ↓bi_len_rol, ↓bi_len_ref, ↓bi_abs, ↓bi_int, ↓bi_intb, ↓bi_gcd, ↓bi_tup_tup, ↓bi_tup_rol, ↓bi_tup_ref, ↓bi_lst_tup, ↓bi_lst_rol, ↓bi_lst_ref, ↓bi_sum, ↓bi_sum_tup, ↓bi_sum_rol, ↓bi_all, ↓bi_any, ↓bi_max2, ↓bi_min2, tg_nm, tg_tp, tgsD, seqOf_tup, seqOf_rol, seqOf_up, seqL_rol, seqL_up', tru_non, tru_bl, tru_int, tru_tup, tru_rol, tru_up, ↓eq_int, isi_c, isi_int, isi_bl, isi_tup, isi_non, isi_str, isi_rol, tyN_up, tyN, List.getElem?_cons_zero, List.getElem?_cons_succ, List.set_cons_zero, List.set_cons_succ, permA, List.map_cons, List.map_nil, List.getD_cons_zero, List.getD_cons_succ, List.cons_append, List.nil_append, List.append_nil, List.replicate_succ, List.replicate_zero, RtP, ite_true, ite_false, if_true, if_false, Bool.false_eq_true, decide_true, decide_false, Bool.not_true, Bool.not_false, List.length_cons, List.length_nil, hi, run_are_numbers, e1, Bool.not_true, h1, show decide ((1 : Int) = 1) = true from rfl, decide_eq_true hc]
    exact ⟨⟨by decide, f1⟩, m1, m2, .refl, trivial⟩
  · obtain ⟨h3, h4⟩ := h2.resolve_left hc
    simp only [a4, b_is_move_of, ↓e_v, ↓e_c, ↓e_bin, ↓e_neg, ↓e_cmp, ↓e_chn, ↓e_and, ↓e_or, ↓e_not, ↓e_ite, ↓e_tup, ↓e_lst, ↓e_ix, ↓e_sl, ↓e_rev, ↓e_call, ↓e_bi, ↓e_isi, ↓e_app, ↓e_ext, ↓e_pop, ↓e_comp, ↓es_nil, ↓es_cons, ↓if_nil, ↓if_cons, ↓o_no, ↓o_so, ↓s_ex', ↓s_ret', ↓s_retN', ↓s_asg', ↓s_sub', ↓s_aug', ↓s_iff', ↓s_whl', ↓s_for', ↓s_pass', ↓s_brk', ↓s_cont', ↓s_raise', ↓ss_nil', ↓ss_cons', ↓i_valE, ↓i_rng1E, ↓i_rng2E, ↓i_zipE, ↓i_enuE, ↓getK_s, ↓truK_t, ↓truK_f, ↓bK_s, ↓asgK_s, ↓atK_s, ↓seqK_s, ↓intsK_s, ↓blsK_s, ↓iteK_t, ↓iteK_f, ↓binD, ↓augD, ↓cmp_eq, ↓cmp_ne, ↓cmp_lt, ↓cmp_le, ↓cmp_gt, ↓cmp_ge, ↓cmp_is, ↓cmp_isn, ↓cmp_isN, ↓cmp_isnN, isNon, ↓ixD_int, ↓ixD_rod, atI0, atI1, atI2, atI3, ↓sl_tup, ↓sl_rol, ↓bi_len_tup, ↓bi_len_rol, ↓bi_len_ref, ↓bi_abs, ↓bi_int, ↓bi_intb, ↓bi_gcd, ↓bi_tup_tup, ↓bi_tup_rol, ↓bi_tup_ref, ↓bi_lst_tup, ↓bi_lst_rol, ↓bi_lst_ref, ↓bi_sum, ↓bi_sum_tup, ↓bi_sum_rol, ↓bi_all, ↓bi_any, ↓bi_max2, ↓bi_min2, tg_nm, tg_tp, tgsD, seqOf_tup, seqOf_rol, seqOf_up, seqL_rol, seqL_up', tru_non, tru_bl, tru_int, tru_tup, tru_rol, tru_up, ↓eq_int, isi_c, isi_int, isi_bl, isi_tup, isi_non, isi_str, isi_rol, tyN_up, tyN, List.getElem?_cons_zero, List.getElem?_cons_succ, List.set_cons_zero, List.set_cons_succ, permA, List.map_cons, List.map_nil, List.getD_cons_zero, List.getD_cons_succ, List.cons_append, List.nil_append, List.append_nil, List.replicate_succ, List.replicate_zero, RtP, ite_true, ite_false, if_true, if_false, Bool.false_eq_true, decide_true, decide_false, Bool.not_true, Bool.not_false, List.length_cons, List.length_nil, hi, run_are_numbers, e1, Bool.not_true, h1, show decide ((1 : Int) = 1) = true from rfl, decide_eq_false hc, decide_eq_true h3, decide_eq_true h4]
    exact ⟨⟨by decide, f1⟩, m1, m2, .refl, trivial⟩
def sp_mv_sure : Spec := pur a4 (fun p _ => MvN p) v4
theorem run_mv_sure {p : I4} {μ : Mu} {X : Str → Mu → Prop} {Q : QD} : runK sp_mv_sure [v4 p] μ X Q ↔ MvN p ∧ Q (v4 p) μ := pur_run (args := a4) (val := v4) inj_4 p
theorem m_mv_sure {Φ : Nat → Spec} {i j n : Nat} (hi : Φ i = sp_tupled (n + 1)) (hj : Φ j = sp_mv_is) : Meets Φ 1 2 (b_sure_move i j) sp_mv_sure := pur_meets inj_4 fun ⟨a, b, c, d⟩ μ h => by
  simp only [a4, b_sure_move, ↓e_v, ↓e_c, ↓e_bin, ↓e_neg, ↓e_cmp, ↓e_chn, ↓e_and, ↓e_or, ↓e_not, ↓e_ite, ↓e_tup, ↓e_lst, ↓e_ix, ↓e_sl, ↓e_rev, ↓e_call, ↓e_bi, ↓e_isi, ↓e_app, ↓e_ext, ↓e_pop, ↓e_comp, ↓es_nil, ↓es_cons, ↓if_nil, ↓if_cons, ↓o_no, ↓o_so, ↓s_ex', ↓s_ret', ↓s_retN', ↓s_asg', ↓s_sub', ↓s_aug', ↓s_iff', ↓s_whl', ↓s_for', ↓s_pass', ↓s_brk', ↓s_cont', ↓s_raise', ↓ss_nil', ↓ss_cons', ↓i_valE, ↓i_rng1E, ↓i_rng2E, ↓i_zipE, ↓i_enuE, ↓getK_s, ↓truK_t, ↓truK_f, ↓bK_s, ↓asgK_s, ↓atK_s, ↓seqK_s, ↓intsK_s, ↓blsK_s, ↓iteK_t, ↓iteK_f, ↓binD, ↓augD, ↓cmp_eq, ↓cmp_ne, ↓cmp_lt, ↓cmp_le, ↓cmp_gt, ↓cmp_ge, ↓cmp_is, ↓cmp_isn, ↓cmp_isN, ↓cmp_isnN, isNon, ↓ixD_int, ↓ixD_rod, atI0, atI1, atI2, atI3, ↓sl_tup, ↓sl_rol, ↓bi_len_tup, ↓bi_len_rol, ↓bi_len_ref, ↓bi_abs, ↓bi_int, ↓bi_intb, ↓bi_gcd, ↓bi_tup_tup, ↓bi_tup_rol, ↓bi_tup_ref, ↓bi_lst_tup, ↓bi_lst_rol, ↓bi_lst_ref, ↓bi_sum, ↓bi_sum_tup, ↓bi_sum_rol, ↓bi_all, ↓bi_any, ↓bi_max2, ↓bi_min2, tg_nm, tg_tp, tgsD, seqOf_tup, seqOf_rol, seqOf_up, seqL_rol, seqL_up', tru_non, tru_bl, tru_int, tru_tup, tru_rol, tru_up, ↓eq_int, isi_c, isi_int, isi_bl, isi_tup, isi_non, isi_str, isi_rol, tyN_up, tyN, List.getElem?_cons_zero, List.getElem?_cons_succ, List.set_cons_zero, List.set_cons_succ, permA, List.map_cons, List.map_nil, List.getD_cons_zero, List.getD_cons_succ, List.cons_append, List.nil_append, List.append_nil, List.replicate_succ, List.replicate_zero, RtP, ite_true, ite_false, if_true, if_false, Bool.false_eq_true, decide_true, decide_false, Bool.not_true, Bool.not_false, List.length_cons, List.length_nil, hi, hj, run_tupled, plain4, run_mv_is, true_and, Bool.not_true]
  exact ⟨h, .refl, rfl⟩
def sp_mv_product : Spec := pur (fun p : I4 × I4 => [v4 p.1, v4 p.2]) (fun p _ => MvN p.1 ∧ MvN p.2) fun p => v4 (sgn4 (mul4 p.1 p.2))
theorem run_mv_product {p q : I4} {μ : Mu} {X : Str → Mu → Prop} {Q : QD} : runK sp_mv_product [v4 p, v4 q] μ X Q ↔ (MvN p ∧ MvN q) ∧ Q (v4 (sgn4 (mul4 p q))) μ := pur_run inj_44 (p, q)
theorem m_mv_product {Φ : Nat → Spec} {i j : Nat} (hi : Φ i = sp_product) (hj : Φ j = sp_mv_sure) : Meets Φ 2 2 (b_move_product i j) sp_mv_product := pur_meets inj_44 fun ⟨p, q⟩ μ h => by
  obtain ⟨h1, h2⟩ := h
  simp only [b_move_product, ↓e_v, ↓e_c, ↓e_bin, ↓e_neg, ↓e_cmp, ↓e_chn, ↓e_and, ↓e_or, ↓e_not, ↓e_ite, ↓e_tup, ↓e_lst, ↓e_ix, ↓e_sl, ↓e_rev, ↓e_call, ↓e_bi, ↓e_isi, ↓e_app, ↓e_ext, ↓e_pop, ↓e_comp, ↓es_nil, ↓es_cons, ↓if_nil, ↓if_cons, ↓o_no, ↓o_so, ↓s_ex', ↓s_ret', ↓s_retN', ↓s_asg', ↓s_sub', ↓s_aug', ↓s_iff', ↓s_whl', ↓s_for', ↓s_pass', ↓s_brk', ↓s_cont', ↓s_raise', ↓ss_nil', ↓ss_cons', ↓i_valE, ↓i_rng1E, ↓i_rng2E, ↓i_zipE, ↓i_enuE, ↓getK_s, ↓truK_t, ↓truK_f, ↓bK_s, ↓asgK_s, ↓atK_s, ↓seqK_s, ↓intsK_s, ↓blsK_s, ↓iteK_t, ↓iteK_f, ↓binD, ↓augD, ↓cmp_eq, ↓cmp_ne, ↓cmp_lt, ↓cmp_le, ↓cmp_gt, ↓cmp_ge, ↓cmp_is, ↓cmp_isn, ↓cmp_isN, ↓cmp_isnN, isNon, ↓ixD_int, ↓ixD_rod, atI0, atI1, atI2, atI3, ↓sl_tup, ↓sl_rol, ↓bi_len_tup, ↓bi_len_rol, ↓bi_len_ref, ↓bi_abs, ↓bi_int, ↓bi_intb, ↓bi_gcd, ↓bi_tup_tup, ↓bi_tup_rol, ↓bi_tup_ref, ↓bi_lst_tup, ↓bi_lst_rol, ↓bi_lst_ref, ↓bi_sum, ↓bi_sum_tup, ↓bi_sum_rol, ↓bi_all, ↓bi_any, ↓bi_max2, ↓bi_min2, tg_nm, tg_tp, tgsD, seqOf_tup, seqOf_rol, seqOf_up, seqL_rol, seqL_up', tru_non, tru_bl, tru_int, tru_tup, tru_rol, tru_up, ↓eq_int, isi_c, isi_int, isi_bl, isi_tup, isi_non, isi_str, isi_rol, tyN_up, tyN, List.getElem?_cons_zero, List.getElem?_cons_succ, List.set_cons_zero, List.set_cons_succ, permA, List.map_cons, List.map_nil, List.getD_cons_zero, List.getD_cons_succ, List.cons_append, List.nil_append, List.append_nil, List.replicate_succ, List.replicate_zero, RtP, ite_true, ite_false, if_true, if_false, Bool.false_eq_true, decide_true, decide_false, Bool.not_true, Bool.not_false, List.length_cons, List.length_nil, hi, hj, run_product, run_mv_sure]
  exact ⟨h1, h2, ⟨60000, 60000, h1.2, h2.2, by decide⟩, .refl, trivial⟩
def sp_mv_size0 : Spec := pur a4 (fun _ _ => True) fun p => .int (p.1 + p.2.2.2).natAbs
theorem run_mv_size0 {p : I4} {μ : Mu} {X : Str → Mu → Prop} {Q : QD} : runK sp_mv_size0 [v4 p] μ X Q ↔ True ∧ Q (.int (p.1 + p.2.2.2).natAbs) μ := pur_run (args := a4) inj_4 p
theorem m_mv_size0 {Φ : Nat → Spec} : Meets Φ 1 1 b_size_of sp_mv_size0 := pur_meets inj_4 fun ⟨a, b, c, d⟩ μ h => by
  simp only [a4, b_size_of, ↓e_v, ↓e_c, ↓e_bin, ↓e_neg, ↓e_cmp, ↓e_chn, ↓e_and, ↓e_or, ↓e_not, ↓e_ite, ↓e_tup, ↓e_lst, ↓e_ix, ↓e_sl, ↓e_rev, ↓e_call, ↓e_bi, ↓e_isi, ↓e_app, ↓e_ext, ↓e_pop, ↓e_comp, ↓es_nil, ↓es_cons, ↓if_nil, ↓if_cons, ↓o_no, ↓o_so, ↓s_ex', ↓s_ret', ↓s_retN', ↓s_asg', ↓s_sub', ↓s_aug', ↓s_iff', ↓s_whl', ↓s_for', ↓s_pass', ↓s_brk', ↓s_cont', ↓s_raise', ↓ss_nil', ↓ss_cons', ↓i_valE, ↓i_rng1E, ↓i_rng2E, ↓i_zipE, ↓i_enuE, ↓getK_s, ↓truK_t, ↓truK_f, ↓bK_s, ↓asgK_s, ↓atK_s, ↓seqK_s, ↓intsK_s, ↓blsK_s, ↓iteK_t, ↓iteK_f, ↓binD, ↓augD, ↓cmp_eq, ↓cmp_ne, ↓cmp_lt, ↓cmp_le, ↓cmp_gt, ↓cmp_ge, ↓cmp_is, ↓cmp_isn, ↓cmp_isN, ↓cmp_isnN, isNon, ↓ixD_int, ↓ixD_rod, atI0, atI1, atI2, atI3, ↓sl_tup, ↓sl_rol, ↓bi_len_tup, ↓bi_len_rol, ↓bi_len_ref, ↓bi_abs, ↓bi_int, ↓bi_intb, ↓bi_gcd, ↓bi_tup_tup, ↓bi_tup_rol, ↓bi_tup_ref, ↓bi_lst_tup, ↓bi_lst_rol, ↓bi_lst_ref, ↓bi_sum, ↓bi_sum_tup, ↓bi_sum_rol, ↓bi_all, ↓bi_any, ↓bi_max2, ↓bi_min2, tg_nm, tg_tp, tgsD, seqOf_tup, seqOf_rol, seqOf_up, seqL_rol, seqL_up', tru_non, tru_bl, tru_int, tru_tup, tru_rol, tru_up, ↓eq_int, isi_c, isi_int, isi_bl, isi_tup, isi_non, isi_str, isi_rol, tyN_up, tyN, List.getElem?_cons_zero, List.getElem?_cons_succ, List.set_cons_zero, List.set_cons_succ, permA, List.map_cons, List.map_nil, List.getD_cons_zero, List.getD_cons_succ, List.cons_append, List.nil_append, List.append_nil, List.replicate_succ, List.replicate_zero, RtP, ite_true, ite_false, if_true, if_false, Bool.false_eq_true, decide_true, decide_false, Bool.not_true, Bool.not_false, List.length_cons, List.length_nil]
  exact ⟨.refl, trivial⟩
def sp_mv_size : Spec := pur a4 (fun p _ => MvN p) fun p => .int (p.1 + p.2.2.2).natAbs
theorem run_mv_size {p : I4} {μ : Mu} {X : Str → Mu → Prop} {Q : QD} : runK sp_mv_size [v4 p] μ X Q ↔ MvN p ∧ Q (.int (p.1 + p.2.2.2).natAbs) μ := pur_run (args := a4) inj_4 p
theorem m_mv_size {Φ : Nat → Spec} {i j : Nat} (hi : Φ i = sp_mv_size0) (hj : Φ j = sp_mv_sure) : Meets Φ 1 1 (b_move_size i j) sp_mv_size := pur_meets inj_4 fun ⟨a, b, c, d⟩ μ h => by
  have e : D.tup [.int a, .int b, .int c, .int d] = v4 (a, b, c, d) := rfl
  simp only [a4, b_move_size, e, ↓e_v, ↓e_c, ↓e_bin, ↓e_neg, ↓e_cmp, ↓e_chn, ↓e_and, ↓e_or, ↓e_not, ↓e_ite, ↓e_tup, ↓e_lst, ↓e_ix, ↓e_sl, ↓e_rev, ↓e_call, ↓e_bi, ↓e_isi, ↓e_app, ↓e_ext, ↓e_pop, ↓e_comp, ↓es_nil, ↓es_cons, ↓if_nil, ↓if_cons, ↓o_no, ↓o_so, ↓s_ex', ↓s_ret', ↓s_retN', ↓s_asg', ↓s_sub', ↓s_aug', ↓s_iff', ↓s_whl', ↓s_for', ↓s_pass', ↓s_brk', ↓s_cont', ↓s_raise', ↓ss_nil', ↓ss_cons', ↓i_valE, ↓i_rng1E, ↓i_rng2E, ↓i_zipE, ↓i_enuE, ↓getK_s, ↓truK_t, ↓truK_f, ↓bK_s, ↓asgK_s, ↓atK_s, ↓seqK_s, ↓intsK_s, ↓blsK_s, ↓iteK_t, ↓iteK_f, ↓binD, ↓augD, ↓cmp_eq, ↓cmp_ne, ↓cmp_lt, ↓cmp_le, ↓cmp_gt, ↓cmp_ge, ↓cmp_is, ↓cmp_isn, ↓cmp_isN, ↓cmp_isnN, isNon, ↓ixD_int, ↓ixD_rod, atI0, atI1, atI2, atI3, ↓sl_tup, ↓sl_rol, ↓bi_len_tup, ↓bi_len_rol, ↓bi_len_ref, ↓bi_abs, ↓bi_int, ↓bi_intb, ↓bi_gcd, ↓bi_tup_tup, ↓bi_tup_rol, ↓bi_tup_ref, ↓bi_lst_tup, ↓bi_lst_rol, ↓bi_lst_ref, ↓bi_sum, ↓bi_sum_tup, ↓bi_sum_rol, ↓bi_all, ↓bi_any, ↓bi_max2, ↓bi_min2, tg_nm, tg_tp, tgsD, seqOf_tup, seqOf_rol, seqOf_up, seqL_rol, seqL_up', tru_non, tru_bl, tru_int, tru_tup, tru_rol, tru_up, ↓eq_int, isi_c, isi_int, isi_bl, isi_tup, isi_non, isi_str, isi_rol, tyN_up, tyN, List.getElem?_cons_zero, List.getElem?_cons_succ, List.set_cons_zero, List.set_cons_succ, permA, List.map_cons, List.map_nil, List.getD_cons_zero, List.getD_cons_succ, List.cons_append, List.nil_append, List.append_nil, List.replicate_succ, List.replicate_zero, RtP, ite_true, ite_false, if_true, if_false, Bool.false_eq_true, decide_true, decide_false, Bool.not_true, Bool.not_false, List.length_cons, List.length_nil, hi, hj, run_mv_size0, run_mv_sure, true_and]
  exact ⟨h, .refl, trivial⟩
/-! moves of letters -/
def lt4 (x : Int) : I4 := if x = 1 then (0, -1, 1, 0) else if x = 2 then (0, -1, 1, 1) else (-1, -1, 1, 0)
def mvs (w : List Int) : I4 := w.foldl (fun m x => sgn4 (mul4 m (lt4 x))) (1, 0, 0, 1)
theorem szM_lt {x : Int} : SzM 1 (lt4 x) := by
  unfold lt4
  split
  · exact ⟨by decide, by decide, by decide, by decide⟩
  · split
    · exact ⟨by decide, by decide, by decide, by decide⟩
    · exact ⟨by decide, by decide, by decide, by decide⟩
theorem szM_fold : ∀ (w : List Int) (m : I4) (n : Nat), SzM n m → SzM (n + 2 * w.length) (w.foldl (fun m x => sgn4 (mul4 m (lt4 x))) m)
  | [], m, n, h => h
  | x :: w, m, n, h => by
    rw [List.foldl_cons]
    exact (szM_fold w _ (n + 1 + 1) (szM_sgn (szM_mul h szM_lt))).mono (by rw [List.length_cons]; omega)
theorem szM_mvs (w : List Int) : SzM (1 + 2 * w.length) (mvs w) := szM_fold w _ 1 ⟨by decide, by decide, by decide, by decide⟩
theorem det_mul (p q : I4) : det4 (mul4 p q) = det4 p * det4 q := by
  obtain ⟨a, b, c, d⟩ := p
  obtain ⟨e, f, g, h⟩ := q
  simp only [det4, mul4]
  grind
theorem det_sgn (p : I4) : det4 (sgn4 p) = det4 p := by
  obtain ⟨a, b, c, d⟩ := p
  unfold sgn4
  split
  · rfl
  · simp only [det4]; grind
theorem mv1_sgn {p : I4} (h : det4 p = 1) : Mv1 (sgn4 p) := by
  refine ⟨by rw [det_sgn]; exact h, ?_⟩
  obtain ⟨a, b, c, d⟩ := p
  have key : c = 0 → d = 1 ∨ d = -1 := fun hc => by
    subst hc
    unfold det4 at h
    dsimp only at h
    have h1 : a * d = 1 := by omega
    have h2 := congrArg Int.natAbs h1
    rw [Int.natAbs_mul] at h2
    have h3 := Nat.eq_one_of_mul_eq_one_left h2
    omega
  unfold sgn4
  split
  · rename_i q
    dsimp only at q ⊢
    rcases q with q | ⟨q1, q2⟩
    · exact .inl q
    · rcases key q1 with e | e
      · exact .inr ⟨q1, e⟩
      · omega
  · rename_i q
    dsimp only at q ⊢
    by_cases hc : c = 0
    · rcases key hc with e | e
      · exact absurd (.inr ⟨hc, by omega⟩) q
      · exact .inr ⟨by omega, by omega⟩
    · refine .inl ?_
      have : ¬ 0 < c := fun z => q (.inl z)
      omega
theorem det_lt (x : Int) : det4 (lt4 x) = 1 := by
  unfold lt4
  split
  · rfl
  · split <;> rfl
theorem mv1_fold : ∀ (w : List Int) (m : I4), Mv1 m → Mv1 (w.foldl (fun m x => sgn4 (mul4 m (lt4 x))) m)
  | [], m, h => h
  | x :: w, m, h => by
    rw [List.foldl_cons]
    refine mv1_fold w _ (mv1_sgn ?_)
    rw [det_mul, h.1, det_lt]
    rfl
theorem mv1_mvs (w : List Int) : Mv1 (mvs w) := mv1_fold w _ ⟨rfl, .inr ⟨rfl, rfl⟩⟩
theorem mvN_mvs {w : List Int} (h : w.length ≤ 29000) : MvN (mvs w) := ⟨mv1_mvs w, (szM_mvs w).mono (by omega)⟩
theorem rod_lt {x : Int} (h : x = 1 ∨ x = 2 ∨ x = 3) : lookI [1, 2, 3] [D.tup [.int 0, .int (-1), .int 1, .int 0], D.tup [.int 0, .int (-1), .int 1, .int 1], D.tup [.int (-1), .int (-1), .int 1, .int 0]] x = some (v4 (lt4 x)) := by
  rcases h with rfl | rfl | rfl <;> rfl
/-- a fold's loop: the letters one by one -/
theorem mv_loop {Φ : Nat → Spec} {b : Ss} {C : DE} {w : List Int} {μ : Mu} {d0 : D} {z : Option D} (hw : Lt3 w) (hl : w.length ≤ 29000)
    (step : ∀ (m : I4) (x : Int) (z : Option D) (C : DE), SzM 60000 m → (x = 1 ∨ x = 2 ∨ x = 3) → C.nx [some d0, some (v4 (sgn4 (mul4 m (lt4 x)))), some (.int x)] μ → wpSs Φ b C [some d0, some (v4 m), some (.int x)] μ)
    (q : ∀ z, C.nx [some d0, some (v4 (mvs w)), z] μ) : forW Φ (.nm 2) b (fun _ => True) (w.map D.int) C [some d0, some (v4 (1, 0, 0, 1)), z] μ := by
  refine forL_ind (fun ys ρ μ' => ∃ (r u : List Int) (m : I4) (z : Option D), ys = r.map D.int ∧ w = u ++ r ∧ SzM (1 + 2 * u.length) m ∧ r.foldl (fun m x => sgn4 (mul4 m (lt4 x))) m = mvs w ∧ ρ = [some d0, some (v4 m), z] ∧ μ' = μ) ?_ ?_ _ _ _ ?_
  · rintro y ys ρ μ' ⟨r, u, m, z, e, hu, hm, hf, rfl, rfl⟩
    cases r with
    | nil => cases e
    | cons x r =>
      injection e with e1 e2
      subst e1
      refine ⟨trivial, [some d0, some (v4 m), some (.int x)], rfl, ?_⟩
      have hlen : u.length < 29000 := by
        have := congrArg List.length hu
        rw [List.length_append, List.length_cons] at this
        omega
      refine step m x z _ (hm.mono (by omega)) (hw x (by rw [hu]; simp)) ?_
      refine ⟨r, u ++ [x], _, _, e2, by rw [hu, List.append_assoc]; rfl, ?_, hf, rfl, rfl⟩
      exact (szM_sgn (szM_mul hm szM_lt)).mono (by rw [List.length_append, List.length_singleton]; omega)
  · rintro ρ μ' ⟨r, u, m, z, e, hu, hm, hf, rfl, rfl⟩
    cases r with
    | cons x r => cases e
    | nil =>
      refine ⟨trivial, ?_⟩
      have hf : m = mvs w := hf
      rw [hf]
      exact q z
  · exact ⟨w, [], _, z, rfl, rfl, ⟨by decide, by decide, by decide, by decide⟩, rfl, rfl, rfl⟩
def sp_move_in : Spec := pur (fun w : List Int => [D.tup (w.map D.int)]) (fun w _ => Lt3 w ∧ w.length ≤ 29000) fun w => v4 (mvs w)
theorem run_move_in {w : List Int} {μ : Mu} {X : Str → Mu → Prop} {Q : QD} : runK sp_move_in [.tup (w.map D.int)] μ X Q ↔ (Lt3 w ∧ w.length ≤ 29000) ∧ Q (v4 (mvs w)) μ := pur_run inj_w w
theorem sz2m {m : I4} {x : Int} (h : SzM 60000 m) : Sz2M m (lt4 x) := ⟨60000, 1, h, szM_lt, by decide⟩
theorem m_move_in {Φ : Nat → Spec} {i : Nat} (hi : Φ i = sp_product) : Meets Φ 1 3 (b_move_in i) sp_move_in := pur_meets inj_w fun w μ h => by
  obtain ⟨h1, h2⟩ := h
  simp only [b_move_in, ↓e_v, ↓e_c, ↓e_bin, ↓e_neg, ↓e_cmp, ↓e_chn, ↓e_and, ↓e_or, ↓e_not, ↓e_ite, ↓e_tup, ↓e_lst, ↓e_ix, ↓e_sl, ↓e_rev, ↓e_call, ↓e_bi, ↓e_isi, ↓e_app, ↓e_ext, ↓e_pop, ↓e_comp, ↓es_nil, ↓es_cons, ↓if_nil, ↓if_cons, ↓o_no, ↓o_so, ↓s_ex', ↓s_ret', ↓s_retN', ↓s_asg', ↓s_sub', ↓s_aug', ↓s_iff', ↓s_whl', ↓s_for', ↓s_pass', ↓s_brk', ↓s_cont', ↓s_raise', ↓ss_nil', ↓ss_cons', ↓i_valE, ↓i_rng1E, ↓i_rng2E, ↓i_zipE, ↓i_enuE, ↓getK_s, ↓truK_t, ↓truK_f, ↓bK_s, ↓asgK_s, ↓atK_s, ↓seqK_s, ↓intsK_s, ↓blsK_s, ↓iteK_t, ↓iteK_f, ↓binD, ↓augD, ↓cmp_eq, ↓cmp_ne, ↓cmp_lt, ↓cmp_le, ↓cmp_gt, ↓cmp_ge, ↓cmp_is, ↓cmp_isn, ↓cmp_isN, ↓cmp_isnN, isNon, ↓ixD_int, ↓ixD_rod, atI0, atI1, atI2, atI3, ↓sl_tup, ↓sl_rol, ↓bi_len_tup, ↓bi_len_rol, ↓bi_len_ref, ↓bi_abs, ↓bi_int, ↓bi_intb, ↓bi_gcd, ↓bi_tup_tup, ↓bi_tup_rol, ↓bi_tup_ref, ↓bi_lst_tup, ↓bi_lst_rol, ↓bi_lst_ref, ↓bi_sum, ↓bi_sum_tup, ↓bi_sum_rol, ↓bi_all, ↓bi_any, ↓bi_max2, ↓bi_min2, tg_nm, tg_tp, tgsD, seqOf_tup, seqOf_rol, seqOf_up, seqL_rol, seqL_up', tru_non, tru_bl, tru_int, tru_tup, tru_rol, tru_up, ↓eq_int, isi_c, isi_int, isi_bl, isi_tup, isi_non, isi_str, isi_rol, tyN_up, tyN, List.getElem?_cons_zero, List.getElem?_cons_succ, List.set_cons_zero, List.set_cons_succ, permA, List.map_cons, List.map_nil, List.getD_cons_zero, List.getD_cons_succ, List.cons_append, List.nil_append, List.append_nil, List.replicate_succ, List.replicate_zero, RtP, ite_true, ite_false, if_true, if_false, Bool.false_eq_true, decide_true, decide_false, Bool.not_true, Bool.not_false, List.length_cons, List.length_nil]
  refine mv_loop (z := none) h1 h2 (fun m x z C hm hx q => ?_) fun z => ?_
  · simp only [↓e_v, ↓e_c, ↓e_bin, ↓e_neg, ↓e_cmp, ↓e_chn, ↓e_and, ↓e_or, ↓e_not, ↓e_ite, ↓e_tup, ↓e_lst, ↓e_ix, ↓e_sl, ↓e_rev, ↓e_call, ↓e_bi, ↓e_isi, ↓e_app, ↓e_ext, ↓e_pop, ↓e_comp, ↓es_nil, ↓es_cons, ↓if_nil, ↓if_cons, ↓o_no, ↓o_so, ↓s_ex', ↓s_ret', ↓s_retN', ↓s_asg', ↓s_sub', ↓s_aug', ↓s_iff', ↓s_whl', ↓s_for', ↓s_pass', ↓s_brk', ↓s_cont', ↓s_raise', ↓ss_nil', ↓ss_cons', ↓i_valE, ↓i_rng1E, ↓i_rng2E, ↓i_zipE, ↓i_enuE, ↓getK_s, ↓truK_t, ↓truK_f, ↓bK_s, ↓asgK_s, ↓atK_s, ↓seqK_s, ↓intsK_s, ↓blsK_s, ↓iteK_t, ↓iteK_f, ↓binD, ↓augD, ↓cmp_eq, ↓cmp_ne, ↓cmp_lt, ↓cmp_le, ↓cmp_gt, ↓cmp_ge, ↓cmp_is, ↓cmp_isn, ↓cmp_isN, ↓cmp_isnN, isNon, ↓ixD_int, ↓ixD_rod, atI0, atI1, atI2, atI3, ↓sl_tup, ↓sl_rol, ↓bi_len_tup, ↓bi_len_rol, ↓bi_len_ref, ↓bi_abs, ↓bi_int, ↓bi_intb, ↓bi_gcd, ↓bi_tup_tup, ↓bi_tup_rol, ↓bi_tup_ref, ↓bi_lst_tup, ↓bi_lst_rol, ↓bi_lst_ref, ↓bi_sum, ↓bi_sum_tup, ↓bi_sum_rol, ↓bi_all, ↓bi_any, ↓bi_max2, ↓bi_min2, tg_nm, tg_tp, tgsD, seqOf_tup, seqOf_rol, seqOf_up, seqL_rol, seqL_up', tru_non, tru_bl, tru_int, tru_tup, tru_rol, tru_up, ↓eq_int, isi_c, isi_int, isi_bl, isi_tup, isi_non, isi_str, isi_rol, tyN_up, tyN, List.getElem?_cons_zero, List.getElem?_cons_succ, List.set_cons_zero, List.set_cons_succ, permA, List.map_cons, List.map_nil, List.getD_cons_zero, List.getD_cons_succ, List.cons_append, List.nil_append, List.append_nil, List.replicate_succ, List.replicate_zero, RtP, ite_true, ite_false, if_true, if_false, Bool.false_eq_true, decide_true, decide_false, Bool.not_true, Bool.not_false, List.length_cons, List.length_nil, rod_lt hx, hi, run_product]
    exact ⟨sz2m hm, q⟩
  · simp only [↓e_v, ↓e_c, ↓e_bin, ↓e_neg, ↓e_cmp, ↓e_chn, ↓e_and, ↓e_or, ↓e_not, ↓e_ite, ↓e_tup, ↓e_lst, ↓e_ix, ↓e_sl, ↓e_rev, ↓e_call, ↓e_bi, ↓e_isi, ↓e_app, ↓e_ext, ↓e_pop, ↓e_comp, ↓es_nil, ↓es_cons, ↓if_nil, ↓if_cons, ↓o_no, ↓o_so, ↓s_ex', ↓s_ret', ↓s_retN', ↓s_asg', ↓s_sub', ↓s_aug', ↓s_iff', ↓s_whl', ↓s_for', ↓s_pass', ↓s_brk', ↓s_cont', ↓s_raise', ↓ss_nil', ↓ss_cons', ↓i_valE, ↓i_rng1E, ↓i_rng2E, ↓i_zipE, ↓i_enuE, ↓getK_s, ↓truK_t, ↓truK_f, ↓bK_s, ↓asgK_s, ↓atK_s, ↓seqK_s, ↓intsK_s, ↓blsK_s, ↓iteK_t, ↓iteK_f, ↓binD, ↓augD, ↓cmp_eq, ↓cmp_ne, ↓cmp_lt, ↓cmp_le, ↓cmp_gt, ↓cmp_ge, ↓cmp_is, ↓cmp_isn, ↓cmp_isN, ↓cmp_isnN, isNon, ↓ixD_int, ↓ixD_rod, atI0, atI1, atI2, atI3, ↓sl_tup, ↓sl_rol, ↓bi_len_tup, ↓bi_len_rol, ↓bi_len_ref, ↓bi_abs, ↓bi_int, ↓bi_intb, ↓bi_gcd, ↓bi_tup_tup, ↓bi_tup_rol, ↓bi_tup_ref, ↓bi_lst_tup, ↓bi_lst_rol, ↓bi_lst_ref, ↓bi_sum, ↓bi_sum_tup, ↓bi_sum_rol, ↓bi_all, ↓bi_any, ↓bi_max2, ↓bi_min2, tg_nm, tg_tp, tgsD, seqOf_tup, seqOf_rol, seqOf_up, seqL_rol, seqL_up', tru_non, tru_bl, tru_int, tru_tup, tru_rol, tru_up, ↓eq_int, isi_c, isi_int, isi_bl, isi_tup, isi_non, isi_str, isi_rol, tyN_up, tyN, List.getElem?_cons_zero, List.getElem?_cons_succ, List.set_cons_zero, List.set_cons_succ, permA, List.map_cons, List.map_nil, List.getD_cons_zero, List.getD_cons_succ, List.cons_append, List.nil_append, List.append_nil, List.replicate_succ, List.replicate_zero, RtP, ite_true, ite_false, if_true, if_false, Bool.false_eq_true, decide_true, decide_false, Bool.not_true, Bool.not_false, List.length_cons, List.length_nil]
    exact ⟨.refl, trivial⟩
theorem m_mark {Φ : Nat → Spec} : Meets Φ 1 2 b__law_mark sp_signed := pur_meets inj_4 fun ⟨a, b, c, d⟩ μ _ => by
  have neg : wpE Φ (fun _ _ => False) (.bi .tuple (.cons (.comp (.nm 1) (.val (.v 0)) .nil (.bin .Sub (.c (.int 0)) (.v 1)) [1]) .nil)) [some (.tup [.int a, .int b, .int c, .int d]), none] μ fun e μ1 => Sub μ μ1 ∧ e = v4 (-a, -b, -c, -d) := by
    simp only [↓e_v, ↓e_c, ↓e_bin, ↓e_neg, ↓e_cmp, ↓e_chn, ↓e_and, ↓e_or, ↓e_not, ↓e_ite, ↓e_tup, ↓e_lst, ↓e_ix, ↓e_sl, ↓e_rev, ↓e_call, ↓e_bi, ↓e_isi, ↓e_app, ↓e_ext, ↓e_pop, ↓e_comp, ↓es_nil, ↓es_cons, ↓if_nil, ↓if_cons, ↓o_no, ↓o_so, ↓s_ex', ↓s_ret', ↓s_retN', ↓s_asg', ↓s_sub', ↓s_aug', ↓s_iff', ↓s_whl', ↓s_for', ↓s_pass', ↓s_brk', ↓s_cont', ↓s_raise', ↓ss_nil', ↓ss_cons', ↓i_valE, ↓i_rng1E, ↓i_rng2E, ↓i_zipE, ↓i_enuE, ↓getK_s, ↓truK_t, ↓truK_f, ↓bK_s, ↓asgK_s, ↓atK_s, ↓seqK_s, ↓intsK_s, ↓blsK_s, ↓iteK_t, ↓iteK_f, ↓binD, ↓augD, ↓cmp_eq, ↓cmp_ne, ↓cmp_lt, ↓cmp_le, ↓cmp_gt, ↓cmp_ge, ↓cmp_is, ↓cmp_isn, ↓cmp_isN, ↓cmp_isnN, isNon, ↓ixD_int, ↓ixD_rod, atI0, atI1, atI2, atI3, ↓sl_tup, ↓sl_rol, ↓bi_len_tup, ↓bi_len_rol, ↓bi_len_ref, ↓bi_abs, ↓bi_int, ↓bi_intb, ↓bi_gcd, ↓bi_tup_tup, ↓bi_tup_rol, ↓bi_tup_ref, ↓bi_lst_tup, ↓bi_lst_rol, ↓bi_lst_ref, ↓bi_sum, ↓bi_sum_tup, ↓bi_sum_rol, ↓bi_all, ↓bi_any, ↓bi_max2, ↓bi_min2, tg_nm, tg_tp, tgsD, seqOf_tup, seqOf_rol, seqOf_up, seqL_rol, seqL_up', tru_non, tru_bl, tru_int, tru_tup, tru_rol, tru_up, ↓eq_int, isi_c, isi_int, isi_bl, isi_tup, isi_non, isi_str, isi_rol, tyN_up, tyN, List.getElem?_cons_zero, List.getElem?_cons_succ, List.set_cons_zero, List.set_cons_succ, permA, List.map_cons, List.map_nil, List.getD_cons_zero, List.getD_cons_succ, List.cons_append, List.nil_append, List.append_nil, List.replicate_succ, List.replicate_zero, RtP, ite_true, ite_false, if_true, if_false, Bool.false_eq_true, decide_true, decide_false, Bool.not_true, Bool.not_false, List.length_cons, List.length_nil]
    refine compL_map (f := fun x => match x with
      | .int i => .int (0 - i)
      | x => x) trivial _ (by show 4 ≤ sizeLine; decide) (fun x hm R r => ⟨_, rfl, ?_⟩) ?_
    · simp only [List.mem_cons, List.not_mem_nil, or_false] at hm
      rcases hm with rfl | rfl | rfl | rfl <;> (simp only [↓e_v, ↓e_c, ↓e_bin, ↓e_neg, ↓e_cmp, ↓e_chn, ↓e_and, ↓e_or, ↓e_not, ↓e_ite, ↓e_tup, ↓e_lst, ↓e_ix, ↓e_sl, ↓e_rev, ↓e_call, ↓e_bi, ↓e_isi, ↓e_app, ↓e_ext, ↓e_pop, ↓e_comp, ↓es_nil, ↓es_cons, ↓if_nil, ↓if_cons, ↓o_no, ↓o_so, ↓s_ex', ↓s_ret', ↓s_retN', ↓s_asg', ↓s_sub', ↓s_aug', ↓s_iff', ↓s_whl', ↓s_for', ↓s_pass', ↓s_brk', ↓s_cont', ↓s_raise', ↓ss_nil', ↓ss_cons', ↓i_valE, ↓i_rng1E, ↓i_rng2E, ↓i_zipE, ↓i_enuE, ↓getK_s, ↓truK_t, ↓truK_f, ↓bK_s, ↓asgK_s, ↓atK_s, ↓seqK_s, ↓intsK_s, ↓blsK_s, ↓iteK_t, ↓iteK_f, ↓binD, ↓augD, ↓cmp_eq, ↓cmp_ne, ↓cmp_lt, ↓cmp_le, ↓cmp_gt, ↓cmp_ge, ↓cmp_is, ↓cmp_isn, ↓cmp_isN, ↓cmp_isnN, isNon, ↓ixD_int, ↓ixD_rod, atI0, atI1, atI2, atI3, ↓sl_tup, ↓sl_rol, ↓bi_len_tup, ↓bi_len_rol, ↓bi_len_ref, ↓bi_abs, ↓bi_int, ↓bi_intb, ↓bi_gcd, ↓bi_tup_tup, ↓bi_tup_rol, ↓bi_tup_ref, ↓bi_lst_tup, ↓bi_lst_rol, ↓bi_lst_ref, ↓bi_sum, ↓bi_sum_tup, ↓bi_sum_rol, ↓bi_all, ↓bi_any, ↓bi_max2, ↓bi_min2, tg_nm, tg_tp, tgsD, seqOf_tup, seqOf_rol, seqOf_up, seqL_rol, seqL_up', tru_non, tru_bl, tru_int, tru_tup, tru_rol, tru_up, ↓eq_int, isi_c, isi_int, isi_bl, isi_tup, isi_non, isi_str, isi_rol, tyN_up, tyN, List.getElem?_cons_zero, List.getElem?_cons_succ, List.set_cons_zero, List.set_cons_succ, permA, List.map_cons, List.map_nil, List.getD_cons_zero, List.getD_cons_succ, List.cons_append, List.nil_append, List.append_nil, List.replicate_succ, List.replicate_zero, RtP, ite_true, ite_false, if_true, if_false, Bool.false_eq_true, decide_true, decide_false, Bool.not_true, Bool.not_false, List.length_cons, List.length_nil, wipeR]; exact r)
    · intro p hp
      simp only [↓e_v, ↓e_c, ↓e_bin, ↓e_neg, ↓e_cmp, ↓e_chn, ↓e_and, ↓e_or, ↓e_not, ↓e_ite, ↓e_tup, ↓e_lst, ↓e_ix, ↓e_sl, ↓e_rev, ↓e_call, ↓e_bi, ↓e_isi, ↓e_app, ↓e_ext, ↓e_pop, ↓e_comp, ↓es_nil, ↓es_cons, ↓if_nil, ↓if_cons, ↓o_no, ↓o_so, ↓s_ex', ↓s_ret', ↓s_retN', ↓s_asg', ↓s_sub', ↓s_aug', ↓s_iff', ↓s_whl', ↓s_for', ↓s_pass', ↓s_brk', ↓s_cont', ↓s_raise', ↓ss_nil', ↓ss_cons', ↓i_valE, ↓i_rng1E, ↓i_rng2E, ↓i_zipE, ↓i_enuE, ↓getK_s, ↓truK_t, ↓truK_f, ↓bK_s, ↓asgK_s, ↓atK_s, ↓seqK_s, ↓intsK_s, ↓blsK_s, ↓iteK_t, ↓iteK_f, ↓binD, ↓augD, ↓cmp_eq, ↓cmp_ne, ↓cmp_lt, ↓cmp_le, ↓cmp_gt, ↓cmp_ge, ↓cmp_is, ↓cmp_isn, ↓cmp_isN, ↓cmp_isnN, isNon, ↓ixD_int, ↓ixD_rod, atI0, atI1, atI2, atI3, ↓sl_tup, ↓sl_rol, ↓bi_len_tup, ↓bi_len_rol, ↓bi_len_ref, ↓bi_abs, ↓bi_int, ↓bi_intb, ↓bi_gcd, ↓bi_tup_tup, ↓bi_tup_rol, ↓bi_tup_ref, ↓bi_lst_tup, ↓bi_lst_rol, ↓bi_lst_ref, ↓bi_sum, ↓bi_sum_tup, ↓bi_sum_rol, ↓bi_all, ↓bi_any, ↓bi_max2, ↓bi_min2, tg_nm, tg_tp, tgsD, seqOf_tup, seqOf_rol, seqOf_up, seqL_rol, seqL_up', tru_non, tru_bl, tru_int, tru_tup, tru_rol, tru_up, ↓eq_int, isi_c, isi_int, isi_bl, isi_tup, isi_non, isi_str, isi_rol, tyN_up, tyN, List.getElem?_cons_zero, List.getElem?_cons_succ, List.set_cons_zero, List.set_cons_succ, permA, List.map_cons, List.map_nil, List.getD_cons_zero, List.getD_cons_succ, List.cons_append, List.nil_append, List.append_nil, List.replicate_succ, List.replicate_zero, RtP, ite_true, ite_false, if_true, if_false, Bool.false_eq_true, decide_true, decide_false, Bool.not_true, Bool.not_false, List.length_cons, List.length_nil, up_same]
      exact ⟨.up hp, by simp only [v4, Int.zero_sub]⟩
  by_cases h1 : 0 < c
  · simp only [a4, b__law_mark, ↓e_v, ↓e_c, ↓e_bin, ↓e_neg, ↓e_cmp, ↓e_chn, ↓e_and, ↓e_or, ↓e_not, ↓e_ite, ↓e_tup, ↓e_lst, ↓e_ix, ↓e_sl, ↓e_rev, ↓e_call, ↓e_bi, ↓e_isi, ↓e_app, ↓e_ext, ↓e_pop, ↓e_comp, ↓es_nil, ↓es_cons, ↓if_nil, ↓if_cons, ↓o_no, ↓o_so, ↓s_ex', ↓s_ret', ↓s_retN', ↓s_asg', ↓s_sub', ↓s_aug', ↓s_iff', ↓s_whl', ↓s_for', ↓s_pass', ↓s_brk', ↓s_cont', ↓s_raise', ↓ss_nil', ↓ss_cons', ↓i_valE, ↓i_rng1E, ↓i_rng2E, ↓i_zipE, ↓i_enuE, ↓getK_s, ↓truK_t, ↓truK_f, ↓bK_s, ↓asgK_s, ↓atK_s, ↓seqK_s, ↓intsK_s, ↓blsK_s, ↓iteK_t, ↓iteK_f, ↓binD, ↓augD, ↓cmp_eq, ↓cmp_ne, ↓cmp_lt, ↓cmp_le, ↓cmp_gt, ↓cmp_ge, ↓cmp_is, ↓cmp_isn, ↓cmp_isN, ↓cmp_isnN, isNon, ↓ixD_int, ↓ixD_rod, atI0, atI1, atI2, atI3, ↓sl_tup, ↓sl_rol, ↓bi_len_tup, ↓bi_len_rol, ↓bi_len_ref, ↓bi_abs, ↓bi_int, ↓bi_intb, ↓bi_gcd, ↓bi_tup_tup, ↓bi_tup_rol, ↓bi_tup_ref, ↓bi_lst_tup, ↓bi_lst_rol, ↓bi_lst_ref, ↓bi_sum, ↓bi_sum_tup, ↓bi_sum_rol, ↓bi_all, ↓bi_any, ↓bi_max2, ↓bi_min2, tg_nm, tg_tp, tgsD, seqOf_tup, seqOf_rol, seqOf_up, seqL_rol, seqL_up', tru_non, tru_bl, tru_int, tru_tup, tru_rol, tru_up, ↓eq_int, isi_c, isi_int, isi_bl, isi_tup, isi_non, isi_str, isi_rol, tyN_up, tyN, List.getElem?_cons_zero, List.getElem?_cons_succ, List.set_cons_zero, List.set_cons_succ, permA, List.map_cons, List.map_nil, List.getD_cons_zero, List.getD_cons_succ, List.cons_append, List.nil_append, List.append_nil, List.replicate_succ, List.replicate_zero, RtP, ite_true, ite_false, if_true, if_false, Bool.false_eq_true, decide_true, decide_false, Bool.not_true, Bool.not_false, List.length_cons, List.length_nil, decide_eq_true h1]
    refine ⟨.refl, ?_⟩
    unfold sgn4
    rw [if_pos (.inl h1)]
    rfl
  · by_cases h2 : c = 0
    · by_cases h3 : 0 < d
      · simp only [a4, b__law_mark, ↓e_v, ↓e_c, ↓e_bin, ↓e_neg, ↓e_cmp, ↓e_chn, ↓e_and, ↓e_or, ↓e_not, ↓e_ite, ↓e_tup, ↓e_lst, ↓e_ix, ↓e_sl, ↓e_rev, ↓e_call, ↓e_bi, ↓e_isi, ↓e_app, ↓e_ext, ↓e_pop, ↓e_comp, ↓es_nil, ↓es_cons, ↓if_nil, ↓if_cons, ↓o_no, ↓o_so, ↓s_ex', ↓s_ret', ↓s_retN', ↓s_asg', ↓s_sub', ↓s_aug', ↓s_iff', ↓s_whl', ↓s_for', ↓s_pass', ↓s_brk', ↓s_cont', ↓s_raise', ↓ss_nil', ↓ss_cons', ↓i_valE, ↓i_rng1E, ↓i_rng2E, ↓i_zipE, ↓i_enuE, ↓getK_s, ↓truK_t, ↓truK_f, ↓bK_s, ↓asgK_s, ↓atK_s, ↓seqK_s, ↓intsK_s, ↓blsK_s, ↓iteK_t, ↓iteK_f, ↓binD, ↓augD, ↓cmp_eq, ↓cmp_ne, ↓cmp_lt, ↓cmp_le, ↓cmp_gt, ↓cmp_ge, ↓cmp_is, ↓cmp_isn, ↓cmp_isN, ↓cmp_isnN, isNon, ↓ixD_int, ↓ixD_rod, atI0, atI1, atI2, atI3, ↓sl_tup, ↓sl_rol, ↓bi_len_tup, ↓bi_len_rol, ↓bi_len_ref, ↓bi_abs, ↓bi_int, ↓bi_intb, ↓bi_gcd, ↓bi_tup_tup, ↓bi_tup_rol, ↓bi_tup_ref, ↓bi_lst_tup, ↓bi_lst_rol, ↓bi_lst_ref, ↓bi_sum, ↓bi_sum_tup, ↓bi_sum_rol, ↓bi_all, ↓bi_any, ↓bi_max2, ↓bi_min2, tg_nm, tg_tp, tgsD, seqOf_tup, seqOf_rol, seqOf_up, seqL_rol, seqL_up', tru_non, tru_bl, tru_int, tru_tup, tru_rol, tru_up, ↓eq_int, isi_c, isi_int, isi_bl, isi_tup, isi_non, isi_str, isi_rol, tyN_up, tyN, List.getElem?_cons_zero, List.getElem?_cons_succ, List.set_cons_zero, List.set_cons_succ, permA, List.map_cons, List.map_nil, List.getD_cons_zero, List.getD_cons_succ, List.cons_append, List.nil_append, List.append_nil, List.replicate_succ, List.replicate_zero, RtP, ite_true, ite_false, if_true, if_false, Bool.false_eq_true, decide_true, decide_false, Bool.not_true, Bool.not_false, List.length_cons, List.length_nil, decide_eq_false h1, decide_eq_true h2, decide_eq_true h3]
        refine ⟨.refl, ?_⟩
        unfold sgn4
        rw [if_pos (.inr ⟨h2, h3⟩)]
        rfl
      · simp only [a4, b__law_mark, ↓e_v, ↓e_c, ↓e_bin, ↓e_neg, ↓e_cmp, ↓e_chn, ↓e_and, ↓e_or, ↓e_not, ↓e_ite, ↓e_tup, ↓e_lst, ↓e_ix, ↓e_sl, ↓e_rev, ↓e_call, ↓e_bi, ↓e_isi, ↓e_app, ↓e_ext, ↓e_pop, ↓e_comp, ↓es_nil, ↓es_cons, ↓if_nil, ↓if_cons, ↓o_no, ↓o_so, ↓s_ex', ↓s_ret', ↓s_retN', ↓s_asg', ↓s_sub', ↓s_aug', ↓s_iff', ↓s_whl', ↓s_for', ↓s_pass', ↓s_brk', ↓s_cont', ↓s_raise', ↓ss_nil', ↓ss_cons', ↓i_valE, ↓i_rng1E, ↓i_rng2E, ↓i_zipE, ↓i_enuE, ↓getK_s, ↓truK_t, ↓truK_f, ↓bK_s, ↓asgK_s, ↓atK_s, ↓seqK_s, ↓intsK_s, ↓blsK_s, ↓iteK_t, ↓iteK_f, ↓binD, ↓augD, ↓cmp_eq, ↓cmp_ne, ↓cmp_lt, ↓cmp_le, ↓cmp_gt, ↓cmp_ge, ↓cmp_is, ↓cmp_isn, ↓cmp_isN, ↓cmp_isnN, isNon, ↓ixD_int, ↓ixD_rod, atI0, atI1, atI2, atI3, ↓sl_tup, ↓sl_rol, ↓bi_len_tup, ↓bi_len_rol, ↓bi_len_ref, ↓bi_abs, ↓bi_int, ↓bi_intb, ↓bi_gcd, ↓bi_tup_tup, ↓bi_tup_rol, ↓bi_tup_ref, ↓bi_lst_tup, ↓bi_lst_rol, ↓bi_lst_ref, ↓bi_sum, ↓bi_sum_tup, ↓bi_sum_rol, ↓bi_all, ↓bi_any, ↓bi_max2, ↓bi_min2, tg_nm, tg_tp, tgsD, seqOf_tup, seqOf_rol, seqOf_up, seqL_rol, seqL_up', tru_non, tru_bl, tru_int, tru_tup, tru_rol, tru_up, ↓eq_int, isi_c, isi_int, isi_bl, isi_tup, isi_non, isi_str, isi_rol, tyN_up, tyN, List.getElem?_cons_zero, List.getElem?_cons_succ, List.set_cons_zero, List.set_cons_succ, permA, List.map_cons, List.map_nil, List.getD_cons_zero, List.getD_cons_succ, List.cons_append, List.nil_append, List.append_nil, List.replicate_succ, List.replicate_zero, RtP, ite_true, ite_false, if_true, if_false, Bool.false_eq_true, decide_true, decide_false, Bool.not_true, Bool.not_false, List.length_cons, List.length_nil, decide_eq_false h1, decide_eq_true h2, decide_eq_false h3]
        simp only [↓e_v, ↓e_c, ↓e_bin, ↓e_neg, ↓e_cmp, ↓e_chn, ↓e_and, ↓e_or, ↓e_not, ↓e_ite, ↓e_tup, ↓e_lst, ↓e_ix, ↓e_sl, ↓e_rev, ↓e_call, ↓e_bi, ↓e_isi, ↓e_app, ↓e_ext, ↓e_pop, ↓e_comp, ↓es_nil, ↓es_cons, ↓if_nil, ↓if_cons, ↓o_no, ↓o_so, ↓s_ex', ↓s_ret', ↓s_retN', ↓s_asg', ↓s_sub', ↓s_aug', ↓s_iff', ↓s_whl', ↓s_for', ↓s_pass', ↓s_brk', ↓s_cont', ↓s_raise', ↓ss_nil', ↓ss_cons', ↓i_valE, ↓i_rng1E, ↓i_rng2E, ↓i_zipE, ↓i_enuE, ↓getK_s, ↓truK_t, ↓truK_f, ↓bK_s, ↓asgK_s, ↓atK_s, ↓seqK_s, ↓intsK_s, ↓blsK_s, ↓iteK_t, ↓iteK_f, ↓binD, ↓augD, ↓cmp_eq, ↓cmp_ne, ↓cmp_lt, ↓cmp_le, ↓cmp_gt, ↓cmp_ge, ↓cmp_is, ↓cmp_isn, ↓cmp_isN, ↓cmp_isnN, isNon, ↓ixD_int, ↓ixD_rod, atI0, atI1, atI2, atI3, ↓sl_tup, ↓sl_rol, ↓bi_len_tup, ↓bi_len_rol, ↓bi_len_ref, ↓bi_abs, ↓bi_int, ↓bi_intb, ↓bi_gcd, ↓bi_tup_tup, ↓bi_tup_rol, ↓bi_tup_ref, ↓bi_lst_tup, ↓bi_lst_rol, ↓bi_lst_ref, ↓bi_sum, ↓bi_sum_tup, ↓bi_sum_rol, ↓bi_all, ↓bi_any, ↓bi_max2, ↓bi_min2, tg_nm, tg_tp, tgsD, seqOf_tup, seqOf_rol, seqOf_up, seqL_rol, seqL_up', tru_non, tru_bl, tru_int, tru_tup, tru_rol, tru_up, ↓eq_int, isi_c, isi_int, isi_bl, isi_tup, isi_non, isi_str, isi_rol, tyN_up, tyN, List.getElem?_cons_zero, List.getElem?_cons_succ, List.set_cons_zero, List.set_cons_succ, permA, List.map_cons, List.map_nil, List.getD_cons_zero, List.getD_cons_succ, List.cons_append, List.nil_append, List.append_nil, List.replicate_succ, List.replicate_zero, RtP, ite_true, ite_false, if_true, if_false, Bool.false_eq_true, decide_true, decide_false, Bool.not_true, Bool.not_false, List.length_cons, List.length_nil] at neg
        unfold sgn4
        rw [if_neg (by rintro (h | h); exact h1 h; exact h3 h.2)]
        exact neg
    · simp only [a4, b__law_mark, ↓e_v, ↓e_c, ↓e_bin, ↓e_neg, ↓e_cmp, ↓e_chn, ↓e_and, ↓e_or, ↓e_not, ↓e_ite, ↓e_tup, ↓e_lst, ↓e_ix, ↓e_sl, ↓e_rev, ↓e_call, ↓e_bi, ↓e_isi, ↓e_app, ↓e_ext, ↓e_pop, ↓e_comp, ↓es_nil, ↓es_cons, ↓if_nil, ↓if_cons, ↓o_no, ↓o_so, ↓s_ex', ↓s_ret', ↓s_retN', ↓s_asg', ↓s_sub', ↓s_aug', ↓s_iff', ↓s_whl', ↓s_for', ↓s_pass', ↓s_brk', ↓s_cont', ↓s_raise', ↓ss_nil', ↓ss_cons', ↓i_valE, ↓i_rng1E, ↓i_rng2E, ↓i_zipE, ↓i_enuE, ↓getK_s, ↓truK_t, ↓truK_f, ↓bK_s, ↓asgK_s, ↓atK_s, ↓seqK_s, ↓intsK_s, ↓blsK_s, ↓iteK_t, ↓iteK_f, ↓binD, ↓augD, ↓cmp_eq, ↓cmp_ne, ↓cmp_lt, ↓cmp_le, ↓cmp_gt, ↓cmp_ge, ↓cmp_is, ↓cmp_isn, ↓cmp_isN, ↓cmp_isnN, isNon, ↓ixD_int, ↓ixD_rod, atI0, atI1, atI2, atI3, ↓sl_tup, ↓sl_rol, ↓bi_len_tup, ↓bi_len_rol, ↓bi_len_ref, ↓bi_abs, ↓bi_int, ↓bi_intb, ↓bi_gcd, ↓bi_tup_tup, ↓bi_tup_rol, ↓bi_tup_ref, ↓bi_lst_tup, ↓bi_lst_rol, ↓bi_lst_ref, ↓bi_sum, ↓bi_sum_tup, ↓bi_sum_rol, ↓bi_all, ↓bi_any, ↓bi_max2, ↓bi_min2, tg_nm, tg_tp, tgsD, seqOf_tup, seqOf_rol, seqOf_up, seqL_rol, seqL_up', tru_non, tru_bl, tru_int, tru_tup, tru_rol, tru_up, ↓eq_int, isi_c, isi_int, isi_bl, isi_tup, isi_non, isi_str, isi_rol, tyN_up, tyN, List.getElem?_cons_zero, List.getElem?_cons_succ, List.set_cons_zero, List.set_cons_succ, permA, List.map_cons, List.map_nil, List.getD_cons_zero, List.getD_cons_succ, List.cons_append, List.nil_append, List.append_nil, List.replicate_succ, List.replicate_zero, RtP, ite_true, ite_false, if_true, if_false, Bool.false_eq_true, decide_true, decide_false, Bool.not_true, Bool.not_false, List.length_cons, List.length_nil, decide_eq_false h1, decide_eq_false h2]
      simp only [↓e_v, ↓e_c, ↓e_bin, ↓e_neg, ↓e_cmp, ↓e_chn, ↓e_and, ↓e_or, ↓e_not, ↓e_ite, ↓e_tup, ↓e_lst, ↓e_ix, ↓e_sl, ↓e_rev, ↓e_call, ↓e_bi, ↓e_isi, ↓e_app, ↓e_ext, ↓e_pop, ↓e_comp, ↓es_nil, ↓es_cons, ↓if_nil, ↓if_cons, ↓o_no, ↓o_so, ↓s_ex', ↓s_ret', ↓s_retN', ↓s_asg', ↓s_sub', ↓s_aug', ↓s_iff', ↓s_whl', ↓s_for', ↓s_pass', ↓s_brk', ↓s_cont', ↓s_raise', ↓ss_nil', ↓ss_cons', ↓i_valE, ↓i_rng1E, ↓i_rng2E, ↓i_zipE, ↓i_enuE, ↓getK_s, ↓truK_t, ↓truK_f, ↓bK_s, ↓asgK_s, ↓atK_s, ↓seqK_s, ↓intsK_s, ↓blsK_s, ↓iteK_t, ↓iteK_f, ↓binD, ↓augD, ↓cmp_eq, ↓cmp_ne, ↓cmp_lt, ↓cmp_le, ↓cmp_gt, ↓cmp_ge, ↓cmp_is, ↓cmp_isn, ↓cmp_isN, ↓cmp_isnN, isNon, ↓ixD_int, ↓ixD_rod, atI0, atI1, atI2, atI3, ↓sl_tup, ↓sl_rol, ↓bi_len_tup, ↓bi_len_rol, ↓bi_len_ref, ↓bi_abs, ↓bi_int, ↓bi_intb, ↓bi_gcd, ↓bi_tup_tup, ↓bi_tup_rol, ↓bi_tup_ref, ↓bi_lst_tup, ↓bi_lst_rol, ↓bi_lst_ref, ↓bi_sum, ↓bi_sum_tup, ↓bi_sum_rol, ↓bi_all, ↓bi_any, ↓bi_max2, ↓bi_min2, tg_nm, tg_tp, tgsD, seqOf_tup, seqOf_rol, seqOf_up, seqL_rol, seqL_up', tru_non, tru_bl, tru_int, tru_tup, tru_rol, tru_up, ↓eq_int, isi_c, isi_int, isi_bl, isi_tup, isi_non, isi_str, isi_rol, tyN_up, tyN, List.getElem?_cons_zero, List.getElem?_cons_succ, List.set_cons_zero, List.set_cons_succ, permA, List.map_cons, List.map_nil, List.getD_cons_zero, List.getD_cons_succ, List.cons_append, List.nil_append, List.append_nil, List.replicate_succ, List.replicate_zero, RtP, ite_true, ite_false, if_true, if_false, Bool.false_eq_true, decide_true, decide_false, Bool.not_true, Bool.not_false, List.length_cons, List.length_nil] at neg
      unfold sgn4
      rw [if_neg (by rintro (h | h); exact h1 h; exact h2 h.1)]
      exact neg
theorem m_times4 {Φ : Nat → Spec} {i : Nat} (hi : Φ i = sp_signed) : Meets Φ 2 2 (b__law_times i) sp_product := pur_meets inj_44 fun ⟨⟨a, b, c, d⟩, e, f, g, k⟩ μ h => by
  obtain ⟨m, n, ⟨p1, p2, p3, p4⟩, ⟨q1, q2, q3, q4⟩, hmn⟩ := h
  dsimp only at p1 p2 p3 p4 q1 q2 q3 q4
  simp only [v4, b__law_times, ↓e_v, ↓e_c, ↓e_bin, ↓e_neg, ↓e_cmp, ↓e_chn, ↓e_and, ↓e_or, ↓e_not, ↓e_ite, ↓e_tup, ↓e_lst, ↓e_ix, ↓e_sl, ↓e_rev, ↓e_call, ↓e_bi, ↓e_isi, ↓e_app, ↓e_ext, ↓e_pop, ↓e_comp, ↓es_nil, ↓es_cons, ↓if_nil, ↓if_cons, ↓o_no, ↓o_so, ↓s_ex', ↓s_ret', ↓s_retN', ↓s_asg', ↓s_sub', ↓s_aug', ↓s_iff', ↓s_whl', ↓s_for', ↓s_pass', ↓s_brk', ↓s_cont', ↓s_raise', ↓ss_nil', ↓ss_cons', ↓i_valE, ↓i_rng1E, ↓i_rng2E, ↓i_zipE, ↓i_enuE, ↓getK_s, ↓truK_t, ↓truK_f, ↓bK_s, ↓asgK_s, ↓atK_s, ↓seqK_s, ↓intsK_s, ↓blsK_s, ↓iteK_t, ↓iteK_f, ↓binD, ↓augD, ↓cmp_eq, ↓cmp_ne, ↓cmp_lt, ↓cmp_le, ↓cmp_gt, ↓cmp_ge, ↓cmp_is, ↓cmp_isn, ↓cmp_isN, ↓cmp_isnN, isNon, ↓ixD_int, ↓ixD_rod, atI0, atI1, atI2, atI3, ↓sl_tup, ↓sl_rol, ↓bi_len_tup, ↓bi_len_rol, ↓bi_len_ref, ↓bi_abs, ↓bi_int, ↓bi_intb, ↓bi_gcd, ↓bi_tup_tup, ↓bi_tup_rol, ↓bi_tup_ref, ↓bi_lst_tup, ↓bi_lst_rol, ↓bi_lst_ref, ↓bi_sum, ↓bi_sum_tup, ↓bi_sum_rol, ↓bi_all, ↓bi_any, ↓bi_max2, ↓bi_min2, tg_nm, tg_tp, tgsD, seqOf_tup, seqOf_rol, seqOf_up, seqL_rol, seqL_up', tru_non, tru_bl, tru_int, tru_tup, tru_rol, tru_up, ↓eq_int, isi_c, isi_int, isi_bl, isi_tup, isi_non, isi_str, isi_rol, tyN_up, tyN, List.getElem?_cons_zero, List.getElem?_cons_succ, List.set_cons_zero, List.set_cons_succ, permA, List.map_cons, List.map_nil, List.getD_cons_zero, List.getD_cons_succ, List.cons_append, List.nil_append, List.append_nil, List.replicate_succ, List.replicate_zero, RtP, ite_true, ite_false, if_true, if_false, Bool.false_eq_true, decide_true, decide_false, Bool.not_true, Bool.not_false, List.length_cons, List.length_nil, hi, run_signed, true_and]
  exact ⟨p1.mulOk q1 hmn, p2.mulOk q3 hmn, p1.mulOk q2 hmn, p2.mulOk q4 hmn, p3.mulOk q1 hmn, p4.mulOk q3 hmn, p3.mulOk q2 hmn, p4.mulOk q4 hmn, by decide, .refl, rfl⟩
theorem inj_i (i j : Int) (h : [D.int i] = [D.int j]) : i = j := by
  injection h with h _
  injection h with h
def sp_letter : Spec := pur (fun x : Int => [D.int x]) (fun x _ => x = 1 ∨ x = 2 ∨ x = 3) fun x => v4 (lt4 x)
theorem run_letter {x : Int} {μ : Mu} {X : Str → Mu → Prop} {Q : QD} : runK sp_letter [.int x] μ X Q ↔ (x = 1 ∨ x = 2 ∨ x = 3) ∧ Q (v4 (lt4 x)) μ := pur_run inj_i x
theorem m_letter {Φ : Nat → Spec} : Meets Φ 1 1 b__law_letter sp_letter := pur_meets inj_i fun x μ h => by
  simp only [b__law_letter, ↓e_v, ↓e_c, ↓e_bin, ↓e_neg, ↓e_cmp, ↓e_chn, ↓e_and, ↓e_or, ↓e_not, ↓e_ite, ↓e_tup, ↓e_lst, ↓e_ix, ↓e_sl, ↓e_rev, ↓e_call, ↓e_bi, ↓e_isi, ↓e_app, ↓e_ext, ↓e_pop, ↓e_comp, ↓es_nil, ↓es_cons, ↓if_nil, ↓if_cons, ↓o_no, ↓o_so, ↓s_ex', ↓s_ret', ↓s_retN', ↓s_asg', ↓s_sub', ↓s_aug', ↓s_iff', ↓s_whl', ↓s_for', ↓s_pass', ↓s_brk', ↓s_cont', ↓s_raise', ↓ss_nil', ↓ss_cons', ↓i_valE, ↓i_rng1E, ↓i_rng2E, ↓i_zipE, ↓i_enuE, ↓getK_s, ↓truK_t, ↓truK_f, ↓bK_s, ↓asgK_s, ↓atK_s, ↓seqK_s, ↓intsK_s, ↓blsK_s, ↓iteK_t, ↓iteK_f, ↓binD, ↓augD, ↓cmp_eq, ↓cmp_ne, ↓cmp_lt, ↓cmp_le, ↓cmp_gt, ↓cmp_ge, ↓cmp_is, ↓cmp_isn, ↓cmp_isN, ↓cmp_isnN, isNon, ↓ixD_int, ↓ixD_rod, atI0, atI1, atI2, atI3, ↓sl_tup, ↓sl_rol, ↓bi_len_tup, ↓bi_len_rol, ↓bi_len_ref, ↓bi_abs, ↓bi_int, ↓bi_intb, ↓bi_gcd, ↓bi_tup_tup, ↓bi_tup_rol, ↓bi_tup_ref, ↓bi_lst_tup, ↓bi_lst_rol, ↓bi_lst_ref, ↓bi_sum, ↓bi_sum_tup, ↓bi_sum_rol, ↓bi_all, ↓bi_any, ↓bi_max2, ↓bi_min2, tg_nm, tg_tp, tgsD, seqOf_tup, seqOf_rol, seqOf_up, seqL_rol, seqL_up', tru_non, tru_bl, tru_int, tru_tup, tru_rol, tru_up, ↓eq_int, isi_c, isi_int, isi_bl, isi_tup, isi_non, isi_str, isi_rol, tyN_up, tyN, List.getElem?_cons_zero, List.getElem?_cons_succ, List.set_cons_zero, List.set_cons_succ, permA, List.map_cons, List.map_nil, List.getD_cons_zero, List.getD_cons_succ, List.cons_append, List.nil_append, List.append_nil, List.replicate_succ, List.replicate_zero, RtP, ite_true, ite_false, if_true, if_false, Bool.false_eq_true, decide_true, decide_false, Bool.not_true, Bool.not_false, List.length_cons, List.length_nil]
  refine ⟨by decide, by decide, by decide, by decide, ?_⟩
  rcases h with rfl | rfl | rfl <;> simp only [show ((1 : Int) - 1) = 0 from rfl, show ((2 : Int) - 1) = 1 from rfl, show ((3 : Int) - 1) = 2 from rfl, ↓e_v, ↓e_c, ↓e_bin, ↓e_neg, ↓e_cmp, ↓e_chn, ↓e_and, ↓e_or, ↓e_not, ↓e_ite, ↓e_tup, ↓e_lst, ↓e_ix, ↓e_sl, ↓e_rev, ↓e_call, ↓e_bi, ↓e_isi, ↓e_app, ↓e_ext, ↓e_pop, ↓e_comp, ↓es_nil, ↓es_cons, ↓if_nil, ↓if_cons, ↓o_no, ↓o_so, ↓s_ex', ↓s_ret', ↓s_retN', ↓s_asg', ↓s_sub', ↓s_aug', ↓s_iff', ↓s_whl', ↓s_for', ↓s_pass', ↓s_brk', ↓s_cont', ↓s_raise', ↓ss_nil', ↓ss_cons', ↓i_valE, ↓i_rng1E, ↓i_rng2E, ↓i_zipE, ↓i_enuE, ↓getK_s, ↓truK_t, ↓truK_f, ↓bK_s, ↓asgK_s, ↓atK_s, ↓seqK_s, ↓intsK_s, ↓blsK_s, ↓iteK_t, ↓iteK_f, ↓binD, ↓augD, ↓cmp_eq, ↓cmp_ne, ↓cmp_lt, ↓cmp_le, ↓cmp_gt, ↓cmp_ge, ↓cmp_is, ↓cmp_isn, ↓cmp_isN, ↓cmp_isnN, isNon, ↓ixD_int, ↓ixD_rod, atI0, atI1, atI2, atI3, ↓sl_tup, ↓sl_rol, ↓bi_len_tup, ↓bi_len_rol, ↓bi_len_ref, ↓bi_abs, ↓bi_int, ↓bi_intb, ↓bi_gcd, ↓bi_tup_tup, ↓bi_tup_rol, ↓bi_tup_ref, ↓bi_lst_tup, ↓bi_lst_rol, ↓bi_lst_ref, ↓bi_sum, ↓bi_sum_tup, ↓bi_sum_rol, ↓bi_all, ↓bi_any, ↓bi_max2, ↓bi_min2, tg_nm, tg_tp, tgsD, seqOf_tup, seqOf_rol, seqOf_up, seqL_rol, seqL_up', tru_non, tru_bl, tru_int, tru_tup, tru_rol, tru_up, ↓eq_int, isi_c, isi_int, isi_bl, isi_tup, isi_non, isi_str, isi_rol, tyN_up, tyN, List.getElem?_cons_zero, List.getElem?_cons_succ, List.set_cons_zero, List.set_cons_succ, permA, List.map_cons, List.map_nil, List.getD_cons_zero, List.getD_cons_succ, List.cons_append, List.nil_append, List.append_nil, List.replicate_succ, List.replicate_zero, RtP, ite_true, ite_false, if_true, if_false, Bool.false_eq_true, decide_true, decide_false, Bool.not_true, Bool.not_false, List.length_cons, List.length_nil] <;> exact ⟨.refl, rfl⟩
/-- over a list or a tuple of letters -/
theorem m_spell {Φ : Nat → Spec} {i j : Nat} (hi : Φ i = sp_product) (hj : Φ j = sp_letter) : Meets Φ 1 3 (b__law_spell i j) sp_move_in := pur_meets inj_w fun w μ h => by
  obtain ⟨h1, h2⟩ := h
  simp only [b__law_spell, ↓e_v, ↓e_c, ↓e_bin, ↓e_neg, ↓e_cmp, ↓e_chn, ↓e_and, ↓e_or, ↓e_not, ↓e_ite, ↓e_tup, ↓e_lst, ↓e_ix, ↓e_sl, ↓e_rev, ↓e_call, ↓e_bi, ↓e_isi, ↓e_app, ↓e_ext, ↓e_pop, ↓e_comp, ↓es_nil, ↓es_cons, ↓if_nil, ↓if_cons, ↓o_no, ↓o_so, ↓s_ex', ↓s_ret', ↓s_retN', ↓s_asg', ↓s_sub', ↓s_aug', ↓s_iff', ↓s_whl', ↓s_for', ↓s_pass', ↓s_brk', ↓s_cont', ↓s_raise', ↓ss_nil', ↓ss_cons', ↓i_valE, ↓i_rng1E, ↓i_rng2E, ↓i_zipE, ↓i_enuE, ↓getK_s, ↓truK_t, ↓truK_f, ↓bK_s, ↓asgK_s, ↓atK_s, ↓seqK_s, ↓intsK_s, ↓blsK_s, ↓iteK_t, ↓iteK_f, ↓binD, ↓augD, ↓cmp_eq, ↓cmp_ne, ↓cmp_lt, ↓cmp_le, ↓cmp_gt, ↓cmp_ge, ↓cmp_is, ↓cmp_isn, ↓cmp_isN, ↓cmp_isnN, isNon, ↓ixD_int, ↓ixD_rod, atI0, atI1, atI2, atI3, ↓sl_tup, ↓sl_rol, ↓bi_len_tup, ↓bi_len_rol, ↓bi_len_ref, ↓bi_abs, ↓bi_int, ↓bi_intb, ↓bi_gcd, ↓bi_tup_tup, ↓bi_tup_rol, ↓bi_tup_ref, ↓bi_lst_tup, ↓bi_lst_rol, ↓bi_lst_ref, ↓bi_sum, ↓bi_sum_tup, ↓bi_sum_rol, ↓bi_all, ↓bi_any, ↓bi_max2, ↓bi_min2, tg_nm, tg_tp, tgsD, seqOf_tup, seqOf_rol, seqOf_up, seqL_rol, seqL_up', tru_non, tru_bl, tru_int, tru_tup, tru_rol, tru_up, ↓eq_int, isi_c, isi_int, isi_bl, isi_tup, isi_non, isi_str, isi_rol, tyN_up, tyN, List.getElem?_cons_zero, List.getElem?_cons_succ, List.set_cons_zero, List.set_cons_succ, permA, List.map_cons, List.map_nil, List.getD_cons_zero, List.getD_cons_succ, List.cons_append, List.nil_append, List.append_nil, List.replicate_succ, List.replicate_zero, RtP, ite_true, ite_false, if_true, if_false, Bool.false_eq_true, decide_true, decide_false, Bool.not_true, Bool.not_false, List.length_cons, List.length_nil]
  refine ⟨by decide, ?_⟩
  refine mv_loop (z := none) h1 h2 (fun m x z C hm hx q => ?_) fun z => ?_
  · simp only [↓e_v, ↓e_c, ↓e_bin, ↓e_neg, ↓e_cmp, ↓e_chn, ↓e_and, ↓e_or, ↓e_not, ↓e_ite, ↓e_tup, ↓e_lst, ↓e_ix, ↓e_sl, ↓e_rev, ↓e_call, ↓e_bi, ↓e_isi, ↓e_app, ↓e_ext, ↓e_pop, ↓e_comp, ↓es_nil, ↓es_cons, ↓if_nil, ↓if_cons, ↓o_no, ↓o_so, ↓s_ex', ↓s_ret', ↓s_retN', ↓s_asg', ↓s_sub', ↓s_aug', ↓s_iff', ↓s_whl', ↓s_for', ↓s_pass', ↓s_brk', ↓s_cont', ↓s_raise', ↓ss_nil', ↓ss_cons', ↓i_valE, ↓i_rng1E, ↓i_rng2E, ↓i_zipE, ↓i_enuE, ↓getK_s, ↓truK_t, ↓truK_f, ↓bK_s, ↓asgK_s, ↓atK_s, ↓seqK_s, ↓intsK_s, ↓blsK_s, ↓iteK_t, ↓iteK_f, ↓binD, ↓augD, ↓cmp_eq, ↓cmp_ne, ↓cmp_lt, ↓cmp_le, ↓cmp_gt, ↓cmp_ge, ↓cmp_is, ↓cmp_isn, ↓cmp_isN, ↓cmp_isnN, isNon, ↓ixD_int, ↓ixD_rod, atI0, atI1, atI2, atI3, ↓sl_tup, ↓sl_rol, ↓bi_len_tup, ↓bi_len_rol, ↓bi_len_ref, ↓bi_abs, ↓bi_int, ↓bi_intb, ↓bi_gcd, ↓bi_tup_tup, ↓bi_tup_rol, ↓bi_tup_ref, ↓bi_lst_tup, ↓bi_lst_rol, ↓bi_lst_ref, ↓bi_sum, ↓bi_sum_tup, ↓bi_sum_rol, ↓bi_all, ↓bi_any, ↓bi_max2, ↓bi_min2, tg_nm, tg_tp, tgsD, seqOf_tup, seqOf_rol, seqOf_up, seqL_rol, seqL_up', tru_non, tru_bl, tru_int, tru_tup, tru_rol, tru_up, ↓eq_int, isi_c, isi_int, isi_bl, isi_tup, isi_non, isi_str, isi_rol, tyN_up, tyN, List.getElem?_cons_zero, List.getElem?_cons_succ, List.set_cons_zero, List.set_cons_succ, permA, List.map_cons, List.map_nil, List.getD_cons_zero, List.getD_cons_succ, List.cons_append, List.nil_append, List.append_nil, List.replicate_succ, List.replicate_zero, RtP, ite_true, ite_false, if_true, if_false, Bool.false_eq_true, decide_true, decide_false, Bool.not_true, Bool.not_false, List.length_cons, List.length_nil, hj, run_letter, hi, run_product]
    exact ⟨hx, sz2m hm, q⟩
  · simp only [↓e_v, ↓e_c, ↓e_bin, ↓e_neg, ↓e_cmp, ↓e_chn, ↓e_and, ↓e_or, ↓e_not, ↓e_ite, ↓e_tup, ↓e_lst, ↓e_ix, ↓e_sl, ↓e_rev, ↓e_call, ↓e_bi, ↓e_isi, ↓e_app, ↓e_ext, ↓e_pop, ↓e_comp, ↓es_nil, ↓es_cons, ↓if_nil, ↓if_cons, ↓o_no, ↓o_so, ↓s_ex', ↓s_ret', ↓s_retN', ↓s_asg', ↓s_sub', ↓s_aug', ↓s_iff', ↓s_whl', ↓s_for', ↓s_pass', ↓s_brk', ↓s_cont', ↓s_raise', ↓ss_nil', ↓ss_cons', ↓i_valE, ↓i_rng1E, ↓i_rng2E, ↓i_zipE, ↓i_enuE, ↓getK_s, ↓truK_t, ↓truK_f, ↓bK_s, ↓asgK_s, ↓atK_s, ↓seqK_s, ↓intsK_s, ↓blsK_s, ↓iteK_t, ↓iteK_f, ↓binD, ↓augD, ↓cmp_eq, ↓cmp_ne, ↓cmp_lt, ↓cmp_le, ↓cmp_gt, ↓cmp_ge, ↓cmp_is, ↓cmp_isn, ↓cmp_isN, ↓cmp_isnN, isNon, ↓ixD_int, ↓ixD_rod, atI0, atI1, atI2, atI3, ↓sl_tup, ↓sl_rol, ↓bi_len_tup, ↓bi_len_rol, ↓bi_len_ref, ↓bi_abs, ↓bi_int, ↓bi_intb, ↓bi_gcd, ↓bi_tup_tup, ↓bi_tup_rol, ↓bi_tup_ref, ↓bi_lst_tup, ↓bi_lst_rol, ↓bi_lst_ref, ↓bi_sum, ↓bi_sum_tup, ↓bi_sum_rol, ↓bi_all, ↓bi_any, ↓bi_max2, ↓bi_min2, tg_nm, tg_tp, tgsD, seqOf_tup, seqOf_rol, seqOf_up, seqL_rol, seqL_up', tru_non, tru_bl, tru_int, tru_tup, tru_rol, tru_up, ↓eq_int, isi_c, isi_int, isi_bl, isi_tup, isi_non, isi_str, isi_rol, tyN_up, tyN, List.getElem?_cons_zero, List.getElem?_cons_succ, List.set_cons_zero, List.set_cons_succ, permA, List.map_cons, List.map_nil, List.getD_cons_zero, List.getD_cons_succ, List.cons_append, List.nil_append, List.append_nil, List.replicate_succ, List.replicate_zero, RtP, ite_true, ite_false, if_true, if_false, Bool.false_eq_true, decide_true, decide_false, Bool.not_true, Bool.not_false, List.length_cons, List.length_nil]
    exact ⟨.refl, trivial⟩
end LD
namespace LD
open PySem PySem.Spec PyProof.Rows L2
/-! ### words: tables up to the sign -/
def neg4 (p : I4) : I4 := (-p.1, -p.2.1, -p.2.2.1, -p.2.2.2)
def Pm (p q : I4) : Prop := p = q ∨ p = neg4 q
theorem neg4_neg (p : I4) : neg4 (neg4 p) = p := by
  obtain ⟨a, b, c, d⟩ := p
  simp [neg4]
theorem Pm.refl (p : I4) : Pm p p := .inl rfl
theorem Pm.symm {p q : I4} (h : Pm p q) : Pm q p := by
  rcases h with h | h
  · exact .inl h.symm
  · exact .inr (by rw [h, neg4_neg])
theorem Pm.trans {p q r : I4} (h : Pm p q) (k : Pm q r) : Pm p r := by
  rcases h with h | h <;> rcases k with k | k
  · exact .inl (h.trans k)
  · exact .inr (h.trans k)
  · exact .inr (by rw [h, k])
  · exact .inl (by rw [h, k, neg4_neg])
theorem pm_sgn (p : I4) : Pm (sgn4 p) p := by
  unfold sgn4
  split
  · exact .inl rfl
  · exact .inr rfl
theorem neg4_mul (p q : I4) : mul4 (neg4 p) q = neg4 (mul4 p q) := by
  obtain ⟨a, b, c, d⟩ := p
  obtain ⟨e, f, g, h⟩ := q
  simp only [mul4, neg4, Prod.mk.injEq]
  refine ⟨?_, ?_, ?_, ?_⟩ <;> grind
theorem mul4_neg (p q : I4) : mul4 p (neg4 q) = neg4 (mul4 p q) := by
  obtain ⟨a, b, c, d⟩ := p
  obtain ⟨e, f, g, h⟩ := q
  simp only [mul4, neg4, Prod.mk.injEq]
  refine ⟨?_, ?_, ?_, ?_⟩ <;> grind
theorem Pm.mul {p q r s : I4} (h : Pm p q) (k : Pm r s) : Pm (mul4 p r) (mul4 q s) := by
  rcases h with h | h <;> rcases k with k | k <;> subst h k
  · exact .inl rfl
  · exact .inr (mul4_neg _ _)
  · exact .inr (neg4_mul _ _)
  · exact .inl (by rw [neg4_mul, mul4_neg, neg4_neg])
theorem mul4_assoc (p q r : I4) : mul4 (mul4 p q) r = mul4 p (mul4 q r) := by
  obtain ⟨a, b, c, d⟩ := p
  obtain ⟨e, f, g, h⟩ := q
  obtain ⟨i, j, k, l⟩ := r
  simp only [mul4, Prod.mk.injEq]
  refine ⟨?_, ?_, ?_, ?_⟩ <;> grind
def id4 : I4 := (1, 0, 0, 1)
theorem mul4_one (p : I4) : mul4 p id4 = p := by
  obtain ⟨a, b, c, d⟩ := p
  simp [mul4, id4]
theorem one_mul4 (p : I4) : mul4 id4 p = p := by
  obtain ⟨a, b, c, d⟩ := p
  simp [mul4, id4]
theorem mv1_pm {p q : I4} (h : Mv1 p) (k : Mv1 q) (e : Pm p q) : p = q := by
  rcases e with e | e
  · exact e
  · subst e
    obtain ⟨a, b, c, d⟩ := q
    have h2 := h.2
    have k2 := k.2
    unfold neg4 at h2
    dsimp only at h2 k2
    omega
theorem sgn_of {p : I4} (h : Mv1 p) : sgn4 p = p := mv1_pm (mv1_sgn h.1) h (pm_sgn p)
def tb (w : List Int) : I4 := w.foldl (fun m x => mul4 m (lt4 x)) id4
theorem tb_fold : ∀ (w : List Int) (m : I4), w.foldl (fun m x => mul4 m (lt4 x)) m = mul4 m (tb w)
  | [], m => (mul4_one m).symm
  | x :: w, m => by
    unfold tb
    rw [List.foldl_cons, List.foldl_cons, tb_fold w, tb_fold w, one_mul4, mul4_assoc]
theorem tb_append (u v : List Int) : tb (u ++ v) = mul4 (tb u) (tb v) := by
  unfold tb
  rw [List.foldl_append]
  exact tb_fold v _
theorem tb_one (x : Int) : tb [x] = lt4 x := one_mul4 _
theorem pm_fold : ∀ (w : List Int) (m n : I4), Pm m n → Pm (w.foldl (fun m x => sgn4 (mul4 m (lt4 x))) m) (w.foldl (fun m x => mul4 m (lt4 x)) n)
  | [], m, n, h => h
  | x :: w, m, n, h => by
    rw [List.foldl_cons, List.foldl_cons]
    exact pm_fold w _ _ ((pm_sgn _).trans (h.mul (.refl _)))
theorem pm_mvs (w : List Int) : Pm (mvs w) (tb w) := pm_fold w _ _ (.refl _)
theorem mvs_of_pm {u v : List Int} (h : Pm (tb u) (tb v)) : mvs u = mvs v := mv1_pm (mv1_mvs u) (mv1_mvs v) ((pm_mvs u).trans (h.trans (pm_mvs v).symm))
theorem det_mvs (w : List Int) : det4 (mvs w) = 1 := (mv1_mvs w).1
theorem mvs_append (u v : List Int) : mvs (u ++ v) = sgn4 (mul4 (mvs u) (mvs v)) := by
  refine mv1_pm (mv1_mvs _) (mv1_sgn (by rw [det_mul, det_mvs, det_mvs]; rfl)) ?_
  refine (pm_mvs _).trans ?_
  rw [tb_append]
  exact (((pm_mvs u).mul (pm_mvs v)).symm).trans (pm_sgn _).symm
/-! ### shortening -/
theorem stp_pm {rs : List Int} {x : Int} (hr : Lt3 rs) (hx : x = 1 ∨ x = 2 ∨ x = 3) : Pm (tb (stp rs x).reverse) (tb (rs.reverse ++ [x])) := by
  cases rs with
  | nil => exact .refl _
  | cons y ys =>
    have hy := hr y (List.mem_cons_self ..)
    unfold stp
    dsimp only
    rw [List.reverse_cons, List.append_assoc, tb_append, show [y] ++ [x] = [y, x] from rfl]
    have two : tb [y, x] = mul4 (lt4 y) (lt4 x) := by
      rw [show [y, x] = [y] ++ [x] from rfl, tb_append, tb_one, tb_one]
    split
    · rw [List.reverse_cons, List.reverse_cons, List.append_assoc, tb_append, show [y] ++ [x] = [y, x] from rfl]
      exact .refl _
    · rename_i c
      have keep : ∀ z, Pm (lt4 z) (mul4 (lt4 y) (lt4 x)) → Pm (tb (z :: ys).reverse) (mul4 (tb ys.reverse) (tb [y, x])) := fun z hz => by
        rw [List.reverse_cons, tb_append, tb_one, two]
        exact (Pm.refl _).mul hz
      have drop : Pm id4 (mul4 (lt4 y) (lt4 x)) → Pm (tb ys.reverse) (mul4 (tb ys.reverse) (tb [y, x])) := fun hz => by
        rw [two]
        have := (Pm.refl (tb ys.reverse)).mul hz
        rw [mul4_one] at this
        exact this
      rcases hx with rfl | rfl | rfl <;> rcases hy with rfl | rfl | rfl <;> first
        | (exact absurd (by decide) c)
        | (exact drop (.inr rfl))
        | (exact keep _ (.inl rfl))
        | (exact keep _ (.inr rfl))
theorem stp_lt {rs : List Int} {x : Int} (hr : Lt3 rs) (hx : x = 1 ∨ x = 2 ∨ x = 3) : Lt3 (stp rs x) := by
  cases rs with
  | nil =>
    intro y hy
    rcases List.mem_cons.mp hy with h | h
    · rw [h]; exact hx
    · cases h
  | cons y ys =>
    have hy := hr y (List.mem_cons_self ..)
    have hys : Lt3 ys := fun z hz => hr z (List.mem_cons_of_mem _ hz)
    unfold stp
    dsimp only
    split
    · intro z hz
      rcases List.mem_cons.mp hz with h | h
      · rw [h]; exact hx
      · exact hr z h
    · split
      · exact hys
      · split
        · intro z hz
          rcases List.mem_cons.mp hz with h | h
          · rw [h]
            rcases hx with rfl | rfl | rfl <;> rcases hy with rfl | rfl | rfl <;> simp at *
          · exact hys z h
        · exact hys
/-- of two letters side by side just one is 1 -/
def alt : List Int → Bool
  | x :: y :: r => (decide (x = 1) != decide (y = 1)) && alt (y :: r)
  | _ => true
theorem alt_tail {x : Int} {w : List Int} (h : alt (x :: w) = true) : alt w = true := by
  cases w with
  | nil => rfl
  | cons y w =>
    unfold alt at h
    exact (Bool.and_eq_true_iff.mp h).2
theorem stp_alt {rs : List Int} {x : Int} (hr : Lt3 rs) (hx : x = 1 ∨ x = 2 ∨ x = 3) (h : alt rs = true) : alt (stp rs x) = true := by
  cases rs with
  | nil => rfl
  | cons y ys =>
    have hy := hr y (List.mem_cons_self ..)
    unfold stp
    dsimp only
    split
    · rename_i c
      unfold alt
      rw [h, Bool.and_true]
      rw [bne_iff_ne]
      exact fun e => c e.symm
    · rename_i c
      split
      · exact alt_tail h
      · rename_i c1
        split
        · rename_i c2
          cases ys with
          | nil => rfl
          | cons z zs =>
            unfold alt at h ⊢
            obtain ⟨h1, h2⟩ := Bool.and_eq_true_iff.mp h
            rw [h2, Bool.and_true]
            rcases hx with rfl | rfl | rfl <;> rcases hy with rfl | rfl | rfl <;> first
              | (exact absurd (by decide) c)
              | (exact absurd rfl c1)
              | (exact absurd (by decide) c2)
              | exact h1
        · exact alt_tail h
theorem fold_stp : ∀ (w rs : List Int), Lt3 rs → Lt3 w → alt rs = true → Lt3 (w.foldl stp rs) ∧ alt (w.foldl stp rs) = true ∧ Pm (tb (w.foldl stp rs).reverse) (tb (rs.reverse ++ w)) ∧ (w.foldl stp rs).length ≤ rs.length + w.length
  | [], rs, h1, _, h3 => ⟨h1, h3, by rw [List.append_nil]; exact .refl _, by simp⟩
  | x :: w, rs, h1, h2, h3 => by
    have hx := h2 x (List.mem_cons_self ..)
    obtain ⟨g1, g2, g3, g4⟩ := fold_stp w (stp rs x) (stp_lt h1 hx) (fun z hz => h2 z (List.mem_cons_of_mem _ hz)) (stp_alt h1 hx h3)
    rw [List.foldl_cons]
    refine ⟨g1, g2, g3.trans ?_, ?_⟩
    · rw [tb_append, show rs.reverse ++ x :: w = (rs.reverse ++ [x]) ++ w by simp, tb_append (rs.reverse ++ [x])]
      exact (stp_pm h1 hx).mul (.refl _)
    · have := stp_len rs x
      rw [List.length_cons]
      omega
theorem alt_rev_aux : ∀ (u : List Int) (x y : Int), alt (u ++ [x, y]) = (alt (u ++ [x]) && (decide (x = 1) != decide (y = 1)))
  | [], x, y => by simp [alt]
  | [a], x, y => by simp [alt]
  | a :: b :: u, x, y => by
    have ih := alt_rev_aux (b :: u) x y
    simp only [List.cons_append] at ih ⊢
    unfold alt
    rw [ih, Bool.and_assoc]
theorem alt_rev : ∀ w : List Int, alt w.reverse = alt w
  | [] => rfl
  | [x] => rfl
  | x :: y :: w => by
    have ih := alt_rev (y :: w)
    rw [List.reverse_cons, List.reverse_cons, List.append_assoc]
    rw [List.reverse_cons] at ih
    rw [show [y] ++ [x] = [y, x] from rfl, alt_rev_aux, ih]
    conv => rhs; unfold alt
    rw [Bool.and_comm]
    cases decide (x = 1) <;> cases decide (y = 1) <;> rfl
theorem lt3_rev {w : List Int} (h : Lt3 w) : Lt3 w.reverse := fun x hx => h x (List.mem_reverse.mp hx)
theorem lt3_nil : Lt3 [] := fun x hx => by cases hx
theorem short_lt {w : List Int} (h : Lt3 w) : Lt3 (short w) := lt3_rev (fold_stp w [] lt3_nil h rfl).1
theorem short_alt {w : List Int} (h : Lt3 w) : alt (short w) = true := by
  unfold short
  rw [alt_rev]
  exact (fold_stp w [] lt3_nil h rfl).2.1
theorem short_mvs {w : List Int} (h : Lt3 w) : mvs (short w) = mvs w := mvs_of_pm (fold_stp w [] lt3_nil h rfl).2.2.1
theorem short_len {w : List Int} (h : Lt3 w) : (short w).length ≤ w.length := by
  have := (fold_stp w [] lt3_nil h rfl).2.2.2
  unfold short
  rw [List.length_reverse]
  simpa using this
theorem fold_alt : ∀ (w rs : List Int), alt w = true → (∀ x y, w.head? = some x → rs.head? = some y → decide (y = 1) ≠ decide (x = 1)) → w.foldl stp rs = w.reverse ++ rs
  | [], rs, _, _ => rfl
  | x :: w, rs, h, k => by
    have e : stp rs x = x :: rs := by
      cases rs with
      | nil => rfl
      | cons y ys =>
        unfold stp
        dsimp only
        rw [if_pos (k x y rfl rfl)]
    rw [List.foldl_cons, e, fold_alt w (x :: rs) (alt_tail h) (fun z y hz hy => ?_), List.reverse_cons, List.append_assoc]
    · rfl
    · cases w with
      | nil => cases hz
      | cons z' w =>
        cases hz
        cases hy
        unfold alt at h
        exact bne_iff_ne.mp (Bool.and_eq_true_iff.mp h).1
theorem short_word {w : List Int} (h : alt w = true) : short w = w := by
  unfold short
  rw [fold_alt w [] h (fun x y _ hy => by cases hy), List.append_nil, List.reverse_reverse]
theorem alt_iff {w : List Int} (h : Lt3 w) : alt w = decide (w = short w) := by
  by_cases e : w = short w
  · rw [decide_eq_true e, e]
    exact short_alt h
  · rw [decide_eq_false e]
    cases q : alt w with
    | false => rfl
    | true => exact absurd (short_word q).symm e
/-! backs -/
def bk (x : Int) : Int := if x = 1 then x else 5 - x
theorem bk_lt {x : Int} (h : x = 1 ∨ x = 2 ∨ x = 3) : bk x = 1 ∨ bk x = 2 ∨ bk x = 3 := by
  rcases h with rfl | rfl | rfl <;> decide
theorem fold_bk : ∀ rs : List Int, Lt3 rs → (rs.map bk).foldl stp rs = []
  | [], _ => rfl
  | y :: ys, h => by
    have e : stp (y :: ys) (bk y) = ys := by
      rcases h y (List.mem_cons_self ..) with rfl | rfl | rfl <;> rfl
    rw [List.map_cons, List.foldl_cons, e]
    exact fold_bk ys fun z hz => h z (List.mem_cons_of_mem _ hz)
theorem alt_map_bk : ∀ w : List Int, Lt3 w → alt (w.map bk) = alt w
  | [], _ => rfl
  | [x], _ => rfl
  | x :: y :: w, h => by
    have ih := alt_map_bk (y :: w) fun z hz => h z (List.mem_cons_of_mem _ hz)
    have hx := h x (List.mem_cons_self ..)
    have hy := h y (List.mem_cons_of_mem _ (List.mem_cons_self ..))
    rw [List.map_cons, List.map_cons] at *
    unfold alt
    rw [ih]
    congr 1
    rcases hx with rfl | rfl | rfl <;> rcases hy with rfl | rfl | rfl <;> decide
theorem lt3_bk {w : List Int} (h : Lt3 w) : Lt3 (w.map bk) := fun x hx => by
  obtain ⟨y, hy, rfl⟩ := List.mem_map.mp hx
  exact bk_lt (h y hy)
theorem short_back {w : List Int} (h : Lt3 w) (ha : alt w = true) : short (w ++ w.reverse.map bk) = [] := by
  unfold short
  rw [List.foldl_append, fold_alt w [] ha (fun x y _ hy => by cases hy), List.append_nil, fold_bk _ (lt3_rev h)]
  rfl
theorem alt_append_left : ∀ (u v : List Int), alt (u ++ v) = true → alt u = true
  | [], _, _ => rfl
  | [x], _, _ => rfl
  | x :: y :: u, v, h => by
    simp only [List.cons_append] at h
    unfold alt at h ⊢
    obtain ⟨h1, h2⟩ := Bool.and_eq_true_iff.mp h
    rw [h1, alt_append_left (y :: u) v h2]
    rfl
theorem alt_append_right : ∀ (u v : List Int), alt (u ++ v) = true → alt v = true
  | [], _, h => h
  | x :: u, v, h => alt_append_right u v (alt_tail h)
end LD
namespace LD
open PySem PySem.Spec PyProof.Rows L2
/-! ### rotations, repetitions -/
def rot {α : Type} (k : Nat) (w : List α) : List α := w.drop k ++ w.take k
def rep {α : Type} (k : Nat) (w : List α) : List α := (List.replicate k w).flatten
def cy (w : List Int) (i : Nat) : Int := w.getD (i % w.length) 0
theorem gD_left {u v : List Int} {i : Nat} (h : i < u.length) : (u ++ v).getD i 0 = u.getD i 0 := by simp only [List.getD_eq_getElem?_getD, List.getElem?_append_left h]
theorem gD_right {u v : List Int} {i : Nat} (h : u.length ≤ i) : (u ++ v).getD i 0 = v.getD (i - u.length) 0 := by simp only [List.getD_eq_getElem?_getD, List.getElem?_append_right h]
theorem rep_succ {α : Type} (k : Nat) (w : List α) : rep (k + 1) w = w ++ rep k w := by unfold rep; rw [List.replicate_succ, List.flatten_cons]
theorem rep_len {α : Type} (k : Nat) (w : List α) : (rep k w).length = k * w.length := by
  induction k with
  | zero => simp [rep]
  | succ k ih => rw [rep_succ, List.length_append, ih, Nat.succ_mul, Nat.add_comm]
theorem rot_len {α : Type} (k : Nat) (w : List α) : (rot k w).length = w.length := by
  unfold rot
  rw [List.length_append, List.length_drop, List.length_take]
  omega
theorem getD_rep (w : List Int) (hw : 0 < w.length) : ∀ (k j : Nat), j < k * w.length → (rep k w).getD j 0 = w.getD (j % w.length) 0
  | 0, j, h => by omega
  | k + 1, j, h => by
    rw [rep_succ]
    rcases Nat.lt_or_ge j w.length with c | c
    · rw [gD_left c, Nat.mod_eq_of_lt c]
    · rw [gD_right c, getD_rep w hw k _ (by rw [Nat.succ_mul] at h; omega)]
      congr 1
      exact (Nat.mod_eq_sub_mod c).symm
theorem cy_rep {w : List Int} {k : Nat} (hw : 0 < w.length) (hk : 0 < k) (i : Nat) : cy (rep k w) i = cy w i := by
  unfold cy
  rw [rep_len, getD_rep w hw k _ (Nat.mod_lt _ (Nat.mul_pos hk hw)), Nat.mod_mul_left_mod]
theorem cy_rot {w : List Int} {j : Nat} (hj : j ≤ w.length) (hw : 0 < w.length) (i : Nat) : cy (rot j w) i = cy w (i + j) := by
  unfold cy
  rw [rot_len]
  have hm := Nat.mod_lt i hw
  have e : (i + j) % w.length = (i % w.length + j) % w.length := by rw [Nat.mod_add_mod]
  rw [e]
  generalize i % w.length = m at *
  unfold rot
  rcases Nat.lt_or_ge m (w.length - j) with c | c
  · rw [gD_left (by rw [List.length_drop]; exact c), Nat.mod_eq_of_lt (by omega)]
    simp only [List.getD_eq_getElem?_getD, List.getElem?_drop]
    rw [Nat.add_comm]
  · rw [gD_right (by rw [List.length_drop]; exact c), List.length_drop]
    have e2 : (m + j) % w.length = m - (w.length - j) := by
      rw [Nat.mod_eq_sub_mod (by omega), Nat.mod_eq_of_lt (by omega)]
      omega
    rw [e2]
    simp only [List.getD_eq_getElem?_getD]
    rw [List.getElem?_take_of_lt (by omega)]
theorem cy_ext {u w : List Int} (hl : u.length = w.length) (h : ∀ i, cy u i = cy w i) : u = w := by
  refine List.ext_getElem hl fun i h1 h2 => ?_
  have := h i
  unfold cy at this
  rw [Nat.mod_eq_of_lt h1, Nat.mod_eq_of_lt h2] at this
  simpa [List.getD_eq_getElem?_getD, List.getElem?_eq_getElem h1, List.getElem?_eq_getElem h2] using this
theorem cy_add (w : List Int) (i k : Nat) : cy w (i + k * w.length) = cy w i := by
  unfold cy
  rw [Nat.add_mul_mod_self_right]
theorem cy_mod (w : List Int) (i : Nat) : cy w (i % w.length) = cy w i := by
  unfold cy
  rw [Nat.mod_mod]
theorem rot_rep {p : List Int} {k j : Nat} (hp : 0 < p.length) (hk : 0 < k) (hj : j ≤ k * p.length) : rot j (rep k p) = rep k (rot (j % p.length) p) := by
  have hm := Nat.mod_lt j hp
  refine cy_ext (by rw [rot_len, rep_len, rep_len, rot_len]) fun i => ?_
  rw [cy_rot (by rw [rep_len]; exact hj) (by rw [rep_len]; exact Nat.mul_pos hk hp), cy_rep hp hk, cy_rep (by rw [rot_len]; exact hp) hk, cy_rot (Nat.le_of_lt hm) hp]
  unfold cy
  congr 1
  rw [Nat.add_mod_mod]
/-! the order of lists -/
abbrev lLt : List Int → List Int → Bool := PySem.W.listLt
theorem lLt_irrefl : ∀ a : List Int, lLt a a = false
  | [] => rfl
  | x :: xs => by
    show (if x = x then _ else _) = false
    rw [if_pos rfl]
    exact lLt_irrefl xs
theorem lLt_total : ∀ a b : List Int, lLt a b = false → lLt b a = false → a = b
  | [], [], _, _ => rfl
  | [], _ :: _, h, _ => by cases h
  | _ :: _, [], _, h => by cases h
  | x :: xs, y :: ys, h, k => by
    unfold lLt PySem.W.listLt at h k
    by_cases e : x = y
    · subst e
      rw [if_pos rfl] at h k
      rw [lLt_total xs ys h k]
    · rw [if_neg e] at h
      rw [if_neg (fun q => e q.symm)] at k
      have h1 : ¬ x < y := of_decide_eq_false h
      have h2 : ¬ y < x := of_decide_eq_false k
      omega
theorem lLt_trans : ∀ a b c : List Int, lLt a b = true → lLt b c = true → lLt a c = true
  | [], [], _, h, _ => by cases h
  | [], _ :: _, [], _, h => by cases h
  | [], _ :: _, _ :: _, _, _ => rfl
  | _ :: _, [], _, h, _ => by cases h
  | _ :: _, _ :: _, [], _, h => by cases h
  | x :: xs, y :: ys, z :: zs, h, k => by
    unfold lLt PySem.W.listLt at h k ⊢
    by_cases e1 : x = y
    · subst e1
      rw [if_pos rfl] at h
      by_cases e2 : x = z
      · subst e2
        rw [if_pos rfl] at k ⊢
        exact lLt_trans xs ys zs h k
      · rw [if_neg e2] at k ⊢
        exact k
    · rw [if_neg e1] at h
      have h1 : x < y := of_decide_eq_true h
      by_cases e2 : y = z
      · subst e2
        rw [if_neg (by omega)]
        exact decide_eq_true h1
      · rw [if_neg e2] at k
        have h2 : y < z := of_decide_eq_true k
        rw [if_neg (by omega)]
        exact decide_eq_true (by omega)
def lexMin (x : List Int) (xs : List (List Int)) : List Int := xs.foldl (fun a y => if lLt y a = true then y else a) x
theorem lexMin_spec : ∀ (xs : List (List Int)) (x : List Int), lexMin x xs ∈ x :: xs ∧ ∀ y ∈ x :: xs, lLt y (lexMin x xs) = false
  | [], x => ⟨List.mem_cons_self .., fun y hy => by
      rcases List.mem_cons.mp hy with h | h
      · rw [h]; exact lLt_irrefl _
      · cases h⟩
  | z :: xs, x => by
    unfold lexMin
    rw [List.foldl_cons]
    by_cases c : lLt z x = true
    · rw [if_pos c]
      obtain ⟨h1, h2⟩ := lexMin_spec xs z
      refine ⟨List.mem_cons_of_mem _ h1, fun y hy => ?_⟩
      rcases List.mem_cons.mp hy with h | h
      · subst h
        cases q : lLt y (lexMin z xs) with
        | false => exact q
        | true =>
          have := lLt_trans _ _ _ c q
          rw [h2 z (List.mem_cons_self ..)] at this
          cases this
      · exact h2 y h
    · rw [if_neg c]
      obtain ⟨h1, h2⟩ := lexMin_spec xs x
      refine ⟨?_, fun y hy => ?_⟩
      · rcases List.mem_cons.mp h1 with h | h
        · exact List.mem_cons.mpr (.inl h)
        · exact List.mem_cons_of_mem _ (List.mem_cons_of_mem _ h)
      · rcases List.mem_cons.mp hy with h | h
        · rw [h]; exact h2 x (List.mem_cons_self ..)
        · rcases List.mem_cons.mp h with h | h
          · subst h
            cases q : lLt y (lexMin x xs) with
            | false => exact q
            | true =>
              exfalso
              have h3 := h2 x (List.mem_cons_self ..)
              have h4 : lLt y x = false := by simpa using c
              cases q2 : lLt (lexMin x xs) x with
              | true => 
                have := lLt_trans _ _ _ q q2
                rw [h4] at this
                cases this
              | false =>
                have := lLt_total _ _ h3 q2
                rw [← this, h4] at q
                cases q
          · exact h2 y (List.mem_cons_of_mem _ h)
theorem lexMin_uniq {xs : List (List Int)} {x m : List Int} (h1 : m ∈ x :: xs) (h2 : ∀ y ∈ x :: xs, lLt y m = false) : lexMin x xs = m := by
  obtain ⟨k1, k2⟩ := lexMin_spec xs x
  exact lLt_total _ _ (h2 _ k1) (k2 _ h1)
theorem lLt_append_same : ∀ (u v a b : List Int), u.length = v.length → u ≠ v → lLt (u ++ a) (v ++ b) = lLt u v
  | [], [], _, _, _, h => absurd rfl h
  | x :: u, y :: v, a, b, hl, h => by
    unfold lLt
    simp only [List.cons_append, PySem.W.listLt]
    by_cases e : x = y
    · subst e
      rw [if_pos rfl, if_pos rfl]
      exact lLt_append_same u v a b (by simpa using hl) fun q => h (by rw [q])
    · rw [if_neg e, if_neg e]
theorem lLt_rep {u v : List Int} {k : Nat} (hl : u.length = v.length) (hk : 0 < k) : lLt (rep k u) (rep k v) = lLt u v := by
  by_cases e : u = v
  · subst e
    rw [lLt_irrefl, lLt_irrefl]
  · cases k with
    | zero => omega
    | succ k => rw [rep_succ, rep_succ, lLt_append_same u v _ _ hl e]
/-- the least rotation -/
def rots (w : List Int) : List (List Int) := (List.range w.length).map fun k => rot k w
def ring (w : List Int) : List Int := match rots w with
  | [] => []
  | x :: xs => lexMin x xs
theorem rots_ne {w : List Int} (h : 0 < w.length) : ∃ x xs, rots w = x :: xs := by
  cases e : rots w with
  | nil =>
    have := congrArg List.length e
    unfold rots at this
    rw [List.length_map, List.length_range, List.length_nil] at this
    omega
  | cons x xs => exact ⟨x, xs, rfl⟩
theorem ring_spec {w : List Int} (h : 0 < w.length) : (∃ j, j < w.length ∧ ring w = rot j w) ∧ ∀ j, j < w.length → lLt (rot j w) (ring w) = false := by
  obtain ⟨x, xs, e⟩ := rots_ne h
  have er : ring w = lexMin x xs := by unfold ring; rw [e]
  obtain ⟨h1, h2⟩ := lexMin_spec xs x
  rw [er, ← e] at *
  refine ⟨?_, fun j hj => h2 _ (List.mem_map.mpr ⟨j, List.mem_range.mpr hj, rfl⟩)⟩
  obtain ⟨j, hj, q⟩ := List.mem_map.mp h1
  exact ⟨j, List.mem_range.mp hj, q.symm⟩
theorem ring_uniq {w m : List Int} (h : 0 < w.length) (h1 : ∃ j, j < w.length ∧ m = rot j w) (h2 : ∀ j, j < w.length → lLt (rot j w) m = false) : ring w = m := by
  obtain ⟨⟨j, hj, q⟩, k⟩ := ring_spec h
  obtain ⟨i, hi, q2⟩ := h1
  refine lLt_total _ _ ?_ ?_
  · rw [q]; exact h2 j hj
  · rw [q2]; exact k i hi
theorem ring_len {w : List Int} (h : 0 < w.length) : (ring w).length = w.length := by
  obtain ⟨⟨j, hj, q⟩, _⟩ := ring_spec h
  rw [q, rot_len]
theorem ring_rep {p : List Int} {k : Nat} (hp : 0 < p.length) (hk : 0 < k) : ring (rep k p) = rep k (ring p) := by
  have hl : 0 < (rep k p).length := by rw [rep_len]; exact Nat.mul_pos hk hp
  obtain ⟨⟨j, hj, q⟩, k2⟩ := ring_spec hp
  refine ring_uniq hl ⟨j, ?_, ?_⟩ fun i hi => ?_
  · rw [rep_len]
    exact Nat.lt_of_lt_of_le hj (Nat.le_mul_of_pos_left _ hk)
  · rw [rot_rep hp hk (Nat.le_trans (Nat.le_of_lt hj) (Nat.le_mul_of_pos_left _ hk)), Nat.mod_eq_of_lt hj, q]
  · rw [rep_len] at hi
    rw [rot_rep hp hk (Nat.le_of_lt hi), lLt_rep (by rw [rot_len, ring_len hp]) hk]
    exact k2 _ (Nat.mod_lt _ hp)
theorem rot_rot {w : List Int} {i j : Nat} (hi : i ≤ w.length) (hj : j ≤ w.length) (hw : 0 < w.length) : rot i (rot j w) = rot ((i + j) % w.length) w := by
  refine cy_ext (by rw [rot_len, rot_len, rot_len]) fun k => ?_
  rw [cy_rot (by rw [rot_len]; exact hi) (by rw [rot_len]; exact hw), cy_rot hj hw, cy_rot (Nat.le_of_lt (Nat.mod_lt _ hw)) hw]
  unfold cy
  congr 1
  rw [Nat.add_mod_mod, Nat.add_assoc]
/-- a rotation has the same least one -/
theorem ring_rot {w : List Int} {j : Nat} (hj : j < w.length) : ring (rot j w) = ring w := by
  have hw : 0 < w.length := by omega
  obtain ⟨⟨i, hi, q⟩, k⟩ := ring_spec hw
  refine ring_uniq (by rw [rot_len]; exact hw) ⟨(i + (w.length - j)) % w.length, by rw [rot_len]; exact Nat.mod_lt _ hw, ?_⟩ fun m hm => ?_
  · rw [rot_rot (Nat.le_of_lt (Nat.mod_lt _ hw)) (Nat.le_of_lt hj) hw, q]
    congr 1
    rw [Nat.mod_add_mod, Nat.add_assoc, Nat.sub_add_cancel (Nat.le_of_lt hj), Nat.add_mod_right, Nat.mod_eq_of_lt hi]
  · rw [rot_len] at hm
    rw [rot_rot (Nat.le_of_lt hm) (Nat.le_of_lt hj) hw]
    exact k _ (Nat.mod_lt _ hw)
/-! periods -/
def Per (w : List Int) (d : Nat) : Prop := ∀ i, cy w (i + d) = cy w i
theorem Per.mul {w : List Int} {d : Nat} (h : Per w d) (k : Nat) : Per w (k * d) := fun i => by
  induction k with
  | zero => rw [Nat.zero_mul, Nat.add_zero]
  | succ k ih => rw [Nat.succ_mul, ← Nat.add_assoc, h, ih]
theorem Per.gcd {w : List Int} : ∀ (d n : Nat), Per w d → Per w n → Per w (Nat.gcd d n) := by
  intro d n
  induction d, n using Nat.gcd.induction with
  | H0 n => exact fun _ h => by rw [Nat.gcd_zero_left]; exact h
  | H1 d n hd ih =>
    intro h k
    rw [Nat.gcd_rec]
    refine ih (fun i => ?_) h
    have e := h.mul (n / d) (i + n % d)
    rw [Nat.add_assoc, Nat.mul_comm, Nat.mod_add_div n d] at e
    rw [← e, k]
theorem per_rep {v : List Int} {k : Nat} (hv : 0 < v.length) (hk : 0 < k) : Per (rep k v) v.length := fun i => by
  rw [cy_rep hv hk, cy_rep hv hk]
  have := cy_add v i 1
  rwa [Nat.one_mul] at this
theorem rep_of_per {w : List Int} {d : Nat} (hw : 0 < w.length) (hd : d ∣ w.length) (hd0 : 0 < d) (h : Per w d) : rep (w.length / d) (w.take d) = w := by
  have hle : d ≤ w.length := Nat.le_of_dvd hw hd
  have hl : (w.take d).length = d := by rw [List.length_take]; omega
  have hk : 0 < w.length / d := Nat.div_pos hle hd0
  refine cy_ext (by rw [rep_len, hl, Nat.div_mul_cancel hd]) fun i => ?_
  rw [cy_rep (by rw [hl]; exact hd0) hk]
  have e1 := h.mul (i / d) (i % d)
  rw [Nat.mul_comm (i / d) d, Nat.mod_add_div] at e1
  rw [e1]
  have hm := Nat.mod_lt i hd0
  unfold cy
  rw [hl, Nat.mod_eq_of_lt (show i % d < w.length by omega)]
  simp only [List.getD_eq_getElem?_getD]
  rw [List.getElem?_take_of_lt hm]
end LD
namespace LD
open PySem PySem.Spec PyProof.Rows L2
abbrev b__law_short : Ss := (.cons (.asg (.nm 1) (.lst .nil)) (.cons (.for (.nm 2) (.val (.v 0)) (.cons (.iff (.or (.cmp .Eq (.v 1) (.lst .nil)) (.cmp .NotEq (.cmp .Eq (.ix (.v 1) (.neg (.c (.int 1)))) (.c (.int 1))) (.cmp .Eq (.v 2) (.c (.int 1))))) (.cons (.ex (.app (.v 1) (.v 2))) .nil) (.cons (.iff (.cmp .Eq (.v 2) (.c (.int 1))) (.cons (.ex (.pop (.v 1))) .nil) (.cons (.asg (.nm 3) (.bin .Mod (.bin .Sub (.bin .Add (.pop (.v 1)) (.v 2)) (.c (.int 2))) (.c (.int 3)))) (.cons (.iff (.cmp .Gt (.v 3) (.c (.int 0))) (.cons (.ex (.app (.v 1) (.bin .Add (.v 3) (.c (.int 1))))) .nil) .nil) .nil))) .nil)) .nil)) (.cons (.ret (.bi .tuple (.cons (.v 1) .nil))) .nil)))
abbrev b_is_row_of (i_is_within : Nat) : Ss := (.cons (.ret (.and (.isi (.v 0) ["tuple"]) (.bi .all (.cons (.comp (.nm 1) (.val (.v 0)) .nil (.call i_is_within (.cons (.v 1) (.cons (.c (.int 1)) (.cons (.c (.int 3)) .nil))) .nil [0, 1, 2]) [1]) .nil)))) .nil)
abbrev b_is_word_of (i_is_row_of : Nat) : Ss := (.cons (.ret (.and (.call i_is_row_of (.cons (.v 0) .nil) .nil [0]) (.bi .all (.cons (.comp (.tp (.cons (.nm 1) (.cons (.nm 2) .nil))) (.zip (.v 0) (.sl (.v 0) (.so (.c (.int 1))) .no)) .nil (.cmp .NotEq (.cmp .Eq (.v 1) (.c (.int 1))) (.cmp .Eq (.v 2) (.c (.int 1)))) [1, 2]) .nil)))) .nil)
abbrev b_sure_row (i_tupled : Nat) (i_is_row_of : Nat) : Ss := (.cons (.asg (.nm 1) (.call i_tupled (.cons (.v 0) .nil) .nil [0])) (.cons (.iff (.not (.call i_is_row_of (.cons (.v 1) .nil) .nil [0])) (.cons (.raise ("Unfit" : Str)) .nil) .nil) (.cons (.ret (.v 1)) .nil)))
abbrev b_sure_word (i_tupled : Nat) (i_is_word_of : Nat) : Ss := (.cons (.asg (.nm 1) (.call i_tupled (.cons (.v 0) .nil) .nil [0])) (.cons (.iff (.not (.call i_is_word_of (.cons (.v 1) .nil) .nil [0])) (.cons (.raise ("Unfit" : Str)) .nil) .nil) (.cons (.ret (.v 1)) .nil)))
abbrev b_back_of : Ss := (.cons (.ret (.bi .tuple (.cons (.comp (.nm 1) (.val (.rev (.v 0))) .nil (.ite (.cmp .Eq (.v 1) (.c (.int 1))) (.v 1) (.bin .Sub (.c (.int 5)) (.v 1))) [1]) .nil))) .nil)
abbrev b_is_word (i_is_word_of : Nat) : Ss := (.cons (.ret (.call i_is_word_of (.cons (.v 0) .nil) .nil [0])) .nil)
abbrev b_move_by (i_move_in : Nat) (i_sure_row : Nat) : Ss := (.cons (.ret (.call i_move_in (.cons (.call i_sure_row (.cons (.v 0) .nil) .nil [0]) .nil) .nil [0])) .nil)
abbrev b_shortened (i_shortest : Nat) (i_sure_row : Nat) : Ss := (.cons (.ret (.call i_shortest (.cons (.call i_sure_row (.cons (.v 0) .nil) .nil [0]) .nil) .nil [0])) .nil)
abbrev b_word_behind (i_sure_word : Nat) (i_shortest : Nat) : Ss := (.cons (.asg (.tp (.cons (.nm 2) (.cons (.nm 3) .nil))) (.tup (.cons (.call i_sure_word (.cons (.v 0) .nil) .nil [0]) (.cons (.call i_sure_word (.cons (.v 1) .nil) .nil [0]) .nil)))) (.cons (.ret (.call i_shortest (.cons (.bin .Add (.v 2) (.v 3)) .nil) .nil [0])) .nil))
abbrev b_word_back (i_back_of : Nat) (i_sure_word : Nat) : Ss := (.cons (.ret (.call i_back_of (.cons (.call i_sure_word (.cons (.v 0) .nil) .nil [0]) .nil) .nil [0])) .nil)
abbrev b_how_many_words (i_is_within : Nat) : Ss := (.cons (.iff (.not (.call i_is_within (.cons (.v 0) (.cons (.c (.int 0)) (.cons (.c (.int 2000)) .nil))) .nil [0, 1, 2])) (.cons (.raise ("Unfit" : Str)) .nil) .nil) (.cons (.asg (.tp (.cons (.nm 1) (.cons (.nm 2) .nil))) (.tup (.cons (.c (.int 1)) (.cons (.c (.int 2)) .nil)))) (.cons (.for (.nm 3) (.rng1 (.bin .Sub (.v 0) (.c (.int 1)))) (.cons (.asg (.tp (.cons (.nm 1) (.cons (.nm 2) .nil))) (.tup (.cons (.v 2) (.cons (.bin .Mult (.c (.int 2)) (.v 1)) .nil)))) .nil)) (.cons (.ret (.ite (.cmp .Eq (.v 0) (.c (.int 0))) (.c (.int 1)) (.bin .Add (.v 1) (.v 2)))) .nil))))
theorem map_snoc {ys : List Int} {y : Int} : (y :: ys).reverse.map D.int = ys.reverse.map D.int ++ [.int y] := by
  rw [List.reverse_cons, List.map_append]; rfl
theorem cons_ne_nil' {y : Int} {ys : List Int} : decide ((y :: ys).reverse = []) = false := by simp
theorem ixD_last {p : Addr} {xs : List D} {y : D} {μ : Mu} {Q : QD} (h : μ p = some (.lst (xs ++ [y]))) : ixD (.ref p) (.int (-1)) μ Q = Q y μ := by
  rw [ixD_at h, atI_last]; rfl
theorem fmod3 {a : Int} : a.fmod 3 = a % 3 := fmod_pos (by decide)
theorem e_negc {Φ : Nat → Spec} {X : Str → Mu → Prop} {ρ : Rho} {μ : Mu} {Q : QD} {i : Int} : wpE Φ X (.neg (.c (.int i))) ρ μ Q = Q (.int (-i)) μ := by simp only [wpE]
/-- all but the list at p stays -/
def But (p : Addr) (μ μ' : Mu) : Prop := ∀ a o, a ≠ p → μ a = some o → μ' a = some o
theorem But.refl {p : Addr} {μ : Mu} : But p μ μ := fun _ _ _ h => h
theorem But.trans {p : Addr} {μ μ1 μ2 : Mu} (h : But p μ μ1) (k : But p μ1 μ2) : But p μ μ2 := fun a o n e => k a o n (h a o n e)
theorem But.up {p : Addr} {μ : Mu} {o : MO} : But p μ (up μ p o) := fun a u n e => by rw [up_ne n]; exact e
theorem But.new {p q : Addr} {μ : Mu} {o : MO} (h : μ q = none) : But p μ (LD.up μ q o) := fun a u n e => by
  have : a ≠ q := fun z => by rw [z, h] at e; cases e
  rw [up_ne this]; exact e
theorem ne_none {p q : Addr} {μ : Mu} {o : MO} (h : μ p = some o) (k : μ q = none) : p ≠ q := fun e => by rw [e, k] at h; cases h
theorem short_loop {Φ : Nat → Spec} {b : Ss} {C : DE} {w : List Int} {μ : Mu} {p : Addr} {d0 : D} (hl : w.length ≤ 1000000) (hp : μ p = some (.lst []))
    (step : ∀ (rs : List Int) (x : Int) (z : Option D) (C : DE) (μ' : Mu), rs.length < 1000000 → μ' p = some (.lst (rs.reverse.map D.int)) →
      (∀ μ'' z, μ'' p = some (.lst ((stp rs x).reverse.map D.int)) → But p μ' μ'' → C.nx [some d0, some (.ref p), some (.int x), z] μ'') → wpSs Φ b C [some d0, some (.ref p), some (.int x), z] μ')
    (q : ∀ μ' z1 z2, μ' p = some (.lst ((short w).map D.int)) → But p μ μ' → C.nx [some d0, some (.ref p), z1, z2] μ') : forW Φ (.nm 2) b (fun _ => True) (w.map D.int) C [some d0, some (.ref p), none, none] μ := by
  refine forL_ind (fun ys ρ μ' => ∃ (r rs : List Int) (z1 z2 : Option D), ys = r.map D.int ∧ rs.length + r.length ≤ w.length ∧ r.foldl stp rs = w.foldl stp [] ∧ ρ = [some d0, some (.ref p), z1, z2] ∧ μ' p = some (.lst (rs.reverse.map D.int)) ∧ But p μ μ') ?_ ?_ _ _ _ ?_
  · rintro y ys ρ μ' ⟨r, rs, z1, z2, e, hlen, hf, rfl, ep, bt⟩
    cases r with
    | nil => cases e
    | cons x r =>
      injection e with e1 e2
      subst e1
      rw [List.length_cons] at hlen
      refine ⟨trivial, _, rfl, step rs x z2 _ μ' (by omega) ep fun μ'' z h1 h2 => ?_⟩
      have := stp_len rs x
      exact ⟨r, stp rs x, _, _, e2, by omega, hf, rfl, h1, bt.trans h2⟩
  · rintro ρ μ' ⟨r, rs, z1, z2, e, hlen, hf, rfl, ep, bt⟩
    cases r with
    | cons x r => cases e
    | nil =>
      refine ⟨trivial, q μ' z1 z2 ?_ bt⟩
      have hf : rs = w.foldl stp [] := hf
      rw [ep, hf]
      rfl
  · exact ⟨w, [], none, none, rfl, by simp, rfl, rfl, hp, .refl⟩
theorem but_sub {p : Addr} {μ μ' : Mu} {o : MO} (hp : μ p = none) (h : But p (up μ p o) μ') : Sub μ μ' := fun a u e => by
  have n : a ≠ p := fun z => by rw [z, hp] at e; cases e
  exact h a u n (by rw [up_ne n]; exact e)
theorem m_shortest {Φ : Nat → Spec} : Meets Φ 1 4 b_shortest sp_shortest := pur_meets inj_w fun w μ hl => by
  simp only [b_shortest, ↓e_v, ↓e_c, ↓e_bin, ↓e_neg, ↓e_cmp, ↓e_chn, ↓e_and, ↓e_or, ↓e_not, ↓e_ite, ↓e_tup, ↓e_lst, ↓e_ix, ↓e_sl, ↓e_rev, ↓e_call, ↓e_bi, ↓e_isi, ↓e_app, ↓e_ext, ↓e_pop, ↓e_comp, ↓es_nil, ↓es_cons, ↓if_nil, ↓if_cons, ↓o_no, ↓o_so, ↓s_ex', ↓s_ret', ↓s_retN', ↓s_asg', ↓s_sub', ↓s_aug', ↓s_iff', ↓s_whl', ↓s_for', ↓s_pass', ↓s_brk', ↓s_cont', ↓s_raise', ↓ss_nil', ↓ss_cons', ↓i_valE, ↓i_rng1E, ↓i_rng2E, ↓i_zipE, ↓i_enuE, ↓getK_s, ↓truK_t, ↓truK_f, ↓bK_s, ↓asgK_s, ↓atK_s, ↓seqK_s, ↓intsK_s, ↓blsK_s, ↓iteK_t, ↓iteK_f, ↓binD, ↓augD, ↓cmp_eq, ↓cmp_ne, ↓cmp_lt, ↓cmp_le, ↓cmp_gt, ↓cmp_ge, ↓cmp_is, ↓cmp_isn, ↓cmp_isN, ↓cmp_isnN, isNon, ↓ixD_int, ↓ixD_rod, atI0, atI1, atI2, atI3, ↓sl_tup, ↓sl_rol, ↓bi_len_tup, ↓bi_len_rol, ↓bi_len_ref, ↓bi_abs, ↓bi_int, ↓bi_intb, ↓bi_gcd, ↓bi_tup_tup, ↓bi_tup_rol, ↓bi_tup_ref, ↓bi_lst_tup, ↓bi_lst_rol, ↓bi_lst_ref, ↓bi_sum, ↓bi_sum_tup, ↓bi_sum_rol, ↓bi_all, ↓bi_any, ↓bi_max2, ↓bi_min2, tg_nm, tg_tp, tgsD, seqOf_tup, seqOf_rol, seqOf_up, seqL_rol, seqL_up', tru_non, tru_bl, tru_int, tru_tup, tru_rol, tru_up, ↓eq_int, isi_c, isi_int, isi_bl, isi_tup, isi_non, isi_str, isi_rol, tyN_up, tyN, List.getElem?_cons_zero, List.getElem?_cons_succ, List.set_cons_zero, List.set_cons_succ, permA, List.map_cons, List.map_nil, List.getD_cons_zero, List.getD_cons_succ, List.cons_append, List.nil_append, List.append_nil, List.replicate_succ, List.replicate_zero, RtP, ite_true, ite_false, if_true, if_false, Bool.false_eq_true, decide_true, decide_false, Bool.not_true, Bool.not_false, List.length_cons, List.length_nil]
  refine ⟨by decide, fun p hp => ?_⟩
  simp only [↓e_v, ↓e_c, ↓e_bin, ↓e_neg, ↓e_cmp, ↓e_chn, ↓e_and, ↓e_or, ↓e_not, ↓e_ite, ↓e_tup, ↓e_lst, ↓e_ix, ↓e_sl, ↓e_rev, ↓e_call, ↓e_bi, ↓e_isi, ↓e_app, ↓e_ext, ↓e_pop, ↓e_comp, ↓es_nil, ↓es_cons, ↓if_nil, ↓if_cons, ↓o_no, ↓o_so, ↓s_ex', ↓s_ret', ↓s_retN', ↓s_asg', ↓s_sub', ↓s_aug', ↓s_iff', ↓s_whl', ↓s_for', ↓s_pass', ↓s_brk', ↓s_cont', ↓s_raise', ↓ss_nil', ↓ss_cons', ↓i_valE, ↓i_rng1E, ↓i_rng2E, ↓i_zipE, ↓i_enuE, ↓getK_s, ↓truK_t, ↓truK_f, ↓bK_s, ↓asgK_s, ↓atK_s, ↓seqK_s, ↓intsK_s, ↓blsK_s, ↓iteK_t, ↓iteK_f, ↓binD, ↓augD, ↓cmp_eq, ↓cmp_ne, ↓cmp_lt, ↓cmp_le, ↓cmp_gt, ↓cmp_ge, ↓cmp_is, ↓cmp_isn, ↓cmp_isN, ↓cmp_isnN, isNon, ↓ixD_int, ↓ixD_rod, atI0, atI1, atI2, atI3, ↓sl_tup, ↓sl_rol, ↓bi_len_tup, ↓bi_len_rol, ↓bi_len_ref, ↓bi_abs, ↓bi_int, ↓bi_intb, ↓bi_gcd, ↓bi_tup_tup, ↓bi_tup_rol, ↓bi_tup_ref, ↓bi_lst_tup, ↓bi_lst_rol, ↓bi_lst_ref, ↓bi_sum, ↓bi_sum_tup, ↓bi_sum_rol, ↓bi_all, ↓bi_any, ↓bi_max2, ↓bi_min2, tg_nm, tg_tp, tgsD, seqOf_tup, seqOf_rol, seqOf_up, seqL_rol, seqL_up', tru_non, tru_bl, tru_int, tru_tup, tru_rol, tru_up, ↓eq_int, isi_c, isi_int, isi_bl, isi_tup, isi_non, isi_str, isi_rol, tyN_up, tyN, List.getElem?_cons_zero, List.getElem?_cons_succ, List.set_cons_zero, List.set_cons_succ, permA, List.map_cons, List.map_nil, List.getD_cons_zero, List.getD_cons_succ, List.cons_append, List.nil_append, List.append_nil, List.replicate_succ, List.replicate_zero, RtP, ite_true, ite_false, if_true, if_false, Bool.false_eq_true, decide_true, decide_false, Bool.not_true, Bool.not_false, List.length_cons, List.length_nil]
  refine short_loop hl up_same (fun rs x z C μ' hrs ep q => ?_) fun μ' z1 z2 e1 e2 => ?_
  · simp only [↓e_v, ↓e_c, ↓e_bin, ↓e_neg, ↓e_cmp, ↓e_chn, ↓e_and, ↓e_or, ↓e_not, ↓e_ite, ↓e_tup, ↓e_lst, ↓e_ix, ↓e_sl, ↓e_rev, ↓e_call, ↓e_bi, ↓e_isi, ↓e_app, ↓e_ext, ↓e_pop, ↓e_comp, ↓es_nil, ↓es_cons, ↓if_nil, ↓if_cons, ↓o_no, ↓o_so, ↓s_ex', ↓s_ret', ↓s_retN', ↓s_asg', ↓s_sub', ↓s_aug', ↓s_iff', ↓s_whl', ↓s_for', ↓s_pass', ↓s_brk', ↓s_cont', ↓s_raise', ↓ss_nil', ↓ss_cons', ↓i_valE, ↓i_rng1E, ↓i_rng2E, ↓i_zipE, ↓i_enuE, ↓getK_s, ↓truK_t, ↓truK_f, ↓bK_s, ↓asgK_s, ↓atK_s, ↓seqK_s, ↓intsK_s, ↓blsK_s, ↓iteK_t, ↓iteK_f, ↓binD, ↓augD, ↓cmp_eq, ↓cmp_ne, ↓cmp_lt, ↓cmp_le, ↓cmp_gt, ↓cmp_ge, ↓cmp_is, ↓cmp_isn, ↓cmp_isN, ↓cmp_isnN, isNon, ↓ixD_int, ↓ixD_rod, atI0, atI1, atI2, atI3, ↓sl_tup, ↓sl_rol, ↓bi_len_tup, ↓bi_len_rol, ↓bi_len_ref, ↓bi_abs, ↓bi_int, ↓bi_intb, ↓bi_gcd, ↓bi_tup_tup, ↓bi_tup_rol, ↓bi_tup_ref, ↓bi_lst_tup, ↓bi_lst_rol, ↓bi_lst_ref, ↓bi_sum, ↓bi_sum_tup, ↓bi_sum_rol, ↓bi_all, ↓bi_any, ↓bi_max2, ↓bi_min2, tg_nm, tg_tp, tgsD, seqOf_tup, seqOf_rol, seqOf_up, seqL_rol, seqL_up', tru_non, tru_bl, tru_int, tru_tup, tru_rol, tru_up, ↓eq_int, isi_c, isi_int, isi_bl, isi_tup, isi_non, isi_str, isi_rol, tyN_up, tyN, List.getElem?_cons_zero, List.getElem?_cons_succ, List.set_cons_zero, List.set_cons_succ, permA, List.map_cons, List.map_nil, List.getD_cons_zero, List.getD_cons_succ, List.cons_append, List.nil_append, List.append_nil, List.replicate_succ, List.replicate_zero, RtP, ite_true, ite_false, if_true, if_false, Bool.false_eq_true, decide_true, decide_false, Bool.not_true, Bool.not_false, List.length_cons, List.length_nil]
    refine ⟨by decide, fun g hg => ?_⟩
    have hpg := ne_none ep hg
    have ep2 : up μ' g (.lst []) p = some (.lst (rs.reverse.map D.int)) := by rw [up_ne hpg]; exact ep
    have bg : But p μ' (up μ' g (.lst [])) := .new hg
    refine eq_ints (ys := []) ep2 up_same ?_
    cases rs with
    | nil =>
      simp only [List.reverse_nil, show decide (([] : List Int) = []) = true from rfl, ↓e_v, ↓e_c, ↓e_bin, ↓e_neg, ↓e_cmp, ↓e_chn, ↓e_and, ↓e_or, ↓e_not, ↓e_ite, ↓e_tup, ↓e_lst, ↓e_ix, ↓e_sl, ↓e_rev, ↓e_call, ↓e_bi, ↓e_isi, ↓e_app, ↓e_ext, ↓e_pop, ↓e_comp, ↓es_nil, ↓es_cons, ↓if_nil, ↓if_cons, ↓o_no, ↓o_so, ↓s_ex', ↓s_ret', ↓s_retN', ↓s_asg', ↓s_sub', ↓s_aug', ↓s_iff', ↓s_whl', ↓s_for', ↓s_pass', ↓s_brk', ↓s_cont', ↓s_raise', ↓ss_nil', ↓ss_cons', ↓i_valE, ↓i_rng1E, ↓i_rng2E, ↓i_zipE, ↓i_enuE, ↓getK_s, ↓truK_t, ↓truK_f, ↓bK_s, ↓asgK_s, ↓atK_s, ↓seqK_s, ↓intsK_s, ↓blsK_s, ↓iteK_t, ↓iteK_f, ↓binD, ↓augD, ↓cmp_eq, ↓cmp_ne, ↓cmp_lt, ↓cmp_le, ↓cmp_gt, ↓cmp_ge, ↓cmp_is, ↓cmp_isn, ↓cmp_isN, ↓cmp_isnN, isNon, ↓ixD_int, ↓ixD_rod, atI0, atI1, atI2, atI3, ↓sl_tup, ↓sl_rol, ↓bi_len_tup, ↓bi_len_rol, ↓bi_len_ref, ↓bi_abs, ↓bi_int, ↓bi_intb, ↓bi_gcd, ↓bi_tup_tup, ↓bi_tup_rol, ↓bi_tup_ref, ↓bi_lst_tup, ↓bi_lst_rol, ↓bi_lst_ref, ↓bi_sum, ↓bi_sum_tup, ↓bi_sum_rol, ↓bi_all, ↓bi_any, ↓bi_max2, ↓bi_min2, tg_nm, tg_tp, tgsD, seqOf_tup, seqOf_rol, seqOf_up, seqL_rol, seqL_up', tru_non, tru_bl, tru_int, tru_tup, tru_rol, tru_up, ↓eq_int, isi_c, isi_int, isi_bl, isi_tup, isi_non, isi_str, isi_rol, tyN_up, tyN, List.getElem?_cons_zero, List.getElem?_cons_succ, List.set_cons_zero, List.set_cons_succ, permA, List.map_cons, List.map_nil, List.getD_cons_zero, List.getD_cons_succ, List.cons_append, List.nil_append, List.append_nil, List.replicate_succ, List.replicate_zero, RtP, ite_true, ite_false, if_true, if_false, Bool.false_eq_true, decide_true, decide_false, Bool.not_true, Bool.not_false, List.length_cons, List.length_nil]
      simp only [↓e_v, ↓e_c, ↓e_bin, ↓e_neg, ↓e_cmp, ↓e_chn, ↓e_and, ↓e_or, ↓e_not, ↓e_ite, ↓e_tup, ↓e_lst, ↓e_ix, ↓e_sl, ↓e_rev, ↓e_call, ↓e_bi, ↓e_isi, ↓e_app, ↓e_ext, ↓e_pop, ↓e_comp, ↓es_nil, ↓es_cons, ↓if_nil, ↓if_cons, ↓o_no, ↓o_so, ↓s_ex', ↓s_ret', ↓s_retN', ↓s_asg', ↓s_sub', ↓s_aug', ↓s_iff', ↓s_whl', ↓s_for', ↓s_pass', ↓s_brk', ↓s_cont', ↓s_raise', ↓ss_nil', ↓ss_cons', ↓i_valE, ↓i_rng1E, ↓i_rng2E, ↓i_zipE, ↓i_enuE, ↓getK_s, ↓truK_t, ↓truK_f, ↓bK_s, ↓asgK_s, ↓atK_s, ↓seqK_s, ↓intsK_s, ↓blsK_s, ↓iteK_t, ↓iteK_f, ↓binD, ↓augD, ↓cmp_eq, ↓cmp_ne, ↓cmp_lt, ↓cmp_le, ↓cmp_gt, ↓cmp_ge, ↓cmp_is, ↓cmp_isn, ↓cmp_isN, ↓cmp_isnN, isNon, ↓ixD_int, ↓ixD_rod, atI0, atI1, atI2, atI3, ↓sl_tup, ↓sl_rol, ↓bi_len_tup, ↓bi_len_rol, ↓bi_len_ref, ↓bi_abs, ↓bi_int, ↓bi_intb, ↓bi_gcd, ↓bi_tup_tup, ↓bi_tup_rol, ↓bi_tup_ref, ↓bi_lst_tup, ↓bi_lst_rol, ↓bi_lst_ref, ↓bi_sum, ↓bi_sum_tup, ↓bi_sum_rol, ↓bi_all, ↓bi_any, ↓bi_max2, ↓bi_min2, tg_nm, tg_tp, tgsD, seqOf_tup, seqOf_rol, seqOf_up, seqL_rol, seqL_up', tru_non, tru_bl, tru_int, tru_tup, tru_rol, tru_up, ↓eq_int, isi_c, isi_int, isi_bl, isi_tup, isi_non, isi_str, isi_rol, tyN_up, tyN, List.getElem?_cons_zero, List.getElem?_cons_succ, List.set_cons_zero, List.set_cons_succ, permA, List.map_cons, List.map_nil, List.getD_cons_zero, List.getD_cons_succ, List.cons_append, List.nil_append, List.append_nil, List.replicate_succ, List.replicate_zero, RtP, ite_true, ite_false, if_true, if_false, Bool.false_eq_true, decide_true, decide_false, Bool.not_true, Bool.not_false, List.length_cons, List.length_nil, isL_at ep2, appD_at ep2]
      refine ⟨trivial, by decide, q _ _ up_same (bg.trans .up)⟩
    | cons y ys =>
      rw [map_snoc] at ep2
      simp only [cons_ne_nil', ↓e_v, ↓e_c, ↓e_bin, ↓e_neg, ↓e_cmp, ↓e_chn, ↓e_and, ↓e_or, ↓e_not, ↓e_ite, ↓e_tup, ↓e_lst, ↓e_ix, ↓e_sl, ↓e_rev, ↓e_call, ↓e_bi, ↓e_isi, ↓e_app, ↓e_ext, ↓e_pop, ↓e_comp, ↓es_nil, ↓es_cons, ↓if_nil, ↓if_cons, ↓o_no, ↓o_so, ↓s_ex', ↓s_ret', ↓s_retN', ↓s_asg', ↓s_sub', ↓s_aug', ↓s_iff', ↓s_whl', ↓s_for', ↓s_pass', ↓s_brk', ↓s_cont', ↓s_raise', ↓ss_nil', ↓ss_cons', ↓i_valE, ↓i_rng1E, ↓i_rng2E, ↓i_zipE, ↓i_enuE, ↓getK_s, ↓truK_t, ↓truK_f, ↓bK_s, ↓asgK_s, ↓atK_s, ↓seqK_s, ↓intsK_s, ↓blsK_s, ↓iteK_t, ↓iteK_f, ↓binD, ↓augD, ↓cmp_eq, ↓cmp_ne, ↓cmp_lt, ↓cmp_le, ↓cmp_gt, ↓cmp_ge, ↓cmp_is, ↓cmp_isn, ↓cmp_isN, ↓cmp_isnN, isNon, ↓ixD_int, ↓ixD_rod, atI0, atI1, atI2, atI3, ↓sl_tup, ↓sl_rol, ↓bi_len_tup, ↓bi_len_rol, ↓bi_len_ref, ↓bi_abs, ↓bi_int, ↓bi_intb, ↓bi_gcd, ↓bi_tup_tup, ↓bi_tup_rol, ↓bi_tup_ref, ↓bi_lst_tup, ↓bi_lst_rol, ↓bi_lst_ref, ↓bi_sum, ↓bi_sum_tup, ↓bi_sum_rol, ↓bi_all, ↓bi_any, ↓bi_max2, ↓bi_min2, tg_nm, tg_tp, tgsD, seqOf_tup, seqOf_rol, seqOf_up, seqL_rol, seqL_up', tru_non, tru_bl, tru_int, tru_tup, tru_rol, tru_up, ↓eq_int, isi_c, isi_int, isi_bl, isi_tup, isi_non, isi_str, isi_rol, tyN_up, tyN, List.getElem?_cons_zero, List.getElem?_cons_succ, List.set_cons_zero, List.set_cons_succ, permA, List.map_cons, List.map_nil, List.getD_cons_zero, List.getD_cons_succ, List.cons_append, List.nil_append, List.append_nil, List.replicate_succ, List.replicate_zero, RtP, ite_true, ite_false, if_true, if_false, Bool.false_eq_true, decide_true, decide_false, Bool.not_true, Bool.not_false, List.length_cons, List.length_nil, e_negc, ↓ixD_last ep2]
      refine eq_bl.mpr ?_
      by_cases c1 : decide (y = 1) = decide (x = 1)
      · have c1' : decide (decide (y = 1) = decide (x = 1)) = true := decide_eq_true c1
        have es : stp (y :: ys) x = if x = 1 then ys else if (y - 1 + x - 1) % 3 ≠ 0 then ((y - 1 + x - 1) % 3 + 1) :: ys else ys := by
          unfold stp
          dsimp only
          rw [if_neg (by simpa using c1)]
        by_cases c2 : x = 1
        · rw [if_pos c2] at es
          simp only [c1', ↓e_v, ↓e_c, ↓e_bin, ↓e_neg, ↓e_cmp, ↓e_chn, ↓e_and, ↓e_or, ↓e_not, ↓e_ite, ↓e_tup, ↓e_lst, ↓e_ix, ↓e_sl, ↓e_rev, ↓e_call, ↓e_bi, ↓e_isi, ↓e_app, ↓e_ext, ↓e_pop, ↓e_comp, ↓es_nil, ↓es_cons, ↓if_nil, ↓if_cons, ↓o_no, ↓o_so, ↓s_ex', ↓s_ret', ↓s_retN', ↓s_asg', ↓s_sub', ↓s_aug', ↓s_iff', ↓s_whl', ↓s_for', ↓s_pass', ↓s_brk', ↓s_cont', ↓s_raise', ↓ss_nil', ↓ss_cons', ↓i_valE, ↓i_rng1E, ↓i_rng2E, ↓i_zipE, ↓i_enuE, ↓getK_s, ↓truK_t, ↓truK_f, ↓bK_s, ↓asgK_s, ↓atK_s, ↓seqK_s, ↓intsK_s, ↓blsK_s, ↓iteK_t, ↓iteK_f, ↓binD, ↓augD, ↓cmp_eq, ↓cmp_ne, ↓cmp_lt, ↓cmp_le, ↓cmp_gt, ↓cmp_ge, ↓cmp_is, ↓cmp_isn, ↓cmp_isN, ↓cmp_isnN, isNon, ↓ixD_int, ↓ixD_rod, atI0, atI1, atI2, atI3, ↓sl_tup, ↓sl_rol, ↓bi_len_tup, ↓bi_len_rol, ↓bi_len_ref, ↓bi_abs, ↓bi_int, ↓bi_intb, ↓bi_gcd, ↓bi_tup_tup, ↓bi_tup_rol, ↓bi_tup_ref, ↓bi_lst_tup, ↓bi_lst_rol, ↓bi_lst_ref, ↓bi_sum, ↓bi_sum_tup, ↓bi_sum_rol, ↓bi_all, ↓bi_any, ↓bi_max2, ↓bi_min2, tg_nm, tg_tp, tgsD, seqOf_tup, seqOf_rol, seqOf_up, seqL_rol, seqL_up', tru_non, tru_bl, tru_int, tru_tup, tru_rol, tru_up, ↓eq_int, isi_c, isi_int, isi_bl, isi_tup, isi_non, isi_str, isi_rol, tyN_up, tyN, List.getElem?_cons_zero, List.getElem?_cons_succ, List.set_cons_zero, List.set_cons_succ, permA, List.map_cons, List.map_nil, List.getD_cons_zero, List.getD_cons_succ, List.cons_append, List.nil_append, List.append_nil, List.replicate_succ, List.replicate_zero, RtP, ite_true, ite_false, if_true, if_false, Bool.false_eq_true, decide_true, decide_false, Bool.not_true, Bool.not_false, List.length_cons, List.length_nil]
          simp only [c2, decide_true, ↓e_v, ↓e_c, ↓e_bin, ↓e_neg, ↓e_cmp, ↓e_chn, ↓e_and, ↓e_or, ↓e_not, ↓e_ite, ↓e_tup, ↓e_lst, ↓e_ix, ↓e_sl, ↓e_rev, ↓e_call, ↓e_bi, ↓e_isi, ↓e_app, ↓e_ext, ↓e_pop, ↓e_comp, ↓es_nil, ↓es_cons, ↓if_nil, ↓if_cons, ↓o_no, ↓o_so, ↓s_ex', ↓s_ret', ↓s_retN', ↓s_asg', ↓s_sub', ↓s_aug', ↓s_iff', ↓s_whl', ↓s_for', ↓s_pass', ↓s_brk', ↓s_cont', ↓s_raise', ↓ss_nil', ↓ss_cons', ↓i_valE, ↓i_rng1E, ↓i_rng2E, ↓i_zipE, ↓i_enuE, ↓getK_s, ↓truK_t, ↓truK_f, ↓bK_s, ↓asgK_s, ↓atK_s, ↓seqK_s, ↓intsK_s, ↓blsK_s, ↓iteK_t, ↓iteK_f, ↓binD, ↓augD, ↓cmp_eq, ↓cmp_ne, ↓cmp_lt, ↓cmp_le, ↓cmp_gt, ↓cmp_ge, ↓cmp_is, ↓cmp_isn, ↓cmp_isN, ↓cmp_isnN, isNon, ↓ixD_int, ↓ixD_rod, atI0, atI1, atI2, atI3, ↓sl_tup, ↓sl_rol, ↓bi_len_tup, ↓bi_len_rol, ↓bi_len_ref, ↓bi_abs, ↓bi_int, ↓bi_intb, ↓bi_gcd, ↓bi_tup_tup, ↓bi_tup_rol, ↓bi_tup_ref, ↓bi_lst_tup, ↓bi_lst_rol, ↓bi_lst_ref, ↓bi_sum, ↓bi_sum_tup, ↓bi_sum_rol, ↓bi_all, ↓bi_any, ↓bi_max2, ↓bi_min2, tg_nm, tg_tp, tgsD, seqOf_tup, seqOf_rol, seqOf_up, seqL_rol, seqL_up', tru_non, tru_bl, tru_int, tru_tup, tru_rol, tru_up, ↓eq_int, isi_c, isi_int, isi_bl, isi_tup, isi_non, isi_str, isi_rol, tyN_up, tyN, List.getElem?_cons_zero, List.getElem?_cons_succ, List.set_cons_zero, List.set_cons_succ, permA, List.map_cons, List.map_nil, List.getD_cons_zero, List.getD_cons_succ, List.cons_append, List.nil_append, List.append_nil, List.replicate_succ, List.replicate_zero, RtP, ite_true, ite_false, if_true, if_false, Bool.false_eq_true, decide_true, decide_false, Bool.not_true, Bool.not_false, List.length_cons, List.length_nil, ↓popD_at ep2]
          subst c2
          refine q _ _ (by rw [up_same, es]) (bg.trans .up)
        · rw [if_neg c2] at es
          have b3 : (y - 1 + x - 1) % 3 = (y - 1 + x - 1) % 3 := rfl
          simp only [c1', ↓e_v, ↓e_c, ↓e_bin, ↓e_neg, ↓e_cmp, ↓e_chn, ↓e_and, ↓e_or, ↓e_not, ↓e_ite, ↓e_tup, ↓e_lst, ↓e_ix, ↓e_sl, ↓e_rev, ↓e_call, ↓e_bi, ↓e_isi, ↓e_app, ↓e_ext, ↓e_pop, ↓e_comp, ↓es_nil, ↓es_cons, ↓if_nil, ↓if_cons, ↓o_no, ↓o_so, ↓s_ex', ↓s_ret', ↓s_retN', ↓s_asg', ↓s_sub', ↓s_aug', ↓s_iff', ↓s_whl', ↓s_for', ↓s_pass', ↓s_brk', ↓s_cont', ↓s_raise', ↓ss_nil', ↓ss_cons', ↓i_valE, ↓i_rng1E, ↓i_rng2E, ↓i_zipE, ↓i_enuE, ↓getK_s, ↓truK_t, ↓truK_f, ↓bK_s, ↓asgK_s, ↓atK_s, ↓seqK_s, ↓intsK_s, ↓blsK_s, ↓iteK_t, ↓iteK_f, ↓binD, ↓augD, ↓cmp_eq, ↓cmp_ne, ↓cmp_lt, ↓cmp_le, ↓cmp_gt, ↓cmp_ge, ↓cmp_is, ↓cmp_isn, ↓cmp_isN, ↓cmp_isnN, isNon, ↓ixD_int, ↓ixD_rod, atI0, atI1, atI2, atI3, ↓sl_tup, ↓sl_rol, ↓bi_len_tup, ↓bi_len_rol, ↓bi_len_ref, ↓bi_abs, ↓bi_int, ↓bi_intb, ↓bi_gcd, ↓bi_tup_tup, ↓bi_tup_rol, ↓bi_tup_ref, ↓bi_lst_tup, ↓bi_lst_rol, ↓bi_lst_ref, ↓bi_sum, ↓bi_sum_tup, ↓bi_sum_rol, ↓bi_all, ↓bi_any, ↓bi_max2, ↓bi_min2, tg_nm, tg_tp, tgsD, seqOf_tup, seqOf_rol, seqOf_up, seqL_rol, seqL_up', tru_non, tru_bl, tru_int, tru_tup, tru_rol, tru_up, ↓eq_int, isi_c, isi_int, isi_bl, isi_tup, isi_non, isi_str, isi_rol, tyN_up, tyN, List.getElem?_cons_zero, List.getElem?_cons_succ, List.set_cons_zero, List.set_cons_succ, permA, List.map_cons, List.map_nil, List.getD_cons_zero, List.getD_cons_succ, List.cons_append, List.nil_append, List.append_nil, List.replicate_succ, List.replicate_zero, RtP, ite_true, ite_false, if_true, if_false, Bool.false_eq_true, decide_true, decide_false, Bool.not_true, Bool.not_false, List.length_cons, List.length_nil]
          simp only [decide_eq_false c2, ↓e_v, ↓e_c, ↓e_bin, ↓e_neg, ↓e_cmp, ↓e_chn, ↓e_and, ↓e_or, ↓e_not, ↓e_ite, ↓e_tup, ↓e_lst, ↓e_ix, ↓e_sl, ↓e_rev, ↓e_call, ↓e_bi, ↓e_isi, ↓e_app, ↓e_ext, ↓e_pop, ↓e_comp, ↓es_nil, ↓es_cons, ↓if_nil, ↓if_cons, ↓o_no, ↓o_so, ↓s_ex', ↓s_ret', ↓s_retN', ↓s_asg', ↓s_sub', ↓s_aug', ↓s_iff', ↓s_whl', ↓s_for', ↓s_pass', ↓s_brk', ↓s_cont', ↓s_raise', ↓ss_nil', ↓ss_cons', ↓i_valE, ↓i_rng1E, ↓i_rng2E, ↓i_zipE, ↓i_enuE, ↓getK_s, ↓truK_t, ↓truK_f, ↓bK_s, ↓asgK_s, ↓atK_s, ↓seqK_s, ↓intsK_s, ↓blsK_s, ↓iteK_t, ↓iteK_f, ↓binD, ↓augD, ↓cmp_eq, ↓cmp_ne, ↓cmp_lt, ↓cmp_le, ↓cmp_gt, ↓cmp_ge, ↓cmp_is, ↓cmp_isn, ↓cmp_isN, ↓cmp_isnN, isNon, ↓ixD_int, ↓ixD_rod, atI0, atI1, atI2, atI3, ↓sl_tup, ↓sl_rol, ↓bi_len_tup, ↓bi_len_rol, ↓bi_len_ref, ↓bi_abs, ↓bi_int, ↓bi_intb, ↓bi_gcd, ↓bi_tup_tup, ↓bi_tup_rol, ↓bi_tup_ref, ↓bi_lst_tup, ↓bi_lst_rol, ↓bi_lst_ref, ↓bi_sum, ↓bi_sum_tup, ↓bi_sum_rol, ↓bi_all, ↓bi_any, ↓bi_max2, ↓bi_min2, tg_nm, tg_tp, tgsD, seqOf_tup, seqOf_rol, seqOf_up, seqL_rol, seqL_up', tru_non, tru_bl, tru_int, tru_tup, tru_rol, tru_up, ↓eq_int, isi_c, isi_int, isi_bl, isi_tup, isi_non, isi_str, isi_rol, tyN_up, tyN, List.getElem?_cons_zero, List.getElem?_cons_succ, List.set_cons_zero, List.set_cons_succ, permA, List.map_cons, List.map_nil, List.getD_cons_zero, List.getD_cons_succ, List.cons_append, List.nil_append, List.append_nil, List.replicate_succ, List.replicate_zero, RtP, ite_true, ite_false, if_true, if_false, Bool.false_eq_true, decide_true, decide_false, Bool.not_true, Bool.not_false, List.length_cons, List.length_nil, ↓popD_at ep2, fmod3]
          refine ⟨by decide, ?_⟩
          by_cases c3 : (y - 1 + x - 1) % 3 = 0
          · rw [if_neg (fun z => z c3)] at es
            simp only [decide_eq_true c3, ↓e_v, ↓e_c, ↓e_bin, ↓e_neg, ↓e_cmp, ↓e_chn, ↓e_and, ↓e_or, ↓e_not, ↓e_ite, ↓e_tup, ↓e_lst, ↓e_ix, ↓e_sl, ↓e_rev, ↓e_call, ↓e_bi, ↓e_isi, ↓e_app, ↓e_ext, ↓e_pop, ↓e_comp, ↓es_nil, ↓es_cons, ↓if_nil, ↓if_cons, ↓o_no, ↓o_so, ↓s_ex', ↓s_ret', ↓s_retN', ↓s_asg', ↓s_sub', ↓s_aug', ↓s_iff', ↓s_whl', ↓s_for', ↓s_pass', ↓s_brk', ↓s_cont', ↓s_raise', ↓ss_nil', ↓ss_cons', ↓i_valE, ↓i_rng1E, ↓i_rng2E, ↓i_zipE, ↓i_enuE, ↓getK_s, ↓truK_t, ↓truK_f, ↓bK_s, ↓asgK_s, ↓atK_s, ↓seqK_s, ↓intsK_s, ↓blsK_s, ↓iteK_t, ↓iteK_f, ↓binD, ↓augD, ↓cmp_eq, ↓cmp_ne, ↓cmp_lt, ↓cmp_le, ↓cmp_gt, ↓cmp_ge, ↓cmp_is, ↓cmp_isn, ↓cmp_isN, ↓cmp_isnN, isNon, ↓ixD_int, ↓ixD_rod, atI0, atI1, atI2, atI3, ↓sl_tup, ↓sl_rol, ↓bi_len_tup, ↓bi_len_rol, ↓bi_len_ref, ↓bi_abs, ↓bi_int, ↓bi_intb, ↓bi_gcd, ↓bi_tup_tup, ↓bi_tup_rol, ↓bi_tup_ref, ↓bi_lst_tup, ↓bi_lst_rol, ↓bi_lst_ref, ↓bi_sum, ↓bi_sum_tup, ↓bi_sum_rol, ↓bi_all, ↓bi_any, ↓bi_max2, ↓bi_min2, tg_nm, tg_tp, tgsD, seqOf_tup, seqOf_rol, seqOf_up, seqL_rol, seqL_up', tru_non, tru_bl, tru_int, tru_tup, tru_rol, tru_up, ↓eq_int, isi_c, isi_int, isi_bl, isi_tup, isi_non, isi_str, isi_rol, tyN_up, tyN, List.getElem?_cons_zero, List.getElem?_cons_succ, List.set_cons_zero, List.set_cons_succ, permA, List.map_cons, List.map_nil, List.getD_cons_zero, List.getD_cons_succ, List.cons_append, List.nil_append, List.append_nil, List.replicate_succ, List.replicate_zero, RtP, ite_true, ite_false, if_true, if_false, Bool.false_eq_true, decide_true, decide_false, Bool.not_true, Bool.not_false, List.length_cons, List.length_nil]
            exact q _ _ (by rw [up_same, es]) (bg.trans .up)
          · rw [if_pos c3] at es
            simp only [decide_eq_false c3, ↓e_v, ↓e_c, ↓e_bin, ↓e_neg, ↓e_cmp, ↓e_chn, ↓e_and, ↓e_or, ↓e_not, ↓e_ite, ↓e_tup, ↓e_lst, ↓e_ix, ↓e_sl, ↓e_rev, ↓e_call, ↓e_bi, ↓e_isi, ↓e_app, ↓e_ext, ↓e_pop, ↓e_comp, ↓es_nil, ↓es_cons, ↓if_nil, ↓if_cons, ↓o_no, ↓o_so, ↓s_ex', ↓s_ret', ↓s_retN', ↓s_asg', ↓s_sub', ↓s_aug', ↓s_iff', ↓s_whl', ↓s_for', ↓s_pass', ↓s_brk', ↓s_cont', ↓s_raise', ↓ss_nil', ↓ss_cons', ↓i_valE, ↓i_rng1E, ↓i_rng2E, ↓i_zipE, ↓i_enuE, ↓getK_s, ↓truK_t, ↓truK_f, ↓bK_s, ↓asgK_s, ↓atK_s, ↓seqK_s, ↓intsK_s, ↓blsK_s, ↓iteK_t, ↓iteK_f, ↓binD, ↓augD, ↓cmp_eq, ↓cmp_ne, ↓cmp_lt, ↓cmp_le, ↓cmp_gt, ↓cmp_ge, ↓cmp_is, ↓cmp_isn, ↓cmp_isN, ↓cmp_isnN, isNon, ↓ixD_int, ↓ixD_rod, atI0, atI1, atI2, atI3, ↓sl_tup, ↓sl_rol, ↓bi_len_tup, ↓bi_len_rol, ↓bi_len_ref, ↓bi_abs, ↓bi_int, ↓bi_intb, ↓bi_gcd, ↓bi_tup_tup, ↓bi_tup_rol, ↓bi_tup_ref, ↓bi_lst_tup, ↓bi_lst_rol, ↓bi_lst_ref, ↓bi_sum, ↓bi_sum_tup, ↓bi_sum_rol, ↓bi_all, ↓bi_any, ↓bi_max2, ↓bi_min2, tg_nm, tg_tp, tgsD, seqOf_tup, seqOf_rol, seqOf_up, seqL_rol, seqL_up', tru_non, tru_bl, tru_int, tru_tup, tru_rol, tru_up, ↓eq_int, isi_c, isi_int, isi_bl, isi_tup, isi_non, isi_str, isi_rol, tyN_up, tyN, List.getElem?_cons_zero, List.getElem?_cons_succ, List.set_cons_zero, List.set_cons_succ, permA, List.map_cons, List.map_nil, List.getD_cons_zero, List.getD_cons_succ, List.cons_append, List.nil_append, List.append_nil, List.replicate_succ, List.replicate_zero, RtP, ite_true, ite_false, if_true, if_false, Bool.false_eq_true, decide_true, decide_false, Bool.not_true, Bool.not_false, List.length_cons, List.length_nil, isL_at up_same, appD_at up_same]
            refine ⟨trivial, ?_, q _ _ ?_ (bg.trans (But.up.trans .up))⟩
            · rw [List.length_map, List.length_reverse]
              rw [List.length_cons] at hrs
              exact Nat.lt_of_lt_of_le (show ys.length < 1000000 by omega) (by decide)
            · rw [up_same, es, map_snoc, fmod3]
      · have c1' : decide (decide (y = 1) = decide (x = 1)) = false := decide_eq_false c1
        have es : stp (y :: ys) x = x :: y :: ys := by
          unfold stp
          dsimp only
          rw [if_pos (by simpa using c1)]
        simp only [c1', ↓e_v, ↓e_c, ↓e_bin, ↓e_neg, ↓e_cmp, ↓e_chn, ↓e_and, ↓e_or, ↓e_not, ↓e_ite, ↓e_tup, ↓e_lst, ↓e_ix, ↓e_sl, ↓e_rev, ↓e_call, ↓e_bi, ↓e_isi, ↓e_app, ↓e_ext, ↓e_pop, ↓e_comp, ↓es_nil, ↓es_cons, ↓if_nil, ↓if_cons, ↓o_no, ↓o_so, ↓s_ex', ↓s_ret', ↓s_retN', ↓s_asg', ↓s_sub', ↓s_aug', ↓s_iff', ↓s_whl', ↓s_for', ↓s_pass', ↓s_brk', ↓s_cont', ↓s_raise', ↓ss_nil', ↓ss_cons', ↓i_valE, ↓i_rng1E, ↓i_rng2E, ↓i_zipE, ↓i_enuE, ↓getK_s, ↓truK_t, ↓truK_f, ↓bK_s, ↓asgK_s, ↓atK_s, ↓seqK_s, ↓intsK_s, ↓blsK_s, ↓iteK_t, ↓iteK_f, ↓binD, ↓augD, ↓cmp_eq, ↓cmp_ne, ↓cmp_lt, ↓cmp_le, ↓cmp_gt, ↓cmp_ge, ↓cmp_is, ↓cmp_isn, ↓cmp_isN, ↓cmp_isnN, isNon, ↓ixD_int, ↓ixD_rod, atI0, atI1, atI2, atI3, ↓sl_tup, ↓sl_rol, ↓bi_len_tup, ↓bi_len_rol, ↓bi_len_ref, ↓bi_abs, ↓bi_int, ↓bi_intb, ↓bi_gcd, ↓bi_tup_tup, ↓bi_tup_rol, ↓bi_tup_ref, ↓bi_lst_tup, ↓bi_lst_rol, ↓bi_lst_ref, ↓bi_sum, ↓bi_sum_tup, ↓bi_sum_rol, ↓bi_all, ↓bi_any, ↓bi_max2, ↓bi_min2, tg_nm, tg_tp, tgsD, seqOf_tup, seqOf_rol, seqOf_up, seqL_rol, seqL_up', tru_non, tru_bl, tru_int, tru_tup, tru_rol, tru_up, ↓eq_int, isi_c, isi_int, isi_bl, isi_tup, isi_non, isi_str, isi_rol, tyN_up, tyN, List.getElem?_cons_zero, List.getElem?_cons_succ, List.set_cons_zero, List.set_cons_succ, permA, List.map_cons, List.map_nil, List.getD_cons_zero, List.getD_cons_succ, List.cons_append, List.nil_append, List.append_nil, List.replicate_succ, List.replicate_zero, RtP, ite_true, ite_false, if_true, if_false, Bool.false_eq_true, decide_true, decide_false, Bool.not_true, Bool.not_false, List.length_cons, List.length_nil, isL_at ep2, appD_at ep2]
        refine ⟨trivial, ?_, q _ _ ?_ (bg.trans .up)⟩
        · rw [List.length_append, List.length_map, List.length_reverse]
          rw [List.length_cons] at hrs
          exact Nat.lt_of_lt_of_le (show ys.length + 1 < 1000000 by omega) (by decide)
        · rw [up_same, es, map_snoc, map_snoc]
  · simp only [↓e_v, ↓e_c, ↓e_bin, ↓e_neg, ↓e_cmp, ↓e_chn, ↓e_and, ↓e_or, ↓e_not, ↓e_ite, ↓e_tup, ↓e_lst, ↓e_ix, ↓e_sl, ↓e_rev, ↓e_call, ↓e_bi, ↓e_isi, ↓e_app, ↓e_ext, ↓e_pop, ↓e_comp, ↓es_nil, ↓es_cons, ↓if_nil, ↓if_cons, ↓o_no, ↓o_so, ↓s_ex', ↓s_ret', ↓s_retN', ↓s_asg', ↓s_sub', ↓s_aug', ↓s_iff', ↓s_whl', ↓s_for', ↓s_pass', ↓s_brk', ↓s_cont', ↓s_raise', ↓ss_nil', ↓ss_cons', ↓i_valE, ↓i_rng1E, ↓i_rng2E, ↓i_zipE, ↓i_enuE, ↓getK_s, ↓truK_t, ↓truK_f, ↓bK_s, ↓asgK_s, ↓atK_s, ↓seqK_s, ↓intsK_s, ↓blsK_s, ↓iteK_t, ↓iteK_f, ↓binD, ↓augD, ↓cmp_eq, ↓cmp_ne, ↓cmp_lt, ↓cmp_le, ↓cmp_gt, ↓cmp_ge, ↓cmp_is, ↓cmp_isn, ↓cmp_isN, ↓cmp_isnN, isNon, ↓ixD_int, ↓ixD_rod, atI0, atI1, atI2, atI3, ↓sl_tup, ↓sl_rol, ↓bi_len_tup, ↓bi_len_rol, ↓bi_len_ref, ↓bi_abs, ↓bi_int, ↓bi_intb, ↓bi_gcd, ↓bi_tup_tup, ↓bi_tup_rol, ↓bi_tup_ref, ↓bi_lst_tup, ↓bi_lst_rol, ↓bi_lst_ref, ↓bi_sum, ↓bi_sum_tup, ↓bi_sum_rol, ↓bi_all, ↓bi_any, ↓bi_max2, ↓bi_min2, tg_nm, tg_tp, tgsD, seqOf_tup, seqOf_rol, seqOf_up, seqL_rol, seqL_up', tru_non, tru_bl, tru_int, tru_tup, tru_rol, tru_up, ↓eq_int, isi_c, isi_int, isi_bl, isi_tup, isi_non, isi_str, isi_rol, tyN_up, tyN, List.getElem?_cons_zero, List.getElem?_cons_succ, List.set_cons_zero, List.set_cons_succ, permA, List.map_cons, List.map_nil, List.getD_cons_zero, List.getD_cons_succ, List.cons_append, List.nil_append, List.append_nil, List.replicate_succ, List.replicate_zero, RtP, ite_true, ite_false, if_true, if_false, Bool.false_eq_true, decide_true, decide_false, Bool.not_true, Bool.not_false, List.length_cons, List.length_nil, seqOf_ref e1]
    exact ⟨but_sub hp e2, trivial⟩
theorem m_lshort {Φ : Nat → Spec} : Meets Φ 1 4 b__law_short sp_shortest := pur_meets inj_w fun w μ hl => by
  simp only [b__law_short, ↓e_v, ↓e_c, ↓e_bin, ↓e_neg, ↓e_cmp, ↓e_chn, ↓e_and, ↓e_or, ↓e_not, ↓e_ite, ↓e_tup, ↓e_lst, ↓e_ix, ↓e_sl, ↓e_rev, ↓e_call, ↓e_bi, ↓e_isi, ↓e_app, ↓e_ext, ↓e_pop, ↓e_comp, ↓es_nil, ↓es_cons, ↓if_nil, ↓if_cons, ↓o_no, ↓o_so, ↓s_ex', ↓s_ret', ↓s_retN', ↓s_asg', ↓s_sub', ↓s_aug', ↓s_iff', ↓s_whl', ↓s_for', ↓s_pass', ↓s_brk', ↓s_cont', ↓s_raise', ↓ss_nil', ↓ss_cons', ↓i_valE, ↓i_rng1E, ↓i_rng2E, ↓i_zipE, ↓i_enuE, ↓getK_s, ↓truK_t, ↓truK_f, ↓bK_s, ↓asgK_s, ↓atK_s, ↓seqK_s, ↓intsK_s, ↓blsK_s, ↓iteK_t, ↓iteK_f, ↓binD, ↓augD, ↓cmp_eq, ↓cmp_ne, ↓cmp_lt, ↓cmp_le, ↓cmp_gt, ↓cmp_ge, ↓cmp_is, ↓cmp_isn, ↓cmp_isN, ↓cmp_isnN, isNon, ↓ixD_int, ↓ixD_rod, atI0, atI1, atI2, atI3, ↓sl_tup, ↓sl_rol, ↓bi_len_tup, ↓bi_len_rol, ↓bi_len_ref, ↓bi_abs, ↓bi_int, ↓bi_intb, ↓bi_gcd, ↓bi_tup_tup, ↓bi_tup_rol, ↓bi_tup_ref, ↓bi_lst_tup, ↓bi_lst_rol, ↓bi_lst_ref, ↓bi_sum, ↓bi_sum_tup, ↓bi_sum_rol, ↓bi_all, ↓bi_any, ↓bi_max2, ↓bi_min2, tg_nm, tg_tp, tgsD, seqOf_tup, seqOf_rol, seqOf_up, seqL_rol, seqL_up', tru_non, tru_bl, tru_int, tru_tup, tru_rol, tru_up, ↓eq_int, isi_c, isi_int, isi_bl, isi_tup, isi_non, isi_str, isi_rol, tyN_up, tyN, List.getElem?_cons_zero, List.getElem?_cons_succ, List.set_cons_zero, List.set_cons_succ, permA, List.map_cons, List.map_nil, List.getD_cons_zero, List.getD_cons_succ, List.cons_append, List.nil_append, List.append_nil, List.replicate_succ, List.replicate_zero, RtP, ite_true, ite_false, if_true, if_false, Bool.false_eq_true, decide_true, decide_false, Bool.not_true, Bool.not_false, List.length_cons, List.length_nil]
  refine ⟨by decide, fun p hp => ?_⟩
  simp only [↓e_v, ↓e_c, ↓e_bin, ↓e_neg, ↓e_cmp, ↓e_chn, ↓e_and, ↓e_or, ↓e_not, ↓e_ite, ↓e_tup, ↓e_lst, ↓e_ix, ↓e_sl, ↓e_rev, ↓e_call, ↓e_bi, ↓e_isi, ↓e_app, ↓e_ext, ↓e_pop, ↓e_comp, ↓es_nil, ↓es_cons, ↓if_nil, ↓if_cons, ↓o_no, ↓o_so, ↓s_ex', ↓s_ret', ↓s_retN', ↓s_asg', ↓s_sub', ↓s_aug', ↓s_iff', ↓s_whl', ↓s_for', ↓s_pass', ↓s_brk', ↓s_cont', ↓s_raise', ↓ss_nil', ↓ss_cons', ↓i_valE, ↓i_rng1E, ↓i_rng2E, ↓i_zipE, ↓i_enuE, ↓getK_s, ↓truK_t, ↓truK_f, ↓bK_s, ↓asgK_s, ↓atK_s, ↓seqK_s, ↓intsK_s, ↓blsK_s, ↓iteK_t, ↓iteK_f, ↓binD, ↓augD, ↓cmp_eq, ↓cmp_ne, ↓cmp_lt, ↓cmp_le, ↓cmp_gt, ↓cmp_ge, ↓cmp_is, ↓cmp_isn, ↓cmp_isN, ↓cmp_isnN, isNon, ↓ixD_int, ↓ixD_rod, atI0, atI1, atI2, atI3, ↓sl_tup, ↓sl_rol, ↓bi_len_tup, ↓bi_len_rol, ↓bi_len_ref, ↓bi_abs, ↓bi_int, ↓bi_intb, ↓bi_gcd, ↓bi_tup_tup, ↓bi_tup_rol, ↓bi_tup_ref, ↓bi_lst_tup, ↓bi_lst_rol, ↓bi_lst_ref, ↓bi_sum, ↓bi_sum_tup, ↓bi_sum_rol, ↓bi_all, ↓bi_any, ↓bi_max2, ↓bi_min2, tg_nm, tg_tp, tgsD, seqOf_tup, seqOf_rol, seqOf_up, seqL_rol, seqL_up', tru_non, tru_bl, tru_int, tru_tup, tru_rol, tru_up, ↓eq_int, isi_c, isi_int, isi_bl, isi_tup, isi_non, isi_str, isi_rol, tyN_up, tyN, List.getElem?_cons_zero, List.getElem?_cons_succ, List.set_cons_zero, List.set_cons_succ, permA, List.map_cons, List.map_nil, List.getD_cons_zero, List.getD_cons_succ, List.cons_append, List.nil_append, List.append_nil, List.replicate_succ, List.replicate_zero, RtP, ite_true, ite_false, if_true, if_false, Bool.false_eq_true, decide_true, decide_false, Bool.not_true, Bool.not_false, List.length_cons, List.length_nil]
  refine short_loop hl up_same (fun rs x z C μ' hrs ep q => ?_) fun μ' z1 z2 e1 e2 => ?_
  · simp only [↓e_v, ↓e_c, ↓e_bin, ↓e_neg, ↓e_cmp, ↓e_chn, ↓e_and, ↓e_or, ↓e_not, ↓e_ite, ↓e_tup, ↓e_lst, ↓e_ix, ↓e_sl, ↓e_rev, ↓e_call, ↓e_bi, ↓e_isi, ↓e_app, ↓e_ext, ↓e_pop, ↓e_comp, ↓es_nil, ↓es_cons, ↓if_nil, ↓if_cons, ↓o_no, ↓o_so, ↓s_ex', ↓s_ret', ↓s_retN', ↓s_asg', ↓s_sub', ↓s_aug', ↓s_iff', ↓s_whl', ↓s_for', ↓s_pass', ↓s_brk', ↓s_cont', ↓s_raise', ↓ss_nil', ↓ss_cons', ↓i_valE, ↓i_rng1E, ↓i_rng2E, ↓i_zipE, ↓i_enuE, ↓getK_s, ↓truK_t, ↓truK_f, ↓bK_s, ↓asgK_s, ↓atK_s, ↓seqK_s, ↓intsK_s, ↓blsK_s, ↓iteK_t, ↓iteK_f, ↓binD, ↓augD, ↓cmp_eq, ↓cmp_ne, ↓cmp_lt, ↓cmp_le, ↓cmp_gt, ↓cmp_ge, ↓cmp_is, ↓cmp_isn, ↓cmp_isN, ↓cmp_isnN, isNon, ↓ixD_int, ↓ixD_rod, atI0, atI1, atI2, atI3, ↓sl_tup, ↓sl_rol, ↓bi_len_tup, ↓bi_len_rol, ↓bi_len_ref, ↓bi_abs, ↓bi_int, ↓bi_intb, ↓bi_gcd, ↓bi_tup_tup, ↓bi_tup_rol, ↓bi_tup_ref, ↓bi_lst_tup, ↓bi_lst_rol, ↓bi_lst_ref, ↓bi_sum, ↓bi_sum_tup, ↓bi_sum_rol, ↓bi_all, ↓bi_any, ↓bi_max2, ↓bi_min2, tg_nm, tg_tp, tgsD, seqOf_tup, seqOf_rol, seqOf_up, seqL_rol, seqL_up', tru_non, tru_bl, tru_int, tru_tup, tru_rol, tru_up, ↓eq_int, isi_c, isi_int, isi_bl, isi_tup, isi_non, isi_str, isi_rol, tyN_up, tyN, List.getElem?_cons_zero, List.getElem?_cons_succ, List.set_cons_zero, List.set_cons_succ, permA, List.map_cons, List.map_nil, List.getD_cons_zero, List.getD_cons_succ, List.cons_append, List.nil_append, List.append_nil, List.replicate_succ, List.replicate_zero, RtP, ite_true, ite_false, if_true, if_false, Bool.false_eq_true, decide_true, decide_false, Bool.not_true, Bool.not_false, List.length_cons, List.length_nil]
    refine ⟨by decide, fun g hg => ?_⟩
    have hpg := ne_none ep hg
    have ep2 : up μ' g (.lst []) p = some (.lst (rs.reverse.map D.int)) := by rw [up_ne hpg]; exact ep
    have bg : But p μ' (up μ' g (.lst [])) := .new hg
    refine eq_ints (ys := []) ep2 up_same ?_
    cases rs with
    | nil =>
      simp only [List.reverse_nil, show decide (([] : List Int) = []) = true from rfl, ↓e_v, ↓e_c, ↓e_bin, ↓e_neg, ↓e_cmp, ↓e_chn, ↓e_and, ↓e_or, ↓e_not, ↓e_ite, ↓e_tup, ↓e_lst, ↓e_ix, ↓e_sl, ↓e_rev, ↓e_call, ↓e_bi, ↓e_isi, ↓e_app, ↓e_ext, ↓e_pop, ↓e_comp, ↓es_nil, ↓es_cons, ↓if_nil, ↓if_cons, ↓o_no, ↓o_so, ↓s_ex', ↓s_ret', ↓s_retN', ↓s_asg', ↓s_sub', ↓s_aug', ↓s_iff', ↓s_whl', ↓s_for', ↓s_pass', ↓s_brk', ↓s_cont', ↓s_raise', ↓ss_nil', ↓ss_cons', ↓i_valE, ↓i_rng1E, ↓i_rng2E, ↓i_zipE, ↓i_enuE, ↓getK_s, ↓truK_t, ↓truK_f, ↓bK_s, ↓asgK_s, ↓atK_s, ↓seqK_s, ↓intsK_s, ↓blsK_s, ↓iteK_t, ↓iteK_f, ↓binD, ↓augD, ↓cmp_eq, ↓cmp_ne, ↓cmp_lt, ↓cmp_le, ↓cmp_gt, ↓cmp_ge, ↓cmp_is, ↓cmp_isn, ↓cmp_isN, ↓cmp_isnN, isNon, ↓ixD_int, ↓ixD_rod, atI0, atI1, atI2, atI3, ↓sl_tup, ↓sl_rol, ↓bi_len_tup, ↓bi_len_rol, ↓bi_len_ref, ↓bi_abs, ↓bi_int, ↓bi_intb, ↓bi_gcd, ↓bi_tup_tup, ↓bi_tup_rol, ↓bi_tup_ref, ↓bi_lst_tup, ↓bi_lst_rol, ↓bi_lst_ref, ↓bi_sum, ↓bi_sum_tup, ↓bi_sum_rol, ↓bi_all, ↓bi_any, ↓bi_max2, ↓bi_min2, tg_nm, tg_tp, tgsD, seqOf_tup, seqOf_rol, seqOf_up, seqL_rol, seqL_up', tru_non, tru_bl, tru_int, tru_tup, tru_rol, tru_up, ↓eq_int, isi_c, isi_int, isi_bl, isi_tup, isi_non, isi_str, isi_rol, tyN_up, tyN, List.getElem?_cons_zero, List.getElem?_cons_succ, List.set_cons_zero, List.set_cons_succ, permA, List.map_cons, List.map_nil, List.getD_cons_zero, List.getD_cons_succ, List.cons_append, List.nil_append, List.append_nil, List.replicate_succ, List.replicate_zero, RtP, ite_true, ite_false, if_true, if_false, Bool.false_eq_true, decide_true, decide_false, Bool.not_true, Bool.not_false, List.length_cons, List.length_nil]
      simp only [↓e_v, ↓e_c, ↓e_bin, ↓e_neg, ↓e_cmp, ↓e_chn, ↓e_and, ↓e_or, ↓e_not, ↓e_ite, ↓e_tup, ↓e_lst, ↓e_ix, ↓e_sl, ↓e_rev, ↓e_call, ↓e_bi, ↓e_isi, ↓e_app, ↓e_ext, ↓e_pop, ↓e_comp, ↓es_nil, ↓es_cons, ↓if_nil, ↓if_cons, ↓o_no, ↓o_so, ↓s_ex', ↓s_ret', ↓s_retN', ↓s_asg', ↓s_sub', ↓s_aug', ↓s_iff', ↓s_whl', ↓s_for', ↓s_pass', ↓s_brk', ↓s_cont', ↓s_raise', ↓ss_nil', ↓ss_cons', ↓i_valE, ↓i_rng1E, ↓i_rng2E, ↓i_zipE, ↓i_enuE, ↓getK_s, ↓truK_t, ↓truK_f, ↓bK_s, ↓asgK_s, ↓atK_s, ↓seqK_s, ↓intsK_s, ↓blsK_s, ↓iteK_t, ↓iteK_f, ↓binD, ↓augD, ↓cmp_eq, ↓cmp_ne, ↓cmp_lt, ↓cmp_le, ↓cmp_gt, ↓cmp_ge, ↓cmp_is, ↓cmp_isn, ↓cmp_isN, ↓cmp_isnN, isNon, ↓ixD_int, ↓ixD_rod, atI0, atI1, atI2, atI3, ↓sl_tup, ↓sl_rol, ↓bi_len_tup, ↓bi_len_rol, ↓bi_len_ref, ↓bi_abs, ↓bi_int, ↓bi_intb, ↓bi_gcd, ↓bi_tup_tup, ↓bi_tup_rol, ↓bi_tup_ref, ↓bi_lst_tup, ↓bi_lst_rol, ↓bi_lst_ref, ↓bi_sum, ↓bi_sum_tup, ↓bi_sum_rol, ↓bi_all, ↓bi_any, ↓bi_max2, ↓bi_min2, tg_nm, tg_tp, tgsD, seqOf_tup, seqOf_rol, seqOf_up, seqL_rol, seqL_up', tru_non, tru_bl, tru_int, tru_tup, tru_rol, tru_up, ↓eq_int, isi_c, isi_int, isi_bl, isi_tup, isi_non, isi_str, isi_rol, tyN_up, tyN, List.getElem?_cons_zero, List.getElem?_cons_succ, List.set_cons_zero, List.set_cons_succ, permA, List.map_cons, List.map_nil, List.getD_cons_zero, List.getD_cons_succ, List.cons_append, List.nil_append, List.append_nil, List.replicate_succ, List.replicate_zero, RtP, ite_true, ite_false, if_true, if_false, Bool.false_eq_true, decide_true, decide_false, Bool.not_true, Bool.not_false, List.length_cons, List.length_nil, isL_at ep2, appD_at ep2]
      refine ⟨trivial, by decide, q _ _ up_same (bg.trans .up)⟩
    | cons y ys =>
      rw [map_snoc] at ep2
      simp only [cons_ne_nil', ↓e_v, ↓e_c, ↓e_bin, ↓e_neg, ↓e_cmp, ↓e_chn, ↓e_and, ↓e_or, ↓e_not, ↓e_ite, ↓e_tup, ↓e_lst, ↓e_ix, ↓e_sl, ↓e_rev, ↓e_call, ↓e_bi, ↓e_isi, ↓e_app, ↓e_ext, ↓e_pop, ↓e_comp, ↓es_nil, ↓es_cons, ↓if_nil, ↓if_cons, ↓o_no, ↓o_so, ↓s_ex', ↓s_ret', ↓s_retN', ↓s_asg', ↓s_sub', ↓s_aug', ↓s_iff', ↓s_whl', ↓s_for', ↓s_pass', ↓s_brk', ↓s_cont', ↓s_raise', ↓ss_nil', ↓ss_cons', ↓i_valE, ↓i_rng1E, ↓i_rng2E, ↓i_zipE, ↓i_enuE, ↓getK_s, ↓truK_t, ↓truK_f, ↓bK_s, ↓asgK_s, ↓atK_s, ↓seqK_s, ↓intsK_s, ↓blsK_s, ↓iteK_t, ↓iteK_f, ↓binD, ↓augD, ↓cmp_eq, ↓cmp_ne, ↓cmp_lt, ↓cmp_le, ↓cmp_gt, ↓cmp_ge, ↓cmp_is, ↓cmp_isn, ↓cmp_isN, ↓cmp_isnN, isNon, ↓ixD_int, ↓ixD_rod, atI0, atI1, atI2, atI3, ↓sl_tup, ↓sl_rol, ↓bi_len_tup, ↓bi_len_rol, ↓bi_len_ref, ↓bi_abs, ↓bi_int, ↓bi_intb, ↓bi_gcd, ↓bi_tup_tup, ↓bi_tup_rol, ↓bi_tup_ref, ↓bi_lst_tup, ↓bi_lst_rol, ↓bi_lst_ref, ↓bi_sum, ↓bi_sum_tup, ↓bi_sum_rol, ↓bi_all, ↓bi_any, ↓bi_max2, ↓bi_min2, tg_nm, tg_tp, tgsD, seqOf_tup, seqOf_rol, seqOf_up, seqL_rol, seqL_up', tru_non, tru_bl, tru_int, tru_tup, tru_rol, tru_up, ↓eq_int, isi_c, isi_int, isi_bl, isi_tup, isi_non, isi_str, isi_rol, tyN_up, tyN, List.getElem?_cons_zero, List.getElem?_cons_succ, List.set_cons_zero, List.set_cons_succ, permA, List.map_cons, List.map_nil, List.getD_cons_zero, List.getD_cons_succ, List.cons_append, List.nil_append, List.append_nil, List.replicate_succ, List.replicate_zero, RtP, ite_true, ite_false, if_true, if_false, Bool.false_eq_true, decide_true, decide_false, Bool.not_true, Bool.not_false, List.length_cons, List.length_nil, e_negc, ↓ixD_last ep2]
      refine eq_bl.mpr ?_
      by_cases c1 : decide (y = 1) = decide (x = 1)
      · have c1' : decide (decide (y = 1) = decide (x = 1)) = true := decide_eq_true c1
        have es : stp (y :: ys) x = if x = 1 then ys else if (y - 1 + x - 1) % 3 ≠ 0 then ((y - 1 + x - 1) % 3 + 1) :: ys else ys := by
          unfold stp
          dsimp only
          rw [if_neg (by simpa using c1)]
        by_cases c2 : x = 1
        · rw [if_pos c2] at es
          simp only [c1', ↓e_v, ↓e_c, ↓e_bin, ↓e_neg, ↓e_cmp, ↓e_chn, ↓e_and, ↓e_or, ↓e_not, ↓e_ite, ↓e_tup, ↓e_lst, ↓e_ix, ↓e_sl, ↓e_rev, ↓e_call, ↓e_bi, ↓e_isi, ↓e_app, ↓e_ext, ↓e_pop, ↓e_comp, ↓es_nil, ↓es_cons, ↓if_nil, ↓if_cons, ↓o_no, ↓o_so, ↓s_ex', ↓s_ret', ↓s_retN', ↓s_asg', ↓s_sub', ↓s_aug', ↓s_iff', ↓s_whl', ↓s_for', ↓s_pass', ↓s_brk', ↓s_cont', ↓s_raise', ↓ss_nil', ↓ss_cons', ↓i_valE, ↓i_rng1E, ↓i_rng2E, ↓i_zipE, ↓i_enuE, ↓getK_s, ↓truK_t, ↓truK_f, ↓bK_s, ↓asgK_s, ↓atK_s, ↓seqK_s, ↓intsK_s, ↓blsK_s, ↓iteK_t, ↓iteK_f, ↓binD, ↓augD, ↓cmp_eq, ↓cmp_ne, ↓cmp_lt, ↓cmp_le, ↓cmp_gt, ↓cmp_ge, ↓cmp_is, ↓cmp_isn, ↓cmp_isN, ↓cmp_isnN, isNon, ↓ixD_int, ↓ixD_rod, atI0, atI1, atI2, atI3, ↓sl_tup, ↓sl_rol, ↓bi_len_tup, ↓bi_len_rol, ↓bi_len_ref, ↓bi_abs, ↓bi_int, ↓bi_intb, ↓bi_gcd, ↓bi_tup_tup, ↓bi_tup_rol, ↓bi_tup_ref, ↓bi_lst_tup, ↓bi_lst_rol, ↓bi_lst_ref, ↓bi_sum, ↓bi_sum_tup, ↓bi_sum_rol, ↓bi_all, ↓bi_any, ↓bi_max2, ↓bi_min2, tg_nm, tg_tp, tgsD, seqOf_tup, seqOf_rol, seqOf_up, seqL_rol, seqL_up', tru_non, tru_bl, tru_int, tru_tup, tru_rol, tru_up, ↓eq_int, isi_c, isi_int, isi_bl, isi_tup, isi_non, isi_str, isi_rol, tyN_up, tyN, List.getElem?_cons_zero, List.getElem?_cons_succ, List.set_cons_zero, List.set_cons_succ, permA, List.map_cons, List.map_nil, List.getD_cons_zero, List.getD_cons_succ, List.cons_append, List.nil_append, List.append_nil, List.replicate_succ, List.replicate_zero, RtP, ite_true, ite_false, if_true, if_false, Bool.false_eq_true, decide_true, decide_false, Bool.not_true, Bool.not_false, List.length_cons, List.length_nil]
          simp only [c2, decide_true, ↓e_v, ↓e_c, ↓e_bin, ↓e_neg, ↓e_cmp, ↓e_chn, ↓e_and, ↓e_or, ↓e_not, ↓e_ite, ↓e_tup, ↓e_lst, ↓e_ix, ↓e_sl, ↓e_rev, ↓e_call, ↓e_bi, ↓e_isi, ↓e_app, ↓e_ext, ↓e_pop, ↓e_comp, ↓es_nil, ↓es_cons, ↓if_nil, ↓if_cons, ↓o_no, ↓o_so, ↓s_ex', ↓s_ret', ↓s_retN', ↓s_asg', ↓s_sub', ↓s_aug', ↓s_iff', ↓s_whl', ↓s_for', ↓s_pass', ↓s_brk', ↓s_cont', ↓s_raise', ↓ss_nil', ↓ss_cons', ↓i_valE, ↓i_rng1E, ↓i_rng2E, ↓i_zipE, ↓i_enuE, ↓getK_s, ↓truK_t, ↓truK_f, ↓bK_s, ↓asgK_s, ↓atK_s, ↓seqK_s, ↓intsK_s, ↓blsK_s, ↓iteK_t, ↓iteK_f, ↓binD, ↓augD, ↓cmp_eq, ↓cmp_ne, ↓cmp_lt, ↓cmp_le, ↓cmp_gt, ↓cmp_ge, ↓cmp_is, ↓cmp_isn, ↓cmp_isN, ↓cmp_isnN, isNon, ↓ixD_int, ↓ixD_rod, atI0, atI1, atI2, atI3, ↓sl_tup, ↓sl_rol, ↓bi_len_tup, ↓bi_len_rol, ↓bi_len_ref, ↓bi_abs, ↓bi_int, ↓bi_intb, ↓bi_gcd, ↓bi_tup_tup, ↓bi_tup_rol, ↓bi_tup_ref, ↓bi_lst_tup, ↓bi_lst_rol, ↓bi_lst_ref, ↓bi_sum, ↓bi_sum_tup, ↓bi_sum_rol, ↓bi_all, ↓bi_any, ↓bi_max2, ↓bi_min2, tg_nm, tg_tp, tgsD, seqOf_tup, seqOf_rol, seqOf_up, seqL_rol, seqL_up', tru_non, tru_bl, tru_int, tru_tup, tru_rol, tru_up, ↓eq_int, isi_c, isi_int, isi_bl, isi_tup, isi_non, isi_str, isi_rol, tyN_up, tyN, List.getElem?_cons_zero, List.getElem?_cons_succ, List.set_cons_zero, List.set_cons_succ, permA, List.map_cons, List.map_nil, List.getD_cons_zero, List.getD_cons_succ, List.cons_append, List.nil_append, List.append_nil, List.replicate_succ, List.replicate_zero, RtP, ite_true, ite_false, if_true, if_false, Bool.false_eq_true, decide_true, decide_false, Bool.not_true, Bool.not_false, List.length_cons, List.length_nil, ↓popD_at ep2]
          subst c2
          refine q _ _ (by rw [up_same, es]) (bg.trans .up)
        · rw [if_neg c2] at es
          have b3 : (y - 1 + x - 1) % 3 = (y - 1 + x - 1) % 3 := rfl
          simp only [c1', ↓e_v, ↓e_c, ↓e_bin, ↓e_neg, ↓e_cmp, ↓e_chn, ↓e_and, ↓e_or, ↓e_not, ↓e_ite, ↓e_tup, ↓e_lst, ↓e_ix, ↓e_sl, ↓e_rev, ↓e_call, ↓e_bi, ↓e_isi, ↓e_app, ↓e_ext, ↓e_pop, ↓e_comp, ↓es_nil, ↓es_cons, ↓if_nil, ↓if_cons, ↓o_no, ↓o_so, ↓s_ex', ↓s_ret', ↓s_retN', ↓s_asg', ↓s_sub', ↓s_aug', ↓s_iff', ↓s_whl', ↓s_for', ↓s_pass', ↓s_brk', ↓s_cont', ↓s_raise', ↓ss_nil', ↓ss_cons', ↓i_valE, ↓i_rng1E, ↓i_rng2E, ↓i_zipE, ↓i_enuE, ↓getK_s, ↓truK_t, ↓truK_f, ↓bK_s, ↓asgK_s, ↓atK_s, ↓seqK_s, ↓intsK_s, ↓blsK_s, ↓iteK_t, ↓iteK_f, ↓binD, ↓augD, ↓cmp_eq, ↓cmp_ne, ↓cmp_lt, ↓cmp_le, ↓cmp_gt, ↓cmp_ge, ↓cmp_is, ↓cmp_isn, ↓cmp_isN, ↓cmp_isnN, isNon, ↓ixD_int, ↓ixD_rod, atI0, atI1, atI2, atI3, ↓sl_tup, ↓sl_rol, ↓bi_len_tup, ↓bi_len_rol, ↓bi_len_ref, ↓bi_abs, ↓bi_int, ↓bi_intb, ↓bi_gcd, ↓bi_tup_tup, ↓bi_tup_rol, ↓bi_tup_ref, ↓bi_lst_tup, ↓bi_lst_rol, ↓bi_lst_ref, ↓bi_sum, ↓bi_sum_tup, ↓bi_sum_rol, ↓bi_all, ↓bi_any, ↓bi_max2, ↓bi_min2, tg_nm, tg_tp, tgsD, seqOf_tup, seqOf_rol, seqOf_up, seqL_rol, seqL_up', tru_non, tru_bl, tru_int, tru_tup, tru_rol, tru_up, ↓eq_int, isi_c, isi_int, isi_bl, isi_tup, isi_non, isi_str, isi_rol, tyN_up, tyN, List.getElem?_cons_zero, List.getElem?_cons_succ, List.set_cons_zero, List.set_cons_succ, permA, List.map_cons, List.map_nil, List.getD_cons_zero, List.getD_cons_succ, List.cons_append, List.nil_append, List.append_nil, List.replicate_succ, List.replicate_zero, RtP, ite_true, ite_false, if_true, if_false, Bool.false_eq_true, decide_true, decide_false, Bool.not_true, Bool.not_false, List.length_cons, List.length_nil]
          simp only [decide_eq_false c2, ↓e_v, ↓e_c, ↓e_bin, ↓e_neg, ↓e_cmp, ↓e_chn, ↓e_and, ↓e_or, ↓e_not, ↓e_ite, ↓e_tup, ↓e_lst, ↓e_ix, ↓e_sl, ↓e_rev, ↓e_call, ↓e_bi, ↓e_isi, ↓e_app, ↓e_ext, ↓e_pop, ↓e_comp, ↓es_nil, ↓es_cons, ↓if_nil, ↓if_cons, ↓o_no, ↓o_so, ↓s_ex', ↓s_ret', ↓s_retN', ↓s_asg', ↓s_sub', ↓s_aug', ↓s_iff', ↓s_whl', ↓s_for', ↓s_pass', ↓s_brk', ↓s_cont', ↓s_raise', ↓ss_nil', ↓ss_cons', ↓i_valE, ↓i_rng1E, ↓i_rng2E, ↓i_zipE, ↓i_enuE, ↓getK_s, ↓truK_t, ↓truK_f, ↓bK_s, ↓asgK_s, ↓atK_s, ↓seqK_s, ↓intsK_s, ↓blsK_s, ↓iteK_t, ↓iteK_f, ↓binD, ↓augD, ↓cmp_eq, ↓cmp_ne, ↓cmp_lt, ↓cmp_le, ↓cmp_gt, ↓cmp_ge, ↓cmp_is, ↓cmp_isn, ↓cmp_isN, ↓cmp_isnN, isNon, ↓ixD_int, ↓ixD_rod, atI0, atI1, atI2, atI3, ↓sl_tup, ↓sl_rol, ↓bi_len_tup, ↓bi_len_rol, ↓bi_len_ref, ↓bi_abs, ↓bi_int, ↓bi_intb, ↓bi_gcd, ↓bi_tup_tup, ↓bi_tup_rol, ↓bi_tup_ref, ↓bi_lst_tup, ↓bi_lst_rol, ↓bi_lst_ref, ↓bi_sum, ↓bi_sum_tup, ↓bi_sum_rol, ↓bi_all, ↓bi_any, ↓bi_max2, ↓bi_min2, tg_nm, tg_tp, tgsD, seqOf_tup, seqOf_rol, seqOf_up, seqL_rol, seqL_up', tru_non, tru_bl, tru_int, tru_tup, tru_rol, tru_up, ↓eq_int, isi_c, isi_int, isi_bl, isi_tup, isi_non, isi_str, isi_rol, tyN_up, tyN, List.getElem?_cons_zero, List.getElem?_cons_succ, List.set_cons_zero, List.set_cons_succ, permA, List.map_cons, List.map_nil, List.getD_cons_zero, List.getD_cons_succ, List.cons_append, List.nil_append, List.append_nil, List.replicate_succ, List.replicate_zero, RtP, ite_true, ite_false, if_true, if_false, Bool.false_eq_true, decide_true, decide_false, Bool.not_true, Bool.not_false, List.length_cons, List.length_nil, ↓popD_at ep2, fmod3]
          refine ⟨by decide, ?_⟩
          have b4 : (y + x - 2) = (y - 1 + x - 1) := by omega
          rw [b4]
          have b5 : (0 < (y - 1 + x - 1) % 3) ↔ ¬ (y - 1 + x - 1) % 3 = 0 := by omega
          by_cases c3 : (y - 1 + x - 1) % 3 = 0
          · rw [if_neg (fun z => z c3)] at es
            simp only [decide_eq_false (fun z => b5.mp z c3), ↓e_v, ↓e_c, ↓e_bin, ↓e_neg, ↓e_cmp, ↓e_chn, ↓e_and, ↓e_or, ↓e_not, ↓e_ite, ↓e_tup, ↓e_lst, ↓e_ix, ↓e_sl, ↓e_rev, ↓e_call, ↓e_bi, ↓e_isi, ↓e_app, ↓e_ext, ↓e_pop, ↓e_comp, ↓es_nil, ↓es_cons, ↓if_nil, ↓if_cons, ↓o_no, ↓o_so, ↓s_ex', ↓s_ret', ↓s_retN', ↓s_asg', ↓s_sub', ↓s_aug', ↓s_iff', ↓s_whl', ↓s_for', ↓s_pass', ↓s_brk', ↓s_cont', ↓s_raise', ↓ss_nil', ↓ss_cons', ↓i_valE, ↓i_rng1E, ↓i_rng2E, ↓i_zipE, ↓i_enuE, ↓getK_s, ↓truK_t, ↓truK_f, ↓bK_s, ↓asgK_s, ↓atK_s, ↓seqK_s, ↓intsK_s, ↓blsK_s, ↓iteK_t, ↓iteK_f, ↓binD, ↓augD, ↓cmp_eq, ↓cmp_ne, ↓cmp_lt, ↓cmp_le, ↓cmp_gt, ↓cmp_ge, ↓cmp_is, ↓cmp_isn, ↓cmp_isN, ↓cmp_isnN, isNon, ↓ixD_int, ↓ixD_rod, atI0, atI1, atI2, atI3, ↓sl_tup, ↓sl_rol, ↓bi_len_tup, ↓bi_len_rol, ↓bi_len_ref, ↓bi_abs, ↓bi_int, ↓bi_intb, ↓bi_gcd, ↓bi_tup_tup, ↓bi_tup_rol, ↓bi_tup_ref, ↓bi_lst_tup, ↓bi_lst_rol, ↓bi_lst_ref, ↓bi_sum, ↓bi_sum_tup, ↓bi_sum_rol, ↓bi_all, ↓bi_any, ↓bi_max2, ↓bi_min2, tg_nm, tg_tp, tgsD, seqOf_tup, seqOf_rol, seqOf_up, seqL_rol, seqL_up', tru_non, tru_bl, tru_int, tru_tup, tru_rol, tru_up, ↓eq_int, isi_c, isi_int, isi_bl, isi_tup, isi_non, isi_str, isi_rol, tyN_up, tyN, List.getElem?_cons_zero, List.getElem?_cons_succ, List.set_cons_zero, List.set_cons_succ, permA, List.map_cons, List.map_nil, List.getD_cons_zero, List.getD_cons_succ, List.cons_append, List.nil_append, List.append_nil, List.replicate_succ, List.replicate_zero, RtP, ite_true, ite_false, if_true, if_false, Bool.false_eq_true, decide_true, decide_false, Bool.not_true, Bool.not_false, List.length_cons, List.length_nil]
            exact q _ _ (by rw [up_same, es]) (bg.trans .up)
          · rw [if_pos c3] at es
            simp only [decide_eq_true (b5.mpr c3), ↓e_v, ↓e_c, ↓e_bin, ↓e_neg, ↓e_cmp, ↓e_chn, ↓e_and, ↓e_or, ↓e_not, ↓e_ite, ↓e_tup, ↓e_lst, ↓e_ix, ↓e_sl, ↓e_rev, ↓e_call, ↓e_bi, ↓e_isi, ↓e_app, ↓e_ext, ↓e_pop, ↓e_comp, ↓es_nil, ↓es_cons, ↓if_nil, ↓if_cons, ↓o_no, ↓o_so, ↓s_ex', ↓s_ret', ↓s_retN', ↓s_asg', ↓s_sub', ↓s_aug', ↓s_iff', ↓s_whl', ↓s_for', ↓s_pass', ↓s_brk', ↓s_cont', ↓s_raise', ↓ss_nil', ↓ss_cons', ↓i_valE, ↓i_rng1E, ↓i_rng2E, ↓i_zipE, ↓i_enuE, ↓getK_s, ↓truK_t, ↓truK_f, ↓bK_s, ↓asgK_s, ↓atK_s, ↓seqK_s, ↓intsK_s, ↓blsK_s, ↓iteK_t, ↓iteK_f, ↓binD, ↓augD, ↓cmp_eq, ↓cmp_ne, ↓cmp_lt, ↓cmp_le, ↓cmp_gt, ↓cmp_ge, ↓cmp_is, ↓cmp_isn, ↓cmp_isN, ↓cmp_isnN, isNon, ↓ixD_int, ↓ixD_rod, atI0, atI1, atI2, atI3, ↓sl_tup, ↓sl_rol, ↓bi_len_tup, ↓bi_len_rol, ↓bi_len_ref, ↓bi_abs, ↓bi_int, ↓bi_intb, ↓bi_gcd, ↓bi_tup_tup, ↓bi_tup_rol, ↓bi_tup_ref, ↓bi_lst_tup, ↓bi_lst_rol, ↓bi_lst_ref, ↓bi_sum, ↓bi_sum_tup, ↓bi_sum_rol, ↓bi_all, ↓bi_any, ↓bi_max2, ↓bi_min2, tg_nm, tg_tp, tgsD, seqOf_tup, seqOf_rol, seqOf_up, seqL_rol, seqL_up', tru_non, tru_bl, tru_int, tru_tup, tru_rol, tru_up, ↓eq_int, isi_c, isi_int, isi_bl, isi_tup, isi_non, isi_str, isi_rol, tyN_up, tyN, List.getElem?_cons_zero, List.getElem?_cons_succ, List.set_cons_zero, List.set_cons_succ, permA, List.map_cons, List.map_nil, List.getD_cons_zero, List.getD_cons_succ, List.cons_append, List.nil_append, List.append_nil, List.replicate_succ, List.replicate_zero, RtP, ite_true, ite_false, if_true, if_false, Bool.false_eq_true, decide_true, decide_false, Bool.not_true, Bool.not_false, List.length_cons, List.length_nil, isL_at up_same, appD_at up_same]
            refine ⟨trivial, ?_, q _ _ ?_ (bg.trans (But.up.trans .up))⟩
            · rw [List.length_map, List.length_reverse]
              rw [List.length_cons] at hrs
              exact Nat.lt_of_lt_of_le (show ys.length < 1000000 by omega) (by decide)
            · rw [up_same, es, map_snoc, fmod3]
      · have c1' : decide (decide (y = 1) = decide (x = 1)) = false := decide_eq_false c1
        have es : stp (y :: ys) x = x :: y :: ys := by
          unfold stp
          dsimp only
          rw [if_pos (by simpa using c1)]
        simp only [c1', ↓e_v, ↓e_c, ↓e_bin, ↓e_neg, ↓e_cmp, ↓e_chn, ↓e_and, ↓e_or, ↓e_not, ↓e_ite, ↓e_tup, ↓e_lst, ↓e_ix, ↓e_sl, ↓e_rev, ↓e_call, ↓e_bi, ↓e_isi, ↓e_app, ↓e_ext, ↓e_pop, ↓e_comp, ↓es_nil, ↓es_cons, ↓if_nil, ↓if_cons, ↓o_no, ↓o_so, ↓s_ex', ↓s_ret', ↓s_retN', ↓s_asg', ↓s_sub', ↓s_aug', ↓s_iff', ↓s_whl', ↓s_for', ↓s_pass', ↓s_brk', ↓s_cont', ↓s_raise', ↓ss_nil', ↓ss_cons', ↓i_valE, ↓i_rng1E, ↓i_rng2E, ↓i_zipE, ↓i_enuE, ↓getK_s, ↓truK_t, ↓truK_f, ↓bK_s, ↓asgK_s, ↓atK_s, ↓seqK_s, ↓intsK_s, ↓blsK_s, ↓iteK_t, ↓iteK_f, ↓binD, ↓augD, ↓cmp_eq, ↓cmp_ne, ↓cmp_lt, ↓cmp_le, ↓cmp_gt, ↓cmp_ge, ↓cmp_is, ↓cmp_isn, ↓cmp_isN, ↓cmp_isnN, isNon, ↓ixD_int, ↓ixD_rod, atI0, atI1, atI2, atI3, ↓sl_tup, ↓sl_rol, ↓bi_len_tup, ↓bi_len_rol, ↓bi_len_ref, ↓bi_abs, ↓bi_int, ↓bi_intb, ↓bi_gcd, ↓bi_tup_tup, ↓bi_tup_rol, ↓bi_tup_ref, ↓bi_lst_tup, ↓bi_lst_rol, ↓bi_lst_ref, ↓bi_sum, ↓bi_sum_tup, ↓bi_sum_rol, ↓bi_all, ↓bi_any, ↓bi_max2, ↓bi_min2, tg_nm, tg_tp, tgsD, seqOf_tup, seqOf_rol, seqOf_up, seqL_rol, seqL_up', tru_non, tru_bl, tru_int, tru_tup, tru_rol, tru_up, ↓eq_int, isi_c, isi_int, isi_bl, isi_tup, isi_non, isi_str, isi_rol, tyN_up, tyN, List.getElem?_cons_zero, List.getElem?_cons_succ, List.set_cons_zero, List.set_cons_succ, permA, List.map_cons, List.map_nil, List.getD_cons_zero, List.getD_cons_succ, List.cons_append, List.nil_append, List.append_nil, List.replicate_succ, List.replicate_zero, RtP, ite_true, ite_false, if_true, if_false, Bool.false_eq_true, decide_true, decide_false, Bool.not_true, Bool.not_false, List.length_cons, List.length_nil, isL_at ep2, appD_at ep2]
        refine ⟨trivial, ?_, q _ _ ?_ (bg.trans .up)⟩
        · rw [List.length_append, List.length_map, List.length_reverse]
          rw [List.length_cons] at hrs
          exact Nat.lt_of_lt_of_le (show ys.length + 1 < 1000000 by omega) (by decide)
        · rw [up_same, es, map_snoc, map_snoc]
  · simp only [↓e_v, ↓e_c, ↓e_bin, ↓e_neg, ↓e_cmp, ↓e_chn, ↓e_and, ↓e_or, ↓e_not, ↓e_ite, ↓e_tup, ↓e_lst, ↓e_ix, ↓e_sl, ↓e_rev, ↓e_call, ↓e_bi, ↓e_isi, ↓e_app, ↓e_ext, ↓e_pop, ↓e_comp, ↓es_nil, ↓es_cons, ↓if_nil, ↓if_cons, ↓o_no, ↓o_so, ↓s_ex', ↓s_ret', ↓s_retN', ↓s_asg', ↓s_sub', ↓s_aug', ↓s_iff', ↓s_whl', ↓s_for', ↓s_pass', ↓s_brk', ↓s_cont', ↓s_raise', ↓ss_nil', ↓ss_cons', ↓i_valE, ↓i_rng1E, ↓i_rng2E, ↓i_zipE, ↓i_enuE, ↓getK_s, ↓truK_t, ↓truK_f, ↓bK_s, ↓asgK_s, ↓atK_s, ↓seqK_s, ↓intsK_s, ↓blsK_s, ↓iteK_t, ↓iteK_f, ↓binD, ↓augD, ↓cmp_eq, ↓cmp_ne, ↓cmp_lt, ↓cmp_le, ↓cmp_gt, ↓cmp_ge, ↓cmp_is, ↓cmp_isn, ↓cmp_isN, ↓cmp_isnN, isNon, ↓ixD_int, ↓ixD_rod, atI0, atI1, atI2, atI3, ↓sl_tup, ↓sl_rol, ↓bi_len_tup, ↓bi_len_rol, ↓bi_len_ref, ↓bi_abs, ↓bi_int, ↓bi_intb, ↓bi_gcd, ↓bi_tup_tup, ↓bi_tup_rol, ↓bi_tup_ref, ↓bi_lst_tup, ↓bi_lst_rol, ↓bi_lst_ref, ↓bi_sum, ↓bi_sum_tup, ↓bi_sum_rol, ↓bi_all, ↓bi_any, ↓bi_max2, ↓bi_min2, tg_nm, tg_tp, tgsD, seqOf_tup, seqOf_rol, seqOf_up, seqL_rol, seqL_up', tru_non, tru_bl, tru_int, tru_tup, tru_rol, tru_up, ↓eq_int, isi_c, isi_int, isi_bl, isi_tup, isi_non, isi_str, isi_rol, tyN_up, tyN, List.getElem?_cons_zero, List.getElem?_cons_succ, List.set_cons_zero, List.set_cons_succ, permA, List.map_cons, List.map_nil, List.getD_cons_zero, List.getD_cons_succ, List.cons_append, List.nil_append, List.append_nil, List.replicate_succ, List.replicate_zero, RtP, ite_true, ite_false, if_true, if_false, Bool.false_eq_true, decide_true, decide_false, Bool.not_true, Bool.not_false, List.length_cons, List.length_nil, seqOf_ref e1]
    exact ⟨but_sub hp e2, trivial⟩
end LD
namespace LD
open PySem PySem.Spec PyProof.Rows L2
theorem plain_ints {n : Nat} {w : List Int} (h : w.length ≤ 1000000) : plain (n + 1) (.tup (w.map D.int)) = true := by
  unfold plain
  rw [Bool.and_eq_true, decide_eq_true_iff, List.length_map, List.all_eq_true]
  refine ⟨Nat.le_trans h (by decide), fun x hx => ?_⟩
  obtain ⟨i, _, rfl⟩ := List.mem_map.mp hx
  cases n <;> rfl
def rowB (w : List Int) : Bool := w.all fun x => decide (1 ≤ x) && decide (x ≤ 3)
theorem rowB_lt {w : List Int} (h : Lt3 w) : rowB w = true := by
  unfold rowB
  rw [List.all_eq_true]
  intro x hx
  rcases h x hx with rfl | rfl | rfl <;> rfl
def sp_row (f : List Int → Bool) : Spec := pur (fun w : List Int => [D.tup (w.map D.int)]) (fun w _ => w.length ≤ 1000000) fun w => .bl (f w)
theorem run_row {f : List Int → Bool} {w : List Int} {μ : Mu} {X : Str → Mu → Prop} {Q : QD} : runK (sp_row f) [.tup (w.map D.int)] μ X Q ↔ w.length ≤ 1000000 ∧ Q (.bl (f w)) μ := pur_run inj_w w
theorem len_ok {w : List Int} (h : w.length ≤ 1000000) : (w.map D.int).length ≤ sizeLine := by
  rw [List.length_map]; exact Nat.le_trans h (by decide)
theorem all_id_map {α : Type} {f : α → Bool} (w : List α) : (w.map f).all id = w.all f := by rw [List.all_map]; rfl
theorem m_is_row {Φ : Nat → Spec} {i : Nat} (hi : Φ i = sp_is_within) : Meets Φ 1 2 (b_is_row_of i) (sp_row rowB) := pur_meets inj_w fun w μ h => by
  simp only [b_is_row_of, ↓e_v, ↓e_c, ↓e_bin, ↓e_neg, ↓e_cmp, ↓e_chn, ↓e_and, ↓e_or, ↓e_not, ↓e_ite, ↓e_tup, ↓e_lst, ↓e_ix, ↓e_sl, ↓e_rev, ↓e_call, ↓e_bi, ↓e_isi, ↓e_app, ↓e_ext, ↓e_pop, ↓e_comp, ↓es_nil, ↓es_cons, ↓if_nil, ↓if_cons, ↓o_no, ↓o_so, ↓s_ex', ↓s_ret', ↓s_retN', ↓s_asg', ↓s_sub', ↓s_aug', ↓s_iff', ↓s_whl', ↓s_for', ↓s_pass', ↓s_brk', ↓s_cont', ↓s_raise', ↓ss_nil', ↓ss_cons', ↓i_valE, ↓i_rng1E, ↓i_rng2E, ↓i_zipE, ↓i_enuE, ↓getK_s, ↓truK_t, ↓truK_f, ↓bK_s, ↓asgK_s, ↓atK_s, ↓seqK_s, ↓intsK_s, ↓blsK_s, ↓iteK_t, ↓iteK_f, ↓binD, ↓augD, ↓cmp_eq, ↓cmp_ne, ↓cmp_lt, ↓cmp_le, ↓cmp_gt, ↓cmp_ge, ↓cmp_is, ↓cmp_isn, ↓cmp_isN, ↓cmp_isnN, isNon, ↓ixD_int, ↓ixD_rod, atI0, atI1, atI2, atI3, ↓sl_tup, ↓sl_rol, ↓bi_len_tup, ↓bi_len_rol, ↓bi_len_ref, ↓bi_abs, ↓bi_int, ↓bi_intb, ↓bi_gcd, ↓bi_tup_tup, ↓bi_tup_rol, ↓bi_tup_ref, ↓bi_lst_tup, ↓bi_lst_rol, ↓bi_lst_ref, ↓bi_sum, ↓bi_sum_tup, ↓bi_sum_rol, ↓bi_all, ↓bi_any, ↓bi_max2, ↓bi_min2, tg_nm, tg_tp, tgsD, seqOf_tup, seqOf_rol, seqOf_up, seqL_rol, seqL_up', tru_non, tru_bl, tru_int, tru_tup, tru_rol, tru_up, ↓eq_int, isi_c, isi_int, isi_bl, isi_tup, isi_non, isi_str, isi_rol, tyN_up, tyN, List.getElem?_cons_zero, List.getElem?_cons_succ, List.set_cons_zero, List.set_cons_succ, permA, List.map_cons, List.map_nil, List.getD_cons_zero, List.getD_cons_succ, List.cons_append, List.nil_append, List.append_nil, List.replicate_succ, List.replicate_zero, RtP, ite_true, ite_false, if_true, if_false, Bool.false_eq_true, decide_true, decide_false, Bool.not_true, Bool.not_false, List.length_cons, List.length_nil]
  refine compL_map (f := fun x => match x with
      | .int x => .bl (decide (1 ≤ x) && decide (x ≤ 3))
      | x => x) trivial _ (len_ok h) (fun x hm R r => ⟨_, rfl, ?_⟩) ?_
  · obtain ⟨x, _, rfl⟩ := List.mem_map.mp hm
    simp only [↓e_v, ↓e_c, ↓e_bin, ↓e_neg, ↓e_cmp, ↓e_chn, ↓e_and, ↓e_or, ↓e_not, ↓e_ite, ↓e_tup, ↓e_lst, ↓e_ix, ↓e_sl, ↓e_rev, ↓e_call, ↓e_bi, ↓e_isi, ↓e_app, ↓e_ext, ↓e_pop, ↓e_comp, ↓es_nil, ↓es_cons, ↓if_nil, ↓if_cons, ↓o_no, ↓o_so, ↓s_ex', ↓s_ret', ↓s_retN', ↓s_asg', ↓s_sub', ↓s_aug', ↓s_iff', ↓s_whl', ↓s_for', ↓s_pass', ↓s_brk', ↓s_cont', ↓s_raise', ↓ss_nil', ↓ss_cons', ↓i_valE, ↓i_rng1E, ↓i_rng2E, ↓i_zipE, ↓i_enuE, ↓getK_s, ↓truK_t, ↓truK_f, ↓bK_s, ↓asgK_s, ↓atK_s, ↓seqK_s, ↓intsK_s, ↓blsK_s, ↓iteK_t, ↓iteK_f, ↓binD, ↓augD, ↓cmp_eq, ↓cmp_ne, ↓cmp_lt, ↓cmp_le, ↓cmp_gt, ↓cmp_ge, ↓cmp_is, ↓cmp_isn, ↓cmp_isN, ↓cmp_isnN, isNon, ↓ixD_int, ↓ixD_rod, atI0, atI1, atI2, atI3, ↓sl_tup, ↓sl_rol, ↓bi_len_tup, ↓bi_len_rol, ↓bi_len_ref, ↓bi_abs, ↓bi_int, ↓bi_intb, ↓bi_gcd, ↓bi_tup_tup, ↓bi_tup_rol, ↓bi_tup_ref, ↓bi_lst_tup, ↓bi_lst_rol, ↓bi_lst_ref, ↓bi_sum, ↓bi_sum_tup, ↓bi_sum_rol, ↓bi_all, ↓bi_any, ↓bi_max2, ↓bi_min2, tg_nm, tg_tp, tgsD, seqOf_tup, seqOf_rol, seqOf_up, seqL_rol, seqL_up', tru_non, tru_bl, tru_int, tru_tup, tru_rol, tru_up, ↓eq_int, isi_c, isi_int, isi_bl, isi_tup, isi_non, isi_str, isi_rol, tyN_up, tyN, List.getElem?_cons_zero, List.getElem?_cons_succ, List.set_cons_zero, List.set_cons_succ, permA, List.map_cons, List.map_nil, List.getD_cons_zero, List.getD_cons_succ, List.cons_append, List.nil_append, List.append_nil, List.replicate_succ, List.replicate_zero, RtP, ite_true, ite_false, if_true, if_false, Bool.false_eq_true, decide_true, decide_false, Bool.not_true, Bool.not_false, List.length_cons, List.length_nil, wipeR, hi, run_is_within]
    exact ⟨trivial, r⟩
  · intro p hp
    have e : (w.map D.int).map (fun x => match x with
      | .int x => D.bl (decide (1 ≤ x) && decide (x ≤ 3))
      | x => x) = (w.map fun x => decide (1 ≤ x) && decide (x ≤ 3)).map D.bl := by rw [List.map_map, List.map_map]; rfl
    rw [e]
    simp only [↓e_v, ↓e_c, ↓e_bin, ↓e_neg, ↓e_cmp, ↓e_chn, ↓e_and, ↓e_or, ↓e_not, ↓e_ite, ↓e_tup, ↓e_lst, ↓e_ix, ↓e_sl, ↓e_rev, ↓e_call, ↓e_bi, ↓e_isi, ↓e_app, ↓e_ext, ↓e_pop, ↓e_comp, ↓es_nil, ↓es_cons, ↓if_nil, ↓if_cons, ↓o_no, ↓o_so, ↓s_ex', ↓s_ret', ↓s_retN', ↓s_asg', ↓s_sub', ↓s_aug', ↓s_iff', ↓s_whl', ↓s_for', ↓s_pass', ↓s_brk', ↓s_cont', ↓s_raise', ↓ss_nil', ↓ss_cons', ↓i_valE, ↓i_rng1E, ↓i_rng2E, ↓i_zipE, ↓i_enuE, ↓getK_s, ↓truK_t, ↓truK_f, ↓bK_s, ↓asgK_s, ↓atK_s, ↓seqK_s, ↓intsK_s, ↓blsK_s, ↓iteK_t, ↓iteK_f, ↓binD, ↓augD, ↓cmp_eq, ↓cmp_ne, ↓cmp_lt, ↓cmp_le, ↓cmp_gt, ↓cmp_ge, ↓cmp_is, ↓cmp_isn, ↓cmp_isN, ↓cmp_isnN, isNon, ↓ixD_int, ↓ixD_rod, atI0, atI1, atI2, atI3, ↓sl_tup, ↓sl_rol, ↓bi_len_tup, ↓bi_len_rol, ↓bi_len_ref, ↓bi_abs, ↓bi_int, ↓bi_intb, ↓bi_gcd, ↓bi_tup_tup, ↓bi_tup_rol, ↓bi_tup_ref, ↓bi_lst_tup, ↓bi_lst_rol, ↓bi_lst_ref, ↓bi_sum, ↓bi_sum_tup, ↓bi_sum_rol, ↓bi_all, ↓bi_any, ↓bi_max2, ↓bi_min2, tg_nm, tg_tp, tgsD, seqOf_tup, seqOf_rol, seqOf_up, seqL_rol, seqL_up', tru_non, tru_bl, tru_int, tru_tup, tru_rol, tru_up, ↓eq_int, isi_c, isi_int, isi_bl, isi_tup, isi_non, isi_str, isi_rol, tyN_up, tyN, List.getElem?_cons_zero, List.getElem?_cons_succ, List.set_cons_zero, List.set_cons_succ, permA, List.map_cons, List.map_nil, List.getD_cons_zero, List.getD_cons_succ, List.cons_append, List.nil_append, List.append_nil, List.replicate_succ, List.replicate_zero, RtP, ite_true, ite_false, if_true, if_false, Bool.false_eq_true, decide_true, decide_false, Bool.not_true, Bool.not_false, List.length_cons, List.length_nil, up_same, blsOf_map]
    refine ⟨.up hp, ?_⟩
    rw [all_id_map]
    rfl
theorem zip_tail : ∀ w : List Int, zipL (w.map D.int) ((w.map D.int).drop 1) = (w.zip (w.drop 1)).map fun p => .tup [.int p.1, .int p.2]
  | [] => rfl
  | [x] => rfl
  | x :: y :: w => by
    have ih := zip_tail (y :: w)
    simp only [List.map_cons, List.drop_succ_cons, List.drop_zero] at ih ⊢
    rw [zipL, ih]
    rfl
theorem alt_zip : ∀ w : List Int, alt w = (w.zip (w.drop 1)).all fun p => !decide (decide (p.1 = 1) = decide (p.2 = 1))
  | [] => rfl
  | [x] => rfl
  | x :: y :: w => by
    have ih := alt_zip (y :: w)
    simp only [List.drop_succ_cons, List.drop_zero] at ih ⊢
    rw [alt, ih, List.zip_cons_cons, List.all_cons]
    congr 1
def wordB (w : List Int) : Bool := rowB w && alt w
theorem cutD_one (xs : List D) : cutD xs (some 1) none = xs.drop 1 := by
  unfold cutD
  rw [HT.sIx_none, show (1 : Int) = ((1 : Nat) : Int) from rfl, HT.sIx_nat]
  rcases Nat.lt_or_ge 0 xs.length with h | h
  · rw [Nat.min_eq_left (by omega)]
    exact List.take_of_length_le (by rw [List.length_drop]; omega)
  · have : xs = [] := List.eq_nil_of_length_eq_zero (by omega)
    subst this
    rfl
theorem m_is_word_of {Φ : Nat → Spec} {i : Nat} (hi : Φ i = sp_row rowB) : Meets Φ 1 3 (b_is_word_of i) (sp_row wordB) := pur_meets inj_w fun w μ h => by
  simp only [b_is_word_of, ↓e_v, ↓e_c, ↓e_bin, ↓e_neg, ↓e_cmp, ↓e_chn, ↓e_and, ↓e_or, ↓e_not, ↓e_ite, ↓e_tup, ↓e_lst, ↓e_ix, ↓e_sl, ↓e_rev, ↓e_call, ↓e_bi, ↓e_isi, ↓e_app, ↓e_ext, ↓e_pop, ↓e_comp, ↓es_nil, ↓es_cons, ↓if_nil, ↓if_cons, ↓o_no, ↓o_so, ↓s_ex', ↓s_ret', ↓s_retN', ↓s_asg', ↓s_sub', ↓s_aug', ↓s_iff', ↓s_whl', ↓s_for', ↓s_pass', ↓s_brk', ↓s_cont', ↓s_raise', ↓ss_nil', ↓ss_cons', ↓i_valE, ↓i_rng1E, ↓i_rng2E, ↓i_zipE, ↓i_enuE, ↓getK_s, ↓truK_t, ↓truK_f, ↓bK_s, ↓asgK_s, ↓atK_s, ↓seqK_s, ↓intsK_s, ↓blsK_s, ↓iteK_t, ↓iteK_f, ↓binD, ↓augD, ↓cmp_eq, ↓cmp_ne, ↓cmp_lt, ↓cmp_le, ↓cmp_gt, ↓cmp_ge, ↓cmp_is, ↓cmp_isn, ↓cmp_isN, ↓cmp_isnN, isNon, ↓ixD_int, ↓ixD_rod, atI0, atI1, atI2, atI3, ↓sl_tup, ↓sl_rol, ↓bi_len_tup, ↓bi_len_rol, ↓bi_len_ref, ↓bi_abs, ↓bi_int, ↓bi_intb, ↓bi_gcd, ↓bi_tup_tup, ↓bi_tup_rol, ↓bi_tup_ref, ↓bi_lst_tup, ↓bi_lst_rol, ↓bi_lst_ref, ↓bi_sum, ↓bi_sum_tup, ↓bi_sum_rol, ↓bi_all, ↓bi_any, ↓bi_max2, ↓bi_min2, tg_nm, tg_tp, tgsD, seqOf_tup, seqOf_rol, seqOf_up, seqL_rol, seqL_up', tru_non, tru_bl, tru_int, tru_tup, tru_rol, tru_up, ↓eq_int, isi_c, isi_int, isi_bl, isi_tup, isi_non, isi_str, isi_rol, tyN_up, tyN, List.getElem?_cons_zero, List.getElem?_cons_succ, List.set_cons_zero, List.set_cons_succ, permA, List.map_cons, List.map_nil, List.getD_cons_zero, List.getD_cons_succ, List.cons_append, List.nil_append, List.append_nil, List.replicate_succ, List.replicate_zero, RtP, ite_true, ite_false, if_true, if_false, Bool.false_eq_true, decide_true, decide_false, Bool.not_true, Bool.not_false, List.length_cons, List.length_nil, hi, run_row]
  refine ⟨h, ?_⟩
  unfold wordB
  cases e : rowB w with
  | false =>
    simp only [↓e_v, ↓e_c, ↓e_bin, ↓e_neg, ↓e_cmp, ↓e_chn, ↓e_and, ↓e_or, ↓e_not, ↓e_ite, ↓e_tup, ↓e_lst, ↓e_ix, ↓e_sl, ↓e_rev, ↓e_call, ↓e_bi, ↓e_isi, ↓e_app, ↓e_ext, ↓e_pop, ↓e_comp, ↓es_nil, ↓es_cons, ↓if_nil, ↓if_cons, ↓o_no, ↓o_so, ↓s_ex', ↓s_ret', ↓s_retN', ↓s_asg', ↓s_sub', ↓s_aug', ↓s_iff', ↓s_whl', ↓s_for', ↓s_pass', ↓s_brk', ↓s_cont', ↓s_raise', ↓ss_nil', ↓ss_cons', ↓i_valE, ↓i_rng1E, ↓i_rng2E, ↓i_zipE, ↓i_enuE, ↓getK_s, ↓truK_t, ↓truK_f, ↓bK_s, ↓asgK_s, ↓atK_s, ↓seqK_s, ↓intsK_s, ↓blsK_s, ↓iteK_t, ↓iteK_f, ↓binD, ↓augD, ↓cmp_eq, ↓cmp_ne, ↓cmp_lt, ↓cmp_le, ↓cmp_gt, ↓cmp_ge, ↓cmp_is, ↓cmp_isn, ↓cmp_isN, ↓cmp_isnN, isNon, ↓ixD_int, ↓ixD_rod, atI0, atI1, atI2, atI3, ↓sl_tup, ↓sl_rol, ↓bi_len_tup, ↓bi_len_rol, ↓bi_len_ref, ↓bi_abs, ↓bi_int, ↓bi_intb, ↓bi_gcd, ↓bi_tup_tup, ↓bi_tup_rol, ↓bi_tup_ref, ↓bi_lst_tup, ↓bi_lst_rol, ↓bi_lst_ref, ↓bi_sum, ↓bi_sum_tup, ↓bi_sum_rol, ↓bi_all, ↓bi_any, ↓bi_max2, ↓bi_min2, tg_nm, tg_tp, tgsD, seqOf_tup, seqOf_rol, seqOf_up, seqL_rol, seqL_up', tru_non, tru_bl, tru_int, tru_tup, tru_rol, tru_up, ↓eq_int, isi_c, isi_int, isi_bl, isi_tup, isi_non, isi_str, isi_rol, tyN_up, tyN, List.getElem?_cons_zero, List.getElem?_cons_succ, List.set_cons_zero, List.set_cons_succ, permA, List.map_cons, List.map_nil, List.getD_cons_zero, List.getD_cons_succ, List.cons_append, List.nil_append, List.append_nil, List.replicate_succ, List.replicate_zero, RtP, ite_true, ite_false, if_true, if_false, Bool.false_eq_true, decide_true, decide_false, Bool.not_true, Bool.not_false, List.length_cons, List.length_nil, Bool.false_and]
    exact ⟨.refl, trivial⟩
  | true =>
    simp only [↓e_v, ↓e_c, ↓e_bin, ↓e_neg, ↓e_cmp, ↓e_chn, ↓e_and, ↓e_or, ↓e_not, ↓e_ite, ↓e_tup, ↓e_lst, ↓e_ix, ↓e_sl, ↓e_rev, ↓e_call, ↓e_bi, ↓e_isi, ↓e_app, ↓e_ext, ↓e_pop, ↓e_comp, ↓es_nil, ↓es_cons, ↓if_nil, ↓if_cons, ↓o_no, ↓o_so, ↓s_ex', ↓s_ret', ↓s_retN', ↓s_asg', ↓s_sub', ↓s_aug', ↓s_iff', ↓s_whl', ↓s_for', ↓s_pass', ↓s_brk', ↓s_cont', ↓s_raise', ↓ss_nil', ↓ss_cons', ↓i_valE, ↓i_rng1E, ↓i_rng2E, ↓i_zipE, ↓i_enuE, ↓getK_s, ↓truK_t, ↓truK_f, ↓bK_s, ↓asgK_s, ↓atK_s, ↓seqK_s, ↓intsK_s, ↓blsK_s, ↓iteK_t, ↓iteK_f, ↓binD, ↓augD, ↓cmp_eq, ↓cmp_ne, ↓cmp_lt, ↓cmp_le, ↓cmp_gt, ↓cmp_ge, ↓cmp_is, ↓cmp_isn, ↓cmp_isN, ↓cmp_isnN, isNon, ↓ixD_int, ↓ixD_rod, atI0, atI1, atI2, atI3, ↓sl_tup, ↓sl_rol, ↓bi_len_tup, ↓bi_len_rol, ↓bi_len_ref, ↓bi_abs, ↓bi_int, ↓bi_intb, ↓bi_gcd, ↓bi_tup_tup, ↓bi_tup_rol, ↓bi_tup_ref, ↓bi_lst_tup, ↓bi_lst_rol, ↓bi_lst_ref, ↓bi_sum, ↓bi_sum_tup, ↓bi_sum_rol, ↓bi_all, ↓bi_any, ↓bi_max2, ↓bi_min2, tg_nm, tg_tp, tgsD, seqOf_tup, seqOf_rol, seqOf_up, seqL_rol, seqL_up', tru_non, tru_bl, tru_int, tru_tup, tru_rol, tru_up, ↓eq_int, isi_c, isi_int, isi_bl, isi_tup, isi_non, isi_str, isi_rol, tyN_up, tyN, List.getElem?_cons_zero, List.getElem?_cons_succ, List.set_cons_zero, List.set_cons_succ, permA, List.map_cons, List.map_nil, List.getD_cons_zero, List.getD_cons_succ, List.cons_append, List.nil_append, List.append_nil, List.replicate_succ, List.replicate_zero, RtP, ite_true, ite_false, if_true, if_false, Bool.false_eq_true, decide_true, decide_false, Bool.not_true, Bool.not_false, List.length_cons, List.length_nil, Bool.true_and, cutD_one, isTup, liveOf, and_self, zip_tail]
    refine ⟨trivial, ?_⟩
    refine compL_map (f := fun x => match x with
      | .tup [.int x, .int y] => .bl (!decide (decide (x = 1) = decide (y = 1)))
      | x => x) trivial _ ?_ (fun x hm R r => ?_) ?_
    · rw [List.length_map, List.length_zip]
      exact Nat.le_trans (Nat.min_le_left _ _) (Nat.le_trans h (by decide))
    · obtain ⟨⟨x, y⟩, _, rfl⟩ := List.mem_map.mp hm
      refine ⟨_, rfl, ?_⟩
      simp only [↓e_v, ↓e_c, ↓e_bin, ↓e_neg, ↓e_cmp, ↓e_chn, ↓e_and, ↓e_or, ↓e_not, ↓e_ite, ↓e_tup, ↓e_lst, ↓e_ix, ↓e_sl, ↓e_rev, ↓e_call, ↓e_bi, ↓e_isi, ↓e_app, ↓e_ext, ↓e_pop, ↓e_comp, ↓es_nil, ↓es_cons, ↓if_nil, ↓if_cons, ↓o_no, ↓o_so, ↓s_ex', ↓s_ret', ↓s_retN', ↓s_asg', ↓s_sub', ↓s_aug', ↓s_iff', ↓s_whl', ↓s_for', ↓s_pass', ↓s_brk', ↓s_cont', ↓s_raise', ↓ss_nil', ↓ss_cons', ↓i_valE, ↓i_rng1E, ↓i_rng2E, ↓i_zipE, ↓i_enuE, ↓getK_s, ↓truK_t, ↓truK_f, ↓bK_s, ↓asgK_s, ↓atK_s, ↓seqK_s, ↓intsK_s, ↓blsK_s, ↓iteK_t, ↓iteK_f, ↓binD, ↓augD, ↓cmp_eq, ↓cmp_ne, ↓cmp_lt, ↓cmp_le, ↓cmp_gt, ↓cmp_ge, ↓cmp_is, ↓cmp_isn, ↓cmp_isN, ↓cmp_isnN, isNon, ↓ixD_int, ↓ixD_rod, atI0, atI1, atI2, atI3, ↓sl_tup, ↓sl_rol, ↓bi_len_tup, ↓bi_len_rol, ↓bi_len_ref, ↓bi_abs, ↓bi_int, ↓bi_intb, ↓bi_gcd, ↓bi_tup_tup, ↓bi_tup_rol, ↓bi_tup_ref, ↓bi_lst_tup, ↓bi_lst_rol, ↓bi_lst_ref, ↓bi_sum, ↓bi_sum_tup, ↓bi_sum_rol, ↓bi_all, ↓bi_any, ↓bi_max2, ↓bi_min2, tg_nm, tg_tp, tgsD, seqOf_tup, seqOf_rol, seqOf_up, seqL_rol, seqL_up', tru_non, tru_bl, tru_int, tru_tup, tru_rol, tru_up, ↓eq_int, isi_c, isi_int, isi_bl, isi_tup, isi_non, isi_str, isi_rol, tyN_up, tyN, List.getElem?_cons_zero, List.getElem?_cons_succ, List.set_cons_zero, List.set_cons_succ, permA, List.map_cons, List.map_nil, List.getD_cons_zero, List.getD_cons_succ, List.cons_append, List.nil_append, List.append_nil, List.replicate_succ, List.replicate_zero, RtP, ite_true, ite_false, if_true, if_false, Bool.false_eq_true, decide_true, decide_false, Bool.not_true, Bool.not_false, List.length_cons, List.length_nil, wipeR]
      exact eq_bl.mpr r
    · intro p hp
      have e2 : ((w.zip (w.drop 1)).map fun p => D.tup [.int p.1, .int p.2]).map (fun x => match x with
        | .tup [.int x, .int y] => D.bl (!decide (decide (x = 1) = decide (y = 1)))
        | x => x) = ((w.zip (w.drop 1)).map fun p => !decide (decide (p.1 = 1) = decide (p.2 = 1))).map D.bl := by rw [List.map_map, List.map_map]; rfl
      rw [e2]
      simp only [↓e_v, ↓e_c, ↓e_bin, ↓e_neg, ↓e_cmp, ↓e_chn, ↓e_and, ↓e_or, ↓e_not, ↓e_ite, ↓e_tup, ↓e_lst, ↓e_ix, ↓e_sl, ↓e_rev, ↓e_call, ↓e_bi, ↓e_isi, ↓e_app, ↓e_ext, ↓e_pop, ↓e_comp, ↓es_nil, ↓es_cons, ↓if_nil, ↓if_cons, ↓o_no, ↓o_so, ↓s_ex', ↓s_ret', ↓s_retN', ↓s_asg', ↓s_sub', ↓s_aug', ↓s_iff', ↓s_whl', ↓s_for', ↓s_pass', ↓s_brk', ↓s_cont', ↓s_raise', ↓ss_nil', ↓ss_cons', ↓i_valE, ↓i_rng1E, ↓i_rng2E, ↓i_zipE, ↓i_enuE, ↓getK_s, ↓truK_t, ↓truK_f, ↓bK_s, ↓asgK_s, ↓atK_s, ↓seqK_s, ↓intsK_s, ↓blsK_s, ↓iteK_t, ↓iteK_f, ↓binD, ↓augD, ↓cmp_eq, ↓cmp_ne, ↓cmp_lt, ↓cmp_le, ↓cmp_gt, ↓cmp_ge, ↓cmp_is, ↓cmp_isn, ↓cmp_isN, ↓cmp_isnN, isNon, ↓ixD_int, ↓ixD_rod, atI0, atI1, atI2, atI3, ↓sl_tup, ↓sl_rol, ↓bi_len_tup, ↓bi_len_rol, ↓bi_len_ref, ↓bi_abs, ↓bi_int, ↓bi_intb, ↓bi_gcd, ↓bi_tup_tup, ↓bi_tup_rol, ↓bi_tup_ref, ↓bi_lst_tup, ↓bi_lst_rol, ↓bi_lst_ref, ↓bi_sum, ↓bi_sum_tup, ↓bi_sum_rol, ↓bi_all, ↓bi_any, ↓bi_max2, ↓bi_min2, tg_nm, tg_tp, tgsD, seqOf_tup, seqOf_rol, seqOf_up, seqL_rol, seqL_up', tru_non, tru_bl, tru_int, tru_tup, tru_rol, tru_up, ↓eq_int, isi_c, isi_int, isi_bl, isi_tup, isi_non, isi_str, isi_rol, tyN_up, tyN, List.getElem?_cons_zero, List.getElem?_cons_succ, List.set_cons_zero, List.set_cons_succ, permA, List.map_cons, List.map_nil, List.getD_cons_zero, List.getD_cons_succ, List.cons_append, List.nil_append, List.append_nil, List.replicate_succ, List.replicate_zero, RtP, ite_true, ite_false, if_true, if_false, Bool.false_eq_true, decide_true, decide_false, Bool.not_true, Bool.not_false, List.length_cons, List.length_nil, up_same, blsOf_map]
      refine ⟨.up hp, ?_⟩
      rw [all_id_map, ← alt_zip, Bool.true_and]
theorem m_is_word {Φ : Nat → Spec} {i : Nat} (hi : Φ i = sp_row wordB) : Meets Φ 1 1 (b_is_word i) (sp_row wordB) := pur_meets inj_w fun w μ h => by
  simp only [b_is_word, ↓e_v, ↓e_c, ↓e_bin, ↓e_neg, ↓e_cmp, ↓e_chn, ↓e_and, ↓e_or, ↓e_not, ↓e_ite, ↓e_tup, ↓e_lst, ↓e_ix, ↓e_sl, ↓e_rev, ↓e_call, ↓e_bi, ↓e_isi, ↓e_app, ↓e_ext, ↓e_pop, ↓e_comp, ↓es_nil, ↓es_cons, ↓if_nil, ↓if_cons, ↓o_no, ↓o_so, ↓s_ex', ↓s_ret', ↓s_retN', ↓s_asg', ↓s_sub', ↓s_aug', ↓s_iff', ↓s_whl', ↓s_for', ↓s_pass', ↓s_brk', ↓s_cont', ↓s_raise', ↓ss_nil', ↓ss_cons', ↓i_valE, ↓i_rng1E, ↓i_rng2E, ↓i_zipE, ↓i_enuE, ↓getK_s, ↓truK_t, ↓truK_f, ↓bK_s, ↓asgK_s, ↓atK_s, ↓seqK_s, ↓intsK_s, ↓blsK_s, ↓iteK_t, ↓iteK_f, ↓binD, ↓augD, ↓cmp_eq, ↓cmp_ne, ↓cmp_lt, ↓cmp_le, ↓cmp_gt, ↓cmp_ge, ↓cmp_is, ↓cmp_isn, ↓cmp_isN, ↓cmp_isnN, isNon, ↓ixD_int, ↓ixD_rod, atI0, atI1, atI2, atI3, ↓sl_tup, ↓sl_rol, ↓bi_len_tup, ↓bi_len_rol, ↓bi_len_ref, ↓bi_abs, ↓bi_int, ↓bi_intb, ↓bi_gcd, ↓bi_tup_tup, ↓bi_tup_rol, ↓bi_tup_ref, ↓bi_lst_tup, ↓bi_lst_rol, ↓bi_lst_ref, ↓bi_sum, ↓bi_sum_tup, ↓bi_sum_rol, ↓bi_all, ↓bi_any, ↓bi_max2, ↓bi_min2, tg_nm, tg_tp, tgsD, seqOf_tup, seqOf_rol, seqOf_up, seqL_rol, seqL_up', tru_non, tru_bl, tru_int, tru_tup, tru_rol, tru_up, ↓eq_int, isi_c, isi_int, isi_bl, isi_tup, isi_non, isi_str, isi_rol, tyN_up, tyN, List.getElem?_cons_zero, List.getElem?_cons_succ, List.set_cons_zero, List.set_cons_succ, permA, List.map_cons, List.map_nil, List.getD_cons_zero, List.getD_cons_succ, List.cons_append, List.nil_append, List.append_nil, List.replicate_succ, List.replicate_zero, RtP, ite_true, ite_false, if_true, if_false, Bool.false_eq_true, decide_true, decide_false, Bool.not_true, Bool.not_false, List.length_cons, List.length_nil, hi, run_row]
  exact ⟨h, .refl, trivial⟩
/-- a row of letters handed on -/
def sp_sure (f : List Int → Bool) : Spec := pur (fun w : List Int => [D.tup (w.map D.int)]) (fun w _ => w.length ≤ 1000000 ∧ f w = true) fun w => .tup (w.map D.int)
theorem run_sure {f : List Int → Bool} {w : List Int} {μ : Mu} {X : Str → Mu → Prop} {Q : QD} : runK (sp_sure f) [.tup (w.map D.int)] μ X Q ↔ (w.length ≤ 1000000 ∧ f w = true) ∧ Q (.tup (w.map D.int)) μ := pur_run inj_w w
theorem m_sure_row {Φ : Nat → Spec} {i j n : Nat} (hi : Φ i = sp_tupled (n + 1)) (hj : Φ j = sp_row rowB) : Meets Φ 1 2 (b_sure_row i j) (sp_sure rowB) := pur_meets inj_w fun w μ h => by
  simp only [b_sure_row, ↓e_v, ↓e_c, ↓e_bin, ↓e_neg, ↓e_cmp, ↓e_chn, ↓e_and, ↓e_or, ↓e_not, ↓e_ite, ↓e_tup, ↓e_lst, ↓e_ix, ↓e_sl, ↓e_rev, ↓e_call, ↓e_bi, ↓e_isi, ↓e_app, ↓e_ext, ↓e_pop, ↓e_comp, ↓es_nil, ↓es_cons, ↓if_nil, ↓if_cons, ↓o_no, ↓o_so, ↓s_ex', ↓s_ret', ↓s_retN', ↓s_asg', ↓s_sub', ↓s_aug', ↓s_iff', ↓s_whl', ↓s_for', ↓s_pass', ↓s_brk', ↓s_cont', ↓s_raise', ↓ss_nil', ↓ss_cons', ↓i_valE, ↓i_rng1E, ↓i_rng2E, ↓i_zipE, ↓i_enuE, ↓getK_s, ↓truK_t, ↓truK_f, ↓bK_s, ↓asgK_s, ↓atK_s, ↓seqK_s, ↓intsK_s, ↓blsK_s, ↓iteK_t, ↓iteK_f, ↓binD, ↓augD, ↓cmp_eq, ↓cmp_ne, ↓cmp_lt, ↓cmp_le, ↓cmp_gt, ↓cmp_ge, ↓cmp_is, ↓cmp_isn, ↓cmp_isN, ↓cmp_isnN, isNon, ↓ixD_int, ↓ixD_rod, atI0, atI1, atI2, atI3, ↓sl_tup, ↓sl_rol, ↓bi_len_tup, ↓bi_len_rol, ↓bi_len_ref, ↓bi_abs, ↓bi_int, ↓bi_intb, ↓bi_gcd, ↓bi_tup_tup, ↓bi_tup_rol, ↓bi_tup_ref, ↓bi_lst_tup, ↓bi_lst_rol, ↓bi_lst_ref, ↓bi_sum, ↓bi_sum_tup, ↓bi_sum_rol, ↓bi_all, ↓bi_any, ↓bi_max2, ↓bi_min2, tg_nm, tg_tp, tgsD, seqOf_tup, seqOf_rol, seqOf_up, seqL_rol, seqL_up', tru_non, tru_bl, tru_int, tru_tup, tru_rol, tru_up, ↓eq_int, isi_c, isi_int, isi_bl, isi_tup, isi_non, isi_str, isi_rol, tyN_up, tyN, List.getElem?_cons_zero, List.getElem?_cons_succ, List.set_cons_zero, List.set_cons_succ, permA, List.map_cons, List.map_nil, List.getD_cons_zero, List.getD_cons_succ, List.cons_append, List.nil_append, List.append_nil, List.replicate_succ, List.replicate_zero, RtP, ite_true, ite_false, if_true, if_false, Bool.false_eq_true, decide_true, decide_false, Bool.not_true, Bool.not_false, List.length_cons, List.length_nil, hi, hj, run_tupled, plain_ints h.1, run_row, h.2, true_and]
  exact ⟨h.1, .refl, trivial⟩
theorem m_sure_word {Φ : Nat → Spec} {i j n : Nat} (hi : Φ i = sp_tupled (n + 1)) (hj : Φ j = sp_row wordB) : Meets Φ 1 2 (b_sure_word i j) (sp_sure wordB) := pur_meets inj_w fun w μ h => by
  simp only [b_sure_word, ↓e_v, ↓e_c, ↓e_bin, ↓e_neg, ↓e_cmp, ↓e_chn, ↓e_and, ↓e_or, ↓e_not, ↓e_ite, ↓e_tup, ↓e_lst, ↓e_ix, ↓e_sl, ↓e_rev, ↓e_call, ↓e_bi, ↓e_isi, ↓e_app, ↓e_ext, ↓e_pop, ↓e_comp, ↓es_nil, ↓es_cons, ↓if_nil, ↓if_cons, ↓o_no, ↓o_so, ↓s_ex', ↓s_ret', ↓s_retN', ↓s_asg', ↓s_sub', ↓s_aug', ↓s_iff', ↓s_whl', ↓s_for', ↓s_pass', ↓s_brk', ↓s_cont', ↓s_raise', ↓ss_nil', ↓ss_cons', ↓i_valE, ↓i_rng1E, ↓i_rng2E, ↓i_zipE, ↓i_enuE, ↓getK_s, ↓truK_t, ↓truK_f, ↓bK_s, ↓asgK_s, ↓atK_s, ↓seqK_s, ↓intsK_s, ↓blsK_s, ↓iteK_t, ↓iteK_f, ↓binD, ↓augD, ↓cmp_eq, ↓cmp_ne, ↓cmp_lt, ↓cmp_le, ↓cmp_gt, ↓cmp_ge, ↓cmp_is, ↓cmp_isn, ↓cmp_isN, ↓cmp_isnN, isNon, ↓ixD_int, ↓ixD_rod, atI0, atI1, atI2, atI3, ↓sl_tup, ↓sl_rol, ↓bi_len_tup, ↓bi_len_rol, ↓bi_len_ref, ↓bi_abs, ↓bi_int, ↓bi_intb, ↓bi_gcd, ↓bi_tup_tup, ↓bi_tup_rol, ↓bi_tup_ref, ↓bi_lst_tup, ↓bi_lst_rol, ↓bi_lst_ref, ↓bi_sum, ↓bi_sum_tup, ↓bi_sum_rol, ↓bi_all, ↓bi_any, ↓bi_max2, ↓bi_min2, tg_nm, tg_tp, tgsD, seqOf_tup, seqOf_rol, seqOf_up, seqL_rol, seqL_up', tru_non, tru_bl, tru_int, tru_tup, tru_rol, tru_up, ↓eq_int, isi_c, isi_int, isi_bl, isi_tup, isi_non, isi_str, isi_rol, tyN_up, tyN, List.getElem?_cons_zero, List.getElem?_cons_succ, List.set_cons_zero, List.set_cons_succ, permA, List.map_cons, List.map_nil, List.getD_cons_zero, List.getD_cons_succ, List.cons_append, List.nil_append, List.append_nil, List.replicate_succ, List.replicate_zero, RtP, ite_true, ite_false, if_true, if_false, Bool.false_eq_true, decide_true, decide_false, Bool.not_true, Bool.not_false, List.length_cons, List.length_nil, hi, hj, run_tupled, plain_ints h.1, run_row, h.2, true_and]
  exact ⟨h.1, .refl, trivial⟩
def toBk : D → D
  | .int x => .int (bk x)
  | d => d
theorem map_toBk (w : List Int) : (w.map D.int).reverse.map toBk = (w.reverse.map bk).map D.int := by
  rw [← List.map_reverse, List.map_map, List.map_map]; rfl
theorem rev_tup {xs : List D} {μ : Mu} {Q : QD} : revD (.tup xs) μ Q = Q (.tup xs.reverse) μ := rfl
theorem bk_wp {Φ : Nat → Spec} {X : Str → Mu → Prop} {x : Int} {μ : Mu} {R : QD} {ρ : Rho} {i : Nat} (hi : ρ[i]? = some (some (.int x))) (r : R (.int (bk x)) μ) : wpE Φ X (.ite (.cmp .Eq (.v i) (.c (.int 1))) (.v i) (.bin .Sub (.c (.int 5)) (.v i))) ρ μ R := by
  unfold bk at r
  simp only [↓e_v, ↓e_c, ↓e_bin, ↓e_neg, ↓e_cmp, ↓e_chn, ↓e_and, ↓e_or, ↓e_not, ↓e_ite, ↓e_tup, ↓e_lst, ↓e_ix, ↓e_sl, ↓e_rev, ↓e_call, ↓e_bi, ↓e_isi, ↓e_app, ↓e_ext, ↓e_pop, ↓e_comp, ↓es_nil, ↓es_cons, ↓if_nil, ↓if_cons, ↓o_no, ↓o_so, ↓s_ex', ↓s_ret', ↓s_retN', ↓s_asg', ↓s_sub', ↓s_aug', ↓s_iff', ↓s_whl', ↓s_for', ↓s_pass', ↓s_brk', ↓s_cont', ↓s_raise', ↓ss_nil', ↓ss_cons', ↓i_valE, ↓i_rng1E, ↓i_rng2E, ↓i_zipE, ↓i_enuE, ↓getK_s, ↓truK_t, ↓truK_f, ↓bK_s, ↓asgK_s, ↓atK_s, ↓seqK_s, ↓intsK_s, ↓blsK_s, ↓iteK_t, ↓iteK_f, ↓binD, ↓augD, ↓cmp_eq, ↓cmp_ne, ↓cmp_lt, ↓cmp_le, ↓cmp_gt, ↓cmp_ge, ↓cmp_is, ↓cmp_isn, ↓cmp_isN, ↓cmp_isnN, isNon, ↓ixD_int, ↓ixD_rod, atI0, atI1, atI2, atI3, ↓sl_tup, ↓sl_rol, ↓bi_len_tup, ↓bi_len_rol, ↓bi_len_ref, ↓bi_abs, ↓bi_int, ↓bi_intb, ↓bi_gcd, ↓bi_tup_tup, ↓bi_tup_rol, ↓bi_tup_ref, ↓bi_lst_tup, ↓bi_lst_rol, ↓bi_lst_ref, ↓bi_sum, ↓bi_sum_tup, ↓bi_sum_rol, ↓bi_all, ↓bi_any, ↓bi_max2, ↓bi_min2, tg_nm, tg_tp, tgsD, seqOf_tup, seqOf_rol, seqOf_up, seqL_rol, seqL_up', tru_non, tru_bl, tru_int, tru_tup, tru_rol, tru_up, ↓eq_int, isi_c, isi_int, isi_bl, isi_tup, isi_non, isi_str, isi_rol, tyN_up, tyN, List.getElem?_cons_zero, List.getElem?_cons_succ, List.set_cons_zero, List.set_cons_succ, permA, List.map_cons, List.map_nil, List.getD_cons_zero, List.getD_cons_succ, List.cons_append, List.nil_append, List.append_nil, List.replicate_succ, List.replicate_zero, RtP, ite_true, ite_false, if_true, if_false, Bool.false_eq_true, decide_true, decide_false, Bool.not_true, Bool.not_false, List.length_cons, List.length_nil, hi]
  by_cases h : x = 1
  · rw [if_pos h] at r
    simp only [decide_eq_true h, ↓e_v, ↓e_c, ↓e_bin, ↓e_neg, ↓e_cmp, ↓e_chn, ↓e_and, ↓e_or, ↓e_not, ↓e_ite, ↓e_tup, ↓e_lst, ↓e_ix, ↓e_sl, ↓e_rev, ↓e_call, ↓e_bi, ↓e_isi, ↓e_app, ↓e_ext, ↓e_pop, ↓e_comp, ↓es_nil, ↓es_cons, ↓if_nil, ↓if_cons, ↓o_no, ↓o_so, ↓s_ex', ↓s_ret', ↓s_retN', ↓s_asg', ↓s_sub', ↓s_aug', ↓s_iff', ↓s_whl', ↓s_for', ↓s_pass', ↓s_brk', ↓s_cont', ↓s_raise', ↓ss_nil', ↓ss_cons', ↓i_valE, ↓i_rng1E, ↓i_rng2E, ↓i_zipE, ↓i_enuE, ↓getK_s, ↓truK_t, ↓truK_f, ↓bK_s, ↓asgK_s, ↓atK_s, ↓seqK_s, ↓intsK_s, ↓blsK_s, ↓iteK_t, ↓iteK_f, ↓binD, ↓augD, ↓cmp_eq, ↓cmp_ne, ↓cmp_lt, ↓cmp_le, ↓cmp_gt, ↓cmp_ge, ↓cmp_is, ↓cmp_isn, ↓cmp_isN, ↓cmp_isnN, isNon, ↓ixD_int, ↓ixD_rod, atI0, atI1, atI2, atI3, ↓sl_tup, ↓sl_rol, ↓bi_len_tup, ↓bi_len_rol, ↓bi_len_ref, ↓bi_abs, ↓bi_int, ↓bi_intb, ↓bi_gcd, ↓bi_tup_tup, ↓bi_tup_rol, ↓bi_tup_ref, ↓bi_lst_tup, ↓bi_lst_rol, ↓bi_lst_ref, ↓bi_sum, ↓bi_sum_tup, ↓bi_sum_rol, ↓bi_all, ↓bi_any, ↓bi_max2, ↓bi_min2, tg_nm, tg_tp, tgsD, seqOf_tup, seqOf_rol, seqOf_up, seqL_rol, seqL_up', tru_non, tru_bl, tru_int, tru_tup, tru_rol, tru_up, ↓eq_int, isi_c, isi_int, isi_bl, isi_tup, isi_non, isi_str, isi_rol, tyN_up, tyN, List.getElem?_cons_zero, List.getElem?_cons_succ, List.set_cons_zero, List.set_cons_succ, permA, List.map_cons, List.map_nil, List.getD_cons_zero, List.getD_cons_succ, List.cons_append, List.nil_append, List.append_nil, List.replicate_succ, List.replicate_zero, RtP, ite_true, ite_false, if_true, if_false, Bool.false_eq_true, decide_true, decide_false, Bool.not_true, Bool.not_false, List.length_cons, List.length_nil, hi]
    exact r
  · rw [if_neg h] at r
    simp only [decide_eq_false h, ↓e_v, ↓e_c, ↓e_bin, ↓e_neg, ↓e_cmp, ↓e_chn, ↓e_and, ↓e_or, ↓e_not, ↓e_ite, ↓e_tup, ↓e_lst, ↓e_ix, ↓e_sl, ↓e_rev, ↓e_call, ↓e_bi, ↓e_isi, ↓e_app, ↓e_ext, ↓e_pop, ↓e_comp, ↓es_nil, ↓es_cons, ↓if_nil, ↓if_cons, ↓o_no, ↓o_so, ↓s_ex', ↓s_ret', ↓s_retN', ↓s_asg', ↓s_sub', ↓s_aug', ↓s_iff', ↓s_whl', ↓s_for', ↓s_pass', ↓s_brk', ↓s_cont', ↓s_raise', ↓ss_nil', ↓ss_cons', ↓i_valE, ↓i_rng1E, ↓i_rng2E, ↓i_zipE, ↓i_enuE, ↓getK_s, ↓truK_t, ↓truK_f, ↓bK_s, ↓asgK_s, ↓atK_s, ↓seqK_s, ↓intsK_s, ↓blsK_s, ↓iteK_t, ↓iteK_f, ↓binD, ↓augD, ↓cmp_eq, ↓cmp_ne, ↓cmp_lt, ↓cmp_le, ↓cmp_gt, ↓cmp_ge, ↓cmp_is, ↓cmp_isn, ↓cmp_isN, ↓cmp_isnN, isNon, ↓ixD_int, ↓ixD_rod, atI0, atI1, atI2, atI3, ↓sl_tup, ↓sl_rol, ↓bi_len_tup, ↓bi_len_rol, ↓bi_len_ref, ↓bi_abs, ↓bi_int, ↓bi_intb, ↓bi_gcd, ↓bi_tup_tup, ↓bi_tup_rol, ↓bi_tup_ref, ↓bi_lst_tup, ↓bi_lst_rol, ↓bi_lst_ref, ↓bi_sum, ↓bi_sum_tup, ↓bi_sum_rol, ↓bi_all, ↓bi_any, ↓bi_max2, ↓bi_min2, tg_nm, tg_tp, tgsD, seqOf_tup, seqOf_rol, seqOf_up, seqL_rol, seqL_up', tru_non, tru_bl, tru_int, tru_tup, tru_rol, tru_up, ↓eq_int, isi_c, isi_int, isi_bl, isi_tup, isi_non, isi_str, isi_rol, tyN_up, tyN, List.getElem?_cons_zero, List.getElem?_cons_succ, List.set_cons_zero, List.set_cons_succ, permA, List.map_cons, List.map_nil, List.getD_cons_zero, List.getD_cons_succ, List.cons_append, List.nil_append, List.append_nil, List.replicate_succ, List.replicate_zero, RtP, ite_true, ite_false, if_true, if_false, Bool.false_eq_true, decide_true, decide_false, Bool.not_true, Bool.not_false, List.length_cons, List.length_nil, hi]
    exact r
def sp_back : Spec := pur (fun w : List Int => [D.tup (w.map D.int)]) (fun w _ => w.length ≤ 1000000) fun w => .tup ((w.reverse.map bk).map D.int)
theorem run_back {w : List Int} {μ : Mu} {X : Str → Mu → Prop} {Q : QD} : runK sp_back [.tup (w.map D.int)] μ X Q ↔ w.length ≤ 1000000 ∧ Q (.tup ((w.reverse.map bk).map D.int)) μ := pur_run inj_w w
theorem m_back_of {Φ : Nat → Spec} : Meets Φ 1 2 b_back_of sp_back := pur_meets inj_w fun w μ h => by
  simp only [b_back_of, ↓e_v, ↓e_c, ↓e_bin, ↓e_neg, ↓e_cmp, ↓e_chn, ↓e_and, ↓e_or, ↓e_not, ↓e_ite, ↓e_tup, ↓e_lst, ↓e_ix, ↓e_sl, ↓e_rev, ↓e_call, ↓e_bi, ↓e_isi, ↓e_app, ↓e_ext, ↓e_pop, ↓e_comp, ↓es_nil, ↓es_cons, ↓if_nil, ↓if_cons, ↓o_no, ↓o_so, ↓s_ex', ↓s_ret', ↓s_retN', ↓s_asg', ↓s_sub', ↓s_aug', ↓s_iff', ↓s_whl', ↓s_for', ↓s_pass', ↓s_brk', ↓s_cont', ↓s_raise', ↓ss_nil', ↓ss_cons', ↓i_valE, ↓i_rng1E, ↓i_rng2E, ↓i_zipE, ↓i_enuE, ↓getK_s, ↓truK_t, ↓truK_f, ↓bK_s, ↓asgK_s, ↓atK_s, ↓seqK_s, ↓intsK_s, ↓blsK_s, ↓iteK_t, ↓iteK_f, ↓binD, ↓augD, ↓cmp_eq, ↓cmp_ne, ↓cmp_lt, ↓cmp_le, ↓cmp_gt, ↓cmp_ge, ↓cmp_is, ↓cmp_isn, ↓cmp_isN, ↓cmp_isnN, isNon, ↓ixD_int, ↓ixD_rod, atI0, atI1, atI2, atI3, ↓sl_tup, ↓sl_rol, ↓bi_len_tup, ↓bi_len_rol, ↓bi_len_ref, ↓bi_abs, ↓bi_int, ↓bi_intb, ↓bi_gcd, ↓bi_tup_tup, ↓bi_tup_rol, ↓bi_tup_ref, ↓bi_lst_tup, ↓bi_lst_rol, ↓bi_lst_ref, ↓bi_sum, ↓bi_sum_tup, ↓bi_sum_rol, ↓bi_all, ↓bi_any, ↓bi_max2, ↓bi_min2, tg_nm, tg_tp, tgsD, seqOf_tup, seqOf_rol, seqOf_up, seqL_rol, seqL_up', tru_non, tru_bl, tru_int, tru_tup, tru_rol, tru_up, ↓eq_int, isi_c, isi_int, isi_bl, isi_tup, isi_non, isi_str, isi_rol, tyN_up, tyN, List.getElem?_cons_zero, List.getElem?_cons_succ, List.set_cons_zero, List.set_cons_succ, permA, List.map_cons, List.map_nil, List.getD_cons_zero, List.getD_cons_succ, List.cons_append, List.nil_append, List.append_nil, List.replicate_succ, List.replicate_zero, RtP, ite_true, ite_false, if_true, if_false, Bool.false_eq_true, decide_true, decide_false, Bool.not_true, Bool.not_false, List.length_cons, List.length_nil, ↓rev_tup]
  refine compL_map (f := toBk) trivial _ (by rw [List.length_reverse]; exact len_ok h) (fun x hm R r => ⟨_, rfl, ?_⟩) ?_
  · obtain ⟨x, _, rfl⟩ := List.mem_map.mp (List.mem_reverse.mp hm)
    exact bk_wp rfl r
  · intro p hp
    simp only [↓e_v, ↓e_c, ↓e_bin, ↓e_neg, ↓e_cmp, ↓e_chn, ↓e_and, ↓e_or, ↓e_not, ↓e_ite, ↓e_tup, ↓e_lst, ↓e_ix, ↓e_sl, ↓e_rev, ↓e_call, ↓e_bi, ↓e_isi, ↓e_app, ↓e_ext, ↓e_pop, ↓e_comp, ↓es_nil, ↓es_cons, ↓if_nil, ↓if_cons, ↓o_no, ↓o_so, ↓s_ex', ↓s_ret', ↓s_retN', ↓s_asg', ↓s_sub', ↓s_aug', ↓s_iff', ↓s_whl', ↓s_for', ↓s_pass', ↓s_brk', ↓s_cont', ↓s_raise', ↓ss_nil', ↓ss_cons', ↓i_valE, ↓i_rng1E, ↓i_rng2E, ↓i_zipE, ↓i_enuE, ↓getK_s, ↓truK_t, ↓truK_f, ↓bK_s, ↓asgK_s, ↓atK_s, ↓seqK_s, ↓intsK_s, ↓blsK_s, ↓iteK_t, ↓iteK_f, ↓binD, ↓augD, ↓cmp_eq, ↓cmp_ne, ↓cmp_lt, ↓cmp_le, ↓cmp_gt, ↓cmp_ge, ↓cmp_is, ↓cmp_isn, ↓cmp_isN, ↓cmp_isnN, isNon, ↓ixD_int, ↓ixD_rod, atI0, atI1, atI2, atI3, ↓sl_tup, ↓sl_rol, ↓bi_len_tup, ↓bi_len_rol, ↓bi_len_ref, ↓bi_abs, ↓bi_int, ↓bi_intb, ↓bi_gcd, ↓bi_tup_tup, ↓bi_tup_rol, ↓bi_tup_ref, ↓bi_lst_tup, ↓bi_lst_rol, ↓bi_lst_ref, ↓bi_sum, ↓bi_sum_tup, ↓bi_sum_rol, ↓bi_all, ↓bi_any, ↓bi_max2, ↓bi_min2, tg_nm, tg_tp, tgsD, seqOf_tup, seqOf_rol, seqOf_up, seqL_rol, seqL_up', tru_non, tru_bl, tru_int, tru_tup, tru_rol, tru_up, ↓eq_int, isi_c, isi_int, isi_bl, isi_tup, isi_non, isi_str, isi_rol, tyN_up, tyN, List.getElem?_cons_zero, List.getElem?_cons_succ, List.set_cons_zero, List.set_cons_succ, permA, List.map_cons, List.map_nil, List.getD_cons_zero, List.getD_cons_succ, List.cons_append, List.nil_append, List.append_nil, List.replicate_succ, List.replicate_zero, RtP, ite_true, ite_false, if_true, if_false, Bool.false_eq_true, decide_true, decide_false, Bool.not_true, Bool.not_false, List.length_cons, List.length_nil, up_same, map_toBk]
    exact ⟨.up hp, trivial⟩
def sp_move_by : Spec := pur (fun w : List Int => [D.tup (w.map D.int)]) (fun w _ => Lt3 w ∧ w.length ≤ 29000) fun w => v4 (mvs w)
theorem m_move_by {Φ : Nat → Spec} {i j : Nat} (hi : Φ i = sp_move_in) (hj : Φ j = sp_sure rowB) : Meets Φ 1 1 (b_move_by i j) sp_move_in := pur_meets inj_w fun w μ h => by
  simp only [b_move_by, ↓e_v, ↓e_c, ↓e_bin, ↓e_neg, ↓e_cmp, ↓e_chn, ↓e_and, ↓e_or, ↓e_not, ↓e_ite, ↓e_tup, ↓e_lst, ↓e_ix, ↓e_sl, ↓e_rev, ↓e_call, ↓e_bi, ↓e_isi, ↓e_app, ↓e_ext, ↓e_pop, ↓e_comp, ↓es_nil, ↓es_cons, ↓if_nil, ↓if_cons, ↓o_no, ↓o_so, ↓s_ex', ↓s_ret', ↓s_retN', ↓s_asg', ↓s_sub', ↓s_aug', ↓s_iff', ↓s_whl', ↓s_for', ↓s_pass', ↓s_brk', ↓s_cont', ↓s_raise', ↓ss_nil', ↓ss_cons', ↓i_valE, ↓i_rng1E, ↓i_rng2E, ↓i_zipE, ↓i_enuE, ↓getK_s, ↓truK_t, ↓truK_f, ↓bK_s, ↓asgK_s, ↓atK_s, ↓seqK_s, ↓intsK_s, ↓blsK_s, ↓iteK_t, ↓iteK_f, ↓binD, ↓augD, ↓cmp_eq, ↓cmp_ne, ↓cmp_lt, ↓cmp_le, ↓cmp_gt, ↓cmp_ge, ↓cmp_is, ↓cmp_isn, ↓cmp_isN, ↓cmp_isnN, isNon, ↓ixD_int, ↓ixD_rod, atI0, atI1, atI2, atI3, ↓sl_tup, ↓sl_rol, ↓bi_len_tup, ↓bi_len_rol, ↓bi_len_ref, ↓bi_abs, ↓bi_int, ↓bi_intb, ↓bi_gcd, ↓bi_tup_tup, ↓bi_tup_rol, ↓bi_tup_ref, ↓bi_lst_tup, ↓bi_lst_rol, ↓bi_lst_ref, ↓bi_sum, ↓bi_sum_tup, ↓bi_sum_rol, ↓bi_all, ↓bi_any, ↓bi_max2, ↓bi_min2, tg_nm, tg_tp, tgsD, seqOf_tup, seqOf_rol, seqOf_up, seqL_rol, seqL_up', tru_non, tru_bl, tru_int, tru_tup, tru_rol, tru_up, ↓eq_int, isi_c, isi_int, isi_bl, isi_tup, isi_non, isi_str, isi_rol, tyN_up, tyN, List.getElem?_cons_zero, List.getElem?_cons_succ, List.set_cons_zero, List.set_cons_succ, permA, List.map_cons, List.map_nil, List.getD_cons_zero, List.getD_cons_succ, List.cons_append, List.nil_append, List.append_nil, List.replicate_succ, List.replicate_zero, RtP, ite_true, ite_false, if_true, if_false, Bool.false_eq_true, decide_true, decide_false, Bool.not_true, Bool.not_false, List.length_cons, List.length_nil, hi, hj, run_sure, run_move_in]
  exact ⟨⟨by omega, rowB_lt h.1⟩, h, .refl, trivial⟩
def sp_shortened : Spec := pur (fun w : List Int => [D.tup (w.map D.int)]) (fun w _ => w.length ≤ 1000000 ∧ rowB w = true) fun w => .tup ((short w).map D.int)
theorem run_shortened {w : List Int} {μ : Mu} {X : Str → Mu → Prop} {Q : QD} : runK sp_shortened [.tup (w.map D.int)] μ X Q ↔ (w.length ≤ 1000000 ∧ rowB w = true) ∧ Q (.tup ((short w).map D.int)) μ := pur_run inj_w w
theorem m_shortened {Φ : Nat → Spec} {i j : Nat} (hi : Φ i = sp_shortest) (hj : Φ j = sp_sure rowB) : Meets Φ 1 1 (b_shortened i j) sp_shortened := pur_meets inj_w fun w μ h => by
  simp only [b_shortened, ↓e_v, ↓e_c, ↓e_bin, ↓e_neg, ↓e_cmp, ↓e_chn, ↓e_and, ↓e_or, ↓e_not, ↓e_ite, ↓e_tup, ↓e_lst, ↓e_ix, ↓e_sl, ↓e_rev, ↓e_call, ↓e_bi, ↓e_isi, ↓e_app, ↓e_ext, ↓e_pop, ↓e_comp, ↓es_nil, ↓es_cons, ↓if_nil, ↓if_cons, ↓o_no, ↓o_so, ↓s_ex', ↓s_ret', ↓s_retN', ↓s_asg', ↓s_sub', ↓s_aug', ↓s_iff', ↓s_whl', ↓s_for', ↓s_pass', ↓s_brk', ↓s_cont', ↓s_raise', ↓ss_nil', ↓ss_cons', ↓i_valE, ↓i_rng1E, ↓i_rng2E, ↓i_zipE, ↓i_enuE, ↓getK_s, ↓truK_t, ↓truK_f, ↓bK_s, ↓asgK_s, ↓atK_s, ↓seqK_s, ↓intsK_s, ↓blsK_s, ↓iteK_t, ↓iteK_f, ↓binD, ↓augD, ↓cmp_eq, ↓cmp_ne, ↓cmp_lt, ↓cmp_le, ↓cmp_gt, ↓cmp_ge, ↓cmp_is, ↓cmp_isn, ↓cmp_isN, ↓cmp_isnN, isNon, ↓ixD_int, ↓ixD_rod, atI0, atI1, atI2, atI3, ↓sl_tup, ↓sl_rol, ↓bi_len_tup, ↓bi_len_rol, ↓bi_len_ref, ↓bi_abs, ↓bi_int, ↓bi_intb, ↓bi_gcd, ↓bi_tup_tup, ↓bi_tup_rol, ↓bi_tup_ref, ↓bi_lst_tup, ↓bi_lst_rol, ↓bi_lst_ref, ↓bi_sum, ↓bi_sum_tup, ↓bi_sum_rol, ↓bi_all, ↓bi_any, ↓bi_max2, ↓bi_min2, tg_nm, tg_tp, tgsD, seqOf_tup, seqOf_rol, seqOf_up, seqL_rol, seqL_up', tru_non, tru_bl, tru_int, tru_tup, tru_rol, tru_up, ↓eq_int, isi_c, isi_int, isi_bl, isi_tup, isi_non, isi_str, isi_rol, tyN_up, tyN, List.getElem?_cons_zero, List.getElem?_cons_succ, List.set_cons_zero, List.set_cons_succ, permA, List.map_cons, List.map_nil, List.getD_cons_zero, List.getD_cons_succ, List.cons_append, List.nil_append, List.append_nil, List.replicate_succ, List.replicate_zero, RtP, ite_true, ite_false, if_true, if_false, Bool.false_eq_true, decide_true, decide_false, Bool.not_true, Bool.not_false, List.length_cons, List.length_nil, hi, hj, run_sure, run_shortest]
  exact ⟨h, h.1, .refl, trivial⟩
theorem inj_ww (i j : List Int × List Int) (h : [D.tup (i.1.map D.int), .tup (i.2.map D.int)] = [D.tup (j.1.map D.int), .tup (j.2.map D.int)]) : i = j := by
  obtain ⟨a, b⟩ := i
  obtain ⟨c, d⟩ := j
  injection h with h1 h2
  injection h1 with h1
  injection h2 with h2 _
  injection h2 with h2
  exact Prod.ext (map_int_inj h1) (map_int_inj h2)
def sp_behind : Spec := pur (fun p : List Int × List Int => [D.tup (p.1.map D.int), .tup (p.2.map D.int)]) (fun p _ => (p.1.length ≤ 400000 ∧ wordB p.1 = true) ∧ p.2.length ≤ 400000 ∧ wordB p.2 = true) fun p => .tup ((short (p.1 ++ p.2)).map D.int)
theorem run_behind {u v : List Int} {μ : Mu} {X : Str → Mu → Prop} {Q : QD} : runK sp_behind [.tup (u.map D.int), .tup (v.map D.int)] μ X Q ↔ ((u.length ≤ 400000 ∧ wordB u = true) ∧ v.length ≤ 400000 ∧ wordB v = true) ∧ Q (.tup ((short (u ++ v)).map D.int)) μ := pur_run inj_ww (u, v)
theorem m_behind {Φ : Nat → Spec} {i j : Nat} (hi : Φ i = sp_sure wordB) (hj : Φ j = sp_shortest) : Meets Φ 2 4 (b_word_behind i j) sp_behind := pur_meets inj_ww fun ⟨u, v⟩ μ h => by
  obtain ⟨⟨h1, h2⟩, h3, h4⟩ := h
  dsimp only at h1 h2 h3 h4
  have e : ∀ {Q : QD} {μ : Mu} {X : Str → Mu → Prop}, runK sp_shortest [.tup (u.map D.int ++ v.map D.int)] μ X Q ↔ (u ++ v).length ≤ 1000000 ∧ Q (.tup ((short (u ++ v)).map D.int)) μ := by
    intro Q μ X
    rw [← List.map_append]
    exact run_shortest
  simp only [b_word_behind, ↓e_v, ↓e_c, ↓e_bin, ↓e_neg, ↓e_cmp, ↓e_chn, ↓e_and, ↓e_or, ↓e_not, ↓e_ite, ↓e_tup, ↓e_lst, ↓e_ix, ↓e_sl, ↓e_rev, ↓e_call, ↓e_bi, ↓e_isi, ↓e_app, ↓e_ext, ↓e_pop, ↓e_comp, ↓es_nil, ↓es_cons, ↓if_nil, ↓if_cons, ↓o_no, ↓o_so, ↓s_ex', ↓s_ret', ↓s_retN', ↓s_asg', ↓s_sub', ↓s_aug', ↓s_iff', ↓s_whl', ↓s_for', ↓s_pass', ↓s_brk', ↓s_cont', ↓s_raise', ↓ss_nil', ↓ss_cons', ↓i_valE, ↓i_rng1E, ↓i_rng2E, ↓i_zipE, ↓i_enuE, ↓getK_s, ↓truK_t, ↓truK_f, ↓bK_s, ↓asgK_s, ↓atK_s, ↓seqK_s, ↓intsK_s, ↓blsK_s, ↓iteK_t, ↓iteK_f, ↓binD, ↓augD, ↓cmp_eq, ↓cmp_ne, ↓cmp_lt, ↓cmp_le, ↓cmp_gt, ↓cmp_ge, ↓cmp_is, ↓cmp_isn, ↓cmp_isN, ↓cmp_isnN, isNon, ↓ixD_int, ↓ixD_rod, atI0, atI1, atI2, atI3, ↓sl_tup, ↓sl_rol, ↓bi_len_tup, ↓bi_len_rol, ↓bi_len_ref, ↓bi_abs, ↓bi_int, ↓bi_intb, ↓bi_gcd, ↓bi_tup_tup, ↓bi_tup_rol, ↓bi_tup_ref, ↓bi_lst_tup, ↓bi_lst_rol, ↓bi_lst_ref, ↓bi_sum, ↓bi_sum_tup, ↓bi_sum_rol, ↓bi_all, ↓bi_any, ↓bi_max2, ↓bi_min2, tg_nm, tg_tp, tgsD, seqOf_tup, seqOf_rol, seqOf_up, seqL_rol, seqL_up', tru_non, tru_bl, tru_int, tru_tup, tru_rol, tru_up, ↓eq_int, isi_c, isi_int, isi_bl, isi_tup, isi_non, isi_str, isi_rol, tyN_up, tyN, List.getElem?_cons_zero, List.getElem?_cons_succ, List.set_cons_zero, List.set_cons_succ, permA, List.map_cons, List.map_nil, List.getD_cons_zero, List.getD_cons_succ, List.cons_append, List.nil_append, List.append_nil, List.replicate_succ, List.replicate_zero, RtP, ite_true, ite_false, if_true, if_false, Bool.false_eq_true, decide_true, decide_false, Bool.not_true, Bool.not_false, List.length_cons, List.length_nil, hi, hj, run_sure, e]
  refine ⟨⟨by omega, h2⟩, ⟨by omega, h4⟩, by decide, ?_, by rw [List.length_append]; omega, .refl, trivial⟩
  rw [List.length_map, List.length_map]
  exact Nat.le_trans (show u.length + v.length ≤ 800000 by omega) (by decide)
def sp_word_back : Spec := pur (fun w : List Int => [D.tup (w.map D.int)]) (fun w _ => w.length ≤ 1000000 ∧ wordB w = true) fun w => .tup ((w.reverse.map bk).map D.int)
theorem run_word_back {w : List Int} {μ : Mu} {X : Str → Mu → Prop} {Q : QD} : runK sp_word_back [.tup (w.map D.int)] μ X Q ↔ (w.length ≤ 1000000 ∧ wordB w = true) ∧ Q (.tup ((w.reverse.map bk).map D.int)) μ := pur_run inj_w w
theorem m_word_back {Φ : Nat → Spec} {i j : Nat} (hi : Φ i = sp_back) (hj : Φ j = sp_sure wordB) : Meets Φ 1 1 (b_word_back i j) sp_word_back := pur_meets inj_w fun w μ h => by
  simp only [b_word_back, ↓e_v, ↓e_c, ↓e_bin, ↓e_neg, ↓e_cmp, ↓e_chn, ↓e_and, ↓e_or, ↓e_not, ↓e_ite, ↓e_tup, ↓e_lst, ↓e_ix, ↓e_sl, ↓e_rev, ↓e_call, ↓e_bi, ↓e_isi, ↓e_app, ↓e_ext, ↓e_pop, ↓e_comp, ↓es_nil, ↓es_cons, ↓if_nil, ↓if_cons, ↓o_no, ↓o_so, ↓s_ex', ↓s_ret', ↓s_retN', ↓s_asg', ↓s_sub', ↓s_aug', ↓s_iff', ↓s_whl', ↓s_for', ↓s_pass', ↓s_brk', ↓s_cont', ↓s_raise', ↓ss_nil', ↓ss_cons', ↓i_valE, ↓i_rng1E, ↓i_rng2E, ↓i_zipE, ↓i_enuE, ↓getK_s, ↓truK_t, ↓truK_f, ↓bK_s, ↓asgK_s, ↓atK_s, ↓seqK_s, ↓intsK_s, ↓blsK_s, ↓iteK_t, ↓iteK_f, ↓binD, ↓augD, ↓cmp_eq, ↓cmp_ne, ↓cmp_lt, ↓cmp_le, ↓cmp_gt, ↓cmp_ge, ↓cmp_is, ↓cmp_isn, ↓cmp_isN, ↓cmp_isnN, isNon, ↓ixD_int, ↓ixD_rod, atI0, atI1, atI2, atI3, ↓sl_tup, ↓sl_rol, ↓bi_len_tup, ↓bi_len_rol, ↓bi_len_ref, ↓bi_abs, ↓bi_int, ↓bi_intb, ↓bi_gcd, ↓bi_tup_tup, ↓bi_tup_rol, ↓bi_tup_ref, ↓bi_lst_tup, ↓bi_lst_rol, ↓bi_lst_ref, ↓bi_sum, ↓bi_sum_tup, ↓bi_sum_rol, ↓bi_all, ↓bi_any, ↓bi_max2, ↓bi_min2, tg_nm, tg_tp, tgsD, seqOf_tup, seqOf_rol, seqOf_up, seqL_rol, seqL_up', tru_non, tru_bl, tru_int, tru_tup, tru_rol, tru_up, ↓eq_int, isi_c, isi_int, isi_bl, isi_tup, isi_non, isi_str, isi_rol, tyN_up, tyN, List.getElem?_cons_zero, List.getElem?_cons_succ, List.set_cons_zero, List.set_cons_succ, permA, List.map_cons, List.map_nil, List.getD_cons_zero, List.getD_cons_succ, List.cons_append, List.nil_append, List.append_nil, List.replicate_succ, List.replicate_zero, RtP, ite_true, ite_false, if_true, if_false, Bool.false_eq_true, decide_true, decide_false, Bool.not_true, Bool.not_false, List.length_cons, List.length_nil, hi, hj, run_sure, run_back]
  exact ⟨h, h.1, .refl, trivial⟩
/-- how many words -/
def hm : Nat → Int × Int
  | 0 => (1, 2)
  | n + 1 => ((hm n).2, 2 * (hm n).1)
def hmw (n : Nat) : Int := if n = 0 then 1 else (hm (n - 1)).1 + (hm (n - 1)).2
def sp_hmw : Spec := pur (fun n : Nat => [D.int (n : Int)]) (fun n _ => n ≤ 2000) fun n => .int (hmw n)
theorem inj_n (i j : Nat) (h : [D.int (i : Int)] = [D.int (j : Int)]) : i = j := by
  injection h with h _
  injection h with h
  omega
theorem run_hmw {n : Nat} {μ : Mu} {X : Str → Mu → Prop} {Q : QD} : runK sp_hmw [.int (n : Int)] μ X Q ↔ n ≤ 2000 ∧ Q (.int (hmw n)) μ := pur_run inj_n n
theorem m_hmw {Φ : Nat → Spec} {i : Nat} (hi : Φ i = sp_is_within) : Meets Φ 1 4 (b_how_many_words i) sp_hmw := pur_meets inj_n fun n μ h => by
  have h1 : (0 : Int) ≤ n := by omega
  have h2 : (n : Int) ≤ 2000 := by omega
  simp only [b_how_many_words, ↓e_v, ↓e_c, ↓e_bin, ↓e_neg, ↓e_cmp, ↓e_chn, ↓e_and, ↓e_or, ↓e_not, ↓e_ite, ↓e_tup, ↓e_lst, ↓e_ix, ↓e_sl, ↓e_rev, ↓e_call, ↓e_bi, ↓e_isi, ↓e_app, ↓e_ext, ↓e_pop, ↓e_comp, ↓es_nil, ↓es_cons, ↓if_nil, ↓if_cons, ↓o_no, ↓o_so, ↓s_ex', ↓s_ret', ↓s_retN', ↓s_asg', ↓s_sub', ↓s_aug', ↓s_iff', ↓s_whl', ↓s_for', ↓s_pass', ↓s_brk', ↓s_cont', ↓s_raise', ↓ss_nil', ↓ss_cons', ↓i_valE, ↓i_rng1E, ↓i_rng2E, ↓i_zipE, ↓i_enuE, ↓getK_s, ↓truK_t, ↓truK_f, ↓bK_s, ↓asgK_s, ↓atK_s, ↓seqK_s, ↓intsK_s, ↓blsK_s, ↓iteK_t, ↓iteK_f, ↓binD, ↓augD, ↓cmp_eq, ↓cmp_ne, ↓cmp_lt, ↓cmp_le, ↓cmp_gt, ↓cmp_ge, ↓cmp_is, ↓cmp_isn, ↓cmp_isN, ↓cmp_isnN, isNon, ↓ixD_int, ↓ixD_rod, atI0, atI1, atI2, atI3, ↓sl_tup, ↓sl_rol, ↓bi_len_tup, ↓bi_len_rol, ↓bi_len_ref, ↓bi_abs, ↓bi_int, ↓bi_intb, ↓bi_gcd, ↓bi_tup_tup, ↓bi_tup_rol, ↓bi_tup_ref, ↓bi_lst_tup, ↓bi_lst_rol, ↓bi_lst_ref, ↓bi_sum, ↓bi_sum_tup, ↓bi_sum_rol, ↓bi_all, ↓bi_any, ↓bi_max2, ↓bi_min2, tg_nm, tg_tp, tgsD, seqOf_tup, seqOf_rol, seqOf_up, seqL_rol, seqL_up', tru_non, tru_bl, tru_int, tru_tup, tru_rol, tru_up, ↓eq_int, isi_c, isi_int, isi_bl, isi_tup, isi_non, isi_str, isi_rol, tyN_up, tyN, List.getElem?_cons_zero, List.getElem?_cons_succ, List.set_cons_zero, List.set_cons_succ, permA, List.map_cons, List.map_nil, List.getD_cons_zero, List.getD_cons_succ, List.cons_append, List.nil_append, List.append_nil, List.replicate_succ, List.replicate_zero, RtP, ite_true, ite_false, if_true, if_false, Bool.false_eq_true, decide_true, decide_false, Bool.not_true, Bool.not_false, List.length_cons, List.length_nil, hi, run_is_within, decide_eq_true h1, decide_eq_true h2, Bool.and_self, true_and]
  refine ⟨by decide, ⟨by omega, by omega⟩, ?_⟩
  have hlen : ((n : Int) - 1).toNat = n - 1 := by omega
  rw [hlen]
  refine forL_ind (fun ys ρ μ' => ∃ (k : Nat) (z : Option D), k + ys.length = n - 1 ∧ ρ = [some (.int (n : Int)), some (.int (hm k).1), some (.int (hm k).2), z] ∧ μ' = μ) ?_ ?_ _ _ _ ?_
  · rintro y ys ρ μ' ⟨k, z, hk, rfl, rfl⟩
    refine ⟨trivial, _, rfl, ?_⟩
    simp only [↓e_v, ↓e_c, ↓e_bin, ↓e_neg, ↓e_cmp, ↓e_chn, ↓e_and, ↓e_or, ↓e_not, ↓e_ite, ↓e_tup, ↓e_lst, ↓e_ix, ↓e_sl, ↓e_rev, ↓e_call, ↓e_bi, ↓e_isi, ↓e_app, ↓e_ext, ↓e_pop, ↓e_comp, ↓es_nil, ↓es_cons, ↓if_nil, ↓if_cons, ↓o_no, ↓o_so, ↓s_ex', ↓s_ret', ↓s_retN', ↓s_asg', ↓s_sub', ↓s_aug', ↓s_iff', ↓s_whl', ↓s_for', ↓s_pass', ↓s_brk', ↓s_cont', ↓s_raise', ↓ss_nil', ↓ss_cons', ↓i_valE, ↓i_rng1E, ↓i_rng2E, ↓i_zipE, ↓i_enuE, ↓getK_s, ↓truK_t, ↓truK_f, ↓bK_s, ↓asgK_s, ↓atK_s, ↓seqK_s, ↓intsK_s, ↓blsK_s, ↓iteK_t, ↓iteK_f, ↓binD, ↓augD, ↓cmp_eq, ↓cmp_ne, ↓cmp_lt, ↓cmp_le, ↓cmp_gt, ↓cmp_ge, ↓cmp_is, ↓cmp_isn, ↓cmp_isN, ↓cmp_isnN, isNon, ↓ixD_int, ↓ixD_rod, atI0, atI1, atI2, atI3, ↓sl_tup, ↓sl_rol, ↓bi_len_tup, ↓bi_len_rol, ↓bi_len_ref, ↓bi_abs, ↓bi_int, ↓bi_intb, ↓bi_gcd, ↓bi_tup_tup, ↓bi_tup_rol, ↓bi_tup_ref, ↓bi_lst_tup, ↓bi_lst_rol, ↓bi_lst_ref, ↓bi_sum, ↓bi_sum_tup, ↓bi_sum_rol, ↓bi_all, ↓bi_any, ↓bi_max2, ↓bi_min2, tg_nm, tg_tp, tgsD, seqOf_tup, seqOf_rol, seqOf_up, seqL_rol, seqL_up', tru_non, tru_bl, tru_int, tru_tup, tru_rol, tru_up, ↓eq_int, isi_c, isi_int, isi_bl, isi_tup, isi_non, isi_str, isi_rol, tyN_up, tyN, List.getElem?_cons_zero, List.getElem?_cons_succ, List.set_cons_zero, List.set_cons_succ, permA, List.map_cons, List.map_nil, List.getD_cons_zero, List.getD_cons_succ, List.cons_append, List.nil_append, List.append_nil, List.replicate_succ, List.replicate_zero, RtP, ite_true, ite_false, if_true, if_false, Bool.false_eq_true, decide_true, decide_false, Bool.not_true, Bool.not_false, List.length_cons, List.length_nil]
    refine ⟨.of_left (by decide), by decide, k + 1, _, by rw [List.length_cons] at hk; omega, rfl, trivial⟩
  · rintro ρ μ' ⟨k, z, hk, rfl, rfl⟩
    refine ⟨trivial, ?_⟩
    have hk : k = n - 1 := by rw [← hk]; rfl
    subst hk
    by_cases h0 : n = 0
    · subst h0
      simp only [↓e_v, ↓e_c, ↓e_bin, ↓e_neg, ↓e_cmp, ↓e_chn, ↓e_and, ↓e_or, ↓e_not, ↓e_ite, ↓e_tup, ↓e_lst, ↓e_ix, ↓e_sl, ↓e_rev, ↓e_call, ↓e_bi, ↓e_isi, ↓e_app, ↓e_ext, ↓e_pop, ↓e_comp, ↓es_nil, ↓es_cons, ↓if_nil, ↓if_cons, ↓o_no, ↓o_so, ↓s_ex', ↓s_ret', ↓s_retN', ↓s_asg', ↓s_sub', ↓s_aug', ↓s_iff', ↓s_whl', ↓s_for', ↓s_pass', ↓s_brk', ↓s_cont', ↓s_raise', ↓ss_nil', ↓ss_cons', ↓i_valE, ↓i_rng1E, ↓i_rng2E, ↓i_zipE, ↓i_enuE, ↓getK_s, ↓truK_t, ↓truK_f, ↓bK_s, ↓asgK_s, ↓atK_s, ↓seqK_s, ↓intsK_s, ↓blsK_s, ↓iteK_t, ↓iteK_f, ↓binD, ↓augD, ↓cmp_eq, ↓cmp_ne, ↓cmp_lt, ↓cmp_le, ↓cmp_gt, ↓cmp_ge, ↓cmp_is, ↓cmp_isn, ↓cmp_isN, ↓cmp_isnN, isNon, ↓ixD_int, ↓ixD_rod, atI0, atI1, atI2, atI3, ↓sl_tup, ↓sl_rol, ↓bi_len_tup, ↓bi_len_rol, ↓bi_len_ref, ↓bi_abs, ↓bi_int, ↓bi_intb, ↓bi_gcd, ↓bi_tup_tup, ↓bi_tup_rol, ↓bi_tup_ref, ↓bi_lst_tup, ↓bi_lst_rol, ↓bi_lst_ref, ↓bi_sum, ↓bi_sum_tup, ↓bi_sum_rol, ↓bi_all, ↓bi_any, ↓bi_max2, ↓bi_min2, tg_nm, tg_tp, tgsD, seqOf_tup, seqOf_rol, seqOf_up, seqL_rol, seqL_up', tru_non, tru_bl, tru_int, tru_tup, tru_rol, tru_up, ↓eq_int, isi_c, isi_int, isi_bl, isi_tup, isi_non, isi_str, isi_rol, tyN_up, tyN, List.getElem?_cons_zero, List.getElem?_cons_succ, List.set_cons_zero, List.set_cons_succ, permA, List.map_cons, List.map_nil, List.getD_cons_zero, List.getD_cons_succ, List.cons_append, List.nil_append, List.append_nil, List.replicate_succ, List.replicate_zero, RtP, ite_true, ite_false, if_true, if_false, Bool.false_eq_true, decide_true, decide_false, Bool.not_true, Bool.not_false, List.length_cons, List.length_nil, show decide (((0 : Nat) : Int) = 0) = true from rfl]
      exact ⟨.refl, rfl⟩
    · have h0' : ¬ (n : Int) = 0 := by omega
      simp only [↓e_v, ↓e_c, ↓e_bin, ↓e_neg, ↓e_cmp, ↓e_chn, ↓e_and, ↓e_or, ↓e_not, ↓e_ite, ↓e_tup, ↓e_lst, ↓e_ix, ↓e_sl, ↓e_rev, ↓e_call, ↓e_bi, ↓e_isi, ↓e_app, ↓e_ext, ↓e_pop, ↓e_comp, ↓es_nil, ↓es_cons, ↓if_nil, ↓if_cons, ↓o_no, ↓o_so, ↓s_ex', ↓s_ret', ↓s_retN', ↓s_asg', ↓s_sub', ↓s_aug', ↓s_iff', ↓s_whl', ↓s_for', ↓s_pass', ↓s_brk', ↓s_cont', ↓s_raise', ↓ss_nil', ↓ss_cons', ↓i_valE, ↓i_rng1E, ↓i_rng2E, ↓i_zipE, ↓i_enuE, ↓getK_s, ↓truK_t, ↓truK_f, ↓bK_s, ↓asgK_s, ↓atK_s, ↓seqK_s, ↓intsK_s, ↓blsK_s, ↓iteK_t, ↓iteK_f, ↓binD, ↓augD, ↓cmp_eq, ↓cmp_ne, ↓cmp_lt, ↓cmp_le, ↓cmp_gt, ↓cmp_ge, ↓cmp_is, ↓cmp_isn, ↓cmp_isN, ↓cmp_isnN, isNon, ↓ixD_int, ↓ixD_rod, atI0, atI1, atI2, atI3, ↓sl_tup, ↓sl_rol, ↓bi_len_tup, ↓bi_len_rol, ↓bi_len_ref, ↓bi_abs, ↓bi_int, ↓bi_intb, ↓bi_gcd, ↓bi_tup_tup, ↓bi_tup_rol, ↓bi_tup_ref, ↓bi_lst_tup, ↓bi_lst_rol, ↓bi_lst_ref, ↓bi_sum, ↓bi_sum_tup, ↓bi_sum_rol, ↓bi_all, ↓bi_any, ↓bi_max2, ↓bi_min2, tg_nm, tg_tp, tgsD, seqOf_tup, seqOf_rol, seqOf_up, seqL_rol, seqL_up', tru_non, tru_bl, tru_int, tru_tup, tru_rol, tru_up, ↓eq_int, isi_c, isi_int, isi_bl, isi_tup, isi_non, isi_str, isi_rol, tyN_up, tyN, List.getElem?_cons_zero, List.getElem?_cons_succ, List.set_cons_zero, List.set_cons_succ, permA, List.map_cons, List.map_nil, List.getD_cons_zero, List.getD_cons_succ, List.cons_append, List.nil_append, List.append_nil, List.replicate_succ, List.replicate_zero, RtP, ite_true, ite_false, if_true, if_false, Bool.false_eq_true, decide_true, decide_false, Bool.not_true, Bool.not_false, List.length_cons, List.length_nil, decide_eq_false h0']
      refine ⟨.refl, ?_⟩
      unfold hmw
      rw [if_neg h0]
  · exact ⟨0, none, by rw [len_rngL]; omega, rfl, rfl⟩
theorem hmw_two {n : Nat} (h : 2 < n) : hmw n = 2 * hmw (n - 2) := by
  unfold hmw
  rw [if_neg (by omega), if_neg (by omega)]
  obtain ⟨k, rfl⟩ : ∃ k, n = k + 3 := ⟨n - 3, by omega⟩
  have e1 : k + 3 - 1 = k + 2 := by omega
  have e2 : k + 3 - 2 - 1 = k := by omega
  rw [e1, e2]
  simp only [hm]
  omega
end LD
namespace LD
open PySem PySem.Spec PyProof.Rows L2
abbrev b_round_of (i_shortest : Nat) : Ss := (.cons (.asg (.nm 1) (.v 0)) (.cons (.whl (.and (.cmp .Gt (.bi .len (.cons (.v 1) .nil)) (.c (.int 1))) (.cmp .Eq (.cmp .Eq (.ix (.v 1) (.c (.int 0))) (.c (.int 1))) (.cmp .Eq (.ix (.v 1) (.neg (.c (.int 1)))) (.c (.int 1))))) (.cons (.asg (.nm 1) (.call i_shortest (.cons (.bin .Add (.sl (.v 1) (.so (.c (.int 1))) .no) (.sl (.v 1) .no (.so (.c (.int 1))))) .nil) .nil [0])) (.cons (.iff (.and (.cmp .Gt (.bi .len (.cons (.v 1) .nil)) (.c (.int 1))) (.cmp .Eq (.cmp .Eq (.ix (.v 1) (.c (.int 0))) (.c (.int 1))) (.cmp .Eq (.ix (.v 1) (.neg (.c (.int 1)))) (.c (.int 1))))) (.cons (.asg (.nm 1) (.call i_shortest (.cons (.bin .Add (.tup (.cons (.ix (.v 1) (.neg (.c (.int 1)))) .nil)) (.sl (.v 1) .no (.so (.neg (.c (.int 1)))))) .nil) .nil [0])) .nil) .nil) .nil))) (.cons (.ret (.bi .min (.cons (.comp (.nm 2) (.rng1 (.bi .max (.cons (.c (.int 1)) (.cons (.bi .len (.cons (.v 1) .nil)) .nil)))) .nil (.bin .Add (.sl (.v 1) (.so (.v 2)) .no) (.sl (.v 1) .no (.so (.v 2)))) [2]) .nil))) .nil)))
abbrev b_round_word (i_round_of : Nat) (i_sure_word : Nat) : Ss := (.cons (.ret (.call i_round_of (.cons (.call i_sure_word (.cons (.v 0) .nil) .nil [0]) .nil) .nil [0])) .nil)
abbrev b_class_move (i_tupled : Nat) (i_is_word_of : Nat) (i_round_of : Nat) (i_move_in : Nat) : Ss := (.cons (.asg (.nm 1) (.call i_tupled (.cons (.v 0) .nil) .nil [0])) (.cons (.iff (.or (.not (.call i_is_word_of (.cons (.v 1) .nil) .nil [0])) (.cmp .NotEq (.call i_round_of (.cons (.v 1) .nil) .nil [0]) (.v 1))) (.cons (.raise ("Unfit" : Str)) .nil) .nil) (.cons (.ret (.call i_move_in (.cons (.v 1) .nil) .nil [0])) .nil)))
abbrev b_how_often (i_tupled : Nat) (i_is_word_of : Nat) (i_round_of : Nat) (i_repeats_of : Nat) : Ss := (.cons (.asg (.nm 1) (.call i_tupled (.cons (.v 0) .nil) .nil [0])) (.cons (.iff (.or (.not (.call i_is_word_of (.cons (.v 1) .nil) .nil [0])) (.or (.cmp .Eq (.v 1) (.tup .nil)) (.cmp .NotEq (.call i_round_of (.cons (.v 1) .nil) .nil [0]) (.v 1)))) (.cons (.raise ("Unfit" : Str)) .nil) .nil) (.cons (.ret (.call i_repeats_of (.cons (.v 1) .nil) .nil [0])) .nil)))
abbrev b_repeats_of : Ss := (.cons (.for (.nm 1) (.rng2 (.c (.int 1)) (.bin .Add (.bi .len (.cons (.v 0) .nil)) (.c (.int 1)))) (.cons (.iff (.and (.cmp .Eq (.bin .Mod (.bi .len (.cons (.v 0) .nil)) (.v 1)) (.c (.int 0))) (.cmp .Eq (.bin .Mult (.sl (.v 0) .no (.so (.v 1))) (.bin .FloorDiv (.bi .len (.cons (.v 0) .nil)) (.v 1))) (.v 0))) (.cons (.ret (.bin .FloorDiv (.bi .len (.cons (.v 0) .nil)) (.v 1))) .nil) .nil) .nil)) (.cons (.ret (.c (.int 1))) .nil))
abbrev b_sizes_by (i_tupled : Nat) (i_is_word_of : Nat) (i_size_of : Nat) (i_move_in : Nat) : Ss := (.cons (.asg (.nm 1) (.call i_tupled (.cons (.v 0) .nil) .nil [0])) (.cons (.iff (.not (.call i_is_word_of (.cons (.v 1) .nil) .nil [0])) (.cons (.raise ("Unfit" : Str)) .nil) .nil) (.cons (.ret (.call i_size_of (.cons (.call i_move_in (.cons (.v 1) .nil) .nil [0]) .nil) .nil [0])) .nil)))
abbrev tupI (w : List Int) : D := .tup (w.map D.int)
theorem eq_tints {xs ys : List Int} {μ : Mu} {Q : Bool → Prop} (h : Q (decide (xs = ys))) : eqK (.tup (xs.map D.int)) (.tup (ys.map D.int)) μ Q := by
  have e : ∀ xs ys : List Int, PyData.eqvAll (xs.map PyData.int) (ys.map PyData.int) = decide (xs = ys) := by
    intro xs
    induction xs with
    | nil => intro ys; cases ys <;> simp [PyData.eqvAll]
    | cons x xs ih =>
      intro ys
      cases ys with
      | nil => simp [PyData.eqvAll]
      | cons y ys =>
        simp only [List.map_cons, PyData.eqvAll, PyData.eqv, ih]
        rw [Bool.eq_iff_iff]
        simp
  have e2 : PyData.eqv (.tuple (xs.map PyData.int)) (.tuple (ys.map PyData.int)) = decide (xs = ys) := by
    simp only [PyData.eqv]
    exact e xs ys
  have pd : ∀ {zs : List Int}, pdOf μ 9 (.tup (zs.map D.int)) = some (.tuple (zs.map PyData.int)) := fun {zs} => by
    show (pdL (pdOf μ 8) (zs.map D.int)).map PyData.tuple = _
    rw [pdL_ints]
    rfl
  have sh : ∀ zs : List Int, SeqAt.shaped (.tuple (zs.map PyData.int)) = true := fun zs => by
    unfold SeqAt.shaped
    have h1 : (PyData.tuple (zs.map PyData.int)).canLay0 = true := by
      unfold PyData.canLay0
      exact lay_ints zs
    have h2 : (PyData.tuple (zs.map PyData.int)).depth ≤ 64 := by
      unfold PyData.depth
      rw [depth_ints zs]
      decide
    rw [h1, decide_eq_true h2]
    rfl
  unfold eqK eqQ
  rw [pd, pd]
  exact ⟨sh xs, sh ys, by rw [e2]; exact h⟩
theorem eq_v4 {p q : I4} {μ : Mu} {Q : Bool → Prop} (h : Q (decide (p = q))) : eqK (v4 p) (v4 q) μ Q := by
  obtain ⟨a, b, c, d⟩ := p
  obtain ⟨e, f, g, k⟩ := q
  refine eq_tints (xs := [a, b, c, d]) (ys := [e, f, g, k]) ?_
  have : decide ([a, b, c, d] = [e, f, g, k]) = decide ((a, b, c, d) = (e, f, g, k)) := by
    rw [Bool.eq_iff_iff, decide_eq_true_iff, decide_eq_true_iff]
    simp
  rw [this]
  exact h
/-! min of tuples of ints -/
theorem pdL_tups {μ : Mu} : ∀ ws : List (List Int), pdL (pdOf μ 8) (ws.map tupI) = some (ws.map fun w => PyData.tuple (w.map PyData.int))
  | [] => rfl
  | w :: ws => by
    rw [List.map_cons]
    unfold pdL
    rw [pdL_tups ws, show pdOf μ 8 (tupI w) = some (.tuple (w.map PyData.int)) by
      show (pdL (pdOf μ 7) (w.map D.int)).map PyData.tuple = _
      rw [pdL_ints]
      rfl]
    rfl
theorem toD_tup (w : List Int) : (PyData.tuple (w.map PyData.int)) = PySem.W.Datum.toD (α := PySem.W.Tup Int) ⟨w⟩ := rfl
theorem minOf_tup : ∀ (xs : List (List Int)) (x : List Int), PySem.W.minOf (α := PySem.W.Tup Int) ⟨x⟩ (xs.map PySem.W.Tup.mk) = ⟨lexMin x xs⟩
  | [], x => rfl
  | y :: xs, x => by
    unfold PySem.W.minOf lexMin
    rw [List.map_cons, List.foldl_cons, List.foldl_cons]
    have e : PySem.W.DatumOrd.lt (α := PySem.W.Tup Int) ⟨y⟩ ⟨x⟩ = lLt y x := rfl
    rw [e]
    by_cases c : lLt y x = true
    · rw [if_pos c, if_pos c]
      exact minOf_tup xs y
    · rw [if_neg c, if_neg c]
      exact minOf_tup xs x
theorem map_int_inj' {u v : List Int} (h : u.map PyData.int = v.map PyData.int) : u = v := by
  induction u generalizing v with
  | nil => cases v <;> simp_all
  | cons x u ih =>
    cases v with
    | nil => simp at h
    | cons y v =>
      simp only [List.map_cons, List.cons.injEq, PyData.int.injEq] at h
      rw [h.1, ih h.2]
theorem min_tups {p : Addr} {x : List Int} {xs : List (List Int)} {μ : Mu} {Q : QD} (hp : μ p = some (.lst ((x :: xs).map tupI))) (q : Q (tupI (lexMin x xs)) μ) : biD .min [.ref p] μ Q := by
  have e1 : seqL (.ref p) μ = some ((x :: xs).map tupI) := seqL_ref hp
  have e2 : intsOf ((x :: xs).map tupI) = none := rfl
  have e3 : pdL (pdOf μ 8) ((x :: xs).map tupI) = some ((x :: xs).map fun w => PyData.tuple (w.map PyData.int)) := pdL_tups _
  have eall : ((x :: xs).map fun w => PyData.tuple (w.map PyData.int)) = ((x :: xs).map (PySem.W.Tup.mk (α := Int))).map PySem.W.Datum.toD := by rw [List.map_map]; rfl
  show (match seqL (.ref p) μ with
    | some xs => (match intsOf xs with
      | some ns => 0 < ns.length ∧ ∀ m, m ∈ ns → (∀ y, y ∈ ns → m ≤ y) → Q (.int m) μ
      | none => (match pdL (pdOf μ 8) xs with
        | some (p :: ps) => (PySem.W.AlikeAll (p :: ps) ∧ PyData.canLayAll0 (p :: ps) = true ∧ PyData.depthAll (p :: ps) ≤ 64) ∧ ∀ (i : Nat) (d : D), xs[i]? = some d → (p :: ps)[i]? = some (PySem.W.minD p ps) → Q d μ
        | _ => False))
    | none => False)
  rw [e1]
  dsimp only
  rw [e2]
  dsimp only
  rw [e3]
  rw [List.map_cons]
  dsimp only
  have em : PySem.W.minD (PyData.tuple (x.map PyData.int)) (xs.map fun w => PyData.tuple (w.map PyData.int)) = PyData.tuple ((lexMin x xs).map PyData.int) := by
    have h := PySem.W.minD_map (α := PySem.W.Tup Int) ⟨x⟩ (xs.map PySem.W.Tup.mk)
    rw [minOf_tup, List.map_map] at h
    exact h
  refine ⟨⟨?_, ?_, ?_⟩, fun i d h1 h2 => ?_⟩
  · have := PySem.W.alikeAll_datum ((x :: xs).map (PySem.W.Tup.mk (α := Int)))
    rw [← eall] at this
    exact this
  · have : ∀ ws : List (List Int), PyData.canLayAll0 (ws.map fun w => PyData.tuple (w.map PyData.int)) = true := by
      intro ws
      induction ws with
      | nil => simp [PyData.canLayAll0]
      | cons w ws ih =>
        rw [List.map_cons]
        unfold PyData.canLayAll0
        rw [ih]
        unfold PyData.canLay0
        rw [lay_ints]
        rfl
    exact this (x :: xs)
  · have : ∀ ws : List (List Int), PyData.depthAll (ws.map fun w => PyData.tuple (w.map PyData.int)) ≤ 1 := by
      intro ws
      induction ws with
      | nil => simp [PyData.depthAll]
      | cons w ws ih =>
        rw [List.map_cons]
        unfold PyData.depthAll
        unfold PyData.depth
        rw [depth_ints]
        omega
    exact Nat.le_trans (this (x :: xs)) (by decide)
  · rw [em] at h2
    rw [List.getElem?_map] at h1
    cases h3 : (x :: xs)[i]? with
    | none => rw [h3] at h1; cases h1
    | some w =>
      rw [h3] at h1
      cases h1
      have h4 : ((x :: xs).map fun w => PyData.tuple (w.map PyData.int))[i]? = some (PyData.tuple (w.map PyData.int)) := by rw [List.getElem?_map, h3]; rfl
      rw [List.map_cons] at h4
      rw [h4] at h2
      injection h2 with h2
      injection h2 with h2
      rw [map_int_inj' h2]
      exact q
theorem cutD_from {α : Type} (xs : List α) (k : Nat) : cutD xs (some (k : Int)) none = xs.drop k := by
  unfold cutD
  rw [HT.sIx_none, HT.sIx_nat]
  rcases Nat.le_total k xs.length with h | h
  · rw [Nat.min_eq_left h]
    exact List.take_of_length_le (by rw [List.length_drop]; omega)
  · rw [Nat.min_eq_right h, List.drop_length, List.drop_of_length_le h, List.take_nil]
/-- all rotations -/
theorem rots_comp {Φ : Nat → Spec} {ρ : Rho} {i j : Nat} {w : List Int} {μ : Mu} {Q : List D → Mu → Prop} (hl : w.length ≤ 1000000) (hw : ρ[i]? = some (some (tupI w))) (hij : i ≠ j) (hj : j < ρ.length) (q : Q ((rots w).map tupI) μ) :
    compW Φ (.nm j) .nil (.bin .Add (.sl (.v i) (.so (.v j)) .no) (.sl (.v i) .no (.so (.v j)))) (fun _ => True) ρ (rngL 0 w.length) μ Q := by
  refine compL_map (f := fun x => match x with
    | .int k => tupI (rot k.toNat w)
    | x => x) trivial _ (by rw [len_rngL]; exact Nat.le_trans hl (by decide)) (fun x hm R r => ⟨_, rfl, ?_⟩) ?_
  · obtain ⟨k, hk, rfl⟩ := mem_rngL hm
    rw [Int.zero_add] at *
    have h1 : (ρ.set j (some (.int (k : Int))))[i]? = some (some (tupI w)) := by rw [List.getElem?_set_ne (fun e => hij e.symm)]; exact hw
    have h2 : (ρ.set j (some (.int (k : Int))))[j]? = some (some (.int (k : Int))) := List.getElem?_set_self hj
    simp only [↓e_v, ↓e_c, ↓e_bin, ↓e_neg, ↓e_cmp, ↓e_chn, ↓e_and, ↓e_or, ↓e_not, ↓e_ite, ↓e_tup, ↓e_lst, ↓e_ix, ↓e_sl, ↓e_rev, ↓e_call, ↓e_bi, ↓e_isi, ↓e_app, ↓e_ext, ↓e_pop, ↓e_comp, ↓es_nil, ↓es_cons, ↓if_nil, ↓if_cons, ↓o_no, ↓o_so, ↓s_ex', ↓s_ret', ↓s_retN', ↓s_asg', ↓s_sub', ↓s_aug', ↓s_iff', ↓s_whl', ↓s_for', ↓s_pass', ↓s_brk', ↓s_cont', ↓s_raise', ↓ss_nil', ↓ss_cons', ↓i_valE, ↓i_rng1E, ↓i_rng2E, ↓i_zipE, ↓i_enuE, ↓getK_s, ↓truK_t, ↓truK_f, ↓bK_s, ↓asgK_s, ↓atK_s, ↓seqK_s, ↓intsK_s, ↓blsK_s, ↓iteK_t, ↓iteK_f, ↓binD, ↓augD, ↓cmp_eq, ↓cmp_ne, ↓cmp_lt, ↓cmp_le, ↓cmp_gt, ↓cmp_ge, ↓cmp_is, ↓cmp_isn, ↓cmp_isN, ↓cmp_isnN, isNon, ↓ixD_int, ↓ixD_rod, atI0, atI1, atI2, atI3, ↓sl_tup, ↓sl_rol, ↓bi_len_tup, ↓bi_len_rol, ↓bi_len_ref, ↓bi_abs, ↓bi_int, ↓bi_intb, ↓bi_gcd, ↓bi_tup_tup, ↓bi_tup_rol, ↓bi_tup_ref, ↓bi_lst_tup, ↓bi_lst_rol, ↓bi_lst_ref, ↓bi_sum, ↓bi_sum_tup, ↓bi_sum_rol, ↓bi_all, ↓bi_any, ↓bi_max2, ↓bi_min2, tg_nm, tg_tp, tgsD, seqOf_tup, seqOf_rol, seqOf_up, seqL_rol, seqL_up', tru_non, tru_bl, tru_int, tru_tup, tru_rol, tru_up, ↓eq_int, isi_c, isi_int, isi_bl, isi_tup, isi_non, isi_str, isi_rol, tyN_up, tyN, List.getElem?_cons_zero, List.getElem?_cons_succ, List.set_cons_zero, List.set_cons_succ, permA, List.map_cons, List.map_nil, List.getD_cons_zero, List.getD_cons_succ, List.cons_append, List.nil_append, List.append_nil, List.replicate_succ, List.replicate_zero, RtP, ite_true, ite_false, if_true, if_false, Bool.false_eq_true, decide_true, decide_false, Bool.not_true, Bool.not_false, List.length_cons, List.length_nil, h1, h2, cutD_from, cutD_hi]
    refine ⟨?_, ?_⟩
    · rw [List.length_drop, List.length_take, List.length_map]
      exact Nat.le_trans (show w.length - k + min k w.length ≤ 1000000 by omega) (by decide)
    · have r' : R (D.tup ((w.map D.int).drop k ++ (w.map D.int).take k)) μ := by
        rw [← List.map_drop, ← List.map_take, ← List.map_append]
        exact r
      exact r'
  · have e : (rngL 0 w.length).map (fun x => match x with
      | .int k => tupI (rot k.toNat w)
      | x => x) = (rots w).map tupI := by
      unfold rngL rots
      rw [List.map_map, List.map_map]
      refine List.map_congr_left fun k _ => ?_
      simp
    rw [e]
    exact q
/-! circles of letters -/
def kd (x : Int) : Bool := decide (x = 1)
def Circ (w : List Int) : Prop := 2 ≤ w.length ∧ ∀ i, kd (cy w i) ≠ kd (cy w (i + 1))
theorem alt_getD : ∀ w : List Int, alt w = true ↔ ∀ i, i + 1 < w.length → kd (w.getD i 0) ≠ kd (w.getD (i + 1) 0)
  | [] => ⟨fun _ i h => by simp at h, fun _ => rfl⟩
  | [x] => ⟨fun _ i h => by simp at h, fun _ => rfl⟩
  | x :: y :: w => by
    have ih := alt_getD (y :: w)
    unfold alt
    rw [Bool.and_eq_true, bne_iff_ne, ih]
    constructor
    · rintro ⟨h1, h2⟩ i hi
      cases i with
      | zero => exact h1
      | succ i =>
        have := h2 i (by simpa using hi)
        simpa using this
    · intro h
      refine ⟨h 0 (by simp), fun i hi => ?_⟩
      have := h (i + 1) (by simpa using hi)
      simpa using this
theorem Circ.alt {w : List Int} (h : Circ w) : LD.alt w = true := (alt_getD w).mpr fun i hi => by
  have := h.2 i
  unfold cy at this
  rw [Nat.mod_eq_of_lt (by omega), Nat.mod_eq_of_lt hi] at this
  exact this
theorem Circ.rot {w : List Int} (h : Circ w) {j : Nat} (hj : j ≤ w.length) : Circ (LD.rot j w) := by
  have hw : 0 < w.length := by have := h.1; omega
  refine ⟨by rw [rot_len]; exact h.1, fun i => ?_⟩
  rw [cy_rot hj hw, cy_rot hj hw, Nat.add_right_comm]
  exact h.2 _
theorem Circ.rep {w : List Int} (h : Circ w) {k : Nat} (hk : 0 < k) : Circ (LD.rep k w) := by
  have hw : 0 < w.length := by have := h.1; omega
  refine ⟨?_, fun i => ?_⟩
  · rw [rep_len]
    exact Nat.le_trans h.1 (Nat.le_mul_of_pos_left _ hk)
  · rw [cy_rep hw hk, cy_rep hw hk]
    exact h.2 _
theorem Circ.ring {w : List Int} (h : Circ w) : Circ (LD.ring w) := by
  have hw : 0 < w.length := by have := h.1; omega
  obtain ⟨⟨j, hj, q⟩, _⟩ := ring_spec hw
  rw [q]
  exact h.rot (Nat.le_of_lt hj)
theorem Circ.ends {w : List Int} (h : Circ w) : ∃ x m y, w = x :: (m ++ [y]) ∧ decide (x = 1) ≠ decide (y = 1) := by
  obtain ⟨h1, h2⟩ := h
  cases w with
  | nil => simp at h1
  | cons x r =>
    have hr : r ≠ [] := fun e => by subst e; simp at h1
    refine ⟨x, r.dropLast, r.getLast hr, by rw [List.dropLast_concat_getLast], ?_⟩
    have hl : 0 < r.length := List.length_pos_iff.mpr hr
    have := h2 r.length
    unfold cy at this
    rw [List.length_cons, Nat.mod_self, Nat.mod_eq_of_lt (by omega)] at this
    have e1 : (x :: r).getD 0 0 = x := rfl
    have e2 : (x :: r).getD r.length 0 = r.getLast hr := by
      rw [List.getD_eq_getElem?_getD]
      rw [show r.length = (r.length - 1) + 1 by omega, List.getElem?_cons_succ, ← List.getLast?_eq_getElem?, List.getLast?_eq_some_getLast hr]
      rfl
    rw [e1, e2] at this
    exact fun e => this e.symm
theorem circ_of {x y : Int} {m : List Int} (h : LD.alt (x :: (m ++ [y])) = true) (k : decide (x = 1) ≠ decide (y = 1)) : Circ (x :: (m ++ [y])) := by
  have hlen : (x :: (m ++ [y])).length = m.length + 2 := by simp
  refine ⟨by omega, fun i => ?_⟩
  unfold cy
  rw [hlen]
  have hm := Nat.mod_lt i (show 0 < m.length + 2 by omega)
  rw [show (i + 1) % (m.length + 2) = (i % (m.length + 2) + 1) % (m.length + 2) by rw [Nat.mod_add_mod]]
  generalize i % (m.length + 2) = j at *
  rcases Nat.lt_or_ge (j + 1) (m.length + 2) with c | c
  · rw [Nat.mod_eq_of_lt c]
    exact (alt_getD _).mp h j (by omega)
  · have e : j = m.length + 1 := by omega
    subst e
    rw [Nat.mod_self]
    have e1 : (x :: (m ++ [y])).getD 0 0 = x := rfl
    have e2 : (x :: (m ++ [y])).getD (m.length + 1) 0 = y := by
      rw [List.getD_eq_getElem?_getD, List.getElem?_cons_succ, List.getElem?_append_right (Nat.le_refl _)]
      simp
    rw [e1, e2]
    exact fun e => k e.symm
/-! ### the round word -/
def CircN (w : List Int) : Prop := Circ w ∧ w.length ≤ 1000000
def sp_round : Spec := pur (fun w : List Int => [tupI w]) (fun w _ => CircN w) fun w => tupI (ring w)
theorem run_round {w : List Int} {μ : Mu} {X : Str → Mu → Prop} {Q : QD} : runK sp_round [tupI w] μ X Q ↔ CircN w ∧ Q (tupI (ring w)) μ := pur_run inj_w w
theorem ix_first {x : Int} {m : List Int} {μ : Mu} {Q : QD} : ixD (tupI (x :: m)) (.int 0) μ Q = Q (.int x) μ := by
  unfold tupI
  rw [ixD_int, List.map_cons, atI0]; rfl
theorem ix_last {x y : Int} {m : List Int} {μ : Mu} {Q : QD} : ixD (tupI (x :: (m ++ [y]))) (.int (-1)) μ Q = Q (.int y) μ := by
  unfold tupI
  rw [ixD_int, List.map_cons, List.map_append, ← List.cons_append, List.map_cons, List.map_nil, atI_last]; rfl
theorem at_ends {x y : Int} {m : List Int} : atI (D.int x :: (m ++ [y]).map D.int) (-1) = some (.int y) := by
  rw [List.map_append, ← List.cons_append, List.map_cons, List.map_nil, atI_last]
theorem m_round {Φ : Nat → Spec} {i : Nat} : Meets Φ 1 3 (b_round_of i) sp_round := pur_meets inj_w fun w μ h => by
  obtain ⟨h, hl⟩ := h
  obtain ⟨x, m, y, e, hk⟩ := h.ends
  have h2 := h.1
  have hgt : (1 : Int) < ((w.length : Nat) : Int) := by omega
  have hw : 0 < w.length := by omega
  simp only [b_round_of, ↓e_v, ↓e_c, ↓e_bin, ↓e_neg, ↓e_cmp, ↓e_chn, ↓e_and, ↓e_or, ↓e_not, ↓e_ite, ↓e_tup, ↓e_lst, ↓e_ix, ↓e_sl, ↓e_rev, ↓e_call, ↓e_bi, ↓e_isi, ↓e_app, ↓e_ext, ↓e_pop, ↓e_comp, ↓es_nil, ↓es_cons, ↓if_nil, ↓if_cons, ↓o_no, ↓o_so, ↓s_ex', ↓s_ret', ↓s_retN', ↓s_asg', ↓s_sub', ↓s_aug', ↓s_iff', ↓s_whl', ↓s_for', ↓s_pass', ↓s_brk', ↓s_cont', ↓s_raise', ↓ss_nil', ↓ss_cons', ↓i_valE, ↓i_rng1E, ↓i_rng2E, ↓i_zipE, ↓i_enuE, ↓getK_s, ↓truK_t, ↓truK_f, ↓bK_s, ↓asgK_s, ↓atK_s, ↓seqK_s, ↓intsK_s, ↓blsK_s, ↓iteK_t, ↓iteK_f, ↓binD, ↓augD, ↓cmp_eq, ↓cmp_ne, ↓cmp_lt, ↓cmp_le, ↓cmp_gt, ↓cmp_ge, ↓cmp_is, ↓cmp_isn, ↓cmp_isN, ↓cmp_isnN, isNon, ↓ixD_int, ↓ixD_rod, atI0, atI1, atI2, atI3, ↓sl_tup, ↓sl_rol, ↓bi_len_tup, ↓bi_len_rol, ↓bi_len_ref, ↓bi_abs, ↓bi_int, ↓bi_intb, ↓bi_gcd, ↓bi_tup_tup, ↓bi_tup_rol, ↓bi_tup_ref, ↓bi_lst_tup, ↓bi_lst_rol, ↓bi_lst_ref, ↓bi_sum, ↓bi_sum_tup, ↓bi_sum_rol, ↓bi_all, ↓bi_any, ↓bi_max2, ↓bi_min2, tg_nm, tg_tp, tgsD, seqOf_tup, seqOf_rol, seqOf_up, seqL_rol, seqL_up', tru_non, tru_bl, tru_int, tru_tup, tru_rol, tru_up, ↓eq_int, isi_c, isi_int, isi_bl, isi_tup, isi_non, isi_str, isi_rol, tyN_up, tyN, List.getElem?_cons_zero, List.getElem?_cons_succ, List.set_cons_zero, List.set_cons_succ, permA, List.map_cons, List.map_nil, List.getD_cons_zero, List.getD_cons_succ, List.cons_append, List.nil_append, List.append_nil, List.replicate_succ, List.replicate_zero, RtP, ite_true, ite_false, if_true, if_false, Bool.false_eq_true, decide_true, decide_false, Bool.not_true, Bool.not_false, List.length_cons, List.length_nil]
  refine whlW_ind (fun _ ρ μ' => ρ = [some (tupI w), some (tupI w), none] ∧ μ' = μ) 0 ⟨rfl, rfl⟩ ?_
  rintro k ρ μ' ⟨rfl, rfl⟩
  simp only [↓e_v, ↓e_c, ↓e_bin, ↓e_neg, ↓e_cmp, ↓e_chn, ↓e_and, ↓e_or, ↓e_not, ↓e_ite, ↓e_tup, ↓e_lst, ↓e_ix, ↓e_sl, ↓e_rev, ↓e_call, ↓e_bi, ↓e_isi, ↓e_app, ↓e_ext, ↓e_pop, ↓e_comp, ↓es_nil, ↓es_cons, ↓if_nil, ↓if_cons, ↓o_no, ↓o_so, ↓s_ex', ↓s_ret', ↓s_retN', ↓s_asg', ↓s_sub', ↓s_aug', ↓s_iff', ↓s_whl', ↓s_for', ↓s_pass', ↓s_brk', ↓s_cont', ↓s_raise', ↓ss_nil', ↓ss_cons', ↓i_valE, ↓i_rng1E, ↓i_rng2E, ↓i_zipE, ↓i_enuE, ↓getK_s, ↓truK_t, ↓truK_f, ↓bK_s, ↓asgK_s, ↓atK_s, ↓seqK_s, ↓intsK_s, ↓blsK_s, ↓iteK_t, ↓iteK_f, ↓binD, ↓augD, ↓cmp_eq, ↓cmp_ne, ↓cmp_lt, ↓cmp_le, ↓cmp_gt, ↓cmp_ge, ↓cmp_is, ↓cmp_isn, ↓cmp_isN, ↓cmp_isnN, isNon, ↓ixD_int, ↓ixD_rod, atI0, atI1, atI2, atI3, ↓sl_tup, ↓sl_rol, ↓bi_len_tup, ↓bi_len_rol, ↓bi_len_ref, ↓bi_abs, ↓bi_int, ↓bi_intb, ↓bi_gcd, ↓bi_tup_tup, ↓bi_tup_rol, ↓bi_tup_ref, ↓bi_lst_tup, ↓bi_lst_rol, ↓bi_lst_ref, ↓bi_sum, ↓bi_sum_tup, ↓bi_sum_rol, ↓bi_all, ↓bi_any, ↓bi_max2, ↓bi_min2, tg_nm, tg_tp, tgsD, seqOf_tup, seqOf_rol, seqOf_up, seqL_rol, seqL_up', tru_non, tru_bl, tru_int, tru_tup, tru_rol, tru_up, ↓eq_int, isi_c, isi_int, isi_bl, isi_tup, isi_non, isi_str, isi_rol, tyN_up, tyN, List.getElem?_cons_zero, List.getElem?_cons_succ, List.set_cons_zero, List.set_cons_succ, permA, List.map_cons, List.map_nil, List.getD_cons_zero, List.getD_cons_succ, List.cons_append, List.nil_append, List.append_nil, List.replicate_succ, List.replicate_zero, RtP, ite_true, ite_false, if_true, if_false, Bool.false_eq_true, decide_true, decide_false, Bool.not_true, Bool.not_false, List.length_cons, List.length_nil, List.length_map, decide_eq_true hgt, e_negc]
  rw [e]
  simp only [↓ix_first, at_ends, ↓e_v, ↓e_c, ↓e_bin, ↓e_neg, ↓e_cmp, ↓e_chn, ↓e_and, ↓e_or, ↓e_not, ↓e_ite, ↓e_tup, ↓e_lst, ↓e_ix, ↓e_sl, ↓e_rev, ↓e_call, ↓e_bi, ↓e_isi, ↓e_app, ↓e_ext, ↓e_pop, ↓e_comp, ↓es_nil, ↓es_cons, ↓if_nil, ↓if_cons, ↓o_no, ↓o_so, ↓s_ex', ↓s_ret', ↓s_retN', ↓s_asg', ↓s_sub', ↓s_aug', ↓s_iff', ↓s_whl', ↓s_for', ↓s_pass', ↓s_brk', ↓s_cont', ↓s_raise', ↓ss_nil', ↓ss_cons', ↓i_valE, ↓i_rng1E, ↓i_rng2E, ↓i_zipE, ↓i_enuE, ↓getK_s, ↓truK_t, ↓truK_f, ↓bK_s, ↓asgK_s, ↓atK_s, ↓seqK_s, ↓intsK_s, ↓blsK_s, ↓iteK_t, ↓iteK_f, ↓binD, ↓augD, ↓cmp_eq, ↓cmp_ne, ↓cmp_lt, ↓cmp_le, ↓cmp_gt, ↓cmp_ge, ↓cmp_is, ↓cmp_isn, ↓cmp_isN, ↓cmp_isnN, isNon, ↓ixD_int, ↓ixD_rod, atI0, atI1, atI2, atI3, ↓sl_tup, ↓sl_rol, ↓bi_len_tup, ↓bi_len_rol, ↓bi_len_ref, ↓bi_abs, ↓bi_int, ↓bi_intb, ↓bi_gcd, ↓bi_tup_tup, ↓bi_tup_rol, ↓bi_tup_ref, ↓bi_lst_tup, ↓bi_lst_rol, ↓bi_lst_ref, ↓bi_sum, ↓bi_sum_tup, ↓bi_sum_rol, ↓bi_all, ↓bi_any, ↓bi_max2, ↓bi_min2, tg_nm, tg_tp, tgsD, seqOf_tup, seqOf_rol, seqOf_up, seqL_rol, seqL_up', tru_non, tru_bl, tru_int, tru_tup, tru_rol, tru_up, ↓eq_int, isi_c, isi_int, isi_bl, isi_tup, isi_non, isi_str, isi_rol, tyN_up, tyN, List.getElem?_cons_zero, List.getElem?_cons_succ, List.set_cons_zero, List.set_cons_succ, permA, List.map_cons, List.map_nil, List.getD_cons_zero, List.getD_cons_succ, List.cons_append, List.nil_append, List.append_nil, List.replicate_succ, List.replicate_zero, RtP, ite_true, ite_false, if_true, if_false, Bool.false_eq_true, decide_true, decide_false, Bool.not_true, Bool.not_false, List.length_cons, List.length_nil]
  refine eq_bl.mpr ?_
  simp only [decide_eq_false hk, ↓e_v, ↓e_c, ↓e_bin, ↓e_neg, ↓e_cmp, ↓e_chn, ↓e_and, ↓e_or, ↓e_not, ↓e_ite, ↓e_tup, ↓e_lst, ↓e_ix, ↓e_sl, ↓e_rev, ↓e_call, ↓e_bi, ↓e_isi, ↓e_app, ↓e_ext, ↓e_pop, ↓e_comp, ↓es_nil, ↓es_cons, ↓if_nil, ↓if_cons, ↓o_no, ↓o_so, ↓s_ex', ↓s_ret', ↓s_retN', ↓s_asg', ↓s_sub', ↓s_aug', ↓s_iff', ↓s_whl', ↓s_for', ↓s_pass', ↓s_brk', ↓s_cont', ↓s_raise', ↓ss_nil', ↓ss_cons', ↓i_valE, ↓i_rng1E, ↓i_rng2E, ↓i_zipE, ↓i_enuE, ↓getK_s, ↓truK_t, ↓truK_f, ↓bK_s, ↓asgK_s, ↓atK_s, ↓seqK_s, ↓intsK_s, ↓blsK_s, ↓iteK_t, ↓iteK_f, ↓binD, ↓augD, ↓cmp_eq, ↓cmp_ne, ↓cmp_lt, ↓cmp_le, ↓cmp_gt, ↓cmp_ge, ↓cmp_is, ↓cmp_isn, ↓cmp_isN, ↓cmp_isnN, isNon, ↓ixD_int, ↓ixD_rod, atI0, atI1, atI2, atI3, ↓sl_tup, ↓sl_rol, ↓bi_len_tup, ↓bi_len_rol, ↓bi_len_ref, ↓bi_abs, ↓bi_int, ↓bi_intb, ↓bi_gcd, ↓bi_tup_tup, ↓bi_tup_rol, ↓bi_tup_ref, ↓bi_lst_tup, ↓bi_lst_rol, ↓bi_lst_ref, ↓bi_sum, ↓bi_sum_tup, ↓bi_sum_rol, ↓bi_all, ↓bi_any, ↓bi_max2, ↓bi_min2, tg_nm, tg_tp, tgsD, seqOf_tup, seqOf_rol, seqOf_up, seqL_rol, seqL_up', tru_non, tru_bl, tru_int, tru_tup, tru_rol, tru_up, ↓eq_int, isi_c, isi_int, isi_bl, isi_tup, isi_non, isi_str, isi_rol, tyN_up, tyN, List.getElem?_cons_zero, List.getElem?_cons_succ, List.set_cons_zero, List.set_cons_succ, permA, List.map_cons, List.map_nil, List.getD_cons_zero, List.getD_cons_succ, List.cons_append, List.nil_append, List.append_nil, List.replicate_succ, List.replicate_zero, RtP, ite_true, ite_false, if_true, if_false, Bool.false_eq_true, decide_true, decide_false, Bool.not_true, Bool.not_false, List.length_cons, List.length_nil]
  rw [← e]
  have hmax : (if ((w.length : Nat) : Int) > 1 then ((w.length : Nat) : Int) else 1) = (w.length : Int) := if_pos hgt
  have hlen : (m ++ [y]).length + 1 = w.length := by rw [e]; rfl
  simp only [List.length_map, hlen, hmax]
  refine ⟨⟨by omega, by omega⟩, ?_⟩
  rw [Int.toNat_natCast]
  refine rots_comp (i := 1) (j := 2) hl rfl (by decide) (by simp [wipeR]) ?_
  intro p hp
  obtain ⟨r, rs, er⟩ := rots_ne hw
  have e9 : ring w = lexMin r rs := by unfold ring; rw [er]
  rw [er]
  simp only [↓e_v, ↓e_c, ↓e_bin, ↓e_neg, ↓e_cmp, ↓e_chn, ↓e_and, ↓e_or, ↓e_not, ↓e_ite, ↓e_tup, ↓e_lst, ↓e_ix, ↓e_sl, ↓e_rev, ↓e_call, ↓e_bi, ↓e_isi, ↓e_app, ↓e_ext, ↓e_pop, ↓e_comp, ↓es_nil, ↓es_cons, ↓if_nil, ↓if_cons, ↓o_no, ↓o_so, ↓s_ex', ↓s_ret', ↓s_retN', ↓s_asg', ↓s_sub', ↓s_aug', ↓s_iff', ↓s_whl', ↓s_for', ↓s_pass', ↓s_brk', ↓s_cont', ↓s_raise', ↓ss_nil', ↓ss_cons', ↓i_valE, ↓i_rng1E, ↓i_rng2E, ↓i_zipE, ↓i_enuE, ↓getK_s, ↓truK_t, ↓truK_f, ↓bK_s, ↓asgK_s, ↓atK_s, ↓seqK_s, ↓intsK_s, ↓blsK_s, ↓iteK_t, ↓iteK_f, ↓binD, ↓augD, ↓cmp_eq, ↓cmp_ne, ↓cmp_lt, ↓cmp_le, ↓cmp_gt, ↓cmp_ge, ↓cmp_is, ↓cmp_isn, ↓cmp_isN, ↓cmp_isnN, isNon, ↓ixD_int, ↓ixD_rod, atI0, atI1, atI2, atI3, ↓sl_tup, ↓sl_rol, ↓bi_len_tup, ↓bi_len_rol, ↓bi_len_ref, ↓bi_abs, ↓bi_int, ↓bi_intb, ↓bi_gcd, ↓bi_tup_tup, ↓bi_tup_rol, ↓bi_tup_ref, ↓bi_lst_tup, ↓bi_lst_rol, ↓bi_lst_ref, ↓bi_sum, ↓bi_sum_tup, ↓bi_sum_rol, ↓bi_all, ↓bi_any, ↓bi_max2, ↓bi_min2, tg_nm, tg_tp, tgsD, seqOf_tup, seqOf_rol, seqOf_up, seqL_rol, seqL_up', tru_non, tru_bl, tru_int, tru_tup, tru_rol, tru_up, ↓eq_int, isi_c, isi_int, isi_bl, isi_tup, isi_non, isi_str, isi_rol, tyN_up, tyN, List.getElem?_cons_zero, List.getElem?_cons_succ, List.set_cons_zero, List.set_cons_succ, permA, List.map_cons, List.map_nil, List.getD_cons_zero, List.getD_cons_succ, List.cons_append, List.nil_append, List.append_nil, List.replicate_succ, List.replicate_zero, RtP, ite_true, ite_false, if_true, if_false, Bool.false_eq_true, decide_true, decide_false, Bool.not_true, Bool.not_false, List.length_cons, List.length_nil]
  refine min_tups up_same ?_
  rw [← e9]
  exact ⟨.up hp, rfl⟩
theorem m_round_word {Φ : Nat → Spec} {i j : Nat} (hi : Φ i = sp_round) (hj : Φ j = sp_sure wordB) : Meets Φ 1 1 (b_round_word i j) (pur (fun w : List Int => [tupI w]) (fun w _ => CircN w ∧ Lt3 w) fun w => tupI (ring w)) := pur_meets inj_w fun w μ h => by
  simp only [b_round_word, ↓e_v, ↓e_c, ↓e_bin, ↓e_neg, ↓e_cmp, ↓e_chn, ↓e_and, ↓e_or, ↓e_not, ↓e_ite, ↓e_tup, ↓e_lst, ↓e_ix, ↓e_sl, ↓e_rev, ↓e_call, ↓e_bi, ↓e_isi, ↓e_app, ↓e_ext, ↓e_pop, ↓e_comp, ↓es_nil, ↓es_cons, ↓if_nil, ↓if_cons, ↓o_no, ↓o_so, ↓s_ex', ↓s_ret', ↓s_retN', ↓s_asg', ↓s_sub', ↓s_aug', ↓s_iff', ↓s_whl', ↓s_for', ↓s_pass', ↓s_brk', ↓s_cont', ↓s_raise', ↓ss_nil', ↓ss_cons', ↓i_valE, ↓i_rng1E, ↓i_rng2E, ↓i_zipE, ↓i_enuE, ↓getK_s, ↓truK_t, ↓truK_f, ↓bK_s, ↓asgK_s, ↓atK_s, ↓seqK_s, ↓intsK_s, ↓blsK_s, ↓iteK_t, ↓iteK_f, ↓binD, ↓augD, ↓cmp_eq, ↓cmp_ne, ↓cmp_lt, ↓cmp_le, ↓cmp_gt, ↓cmp_ge, ↓cmp_is, ↓cmp_isn, ↓cmp_isN, ↓cmp_isnN, isNon, ↓ixD_int, ↓ixD_rod, atI0, atI1, atI2, atI3, ↓sl_tup, ↓sl_rol, ↓bi_len_tup, ↓bi_len_rol, ↓bi_len_ref, ↓bi_abs, ↓bi_int, ↓bi_intb, ↓bi_gcd, ↓bi_tup_tup, ↓bi_tup_rol, ↓bi_tup_ref, ↓bi_lst_tup, ↓bi_lst_rol, ↓bi_lst_ref, ↓bi_sum, ↓bi_sum_tup, ↓bi_sum_rol, ↓bi_all, ↓bi_any, ↓bi_max2, ↓bi_min2, tg_nm, tg_tp, tgsD, seqOf_tup, seqOf_rol, seqOf_up, seqL_rol, seqL_up', tru_non, tru_bl, tru_int, tru_tup, tru_rol, tru_up, ↓eq_int, isi_c, isi_int, isi_bl, isi_tup, isi_non, isi_str, isi_rol, tyN_up, tyN, List.getElem?_cons_zero, List.getElem?_cons_succ, List.set_cons_zero, List.set_cons_succ, permA, List.map_cons, List.map_nil, List.getD_cons_zero, List.getD_cons_succ, List.cons_append, List.nil_append, List.append_nil, List.replicate_succ, List.replicate_zero, RtP, ite_true, ite_false, if_true, if_false, Bool.false_eq_true, decide_true, decide_false, Bool.not_true, Bool.not_false, List.length_cons, List.length_nil, hi, hj, run_sure, run_round]
  refine ⟨⟨h.1.2, ?_⟩, h.1, .refl, trivial⟩
  unfold wordB
  rw [rowB_lt h.2, h.1.1.alt]
  rfl
end LD
namespace LD
open PySem PySem.Spec PyProof.Rows L2
abbrev b__law_flat : Ss := (.cons (.asg (.nm 1) (.lst .nil)) (.cons (.for (.nm 2) (.val (.v 0)) (.cons (.ex (.ext (.v 1) (.bi .list (.cons (.v 2) .nil)))) .nil)) (.cons (.ret (.v 1)) .nil)))
theorem rngL_succ {lo : Int} {n : Nat} : rngL lo (n + 1) = .int lo :: rngL (lo + 1) n := by
  unfold rngL
  rw [List.range_succ_eq_map, List.map_cons, List.map_map]
  congr 1
  · simp
  · refine List.map_congr_left fun k _ => ?_
    simp only [Function.comp, D.int.injEq]
    omega
def sp_roundw : Spec := pur (fun w : List Int => [tupI w]) (fun w _ => CircN w ∧ Lt3 w) fun w => tupI (ring w)
theorem run_roundw {w : List Int} {μ : Mu} {X : Str → Mu → Prop} {Q : QD} : runK sp_roundw [tupI w] μ X Q ↔ (CircN w ∧ Lt3 w) ∧ Q (tupI (ring w)) μ := pur_run inj_w w
/-- a round word -/
def RW (w : List Int) : Prop := CircN w ∧ Lt3 w ∧ ring w = w
theorem RW.wordB {w : List Int} (h : RW w) : LD.wordB w = true := by
  unfold LD.wordB
  rw [rowB_lt h.2.1, h.1.1.alt]
  rfl
theorem lt3_rot {w : List Int} {j : Nat} (h : Lt3 w) : Lt3 (rot j w) := fun x hx => by
  unfold rot at hx
  rcases List.mem_append.mp hx with q | q
  · exact h x (List.mem_of_mem_drop q)
  · exact h x (List.mem_of_mem_take q)
theorem rw_ring {w : List Int} (h : CircN w) (l : Lt3 w) : RW (ring w) := by
  have hw : 0 < w.length := by have := h.1.1; omega
  refine ⟨⟨h.1.ring, by rw [ring_len hw]; exact h.2⟩, ?_, ?_⟩
  · obtain ⟨⟨j, hj, q⟩, _⟩ := ring_spec hw
    rw [q]
    exact lt3_rot l
  · obtain ⟨⟨j, hj, q⟩, _⟩ := ring_spec hw
    rw [q, ring_rot hj, q]
theorem tupI_len {w : List Int} : (w.map D.int).length = w.length := List.length_map ..
theorem m_class_move {Φ : Nat → Spec} {i j k l n : Nat} (hi : Φ i = sp_tupled (n + 1)) (hj : Φ j = sp_row wordB) (hk : Φ k = sp_round) (hl : Φ l = sp_move_in) :
    Meets Φ 1 2 (b_class_move i j k l) (pur (fun w : List Int => [tupI w]) (fun w _ => RW w ∧ w.length ≤ 29000) fun w => v4 (mvs w)) := pur_meets inj_w fun w μ h => by
  obtain ⟨h, hlen⟩ := h
  simp only [b_class_move, ↓e_v, ↓e_c, ↓e_bin, ↓e_neg, ↓e_cmp, ↓e_chn, ↓e_and, ↓e_or, ↓e_not, ↓e_ite, ↓e_tup, ↓e_lst, ↓e_ix, ↓e_sl, ↓e_rev, ↓e_call, ↓e_bi, ↓e_isi, ↓e_app, ↓e_ext, ↓e_pop, ↓e_comp, ↓es_nil, ↓es_cons, ↓if_nil, ↓if_cons, ↓o_no, ↓o_so, ↓s_ex', ↓s_ret', ↓s_retN', ↓s_asg', ↓s_sub', ↓s_aug', ↓s_iff', ↓s_whl', ↓s_for', ↓s_pass', ↓s_brk', ↓s_cont', ↓s_raise', ↓ss_nil', ↓ss_cons', ↓i_valE, ↓i_rng1E, ↓i_rng2E, ↓i_zipE, ↓i_enuE, ↓getK_s, ↓truK_t, ↓truK_f, ↓bK_s, ↓asgK_s, ↓atK_s, ↓seqK_s, ↓intsK_s, ↓blsK_s, ↓iteK_t, ↓iteK_f, ↓binD, ↓augD, ↓cmp_eq, ↓cmp_ne, ↓cmp_lt, ↓cmp_le, ↓cmp_gt, ↓cmp_ge, ↓cmp_is, ↓cmp_isn, ↓cmp_isN, ↓cmp_isnN, isNon, ↓ixD_int, ↓ixD_rod, atI0, atI1, atI2, atI3, ↓sl_tup, ↓sl_rol, ↓bi_len_tup, ↓bi_len_rol, ↓bi_len_ref, ↓bi_abs, ↓bi_int, ↓bi_intb, ↓bi_gcd, ↓bi_tup_tup, ↓bi_tup_rol, ↓bi_tup_ref, ↓bi_lst_tup, ↓bi_lst_rol, ↓bi_lst_ref, ↓bi_sum, ↓bi_sum_tup, ↓bi_sum_rol, ↓bi_all, ↓bi_any, ↓bi_max2, ↓bi_min2, tg_nm, tg_tp, tgsD, seqOf_tup, seqOf_rol, seqOf_up, seqL_rol, seqL_up', tru_non, tru_bl, tru_int, tru_tup, tru_rol, tru_up, ↓eq_int, isi_c, isi_int, isi_bl, isi_tup, isi_non, isi_str, isi_rol, tyN_up, tyN, List.getElem?_cons_zero, List.getElem?_cons_succ, List.set_cons_zero, List.set_cons_succ, permA, List.map_cons, List.map_nil, List.getD_cons_zero, List.getD_cons_succ, List.cons_append, List.nil_append, List.append_nil, List.replicate_succ, List.replicate_zero, RtP, ite_true, ite_false, if_true, if_false, Bool.false_eq_true, decide_true, decide_false, Bool.not_true, Bool.not_false, List.length_cons, List.length_nil, hi, hj, hk, hl, run_tupled, plain_ints h.1.2, run_row, h.wordB, true_and, run_round, h.2.2, Bool.not_true]
  refine ⟨h.1.2, h.1, eq_tints ?_⟩
  simp only [↓e_v, ↓e_c, ↓e_bin, ↓e_neg, ↓e_cmp, ↓e_chn, ↓e_and, ↓e_or, ↓e_not, ↓e_ite, ↓e_tup, ↓e_lst, ↓e_ix, ↓e_sl, ↓e_rev, ↓e_call, ↓e_bi, ↓e_isi, ↓e_app, ↓e_ext, ↓e_pop, ↓e_comp, ↓es_nil, ↓es_cons, ↓if_nil, ↓if_cons, ↓o_no, ↓o_so, ↓s_ex', ↓s_ret', ↓s_retN', ↓s_asg', ↓s_sub', ↓s_aug', ↓s_iff', ↓s_whl', ↓s_for', ↓s_pass', ↓s_brk', ↓s_cont', ↓s_raise', ↓ss_nil', ↓ss_cons', ↓i_valE, ↓i_rng1E, ↓i_rng2E, ↓i_zipE, ↓i_enuE, ↓getK_s, ↓truK_t, ↓truK_f, ↓bK_s, ↓asgK_s, ↓atK_s, ↓seqK_s, ↓intsK_s, ↓blsK_s, ↓iteK_t, ↓iteK_f, ↓binD, ↓augD, ↓cmp_eq, ↓cmp_ne, ↓cmp_lt, ↓cmp_le, ↓cmp_gt, ↓cmp_ge, ↓cmp_is, ↓cmp_isn, ↓cmp_isN, ↓cmp_isnN, isNon, ↓ixD_int, ↓ixD_rod, atI0, atI1, atI2, atI3, ↓sl_tup, ↓sl_rol, ↓bi_len_tup, ↓bi_len_rol, ↓bi_len_ref, ↓bi_abs, ↓bi_int, ↓bi_intb, ↓bi_gcd, ↓bi_tup_tup, ↓bi_tup_rol, ↓bi_tup_ref, ↓bi_lst_tup, ↓bi_lst_rol, ↓bi_lst_ref, ↓bi_sum, ↓bi_sum_tup, ↓bi_sum_rol, ↓bi_all, ↓bi_any, ↓bi_max2, ↓bi_min2, tg_nm, tg_tp, tgsD, seqOf_tup, seqOf_rol, seqOf_up, seqL_rol, seqL_up', tru_non, tru_bl, tru_int, tru_tup, tru_rol, tru_up, ↓eq_int, isi_c, isi_int, isi_bl, isi_tup, isi_non, isi_str, isi_rol, tyN_up, tyN, List.getElem?_cons_zero, List.getElem?_cons_succ, List.set_cons_zero, List.set_cons_succ, permA, List.map_cons, List.map_nil, List.getD_cons_zero, List.getD_cons_succ, List.cons_append, List.nil_append, List.append_nil, List.replicate_succ, List.replicate_zero, RtP, ite_true, ite_false, if_true, if_false, Bool.false_eq_true, decide_true, decide_false, Bool.not_true, Bool.not_false, List.length_cons, List.length_nil, hl, run_move_in]
  exact ⟨⟨h.2.1, hlen⟩, .refl, trivial⟩
def sp_class_move : Spec := pur (fun w : List Int => [tupI w]) (fun w _ => RW w ∧ w.length ≤ 29000) fun w => v4 (mvs w)
theorem run_class_move {w : List Int} {μ : Mu} {X : Str → Mu → Prop} {Q : QD} : runK sp_class_move [tupI w] μ X Q ↔ (RW w ∧ w.length ≤ 29000) ∧ Q (v4 (mvs w)) μ := pur_run inj_w w
def sp_sizes_by : Spec := pur (fun w : List Int => [tupI w]) (fun w _ => (Lt3 w ∧ alt w = true) ∧ w.length ≤ 29000) fun w => .int ((mvs w).1 + (mvs w).2.2.2).natAbs
theorem run_sizes_by {w : List Int} {μ : Mu} {X : Str → Mu → Prop} {Q : QD} : runK sp_sizes_by [tupI w] μ X Q ↔ ((Lt3 w ∧ alt w = true) ∧ w.length ≤ 29000) ∧ Q (.int ((mvs w).1 + (mvs w).2.2.2).natAbs) μ := pur_run inj_w w
theorem m_sizes_by {Φ : Nat → Spec} {i j k l n : Nat} (hi : Φ i = sp_tupled (n + 1)) (hj : Φ j = sp_row wordB) (hk : Φ k = sp_mv_size0) (hl : Φ l = sp_move_in) :
    Meets Φ 1 2 (b_sizes_by i j k l) sp_sizes_by := pur_meets inj_w fun w μ h => by
  obtain ⟨⟨h1, h2⟩, hlen⟩ := h
  have hb : wordB w = true := by unfold wordB; rw [rowB_lt h1, h2]; rfl
  simp only [b_sizes_by, ↓e_v, ↓e_c, ↓e_bin, ↓e_neg, ↓e_cmp, ↓e_chn, ↓e_and, ↓e_or, ↓e_not, ↓e_ite, ↓e_tup, ↓e_lst, ↓e_ix, ↓e_sl, ↓e_rev, ↓e_call, ↓e_bi, ↓e_isi, ↓e_app, ↓e_ext, ↓e_pop, ↓e_comp, ↓es_nil, ↓es_cons, ↓if_nil, ↓if_cons, ↓o_no, ↓o_so, ↓s_ex', ↓s_ret', ↓s_retN', ↓s_asg', ↓s_sub', ↓s_aug', ↓s_iff', ↓s_whl', ↓s_for', ↓s_pass', ↓s_brk', ↓s_cont', ↓s_raise', ↓ss_nil', ↓ss_cons', ↓i_valE, ↓i_rng1E, ↓i_rng2E, ↓i_zipE, ↓i_enuE, ↓getK_s, ↓truK_t, ↓truK_f, ↓bK_s, ↓asgK_s, ↓atK_s, ↓seqK_s, ↓intsK_s, ↓blsK_s, ↓iteK_t, ↓iteK_f, ↓binD, ↓augD, ↓cmp_eq, ↓cmp_ne, ↓cmp_lt, ↓cmp_le, ↓cmp_gt, ↓cmp_ge, ↓cmp_is, ↓cmp_isn, ↓cmp_isN, ↓cmp_isnN, isNon, ↓ixD_int, ↓ixD_rod, atI0, atI1, atI2, atI3, ↓sl_tup, ↓sl_rol, ↓bi_len_tup, ↓bi_len_rol, ↓bi_len_ref, ↓bi_abs, ↓bi_int, ↓bi_intb, ↓bi_gcd, ↓bi_tup_tup, ↓bi_tup_rol, ↓bi_tup_ref, ↓bi_lst_tup, ↓bi_lst_rol, ↓bi_lst_ref, ↓bi_sum, ↓bi_sum_tup, ↓bi_sum_rol, ↓bi_all, ↓bi_any, ↓bi_max2, ↓bi_min2, tg_nm, tg_tp, tgsD, seqOf_tup, seqOf_rol, seqOf_up, seqL_rol, seqL_up', tru_non, tru_bl, tru_int, tru_tup, tru_rol, tru_up, ↓eq_int, isi_c, isi_int, isi_bl, isi_tup, isi_non, isi_str, isi_rol, tyN_up, tyN, List.getElem?_cons_zero, List.getElem?_cons_succ, List.set_cons_zero, List.set_cons_succ, permA, List.map_cons, List.map_nil, List.getD_cons_zero, List.getD_cons_succ, List.cons_append, List.nil_append, List.append_nil, List.replicate_succ, List.replicate_zero, RtP, ite_true, ite_false, if_true, if_false, Bool.false_eq_true, decide_true, decide_false, Bool.not_true, Bool.not_false, List.length_cons, List.length_nil, hi, hj, hk, hl, run_tupled, plain_ints (show w.length ≤ 1000000 by omega), run_row, hb, true_and, run_move_in, run_mv_size0, Bool.not_true]
  exact ⟨by omega, ⟨h1, hlen⟩, .refl, trivial⟩
/-! how often -/
def PerB (w : List Int) (d : Nat) : Bool := decide (w.length % d = 0) && decide (rep (w.length / d) (w.take d) = w)
def lpF (w : List Int) : Nat → Nat → Nat
  | _, 0 => w.length
  | d, n + 1 => if PerB w d = true then d else lpF w (d + 1) n
def lp (w : List Int) : Nat := lpF w 1 w.length
theorem lpF_spec (w : List Int) : ∀ (n d : Nat), d + n = w.length + 1 → 0 < n → 0 < d → PerB w (lpF w d n) = true ∧ d ≤ lpF w d n ∧ lpF w d n ≤ w.length ∧ ∀ e, d ≤ e → e < lpF w d n → PerB w e = false
  | 0, d, h, h0, _ => by omega
  | n + 1, d, h, _, hd => by
    unfold lpF
    by_cases c : PerB w d = true
    · rw [if_pos c]
      exact ⟨c, Nat.le_refl _, by omega, fun e h1 h2 => by omega⟩
    · rw [if_neg c]
      by_cases hn : 0 < n
      · obtain ⟨g1, g2, g3, g4⟩ := lpF_spec w n (d + 1) (by omega) hn (by omega)
        refine ⟨g1, by omega, g3, fun e h1 h2 => ?_⟩
        rcases Nat.lt_or_ge d e with q | q
        · exact g4 e q h2
        · have : e = d := by omega
          subst this
          simpa using c
      · exfalso
        have e : d = w.length := by omega
        apply c
        unfold PerB
        subst e
        rw [Nat.mod_self, Nat.div_self hd, List.take_length]
        simp [rep]
def sp_repeats : Spec := pur (fun w : List Int => [tupI w]) (fun w _ => 1 ≤ w.length ∧ w.length ≤ 1000) fun w => .int ((w.length / lp w : Nat) : Int)
theorem run_repeats {w : List Int} {μ : Mu} {X : Str → Mu → Prop} {Q : QD} : runK sp_repeats [tupI w] μ X Q ↔ (1 ≤ w.length ∧ w.length ≤ 1000) ∧ Q (.int ((w.length / lp w : Nat) : Int)) μ := pur_run inj_w w
theorem rep_map (k : Nat) (w : List Int) : (List.replicate k (w.map D.int)).flatten = (rep k w).map D.int := by
  unfold rep
  rw [List.map_flatten, List.map_replicate]
theorem mulT_rep {w : List Int} {k : Nat} {μ : Mu} {Q : QD} (h1 : 1 ≤ k) (h2 : k ≤ 1000) (h3 : w.length ≤ 1000) (h4 : w ≠ []) (q : Q (tupI (rep k w)) μ) : mulT (w.map D.int) (k : Int) μ Q := by
  unfold mulT
  by_cases c : (k : Int) = 1
  · rw [if_pos c]
    have : k = 1 := by omega
    subst this
    rw [show rep 1 w = w by simp [rep]] at q
    exact q
  · rw [if_neg c]
    refine ⟨⟨fun e => h4 (List.map_eq_nil_iff.mp e), by omega, by omega, by rw [List.length_map]; exact h3⟩, ?_⟩
    rw [Int.toNat_natCast, rep_map]
    exact q
theorem m_repeats {Φ : Nat → Spec} : Meets Φ 1 2 b_repeats_of sp_repeats := pur_meets inj_w fun w μ h => by
  obtain ⟨h1, h2⟩ := h
  simp only [b_repeats_of, ↓e_v, ↓e_c, ↓e_bin, ↓e_neg, ↓e_cmp, ↓e_chn, ↓e_and, ↓e_or, ↓e_not, ↓e_ite, ↓e_tup, ↓e_lst, ↓e_ix, ↓e_sl, ↓e_rev, ↓e_call, ↓e_bi, ↓e_isi, ↓e_app, ↓e_ext, ↓e_pop, ↓e_comp, ↓es_nil, ↓es_cons, ↓if_nil, ↓if_cons, ↓o_no, ↓o_so, ↓s_ex', ↓s_ret', ↓s_retN', ↓s_asg', ↓s_sub', ↓s_aug', ↓s_iff', ↓s_whl', ↓s_for', ↓s_pass', ↓s_brk', ↓s_cont', ↓s_raise', ↓ss_nil', ↓ss_cons', ↓i_valE, ↓i_rng1E, ↓i_rng2E, ↓i_zipE, ↓i_enuE, ↓getK_s, ↓truK_t, ↓truK_f, ↓bK_s, ↓asgK_s, ↓atK_s, ↓seqK_s, ↓intsK_s, ↓blsK_s, ↓iteK_t, ↓iteK_f, ↓binD, ↓augD, ↓cmp_eq, ↓cmp_ne, ↓cmp_lt, ↓cmp_le, ↓cmp_gt, ↓cmp_ge, ↓cmp_is, ↓cmp_isn, ↓cmp_isN, ↓cmp_isnN, isNon, ↓ixD_int, ↓ixD_rod, atI0, atI1, atI2, atI3, ↓sl_tup, ↓sl_rol, ↓bi_len_tup, ↓bi_len_rol, ↓bi_len_ref, ↓bi_abs, ↓bi_int, ↓bi_intb, ↓bi_gcd, ↓bi_tup_tup, ↓bi_tup_rol, ↓bi_tup_ref, ↓bi_lst_tup, ↓bi_lst_rol, ↓bi_lst_ref, ↓bi_sum, ↓bi_sum_tup, ↓bi_sum_rol, ↓bi_all, ↓bi_any, ↓bi_max2, ↓bi_min2, tg_nm, tg_tp, tgsD, seqOf_tup, seqOf_rol, seqOf_up, seqL_rol, seqL_up', tru_non, tru_bl, tru_int, tru_tup, tru_rol, tru_up, ↓eq_int, isi_c, isi_int, isi_bl, isi_tup, isi_non, isi_str, isi_rol, tyN_up, tyN, List.getElem?_cons_zero, List.getElem?_cons_succ, List.set_cons_zero, List.set_cons_succ, permA, List.map_cons, List.map_nil, List.getD_cons_zero, List.getD_cons_succ, List.cons_append, List.nil_append, List.append_nil, List.replicate_succ, List.replicate_zero, RtP, ite_true, ite_false, if_true, if_false, Bool.false_eq_true, decide_true, decide_false, Bool.not_true, Bool.not_false, List.length_cons, List.length_nil, List.length_map]
  refine ⟨⟨by omega, by omega, by omega, by omega⟩, ?_⟩
  rw [show ((w.length : Int) + 1 - 1).toNat = w.length by omega]
  refine forL_ind (fun ys ρ μ' => ∃ (d n : Nat) (z : Option D), d + n = w.length + 1 ∧ 0 < d ∧ ys = rngL (d : Int) n ∧ lpF w d n = lp w ∧ ρ = [some (tupI w), z] ∧ μ' = μ ∧ (n = 0 → w.length = 0)) ?_ ?_ _ _ _ ?_
  · rintro y ys ρ μ' ⟨d, n, z, hd, hd0, hy, hlp, rfl, rfl, _⟩
    cases n with
    | zero => cases hy
    | succ n =>
      rw [rngL_succ] at hy
      injection hy with e1 e2
      subst e1
      have dpos : (0 : Int) < d := by omega
      have emod : ((w.length : Int) % (d : Int)) = ((w.length % d : Nat) : Int) := rfl
      have hdle : d ≤ w.length := by omega
      have hz : (d : Int).natAbs.log2 < 9000 := Nat.lt_of_lt_of_le (Sz.log2 (n := 62) (by unfold Sz; omega) (by omega)) (by decide)
      have ediv : (w.length : Int).fdiv (d : Int) = ((w.length / d : Nat) : Int) := by
        rw [Int.fdiv_eq_ediv_of_nonneg _ (by omega)]
        rfl
      refine ⟨trivial, _, rfl, ?_⟩
      simp only [↓e_v, ↓e_c, ↓e_bin, ↓e_neg, ↓e_cmp, ↓e_chn, ↓e_and, ↓e_or, ↓e_not, ↓e_ite, ↓e_tup, ↓e_lst, ↓e_ix, ↓e_sl, ↓e_rev, ↓e_call, ↓e_bi, ↓e_isi, ↓e_app, ↓e_ext, ↓e_pop, ↓e_comp, ↓es_nil, ↓es_cons, ↓if_nil, ↓if_cons, ↓o_no, ↓o_so, ↓s_ex', ↓s_ret', ↓s_retN', ↓s_asg', ↓s_sub', ↓s_aug', ↓s_iff', ↓s_whl', ↓s_for', ↓s_pass', ↓s_brk', ↓s_cont', ↓s_raise', ↓ss_nil', ↓ss_cons', ↓i_valE, ↓i_rng1E, ↓i_rng2E, ↓i_zipE, ↓i_enuE, ↓getK_s, ↓truK_t, ↓truK_f, ↓bK_s, ↓asgK_s, ↓atK_s, ↓seqK_s, ↓intsK_s, ↓blsK_s, ↓iteK_t, ↓iteK_f, ↓binD, ↓augD, ↓cmp_eq, ↓cmp_ne, ↓cmp_lt, ↓cmp_le, ↓cmp_gt, ↓cmp_ge, ↓cmp_is, ↓cmp_isn, ↓cmp_isN, ↓cmp_isnN, isNon, ↓ixD_int, ↓ixD_rod, atI0, atI1, atI2, atI3, ↓sl_tup, ↓sl_rol, ↓bi_len_tup, ↓bi_len_rol, ↓bi_len_ref, ↓bi_abs, ↓bi_int, ↓bi_intb, ↓bi_gcd, ↓bi_tup_tup, ↓bi_tup_rol, ↓bi_tup_ref, ↓bi_lst_tup, ↓bi_lst_rol, ↓bi_lst_ref, ↓bi_sum, ↓bi_sum_tup, ↓bi_sum_rol, ↓bi_all, ↓bi_any, ↓bi_max2, ↓bi_min2, tg_nm, tg_tp, tgsD, seqOf_tup, seqOf_rol, seqOf_up, seqL_rol, seqL_up', tru_non, tru_bl, tru_int, tru_tup, tru_rol, tru_up, ↓eq_int, isi_c, isi_int, isi_bl, isi_tup, isi_non, isi_str, isi_rol, tyN_up, tyN, List.getElem?_cons_zero, List.getElem?_cons_succ, List.set_cons_zero, List.set_cons_succ, permA, List.map_cons, List.map_nil, List.getD_cons_zero, List.getD_cons_succ, List.cons_append, List.nil_append, List.append_nil, List.replicate_succ, List.replicate_zero, RtP, ite_true, ite_false, if_true, if_false, Bool.false_eq_true, decide_true, decide_false, Bool.not_true, Bool.not_false, List.length_cons, List.length_nil, List.length_map, fmod_pos dpos, emod]
      refine ⟨by omega, ?_⟩
      unfold lpF at hlp
      by_cases c1 : w.length % d = 0
      · have c1' : decide (((w.length % d : Nat) : Int) = 0) = true := decide_eq_true (by omega)
        simp only [c1', ↓e_v, ↓e_c, ↓e_bin, ↓e_neg, ↓e_cmp, ↓e_chn, ↓e_and, ↓e_or, ↓e_not, ↓e_ite, ↓e_tup, ↓e_lst, ↓e_ix, ↓e_sl, ↓e_rev, ↓e_call, ↓e_bi, ↓e_isi, ↓e_app, ↓e_ext, ↓e_pop, ↓e_comp, ↓es_nil, ↓es_cons, ↓if_nil, ↓if_cons, ↓o_no, ↓o_so, ↓s_ex', ↓s_ret', ↓s_retN', ↓s_asg', ↓s_sub', ↓s_aug', ↓s_iff', ↓s_whl', ↓s_for', ↓s_pass', ↓s_brk', ↓s_cont', ↓s_raise', ↓ss_nil', ↓ss_cons', ↓i_valE, ↓i_rng1E, ↓i_rng2E, ↓i_zipE, ↓i_enuE, ↓getK_s, ↓truK_t, ↓truK_f, ↓bK_s, ↓asgK_s, ↓atK_s, ↓seqK_s, ↓intsK_s, ↓blsK_s, ↓iteK_t, ↓iteK_f, ↓binD, ↓augD, ↓cmp_eq, ↓cmp_ne, ↓cmp_lt, ↓cmp_le, ↓cmp_gt, ↓cmp_ge, ↓cmp_is, ↓cmp_isn, ↓cmp_isN, ↓cmp_isnN, isNon, ↓ixD_int, ↓ixD_rod, atI0, atI1, atI2, atI3, ↓sl_tup, ↓sl_rol, ↓bi_len_tup, ↓bi_len_rol, ↓bi_len_ref, ↓bi_abs, ↓bi_int, ↓bi_intb, ↓bi_gcd, ↓bi_tup_tup, ↓bi_tup_rol, ↓bi_tup_ref, ↓bi_lst_tup, ↓bi_lst_rol, ↓bi_lst_ref, ↓bi_sum, ↓bi_sum_tup, ↓bi_sum_rol, ↓bi_all, ↓bi_any, ↓bi_max2, ↓bi_min2, tg_nm, tg_tp, tgsD, seqOf_tup, seqOf_rol, seqOf_up, seqL_rol, seqL_up', tru_non, tru_bl, tru_int, tru_tup, tru_rol, tru_up, ↓eq_int, isi_c, isi_int, isi_bl, isi_tup, isi_non, isi_str, isi_rol, tyN_up, tyN, List.getElem?_cons_zero, List.getElem?_cons_succ, List.set_cons_zero, List.set_cons_succ, permA, List.map_cons, List.map_nil, List.getD_cons_zero, List.getD_cons_succ, List.cons_append, List.nil_append, List.append_nil, List.replicate_succ, List.replicate_zero, RtP, ite_true, ite_false, if_true, if_false, Bool.false_eq_true, decide_true, decide_false, Bool.not_true, Bool.not_false, List.length_cons, List.length_nil, cutD_hi, List.length_map, ediv]
        refine ⟨⟨by omega, hz⟩, ?_⟩
        rw [← List.map_take]
        refine mulT_rep (Nat.div_pos hdle hd0) (Nat.le_trans (Nat.div_le_self _ _) h2) (by rw [List.length_take]; omega) (fun e => by
          have := congrArg List.length e
          rw [List.length_take, List.length_nil] at this
          omega) ?_
        refine eq_tints ?_
        by_cases c2 : rep (w.length / d) (w.take d) = w
        · have pb : PerB w d = true := by unfold PerB; rw [decide_eq_true c1, decide_eq_true c2]; rfl
          rw [if_pos pb] at hlp
          simp only [decide_eq_true c2, ↓e_v, ↓e_c, ↓e_bin, ↓e_neg, ↓e_cmp, ↓e_chn, ↓e_and, ↓e_or, ↓e_not, ↓e_ite, ↓e_tup, ↓e_lst, ↓e_ix, ↓e_sl, ↓e_rev, ↓e_call, ↓e_bi, ↓e_isi, ↓e_app, ↓e_ext, ↓e_pop, ↓e_comp, ↓es_nil, ↓es_cons, ↓if_nil, ↓if_cons, ↓o_no, ↓o_so, ↓s_ex', ↓s_ret', ↓s_retN', ↓s_asg', ↓s_sub', ↓s_aug', ↓s_iff', ↓s_whl', ↓s_for', ↓s_pass', ↓s_brk', ↓s_cont', ↓s_raise', ↓ss_nil', ↓ss_cons', ↓i_valE, ↓i_rng1E, ↓i_rng2E, ↓i_zipE, ↓i_enuE, ↓getK_s, ↓truK_t, ↓truK_f, ↓bK_s, ↓asgK_s, ↓atK_s, ↓seqK_s, ↓intsK_s, ↓blsK_s, ↓iteK_t, ↓iteK_f, ↓binD, ↓augD, ↓cmp_eq, ↓cmp_ne, ↓cmp_lt, ↓cmp_le, ↓cmp_gt, ↓cmp_ge, ↓cmp_is, ↓cmp_isn, ↓cmp_isN, ↓cmp_isnN, isNon, ↓ixD_int, ↓ixD_rod, atI0, atI1, atI2, atI3, ↓sl_tup, ↓sl_rol, ↓bi_len_tup, ↓bi_len_rol, ↓bi_len_ref, ↓bi_abs, ↓bi_int, ↓bi_intb, ↓bi_gcd, ↓bi_tup_tup, ↓bi_tup_rol, ↓bi_tup_ref, ↓bi_lst_tup, ↓bi_lst_rol, ↓bi_lst_ref, ↓bi_sum, ↓bi_sum_tup, ↓bi_sum_rol, ↓bi_all, ↓bi_any, ↓bi_max2, ↓bi_min2, tg_nm, tg_tp, tgsD, seqOf_tup, seqOf_rol, seqOf_up, seqL_rol, seqL_up', tru_non, tru_bl, tru_int, tru_tup, tru_rol, tru_up, ↓eq_int, isi_c, isi_int, isi_bl, isi_tup, isi_non, isi_str, isi_rol, tyN_up, tyN, List.getElem?_cons_zero, List.getElem?_cons_succ, List.set_cons_zero, List.set_cons_succ, permA, List.map_cons, List.map_nil, List.getD_cons_zero, List.getD_cons_succ, List.cons_append, List.nil_append, List.append_nil, List.replicate_succ, List.replicate_zero, RtP, ite_true, ite_false, if_true, if_false, Bool.false_eq_true, decide_true, decide_false, Bool.not_true, Bool.not_false, List.length_cons, List.length_nil, List.length_map, ediv]
          refine ⟨⟨by omega, hz⟩, .refl, ?_⟩
          rw [hlp]
        · have pb : ¬ PerB w d = true := by unfold PerB; rw [decide_eq_false c2, Bool.and_false]; simp
          rw [if_neg pb] at hlp
          simp only [decide_eq_false c2, ↓e_v, ↓e_c, ↓e_bin, ↓e_neg, ↓e_cmp, ↓e_chn, ↓e_and, ↓e_or, ↓e_not, ↓e_ite, ↓e_tup, ↓e_lst, ↓e_ix, ↓e_sl, ↓e_rev, ↓e_call, ↓e_bi, ↓e_isi, ↓e_app, ↓e_ext, ↓e_pop, ↓e_comp, ↓es_nil, ↓es_cons, ↓if_nil, ↓if_cons, ↓o_no, ↓o_so, ↓s_ex', ↓s_ret', ↓s_retN', ↓s_asg', ↓s_sub', ↓s_aug', ↓s_iff', ↓s_whl', ↓s_for', ↓s_pass', ↓s_brk', ↓s_cont', ↓s_raise', ↓ss_nil', ↓ss_cons', ↓i_valE, ↓i_rng1E, ↓i_rng2E, ↓i_zipE, ↓i_enuE, ↓getK_s, ↓truK_t, ↓truK_f, ↓bK_s, ↓asgK_s, ↓atK_s, ↓seqK_s, ↓intsK_s, ↓blsK_s, ↓iteK_t, ↓iteK_f, ↓binD, ↓augD, ↓cmp_eq, ↓cmp_ne, ↓cmp_lt, ↓cmp_le, ↓cmp_gt, ↓cmp_ge, ↓cmp_is, ↓cmp_isn, ↓cmp_isN, ↓cmp_isnN, isNon, ↓ixD_int, ↓ixD_rod, atI0, atI1, atI2, atI3, ↓sl_tup, ↓sl_rol, ↓bi_len_tup, ↓bi_len_rol, ↓bi_len_ref, ↓bi_abs, ↓bi_int, ↓bi_intb, ↓bi_gcd, ↓bi_tup_tup, ↓bi_tup_rol, ↓bi_tup_ref, ↓bi_lst_tup, ↓bi_lst_rol, ↓bi_lst_ref, ↓bi_sum, ↓bi_sum_tup, ↓bi_sum_rol, ↓bi_all, ↓bi_any, ↓bi_max2, ↓bi_min2, tg_nm, tg_tp, tgsD, seqOf_tup, seqOf_rol, seqOf_up, seqL_rol, seqL_up', tru_non, tru_bl, tru_int, tru_tup, tru_rol, tru_up, ↓eq_int, isi_c, isi_int, isi_bl, isi_tup, isi_non, isi_str, isi_rol, tyN_up, tyN, List.getElem?_cons_zero, List.getElem?_cons_succ, List.set_cons_zero, List.set_cons_succ, permA, List.map_cons, List.map_nil, List.getD_cons_zero, List.getD_cons_succ, List.cons_append, List.nil_append, List.append_nil, List.replicate_succ, List.replicate_zero, RtP, ite_true, ite_false, if_true, if_false, Bool.false_eq_true, decide_true, decide_false, Bool.not_true, Bool.not_false, List.length_cons, List.length_nil]
          refine ⟨d + 1, n, _, by omega, by omega, by rw [e2]; rfl, hlp, rfl, trivial, fun hn => ?_⟩
          exfalso
          have e : d = w.length := by omega
          subst e
          apply c2
          rw [Nat.div_self hd0, List.take_length]
          simp [rep]
      · have c1' : decide (((w.length % d : Nat) : Int) = 0) = false := decide_eq_false (by omega)
        have pb : ¬ PerB w d = true := by unfold PerB; rw [decide_eq_false c1, Bool.false_and]; simp
        rw [if_neg pb] at hlp
        simp only [c1', List.length_map, fmod_pos dpos, emod, ↓e_v, ↓e_c, ↓e_bin, ↓e_neg, ↓e_cmp, ↓e_chn, ↓e_and, ↓e_or, ↓e_not, ↓e_ite, ↓e_tup, ↓e_lst, ↓e_ix, ↓e_sl, ↓e_rev, ↓e_call, ↓e_bi, ↓e_isi, ↓e_app, ↓e_ext, ↓e_pop, ↓e_comp, ↓es_nil, ↓es_cons, ↓if_nil, ↓if_cons, ↓o_no, ↓o_so, ↓s_ex', ↓s_ret', ↓s_retN', ↓s_asg', ↓s_sub', ↓s_aug', ↓s_iff', ↓s_whl', ↓s_for', ↓s_pass', ↓s_brk', ↓s_cont', ↓s_raise', ↓ss_nil', ↓ss_cons', ↓i_valE, ↓i_rng1E, ↓i_rng2E, ↓i_zipE, ↓i_enuE, ↓getK_s, ↓truK_t, ↓truK_f, ↓bK_s, ↓asgK_s, ↓atK_s, ↓seqK_s, ↓intsK_s, ↓blsK_s, ↓iteK_t, ↓iteK_f, ↓binD, ↓augD, ↓cmp_eq, ↓cmp_ne, ↓cmp_lt, ↓cmp_le, ↓cmp_gt, ↓cmp_ge, ↓cmp_is, ↓cmp_isn, ↓cmp_isN, ↓cmp_isnN, isNon, ↓ixD_int, ↓ixD_rod, atI0, atI1, atI2, atI3, ↓sl_tup, ↓sl_rol, ↓bi_len_tup, ↓bi_len_rol, ↓bi_len_ref, ↓bi_abs, ↓bi_int, ↓bi_intb, ↓bi_gcd, ↓bi_tup_tup, ↓bi_tup_rol, ↓bi_tup_ref, ↓bi_lst_tup, ↓bi_lst_rol, ↓bi_lst_ref, ↓bi_sum, ↓bi_sum_tup, ↓bi_sum_rol, ↓bi_all, ↓bi_any, ↓bi_max2, ↓bi_min2, tg_nm, tg_tp, tgsD, seqOf_tup, seqOf_rol, seqOf_up, seqL_rol, seqL_up', tru_non, tru_bl, tru_int, tru_tup, tru_rol, tru_up, ↓eq_int, isi_c, isi_int, isi_bl, isi_tup, isi_non, isi_str, isi_rol, tyN_up, tyN, List.getElem?_cons_zero, List.getElem?_cons_succ, List.set_cons_zero, List.set_cons_succ, permA, List.map_cons, List.map_nil, List.getD_cons_zero, List.getD_cons_succ, List.cons_append, List.nil_append, List.append_nil, List.replicate_succ, List.replicate_zero, RtP, ite_true, ite_false, if_true, if_false, Bool.false_eq_true, decide_true, decide_false, Bool.not_true, Bool.not_false, List.length_cons, List.length_nil]
        refine ⟨d + 1, n, _, by omega, by omega, by rw [e2]; rfl, hlp, rfl, trivial, fun hn => ?_⟩
        exfalso
        have e : d = w.length := by omega
        subst e
        exact c1 (Nat.mod_self _)
  · rintro ρ μ' ⟨d, n, z, hd, hd0, hy, hlp, rfl, rfl, hn⟩
    exfalso
    have : n = 0 := by
      have := congrArg List.length hy
      rw [len_rngL] at this
      exact this.symm
    have := hn this
    omega
  · exact ⟨1, w.length, none, by omega, by decide, rfl, rfl, rfl, rfl, fun h => h⟩
def sp_how_often : Spec := pur (fun w : List Int => [tupI w]) (fun w _ => RW w ∧ w.length ≤ 1000) fun w => .int ((w.length / lp w : Nat) : Int)
theorem run_how_often {w : List Int} {μ : Mu} {X : Str → Mu → Prop} {Q : QD} : runK sp_how_often [tupI w] μ X Q ↔ (RW w ∧ w.length ≤ 1000) ∧ Q (.int ((w.length / lp w : Nat) : Int)) μ := pur_run inj_w w
theorem m_how_often {Φ : Nat → Spec} {i j k l n : Nat} (hi : Φ i = sp_tupled (n + 1)) (hj : Φ j = sp_row wordB) (hk : Φ k = sp_round) (hl : Φ l = sp_repeats) :
    Meets Φ 1 2 (b_how_often i j k l) sp_how_often := pur_meets inj_w fun w μ h => by
  obtain ⟨h, hlen⟩ := h
  have h2 := h.1.1.1
  have hne : w ≠ [] := fun e => by subst e; simp at h2
  simp only [b_how_often, ↓e_v, ↓e_c, ↓e_bin, ↓e_neg, ↓e_cmp, ↓e_chn, ↓e_and, ↓e_or, ↓e_not, ↓e_ite, ↓e_tup, ↓e_lst, ↓e_ix, ↓e_sl, ↓e_rev, ↓e_call, ↓e_bi, ↓e_isi, ↓e_app, ↓e_ext, ↓e_pop, ↓e_comp, ↓es_nil, ↓es_cons, ↓if_nil, ↓if_cons, ↓o_no, ↓o_so, ↓s_ex', ↓s_ret', ↓s_retN', ↓s_asg', ↓s_sub', ↓s_aug', ↓s_iff', ↓s_whl', ↓s_for', ↓s_pass', ↓s_brk', ↓s_cont', ↓s_raise', ↓ss_nil', ↓ss_cons', ↓i_valE, ↓i_rng1E, ↓i_rng2E, ↓i_zipE, ↓i_enuE, ↓getK_s, ↓truK_t, ↓truK_f, ↓bK_s, ↓asgK_s, ↓atK_s, ↓seqK_s, ↓intsK_s, ↓blsK_s, ↓iteK_t, ↓iteK_f, ↓binD, ↓augD, ↓cmp_eq, ↓cmp_ne, ↓cmp_lt, ↓cmp_le, ↓cmp_gt, ↓cmp_ge, ↓cmp_is, ↓cmp_isn, ↓cmp_isN, ↓cmp_isnN, isNon, ↓ixD_int, ↓ixD_rod, atI0, atI1, atI2, atI3, ↓sl_tup, ↓sl_rol, ↓bi_len_tup, ↓bi_len_rol, ↓bi_len_ref, ↓bi_abs, ↓bi_int, ↓bi_intb, ↓bi_gcd, ↓bi_tup_tup, ↓bi_tup_rol, ↓bi_tup_ref, ↓bi_lst_tup, ↓bi_lst_rol, ↓bi_lst_ref, ↓bi_sum, ↓bi_sum_tup, ↓bi_sum_rol, ↓bi_all, ↓bi_any, ↓bi_max2, ↓bi_min2, tg_nm, tg_tp, tgsD, seqOf_tup, seqOf_rol, seqOf_up, seqL_rol, seqL_up', tru_non, tru_bl, tru_int, tru_tup, tru_rol, tru_up, ↓eq_int, isi_c, isi_int, isi_bl, isi_tup, isi_non, isi_str, isi_rol, tyN_up, tyN, List.getElem?_cons_zero, List.getElem?_cons_succ, List.set_cons_zero, List.set_cons_succ, permA, List.map_cons, List.map_nil, List.getD_cons_zero, List.getD_cons_succ, List.cons_append, List.nil_append, List.append_nil, List.replicate_succ, List.replicate_zero, RtP, ite_true, ite_false, if_true, if_false, Bool.false_eq_true, decide_true, decide_false, Bool.not_true, Bool.not_false, List.length_cons, List.length_nil, hi, hj, hk, hl, run_tupled, plain_ints h.1.2, run_row, h.wordB, true_and, Bool.not_true]
  refine ⟨h.1.2, by decide, ?_⟩
  refine eq_tints (ys := []) ?_
  simp only [decide_eq_false hne, ↓e_v, ↓e_c, ↓e_bin, ↓e_neg, ↓e_cmp, ↓e_chn, ↓e_and, ↓e_or, ↓e_not, ↓e_ite, ↓e_tup, ↓e_lst, ↓e_ix, ↓e_sl, ↓e_rev, ↓e_call, ↓e_bi, ↓e_isi, ↓e_app, ↓e_ext, ↓e_pop, ↓e_comp, ↓es_nil, ↓es_cons, ↓if_nil, ↓if_cons, ↓o_no, ↓o_so, ↓s_ex', ↓s_ret', ↓s_retN', ↓s_asg', ↓s_sub', ↓s_aug', ↓s_iff', ↓s_whl', ↓s_for', ↓s_pass', ↓s_brk', ↓s_cont', ↓s_raise', ↓ss_nil', ↓ss_cons', ↓i_valE, ↓i_rng1E, ↓i_rng2E, ↓i_zipE, ↓i_enuE, ↓getK_s, ↓truK_t, ↓truK_f, ↓bK_s, ↓asgK_s, ↓atK_s, ↓seqK_s, ↓intsK_s, ↓blsK_s, ↓iteK_t, ↓iteK_f, ↓binD, ↓augD, ↓cmp_eq, ↓cmp_ne, ↓cmp_lt, ↓cmp_le, ↓cmp_gt, ↓cmp_ge, ↓cmp_is, ↓cmp_isn, ↓cmp_isN, ↓cmp_isnN, isNon, ↓ixD_int, ↓ixD_rod, atI0, atI1, atI2, atI3, ↓sl_tup, ↓sl_rol, ↓bi_len_tup, ↓bi_len_rol, ↓bi_len_ref, ↓bi_abs, ↓bi_int, ↓bi_intb, ↓bi_gcd, ↓bi_tup_tup, ↓bi_tup_rol, ↓bi_tup_ref, ↓bi_lst_tup, ↓bi_lst_rol, ↓bi_lst_ref, ↓bi_sum, ↓bi_sum_tup, ↓bi_sum_rol, ↓bi_all, ↓bi_any, ↓bi_max2, ↓bi_min2, tg_nm, tg_tp, tgsD, seqOf_tup, seqOf_rol, seqOf_up, seqL_rol, seqL_up', tru_non, tru_bl, tru_int, tru_tup, tru_rol, tru_up, ↓eq_int, isi_c, isi_int, isi_bl, isi_tup, isi_non, isi_str, isi_rol, tyN_up, tyN, List.getElem?_cons_zero, List.getElem?_cons_succ, List.set_cons_zero, List.set_cons_succ, permA, List.map_cons, List.map_nil, List.getD_cons_zero, List.getD_cons_succ, List.cons_append, List.nil_append, List.append_nil, List.replicate_succ, List.replicate_zero, RtP, ite_true, ite_false, if_true, if_false, Bool.false_eq_true, decide_true, decide_false, Bool.not_true, Bool.not_false, List.length_cons, List.length_nil, hk, run_round, h.2.2]
  refine ⟨h.1, eq_tints ?_⟩
  simp only [↓e_v, ↓e_c, ↓e_bin, ↓e_neg, ↓e_cmp, ↓e_chn, ↓e_and, ↓e_or, ↓e_not, ↓e_ite, ↓e_tup, ↓e_lst, ↓e_ix, ↓e_sl, ↓e_rev, ↓e_call, ↓e_bi, ↓e_isi, ↓e_app, ↓e_ext, ↓e_pop, ↓e_comp, ↓es_nil, ↓es_cons, ↓if_nil, ↓if_cons, ↓o_no, ↓o_so, ↓s_ex', ↓s_ret', ↓s_retN', ↓s_asg', ↓s_sub', ↓s_aug', ↓s_iff', ↓s_whl', ↓s_for', ↓s_pass', ↓s_brk', ↓s_cont', ↓s_raise', ↓ss_nil', ↓ss_cons', ↓i_valE, ↓i_rng1E, ↓i_rng2E, ↓i_zipE, ↓i_enuE, ↓getK_s, ↓truK_t, ↓truK_f, ↓bK_s, ↓asgK_s, ↓atK_s, ↓seqK_s, ↓intsK_s, ↓blsK_s, ↓iteK_t, ↓iteK_f, ↓binD, ↓augD, ↓cmp_eq, ↓cmp_ne, ↓cmp_lt, ↓cmp_le, ↓cmp_gt, ↓cmp_ge, ↓cmp_is, ↓cmp_isn, ↓cmp_isN, ↓cmp_isnN, isNon, ↓ixD_int, ↓ixD_rod, atI0, atI1, atI2, atI3, ↓sl_tup, ↓sl_rol, ↓bi_len_tup, ↓bi_len_rol, ↓bi_len_ref, ↓bi_abs, ↓bi_int, ↓bi_intb, ↓bi_gcd, ↓bi_tup_tup, ↓bi_tup_rol, ↓bi_tup_ref, ↓bi_lst_tup, ↓bi_lst_rol, ↓bi_lst_ref, ↓bi_sum, ↓bi_sum_tup, ↓bi_sum_rol, ↓bi_all, ↓bi_any, ↓bi_max2, ↓bi_min2, tg_nm, tg_tp, tgsD, seqOf_tup, seqOf_rol, seqOf_up, seqL_rol, seqL_up', tru_non, tru_bl, tru_int, tru_tup, tru_rol, tru_up, ↓eq_int, isi_c, isi_int, isi_bl, isi_tup, isi_non, isi_str, isi_rol, tyN_up, tyN, List.getElem?_cons_zero, List.getElem?_cons_succ, List.set_cons_zero, List.set_cons_succ, permA, List.map_cons, List.map_nil, List.getD_cons_zero, List.getD_cons_succ, List.cons_append, List.nil_append, List.append_nil, List.replicate_succ, List.replicate_zero, RtP, ite_true, ite_false, if_true, if_false, Bool.false_eq_true, decide_true, decide_false, Bool.not_true, Bool.not_false, List.length_cons, List.length_nil, hl, run_repeats]
  exact ⟨⟨by omega, hlen⟩, .refl, trivial⟩
/-- of what is put together of so many alike ones the number is a divisor -/
theorem often_dvd {v : List Int} {k : Nat} (hv : 0 < v.length) (hk : 0 < k) : ((rep k v).length / lp (rep k v)) % k = 0 := by
  have hlen := rep_len k v
  generalize hw : rep k v = w at *
  have hw0 : 0 < w.length := by rw [hlen]; exact Nat.mul_pos hk hv
  obtain ⟨g1, g2, g3, g4⟩ := lpF_spec w w.length 1 (by omega) hw0 (by decide)
  change PerB w (lp w) = true at g1
  change 1 ≤ lp w at g2
  change ∀ e, 1 ≤ e → e < lp w → PerB w e = false at g4
  unfold PerB at g1
  rw [Bool.and_eq_true, decide_eq_true_iff, decide_eq_true_iff] at g1
  obtain ⟨g1, g5⟩ := g1
  have dv : lp w ∣ w.length := Nat.dvd_of_mod_eq_zero g1
  have tl : (w.take (lp w)).length = lp w := by rw [List.length_take]; have := Nat.le_of_dvd hw0 dv; omega
  have p1 : Per w (lp w) := by
    have := per_rep (v := w.take (lp w)) (k := w.length / lp w) (by omega) (Nat.div_pos (Nat.le_of_dvd hw0 dv) g2)
    rw [g5, tl] at this
    exact this
  have p2 : Per w v.length := by rw [← hw]; exact per_rep hv hk
  have p3 := p1.gcd _ _ p2
  have gpos : 0 < Nat.gcd (lp w) v.length := Nat.gcd_pos_of_pos_left _ g2
  have gd : Nat.gcd (lp w) v.length ∣ w.length := Nat.dvd_trans (Nat.gcd_dvd_left ..) dv
  have pb : PerB w (Nat.gcd (lp w) v.length) = true := by
    unfold PerB
    rw [rep_of_per hw0 gd gpos p3, Nat.mod_eq_zero_of_dvd gd]
    simp
  have hle : lp w ≤ Nat.gcd (lp w) v.length := by
    rcases Nat.lt_or_ge (Nat.gcd (lp w) v.length) (lp w) with c | c
    · rw [g4 _ gpos c] at pb
      cases pb
    · exact c
  have e : Nat.gcd (lp w) v.length = lp w := Nat.le_antisymm (Nat.le_of_dvd g2 (Nat.gcd_dvd_left ..)) hle
  have dn : lp w ∣ v.length := by rw [← e]; exact Nat.gcd_dvd_right ..
  obtain ⟨m, hm⟩ := dn
  rw [hlen, hm, Nat.mul_left_comm, Nat.mul_div_cancel_left _ g2]
  exact Nat.mul_mod_right _ _
end LD
namespace LD
open PySem PySem.Spec PyProof.Rows L2
def sp_law : Spec := pur (fun d : D => [d]) (fun d μ => ∃ ns : List Int, seqL d μ = some (ns.map D.int) ∧ ns.length ≤ 63 ∧ ∀ z ∈ ns, Sz 1048576 z) fun _ => .bl true
theorem Tin.other {μ : Mu} {t g : Addr} {n : Nat} {o : MO} (h : Tin μ t n) (hg : t ≠ g) : Tin (up μ g o) t n := by
  obtain ⟨t0, t1, t2, e, r⟩ := h
  exact ⟨t0, t1, t2, by rw [up_ne hg]; exact e, r⟩
theorem sub_new {μ μ' : Mu} {t : Addr} {o : MO} (h : Sub μ μ') (ht : μ t = none) : Sub μ (up μ' t o) := fun a u e => by
  have : a ≠ t := fun q => by rw [q, ht] at e; cases e
  rw [up_ne this]
  exact h a u e
theorem sz_bits {n : Nat} {z : Int} (h : Builtin.Int.intBits z ≤ n) : Sz n z := by
  unfold Builtin.Int.intBits at h
  unfold Sz
  split at h
  · rename_i e
    have : z = 0 := by simpa using e
    rw [this]
    exact Nat.two_pow_pos n
  · rename_i e
    have h0 : z.natAbs ≠ 0 := by
      intro q
      apply e
      have : z = 0 := by omega
      rw [this]
      rfl
    exact (Nat.log2_lt h0).mp (by omega)
/-- the script goes in -/
theorem law_in {K : PySem.W.Frag} {cls : Str → Addr} {H : Hp} {a : Addr} {ns : List Int} (h1 : ns.length ≤ 63) (h2 : ∀ z ∈ ns, Builtin.Int.intBits z ≤ 1048576) (hS : SqL K H a (ns.map V.int)) :
    spD K cls 1 sp_law [.ref a] H (fun v _ => v = .bl true) fun _ _ _ => False := by
  have key : ∀ (d : D) (μ : Mu), Reps K H [V.ref a] [d] → SRep K H μ → seqL d μ = some (ns.map D.int) → spD K cls 1 sp_law [.ref a] H (fun v _ => v = .bl true) fun _ _ _ => False := fun d μ r s e => by
    refine ⟨[d], μ, rfl, r, s, fam_run (args := fun d : D => [d]) d ⟨ns, e, h1, fun z hz => sz_bits (h2 z hz)⟩ fun d' μ' q => ?_⟩
    obtain ⟨rfl, rfl⟩ := q
    intro v H' rv _ _
    cases rv
    rfl
  have none : SRep K H (fun _ => none) := fun a o e => by cases e
  rcases hS with (h | ⟨o, h⟩) | h
  · refine key (.ref a) (up (fun _ => Option.none) a (.lst (ns.map D.int))) (.cons (.ref a) .nil) (fun b o e => ?_) seqL_up'
    by_cases hb : b = a
    · subst hb
      rw [up_same] at e
      cases e
      exact ⟨_, h, Reps.of_ints ns⟩
    · rw [up_ne hb] at e
      cases e
  · exact key (.rol (ns.map D.int)) _ (.cons (.rol (.inl ⟨o, h⟩) (Reps.of_ints ns)) .nil) none rfl
  · exact key (.rol (ns.map D.int)) _ (.cons (.rol (.inr h) (Reps.of_ints ns)) .nil) none rfl
end LD
namespace LD
open PySem PySem.Spec PyProof.Rows L2
/-! ### rows put together -/
def flatOf (μ : Mu) : List D → Option (List D)
  | [] => some []
  | d :: ds => match seqOf d μ, flatOf μ ds with
    | some xs, some ys => some (xs ++ ys)
    | _, _ => none
theorem flatOf_cons {μ : Mu} {d : D} {ds zs : List D} (h : flatOf μ (d :: ds) = some zs) : ∃ xs ys, seqOf d μ = some xs ∧ flatOf μ ds = some ys ∧ zs = xs ++ ys := by
  unfold flatOf at h
  split at h
  · rename_i xs ys e1 e2
    cases h
    exact ⟨xs, ys, e1, e2, rfl⟩
  · cases h
/-- what stands stays -/
def Keep (μ μ' : Mu) : Prop := Sub μ μ'
theorem seqOf_sub {μ μ' : Mu} {d : D} {xs : List D} (s : Sub μ μ') (h : seqOf d μ = some xs) : seqOf d μ' = some xs := by
  unfold seqOf at h ⊢
  cases d with
  | ref a =>
    dsimp only at h ⊢
    split at h
    · rename_i ys e
      rw [s a _ e]
      exact h
    · cases h
  | _ => exact h
theorem live_sub {μ μ' : Mu} {d : D} {xs : List D} (s : Sub μ μ') (h : seqOf d μ = some xs) : liveOf d xs μ' := by
  unfold liveOf
  cases d with
  | ref a =>
    unfold seqOf at h
    dsimp only at h ⊢
    split at h
    · rename_i ys e
      cases h
      exact s a _ e
    · cases h
  | _ => trivial
structure FlI where
  d : D
  zs : List D
def FlI.pre (i : FlI) (μ : Mu) : Prop := (∃ ds, seqOf i.d μ = some ds ∧ flatOf μ ds = some i.zs) ∧ i.zs.length ≤ 1000000
def sp_flat : Spec := fam (fun i : FlI => [i.d]) FlI.pre fun i μ d μ' => ∃ p, d = .ref p ∧ μ p = none ∧ μ' = up μ p (.lst i.zs)
theorem flat_run {d : D} {ds zs : List D} {μ : Mu} {X : Str → Mu → Prop} {Q : QD} (h : seqOf d μ = some ds) (h2 : flatOf μ ds = some zs) (h3 : zs.length ≤ 1000000) (q : ∀ p, μ p = none → Q (.ref p) (up μ p (.lst zs))) : sp_flat.run [d] μ X Q := by
  refine fam_run (args := fun i : FlI => [i.d]) (pre := FlI.pre) ⟨d, zs⟩ ⟨⟨ds, h, h2⟩, h3⟩ fun d μ' h => ?_
  obtain ⟨p, rfl, hp, rfl⟩ := h
  exact q p hp
theorem bi_list_of {d : D} {xs : List D} {μ : Mu} {Q : QD} (h : seqOf d μ = some xs) (q : nlK xs μ Q) : biD .list [d] μ Q := by
  show (match seqOf d μ with
    | some xs => newL xs μ Q
    | none => False)
  rw [h]
  exact q
theorem extD_at {p r : Addr} {xs ys : List D} {μ : Mu} {Q : QD} (h : μ p = some (.lst xs)) (k : μ r = some (.lst ys)) (n : p ≠ r) (l : xs.length + ys.length ≤ sizeLine) (q : Q .non (up μ p (.lst (xs ++ ys)))) : extD (.ref p) (.ref r) μ Q := by
  unfold extD
  simp only [h, k]
  exact ⟨n, l, q⟩
theorem m_flat {Φ : Nat → Spec} : Meets Φ 1 3 b__law_flat sp_flat := fam_meets (by
  rintro ⟨d, zs⟩ ⟨d', zs'⟩ μ h ⟨⟨ds, h1, h2⟩, _⟩ ⟨⟨ds', k1, k2⟩, _⟩
  injection h with h _
  dsimp only at h h1 h2 k1 k2
  subst h
  have e := h1.symm.trans k1
  cases e
  have e := h2.symm.trans k2
  cases e
  rfl) fun ⟨d, zs⟩ μ h => by
  obtain ⟨⟨ds, h1, h2⟩, h3⟩ := h
  dsimp only at h1 h2 h3
  simp only [b__law_flat, ↓e_v, ↓e_c, ↓e_bin, ↓e_neg, ↓e_cmp, ↓e_chn, ↓e_and, ↓e_or, ↓e_not, ↓e_ite, ↓e_tup, ↓e_lst, ↓e_ix, ↓e_sl, ↓e_rev, ↓e_call, ↓e_bi, ↓e_isi, ↓e_app, ↓e_ext, ↓e_pop, ↓e_comp, ↓es_nil, ↓es_cons, ↓if_nil, ↓if_cons, ↓o_no, ↓o_so, ↓s_ex', ↓s_ret', ↓s_retN', ↓s_asg', ↓s_sub', ↓s_aug', ↓s_iff', ↓s_whl', ↓s_for', ↓s_pass', ↓s_brk', ↓s_cont', ↓s_raise', ↓ss_nil', ↓ss_cons', ↓i_valE, ↓i_rng1E, ↓i_rng2E, ↓i_zipE, ↓i_enuE, ↓getK_s, ↓truK_t, ↓truK_f, ↓bK_s, ↓asgK_s, ↓atK_s, ↓seqK_s, ↓intsK_s, ↓blsK_s, ↓iteK_t, ↓iteK_f, ↓binD, ↓augD, ↓cmp_eq, ↓cmp_ne, ↓cmp_lt, ↓cmp_le, ↓cmp_gt, ↓cmp_ge, ↓cmp_is, ↓cmp_isn, ↓cmp_isN, ↓cmp_isnN, isNon, ↓ixD_int, ↓ixD_rod, atI0, atI1, atI2, atI3, ↓sl_tup, ↓sl_rol, ↓bi_len_tup, ↓bi_len_rol, ↓bi_len_ref, ↓bi_abs, ↓bi_int, ↓bi_intb, ↓bi_gcd, ↓bi_tup_tup, ↓bi_tup_rol, ↓bi_tup_ref, ↓bi_lst_tup, ↓bi_lst_rol, ↓bi_lst_ref, ↓bi_sum, ↓bi_sum_tup, ↓bi_sum_rol, ↓bi_all, ↓bi_any, ↓bi_max2, ↓bi_min2, tg_nm, tg_tp, tgsD, seqOf_tup, seqOf_rol, seqOf_up, seqL_rol, seqL_up', tru_non, tru_bl, tru_int, tru_tup, tru_rol, tru_up, ↓eq_int, isi_c, isi_int, isi_bl, isi_tup, isi_non, isi_str, isi_rol, tyN_up, tyN, List.getElem?_cons_zero, List.getElem?_cons_succ, List.set_cons_zero, List.set_cons_succ, permA, List.map_cons, List.map_nil, List.getD_cons_zero, List.getD_cons_succ, List.cons_append, List.nil_append, List.append_nil, List.replicate_succ, List.replicate_zero, RtP, ite_true, ite_false, if_true, if_false, Bool.false_eq_true, decide_true, decide_false, Bool.not_true, Bool.not_false, List.length_cons, List.length_nil]
  refine ⟨by decide, fun p hp => ?_⟩
  have s0 : Sub μ (up μ p (.lst [])) := .up hp
  simp only [↓e_v, ↓e_c, ↓e_bin, ↓e_neg, ↓e_cmp, ↓e_chn, ↓e_and, ↓e_or, ↓e_not, ↓e_ite, ↓e_tup, ↓e_lst, ↓e_ix, ↓e_sl, ↓e_rev, ↓e_call, ↓e_bi, ↓e_isi, ↓e_app, ↓e_ext, ↓e_pop, ↓e_comp, ↓es_nil, ↓es_cons, ↓if_nil, ↓if_cons, ↓o_no, ↓o_so, ↓s_ex', ↓s_ret', ↓s_retN', ↓s_asg', ↓s_sub', ↓s_aug', ↓s_iff', ↓s_whl', ↓s_for', ↓s_pass', ↓s_brk', ↓s_cont', ↓s_raise', ↓ss_nil', ↓ss_cons', ↓i_valE, ↓i_rng1E, ↓i_rng2E, ↓i_zipE, ↓i_enuE, ↓getK_s, ↓truK_t, ↓truK_f, ↓bK_s, ↓asgK_s, ↓atK_s, ↓seqK_s, ↓intsK_s, ↓blsK_s, ↓iteK_t, ↓iteK_f, ↓binD, ↓augD, ↓cmp_eq, ↓cmp_ne, ↓cmp_lt, ↓cmp_le, ↓cmp_gt, ↓cmp_ge, ↓cmp_is, ↓cmp_isn, ↓cmp_isN, ↓cmp_isnN, isNon, ↓ixD_int, ↓ixD_rod, atI0, atI1, atI2, atI3, ↓sl_tup, ↓sl_rol, ↓bi_len_tup, ↓bi_len_rol, ↓bi_len_ref, ↓bi_abs, ↓bi_int, ↓bi_intb, ↓bi_gcd, ↓bi_tup_tup, ↓bi_tup_rol, ↓bi_tup_ref, ↓bi_lst_tup, ↓bi_lst_rol, ↓bi_lst_ref, ↓bi_sum, ↓bi_sum_tup, ↓bi_sum_rol, ↓bi_all, ↓bi_any, ↓bi_max2, ↓bi_min2, tg_nm, tg_tp, tgsD, seqOf_tup, seqOf_rol, seqOf_up, seqL_rol, seqL_up', tru_non, tru_bl, tru_int, tru_tup, tru_rol, tru_up, ↓eq_int, isi_c, isi_int, isi_bl, isi_tup, isi_non, isi_str, isi_rol, tyN_up, tyN, List.getElem?_cons_zero, List.getElem?_cons_succ, List.set_cons_zero, List.set_cons_succ, permA, List.map_cons, List.map_nil, List.getD_cons_zero, List.getD_cons_succ, List.cons_append, List.nil_append, List.append_nil, List.replicate_succ, List.replicate_zero, RtP, ite_true, ite_false, if_true, if_false, Bool.false_eq_true, decide_true, decide_false, Bool.not_true, Bool.not_false, List.length_cons, List.length_nil, seqOf_sub s0 h1]
  refine forL_ind (fun ys ρ μ' => ∃ (acc rest : List D) (z : Option D), flatOf μ ys = some rest ∧ zs = acc ++ rest ∧ ρ = [some d, some (.ref p), z] ∧ μ' p = some (.lst acc) ∧ Sub μ μ') ?_ ?_ _ _ _ ?_
  · rintro y ys ρ μ' ⟨acc, rest, z, hf, hz, rfl, ep, s⟩
    obtain ⟨us, vs, hu, hv, rfl⟩ := flatOf_cons hf
    refine ⟨live_sub s h1, _, rfl, ?_⟩
    simp only [↓e_v, ↓e_c, ↓e_bin, ↓e_neg, ↓e_cmp, ↓e_chn, ↓e_and, ↓e_or, ↓e_not, ↓e_ite, ↓e_tup, ↓e_lst, ↓e_ix, ↓e_sl, ↓e_rev, ↓e_call, ↓e_bi, ↓e_isi, ↓e_app, ↓e_ext, ↓e_pop, ↓e_comp, ↓es_nil, ↓es_cons, ↓if_nil, ↓if_cons, ↓o_no, ↓o_so, ↓s_ex', ↓s_ret', ↓s_retN', ↓s_asg', ↓s_sub', ↓s_aug', ↓s_iff', ↓s_whl', ↓s_for', ↓s_pass', ↓s_brk', ↓s_cont', ↓s_raise', ↓ss_nil', ↓ss_cons', ↓i_valE, ↓i_rng1E, ↓i_rng2E, ↓i_zipE, ↓i_enuE, ↓getK_s, ↓truK_t, ↓truK_f, ↓bK_s, ↓asgK_s, ↓atK_s, ↓seqK_s, ↓intsK_s, ↓blsK_s, ↓iteK_t, ↓iteK_f, ↓binD, ↓augD, ↓cmp_eq, ↓cmp_ne, ↓cmp_lt, ↓cmp_le, ↓cmp_gt, ↓cmp_ge, ↓cmp_is, ↓cmp_isn, ↓cmp_isN, ↓cmp_isnN, isNon, ↓ixD_int, ↓ixD_rod, atI0, atI1, atI2, atI3, ↓sl_tup, ↓sl_rol, ↓bi_len_tup, ↓bi_len_rol, ↓bi_len_ref, ↓bi_abs, ↓bi_int, ↓bi_intb, ↓bi_gcd, ↓bi_tup_tup, ↓bi_tup_rol, ↓bi_tup_ref, ↓bi_lst_tup, ↓bi_lst_rol, ↓bi_lst_ref, ↓bi_sum, ↓bi_sum_tup, ↓bi_sum_rol, ↓bi_all, ↓bi_any, ↓bi_max2, ↓bi_min2, tg_nm, tg_tp, tgsD, seqOf_tup, seqOf_rol, seqOf_up, seqL_rol, seqL_up', tru_non, tru_bl, tru_int, tru_tup, tru_rol, tru_up, ↓eq_int, isi_c, isi_int, isi_bl, isi_tup, isi_non, isi_str, isi_rol, tyN_up, tyN, List.getElem?_cons_zero, List.getElem?_cons_succ, List.set_cons_zero, List.set_cons_succ, permA, List.map_cons, List.map_nil, List.getD_cons_zero, List.getD_cons_succ, List.cons_append, List.nil_append, List.append_nil, List.replicate_succ, List.replicate_zero, RtP, ite_true, ite_false, if_true, if_false, Bool.false_eq_true, decide_true, decide_false, Bool.not_true, Bool.not_false, List.length_cons, List.length_nil, isL_at ep]
    refine ⟨trivial, bi_list_of (seqOf_sub s hu) fun r hr => ?_⟩
    have hpr := ne_none ep hr
    refine extD_at (by rw [up_ne hpr]; exact ep) up_same hpr ?_ ?_
    · rw [hz, List.length_append, List.length_append] at h3
      exact Nat.le_trans (show acc.length + us.length ≤ 1000000 by omega) (by decide)
    · refine ⟨acc ++ us, vs, _, hv, by rw [hz, List.append_assoc], rfl, up_same, fun a o e => ?_⟩
      have n1 : a ≠ p := fun q => by rw [q, hp] at e; cases e
      have e2 := s a o e
      have n2 : a ≠ r := fun q => by rw [q, hr] at e2; cases e2
      rw [up_ne n1, up_ne n2]
      exact e2
  · rintro ρ μ' ⟨acc, rest, z, hf, hz, rfl, ep, s⟩
    cases hf
    refine ⟨live_sub s h1, ?_⟩
    simp only [↓e_v, ↓e_c, ↓e_bin, ↓e_neg, ↓e_cmp, ↓e_chn, ↓e_and, ↓e_or, ↓e_not, ↓e_ite, ↓e_tup, ↓e_lst, ↓e_ix, ↓e_sl, ↓e_rev, ↓e_call, ↓e_bi, ↓e_isi, ↓e_app, ↓e_ext, ↓e_pop, ↓e_comp, ↓es_nil, ↓es_cons, ↓if_nil, ↓if_cons, ↓o_no, ↓o_so, ↓s_ex', ↓s_ret', ↓s_retN', ↓s_asg', ↓s_sub', ↓s_aug', ↓s_iff', ↓s_whl', ↓s_for', ↓s_pass', ↓s_brk', ↓s_cont', ↓s_raise', ↓ss_nil', ↓ss_cons', ↓i_valE, ↓i_rng1E, ↓i_rng2E, ↓i_zipE, ↓i_enuE, ↓getK_s, ↓truK_t, ↓truK_f, ↓bK_s, ↓asgK_s, ↓atK_s, ↓seqK_s, ↓intsK_s, ↓blsK_s, ↓iteK_t, ↓iteK_f, ↓binD, ↓augD, ↓cmp_eq, ↓cmp_ne, ↓cmp_lt, ↓cmp_le, ↓cmp_gt, ↓cmp_ge, ↓cmp_is, ↓cmp_isn, ↓cmp_isN, ↓cmp_isnN, isNon, ↓ixD_int, ↓ixD_rod, atI0, atI1, atI2, atI3, ↓sl_tup, ↓sl_rol, ↓bi_len_tup, ↓bi_len_rol, ↓bi_len_ref, ↓bi_abs, ↓bi_int, ↓bi_intb, ↓bi_gcd, ↓bi_tup_tup, ↓bi_tup_rol, ↓bi_tup_ref, ↓bi_lst_tup, ↓bi_lst_rol, ↓bi_lst_ref, ↓bi_sum, ↓bi_sum_tup, ↓bi_sum_rol, ↓bi_all, ↓bi_any, ↓bi_max2, ↓bi_min2, tg_nm, tg_tp, tgsD, seqOf_tup, seqOf_rol, seqOf_up, seqL_rol, seqL_up', tru_non, tru_bl, tru_int, tru_tup, tru_rol, tru_up, ↓eq_int, isi_c, isi_int, isi_bl, isi_tup, isi_non, isi_str, isi_rol, tyN_up, tyN, List.getElem?_cons_zero, List.getElem?_cons_succ, List.set_cons_zero, List.set_cons_succ, permA, List.map_cons, List.map_nil, List.getD_cons_zero, List.getD_cons_succ, List.cons_append, List.nil_append, List.append_nil, List.replicate_succ, List.replicate_zero, RtP, ite_true, ite_false, if_true, if_false, Bool.false_eq_true, decide_true, decide_false, Bool.not_true, Bool.not_false, List.length_cons, List.length_nil]
    rw [List.append_nil] at hz
    subst hz
    refine ⟨up μ p (.lst zs), fun a o e => ?_, p, rfl, hp, rfl⟩
    by_cases ha : a = p
    · subst ha
      rw [up_same] at e
      cases e
      exact ep
    · rw [up_ne ha] at e
      exact s a o e
  · exact ⟨[], zs, none, h2, rfl, rfl, up_same, s0⟩
/-! ### drawn letters -/
theorem Tin.at {μ : Mu} {t : Addr} {n : Nat} (h : Tin μ t n) : ∃ o, μ t = some o := by
  obtain ⟨a, b, c, e, _⟩ := h
  exact ⟨_, e⟩
theorem Tin.mono {μ : Mu} {t : Addr} {n m : Nat} (h : Tin μ t n) (l : n ≤ m) : Tin μ t m := by
  obtain ⟨a, b, c, e, h1, h2, h3, h4, h5⟩ := h
  exact ⟨a, b, c, e, h1, h2, h3, h4, by omega⟩
theorem sub_tin {μ μ' : Mu} {t : Addr} {o : MO} (s : Sub μ μ') (ht : μ t = none) : Sub μ (up μ' t o) := sub_new s ht
theorem sub_up {μ μ' : Mu} {p : Addr} {o : MO} (s : Sub μ μ') (hp : μ' p = none) : Sub μ (up μ' p o) := s.trans (.up hp)
theorem none_sub {μ μ' : Mu} {p : Addr} (s : Sub μ μ') (h : μ' p = none) : μ p = none := by
  cases e : μ p with
  | none => rfl
  | some o => rw [s p o e] at h; cases h
/-- n letters drawn, each by an expression that gives a letter -/
theorem draw_comp {Φ : Nat → Spec} {ρ : Rho} {j : Nat} {e : E} {t : Addr} {n0 : Nat} {μ0 μ : Mu} {Q : List D → Mu → Prop} {ds : List D} {P : Int → Prop} (hds : ds.length ≤ 100000) (htn : μ0 t = none) (ht : Tin μ t n0) (hn : n0 + ds.length ≤ 2 ^ 39) (s : Sub μ0 μ)
    (step : ∀ x μ' n (R : QD), n < 2 ^ 40 → Tin μ' t n → (∀ (y : Int) o, P y → Tin (up μ' t o) t (n + 1) → R (.int y) (up μ' t o)) → wpE Φ (fun _ _ => False) e (ρ.set j (some x)) μ' R)
    (q : ∀ (w : List Int) μ', w.length = ds.length → (∀ y ∈ w, P y) → Tin μ' t (n0 + ds.length) → Sub μ0 μ' → (∀ a, a ≠ t → μ' a = μ a) → Q (w.map D.int) μ') : compW Φ (.nm j) .nil e (fun _ => True) ρ ds μ Q := by
  unfold compW
  refine compL_ind (fun ys acc μ' => ∃ (w : List Int), acc = w.map D.int ∧ w.length + ys.length = ds.length ∧ (∀ y ∈ w, P y) ∧ Tin μ' t (n0 + w.length) ∧ Sub μ0 μ' ∧ (∀ a, a ≠ t → μ' a = μ a)) ?_ ?_ ds [] μ ⟨[], rfl, (by simp), (fun y hy => by cases hy), ht, s, fun _ _ => rfl⟩
  · rintro x xs acc μ' ⟨w, rfl, hl, hp, ht', s', hk⟩
    rw [List.length_cons] at hl
    refine ⟨trivial, _, rfl, ?_⟩
    simp only [↓e_v, ↓e_c, ↓e_bin, ↓e_neg, ↓e_cmp, ↓e_chn, ↓e_and, ↓e_or, ↓e_not, ↓e_ite, ↓e_tup, ↓e_lst, ↓e_ix, ↓e_sl, ↓e_rev, ↓e_call, ↓e_bi, ↓e_isi, ↓e_app, ↓e_ext, ↓e_pop, ↓e_comp, ↓es_nil, ↓es_cons, ↓if_nil, ↓if_cons, ↓o_no, ↓o_so, ↓s_ex', ↓s_ret', ↓s_retN', ↓s_asg', ↓s_sub', ↓s_aug', ↓s_iff', ↓s_whl', ↓s_for', ↓s_pass', ↓s_brk', ↓s_cont', ↓s_raise', ↓ss_nil', ↓ss_cons', ↓i_valE, ↓i_rng1E, ↓i_rng2E, ↓i_zipE, ↓i_enuE, ↓getK_s, ↓truK_t, ↓truK_f, ↓bK_s, ↓asgK_s, ↓atK_s, ↓seqK_s, ↓intsK_s, ↓blsK_s, ↓iteK_t, ↓iteK_f, ↓binD, ↓augD, ↓cmp_eq, ↓cmp_ne, ↓cmp_lt, ↓cmp_le, ↓cmp_gt, ↓cmp_ge, ↓cmp_is, ↓cmp_isn, ↓cmp_isN, ↓cmp_isnN, isNon, ↓ixD_int, ↓ixD_rod, atI0, atI1, atI2, atI3, ↓sl_tup, ↓sl_rol, ↓bi_len_tup, ↓bi_len_rol, ↓bi_len_ref, ↓bi_abs, ↓bi_int, ↓bi_intb, ↓bi_gcd, ↓bi_tup_tup, ↓bi_tup_rol, ↓bi_tup_ref, ↓bi_lst_tup, ↓bi_lst_rol, ↓bi_lst_ref, ↓bi_sum, ↓bi_sum_tup, ↓bi_sum_rol, ↓bi_all, ↓bi_any, ↓bi_max2, ↓bi_min2, tg_nm, tg_tp, tgsD, seqOf_tup, seqOf_rol, seqOf_up, seqL_rol, seqL_up', tru_non, tru_bl, tru_int, tru_tup, tru_rol, tru_up, ↓eq_int, isi_c, isi_int, isi_bl, isi_tup, isi_non, isi_str, isi_rol, tyN_up, tyN, List.getElem?_cons_zero, List.getElem?_cons_succ, List.set_cons_zero, List.set_cons_succ, permA, List.map_cons, List.map_nil, List.getD_cons_zero, List.getD_cons_succ, List.cons_append, List.nil_append, List.append_nil, List.replicate_succ, List.replicate_zero, RtP, ite_true, ite_false, if_true, if_false, Bool.false_eq_true, decide_true, decide_false, Bool.not_true, Bool.not_false, List.length_cons, List.length_nil]
    refine step x μ' _ _ (by omega) ht' fun y o hy ht2 => ?_
    refine ⟨by rw [List.length_map]; exact Nat.lt_of_lt_of_le (show w.length < 100000 by omega) (by decide), w ++ [y], by rw [List.map_append]; rfl, by rw [List.length_append, List.length_singleton]; omega, fun z hz => ?_, by rw [List.length_append, List.length_singleton]; exact ht2, sub_tin s' htn, fun a ha => ?_⟩
    · rcases List.mem_append.mp hz with h | h
      · exact hp z h
      · rw [List.mem_singleton.mp h]; exact hy
    · rw [up_ne ha]; exact hk a ha
  · rintro acc μ' ⟨w, rfl, hl, hp, ht', s', hk⟩
    have hl : w.length = ds.length := by simpa using hl
    rw [hl] at ht'
    exact ⟨trivial, q w μ' hl hp ht' s' hk⟩
end LD
namespace LD
open PySem PySem.Spec PyProof.Rows L2
abbrev b_law (i__law_box : Nat) (i__law_cells : Nat) (i__law_take : Nat) (i__law_short : Nat) (i_shortened : Nat) (i_is_word : Nat) (i_word_back : Nat) (i_word_behind : Nat) (i_move_product : Nat) (i_move_by : Nat) (i__law_flat : Nat) (i_round_word : Nat) (i_how_often : Nat) (i_sizes_by : Nat) (i_move_size : Nat) (i_class_move : Nat) (i__law_spell : Nat) (i_how_many_words : Nat) : Ss := (.cons (.asg (.nm 1) (.call i__law_box (.cons (.call i__law_cells (.cons (.v 0) (.cons (.c (.int 1)) .nil)) .nil [0, 1]) (.cons (.c (.int 0)) .nil)) .nil [0, 1])) (.cons (.asg (.nm 2) (.bin .Add (.c (.int 200)) (.call i__law_take (.cons (.v 1) (.cons (.c (.int 1700)) .nil)) .nil [0, 1]))) (.cons (.asg (.nm 3) (.bin .Mult (.bi .tuple (.cons (.comp (.nm 13) (.rng1 (.bi .min (.cons (.v 2) (.cons (.c (.int 400)) .nil)))) .nil (.bin .Add (.c (.int 1)) (.call i__law_take (.cons (.v 1) (.cons (.c (.int 3)) .nil)) .nil [0, 1])) [13]) .nil)) (.bin .Add (.bin .FloorDiv (.v 2) (.c (.int 400))) (.c (.int 1))))) (.cons (.asg (.nm 3) (.sl (.v 3) .no (.so (.v 2)))) (.cons (.asg (.nm 4) (.call i__law_short (.cons (.v 3) .nil) .nil [0])) (.cons (.iff (.or (.cmp .NotEq (.call i_shortened .nil (.cons (.v 3) .nil) [0]) (.v 4)) (.or (.cmp .IsNot (.call i_is_word .nil (.cons (.v 4) .nil) [0]) (.c (.bl true))) (.cmp .NotEq (.call i_is_word (.cons (.v 3) .nil) .nil [0]) (.cmp .Eq (.v 3) (.v 4))))) (.cons (.ret (.c (.bl false))) .nil) .nil) (.cons (.asg (.nm 5) (.bi .tuple (.cons (.comp (.nm 12) (.val (.rev (.v 4))) .nil (.ite (.cmp .Eq (.v 12) (.c (.int 1))) (.v 12) (.bin .Sub (.c (.int 5)) (.v 12))) [12]) .nil))) (.cons (.iff (.or (.cmp .NotEq (.call i_word_back .nil (.cons (.v 4) .nil) [0]) (.v 5)) (.cmp .NotEq (.call i_word_behind .nil (.cons (.v 4) (.cons (.v 5) .nil)) [0, 1]) (.tup .nil))) (.cons (.ret (.c (.bl false))) .nil) .nil) (.cons (.asg (.nm 6) (.call i__law_take (.cons (.v 1) (.cons (.bin .Add (.bi .len (.cons (.v 4) .nil)) (.c (.int 1))) .nil)) .nil [0, 1])) (.cons (.iff (.or (.cmp .NotEq (.call i_word_behind (.cons (.sl (.v 4) .no (.so (.v 6))) (.cons (.sl (.v 4) (.so (.v 6)) .no) .nil)) .nil [0, 1]) (.v 4)) (.cmp .NotEq (.call i_move_product (.cons (.call i_move_by (.cons (.sl (.v 4) .no (.so (.v 6))) .nil) .nil [0]) (.cons (.call i_move_by (.cons (.sl (.v 4) (.so (.v 6)) .no) .nil) .nil [0]) .nil)) .nil [0, 1]) (.call i_move_by .nil (.cons (.v 3) .nil) [0]))) (.cons (.ret (.c (.bl false))) .nil) .nil) (.cons (.asg (.nm 7) (.bi .tuple (.cons (.call i__law_flat (.cons (.comp (.nm 13) (.rng1 (.bin .Add (.c (.int 1)) (.call i__law_take (.cons (.v 1) (.cons (.c (.int 6)) .nil)) .nil [0, 1]))) .nil (.lst (.cons (.c (.int 1)) (.cons (.bin .Add (.c (.int 2)) (.call i__law_take (.cons (.v 1) (.cons (.c (.int 2)) .nil)) .nil [0, 1])) .nil))) [13]) .nil) .nil [0]) .nil))) (.cons (.asg (.nm 8) (.bin .Add (.c (.int 1)) (.call i__law_take (.cons (.v 1) (.cons (.c (.int 20)) .nil)) .nil [0, 1]))) (.cons (.asg (.nm 9) (.call i_round_word .nil (.cons (.bin .Mult (.v 7) (.v 8)) .nil) [0])) (.cons (.asg (.nm 10) (.bi .min (.cons (.comp (.nm 13) (.rng1 (.bi .len (.cons (.v 7) .nil))) .nil (.bin .Add (.sl (.v 7) (.so (.v 13)) .no) (.sl (.v 7) .no (.so (.v 13)))) [13]) .nil))) (.cons (.iff (.or (.cmp .NotEq (.v 9) (.bin .Mult (.v 10) (.v 8))) (.or (.cmp .NotEq (.bin .Mod (.call i_how_often .nil (.cons (.v 9) .nil) [0]) (.v 8)) (.c (.int 0))) (.cmp .NotEq (.bi .len (.cons (.v 9) .nil)) (.bin .Mult (.bi .len (.cons (.v 7) .nil)) (.v 8))))) (.cons (.ret (.c (.bl false))) .nil) .nil) (.cons (.iff (.or (.cmp .NotEq (.call i_sizes_by .nil (.cons (.v 9) .nil) [0]) (.call i_move_size .nil (.cons (.call i_class_move .nil (.cons (.v 9) .nil) [0]) .nil) [0])) (.cmp .NotEq (.call i_class_move (.cons (.v 9) .nil) .nil [0]) (.call i__law_spell (.cons (.v 9) .nil) .nil [0]))) (.cons (.ret (.c (.bl false))) .nil) .nil) (.cons (.asg (.nm 11) (.bin .Add (.c (.int 2)) (.call i__law_take (.cons (.v 1) (.cons (.c (.int 500)) .nil)) .nil [0, 1]))) (.cons (.ret (.ite (.cmp .Gt (.v 11) (.c (.int 2))) (.cmp .Eq (.call i_how_many_words .nil (.cons (.v 11) .nil) [0]) (.bin .Mult (.c (.int 2)) (.call i_how_many_words (.cons (.bin .Sub (.v 11) (.c (.int 2))) .nil) .nil [0]))) (.cmp .Eq (.call i_how_many_words .nil (.cons (.c (.int 2)) .nil) [0]) (.c (.int 4))))) .nil))))))))))))))))))
def prs : List Int → List Int
  | [] => []
  | x :: xs => 1 :: x :: prs xs
theorem prs_len : ∀ xs : List Int, (prs xs).length = 2 * xs.length
  | [] => rfl
  | x :: xs => by
    unfold prs
    rw [List.length_cons, List.length_cons, List.length_cons, prs_len xs]
    omega
theorem flat_pairs {μ : Mu} : ∀ L : List (Addr × Int), (∀ p ∈ L, μ p.1 = some (.lst [.int 1, .int p.2])) → flatOf μ (L.map fun p => D.ref p.1) = some ((prs (L.map (·.2))).map D.int)
  | [], _ => rfl
  | p :: L, h => by
    have ih := flat_pairs L fun q hq => h q (List.mem_cons_of_mem _ hq)
    rw [List.map_cons, List.map_cons]
    unfold flatOf prs
    rw [ih, seqOf_ref (h p (List.mem_cons_self ..))]
    rfl
theorem prs_mem : ∀ (xs : List Int) (z : Int), z ∈ prs xs → z = 1 ∨ z ∈ xs
  | [], z, h => by cases h
  | x :: xs, z, h => by
    unfold prs at h
    rcases List.mem_cons.mp h with h | h
    · exact .inl h
    · rcases List.mem_cons.mp h with h | h
      · exact .inr (by rw [h]; exact List.mem_cons_self ..)
      · rcases prs_mem xs z h with q | q
        · exact .inl q
        · exact .inr (List.mem_cons_of_mem _ q)
theorem prs_alt : ∀ xs : List Int, (∀ x ∈ xs, x ≠ 1) → alt (prs xs) = true
  | [], _ => rfl
  | [x], h => by
    have := h x (List.mem_cons_self ..)
    unfold prs prs alt
    rw [decide_eq_false this]
    rfl
  | x :: y :: xs, h => by
    have ih := prs_alt (y :: xs) fun z hz => h z (List.mem_cons_of_mem _ hz)
    have hx := h x (List.mem_cons_self ..)
    unfold prs at ih ⊢
    unfold prs
    unfold alt alt
    rw [ih, decide_eq_false hx]
    rfl
theorem prs_ends : ∀ xs : List Int, xs ≠ [] → ∃ m y, prs xs = 1 :: (m ++ [y]) ∧ y ∈ xs
  | [], h => absurd rfl h
  | [x], _ => ⟨[], x, rfl, List.mem_cons_self ..⟩
  | x :: y :: xs, _ => by
    obtain ⟨m, z, e, hz⟩ := prs_ends (y :: xs) (by simp)
    refine ⟨x :: 1 :: m, z, ?_, List.mem_cons_of_mem _ hz⟩
    conv => lhs; unfold prs
    rw [e]
    rfl
theorem prs_circ {xs : List Int} (h : ∀ x ∈ xs, x = 2 ∨ x = 3) (hne : xs ≠ []) : Circ (prs xs) := by
  have h1 : ∀ x ∈ xs, x ≠ 1 := fun x hx => by rcases h x hx with q | q <;> omega
  obtain ⟨m, y, e, hy⟩ := prs_ends xs hne
  have := prs_alt xs h1
  rw [e] at this ⊢
  refine circ_of this ?_
  rw [decide_eq_false (h1 y hy)]
  decide
theorem prs_lt {xs : List Int} (h : ∀ x ∈ xs, x = 2 ∨ x = 3) : Lt3 (prs xs) := fun z hz => by
  rcases prs_mem xs z hz with q | q
  · exact .inl q
  · exact .inr (h z q)
theorem rep_mem {α : Type} {k : Nat} {w : List α} {x : α} (h : x ∈ rep k w) : x ∈ w := by
  unfold rep at h
  obtain ⟨l, hl, hx⟩ := List.mem_flatten.mp h
  rw [List.eq_of_mem_replicate hl] at hx
  exact hx
theorem map_take_int {w : List Int} {n : Nat} : (w.map D.int).take n = (w.take n).map D.int := List.map_take.symm
theorem map_drop_int {w : List Int} {n : Nat} : (w.map D.int).drop n = (w.drop n).map D.int := List.map_drop.symm
theorem lt3_sub {u w : List Int} (h : Lt3 w) (s : ∀ x ∈ u, x ∈ w) : Lt3 u := fun x hx => h x (s x hx)
theorem wordB_of {w : List Int} (h : Lt3 w) (k : alt w = true) : wordB w = true := by unfold wordB; rw [rowB_lt h, k]; rfl
/-- the callees -/
structure K93 (Φ : Nat → Spec) (box cells take lshort shortened isword wback wbehind mprod mby flat roundw howoften sizes msize cmove spell hmw : Nat) : Prop where
  box : Φ box = sp_box
  cells : Φ cells = sp_cells
  take : Φ take = sp_take
  lshort : Φ lshort = sp_shortest
  shortened : Φ shortened = sp_shortened
  isword : Φ isword = sp_row wordB
  wback : Φ wback = sp_word_back
  wbehind : Φ wbehind = sp_behind
  mprod : Φ mprod = sp_mv_product
  mby : Φ mby = sp_move_in
  flat : Φ flat = sp_flat
  roundw : Φ roundw = sp_roundw
  howoften : Φ howoften = sp_how_often
  sizes : Φ sizes = sp_sizes_by
  msize : Φ msize = sp_mv_size
  cmove : Φ cmove = sp_class_move
  spell : Φ spell = sp_move_in
  hmw : Φ hmw = sp_hmw
section
variable {Φ : Nat → Spec} {i_box i_cells i_take i_lshort i_shortened i_isword i_wback i_wbehind i_mprod i_mby i_flat i_roundw i_howoften i_sizes i_msize i_cmove i_spell i_hmw : Nat}
theorem m_law93 (h : K93 Φ i_box i_cells i_take i_lshort i_shortened i_isword i_wback i_wbehind i_mprod i_mby i_flat i_roundw i_howoften i_sizes i_msize i_cmove i_spell i_hmw) : Meets Φ 1 14 (b_law i_box i_cells i_take i_lshort i_shortened i_isword i_wback i_wbehind i_mprod i_mby i_flat i_roundw i_howoften i_sizes i_msize i_cmove i_spell i_hmw) sp_law := pur_meets inj1 fun d μ hp => by
  obtain ⟨ns, hd, hl, hz⟩ := hp
  simp only [↓e_v, ↓e_c, ↓e_bin, ↓e_neg, ↓e_cmp, ↓e_chn, ↓e_and, ↓e_or, ↓e_not, ↓e_ite, ↓e_tup, ↓e_lst, ↓e_ix, ↓e_sl, ↓e_rev, ↓e_call, ↓e_bi, ↓e_isi, ↓e_app, ↓e_ext, ↓e_pop, ↓e_comp, ↓es_nil, ↓es_cons, ↓if_nil, ↓if_cons, ↓o_no, ↓o_so, ↓s_ex', ↓s_ret', ↓s_retN', ↓s_asg', ↓s_sub', ↓s_aug', ↓s_iff', ↓s_whl', ↓s_for', ↓s_pass', ↓s_brk', ↓s_cont', ↓s_raise', ↓ss_nil', ↓ss_cons', ↓i_valE, ↓i_rng1E, ↓i_rng2E, ↓i_zipE, ↓i_enuE, ↓getK_s, ↓truK_t, ↓truK_f, ↓bK_s, ↓asgK_s, ↓atK_s, ↓seqK_s, ↓intsK_s, ↓blsK_s, ↓iteK_t, ↓iteK_f, ↓binD, ↓augD, ↓cmp_eq, ↓cmp_ne, ↓cmp_lt, ↓cmp_le, ↓cmp_gt, ↓cmp_ge, ↓cmp_is, ↓cmp_isn, ↓cmp_isN, ↓cmp_isnN, isNon, ↓ixD_int, ↓ixD_rod, atI0, atI1, atI2, atI3, ↓sl_tup, ↓sl_rol, ↓bi_len_tup, ↓bi_len_rol, ↓bi_len_ref, ↓bi_abs, ↓bi_int, ↓bi_intb, ↓bi_gcd, ↓bi_tup_tup, ↓bi_tup_rol, ↓bi_tup_ref, ↓bi_lst_tup, ↓bi_lst_rol, ↓bi_lst_ref, ↓bi_sum, ↓bi_sum_tup, ↓bi_sum_rol, ↓bi_all, ↓bi_any, ↓bi_max2, ↓bi_min2, tg_nm, tg_tp, tgsD, seqOf_tup, seqOf_rol, seqOf_up, seqL_rol, seqL_up', tru_non, tru_bl, tru_int, tru_tup, tru_rol, tru_up, ↓eq_int, isi_c, isi_int, isi_bl, isi_tup, isi_non, isi_str, isi_rol, tyN_up, tyN, List.getElem?_cons_zero, List.getElem?_cons_succ, List.set_cons_zero, List.set_cons_succ, permA, List.map_cons, List.map_nil, List.getD_cons_zero, List.getD_cons_succ, List.cons_append, List.nil_append, List.append_nil, List.replicate_succ, List.replicate_zero, RtP, ite_true, ite_false, if_true, if_false, Bool.false_eq_true, decide_true, decide_false, Bool.not_true, Bool.not_false, List.length_cons, List.length_nil, h.cells]
  refine cells_run (m := 1) hd hl hz (by decide) (by decide) fun p x xs hp _ hz' => ?_
  simp only [↓e_v, ↓e_c, ↓e_bin, ↓e_neg, ↓e_cmp, ↓e_chn, ↓e_and, ↓e_or, ↓e_not, ↓e_ite, ↓e_tup, ↓e_lst, ↓e_ix, ↓e_sl, ↓e_rev, ↓e_call, ↓e_bi, ↓e_isi, ↓e_app, ↓e_ext, ↓e_pop, ↓e_comp, ↓es_nil, ↓es_cons, ↓if_nil, ↓if_cons, ↓o_no, ↓o_so, ↓s_ex', ↓s_ret', ↓s_retN', ↓s_asg', ↓s_sub', ↓s_aug', ↓s_iff', ↓s_whl', ↓s_for', ↓s_pass', ↓s_brk', ↓s_cont', ↓s_raise', ↓ss_nil', ↓ss_cons', ↓i_valE, ↓i_rng1E, ↓i_rng2E, ↓i_zipE, ↓i_enuE, ↓getK_s, ↓truK_t, ↓truK_f, ↓bK_s, ↓asgK_s, ↓atK_s, ↓seqK_s, ↓intsK_s, ↓blsK_s, ↓iteK_t, ↓iteK_f, ↓binD, ↓augD, ↓cmp_eq, ↓cmp_ne, ↓cmp_lt, ↓cmp_le, ↓cmp_gt, ↓cmp_ge, ↓cmp_is, ↓cmp_isn, ↓cmp_isN, ↓cmp_isnN, isNon, ↓ixD_int, ↓ixD_rod, atI0, atI1, atI2, atI3, ↓sl_tup, ↓sl_rol, ↓bi_len_tup, ↓bi_len_rol, ↓bi_len_ref, ↓bi_abs, ↓bi_int, ↓bi_intb, ↓bi_gcd, ↓bi_tup_tup, ↓bi_tup_rol, ↓bi_tup_ref, ↓bi_lst_tup, ↓bi_lst_rol, ↓bi_lst_ref, ↓bi_sum, ↓bi_sum_tup, ↓bi_sum_rol, ↓bi_all, ↓bi_any, ↓bi_max2, ↓bi_min2, tg_nm, tg_tp, tgsD, seqOf_tup, seqOf_rol, seqOf_up, seqL_rol, seqL_up', tru_non, tru_bl, tru_int, tru_tup, tru_rol, tru_up, ↓eq_int, isi_c, isi_int, isi_bl, isi_tup, isi_non, isi_str, isi_rol, tyN_up, tyN, List.getElem?_cons_zero, List.getElem?_cons_succ, List.set_cons_zero, List.set_cons_succ, permA, List.map_cons, List.map_nil, List.getD_cons_zero, List.getD_cons_succ, List.cons_append, List.nil_append, List.append_nil, List.replicate_succ, List.replicate_zero, RtP, ite_true, ite_false, if_true, if_false, Bool.false_eq_true, decide_true, decide_false, Bool.not_true, Bool.not_false, List.length_cons, List.length_nil, h.box]
  refine box_run up_same (hz' x (List.mem_cons_self ..)) fun t o htn ht => ?_
  have s0 : Sub μ (up (up μ p (.lst (.int x :: xs.map D.int))) t o) := (Sub.up hp).trans (Sub.up htn)
  have tp : μ t = none := none_sub (Sub.up hp) htn
  simp only [↓e_v, ↓e_c, ↓e_bin, ↓e_neg, ↓e_cmp, ↓e_chn, ↓e_and, ↓e_or, ↓e_not, ↓e_ite, ↓e_tup, ↓e_lst, ↓e_ix, ↓e_sl, ↓e_rev, ↓e_call, ↓e_bi, ↓e_isi, ↓e_app, ↓e_ext, ↓e_pop, ↓e_comp, ↓es_nil, ↓es_cons, ↓if_nil, ↓if_cons, ↓o_no, ↓o_so, ↓s_ex', ↓s_ret', ↓s_retN', ↓s_asg', ↓s_sub', ↓s_aug', ↓s_iff', ↓s_whl', ↓s_for', ↓s_pass', ↓s_brk', ↓s_cont', ↓s_raise', ↓ss_nil', ↓ss_cons', ↓i_valE, ↓i_rng1E, ↓i_rng2E, ↓i_zipE, ↓i_enuE, ↓getK_s, ↓truK_t, ↓truK_f, ↓bK_s, ↓asgK_s, ↓atK_s, ↓seqK_s, ↓intsK_s, ↓blsK_s, ↓iteK_t, ↓iteK_f, ↓binD, ↓augD, ↓cmp_eq, ↓cmp_ne, ↓cmp_lt, ↓cmp_le, ↓cmp_gt, ↓cmp_ge, ↓cmp_is, ↓cmp_isn, ↓cmp_isN, ↓cmp_isnN, isNon, ↓ixD_int, ↓ixD_rod, atI0, atI1, atI2, atI3, ↓sl_tup, ↓sl_rol, ↓bi_len_tup, ↓bi_len_rol, ↓bi_len_ref, ↓bi_abs, ↓bi_int, ↓bi_intb, ↓bi_gcd, ↓bi_tup_tup, ↓bi_tup_rol, ↓bi_tup_ref, ↓bi_lst_tup, ↓bi_lst_rol, ↓bi_lst_ref, ↓bi_sum, ↓bi_sum_tup, ↓bi_sum_rol, ↓bi_all, ↓bi_any, ↓bi_max2, ↓bi_min2, tg_nm, tg_tp, tgsD, seqOf_tup, seqOf_rol, seqOf_up, seqL_rol, seqL_up', tru_non, tru_bl, tru_int, tru_tup, tru_rol, tru_up, ↓eq_int, isi_c, isi_int, isi_bl, isi_tup, isi_non, isi_str, isi_rol, tyN_up, tyN, List.getElem?_cons_zero, List.getElem?_cons_succ, List.set_cons_zero, List.set_cons_succ, permA, List.map_cons, List.map_nil, List.getD_cons_zero, List.getD_cons_succ, List.cons_append, List.nil_append, List.append_nil, List.replicate_succ, List.replicate_zero, RtP, ite_true, ite_false, if_true, if_false, Bool.false_eq_true, decide_true, decide_false, Bool.not_true, Bool.not_false, List.length_cons, List.length_nil, h.take]
  refine take_run ht (by decide) (by decide) (by decide) fun r o1 hr0 hr1 ht1 => ?_
  have s1 := sub_tin (o := o1) s0 tp
  generalize up (up (up μ p (.lst (.int x :: xs.map D.int))) t o) t o1 = μ1 at *
  obtain ⟨M, eM⟩ : ∃ M : Nat, 200 + r = (M : Int) := ⟨(200 + r).toNat, by omega⟩
  have hM1 : 200 ≤ M := by omega
  have hM2 : M < 1900 := by omega
  have hmin : (if (400 : Int) < (M : Int) then (400 : Int) else (M : Int)) = ((min 400 M : Nat) : Int) := by
    split <;> omega
  simp only [↓e_v, ↓e_c, ↓e_bin, ↓e_neg, ↓e_cmp, ↓e_chn, ↓e_and, ↓e_or, ↓e_not, ↓e_ite, ↓e_tup, ↓e_lst, ↓e_ix, ↓e_sl, ↓e_rev, ↓e_call, ↓e_bi, ↓e_isi, ↓e_app, ↓e_ext, ↓e_pop, ↓e_comp, ↓es_nil, ↓es_cons, ↓if_nil, ↓if_cons, ↓o_no, ↓o_so, ↓s_ex', ↓s_ret', ↓s_retN', ↓s_asg', ↓s_sub', ↓s_aug', ↓s_iff', ↓s_whl', ↓s_for', ↓s_pass', ↓s_brk', ↓s_cont', ↓s_raise', ↓ss_nil', ↓ss_cons', ↓i_valE, ↓i_rng1E, ↓i_rng2E, ↓i_zipE, ↓i_enuE, ↓getK_s, ↓truK_t, ↓truK_f, ↓bK_s, ↓asgK_s, ↓atK_s, ↓seqK_s, ↓intsK_s, ↓blsK_s, ↓iteK_t, ↓iteK_f, ↓binD, ↓augD, ↓cmp_eq, ↓cmp_ne, ↓cmp_lt, ↓cmp_le, ↓cmp_gt, ↓cmp_ge, ↓cmp_is, ↓cmp_isn, ↓cmp_isN, ↓cmp_isnN, isNon, ↓ixD_int, ↓ixD_rod, atI0, atI1, atI2, atI3, ↓sl_tup, ↓sl_rol, ↓bi_len_tup, ↓bi_len_rol, ↓bi_len_ref, ↓bi_abs, ↓bi_int, ↓bi_intb, ↓bi_gcd, ↓bi_tup_tup, ↓bi_tup_rol, ↓bi_tup_ref, ↓bi_lst_tup, ↓bi_lst_rol, ↓bi_lst_ref, ↓bi_sum, ↓bi_sum_tup, ↓bi_sum_rol, ↓bi_all, ↓bi_any, ↓bi_max2, ↓bi_min2, tg_nm, tg_tp, tgsD, seqOf_tup, seqOf_rol, seqOf_up, seqL_rol, seqL_up', tru_non, tru_bl, tru_int, tru_tup, tru_rol, tru_up, ↓eq_int, isi_c, isi_int, isi_bl, isi_tup, isi_non, isi_str, isi_rol, tyN_up, tyN, List.getElem?_cons_zero, List.getElem?_cons_succ, List.set_cons_zero, List.set_cons_succ, permA, List.map_cons, List.map_nil, List.getD_cons_zero, List.getD_cons_succ, List.cons_append, List.nil_append, List.append_nil, List.replicate_succ, List.replicate_zero, RtP, ite_true, ite_false, if_true, if_false, Bool.false_eq_true, decide_true, decide_false, Bool.not_true, Bool.not_false, List.length_cons, List.length_nil]
  rw [eM, hmin]
  refine ⟨⟨by omega, by omega⟩, ?_⟩
  rw [Int.toNat_natCast]
  refine draw_comp (t := t) (n0 := 1) (P := fun y => y = 1 ∨ y = 2 ∨ y = 3) (by rw [len_rngL]; omega) tp ht1 (by rw [len_rngL]; omega) s1 (fun x μ' n R hn ht' r => ?_) fun w μ2 hw1 hw2 ht2 s2 _ => ?_
  · simp only [↓e_v, ↓e_c, ↓e_bin, ↓e_neg, ↓e_cmp, ↓e_chn, ↓e_and, ↓e_or, ↓e_not, ↓e_ite, ↓e_tup, ↓e_lst, ↓e_ix, ↓e_sl, ↓e_rev, ↓e_call, ↓e_bi, ↓e_isi, ↓e_app, ↓e_ext, ↓e_pop, ↓e_comp, ↓es_nil, ↓es_cons, ↓if_nil, ↓if_cons, ↓o_no, ↓o_so, ↓s_ex', ↓s_ret', ↓s_retN', ↓s_asg', ↓s_sub', ↓s_aug', ↓s_iff', ↓s_whl', ↓s_for', ↓s_pass', ↓s_brk', ↓s_cont', ↓s_raise', ↓ss_nil', ↓ss_cons', ↓i_valE, ↓i_rng1E, ↓i_rng2E, ↓i_zipE, ↓i_enuE, ↓getK_s, ↓truK_t, ↓truK_f, ↓bK_s, ↓asgK_s, ↓atK_s, ↓seqK_s, ↓intsK_s, ↓blsK_s, ↓iteK_t, ↓iteK_f, ↓binD, ↓augD, ↓cmp_eq, ↓cmp_ne, ↓cmp_lt, ↓cmp_le, ↓cmp_gt, ↓cmp_ge, ↓cmp_is, ↓cmp_isn, ↓cmp_isN, ↓cmp_isnN, isNon, ↓ixD_int, ↓ixD_rod, atI0, atI1, atI2, atI3, ↓sl_tup, ↓sl_rol, ↓bi_len_tup, ↓bi_len_rol, ↓bi_len_ref, ↓bi_abs, ↓bi_int, ↓bi_intb, ↓bi_gcd, ↓bi_tup_tup, ↓bi_tup_rol, ↓bi_tup_ref, ↓bi_lst_tup, ↓bi_lst_rol, ↓bi_lst_ref, ↓bi_sum, ↓bi_sum_tup, ↓bi_sum_rol, ↓bi_all, ↓bi_any, ↓bi_max2, ↓bi_min2, tg_nm, tg_tp, tgsD, seqOf_tup, seqOf_rol, seqOf_up, seqL_rol, seqL_up', tru_non, tru_bl, tru_int, tru_tup, tru_rol, tru_up, ↓eq_int, isi_c, isi_int, isi_bl, isi_tup, isi_non, isi_str, isi_rol, tyN_up, tyN, List.getElem?_cons_zero, List.getElem?_cons_succ, List.set_cons_zero, List.set_cons_succ, permA, List.map_cons, List.map_nil, List.getD_cons_zero, List.getD_cons_succ, List.cons_append, List.nil_append, List.append_nil, List.replicate_succ, List.replicate_zero, RtP, ite_true, ite_false, if_true, if_false, Bool.false_eq_true, decide_true, decide_false, Bool.not_true, Bool.not_false, List.length_cons, List.length_nil, h.take, wipeR]
    refine take_run ht' hn (by decide) (by decide) fun y o h0 h1 h2 => ?_
    exact r (1 + y) o (by omega) h2
  rw [len_rngL] at hw1 ht2
  intro p2 hp2
  have s3 := sub_up (o := .lst (w.map D.int)) s2 hp2
  have htp2 : t ≠ p2 := by
    obtain ⟨o, e⟩ := ht2.at
    exact ne_none e hp2
  have ht3 := ht2.other (o := .lst (w.map D.int)) htp2
  have hp3 : up μ2 p2 (.lst (w.map D.int)) p2 = some (.lst (w.map D.int)) := up_same
  generalize up μ2 p2 (.lst (w.map D.int)) = μ3 at *
  have hwne : w ≠ [] := fun e => by rw [e, List.length_nil] at hw1; omega
  have ediv : (M : Int).fdiv 400 + 1 = ((M / 400 + 1 : Nat) : Int) := by
    rw [Int.fdiv_eq_ediv_of_nonneg _ (by decide)]
    omega
  simp only [↓e_v, ↓e_c, ↓e_bin, ↓e_neg, ↓e_cmp, ↓e_chn, ↓e_and, ↓e_or, ↓e_not, ↓e_ite, ↓e_tup, ↓e_lst, ↓e_ix, ↓e_sl, ↓e_rev, ↓e_call, ↓e_bi, ↓e_isi, ↓e_app, ↓e_ext, ↓e_pop, ↓e_comp, ↓es_nil, ↓es_cons, ↓if_nil, ↓if_cons, ↓o_no, ↓o_so, ↓s_ex', ↓s_ret', ↓s_retN', ↓s_asg', ↓s_sub', ↓s_aug', ↓s_iff', ↓s_whl', ↓s_for', ↓s_pass', ↓s_brk', ↓s_cont', ↓s_raise', ↓ss_nil', ↓ss_cons', ↓i_valE, ↓i_rng1E, ↓i_rng2E, ↓i_zipE, ↓i_enuE, ↓getK_s, ↓truK_t, ↓truK_f, ↓bK_s, ↓asgK_s, ↓atK_s, ↓seqK_s, ↓intsK_s, ↓blsK_s, ↓iteK_t, ↓iteK_f, ↓binD, ↓augD, ↓cmp_eq, ↓cmp_ne, ↓cmp_lt, ↓cmp_le, ↓cmp_gt, ↓cmp_ge, ↓cmp_is, ↓cmp_isn, ↓cmp_isN, ↓cmp_isnN, isNon, ↓ixD_int, ↓ixD_rod, atI0, atI1, atI2, atI3, ↓sl_tup, ↓sl_rol, ↓bi_len_tup, ↓bi_len_rol, ↓bi_len_ref, ↓bi_abs, ↓bi_int, ↓bi_intb, ↓bi_gcd, ↓bi_tup_tup, ↓bi_tup_rol, ↓bi_tup_ref, ↓bi_lst_tup, ↓bi_lst_rol, ↓bi_lst_ref, ↓bi_sum, ↓bi_sum_tup, ↓bi_sum_rol, ↓bi_all, ↓bi_any, ↓bi_max2, ↓bi_min2, tg_nm, tg_tp, tgsD, seqOf_tup, seqOf_rol, seqOf_up, seqL_rol, seqL_up', tru_non, tru_bl, tru_int, tru_tup, tru_rol, tru_up, ↓eq_int, isi_c, isi_int, isi_bl, isi_tup, isi_non, isi_str, isi_rol, tyN_up, tyN, List.getElem?_cons_zero, List.getElem?_cons_succ, List.set_cons_zero, List.set_cons_succ, permA, List.map_cons, List.map_nil, List.getD_cons_zero, List.getD_cons_succ, List.cons_append, List.nil_append, List.append_nil, List.replicate_succ, List.replicate_zero, RtP, ite_true, ite_false, if_true, if_false, Bool.false_eq_true, decide_true, decide_false, Bool.not_true, Bool.not_false, List.length_cons, List.length_nil, seqOf_ref hp3]
  rw [ediv]
  refine ⟨by decide, mulT_rep (by omega) (by omega) (by omega) hwne ?_⟩
  simp only [↓e_v, ↓e_c, ↓e_bin, ↓e_neg, ↓e_cmp, ↓e_chn, ↓e_and, ↓e_or, ↓e_not, ↓e_ite, ↓e_tup, ↓e_lst, ↓e_ix, ↓e_sl, ↓e_rev, ↓e_call, ↓e_bi, ↓e_isi, ↓e_app, ↓e_ext, ↓e_pop, ↓e_comp, ↓es_nil, ↓es_cons, ↓if_nil, ↓if_cons, ↓o_no, ↓o_so, ↓s_ex', ↓s_ret', ↓s_retN', ↓s_asg', ↓s_sub', ↓s_aug', ↓s_iff', ↓s_whl', ↓s_for', ↓s_pass', ↓s_brk', ↓s_cont', ↓s_raise', ↓ss_nil', ↓ss_cons', ↓i_valE, ↓i_rng1E, ↓i_rng2E, ↓i_zipE, ↓i_enuE, ↓getK_s, ↓truK_t, ↓truK_f, ↓bK_s, ↓asgK_s, ↓atK_s, ↓seqK_s, ↓intsK_s, ↓blsK_s, ↓iteK_t, ↓iteK_f, ↓binD, ↓augD, ↓cmp_eq, ↓cmp_ne, ↓cmp_lt, ↓cmp_le, ↓cmp_gt, ↓cmp_ge, ↓cmp_is, ↓cmp_isn, ↓cmp_isN, ↓cmp_isnN, isNon, ↓ixD_int, ↓ixD_rod, atI0, atI1, atI2, atI3, ↓sl_tup, ↓sl_rol, ↓bi_len_tup, ↓bi_len_rol, ↓bi_len_ref, ↓bi_abs, ↓bi_int, ↓bi_intb, ↓bi_gcd, ↓bi_tup_tup, ↓bi_tup_rol, ↓bi_tup_ref, ↓bi_lst_tup, ↓bi_lst_rol, ↓bi_lst_ref, ↓bi_sum, ↓bi_sum_tup, ↓bi_sum_rol, ↓bi_all, ↓bi_any, ↓bi_max2, ↓bi_min2, tg_nm, tg_tp, tgsD, seqOf_tup, seqOf_rol, seqOf_up, seqL_rol, seqL_up', tru_non, tru_bl, tru_int, tru_tup, tru_rol, tru_up, ↓eq_int, isi_c, isi_int, isi_bl, isi_tup, isi_non, isi_str, isi_rol, tyN_up, tyN, List.getElem?_cons_zero, List.getElem?_cons_succ, List.set_cons_zero, List.set_cons_succ, permA, List.map_cons, List.map_nil, List.getD_cons_zero, List.getD_cons_succ, List.cons_append, List.nil_append, List.append_nil, List.replicate_succ, List.replicate_zero, RtP, ite_true, ite_false, if_true, if_false, Bool.false_eq_true, decide_true, decide_false, Bool.not_true, Bool.not_false, List.length_cons, List.length_nil]
  rw [cutD_hi, map_take_int]
  obtain ⟨W, eW⟩ : ∃ W, W = (rep (M / 400 + 1) w).take M := ⟨_, rfl⟩
  have hW1 : W.length = M := by
    have h2 : M ≤ (M / 400 + 1) * min 400 M := by
      rcases Nat.le_total 400 M with c | c
      · rw [Nat.min_eq_left c]
        have := Nat.div_add_mod M 400
        have := Nat.mod_lt M (show 0 < 400 by decide)
        rw [Nat.succ_mul]
        omega
      · rw [Nat.min_eq_right c]
        exact Nat.le_mul_of_pos_left _ (by omega)
    rw [eW, List.length_take, rep_len, hw1]
    exact Nat.min_eq_left h2
  have hW2 : Lt3 W := fun y hy => hw2 y (rep_mem (List.mem_of_mem_take (eW ▸ hy)))
  rw [← eW]
  have hlS := short_len hW2
  have hS2 := short_lt hW2
  have hSa := short_alt hW2
  have hSw := wordB_of hS2 hSa
  simp only [↓e_v, ↓e_c, ↓e_bin, ↓e_neg, ↓e_cmp, ↓e_chn, ↓e_and, ↓e_or, ↓e_not, ↓e_ite, ↓e_tup, ↓e_lst, ↓e_ix, ↓e_sl, ↓e_rev, ↓e_call, ↓e_bi, ↓e_isi, ↓e_app, ↓e_ext, ↓e_pop, ↓e_comp, ↓es_nil, ↓es_cons, ↓if_nil, ↓if_cons, ↓o_no, ↓o_so, ↓s_ex', ↓s_ret', ↓s_retN', ↓s_asg', ↓s_sub', ↓s_aug', ↓s_iff', ↓s_whl', ↓s_for', ↓s_pass', ↓s_brk', ↓s_cont', ↓s_raise', ↓ss_nil', ↓ss_cons', ↓i_valE, ↓i_rng1E, ↓i_rng2E, ↓i_zipE, ↓i_enuE, ↓getK_s, ↓truK_t, ↓truK_f, ↓bK_s, ↓asgK_s, ↓atK_s, ↓seqK_s, ↓intsK_s, ↓blsK_s, ↓iteK_t, ↓iteK_f, ↓binD, ↓augD, ↓cmp_eq, ↓cmp_ne, ↓cmp_lt, ↓cmp_le, ↓cmp_gt, ↓cmp_ge, ↓cmp_is, ↓cmp_isn, ↓cmp_isN, ↓cmp_isnN, isNon, ↓ixD_int, ↓ixD_rod, atI0, atI1, atI2, atI3, ↓sl_tup, ↓sl_rol, ↓bi_len_tup, ↓bi_len_rol, ↓bi_len_ref, ↓bi_abs, ↓bi_int, ↓bi_intb, ↓bi_gcd, ↓bi_tup_tup, ↓bi_tup_rol, ↓bi_tup_ref, ↓bi_lst_tup, ↓bi_lst_rol, ↓bi_lst_ref, ↓bi_sum, ↓bi_sum_tup, ↓bi_sum_rol, ↓bi_all, ↓bi_any, ↓bi_max2, ↓bi_min2, tg_nm, tg_tp, tgsD, seqOf_tup, seqOf_rol, seqOf_up, seqL_rol, seqL_up', tru_non, tru_bl, tru_int, tru_tup, tru_rol, tru_up, ↓eq_int, isi_c, isi_int, isi_bl, isi_tup, isi_non, isi_str, isi_rol, tyN_up, tyN, List.getElem?_cons_zero, List.getElem?_cons_succ, List.set_cons_zero, List.set_cons_succ, permA, List.map_cons, List.map_nil, List.getD_cons_zero, List.getD_cons_succ, List.cons_append, List.nil_append, List.append_nil, List.replicate_succ, List.replicate_zero, RtP, ite_true, ite_false, if_true, if_false, Bool.false_eq_true, decide_true, decide_false, Bool.not_true, Bool.not_false, List.length_cons, List.length_nil, h.lshort, run_shortest, h.shortened, run_shortened, rowB_lt hW2]
  refine ⟨by omega, ⟨by omega, trivial⟩, eq_tints ?_⟩
  simp only [↓e_v, ↓e_c, ↓e_bin, ↓e_neg, ↓e_cmp, ↓e_chn, ↓e_and, ↓e_or, ↓e_not, ↓e_ite, ↓e_tup, ↓e_lst, ↓e_ix, ↓e_sl, ↓e_rev, ↓e_call, ↓e_bi, ↓e_isi, ↓e_app, ↓e_ext, ↓e_pop, ↓e_comp, ↓es_nil, ↓es_cons, ↓if_nil, ↓if_cons, ↓o_no, ↓o_so, ↓s_ex', ↓s_ret', ↓s_retN', ↓s_asg', ↓s_sub', ↓s_aug', ↓s_iff', ↓s_whl', ↓s_for', ↓s_pass', ↓s_brk', ↓s_cont', ↓s_raise', ↓ss_nil', ↓ss_cons', ↓i_valE, ↓i_rng1E, ↓i_rng2E, ↓i_zipE, ↓i_enuE, ↓getK_s, ↓truK_t, ↓truK_f, ↓bK_s, ↓asgK_s, ↓atK_s, ↓seqK_s, ↓intsK_s, ↓blsK_s, ↓iteK_t, ↓iteK_f, ↓binD, ↓augD, ↓cmp_eq, ↓cmp_ne, ↓cmp_lt, ↓cmp_le, ↓cmp_gt, ↓cmp_ge, ↓cmp_is, ↓cmp_isn, ↓cmp_isN, ↓cmp_isnN, isNon, ↓ixD_int, ↓ixD_rod, atI0, atI1, atI2, atI3, ↓sl_tup, ↓sl_rol, ↓bi_len_tup, ↓bi_len_rol, ↓bi_len_ref, ↓bi_abs, ↓bi_int, ↓bi_intb, ↓bi_gcd, ↓bi_tup_tup, ↓bi_tup_rol, ↓bi_tup_ref, ↓bi_lst_tup, ↓bi_lst_rol, ↓bi_lst_ref, ↓bi_sum, ↓bi_sum_tup, ↓bi_sum_rol, ↓bi_all, ↓bi_any, ↓bi_max2, ↓bi_min2, tg_nm, tg_tp, tgsD, seqOf_tup, seqOf_rol, seqOf_up, seqL_rol, seqL_up', tru_non, tru_bl, tru_int, tru_tup, tru_rol, tru_up, ↓eq_int, isi_c, isi_int, isi_bl, isi_tup, isi_non, isi_str, isi_rol, tyN_up, tyN, List.getElem?_cons_zero, List.getElem?_cons_succ, List.set_cons_zero, List.set_cons_succ, permA, List.map_cons, List.map_nil, List.getD_cons_zero, List.getD_cons_succ, List.cons_append, List.nil_append, List.append_nil, List.replicate_succ, List.replicate_zero, RtP, ite_true, ite_false, if_true, if_false, Bool.false_eq_true, decide_true, decide_false, Bool.not_true, Bool.not_false, List.length_cons, List.length_nil, h.isword, run_row, hSw]
  refine ⟨by omega, by omega, eq_tints ?_⟩
  refine eq_bl.mpr ?_
  have eb : decide (wordB W = decide (W = short W)) = true := by
    apply decide_eq_true
    unfold wordB
    rw [rowB_lt hW2, Bool.true_and]
    exact alt_iff hW2
  simp only [eb, ↓e_v, ↓e_c, ↓e_bin, ↓e_neg, ↓e_cmp, ↓e_chn, ↓e_and, ↓e_or, ↓e_not, ↓e_ite, ↓e_tup, ↓e_lst, ↓e_ix, ↓e_sl, ↓e_rev, ↓e_call, ↓e_bi, ↓e_isi, ↓e_app, ↓e_ext, ↓e_pop, ↓e_comp, ↓es_nil, ↓es_cons, ↓if_nil, ↓if_cons, ↓o_no, ↓o_so, ↓s_ex', ↓s_ret', ↓s_retN', ↓s_asg', ↓s_sub', ↓s_aug', ↓s_iff', ↓s_whl', ↓s_for', ↓s_pass', ↓s_brk', ↓s_cont', ↓s_raise', ↓ss_nil', ↓ss_cons', ↓i_valE, ↓i_rng1E, ↓i_rng2E, ↓i_zipE, ↓i_enuE, ↓getK_s, ↓truK_t, ↓truK_f, ↓bK_s, ↓asgK_s, ↓atK_s, ↓seqK_s, ↓intsK_s, ↓blsK_s, ↓iteK_t, ↓iteK_f, ↓binD, ↓augD, ↓cmp_eq, ↓cmp_ne, ↓cmp_lt, ↓cmp_le, ↓cmp_gt, ↓cmp_ge, ↓cmp_is, ↓cmp_isn, ↓cmp_isN, ↓cmp_isnN, isNon, ↓ixD_int, ↓ixD_rod, atI0, atI1, atI2, atI3, ↓sl_tup, ↓sl_rol, ↓bi_len_tup, ↓bi_len_rol, ↓bi_len_ref, ↓bi_abs, ↓bi_int, ↓bi_intb, ↓bi_gcd, ↓bi_tup_tup, ↓bi_tup_rol, ↓bi_tup_ref, ↓bi_lst_tup, ↓bi_lst_rol, ↓bi_lst_ref, ↓bi_sum, ↓bi_sum_tup, ↓bi_sum_rol, ↓bi_all, ↓bi_any, ↓bi_max2, ↓bi_min2, tg_nm, tg_tp, tgsD, seqOf_tup, seqOf_rol, seqOf_up, seqL_rol, seqL_up', tru_non, tru_bl, tru_int, tru_tup, tru_rol, tru_up, ↓eq_int, isi_c, isi_int, isi_bl, isi_tup, isi_non, isi_str, isi_rol, tyN_up, tyN, List.getElem?_cons_zero, List.getElem?_cons_succ, List.set_cons_zero, List.set_cons_succ, permA, List.map_cons, List.map_nil, List.getD_cons_zero, List.getD_cons_succ, List.cons_append, List.nil_append, List.append_nil, List.replicate_succ, List.replicate_zero, RtP, ite_true, ite_false, if_true, if_false, Bool.false_eq_true, decide_true, decide_false, Bool.not_true, Bool.not_false, List.length_cons, List.length_nil, ↓rev_tup]
  generalize hS : short W = S at *
  refine compL_map (f := toBk) trivial _ (by rw [List.length_reverse]; exact len_ok (by omega)) (fun x hm R r => ⟨_, rfl, ?_⟩) ?_
  · obtain ⟨x, _, rfl⟩ := List.mem_map.mp (List.mem_reverse.mp hm)
    exact bk_wp rfl r
  rw [map_toBk]
  intro p4 hp4
  have s4 := sub_up (o := .lst ((S.reverse.map bk).map D.int)) s3 hp4
  have htp4 : t ≠ p4 := by
    obtain ⟨o, e⟩ := ht3.at
    exact ne_none e hp4
  have ht4 := ht3.other (o := .lst ((S.reverse.map bk).map D.int)) htp4
  have hp4' : up μ3 p4 (.lst ((S.reverse.map bk).map D.int)) p4 = some (.lst ((S.reverse.map bk).map D.int)) := up_same
  generalize up μ3 p4 (.lst ((S.reverse.map bk).map D.int)) = μ4 at *
  have hBl : (S.reverse.map bk).length = S.length := by rw [List.length_map, List.length_reverse]
  have hB2 : Lt3 (S.reverse.map bk) := lt3_bk (lt3_rev hS2)
  have hBa : alt (S.reverse.map bk) = true := by rw [alt_map_bk _ (lt3_rev hS2), alt_rev]; exact hSa
  have hBw := wordB_of hB2 hBa
  have hBS : short (S ++ S.reverse.map bk) = [] := short_back hS2 hSa
  simp only [↓e_v, ↓e_c, ↓e_bin, ↓e_neg, ↓e_cmp, ↓e_chn, ↓e_and, ↓e_or, ↓e_not, ↓e_ite, ↓e_tup, ↓e_lst, ↓e_ix, ↓e_sl, ↓e_rev, ↓e_call, ↓e_bi, ↓e_isi, ↓e_app, ↓e_ext, ↓e_pop, ↓e_comp, ↓es_nil, ↓es_cons, ↓if_nil, ↓if_cons, ↓o_no, ↓o_so, ↓s_ex', ↓s_ret', ↓s_retN', ↓s_asg', ↓s_sub', ↓s_aug', ↓s_iff', ↓s_whl', ↓s_for', ↓s_pass', ↓s_brk', ↓s_cont', ↓s_raise', ↓ss_nil', ↓ss_cons', ↓i_valE, ↓i_rng1E, ↓i_rng2E, ↓i_zipE, ↓i_enuE, ↓getK_s, ↓truK_t, ↓truK_f, ↓bK_s, ↓asgK_s, ↓atK_s, ↓seqK_s, ↓intsK_s, ↓blsK_s, ↓iteK_t, ↓iteK_f, ↓binD, ↓augD, ↓cmp_eq, ↓cmp_ne, ↓cmp_lt, ↓cmp_le, ↓cmp_gt, ↓cmp_ge, ↓cmp_is, ↓cmp_isn, ↓cmp_isN, ↓cmp_isnN, isNon, ↓ixD_int, ↓ixD_rod, atI0, atI1, atI2, atI3, ↓sl_tup, ↓sl_rol, ↓bi_len_tup, ↓bi_len_rol, ↓bi_len_ref, ↓bi_abs, ↓bi_int, ↓bi_intb, ↓bi_gcd, ↓bi_tup_tup, ↓bi_tup_rol, ↓bi_tup_ref, ↓bi_lst_tup, ↓bi_lst_rol, ↓bi_lst_ref, ↓bi_sum, ↓bi_sum_tup, ↓bi_sum_rol, ↓bi_all, ↓bi_any, ↓bi_max2, ↓bi_min2, tg_nm, tg_tp, tgsD, seqOf_tup, seqOf_rol, seqOf_up, seqL_rol, seqL_up', tru_non, tru_bl, tru_int, tru_tup, tru_rol, tru_up, ↓eq_int, isi_c, isi_int, isi_bl, isi_tup, isi_non, isi_str, isi_rol, tyN_up, tyN, List.getElem?_cons_zero, List.getElem?_cons_succ, List.set_cons_zero, List.set_cons_succ, permA, List.map_cons, List.map_nil, List.getD_cons_zero, List.getD_cons_succ, List.cons_append, List.nil_append, List.append_nil, List.replicate_succ, List.replicate_zero, RtP, ite_true, ite_false, if_true, if_false, Bool.false_eq_true, decide_true, decide_false, Bool.not_true, Bool.not_false, List.length_cons, List.length_nil, seqOf_ref hp4', h.wback, run_word_back, hSw]
  refine ⟨⟨by omega, trivial⟩, eq_tints ?_⟩
  simp only [↓e_v, ↓e_c, ↓e_bin, ↓e_neg, ↓e_cmp, ↓e_chn, ↓e_and, ↓e_or, ↓e_not, ↓e_ite, ↓e_tup, ↓e_lst, ↓e_ix, ↓e_sl, ↓e_rev, ↓e_call, ↓e_bi, ↓e_isi, ↓e_app, ↓e_ext, ↓e_pop, ↓e_comp, ↓es_nil, ↓es_cons, ↓if_nil, ↓if_cons, ↓o_no, ↓o_so, ↓s_ex', ↓s_ret', ↓s_retN', ↓s_asg', ↓s_sub', ↓s_aug', ↓s_iff', ↓s_whl', ↓s_for', ↓s_pass', ↓s_brk', ↓s_cont', ↓s_raise', ↓ss_nil', ↓ss_cons', ↓i_valE, ↓i_rng1E, ↓i_rng2E, ↓i_zipE, ↓i_enuE, ↓getK_s, ↓truK_t, ↓truK_f, ↓bK_s, ↓asgK_s, ↓atK_s, ↓seqK_s, ↓intsK_s, ↓blsK_s, ↓iteK_t, ↓iteK_f, ↓binD, ↓augD, ↓cmp_eq, ↓cmp_ne, ↓cmp_lt, ↓cmp_le, ↓cmp_gt, ↓cmp_ge, ↓cmp_is, ↓cmp_isn, ↓cmp_isN, ↓cmp_isnN, isNon, ↓ixD_int, ↓ixD_rod, atI0, atI1, atI2, atI3, ↓sl_tup, ↓sl_rol, ↓bi_len_tup, ↓bi_len_rol, ↓bi_len_ref, ↓bi_abs, ↓bi_int, ↓bi_intb, ↓bi_gcd, ↓bi_tup_tup, ↓bi_tup_rol, ↓bi_tup_ref, ↓bi_lst_tup, ↓bi_lst_rol, ↓bi_lst_ref, ↓bi_sum, ↓bi_sum_tup, ↓bi_sum_rol, ↓bi_all, ↓bi_any, ↓bi_max2, ↓bi_min2, tg_nm, tg_tp, tgsD, seqOf_tup, seqOf_rol, seqOf_up, seqL_rol, seqL_up', tru_non, tru_bl, tru_int, tru_tup, tru_rol, tru_up, ↓eq_int, isi_c, isi_int, isi_bl, isi_tup, isi_non, isi_str, isi_rol, tyN_up, tyN, List.getElem?_cons_zero, List.getElem?_cons_succ, List.set_cons_zero, List.set_cons_succ, permA, List.map_cons, List.map_nil, List.getD_cons_zero, List.getD_cons_succ, List.cons_append, List.nil_append, List.append_nil, List.replicate_succ, List.replicate_zero, RtP, ite_true, ite_false, if_true, if_false, Bool.false_eq_true, decide_true, decide_false, Bool.not_true, Bool.not_false, List.length_cons, List.length_nil, h.wbehind, run_behind, hSw, hBw, hBS]
  refine ⟨⟨⟨by omega, trivial⟩, by omega, trivial⟩, by decide, eq_tints (xs := []) (ys := []) ?_⟩
  simp only [↓e_v, ↓e_c, ↓e_bin, ↓e_neg, ↓e_cmp, ↓e_chn, ↓e_and, ↓e_or, ↓e_not, ↓e_ite, ↓e_tup, ↓e_lst, ↓e_ix, ↓e_sl, ↓e_rev, ↓e_call, ↓e_bi, ↓e_isi, ↓e_app, ↓e_ext, ↓e_pop, ↓e_comp, ↓es_nil, ↓es_cons, ↓if_nil, ↓if_cons, ↓o_no, ↓o_so, ↓s_ex', ↓s_ret', ↓s_retN', ↓s_asg', ↓s_sub', ↓s_aug', ↓s_iff', ↓s_whl', ↓s_for', ↓s_pass', ↓s_brk', ↓s_cont', ↓s_raise', ↓ss_nil', ↓ss_cons', ↓i_valE, ↓i_rng1E, ↓i_rng2E, ↓i_zipE, ↓i_enuE, ↓getK_s, ↓truK_t, ↓truK_f, ↓bK_s, ↓asgK_s, ↓atK_s, ↓seqK_s, ↓intsK_s, ↓blsK_s, ↓iteK_t, ↓iteK_f, ↓binD, ↓augD, ↓cmp_eq, ↓cmp_ne, ↓cmp_lt, ↓cmp_le, ↓cmp_gt, ↓cmp_ge, ↓cmp_is, ↓cmp_isn, ↓cmp_isN, ↓cmp_isnN, isNon, ↓ixD_int, ↓ixD_rod, atI0, atI1, atI2, atI3, ↓sl_tup, ↓sl_rol, ↓bi_len_tup, ↓bi_len_rol, ↓bi_len_ref, ↓bi_abs, ↓bi_int, ↓bi_intb, ↓bi_gcd, ↓bi_tup_tup, ↓bi_tup_rol, ↓bi_tup_ref, ↓bi_lst_tup, ↓bi_lst_rol, ↓bi_lst_ref, ↓bi_sum, ↓bi_sum_tup, ↓bi_sum_rol, ↓bi_all, ↓bi_any, ↓bi_max2, ↓bi_min2, tg_nm, tg_tp, tgsD, seqOf_tup, seqOf_rol, seqOf_up, seqL_rol, seqL_up', tru_non, tru_bl, tru_int, tru_tup, tru_rol, tru_up, ↓eq_int, isi_c, isi_int, isi_bl, isi_tup, isi_non, isi_str, isi_rol, tyN_up, tyN, List.getElem?_cons_zero, List.getElem?_cons_succ, List.set_cons_zero, List.set_cons_succ, permA, List.map_cons, List.map_nil, List.getD_cons_zero, List.getD_cons_succ, List.cons_append, List.nil_append, List.append_nil, List.replicate_succ, List.replicate_zero, RtP, ite_true, ite_false, if_true, if_false, Bool.false_eq_true, decide_true, decide_false, Bool.not_true, Bool.not_false, List.length_cons, List.length_nil, h.take, List.length_map]
  refine take_run ht4 (by omega) (by omega) (by omega) fun r o5 hr0 hr1 ht5 => ?_
  have s5 := sub_tin (o := o5) s4 tp
  generalize up μ4 t o5 = μ5 at *
  obtain ⟨cn, rfl⟩ : ∃ cn : Nat, r = (cn : Int) := ⟨r.toNat, by omega⟩
  have hc : cn ≤ S.length := by omega
  have hT2 : Lt3 (S.take cn) := lt3_sub hS2 fun x hx => List.mem_of_mem_take hx
  have hD2 : Lt3 (S.drop cn) := lt3_sub hS2 fun x hx => List.mem_of_mem_drop hx
  have hTa : alt (S.take cn) = true := alt_append_left _ (S.drop cn) (by rw [List.take_append_drop]; exact hSa)
  have hDa : alt (S.drop cn) = true := alt_append_right (S.take cn) _ (by rw [List.take_append_drop]; exact hSa)
  have hTl : (S.take cn).length ≤ 29000 := by rw [List.length_take]; omega
  have hDl : (S.drop cn).length ≤ 29000 := by rw [List.length_drop]; omega
  have hcat : short (S.take cn ++ S.drop cn) = S := by rw [List.take_append_drop]; exact short_word hSa
  have hmv : sgn4 (mul4 (mvs (S.take cn)) (mvs (S.drop cn))) = mvs W := by
    rw [← mvs_append, List.take_append_drop, ← hS]
    exact short_mvs hW2
  simp only [↓e_v, ↓e_c, ↓e_bin, ↓e_neg, ↓e_cmp, ↓e_chn, ↓e_and, ↓e_or, ↓e_not, ↓e_ite, ↓e_tup, ↓e_lst, ↓e_ix, ↓e_sl, ↓e_rev, ↓e_call, ↓e_bi, ↓e_isi, ↓e_app, ↓e_ext, ↓e_pop, ↓e_comp, ↓es_nil, ↓es_cons, ↓if_nil, ↓if_cons, ↓o_no, ↓o_so, ↓s_ex', ↓s_ret', ↓s_retN', ↓s_asg', ↓s_sub', ↓s_aug', ↓s_iff', ↓s_whl', ↓s_for', ↓s_pass', ↓s_brk', ↓s_cont', ↓s_raise', ↓ss_nil', ↓ss_cons', ↓i_valE, ↓i_rng1E, ↓i_rng2E, ↓i_zipE, ↓i_enuE, ↓getK_s, ↓truK_t, ↓truK_f, ↓bK_s, ↓asgK_s, ↓atK_s, ↓seqK_s, ↓intsK_s, ↓blsK_s, ↓iteK_t, ↓iteK_f, ↓binD, ↓augD, ↓cmp_eq, ↓cmp_ne, ↓cmp_lt, ↓cmp_le, ↓cmp_gt, ↓cmp_ge, ↓cmp_is, ↓cmp_isn, ↓cmp_isN, ↓cmp_isnN, isNon, ↓ixD_int, ↓ixD_rod, atI0, atI1, atI2, atI3, ↓sl_tup, ↓sl_rol, ↓bi_len_tup, ↓bi_len_rol, ↓bi_len_ref, ↓bi_abs, ↓bi_int, ↓bi_intb, ↓bi_gcd, ↓bi_tup_tup, ↓bi_tup_rol, ↓bi_tup_ref, ↓bi_lst_tup, ↓bi_lst_rol, ↓bi_lst_ref, ↓bi_sum, ↓bi_sum_tup, ↓bi_sum_rol, ↓bi_all, ↓bi_any, ↓bi_max2, ↓bi_min2, tg_nm, tg_tp, tgsD, seqOf_tup, seqOf_rol, seqOf_up, seqL_rol, seqL_up', tru_non, tru_bl, tru_int, tru_tup, tru_rol, tru_up, ↓eq_int, isi_c, isi_int, isi_bl, isi_tup, isi_non, isi_str, isi_rol, tyN_up, tyN, List.getElem?_cons_zero, List.getElem?_cons_succ, List.set_cons_zero, List.set_cons_succ, permA, List.map_cons, List.map_nil, List.getD_cons_zero, List.getD_cons_succ, List.cons_append, List.nil_append, List.append_nil, List.replicate_succ, List.replicate_zero, RtP, ite_true, ite_false, if_true, if_false, Bool.false_eq_true, decide_true, decide_false, Bool.not_true, Bool.not_false, List.length_cons, List.length_nil]
  rw [cutD_hi, cutD_from, map_take_int, map_drop_int]
  simp only [↓e_v, ↓e_c, ↓e_bin, ↓e_neg, ↓e_cmp, ↓e_chn, ↓e_and, ↓e_or, ↓e_not, ↓e_ite, ↓e_tup, ↓e_lst, ↓e_ix, ↓e_sl, ↓e_rev, ↓e_call, ↓e_bi, ↓e_isi, ↓e_app, ↓e_ext, ↓e_pop, ↓e_comp, ↓es_nil, ↓es_cons, ↓if_nil, ↓if_cons, ↓o_no, ↓o_so, ↓s_ex', ↓s_ret', ↓s_retN', ↓s_asg', ↓s_sub', ↓s_aug', ↓s_iff', ↓s_whl', ↓s_for', ↓s_pass', ↓s_brk', ↓s_cont', ↓s_raise', ↓ss_nil', ↓ss_cons', ↓i_valE, ↓i_rng1E, ↓i_rng2E, ↓i_zipE, ↓i_enuE, ↓getK_s, ↓truK_t, ↓truK_f, ↓bK_s, ↓asgK_s, ↓atK_s, ↓seqK_s, ↓intsK_s, ↓blsK_s, ↓iteK_t, ↓iteK_f, ↓binD, ↓augD, ↓cmp_eq, ↓cmp_ne, ↓cmp_lt, ↓cmp_le, ↓cmp_gt, ↓cmp_ge, ↓cmp_is, ↓cmp_isn, ↓cmp_isN, ↓cmp_isnN, isNon, ↓ixD_int, ↓ixD_rod, atI0, atI1, atI2, atI3, ↓sl_tup, ↓sl_rol, ↓bi_len_tup, ↓bi_len_rol, ↓bi_len_ref, ↓bi_abs, ↓bi_int, ↓bi_intb, ↓bi_gcd, ↓bi_tup_tup, ↓bi_tup_rol, ↓bi_tup_ref, ↓bi_lst_tup, ↓bi_lst_rol, ↓bi_lst_ref, ↓bi_sum, ↓bi_sum_tup, ↓bi_sum_rol, ↓bi_all, ↓bi_any, ↓bi_max2, ↓bi_min2, tg_nm, tg_tp, tgsD, seqOf_tup, seqOf_rol, seqOf_up, seqL_rol, seqL_up', tru_non, tru_bl, tru_int, tru_tup, tru_rol, tru_up, ↓eq_int, isi_c, isi_int, isi_bl, isi_tup, isi_non, isi_str, isi_rol, tyN_up, tyN, List.getElem?_cons_zero, List.getElem?_cons_succ, List.set_cons_zero, List.set_cons_succ, permA, List.map_cons, List.map_nil, List.getD_cons_zero, List.getD_cons_succ, List.cons_append, List.nil_append, List.append_nil, List.replicate_succ, List.replicate_zero, RtP, ite_true, ite_false, if_true, if_false, Bool.false_eq_true, decide_true, decide_false, Bool.not_true, Bool.not_false, List.length_cons, List.length_nil, h.wbehind, run_behind, wordB_of hT2 hTa, wordB_of hD2 hDa, hcat]
  refine ⟨⟨⟨by omega, trivial⟩, by omega, trivial⟩, eq_tints ?_⟩
  simp only [↓e_v, ↓e_c, ↓e_bin, ↓e_neg, ↓e_cmp, ↓e_chn, ↓e_and, ↓e_or, ↓e_not, ↓e_ite, ↓e_tup, ↓e_lst, ↓e_ix, ↓e_sl, ↓e_rev, ↓e_call, ↓e_bi, ↓e_isi, ↓e_app, ↓e_ext, ↓e_pop, ↓e_comp, ↓es_nil, ↓es_cons, ↓if_nil, ↓if_cons, ↓o_no, ↓o_so, ↓s_ex', ↓s_ret', ↓s_retN', ↓s_asg', ↓s_sub', ↓s_aug', ↓s_iff', ↓s_whl', ↓s_for', ↓s_pass', ↓s_brk', ↓s_cont', ↓s_raise', ↓ss_nil', ↓ss_cons', ↓i_valE, ↓i_rng1E, ↓i_rng2E, ↓i_zipE, ↓i_enuE, ↓getK_s, ↓truK_t, ↓truK_f, ↓bK_s, ↓asgK_s, ↓atK_s, ↓seqK_s, ↓intsK_s, ↓blsK_s, ↓iteK_t, ↓iteK_f, ↓binD, ↓augD, ↓cmp_eq, ↓cmp_ne, ↓cmp_lt, ↓cmp_le, ↓cmp_gt, ↓cmp_ge, ↓cmp_is, ↓cmp_isn, ↓cmp_isN, ↓cmp_isnN, isNon, ↓ixD_int, ↓ixD_rod, atI0, atI1, atI2, atI3, ↓sl_tup, ↓sl_rol, ↓bi_len_tup, ↓bi_len_rol, ↓bi_len_ref, ↓bi_abs, ↓bi_int, ↓bi_intb, ↓bi_gcd, ↓bi_tup_tup, ↓bi_tup_rol, ↓bi_tup_ref, ↓bi_lst_tup, ↓bi_lst_rol, ↓bi_lst_ref, ↓bi_sum, ↓bi_sum_tup, ↓bi_sum_rol, ↓bi_all, ↓bi_any, ↓bi_max2, ↓bi_min2, tg_nm, tg_tp, tgsD, seqOf_tup, seqOf_rol, seqOf_up, seqL_rol, seqL_up', tru_non, tru_bl, tru_int, tru_tup, tru_rol, tru_up, ↓eq_int, isi_c, isi_int, isi_bl, isi_tup, isi_non, isi_str, isi_rol, tyN_up, tyN, List.getElem?_cons_zero, List.getElem?_cons_succ, List.set_cons_zero, List.set_cons_succ, permA, List.map_cons, List.map_nil, List.getD_cons_zero, List.getD_cons_succ, List.cons_append, List.nil_append, List.append_nil, List.replicate_succ, List.replicate_zero, RtP, ite_true, ite_false, if_true, if_false, Bool.false_eq_true, decide_true, decide_false, Bool.not_true, Bool.not_false, List.length_cons, List.length_nil]
  rw [cutD_hi, map_take_int]
  simp only [↓e_v, ↓e_c, ↓e_bin, ↓e_neg, ↓e_cmp, ↓e_chn, ↓e_and, ↓e_or, ↓e_not, ↓e_ite, ↓e_tup, ↓e_lst, ↓e_ix, ↓e_sl, ↓e_rev, ↓e_call, ↓e_bi, ↓e_isi, ↓e_app, ↓e_ext, ↓e_pop, ↓e_comp, ↓es_nil, ↓es_cons, ↓if_nil, ↓if_cons, ↓o_no, ↓o_so, ↓s_ex', ↓s_ret', ↓s_retN', ↓s_asg', ↓s_sub', ↓s_aug', ↓s_iff', ↓s_whl', ↓s_for', ↓s_pass', ↓s_brk', ↓s_cont', ↓s_raise', ↓ss_nil', ↓ss_cons', ↓i_valE, ↓i_rng1E, ↓i_rng2E, ↓i_zipE, ↓i_enuE, ↓getK_s, ↓truK_t, ↓truK_f, ↓bK_s, ↓asgK_s, ↓atK_s, ↓seqK_s, ↓intsK_s, ↓blsK_s, ↓iteK_t, ↓iteK_f, ↓binD, ↓augD, ↓cmp_eq, ↓cmp_ne, ↓cmp_lt, ↓cmp_le, ↓cmp_gt, ↓cmp_ge, ↓cmp_is, ↓cmp_isn, ↓cmp_isN, ↓cmp_isnN, isNon, ↓ixD_int, ↓ixD_rod, atI0, atI1, atI2, atI3, ↓sl_tup, ↓sl_rol, ↓bi_len_tup, ↓bi_len_rol, ↓bi_len_ref, ↓bi_abs, ↓bi_int, ↓bi_intb, ↓bi_gcd, ↓bi_tup_tup, ↓bi_tup_rol, ↓bi_tup_ref, ↓bi_lst_tup, ↓bi_lst_rol, ↓bi_lst_ref, ↓bi_sum, ↓bi_sum_tup, ↓bi_sum_rol, ↓bi_all, ↓bi_any, ↓bi_max2, ↓bi_min2, tg_nm, tg_tp, tgsD, seqOf_tup, seqOf_rol, seqOf_up, seqL_rol, seqL_up', tru_non, tru_bl, tru_int, tru_tup, tru_rol, tru_up, ↓eq_int, isi_c, isi_int, isi_bl, isi_tup, isi_non, isi_str, isi_rol, tyN_up, tyN, List.getElem?_cons_zero, List.getElem?_cons_succ, List.set_cons_zero, List.set_cons_succ, permA, List.map_cons, List.map_nil, List.getD_cons_zero, List.getD_cons_succ, List.cons_append, List.nil_append, List.append_nil, List.replicate_succ, List.replicate_zero, RtP, ite_true, ite_false, if_true, if_false, Bool.false_eq_true, decide_true, decide_false, Bool.not_true, Bool.not_false, List.length_cons, List.length_nil, h.mby, run_move_in]
  rw [cutD_from, map_drop_int]
  simp only [↓e_v, ↓e_c, ↓e_bin, ↓e_neg, ↓e_cmp, ↓e_chn, ↓e_and, ↓e_or, ↓e_not, ↓e_ite, ↓e_tup, ↓e_lst, ↓e_ix, ↓e_sl, ↓e_rev, ↓e_call, ↓e_bi, ↓e_isi, ↓e_app, ↓e_ext, ↓e_pop, ↓e_comp, ↓es_nil, ↓es_cons, ↓if_nil, ↓if_cons, ↓o_no, ↓o_so, ↓s_ex', ↓s_ret', ↓s_retN', ↓s_asg', ↓s_sub', ↓s_aug', ↓s_iff', ↓s_whl', ↓s_for', ↓s_pass', ↓s_brk', ↓s_cont', ↓s_raise', ↓ss_nil', ↓ss_cons', ↓i_valE, ↓i_rng1E, ↓i_rng2E, ↓i_zipE, ↓i_enuE, ↓getK_s, ↓truK_t, ↓truK_f, ↓bK_s, ↓asgK_s, ↓atK_s, ↓seqK_s, ↓intsK_s, ↓blsK_s, ↓iteK_t, ↓iteK_f, ↓binD, ↓augD, ↓cmp_eq, ↓cmp_ne, ↓cmp_lt, ↓cmp_le, ↓cmp_gt, ↓cmp_ge, ↓cmp_is, ↓cmp_isn, ↓cmp_isN, ↓cmp_isnN, isNon, ↓ixD_int, ↓ixD_rod, atI0, atI1, atI2, atI3, ↓sl_tup, ↓sl_rol, ↓bi_len_tup, ↓bi_len_rol, ↓bi_len_ref, ↓bi_abs, ↓bi_int, ↓bi_intb, ↓bi_gcd, ↓bi_tup_tup, ↓bi_tup_rol, ↓bi_tup_ref, ↓bi_lst_tup, ↓bi_lst_rol, ↓bi_lst_ref, ↓bi_sum, ↓bi_sum_tup, ↓bi_sum_rol, ↓bi_all, ↓bi_any, ↓bi_max2, ↓bi_min2, tg_nm, tg_tp, tgsD, seqOf_tup, seqOf_rol, seqOf_up, seqL_rol, seqL_up', tru_non, tru_bl, tru_int, tru_tup, tru_rol, tru_up, ↓eq_int, isi_c, isi_int, isi_bl, isi_tup, isi_non, isi_str, isi_rol, tyN_up, tyN, List.getElem?_cons_zero, List.getElem?_cons_succ, List.set_cons_zero, List.set_cons_succ, permA, List.map_cons, List.map_nil, List.getD_cons_zero, List.getD_cons_succ, List.cons_append, List.nil_append, List.append_nil, List.replicate_succ, List.replicate_zero, RtP, ite_true, ite_false, if_true, if_false, Bool.false_eq_true, decide_true, decide_false, Bool.not_true, Bool.not_false, List.length_cons, List.length_nil, h.mby, run_move_in, h.mprod, run_mv_product, hmv]
  refine ⟨⟨hT2, hTl⟩, ⟨hD2, hDl⟩, ⟨mvN_mvs hTl, mvN_mvs hDl⟩, ⟨hW2, by omega⟩, eq_v4 ?_⟩
  simp only [↓e_v, ↓e_c, ↓e_bin, ↓e_neg, ↓e_cmp, ↓e_chn, ↓e_and, ↓e_or, ↓e_not, ↓e_ite, ↓e_tup, ↓e_lst, ↓e_ix, ↓e_sl, ↓e_rev, ↓e_call, ↓e_bi, ↓e_isi, ↓e_app, ↓e_ext, ↓e_pop, ↓e_comp, ↓es_nil, ↓es_cons, ↓if_nil, ↓if_cons, ↓o_no, ↓o_so, ↓s_ex', ↓s_ret', ↓s_retN', ↓s_asg', ↓s_sub', ↓s_aug', ↓s_iff', ↓s_whl', ↓s_for', ↓s_pass', ↓s_brk', ↓s_cont', ↓s_raise', ↓ss_nil', ↓ss_cons', ↓i_valE, ↓i_rng1E, ↓i_rng2E, ↓i_zipE, ↓i_enuE, ↓getK_s, ↓truK_t, ↓truK_f, ↓bK_s, ↓asgK_s, ↓atK_s, ↓seqK_s, ↓intsK_s, ↓blsK_s, ↓iteK_t, ↓iteK_f, ↓binD, ↓augD, ↓cmp_eq, ↓cmp_ne, ↓cmp_lt, ↓cmp_le, ↓cmp_gt, ↓cmp_ge, ↓cmp_is, ↓cmp_isn, ↓cmp_isN, ↓cmp_isnN, isNon, ↓ixD_int, ↓ixD_rod, atI0, atI1, atI2, atI3, ↓sl_tup, ↓sl_rol, ↓bi_len_tup, ↓bi_len_rol, ↓bi_len_ref, ↓bi_abs, ↓bi_int, ↓bi_intb, ↓bi_gcd, ↓bi_tup_tup, ↓bi_tup_rol, ↓bi_tup_ref, ↓bi_lst_tup, ↓bi_lst_rol, ↓bi_lst_ref, ↓bi_sum, ↓bi_sum_tup, ↓bi_sum_rol, ↓bi_all, ↓bi_any, ↓bi_max2, ↓bi_min2, tg_nm, tg_tp, tgsD, seqOf_tup, seqOf_rol, seqOf_up, seqL_rol, seqL_up', tru_non, tru_bl, tru_int, tru_tup, tru_rol, tru_up, ↓eq_int, isi_c, isi_int, isi_bl, isi_tup, isi_non, isi_str, isi_rol, tyN_up, tyN, List.getElem?_cons_zero, List.getElem?_cons_succ, List.set_cons_zero, List.set_cons_succ, permA, List.map_cons, List.map_nil, List.getD_cons_zero, List.getD_cons_succ, List.cons_append, List.nil_append, List.append_nil, List.replicate_succ, List.replicate_zero, RtP, ite_true, ite_false, if_true, if_false, Bool.false_eq_true, decide_true, decide_false, Bool.not_true, Bool.not_false, List.length_cons, List.length_nil, h.take]
  refine take_run ht5 (by omega) (by decide) (by decide) fun r o6 hr0 hr1 ht6 => ?_
  have s6 := sub_tin (o := o6) s5 tp
  generalize up μ5 t o6 = μ6 at *
  obtain ⟨mn, emn⟩ : ∃ mn : Nat, 1 + r = (mn : Int) := ⟨(1 + r).toNat, by omega⟩
  simp only [↓e_v, ↓e_c, ↓e_bin, ↓e_neg, ↓e_cmp, ↓e_chn, ↓e_and, ↓e_or, ↓e_not, ↓e_ite, ↓e_tup, ↓e_lst, ↓e_ix, ↓e_sl, ↓e_rev, ↓e_call, ↓e_bi, ↓e_isi, ↓e_app, ↓e_ext, ↓e_pop, ↓e_comp, ↓es_nil, ↓es_cons, ↓if_nil, ↓if_cons, ↓o_no, ↓o_so, ↓s_ex', ↓s_ret', ↓s_retN', ↓s_asg', ↓s_sub', ↓s_aug', ↓s_iff', ↓s_whl', ↓s_for', ↓s_pass', ↓s_brk', ↓s_cont', ↓s_raise', ↓ss_nil', ↓ss_cons', ↓i_valE, ↓i_rng1E, ↓i_rng2E, ↓i_zipE, ↓i_enuE, ↓getK_s, ↓truK_t, ↓truK_f, ↓bK_s, ↓asgK_s, ↓atK_s, ↓seqK_s, ↓intsK_s, ↓blsK_s, ↓iteK_t, ↓iteK_f, ↓binD, ↓augD, ↓cmp_eq, ↓cmp_ne, ↓cmp_lt, ↓cmp_le, ↓cmp_gt, ↓cmp_ge, ↓cmp_is, ↓cmp_isn, ↓cmp_isN, ↓cmp_isnN, isNon, ↓ixD_int, ↓ixD_rod, atI0, atI1, atI2, atI3, ↓sl_tup, ↓sl_rol, ↓bi_len_tup, ↓bi_len_rol, ↓bi_len_ref, ↓bi_abs, ↓bi_int, ↓bi_intb, ↓bi_gcd, ↓bi_tup_tup, ↓bi_tup_rol, ↓bi_tup_ref, ↓bi_lst_tup, ↓bi_lst_rol, ↓bi_lst_ref, ↓bi_sum, ↓bi_sum_tup, ↓bi_sum_rol, ↓bi_all, ↓bi_any, ↓bi_max2, ↓bi_min2, tg_nm, tg_tp, tgsD, seqOf_tup, seqOf_rol, seqOf_up, seqL_rol, seqL_up', tru_non, tru_bl, tru_int, tru_tup, tru_rol, tru_up, ↓eq_int, isi_c, isi_int, isi_bl, isi_tup, isi_non, isi_str, isi_rol, tyN_up, tyN, List.getElem?_cons_zero, List.getElem?_cons_succ, List.set_cons_zero, List.set_cons_succ, permA, List.map_cons, List.map_nil, List.getD_cons_zero, List.getD_cons_succ, List.cons_append, List.nil_append, List.append_nil, List.replicate_succ, List.replicate_zero, RtP, ite_true, ite_false, if_true, if_false, Bool.false_eq_true, decide_true, decide_false, Bool.not_true, Bool.not_false, List.length_cons, List.length_nil]
  rw [emn]
  refine ⟨⟨by omega, by omega⟩, ?_⟩
  rw [Int.toNat_natCast]
  have hlr : (rngL 0 mn).length = mn := len_rngL
  unfold compW
  refine compL_ind (fun ys acc μ' => ∃ (L : List (Addr × Int)), acc = L.map (fun p => D.ref p.1) ∧ L.length + ys.length = mn ∧ (∀ p ∈ L, p.1 ≠ t ∧ μ' p.1 = some (.lst [.int 1, .int p.2]) ∧ (p.2 = 2 ∨ p.2 = 3)) ∧ Tin μ' t (403 + L.length) ∧ Sub μ μ') ?_ ?_ (rngL 0 mn) [] μ6 ⟨[], rfl, (by rw [hlr]; simp), (fun p hp => by cases hp), ht6.mono (by simp only [List.length_nil]; omega), s6⟩
  · rintro x xs acc μ' ⟨L, rfl, hl, hp, ht', s'⟩
    rw [List.length_cons] at hl
    refine ⟨trivial, _, rfl, ?_⟩
    simp only [↓e_v, ↓e_c, ↓e_bin, ↓e_neg, ↓e_cmp, ↓e_chn, ↓e_and, ↓e_or, ↓e_not, ↓e_ite, ↓e_tup, ↓e_lst, ↓e_ix, ↓e_sl, ↓e_rev, ↓e_call, ↓e_bi, ↓e_isi, ↓e_app, ↓e_ext, ↓e_pop, ↓e_comp, ↓es_nil, ↓es_cons, ↓if_nil, ↓if_cons, ↓o_no, ↓o_so, ↓s_ex', ↓s_ret', ↓s_retN', ↓s_asg', ↓s_sub', ↓s_aug', ↓s_iff', ↓s_whl', ↓s_for', ↓s_pass', ↓s_brk', ↓s_cont', ↓s_raise', ↓ss_nil', ↓ss_cons', ↓i_valE, ↓i_rng1E, ↓i_rng2E, ↓i_zipE, ↓i_enuE, ↓getK_s, ↓truK_t, ↓truK_f, ↓bK_s, ↓asgK_s, ↓atK_s, ↓seqK_s, ↓intsK_s, ↓blsK_s, ↓iteK_t, ↓iteK_f, ↓binD, ↓augD, ↓cmp_eq, ↓cmp_ne, ↓cmp_lt, ↓cmp_le, ↓cmp_gt, ↓cmp_ge, ↓cmp_is, ↓cmp_isn, ↓cmp_isN, ↓cmp_isnN, isNon, ↓ixD_int, ↓ixD_rod, atI0, atI1, atI2, atI3, ↓sl_tup, ↓sl_rol, ↓bi_len_tup, ↓bi_len_rol, ↓bi_len_ref, ↓bi_abs, ↓bi_int, ↓bi_intb, ↓bi_gcd, ↓bi_tup_tup, ↓bi_tup_rol, ↓bi_tup_ref, ↓bi_lst_tup, ↓bi_lst_rol, ↓bi_lst_ref, ↓bi_sum, ↓bi_sum_tup, ↓bi_sum_rol, ↓bi_all, ↓bi_any, ↓bi_max2, ↓bi_min2, tg_nm, tg_tp, tgsD, seqOf_tup, seqOf_rol, seqOf_up, seqL_rol, seqL_up', tru_non, tru_bl, tru_int, tru_tup, tru_rol, tru_up, ↓eq_int, isi_c, isi_int, isi_bl, isi_tup, isi_non, isi_str, isi_rol, tyN_up, tyN, List.getElem?_cons_zero, List.getElem?_cons_succ, List.set_cons_zero, List.set_cons_succ, permA, List.map_cons, List.map_nil, List.getD_cons_zero, List.getD_cons_succ, List.cons_append, List.nil_append, List.append_nil, List.replicate_succ, List.replicate_zero, RtP, ite_true, ite_false, if_true, if_false, Bool.false_eq_true, decide_true, decide_false, Bool.not_true, Bool.not_false, List.length_cons, List.length_nil, h.take, wipeR]
    refine take_run ht' (by omega) (by decide) (by decide) fun y o h0 h1 h2 => ?_
    simp only [↓e_v, ↓e_c, ↓e_bin, ↓e_neg, ↓e_cmp, ↓e_chn, ↓e_and, ↓e_or, ↓e_not, ↓e_ite, ↓e_tup, ↓e_lst, ↓e_ix, ↓e_sl, ↓e_rev, ↓e_call, ↓e_bi, ↓e_isi, ↓e_app, ↓e_ext, ↓e_pop, ↓e_comp, ↓es_nil, ↓es_cons, ↓if_nil, ↓if_cons, ↓o_no, ↓o_so, ↓s_ex', ↓s_ret', ↓s_retN', ↓s_asg', ↓s_sub', ↓s_aug', ↓s_iff', ↓s_whl', ↓s_for', ↓s_pass', ↓s_brk', ↓s_cont', ↓s_raise', ↓ss_nil', ↓ss_cons', ↓i_valE, ↓i_rng1E, ↓i_rng2E, ↓i_zipE, ↓i_enuE, ↓getK_s, ↓truK_t, ↓truK_f, ↓bK_s, ↓asgK_s, ↓atK_s, ↓seqK_s, ↓intsK_s, ↓blsK_s, ↓iteK_t, ↓iteK_f, ↓binD, ↓augD, ↓cmp_eq, ↓cmp_ne, ↓cmp_lt, ↓cmp_le, ↓cmp_gt, ↓cmp_ge, ↓cmp_is, ↓cmp_isn, ↓cmp_isN, ↓cmp_isnN, isNon, ↓ixD_int, ↓ixD_rod, atI0, atI1, atI2, atI3, ↓sl_tup, ↓sl_rol, ↓bi_len_tup, ↓bi_len_rol, ↓bi_len_ref, ↓bi_abs, ↓bi_int, ↓bi_intb, ↓bi_gcd, ↓bi_tup_tup, ↓bi_tup_rol, ↓bi_tup_ref, ↓bi_lst_tup, ↓bi_lst_rol, ↓bi_lst_ref, ↓bi_sum, ↓bi_sum_tup, ↓bi_sum_rol, ↓bi_all, ↓bi_any, ↓bi_max2, ↓bi_min2, tg_nm, tg_tp, tgsD, seqOf_tup, seqOf_rol, seqOf_up, seqL_rol, seqL_up', tru_non, tru_bl, tru_int, tru_tup, tru_rol, tru_up, ↓eq_int, isi_c, isi_int, isi_bl, isi_tup, isi_non, isi_str, isi_rol, tyN_up, tyN, List.getElem?_cons_zero, List.getElem?_cons_succ, List.set_cons_zero, List.set_cons_succ, permA, List.map_cons, List.map_nil, List.getD_cons_zero, List.getD_cons_succ, List.cons_append, List.nil_append, List.append_nil, List.replicate_succ, List.replicate_zero, RtP, ite_true, ite_false, if_true, if_false, Bool.false_eq_true, decide_true, decide_false, Bool.not_true, Bool.not_false, List.length_cons, List.length_nil]
    refine ⟨by decide, fun g hg => ?_⟩
    have htg : t ≠ g := by
      obtain ⟨o, e⟩ := h2.at
      exact ne_none e hg
    refine ⟨by rw [List.length_map]; exact Nat.lt_of_lt_of_le (show L.length < 100 by omega) (by decide), L ++ [(g, 2 + y)], by rw [List.map_append]; rfl, by rw [List.length_append, List.length_singleton]; omega, fun q hq => ?_, by rw [List.length_append, List.length_singleton]; exact h2.other htg, sub_up (sub_tin s' tp) hg⟩
    rcases List.mem_append.mp hq with hq | hq
    · obtain ⟨q1, q2, q3⟩ := hp q hq
      have q4 : (up μ' t o) q.1 = some (.lst [.int 1, .int q.2]) := by rw [up_ne q1]; exact q2
      have q5 : q.1 ≠ g := ne_none q4 hg
      exact ⟨q1, by rw [up_ne q5]; exact q4, q3⟩
    · have := List.mem_singleton.mp hq
      subst this
      exact ⟨htg.symm, up_same, by dsimp only; omega⟩
  rintro acc μ7 ⟨L, rfl, hL, hp, ht7, s7⟩
  have hL : L.length = mn := by simpa using hL
  refine ⟨trivial, ?_⟩
  intro g hg
  have s8 := sub_up (o := .lst (L.map fun p => D.ref p.1)) s7 hg
  have htg : t ≠ g := by
    obtain ⟨o, e⟩ := ht7.at
    exact ne_none e hg
  have ht8 := ht7.other (o := .lst (L.map fun p => D.ref p.1)) htg
  have hg8 : up μ7 g (.lst (L.map fun p => D.ref p.1)) g = some (.lst (L.map fun p => D.ref p.1)) := up_same
  have hp8 : ∀ p ∈ L, up μ7 g (.lst (L.map fun p => D.ref p.1)) p.1 = some (.lst [.int 1, .int p.2]) := fun p hp' => by
    have q := (hp p hp').2.1
    rw [up_ne (ne_none q hg)]; exact q
  generalize up μ7 g (.lst (L.map fun p => D.ref p.1)) = μ8 at *
  obtain ⟨X, eX⟩ : ∃ X, X = L.map (·.2) := ⟨_, rfl⟩
  have hX1 : X.length = mn := by rw [eX, List.length_map]; exact hL
  have hX2 : ∀ x ∈ X, x = 2 ∨ x = 3 := fun x hx => by
    rw [eX] at hx
    obtain ⟨q, hq, rfl⟩ := List.mem_map.mp hx
    exact (hp q hq).2.2
  have hXne : X ≠ [] := fun e => by rw [e, List.length_nil] at hX1; omega
  have hfl := flat_pairs L hp8
  rw [← eX] at hfl
  have hP1 := prs_circ hX2 hXne
  have hP2 := prs_lt hX2
  have hP3 : (prs X).length ≤ 12 := by rw [prs_len]; omega
  have hP4 : 0 < (prs X).length := by have := hP1.1; omega
  simp only [↓e_v, ↓e_c, ↓e_bin, ↓e_neg, ↓e_cmp, ↓e_chn, ↓e_and, ↓e_or, ↓e_not, ↓e_ite, ↓e_tup, ↓e_lst, ↓e_ix, ↓e_sl, ↓e_rev, ↓e_call, ↓e_bi, ↓e_isi, ↓e_app, ↓e_ext, ↓e_pop, ↓e_comp, ↓es_nil, ↓es_cons, ↓if_nil, ↓if_cons, ↓o_no, ↓o_so, ↓s_ex', ↓s_ret', ↓s_retN', ↓s_asg', ↓s_sub', ↓s_aug', ↓s_iff', ↓s_whl', ↓s_for', ↓s_pass', ↓s_brk', ↓s_cont', ↓s_raise', ↓ss_nil', ↓ss_cons', ↓i_valE, ↓i_rng1E, ↓i_rng2E, ↓i_zipE, ↓i_enuE, ↓getK_s, ↓truK_t, ↓truK_f, ↓bK_s, ↓asgK_s, ↓atK_s, ↓seqK_s, ↓intsK_s, ↓blsK_s, ↓iteK_t, ↓iteK_f, ↓binD, ↓augD, ↓cmp_eq, ↓cmp_ne, ↓cmp_lt, ↓cmp_le, ↓cmp_gt, ↓cmp_ge, ↓cmp_is, ↓cmp_isn, ↓cmp_isN, ↓cmp_isnN, isNon, ↓ixD_int, ↓ixD_rod, atI0, atI1, atI2, atI3, ↓sl_tup, ↓sl_rol, ↓bi_len_tup, ↓bi_len_rol, ↓bi_len_ref, ↓bi_abs, ↓bi_int, ↓bi_intb, ↓bi_gcd, ↓bi_tup_tup, ↓bi_tup_rol, ↓bi_tup_ref, ↓bi_lst_tup, ↓bi_lst_rol, ↓bi_lst_ref, ↓bi_sum, ↓bi_sum_tup, ↓bi_sum_rol, ↓bi_all, ↓bi_any, ↓bi_max2, ↓bi_min2, tg_nm, tg_tp, tgsD, seqOf_tup, seqOf_rol, seqOf_up, seqL_rol, seqL_up', tru_non, tru_bl, tru_int, tru_tup, tru_rol, tru_up, ↓eq_int, isi_c, isi_int, isi_bl, isi_tup, isi_non, isi_str, isi_rol, tyN_up, tyN, List.getElem?_cons_zero, List.getElem?_cons_succ, List.set_cons_zero, List.set_cons_succ, permA, List.map_cons, List.map_nil, List.getD_cons_zero, List.getD_cons_succ, List.cons_append, List.nil_append, List.append_nil, List.replicate_succ, List.replicate_zero, RtP, ite_true, ite_false, if_true, if_false, Bool.false_eq_true, decide_true, decide_false, Bool.not_true, Bool.not_false, List.length_cons, List.length_nil, h.flat]
  refine flat_run (seqOf_ref hg8) hfl (by rw [List.length_map]; omega) fun g2 hg2 => ?_
  have s9 := sub_up (o := .lst ((prs X).map D.int)) s8 hg2
  have htg2 : t ≠ g2 := by
    obtain ⟨o, e⟩ := ht8.at
    exact ne_none e hg2
  have ht9 := ht8.other (o := .lst ((prs X).map D.int)) htg2
  have hg9 : up μ8 g2 (.lst ((prs X).map D.int)) g2 = some (.lst ((prs X).map D.int)) := up_same
  generalize up μ8 g2 (.lst ((prs X).map D.int)) = μ9 at *
  generalize prs X = V at *
  simp only [↓e_v, ↓e_c, ↓e_bin, ↓e_neg, ↓e_cmp, ↓e_chn, ↓e_and, ↓e_or, ↓e_not, ↓e_ite, ↓e_tup, ↓e_lst, ↓e_ix, ↓e_sl, ↓e_rev, ↓e_call, ↓e_bi, ↓e_isi, ↓e_app, ↓e_ext, ↓e_pop, ↓e_comp, ↓es_nil, ↓es_cons, ↓if_nil, ↓if_cons, ↓o_no, ↓o_so, ↓s_ex', ↓s_ret', ↓s_retN', ↓s_asg', ↓s_sub', ↓s_aug', ↓s_iff', ↓s_whl', ↓s_for', ↓s_pass', ↓s_brk', ↓s_cont', ↓s_raise', ↓ss_nil', ↓ss_cons', ↓i_valE, ↓i_rng1E, ↓i_rng2E, ↓i_zipE, ↓i_enuE, ↓getK_s, ↓truK_t, ↓truK_f, ↓bK_s, ↓asgK_s, ↓atK_s, ↓seqK_s, ↓intsK_s, ↓blsK_s, ↓iteK_t, ↓iteK_f, ↓binD, ↓augD, ↓cmp_eq, ↓cmp_ne, ↓cmp_lt, ↓cmp_le, ↓cmp_gt, ↓cmp_ge, ↓cmp_is, ↓cmp_isn, ↓cmp_isN, ↓cmp_isnN, isNon, ↓ixD_int, ↓ixD_rod, atI0, atI1, atI2, atI3, ↓sl_tup, ↓sl_rol, ↓bi_len_tup, ↓bi_len_rol, ↓bi_len_ref, ↓bi_abs, ↓bi_int, ↓bi_intb, ↓bi_gcd, ↓bi_tup_tup, ↓bi_tup_rol, ↓bi_tup_ref, ↓bi_lst_tup, ↓bi_lst_rol, ↓bi_lst_ref, ↓bi_sum, ↓bi_sum_tup, ↓bi_sum_rol, ↓bi_all, ↓bi_any, ↓bi_max2, ↓bi_min2, tg_nm, tg_tp, tgsD, seqOf_tup, seqOf_rol, seqOf_up, seqL_rol, seqL_up', tru_non, tru_bl, tru_int, tru_tup, tru_rol, tru_up, ↓eq_int, isi_c, isi_int, isi_bl, isi_tup, isi_non, isi_str, isi_rol, tyN_up, tyN, List.getElem?_cons_zero, List.getElem?_cons_succ, List.set_cons_zero, List.set_cons_succ, permA, List.map_cons, List.map_nil, List.getD_cons_zero, List.getD_cons_succ, List.cons_append, List.nil_append, List.append_nil, List.replicate_succ, List.replicate_zero, RtP, ite_true, ite_false, if_true, if_false, Bool.false_eq_true, decide_true, decide_false, Bool.not_true, Bool.not_false, List.length_cons, List.length_nil, seqOf_ref hg9, h.take]
  refine take_run ht9 (by omega) (by decide) (by decide) fun r o10 hr0 hr1 ht10 => ?_
  have s10 := sub_tin (o := o10) s9 tp
  generalize up μ9 t o10 = μ10 at *
  obtain ⟨k, ek⟩ : ∃ k : Nat, 1 + r = (k : Int) := ⟨(1 + r).toNat, by omega⟩
  have hk1 : 1 ≤ k := by omega
  have hk2 : k ≤ 20 := by omega
  have hVne : V ≠ [] := fun e => by rw [e, List.length_nil] at hP4; omega
  simp only [↓e_v, ↓e_c, ↓e_bin, ↓e_neg, ↓e_cmp, ↓e_chn, ↓e_and, ↓e_or, ↓e_not, ↓e_ite, ↓e_tup, ↓e_lst, ↓e_ix, ↓e_sl, ↓e_rev, ↓e_call, ↓e_bi, ↓e_isi, ↓e_app, ↓e_ext, ↓e_pop, ↓e_comp, ↓es_nil, ↓es_cons, ↓if_nil, ↓if_cons, ↓o_no, ↓o_so, ↓s_ex', ↓s_ret', ↓s_retN', ↓s_asg', ↓s_sub', ↓s_aug', ↓s_iff', ↓s_whl', ↓s_for', ↓s_pass', ↓s_brk', ↓s_cont', ↓s_raise', ↓ss_nil', ↓ss_cons', ↓i_valE, ↓i_rng1E, ↓i_rng2E, ↓i_zipE, ↓i_enuE, ↓getK_s, ↓truK_t, ↓truK_f, ↓bK_s, ↓asgK_s, ↓atK_s, ↓seqK_s, ↓intsK_s, ↓blsK_s, ↓iteK_t, ↓iteK_f, ↓binD, ↓augD, ↓cmp_eq, ↓cmp_ne, ↓cmp_lt, ↓cmp_le, ↓cmp_gt, ↓cmp_ge, ↓cmp_is, ↓cmp_isn, ↓cmp_isN, ↓cmp_isnN, isNon, ↓ixD_int, ↓ixD_rod, atI0, atI1, atI2, atI3, ↓sl_tup, ↓sl_rol, ↓bi_len_tup, ↓bi_len_rol, ↓bi_len_ref, ↓bi_abs, ↓bi_int, ↓bi_intb, ↓bi_gcd, ↓bi_tup_tup, ↓bi_tup_rol, ↓bi_tup_ref, ↓bi_lst_tup, ↓bi_lst_rol, ↓bi_lst_ref, ↓bi_sum, ↓bi_sum_tup, ↓bi_sum_rol, ↓bi_all, ↓bi_any, ↓bi_max2, ↓bi_min2, tg_nm, tg_tp, tgsD, seqOf_tup, seqOf_rol, seqOf_up, seqL_rol, seqL_up', tru_non, tru_bl, tru_int, tru_tup, tru_rol, tru_up, ↓eq_int, isi_c, isi_int, isi_bl, isi_tup, isi_non, isi_str, isi_rol, tyN_up, tyN, List.getElem?_cons_zero, List.getElem?_cons_succ, List.set_cons_zero, List.set_cons_succ, permA, List.map_cons, List.map_nil, List.getD_cons_zero, List.getD_cons_succ, List.cons_append, List.nil_append, List.append_nil, List.replicate_succ, List.replicate_zero, RtP, ite_true, ite_false, if_true, if_false, Bool.false_eq_true, decide_true, decide_false, Bool.not_true, Bool.not_false, List.length_cons, List.length_nil]
  rw [ek]
  have hR1 : Circ (rep k V) := hP1.rep hk1
  have hRl : (rep k V).length = k * V.length := rep_len ..
  have hR2 : (rep k V).length ≤ 240 := by rw [hRl]; exact Nat.mul_le_mul hk2 hP3
  have hR3 : Lt3 (rep k V) := fun x hx => hP2 x (rep_mem hx)
  have hring := ring_rep (k := k) hP4 hk1
  have hRW : RW (ring (rep k V)) := rw_ring ⟨hR1, by omega⟩ hR3
  have hRo := often_dvd (v := ring V) (k := k) (by rw [ring_len hP4]; exact hP4) hk1
  have hgl : (ring V).length = V.length := ring_len hP4
  have hgl2 : (rep k (ring V)).length = k * V.length := by rw [rep_len, hgl]
  rw [hring] at hRW
  refine mulT_rep hk1 (by omega) (by omega) hVne ?_
  simp only [↓e_v, ↓e_c, ↓e_bin, ↓e_neg, ↓e_cmp, ↓e_chn, ↓e_and, ↓e_or, ↓e_not, ↓e_ite, ↓e_tup, ↓e_lst, ↓e_ix, ↓e_sl, ↓e_rev, ↓e_call, ↓e_bi, ↓e_isi, ↓e_app, ↓e_ext, ↓e_pop, ↓e_comp, ↓es_nil, ↓es_cons, ↓if_nil, ↓if_cons, ↓o_no, ↓o_so, ↓s_ex', ↓s_ret', ↓s_retN', ↓s_asg', ↓s_sub', ↓s_aug', ↓s_iff', ↓s_whl', ↓s_for', ↓s_pass', ↓s_brk', ↓s_cont', ↓s_raise', ↓ss_nil', ↓ss_cons', ↓i_valE, ↓i_rng1E, ↓i_rng2E, ↓i_zipE, ↓i_enuE, ↓getK_s, ↓truK_t, ↓truK_f, ↓bK_s, ↓asgK_s, ↓atK_s, ↓seqK_s, ↓intsK_s, ↓blsK_s, ↓iteK_t, ↓iteK_f, ↓binD, ↓augD, ↓cmp_eq, ↓cmp_ne, ↓cmp_lt, ↓cmp_le, ↓cmp_gt, ↓cmp_ge, ↓cmp_is, ↓cmp_isn, ↓cmp_isN, ↓cmp_isnN, isNon, ↓ixD_int, ↓ixD_rod, atI0, atI1, atI2, atI3, ↓sl_tup, ↓sl_rol, ↓bi_len_tup, ↓bi_len_rol, ↓bi_len_ref, ↓bi_abs, ↓bi_int, ↓bi_intb, ↓bi_gcd, ↓bi_tup_tup, ↓bi_tup_rol, ↓bi_tup_ref, ↓bi_lst_tup, ↓bi_lst_rol, ↓bi_lst_ref, ↓bi_sum, ↓bi_sum_tup, ↓bi_sum_rol, ↓bi_all, ↓bi_any, ↓bi_max2, ↓bi_min2, tg_nm, tg_tp, tgsD, seqOf_tup, seqOf_rol, seqOf_up, seqL_rol, seqL_up', tru_non, tru_bl, tru_int, tru_tup, tru_rol, tru_up, ↓eq_int, isi_c, isi_int, isi_bl, isi_tup, isi_non, isi_str, isi_rol, tyN_up, tyN, List.getElem?_cons_zero, List.getElem?_cons_succ, List.set_cons_zero, List.set_cons_succ, permA, List.map_cons, List.map_nil, List.getD_cons_zero, List.getD_cons_succ, List.cons_append, List.nil_append, List.append_nil, List.replicate_succ, List.replicate_zero, RtP, ite_true, ite_false, if_true, if_false, Bool.false_eq_true, decide_true, decide_false, Bool.not_true, Bool.not_false, List.length_cons, List.length_nil, h.roundw, run_roundw]
  refine ⟨⟨⟨hR1, by omega⟩, hR3⟩, ?_⟩
  rw [hring, List.length_map]
  refine ⟨⟨by omega, by omega⟩, ?_⟩
  rw [Int.toNat_natCast]
  refine rots_comp (i := 7) (j := 13) (by omega) rfl (by decide) (by simp [wipeR]) ?_
  intro g11 hg11
  obtain ⟨r0, rs, er⟩ := rots_ne hP4
  have e9 : ring V = lexMin r0 rs := by unfold ring; rw [er]
  rw [er]
  have s11 := sub_up (o := .lst ((r0 :: rs).map tupI)) s10 hg11
  have htg11 : t ≠ g11 := by
    obtain ⟨o, e⟩ := ht10.at
    exact ne_none e hg11
  have ht11 := ht10.other (o := .lst ((r0 :: rs).map tupI)) htg11
  simp only [↓e_v, ↓e_c, ↓e_bin, ↓e_neg, ↓e_cmp, ↓e_chn, ↓e_and, ↓e_or, ↓e_not, ↓e_ite, ↓e_tup, ↓e_lst, ↓e_ix, ↓e_sl, ↓e_rev, ↓e_call, ↓e_bi, ↓e_isi, ↓e_app, ↓e_ext, ↓e_pop, ↓e_comp, ↓es_nil, ↓es_cons, ↓if_nil, ↓if_cons, ↓o_no, ↓o_so, ↓s_ex', ↓s_ret', ↓s_retN', ↓s_asg', ↓s_sub', ↓s_aug', ↓s_iff', ↓s_whl', ↓s_for', ↓s_pass', ↓s_brk', ↓s_cont', ↓s_raise', ↓ss_nil', ↓ss_cons', ↓i_valE, ↓i_rng1E, ↓i_rng2E, ↓i_zipE, ↓i_enuE, ↓getK_s, ↓truK_t, ↓truK_f, ↓bK_s, ↓asgK_s, ↓atK_s, ↓seqK_s, ↓intsK_s, ↓blsK_s, ↓iteK_t, ↓iteK_f, ↓binD, ↓augD, ↓cmp_eq, ↓cmp_ne, ↓cmp_lt, ↓cmp_le, ↓cmp_gt, ↓cmp_ge, ↓cmp_is, ↓cmp_isn, ↓cmp_isN, ↓cmp_isnN, isNon, ↓ixD_int, ↓ixD_rod, atI0, atI1, atI2, atI3, ↓sl_tup, ↓sl_rol, ↓bi_len_tup, ↓bi_len_rol, ↓bi_len_ref, ↓bi_abs, ↓bi_int, ↓bi_intb, ↓bi_gcd, ↓bi_tup_tup, ↓bi_tup_rol, ↓bi_tup_ref, ↓bi_lst_tup, ↓bi_lst_rol, ↓bi_lst_ref, ↓bi_sum, ↓bi_sum_tup, ↓bi_sum_rol, ↓bi_all, ↓bi_any, ↓bi_max2, ↓bi_min2, tg_nm, tg_tp, tgsD, seqOf_tup, seqOf_rol, seqOf_up, seqL_rol, seqL_up', tru_non, tru_bl, tru_int, tru_tup, tru_rol, tru_up, ↓eq_int, isi_c, isi_int, isi_bl, isi_tup, isi_non, isi_str, isi_rol, tyN_up, tyN, List.getElem?_cons_zero, List.getElem?_cons_succ, List.set_cons_zero, List.set_cons_succ, permA, List.map_cons, List.map_nil, List.getD_cons_zero, List.getD_cons_succ, List.cons_append, List.nil_append, List.append_nil, List.replicate_succ, List.replicate_zero, RtP, ite_true, ite_false, if_true, if_false, Bool.false_eq_true, decide_true, decide_false, Bool.not_true, Bool.not_false, List.length_cons, List.length_nil]
  refine min_tups up_same ?_
  rw [← e9]
  rw [List.map_cons] at s11 ht11
  generalize up μ10 g11 (MO.lst (tupI r0 :: List.map tupI rs)) = μ11 at *
  have hgne : ring V ≠ [] := fun e => by rw [e, List.length_nil] at hgl; omega
  simp only [↓e_v, ↓e_c, ↓e_bin, ↓e_neg, ↓e_cmp, ↓e_chn, ↓e_and, ↓e_or, ↓e_not, ↓e_ite, ↓e_tup, ↓e_lst, ↓e_ix, ↓e_sl, ↓e_rev, ↓e_call, ↓e_bi, ↓e_isi, ↓e_app, ↓e_ext, ↓e_pop, ↓e_comp, ↓es_nil, ↓es_cons, ↓if_nil, ↓if_cons, ↓o_no, ↓o_so, ↓s_ex', ↓s_ret', ↓s_retN', ↓s_asg', ↓s_sub', ↓s_aug', ↓s_iff', ↓s_whl', ↓s_for', ↓s_pass', ↓s_brk', ↓s_cont', ↓s_raise', ↓ss_nil', ↓ss_cons', ↓i_valE, ↓i_rng1E, ↓i_rng2E, ↓i_zipE, ↓i_enuE, ↓getK_s, ↓truK_t, ↓truK_f, ↓bK_s, ↓asgK_s, ↓atK_s, ↓seqK_s, ↓intsK_s, ↓blsK_s, ↓iteK_t, ↓iteK_f, ↓binD, ↓augD, ↓cmp_eq, ↓cmp_ne, ↓cmp_lt, ↓cmp_le, ↓cmp_gt, ↓cmp_ge, ↓cmp_is, ↓cmp_isn, ↓cmp_isN, ↓cmp_isnN, isNon, ↓ixD_int, ↓ixD_rod, atI0, atI1, atI2, atI3, ↓sl_tup, ↓sl_rol, ↓bi_len_tup, ↓bi_len_rol, ↓bi_len_ref, ↓bi_abs, ↓bi_int, ↓bi_intb, ↓bi_gcd, ↓bi_tup_tup, ↓bi_tup_rol, ↓bi_tup_ref, ↓bi_lst_tup, ↓bi_lst_rol, ↓bi_lst_ref, ↓bi_sum, ↓bi_sum_tup, ↓bi_sum_rol, ↓bi_all, ↓bi_any, ↓bi_max2, ↓bi_min2, tg_nm, tg_tp, tgsD, seqOf_tup, seqOf_rol, seqOf_up, seqL_rol, seqL_up', tru_non, tru_bl, tru_int, tru_tup, tru_rol, tru_up, ↓eq_int, isi_c, isi_int, isi_bl, isi_tup, isi_non, isi_str, isi_rol, tyN_up, tyN, List.getElem?_cons_zero, List.getElem?_cons_succ, List.set_cons_zero, List.set_cons_succ, permA, List.map_cons, List.map_nil, List.getD_cons_zero, List.getD_cons_succ, List.cons_append, List.nil_append, List.append_nil, List.replicate_succ, List.replicate_zero, RtP, ite_true, ite_false, if_true, if_false, Bool.false_eq_true, decide_true, decide_false, Bool.not_true, Bool.not_false, List.length_cons, List.length_nil]
  refine mulT_rep hk1 (by omega) (by omega) hgne ?_
  refine eq_tints ?_
  have hfm : (((rep k (ring V)).length / lp (rep k (ring V)) : Nat) : Int).fmod (k : Int) = 0 := by
    rw [fmod_pos (by omega)]
    have : (((rep k (ring V)).length / lp (rep k (ring V)) : Nat) : Int) % (k : Int) = ((((rep k (ring V)).length / lp (rep k (ring V))) % k : Nat) : Int) := rfl
    rw [this, hRo]
    rfl
  simp only [↓e_v, ↓e_c, ↓e_bin, ↓e_neg, ↓e_cmp, ↓e_chn, ↓e_and, ↓e_or, ↓e_not, ↓e_ite, ↓e_tup, ↓e_lst, ↓e_ix, ↓e_sl, ↓e_rev, ↓e_call, ↓e_bi, ↓e_isi, ↓e_app, ↓e_ext, ↓e_pop, ↓e_comp, ↓es_nil, ↓es_cons, ↓if_nil, ↓if_cons, ↓o_no, ↓o_so, ↓s_ex', ↓s_ret', ↓s_retN', ↓s_asg', ↓s_sub', ↓s_aug', ↓s_iff', ↓s_whl', ↓s_for', ↓s_pass', ↓s_brk', ↓s_cont', ↓s_raise', ↓ss_nil', ↓ss_cons', ↓i_valE, ↓i_rng1E, ↓i_rng2E, ↓i_zipE, ↓i_enuE, ↓getK_s, ↓truK_t, ↓truK_f, ↓bK_s, ↓asgK_s, ↓atK_s, ↓seqK_s, ↓intsK_s, ↓blsK_s, ↓iteK_t, ↓iteK_f, ↓binD, ↓augD, ↓cmp_eq, ↓cmp_ne, ↓cmp_lt, ↓cmp_le, ↓cmp_gt, ↓cmp_ge, ↓cmp_is, ↓cmp_isn, ↓cmp_isN, ↓cmp_isnN, isNon, ↓ixD_int, ↓ixD_rod, atI0, atI1, atI2, atI3, ↓sl_tup, ↓sl_rol, ↓bi_len_tup, ↓bi_len_rol, ↓bi_len_ref, ↓bi_abs, ↓bi_int, ↓bi_intb, ↓bi_gcd, ↓bi_tup_tup, ↓bi_tup_rol, ↓bi_tup_ref, ↓bi_lst_tup, ↓bi_lst_rol, ↓bi_lst_ref, ↓bi_sum, ↓bi_sum_tup, ↓bi_sum_rol, ↓bi_all, ↓bi_any, ↓bi_max2, ↓bi_min2, tg_nm, tg_tp, tgsD, seqOf_tup, seqOf_rol, seqOf_up, seqL_rol, seqL_up', tru_non, tru_bl, tru_int, tru_tup, tru_rol, tru_up, ↓eq_int, isi_c, isi_int, isi_bl, isi_tup, isi_non, isi_str, isi_rol, tyN_up, tyN, List.getElem?_cons_zero, List.getElem?_cons_succ, List.set_cons_zero, List.set_cons_succ, permA, List.map_cons, List.map_nil, List.getD_cons_zero, List.getD_cons_succ, List.cons_append, List.nil_append, List.append_nil, List.replicate_succ, List.replicate_zero, RtP, ite_true, ite_false, if_true, if_false, Bool.false_eq_true, decide_true, decide_false, Bool.not_true, Bool.not_false, List.length_cons, List.length_nil, h.howoften, run_how_often, hfm]
  refine ⟨⟨hRW, by rw [hgl2]; omega⟩, by omega, ?_⟩
  have hlen3 : ((((rep k (ring V)).map D.int).length : Nat) : Int) = ((((V.map D.int).length : Nat)) : Int) * (k : Int) := by
    rw [List.length_map, List.length_map, hgl2, Int.natCast_mul, Int.mul_comm]
  have mk : IntMulOk ((((V.map D.int).length : Nat)) : Int) (k : Int) := mul64 (by unfold Sz; rw [List.length_map]; omega)
  simp only [hlen3, decide_true, ↓e_v, ↓e_c, ↓e_bin, ↓e_neg, ↓e_cmp, ↓e_chn, ↓e_and, ↓e_or, ↓e_not, ↓e_ite, ↓e_tup, ↓e_lst, ↓e_ix, ↓e_sl, ↓e_rev, ↓e_call, ↓e_bi, ↓e_isi, ↓e_app, ↓e_ext, ↓e_pop, ↓e_comp, ↓es_nil, ↓es_cons, ↓if_nil, ↓if_cons, ↓o_no, ↓o_so, ↓s_ex', ↓s_ret', ↓s_retN', ↓s_asg', ↓s_sub', ↓s_aug', ↓s_iff', ↓s_whl', ↓s_for', ↓s_pass', ↓s_brk', ↓s_cont', ↓s_raise', ↓ss_nil', ↓ss_cons', ↓i_valE, ↓i_rng1E, ↓i_rng2E, ↓i_zipE, ↓i_enuE, ↓getK_s, ↓truK_t, ↓truK_f, ↓bK_s, ↓asgK_s, ↓atK_s, ↓seqK_s, ↓intsK_s, ↓blsK_s, ↓iteK_t, ↓iteK_f, ↓binD, ↓augD, ↓cmp_eq, ↓cmp_ne, ↓cmp_lt, ↓cmp_le, ↓cmp_gt, ↓cmp_ge, ↓cmp_is, ↓cmp_isn, ↓cmp_isN, ↓cmp_isnN, isNon, ↓ixD_int, ↓ixD_rod, atI0, atI1, atI2, atI3, ↓sl_tup, ↓sl_rol, ↓bi_len_tup, ↓bi_len_rol, ↓bi_len_ref, ↓bi_abs, ↓bi_int, ↓bi_intb, ↓bi_gcd, ↓bi_tup_tup, ↓bi_tup_rol, ↓bi_tup_ref, ↓bi_lst_tup, ↓bi_lst_rol, ↓bi_lst_ref, ↓bi_sum, ↓bi_sum_tup, ↓bi_sum_rol, ↓bi_all, ↓bi_any, ↓bi_max2, ↓bi_min2, tg_nm, tg_tp, tgsD, seqOf_tup, seqOf_rol, seqOf_up, seqL_rol, seqL_up', tru_non, tru_bl, tru_int, tru_tup, tru_rol, tru_up, ↓eq_int, isi_c, isi_int, isi_bl, isi_tup, isi_non, isi_str, isi_rol, tyN_up, tyN, List.getElem?_cons_zero, List.getElem?_cons_succ, List.set_cons_zero, List.set_cons_succ, permA, List.map_cons, List.map_nil, List.getD_cons_zero, List.getD_cons_succ, List.cons_append, List.nil_append, List.append_nil, List.replicate_succ, List.replicate_zero, RtP, ite_true, ite_false, if_true, if_false, Bool.false_eq_true, decide_true, decide_false, Bool.not_true, Bool.not_false, List.length_cons, List.length_nil, h.sizes, run_sizes_by, h.cmove, run_class_move, h.msize, run_mv_size]
  have hg29 : (rep k (ring V)).length ≤ 29000 := by rw [hgl2]; omega
  refine ⟨mk, ⟨⟨hRW.2.1, hRW.1.1.alt⟩, hg29⟩, ⟨hRW, hg29⟩, mvN_mvs hg29, ?_⟩
  simp only [decide_true, ↓e_v, ↓e_c, ↓e_bin, ↓e_neg, ↓e_cmp, ↓e_chn, ↓e_and, ↓e_or, ↓e_not, ↓e_ite, ↓e_tup, ↓e_lst, ↓e_ix, ↓e_sl, ↓e_rev, ↓e_call, ↓e_bi, ↓e_isi, ↓e_app, ↓e_ext, ↓e_pop, ↓e_comp, ↓es_nil, ↓es_cons, ↓if_nil, ↓if_cons, ↓o_no, ↓o_so, ↓s_ex', ↓s_ret', ↓s_retN', ↓s_asg', ↓s_sub', ↓s_aug', ↓s_iff', ↓s_whl', ↓s_for', ↓s_pass', ↓s_brk', ↓s_cont', ↓s_raise', ↓ss_nil', ↓ss_cons', ↓i_valE, ↓i_rng1E, ↓i_rng2E, ↓i_zipE, ↓i_enuE, ↓getK_s, ↓truK_t, ↓truK_f, ↓bK_s, ↓asgK_s, ↓atK_s, ↓seqK_s, ↓intsK_s, ↓blsK_s, ↓iteK_t, ↓iteK_f, ↓binD, ↓augD, ↓cmp_eq, ↓cmp_ne, ↓cmp_lt, ↓cmp_le, ↓cmp_gt, ↓cmp_ge, ↓cmp_is, ↓cmp_isn, ↓cmp_isN, ↓cmp_isnN, isNon, ↓ixD_int, ↓ixD_rod, atI0, atI1, atI2, atI3, ↓sl_tup, ↓sl_rol, ↓bi_len_tup, ↓bi_len_rol, ↓bi_len_ref, ↓bi_abs, ↓bi_int, ↓bi_intb, ↓bi_gcd, ↓bi_tup_tup, ↓bi_tup_rol, ↓bi_tup_ref, ↓bi_lst_tup, ↓bi_lst_rol, ↓bi_lst_ref, ↓bi_sum, ↓bi_sum_tup, ↓bi_sum_rol, ↓bi_all, ↓bi_any, ↓bi_max2, ↓bi_min2, tg_nm, tg_tp, tgsD, seqOf_tup, seqOf_rol, seqOf_up, seqL_rol, seqL_up', tru_non, tru_bl, tru_int, tru_tup, tru_rol, tru_up, ↓eq_int, isi_c, isi_int, isi_bl, isi_tup, isi_non, isi_str, isi_rol, tyN_up, tyN, List.getElem?_cons_zero, List.getElem?_cons_succ, List.set_cons_zero, List.set_cons_succ, permA, List.map_cons, List.map_nil, List.getD_cons_zero, List.getD_cons_succ, List.cons_append, List.nil_append, List.append_nil, List.replicate_succ, List.replicate_zero, RtP, ite_true, ite_false, if_true, if_false, Bool.false_eq_true, decide_true, decide_false, Bool.not_true, Bool.not_false, List.length_cons, List.length_nil, h.cmove, run_class_move, h.spell, run_move_in]
  refine ⟨⟨hRW, hg29⟩, ⟨hRW.2.1, hg29⟩, eq_v4 ?_⟩
  simp only [decide_true, ↓e_v, ↓e_c, ↓e_bin, ↓e_neg, ↓e_cmp, ↓e_chn, ↓e_and, ↓e_or, ↓e_not, ↓e_ite, ↓e_tup, ↓e_lst, ↓e_ix, ↓e_sl, ↓e_rev, ↓e_call, ↓e_bi, ↓e_isi, ↓e_app, ↓e_ext, ↓e_pop, ↓e_comp, ↓es_nil, ↓es_cons, ↓if_nil, ↓if_cons, ↓o_no, ↓o_so, ↓s_ex', ↓s_ret', ↓s_retN', ↓s_asg', ↓s_sub', ↓s_aug', ↓s_iff', ↓s_whl', ↓s_for', ↓s_pass', ↓s_brk', ↓s_cont', ↓s_raise', ↓ss_nil', ↓ss_cons', ↓i_valE, ↓i_rng1E, ↓i_rng2E, ↓i_zipE, ↓i_enuE, ↓getK_s, ↓truK_t, ↓truK_f, ↓bK_s, ↓asgK_s, ↓atK_s, ↓seqK_s, ↓intsK_s, ↓blsK_s, ↓iteK_t, ↓iteK_f, ↓binD, ↓augD, ↓cmp_eq, ↓cmp_ne, ↓cmp_lt, ↓cmp_le, ↓cmp_gt, ↓cmp_ge, ↓cmp_is, ↓cmp_isn, ↓cmp_isN, ↓cmp_isnN, isNon, ↓ixD_int, ↓ixD_rod, atI0, atI1, atI2, atI3, ↓sl_tup, ↓sl_rol, ↓bi_len_tup, ↓bi_len_rol, ↓bi_len_ref, ↓bi_abs, ↓bi_int, ↓bi_intb, ↓bi_gcd, ↓bi_tup_tup, ↓bi_tup_rol, ↓bi_tup_ref, ↓bi_lst_tup, ↓bi_lst_rol, ↓bi_lst_ref, ↓bi_sum, ↓bi_sum_tup, ↓bi_sum_rol, ↓bi_all, ↓bi_any, ↓bi_max2, ↓bi_min2, tg_nm, tg_tp, tgsD, seqOf_tup, seqOf_rol, seqOf_up, seqL_rol, seqL_up', tru_non, tru_bl, tru_int, tru_tup, tru_rol, tru_up, ↓eq_int, isi_c, isi_int, isi_bl, isi_tup, isi_non, isi_str, isi_rol, tyN_up, tyN, List.getElem?_cons_zero, List.getElem?_cons_succ, List.set_cons_zero, List.set_cons_succ, permA, List.map_cons, List.map_nil, List.getD_cons_zero, List.getD_cons_succ, List.cons_append, List.nil_append, List.append_nil, List.replicate_succ, List.replicate_zero, RtP, ite_true, ite_false, if_true, if_false, Bool.false_eq_true, decide_true, decide_false, Bool.not_true, Bool.not_false, List.length_cons, List.length_nil, h.take]
  refine take_run ht11 (by omega) (by decide) (by decide) fun r o12 hr0 hr1 ht12 => ?_
  have s12 := sub_tin (o := o12) s11 tp
  generalize up μ11 t o12 = μ12 at *
  obtain ⟨ln, rfl⟩ : ∃ ln : Nat, r = (ln : Int) := ⟨r.toNat, by omega⟩
  simp only [↓e_v, ↓e_c, ↓e_bin, ↓e_neg, ↓e_cmp, ↓e_chn, ↓e_and, ↓e_or, ↓e_not, ↓e_ite, ↓e_tup, ↓e_lst, ↓e_ix, ↓e_sl, ↓e_rev, ↓e_call, ↓e_bi, ↓e_isi, ↓e_app, ↓e_ext, ↓e_pop, ↓e_comp, ↓es_nil, ↓es_cons, ↓if_nil, ↓if_cons, ↓o_no, ↓o_so, ↓s_ex', ↓s_ret', ↓s_retN', ↓s_asg', ↓s_sub', ↓s_aug', ↓s_iff', ↓s_whl', ↓s_for', ↓s_pass', ↓s_brk', ↓s_cont', ↓s_raise', ↓ss_nil', ↓ss_cons', ↓i_valE, ↓i_rng1E, ↓i_rng2E, ↓i_zipE, ↓i_enuE, ↓getK_s, ↓truK_t, ↓truK_f, ↓bK_s, ↓asgK_s, ↓atK_s, ↓seqK_s, ↓intsK_s, ↓blsK_s, ↓iteK_t, ↓iteK_f, ↓binD, ↓augD, ↓cmp_eq, ↓cmp_ne, ↓cmp_lt, ↓cmp_le, ↓cmp_gt, ↓cmp_ge, ↓cmp_is, ↓cmp_isn, ↓cmp_isN, ↓cmp_isnN, isNon, ↓ixD_int, ↓ixD_rod, atI0, atI1, atI2, atI3, ↓sl_tup, ↓sl_rol, ↓bi_len_tup, ↓bi_len_rol, ↓bi_len_ref, ↓bi_abs, ↓bi_int, ↓bi_intb, ↓bi_gcd, ↓bi_tup_tup, ↓bi_tup_rol, ↓bi_tup_ref, ↓bi_lst_tup, ↓bi_lst_rol, ↓bi_lst_ref, ↓bi_sum, ↓bi_sum_tup, ↓bi_sum_rol, ↓bi_all, ↓bi_any, ↓bi_max2, ↓bi_min2, tg_nm, tg_tp, tgsD, seqOf_tup, seqOf_rol, seqOf_up, seqL_rol, seqL_up', tru_non, tru_bl, tru_int, tru_tup, tru_rol, tru_up, ↓eq_int, isi_c, isi_int, isi_bl, isi_tup, isi_non, isi_str, isi_rol, tyN_up, tyN, List.getElem?_cons_zero, List.getElem?_cons_succ, List.set_cons_zero, List.set_cons_succ, permA, List.map_cons, List.map_nil, List.getD_cons_zero, List.getD_cons_succ, List.cons_append, List.nil_append, List.append_nil, List.replicate_succ, List.replicate_zero, RtP, ite_true, ite_false, if_true, if_false, Bool.false_eq_true, decide_true, decide_false, Bool.not_true, Bool.not_false, List.length_cons, List.length_nil]
  have e2 : (2 + (ln : Int)) = ((ln + 2 : Nat) : Int) := by omega
  rw [e2]
  by_cases c : 2 < ln + 2
  · have c' : (2 : Int) < ((ln + 2 : Nat) : Int) := by omega
    have e3 : (((ln + 2 : Nat) : Int) - 2) = ((ln : Nat) : Int) := by omega
    simp only [decide_eq_true c', ↓e_v, ↓e_c, ↓e_bin, ↓e_neg, ↓e_cmp, ↓e_chn, ↓e_and, ↓e_or, ↓e_not, ↓e_ite, ↓e_tup, ↓e_lst, ↓e_ix, ↓e_sl, ↓e_rev, ↓e_call, ↓e_bi, ↓e_isi, ↓e_app, ↓e_ext, ↓e_pop, ↓e_comp, ↓es_nil, ↓es_cons, ↓if_nil, ↓if_cons, ↓o_no, ↓o_so, ↓s_ex', ↓s_ret', ↓s_retN', ↓s_asg', ↓s_sub', ↓s_aug', ↓s_iff', ↓s_whl', ↓s_for', ↓s_pass', ↓s_brk', ↓s_cont', ↓s_raise', ↓ss_nil', ↓ss_cons', ↓i_valE, ↓i_rng1E, ↓i_rng2E, ↓i_zipE, ↓i_enuE, ↓getK_s, ↓truK_t, ↓truK_f, ↓bK_s, ↓asgK_s, ↓atK_s, ↓seqK_s, ↓intsK_s, ↓blsK_s, ↓iteK_t, ↓iteK_f, ↓binD, ↓augD, ↓cmp_eq, ↓cmp_ne, ↓cmp_lt, ↓cmp_le, ↓cmp_gt, ↓cmp_ge, ↓cmp_is, ↓cmp_isn, ↓cmp_isN, ↓cmp_isnN, isNon, ↓ixD_int, ↓ixD_rod, atI0, atI1, atI2, atI3, ↓sl_tup, ↓sl_rol, ↓bi_len_tup, ↓bi_len_rol, ↓bi_len_ref, ↓bi_abs, ↓bi_int, ↓bi_intb, ↓bi_gcd, ↓bi_tup_tup, ↓bi_tup_rol, ↓bi_tup_ref, ↓bi_lst_tup, ↓bi_lst_rol, ↓bi_lst_ref, ↓bi_sum, ↓bi_sum_tup, ↓bi_sum_rol, ↓bi_all, ↓bi_any, ↓bi_max2, ↓bi_min2, tg_nm, tg_tp, tgsD, seqOf_tup, seqOf_rol, seqOf_up, seqL_rol, seqL_up', tru_non, tru_bl, tru_int, tru_tup, tru_rol, tru_up, ↓eq_int, isi_c, isi_int, isi_bl, isi_tup, isi_non, isi_str, isi_rol, tyN_up, tyN, List.getElem?_cons_zero, List.getElem?_cons_succ, List.set_cons_zero, List.set_cons_succ, permA, List.map_cons, List.map_nil, List.getD_cons_zero, List.getD_cons_succ, List.cons_append, List.nil_append, List.append_nil, List.replicate_succ, List.replicate_zero, RtP, ite_true, ite_false, if_true, if_false, Bool.false_eq_true, decide_true, decide_false, Bool.not_true, Bool.not_false, List.length_cons, List.length_nil, h.hmw, run_hmw]
    rw [e3]
    simp only [↓e_v, ↓e_c, ↓e_bin, ↓e_neg, ↓e_cmp, ↓e_chn, ↓e_and, ↓e_or, ↓e_not, ↓e_ite, ↓e_tup, ↓e_lst, ↓e_ix, ↓e_sl, ↓e_rev, ↓e_call, ↓e_bi, ↓e_isi, ↓e_app, ↓e_ext, ↓e_pop, ↓e_comp, ↓es_nil, ↓es_cons, ↓if_nil, ↓if_cons, ↓o_no, ↓o_so, ↓s_ex', ↓s_ret', ↓s_retN', ↓s_asg', ↓s_sub', ↓s_aug', ↓s_iff', ↓s_whl', ↓s_for', ↓s_pass', ↓s_brk', ↓s_cont', ↓s_raise', ↓ss_nil', ↓ss_cons', ↓i_valE, ↓i_rng1E, ↓i_rng2E, ↓i_zipE, ↓i_enuE, ↓getK_s, ↓truK_t, ↓truK_f, ↓bK_s, ↓asgK_s, ↓atK_s, ↓seqK_s, ↓intsK_s, ↓blsK_s, ↓iteK_t, ↓iteK_f, ↓binD, ↓augD, ↓cmp_eq, ↓cmp_ne, ↓cmp_lt, ↓cmp_le, ↓cmp_gt, ↓cmp_ge, ↓cmp_is, ↓cmp_isn, ↓cmp_isN, ↓cmp_isnN, isNon, ↓ixD_int, ↓ixD_rod, atI0, atI1, atI2, atI3, ↓sl_tup, ↓sl_rol, ↓bi_len_tup, ↓bi_len_rol, ↓bi_len_ref, ↓bi_abs, ↓bi_int, ↓bi_intb, ↓bi_gcd, ↓bi_tup_tup, ↓bi_tup_rol, ↓bi_tup_ref, ↓bi_lst_tup, ↓bi_lst_rol, ↓bi_lst_ref, ↓bi_sum, ↓bi_sum_tup, ↓bi_sum_rol, ↓bi_all, ↓bi_any, ↓bi_max2, ↓bi_min2, tg_nm, tg_tp, tgsD, seqOf_tup, seqOf_rol, seqOf_up, seqL_rol, seqL_up', tru_non, tru_bl, tru_int, tru_tup, tru_rol, tru_up, ↓eq_int, isi_c, isi_int, isi_bl, isi_tup, isi_non, isi_str, isi_rol, tyN_up, tyN, List.getElem?_cons_zero, List.getElem?_cons_succ, List.set_cons_zero, List.set_cons_succ, permA, List.map_cons, List.map_nil, List.getD_cons_zero, List.getD_cons_succ, List.cons_append, List.nil_append, List.append_nil, List.replicate_succ, List.replicate_zero, RtP, ite_true, ite_false, if_true, if_false, Bool.false_eq_true, decide_true, decide_false, Bool.not_true, Bool.not_false, List.length_cons, List.length_nil, h.hmw, run_hmw]
    refine ⟨by omega, by omega, .of_left (by decide), s12, ?_⟩
    have := hmw_two (n := ln + 2) c
    rw [show ln + 2 - 2 = ln by omega] at this
    rw [decide_eq_true this]
  · have c' : ¬ (2 : Int) < ((ln + 2 : Nat) : Int) := by omega
    have e4 : D.int 2 = D.int ((2 : Nat) : Int) := rfl
    simp only [decide_eq_false c', ↓e_v, ↓e_c, ↓e_bin, ↓e_neg, ↓e_cmp, ↓e_chn, ↓e_and, ↓e_or, ↓e_not, ↓e_ite, ↓e_tup, ↓e_lst, ↓e_ix, ↓e_sl, ↓e_rev, ↓e_call, ↓e_bi, ↓e_isi, ↓e_app, ↓e_ext, ↓e_pop, ↓e_comp, ↓es_nil, ↓es_cons, ↓if_nil, ↓if_cons, ↓o_no, ↓o_so, ↓s_ex', ↓s_ret', ↓s_retN', ↓s_asg', ↓s_sub', ↓s_aug', ↓s_iff', ↓s_whl', ↓s_for', ↓s_pass', ↓s_brk', ↓s_cont', ↓s_raise', ↓ss_nil', ↓ss_cons', ↓i_valE, ↓i_rng1E, ↓i_rng2E, ↓i_zipE, ↓i_enuE, ↓getK_s, ↓truK_t, ↓truK_f, ↓bK_s, ↓asgK_s, ↓atK_s, ↓seqK_s, ↓intsK_s, ↓blsK_s, ↓iteK_t, ↓iteK_f, ↓binD, ↓augD, ↓cmp_eq, ↓cmp_ne, ↓cmp_lt, ↓cmp_le, ↓cmp_gt, ↓cmp_ge, ↓cmp_is, ↓cmp_isn, ↓cmp_isN, ↓cmp_isnN, isNon, ↓ixD_int, ↓ixD_rod, atI0, atI1, atI2, atI3, ↓sl_tup, ↓sl_rol, ↓bi_len_tup, ↓bi_len_rol, ↓bi_len_ref, ↓bi_abs, ↓bi_int, ↓bi_intb, ↓bi_gcd, ↓bi_tup_tup, ↓bi_tup_rol, ↓bi_tup_ref, ↓bi_lst_tup, ↓bi_lst_rol, ↓bi_lst_ref, ↓bi_sum, ↓bi_sum_tup, ↓bi_sum_rol, ↓bi_all, ↓bi_any, ↓bi_max2, ↓bi_min2, tg_nm, tg_tp, tgsD, seqOf_tup, seqOf_rol, seqOf_up, seqL_rol, seqL_up', tru_non, tru_bl, tru_int, tru_tup, tru_rol, tru_up, ↓eq_int, isi_c, isi_int, isi_bl, isi_tup, isi_non, isi_str, isi_rol, tyN_up, tyN, List.getElem?_cons_zero, List.getElem?_cons_succ, List.set_cons_zero, List.set_cons_succ, permA, List.map_cons, List.map_nil, List.getD_cons_zero, List.getD_cons_succ, List.cons_append, List.nil_append, List.append_nil, List.replicate_succ, List.replicate_zero, RtP, ite_true, ite_false, if_true, if_false, Bool.false_eq_true, decide_true, decide_false, Bool.not_true, Bool.not_false, List.length_cons, List.length_nil, h.hmw]
    rw [e4]
    simp only [↓e_v, ↓e_c, ↓e_bin, ↓e_neg, ↓e_cmp, ↓e_chn, ↓e_and, ↓e_or, ↓e_not, ↓e_ite, ↓e_tup, ↓e_lst, ↓e_ix, ↓e_sl, ↓e_rev, ↓e_call, ↓e_bi, ↓e_isi, ↓e_app, ↓e_ext, ↓e_pop, ↓e_comp, ↓es_nil, ↓es_cons, ↓if_nil, ↓if_cons, ↓o_no, ↓o_so, ↓s_ex', ↓s_ret', ↓s_retN', ↓s_asg', ↓s_sub', ↓s_aug', ↓s_iff', ↓s_whl', ↓s_for', ↓s_pass', ↓s_brk', ↓s_cont', ↓s_raise', ↓ss_nil', ↓ss_cons', ↓i_valE, ↓i_rng1E, ↓i_rng2E, ↓i_zipE, ↓i_enuE, ↓getK_s, ↓truK_t, ↓truK_f, ↓bK_s, ↓asgK_s, ↓atK_s, ↓seqK_s, ↓intsK_s, ↓blsK_s, ↓iteK_t, ↓iteK_f, ↓binD, ↓augD, ↓cmp_eq, ↓cmp_ne, ↓cmp_lt, ↓cmp_le, ↓cmp_gt, ↓cmp_ge, ↓cmp_is, ↓cmp_isn, ↓cmp_isN, ↓cmp_isnN, isNon, ↓ixD_int, ↓ixD_rod, atI0, atI1, atI2, atI3, ↓sl_tup, ↓sl_rol, ↓bi_len_tup, ↓bi_len_rol, ↓bi_len_ref, ↓bi_abs, ↓bi_int, ↓bi_intb, ↓bi_gcd, ↓bi_tup_tup, ↓bi_tup_rol, ↓bi_tup_ref, ↓bi_lst_tup, ↓bi_lst_rol, ↓bi_lst_ref, ↓bi_sum, ↓bi_sum_tup, ↓bi_sum_rol, ↓bi_all, ↓bi_any, ↓bi_max2, ↓bi_min2, tg_nm, tg_tp, tgsD, seqOf_tup, seqOf_rol, seqOf_up, seqL_rol, seqL_up', tru_non, tru_bl, tru_int, tru_tup, tru_rol, tru_up, ↓eq_int, isi_c, isi_int, isi_bl, isi_tup, isi_non, isi_str, isi_rol, tyN_up, tyN, List.getElem?_cons_zero, List.getElem?_cons_succ, List.set_cons_zero, List.set_cons_succ, permA, List.map_cons, List.map_nil, List.getD_cons_zero, List.getD_cons_succ, List.cons_append, List.nil_append, List.append_nil, List.replicate_succ, List.replicate_zero, RtP, ite_true, ite_false, if_true, if_false, Bool.false_eq_true, decide_true, decide_false, Bool.not_true, Bool.not_false, List.length_cons, List.length_nil, run_hmw]
    exact ⟨by decide, s12, rfl⟩
end
end LD
/-! ## the law: table, steps, head -/
namespace Fin_k93
open PySem PySem.Spec PyProof.Rows L2 LD He
def top (i : Nat) : Stmt := PySem.Challenge.pw_tablelots_k93_across_long_rows_of_letter.main.body.getD i (.Pass ⟨0, 0, 0, 0⟩)
def G : GC := { fns := [(("is_number" : Str), (0 : Nat), [("thing" : Str)], ([((1 : Nat), ([] : List Str))] : List (Nat × List Str))), (("is_within" : Str), (1 : Nat), [("thing" : Str), ("least" : Str), ("most" : Str)], ([((3 : Nat), ([] : List Str))] : List (Nat × List Str))), (("is_long" : Str), (2 : Nat), [("thing" : Str), ("length" : Str)], ([((2 : Nat), ([] : List Str))] : List (Nat × List Str))), (("are_numbers" : Str), (3 : Nat), [("thing" : Str), ("length" : Str)], ([((2 : Nat), ([] : List Str))] : List (Nat × List Str))), (("tupled" : Str), (4 : Nat), [("value" : Str)], ([((1 : Nat), ([] : List Str))] : List (Nat × List Str))), (("is_move_of" : Str), (5 : Nat), [("thing" : Str)], ([((1 : Nat), ([] : List Str))] : List (Nat × List Str))), (("sure_move" : Str), (6 : Nat), [("move" : Str)], ([((1 : Nat), ([] : List Str))] : List (Nat × List Str))), (("signed" : Str), (7 : Nat), [("table" : Str)], ([((1 : Nat), ([] : List Str))] : List (Nat × List Str))), (("product" : Str), (8 : Nat), [("one" : Str), ("other" : Str)], ([((2 : Nat), ([] : List Str))] : List (Nat × List Str))), (("size_of" : Str), (9 : Nat), [("move" : Str)], ([((1 : Nat), ([] : List Str))] : List (Nat × List Str))), (("move_product" : Str), (10 : Nat), [("one" : Str), ("other" : Str)], ([((2 : Nat), ([] : List Str))] : List (Nat × List Str))), (("move_size" : Str), (11 : Nat), [("move" : Str)], ([((0 : Nat), ([("move" : Str)] : List Str))] : List (Nat × List Str))), (("is_row_of" : Str), (12 : Nat), [("thing" : Str)], ([((1 : Nat), ([] : List Str))] : List (Nat × List Str))), (("is_word_of" : Str), (13 : Nat), [("thing" : Str)], ([((1 : Nat), ([] : List Str))] : List (Nat × List Str))), (("sure_row" : Str), (14 : Nat), [("row" : Str)], ([((1 : Nat), ([] : List Str))] : List (Nat × List Str))), (("sure_word" : Str), (15 : Nat), [("word" : Str)], ([((1 : Nat), ([] : List Str))] : List (Nat × List Str))), (("shortest" : Str), (16 : Nat), [("row" : Str)], ([((1 : Nat), ([] : List Str))] : List (Nat × List Str))), (("back_of" : Str), (17 : Nat), [("word" : Str)], ([((1 : Nat), ([] : List Str))] : List (Nat × List Str))), (("move_in" : Str), (18 : Nat), [("row" : Str)], ([((1 : Nat), ([] : List Str))] : List (Nat × List Str))), (("round_of" : Str), (19 : Nat), [("word" : Str)], ([((1 : Nat), ([] : List Str))] : List (Nat × List Str))), (("is_word" : Str), (20 : Nat), [("thing" : Str)], ([((0 : Nat), ([("thing" : Str)] : List Str)), ((1 : Nat), ([] : List Str))] : List (Nat × List Str))), (("move_by" : Str), (21 : Nat), [("row" : Str)], ([((0 : Nat), ([("row" : Str)] : List Str)), ((1 : Nat), ([] : List Str))] : List (Nat × List Str))), (("shortened" : Str), (22 : Nat), [("row" : Str)], ([((0 : Nat), ([("row" : Str)] : List Str))] : List (Nat × List Str))), (("word_behind" : Str), (23 : Nat), [("one" : Str), ("other" : Str)], ([((0 : Nat), ([("one" : Str), ("other" : Str)] : List Str)), ((2 : Nat), ([] : List Str))] : List (Nat × List Str))), (("word_back" : Str), (24 : Nat), [("word" : Str)], ([((0 : Nat), ([("word" : Str)] : List Str))] : List (Nat × List Str))), (("how_many_words" : Str), (25 : Nat), [("length" : Str)], ([((0 : Nat), ([("length" : Str)] : List Str)), ((1 : Nat), ([] : List Str))] : List (Nat × List Str))), (("round_word" : Str), (26 : Nat), [("word" : Str)], ([((0 : Nat), ([("word" : Str)] : List Str))] : List (Nat × List Str))), (("class_move" : Str), (27 : Nat), [("word" : Str)], ([((1 : Nat), ([] : List Str)), ((0 : Nat), ([("word" : Str)] : List Str))] : List (Nat × List Str))), (("how_often" : Str), (28 : Nat), [("word" : Str)], ([((0 : Nat), ([("word" : Str)] : List Str))] : List (Nat × List Str))), (("repeats_of" : Str), (29 : Nat), [("word" : Str)], ([((1 : Nat), ([] : List Str))] : List (Nat × List Str))), (("sizes_by" : Str), (30 : Nat), [("word" : Str)], ([((0 : Nat), ([("word" : Str)] : List Str))] : List (Nat × List Str))), (("_law_box" : Str), (31 : Nat), [("script" : Str), ("k" : Str)], ([((2 : Nat), ([] : List Str))] : List (Nat × List Str))), (("_law_take" : Str), (32 : Nat), [("tin" : Str), ("below_so" : Str)], ([((2 : Nat), ([] : List Str))] : List (Nat × List Str))), (("_law_cells" : Str), (33 : Nat), [("script" : Str), ("most_so" : Str)], ([((2 : Nat), ([] : List Str))] : List (Nat × List Str))), (("_law_flat" : Str), (34 : Nat), [("rows_so" : Str)], ([((1 : Nat), ([] : List Str))] : List (Nat × List Str))), (("_law_mark" : Str), (35 : Nat), [("move" : Str)], ([((1 : Nat), ([] : List Str))] : List (Nat × List Str))), (("_law_times" : Str), (36 : Nat), [("one" : Str), ("two" : Str)], ([((2 : Nat), ([] : List Str))] : List (Nat × List Str))), (("_law_letter" : Str), (37 : Nat), [("k" : Str)], ([((1 : Nat), ([] : List Str))] : List (Nat × List Str))), (("_law_spell" : Str), (38 : Nat), [("row_so" : Str)], ([((1 : Nat), ([] : List Str))] : List (Nat × List Str))), (("_law_short" : Str), (39 : Nat), [("row_so" : Str)], ([((1 : Nat), ([] : List Str))] : List (Nat × List Str))), (("law" : Str), (40 : Nat), [("script" : Str)], ([] : List (Nat × List Str)))], cons := [(("STILL" : Str), (.tup [.int (1), .int (0), .int (0), .int (1)] : D)), (("TURN" : Str), (.tup [.int (0), .int (-1), .int (1), .int (0)] : D)), (("THREE" : Str), (.tup [.int (0), .int (-1), .int (1), .int (1)] : D)), (("THREE_BACK" : Str), (.tup [.int (-1), .int (-1), .int (1), .int (0)] : D)), (("LETTERS" : Str), (.rod [(1), (2), (3)] [.tup [.int (0), .int (-1), .int (1), .int (0)], .tup [.int (0), .int (-1), .int (1), .int (1)], .tup [.int (-1), .int (-1), .int (1), .int (0)]] : D))], free := [("abs" : Str), ("all" : Str), ("bool" : Str), ("enumerate" : Str), ("int" : Str), ("isinstance" : Str), ("len" : Str), ("list" : Str), ("max" : Str), ("min" : Str), ("range" : Str), ("tuple" : Str), ("zip" : Str)], gcd := false, excs := [("Unfit" : Str)] }
def st (f : Nat) : Stmt := top (([3, 4, 5, 6, 7, 13, 14, 15, 16, 17, 18, 19, 22, 23, 24, 25, 26, 27, 28, 29, 30, 31, 32, 33, 34, 35, 36, 38, 39, 40, 41, 43, 44, 45, 46, 47, 48, 49, 50, 51, 52] : List Nat).getD f 0)
theorem bn_0 : BndP (st 0) ("is_number" : Str) [("thing" : Str)] ([((1 : Nat), ([] : List Str))] : List (Nat × List Str)) := ⟨⟨[0], by decide +kernel, fun _ _ _ _ _ _ us ws h1 h2 => match us, ws, h1, h2 with | [_], [], _, _ => rfl⟩, trivial⟩
theorem bn_1 : BndP (st 1) ("is_within" : Str) [("thing" : Str), ("least" : Str), ("most" : Str)] ([((3 : Nat), ([] : List Str))] : List (Nat × List Str)) := ⟨⟨[0, 1, 2], by decide +kernel, fun _ _ _ _ _ _ us ws h1 h2 => match us, ws, h1, h2 with | [_, _, _], [], _, _ => rfl⟩, trivial⟩
theorem bn_2 : BndP (st 2) ("is_long" : Str) [("thing" : Str), ("length" : Str)] ([((2 : Nat), ([] : List Str))] : List (Nat × List Str)) := ⟨⟨[0, 1], by decide +kernel, fun _ _ _ _ _ _ us ws h1 h2 => match us, ws, h1, h2 with | [_, _], [], _, _ => rfl⟩, trivial⟩
theorem bn_3 : BndP (st 3) ("are_numbers" : Str) [("thing" : Str), ("length" : Str)] ([((2 : Nat), ([] : List Str))] : List (Nat × List Str)) := ⟨⟨[0, 1], by decide +kernel, fun _ _ _ _ _ _ us ws h1 h2 => match us, ws, h1, h2 with | [_, _], [], _, _ => rfl⟩, trivial⟩
theorem bn_4 : BndP (st 4) ("tupled" : Str) [("value" : Str)] ([((1 : Nat), ([] : List Str))] : List (Nat × List Str)) := ⟨⟨[0], by decide +kernel, fun _ _ _ _ _ _ us ws h1 h2 => match us, ws, h1, h2 with | [_], [], _, _ => rfl⟩, trivial⟩
theorem bn_5 : BndP (st 5) ("is_move_of" : Str) [("thing" : Str)] ([((1 : Nat), ([] : List Str))] : List (Nat × List Str)) := ⟨⟨[0], by decide +kernel, fun _ _ _ _ _ _ us ws h1 h2 => match us, ws, h1, h2 with | [_], [], _, _ => rfl⟩, trivial⟩
theorem bn_6 : BndP (st 6) ("sure_move" : Str) [("move" : Str)] ([((1 : Nat), ([] : List Str))] : List (Nat × List Str)) := ⟨⟨[0], by decide +kernel, fun _ _ _ _ _ _ us ws h1 h2 => match us, ws, h1, h2 with | [_], [], _, _ => rfl⟩, trivial⟩
theorem bn_7 : BndP (st 7) ("signed" : Str) [("table" : Str)] ([((1 : Nat), ([] : List Str))] : List (Nat × List Str)) := ⟨⟨[0], by decide +kernel, fun _ _ _ _ _ _ us ws h1 h2 => match us, ws, h1, h2 with | [_], [], _, _ => rfl⟩, trivial⟩
theorem bn_8 : BndP (st 8) ("product" : Str) [("one" : Str), ("other" : Str)] ([((2 : Nat), ([] : List Str))] : List (Nat × List Str)) := ⟨⟨[0, 1], by decide +kernel, fun _ _ _ _ _ _ us ws h1 h2 => match us, ws, h1, h2 with | [_, _], [], _, _ => rfl⟩, trivial⟩
theorem bn_9 : BndP (st 9) ("size_of" : Str) [("move" : Str)] ([((1 : Nat), ([] : List Str))] : List (Nat × List Str)) := ⟨⟨[0], by decide +kernel, fun _ _ _ _ _ _ us ws h1 h2 => match us, ws, h1, h2 with | [_], [], _, _ => rfl⟩, trivial⟩
theorem bn_10 : BndP (st 10) ("move_product" : Str) [("one" : Str), ("other" : Str)] ([((2 : Nat), ([] : List Str))] : List (Nat × List Str)) := ⟨⟨[0, 1], by decide +kernel, fun _ _ _ _ _ _ us ws h1 h2 => match us, ws, h1, h2 with | [_, _], [], _, _ => rfl⟩, trivial⟩
theorem bn_11 : BndP (st 11) ("move_size" : Str) [("move" : Str)] ([((0 : Nat), ([("move" : Str)] : List Str))] : List (Nat × List Str)) := ⟨⟨[0], by decide +kernel, fun _ _ _ _ _ _ us ws h1 h2 => match us, ws, h1, h2 with | [], [_], _, _ => rfl⟩, trivial⟩
theorem bn_12 : BndP (st 12) ("is_row_of" : Str) [("thing" : Str)] ([((1 : Nat), ([] : List Str))] : List (Nat × List Str)) := ⟨⟨[0], by decide +kernel, fun _ _ _ _ _ _ us ws h1 h2 => match us, ws, h1, h2 with | [_], [], _, _ => rfl⟩, trivial⟩
theorem bn_13 : BndP (st 13) ("is_word_of" : Str) [("thing" : Str)] ([((1 : Nat), ([] : List Str))] : List (Nat × List Str)) := ⟨⟨[0], by decide +kernel, fun _ _ _ _ _ _ us ws h1 h2 => match us, ws, h1, h2 with | [_], [], _, _ => rfl⟩, trivial⟩
theorem bn_14 : BndP (st 14) ("sure_row" : Str) [("row" : Str)] ([((1 : Nat), ([] : List Str))] : List (Nat × List Str)) := ⟨⟨[0], by decide +kernel, fun _ _ _ _ _ _ us ws h1 h2 => match us, ws, h1, h2 with | [_], [], _, _ => rfl⟩, trivial⟩
theorem bn_15 : BndP (st 15) ("sure_word" : Str) [("word" : Str)] ([((1 : Nat), ([] : List Str))] : List (Nat × List Str)) := ⟨⟨[0], by decide +kernel, fun _ _ _ _ _ _ us ws h1 h2 => match us, ws, h1, h2 with | [_], [], _, _ => rfl⟩, trivial⟩
theorem bn_16 : BndP (st 16) ("shortest" : Str) [("row" : Str)] ([((1 : Nat), ([] : List Str))] : List (Nat × List Str)) := ⟨⟨[0], by decide +kernel, fun _ _ _ _ _ _ us ws h1 h2 => match us, ws, h1, h2 with | [_], [], _, _ => rfl⟩, trivial⟩
theorem bn_17 : BndP (st 17) ("back_of" : Str) [("word" : Str)] ([((1 : Nat), ([] : List Str))] : List (Nat × List Str)) := ⟨⟨[0], by decide +kernel, fun _ _ _ _ _ _ us ws h1 h2 => match us, ws, h1, h2 with | [_], [], _, _ => rfl⟩, trivial⟩
theorem bn_18 : BndP (st 18) ("move_in" : Str) [("row" : Str)] ([((1 : Nat), ([] : List Str))] : List (Nat × List Str)) := ⟨⟨[0], by decide +kernel, fun _ _ _ _ _ _ us ws h1 h2 => match us, ws, h1, h2 with | [_], [], _, _ => rfl⟩, trivial⟩
theorem bn_19 : BndP (st 19) ("round_of" : Str) [("word" : Str)] ([((1 : Nat), ([] : List Str))] : List (Nat × List Str)) := ⟨⟨[0], by decide +kernel, fun _ _ _ _ _ _ us ws h1 h2 => match us, ws, h1, h2 with | [_], [], _, _ => rfl⟩, trivial⟩
theorem bn_20 : BndP (st 20) ("is_word" : Str) [("thing" : Str)] ([((0 : Nat), ([("thing" : Str)] : List Str)), ((1 : Nat), ([] : List Str))] : List (Nat × List Str)) := ⟨⟨[0], by decide +kernel, fun _ _ _ _ _ _ us ws h1 h2 => match us, ws, h1, h2 with | [], [_], _, _ => rfl⟩, ⟨[0], by decide +kernel, fun _ _ _ _ _ _ us ws h1 h2 => match us, ws, h1, h2 with | [_], [], _, _ => rfl⟩, trivial⟩
theorem bn_21 : BndP (st 21) ("move_by" : Str) [("row" : Str)] ([((0 : Nat), ([("row" : Str)] : List Str)), ((1 : Nat), ([] : List Str))] : List (Nat × List Str)) := ⟨⟨[0], by decide +kernel, fun _ _ _ _ _ _ us ws h1 h2 => match us, ws, h1, h2 with | [], [_], _, _ => rfl⟩, ⟨[0], by decide +kernel, fun _ _ _ _ _ _ us ws h1 h2 => match us, ws, h1, h2 with | [_], [], _, _ => rfl⟩, trivial⟩
theorem bn_22 : BndP (st 22) ("shortened" : Str) [("row" : Str)] ([((0 : Nat), ([("row" : Str)] : List Str))] : List (Nat × List Str)) := ⟨⟨[0], by decide +kernel, fun _ _ _ _ _ _ us ws h1 h2 => match us, ws, h1, h2 with | [], [_], _, _ => rfl⟩, trivial⟩
theorem bn_23 : BndP (st 23) ("word_behind" : Str) [("one" : Str), ("other" : Str)] ([((0 : Nat), ([("one" : Str), ("other" : Str)] : List Str)), ((2 : Nat), ([] : List Str))] : List (Nat × List Str)) := ⟨⟨[0, 1], by decide +kernel, fun _ _ _ _ _ _ us ws h1 h2 => match us, ws, h1, h2 with | [], [_, _], _, _ => rfl⟩, ⟨[0, 1], by decide +kernel, fun _ _ _ _ _ _ us ws h1 h2 => match us, ws, h1, h2 with | [_, _], [], _, _ => rfl⟩, trivial⟩
theorem bn_24 : BndP (st 24) ("word_back" : Str) [("word" : Str)] ([((0 : Nat), ([("word" : Str)] : List Str))] : List (Nat × List Str)) := ⟨⟨[0], by decide +kernel, fun _ _ _ _ _ _ us ws h1 h2 => match us, ws, h1, h2 with | [], [_], _, _ => rfl⟩, trivial⟩
theorem bn_25 : BndP (st 25) ("how_many_words" : Str) [("length" : Str)] ([((0 : Nat), ([("length" : Str)] : List Str)), ((1 : Nat), ([] : List Str))] : List (Nat × List Str)) := ⟨⟨[0], by decide +kernel, fun _ _ _ _ _ _ us ws h1 h2 => match us, ws, h1, h2 with | [], [_], _, _ => rfl⟩, ⟨[0], by decide +kernel, fun _ _ _ _ _ _ us ws h1 h2 => match us, ws, h1, h2 with | [_], [], _, _ => rfl⟩, trivial⟩
theorem bn_26 : BndP (st 26) ("round_word" : Str) [("word" : Str)] ([((0 : Nat), ([("word" : Str)] : List Str))] : List (Nat × List Str)) := ⟨⟨[0], by decide +kernel, fun _ _ _ _ _ _ us ws h1 h2 => match us, ws, h1, h2 with | [], [_], _, _ => rfl⟩, trivial⟩
theorem bn_27 : BndP (st 27) ("class_move" : Str) [("word" : Str)] ([((1 : Nat), ([] : List Str)), ((0 : Nat), ([("word" : Str)] : List Str))] : List (Nat × List Str)) := ⟨⟨[0], by decide +kernel, fun _ _ _ _ _ _ us ws h1 h2 => match us, ws, h1, h2 with | [_], [], _, _ => rfl⟩, ⟨[0], by decide +kernel, fun _ _ _ _ _ _ us ws h1 h2 => match us, ws, h1, h2 with | [], [_], _, _ => rfl⟩, trivial⟩
theorem bn_28 : BndP (st 28) ("how_often" : Str) [("word" : Str)] ([((0 : Nat), ([("word" : Str)] : List Str))] : List (Nat × List Str)) := ⟨⟨[0], by decide +kernel, fun _ _ _ _ _ _ us ws h1 h2 => match us, ws, h1, h2 with | [], [_], _, _ => rfl⟩, trivial⟩
theorem bn_29 : BndP (st 29) ("repeats_of" : Str) [("word" : Str)] ([((1 : Nat), ([] : List Str))] : List (Nat × List Str)) := ⟨⟨[0], by decide +kernel, fun _ _ _ _ _ _ us ws h1 h2 => match us, ws, h1, h2 with | [_], [], _, _ => rfl⟩, trivial⟩
theorem bn_30 : BndP (st 30) ("sizes_by" : Str) [("word" : Str)] ([((0 : Nat), ([("word" : Str)] : List Str))] : List (Nat × List Str)) := ⟨⟨[0], by decide +kernel, fun _ _ _ _ _ _ us ws h1 h2 => match us, ws, h1, h2 with | [], [_], _, _ => rfl⟩, trivial⟩
theorem bn_31 : BndP (st 31) ("_law_box" : Str) [("script" : Str), ("k" : Str)] ([((2 : Nat), ([] : List Str))] : List (Nat × List Str)) := ⟨⟨[0, 1], by decide +kernel, fun _ _ _ _ _ _ us ws h1 h2 => match us, ws, h1, h2 with | [_, _], [], _, _ => rfl⟩, trivial⟩
theorem bn_32 : BndP (st 32) ("_law_take" : Str) [("tin" : Str), ("below_so" : Str)] ([((2 : Nat), ([] : List Str))] : List (Nat × List Str)) := ⟨⟨[0, 1], by decide +kernel, fun _ _ _ _ _ _ us ws h1 h2 => match us, ws, h1, h2 with | [_, _], [], _, _ => rfl⟩, trivial⟩
theorem bn_33 : BndP (st 33) ("_law_cells" : Str) [("script" : Str), ("most_so" : Str)] ([((2 : Nat), ([] : List Str))] : List (Nat × List Str)) := ⟨⟨[0, 1], by decide +kernel, fun _ _ _ _ _ _ us ws h1 h2 => match us, ws, h1, h2 with | [_, _], [], _, _ => rfl⟩, trivial⟩
theorem bn_34 : BndP (st 34) ("_law_flat" : Str) [("rows_so" : Str)] ([((1 : Nat), ([] : List Str))] : List (Nat × List Str)) := ⟨⟨[0], by decide +kernel, fun _ _ _ _ _ _ us ws h1 h2 => match us, ws, h1, h2 with | [_], [], _, _ => rfl⟩, trivial⟩
theorem bn_35 : BndP (st 35) ("_law_mark" : Str) [("move" : Str)] ([((1 : Nat), ([] : List Str))] : List (Nat × List Str)) := ⟨⟨[0], by decide +kernel, fun _ _ _ _ _ _ us ws h1 h2 => match us, ws, h1, h2 with | [_], [], _, _ => rfl⟩, trivial⟩
theorem bn_36 : BndP (st 36) ("_law_times" : Str) [("one" : Str), ("two" : Str)] ([((2 : Nat), ([] : List Str))] : List (Nat × List Str)) := ⟨⟨[0, 1], by decide +kernel, fun _ _ _ _ _ _ us ws h1 h2 => match us, ws, h1, h2 with | [_, _], [], _, _ => rfl⟩, trivial⟩
theorem bn_37 : BndP (st 37) ("_law_letter" : Str) [("k" : Str)] ([((1 : Nat), ([] : List Str))] : List (Nat × List Str)) := ⟨⟨[0], by decide +kernel, fun _ _ _ _ _ _ us ws h1 h2 => match us, ws, h1, h2 with | [_], [], _, _ => rfl⟩, trivial⟩
theorem bn_38 : BndP (st 38) ("_law_spell" : Str) [("row_so" : Str)] ([((1 : Nat), ([] : List Str))] : List (Nat × List Str)) := ⟨⟨[0], by decide +kernel, fun _ _ _ _ _ _ us ws h1 h2 => match us, ws, h1, h2 with | [_], [], _, _ => rfl⟩, trivial⟩
theorem bn_39 : BndP (st 39) ("_law_short" : Str) [("row_so" : Str)] ([((1 : Nat), ([] : List Str))] : List (Nat × List Str)) := ⟨⟨[0], by decide +kernel, fun _ _ _ _ _ _ us ws h1 h2 => match us, ws, h1, h2 with | [_], [], _, _ => rfl⟩, trivial⟩
theorem bn_40 : BndP (st 40) ("law" : Str) [("script" : Str)] ([] : List (Nat × List Str)) := trivial
theorem bnd : BndF st G.fns := ⟨bn_0, bn_1, bn_2, bn_3, bn_4, bn_5, bn_6, bn_7, bn_8, bn_9, bn_10, bn_11, bn_12, bn_13, bn_14, bn_15, bn_16, bn_17, bn_18, bn_19, bn_20, bn_21, bn_22, bn_23, bn_24, bn_25, bn_26, bn_27, bn_28, bn_29, bn_30, bn_31, bn_32, bn_33, bn_34, bn_35, bn_36, bn_37, bn_38, bn_39, bn_40, trivial⟩
section
variable {cls : Str → Addr} {P : Program} {w : World} {K : PySem.W.Frag} {mg : Str → Option Value} {base : Heap}
def P_0 : Nat → LD.Spec := fun _ => LD.vac
theorem o_0 : Oks G cls P w K mg base P_0 0 := Oks.vac
theorem c_0 : cSs G ⟨[("thing" : Str)], defScope (st 0), none, true⟩ 60 (defBody (st 0)) = some (b_is_number) := by kernel_rfl
theorem sc_0 : FnScope ([("thing" : Str)] : List Str) ([("thing" : Str)] : List Str) (defScope (st 0)) := C8.fnScope_by (by decide +kernel)
theorem mem_0 : (("is_number" : Str), 0, ([("thing" : Str)] : List Str), ([((1 : Nat), ([] : List Str))] : List (Nat × List Str))) ∈ G.fns := List.mem_of_getElem? (i := 0) rfl
def P_1 : Nat → LD.Spec := upd P_0 0 sp_is_number
theorem o_1 (t : Tab G st cls K mg) : Oks G cls P w K mg base P_1 1 := t.step (o_0) mem_0 sc_0 c_0 (m_is_number)
theorem c_1 : cSs G ⟨[("thing" : Str), ("least" : Str), ("most" : Str)], defScope (st 1), none, true⟩ 60 (defBody (st 1)) = some (b_is_within 0) := by kernel_rfl
theorem sc_1 : FnScope ([("thing" : Str), ("least" : Str), ("most" : Str)] : List Str) ([("thing" : Str), ("least" : Str), ("most" : Str)] : List Str) (defScope (st 1)) := C8.fnScope_by (by decide +kernel)
theorem mem_1 : (("is_within" : Str), 1, ([("thing" : Str), ("least" : Str), ("most" : Str)] : List Str), ([((3 : Nat), ([] : List Str))] : List (Nat × List Str))) ∈ G.fns := List.mem_of_getElem? (i := 1) rfl
def P_2 : Nat → LD.Spec := upd P_1 1 sp_is_within
theorem o_2 (t : Tab G st cls K mg) : Oks G cls P w K mg base P_2 2 := t.step (o_1 t) mem_1 sc_1 c_1 (m_is_within rfl)
theorem c_2 : cSs G ⟨[("thing" : Str), ("length" : Str)], defScope (st 2), none, true⟩ 60 (defBody (st 2)) = some (b_is_long) := by kernel_rfl
theorem sc_2 : FnScope ([("thing" : Str), ("length" : Str)] : List Str) ([("thing" : Str), ("length" : Str)] : List Str) (defScope (st 2)) := C8.fnScope_by (by decide +kernel)
theorem mem_2 : (("is_long" : Str), 2, ([("thing" : Str), ("length" : Str)] : List Str), ([((2 : Nat), ([] : List Str))] : List (Nat × List Str))) ∈ G.fns := List.mem_of_getElem? (i := 2) rfl
def P_3 : Nat → LD.Spec := upd P_2 2 sp_is_long
theorem o_3 (t : Tab G st cls K mg) : Oks G cls P w K mg base P_3 3 := t.step (o_2 t) mem_2 sc_2 c_2 (m_is_long)
theorem c_3 : cSs G ⟨[("thing" : Str), ("length" : Str), ("own" : Str)], defScope (st 3), none, true⟩ 60 (defBody (st 3)) = some (b_are_numbers 2 0) := by kernel_rfl
theorem sc_3 : FnScope ([("thing" : Str), ("length" : Str), ("own" : Str)] : List Str) ([("thing" : Str), ("length" : Str)] : List Str) (defScope (st 3)) := C8.fnScope_by (by decide +kernel)
theorem mem_3 : (("are_numbers" : Str), 3, ([("thing" : Str), ("length" : Str)] : List Str), ([((2 : Nat), ([] : List Str))] : List (Nat × List Str))) ∈ G.fns := List.mem_of_getElem? (i := 3) rfl
def P_4 : Nat → LD.Spec := upd P_3 3 sp_are_numbers
theorem o_4 (t : Tab G st cls K mg) : Oks G cls P w K mg base P_4 4 := t.step (o_3 t) mem_3 sc_3 c_3 (m_are_numbers rfl rfl)
theorem c_4 : cSs G ⟨[("value" : Str), ("own" : Str)], defScope (st 4), none, true⟩ 60 (defBody (st 4)) = some (b_tupled 4) := by kernel_rfl
theorem sc_4 : FnScope ([("value" : Str), ("own" : Str)] : List Str) ([("value" : Str)] : List Str) (defScope (st 4)) := C8.fnScope_by (by decide +kernel)
theorem mem_4 : (("tupled" : Str), 4, ([("value" : Str)] : List Str), ([((1 : Nat), ([] : List Str))] : List (Nat × List Str))) ∈ G.fns := List.mem_of_getElem? (i := 4) rfl
def P_5 : Nat → LD.Spec := upd P_4 4 (sp_tupled 0)
theorem o_5 (t : Tab G st cls K mg) : Oks G cls P w K mg base P_5 5 := t.step (o_4 t) mem_4 sc_4 c_4 (m_tupled0)
def P_6 : Nat → LD.Spec := upd P_5 4 (sp_tupled 1)
theorem o_6 (t : Tab G st cls K mg) : Oks G cls P w K mg base P_6 6 := t.step (o_5 t) mem_4 sc_4 c_4 (m_tupled (n := 0) rfl)
def P_7 : Nat → LD.Spec := upd P_6 4 (sp_tupled 2)
theorem o_7 (t : Tab G st cls K mg) : Oks G cls P w K mg base P_7 7 := t.step (o_6 t) mem_4 sc_4 c_4 (m_tupled (n := 1) rfl)
theorem c_5 : cSs G ⟨[("thing" : Str)], defScope (st 5), none, true⟩ 60 (defBody (st 5)) = some (b_is_move_of 3) := by kernel_rfl
theorem sc_5 : FnScope ([("thing" : Str)] : List Str) ([("thing" : Str)] : List Str) (defScope (st 5)) := C8.fnScope_by (by decide +kernel)
theorem mem_5 : (("is_move_of" : Str), 5, ([("thing" : Str)] : List Str), ([((1 : Nat), ([] : List Str))] : List (Nat × List Str))) ∈ G.fns := List.mem_of_getElem? (i := 5) rfl
def P_8 : Nat → LD.Spec := upd P_7 5 sp_mv_is
theorem o_8 (t : Tab G st cls K mg) : Oks G cls P w K mg base P_8 8 := t.step (o_7 t) mem_5 sc_5 c_5 (m_mv_is rfl)
theorem c_6 : cSs G ⟨[("move" : Str), ("own" : Str)], defScope (st 6), none, true⟩ 60 (defBody (st 6)) = some (b_sure_move 4 5) := by kernel_rfl
theorem sc_6 : FnScope ([("move" : Str), ("own" : Str)] : List Str) ([("move" : Str)] : List Str) (defScope (st 6)) := C8.fnScope_by (by decide +kernel)
theorem mem_6 : (("sure_move" : Str), 6, ([("move" : Str)] : List Str), ([((1 : Nat), ([] : List Str))] : List (Nat × List Str))) ∈ G.fns := List.mem_of_getElem? (i := 6) rfl
def P_9 : Nat → LD.Spec := upd P_8 6 sp_mv_sure
theorem o_9 (t : Tab G st cls K mg) : Oks G cls P w K mg base P_9 9 := t.step (o_8 t) mem_6 sc_6 c_6 (m_mv_sure (n := 1) rfl rfl)
theorem c_7 : cSs G ⟨[("table" : Str), ("own" : Str)], defScope (st 7), none, true⟩ 60 (defBody (st 7)) = some (b_signed) := by kernel_rfl
theorem sc_7 : FnScope ([("table" : Str), ("own" : Str)] : List Str) ([("table" : Str)] : List Str) (defScope (st 7)) := C8.fnScope_by (by decide +kernel)
theorem mem_7 : (("signed" : Str), 7, ([("table" : Str)] : List Str), ([((1 : Nat), ([] : List Str))] : List (Nat × List Str))) ∈ G.fns := List.mem_of_getElem? (i := 7) rfl
def P_10 : Nat → LD.Spec := upd P_9 7 sp_signed
theorem o_10 (t : Tab G st cls K mg) : Oks G cls P w K mg base P_10 10 := t.step (o_9 t) mem_7 sc_7 c_7 (m_signed)
theorem c_8 : cSs G ⟨[("one" : Str), ("other" : Str), ("a" : Str), ("b" : Str), ("c" : Str), ("d" : Str), ("e" : Str), ("f" : Str), ("g" : Str), ("h" : Str)], defScope (st 8), none, true⟩ 60 (defBody (st 8)) = some (b_product 7) := by kernel_rfl
theorem sc_8 : FnScope ([("one" : Str), ("other" : Str), ("a" : Str), ("b" : Str), ("c" : Str), ("d" : Str), ("e" : Str), ("f" : Str), ("g" : Str), ("h" : Str)] : List Str) ([("one" : Str), ("other" : Str)] : List Str) (defScope (st 8)) := C8.fnScope_by (by decide +kernel)
theorem mem_8 : (("product" : Str), 8, ([("one" : Str), ("other" : Str)] : List Str), ([((2 : Nat), ([] : List Str))] : List (Nat × List Str))) ∈ G.fns := List.mem_of_getElem? (i := 8) rfl
def P_11 : Nat → LD.Spec := upd P_10 8 sp_product
theorem o_11 (t : Tab G st cls K mg) : Oks G cls P w K mg base P_11 11 := t.step (o_10 t) mem_8 sc_8 c_8 (m_product rfl)
theorem c_9 : cSs G ⟨[("move" : Str)], defScope (st 9), none, true⟩ 60 (defBody (st 9)) = some (b_size_of) := by kernel_rfl
theorem sc_9 : FnScope ([("move" : Str)] : List Str) ([("move" : Str)] : List Str) (defScope (st 9)) := C8.fnScope_by (by decide +kernel)
theorem mem_9 : (("size_of" : Str), 9, ([("move" : Str)] : List Str), ([((1 : Nat), ([] : List Str))] : List (Nat × List Str))) ∈ G.fns := List.mem_of_getElem? (i := 9) rfl
def P_12 : Nat → LD.Spec := upd P_11 9 sp_mv_size0
theorem o_12 (t : Tab G st cls K mg) : Oks G cls P w K mg base P_12 12 := t.step (o_11 t) mem_9 sc_9 c_9 (m_mv_size0)
theorem c_10 : cSs G ⟨[("one" : Str), ("other" : Str)], defScope (st 10), none, true⟩ 60 (defBody (st 10)) = some (b_move_product 8 6) := by kernel_rfl
theorem sc_10 : FnScope ([("one" : Str), ("other" : Str)] : List Str) ([("one" : Str), ("other" : Str)] : List Str) (defScope (st 10)) := C8.fnScope_by (by decide +kernel)
theorem mem_10 : (("move_product" : Str), 10, ([("one" : Str), ("other" : Str)] : List Str), ([((2 : Nat), ([] : List Str))] : List (Nat × List Str))) ∈ G.fns := List.mem_of_getElem? (i := 10) rfl
def P_13 : Nat → LD.Spec := upd P_12 10 sp_mv_product
theorem o_13 (t : Tab G st cls K mg) : Oks G cls P w K mg base P_13 13 := t.step (o_12 t) mem_10 sc_10 c_10 (m_mv_product rfl rfl)
theorem c_11 : cSs G ⟨[("move" : Str)], defScope (st 11), none, true⟩ 60 (defBody (st 11)) = some (b_move_size 9 6) := by kernel_rfl
theorem sc_11 : FnScope ([("move" : Str)] : List Str) ([("move" : Str)] : List Str) (defScope (st 11)) := C8.fnScope_by (by decide +kernel)
theorem mem_11 : (("move_size" : Str), 11, ([("move" : Str)] : List Str), ([((0 : Nat), ([("move" : Str)] : List Str))] : List (Nat × List Str))) ∈ G.fns := List.mem_of_getElem? (i := 11) rfl
def P_14 : Nat → LD.Spec := upd P_13 11 sp_mv_size
theorem o_14 (t : Tab G st cls K mg) : Oks G cls P w K mg base P_14 14 := t.step (o_13 t) mem_11 sc_11 c_11 (m_mv_size rfl rfl)
theorem c_12 : cSs G ⟨[("thing" : Str), ("own" : Str)], defScope (st 12), none, true⟩ 60 (defBody (st 12)) = some (b_is_row_of 1) := by kernel_rfl
theorem sc_12 : FnScope ([("thing" : Str), ("own" : Str)] : List Str) ([("thing" : Str)] : List Str) (defScope (st 12)) := C8.fnScope_by (by decide +kernel)
theorem mem_12 : (("is_row_of" : Str), 12, ([("thing" : Str)] : List Str), ([((1 : Nat), ([] : List Str))] : List (Nat × List Str))) ∈ G.fns := List.mem_of_getElem? (i := 12) rfl
def P_15 : Nat → LD.Spec := upd P_14 12 (sp_row rowB)
theorem o_15 (t : Tab G st cls K mg) : Oks G cls P w K mg base P_15 15 := t.step (o_14 t) mem_12 sc_12 c_12 (m_is_row rfl)
theorem c_13 : cSs G ⟨[("thing" : Str), ("one" : Str), ("two" : Str)], defScope (st 13), none, true⟩ 60 (defBody (st 13)) = some (b_is_word_of 12) := by kernel_rfl
theorem sc_13 : FnScope ([("thing" : Str), ("one" : Str), ("two" : Str)] : List Str) ([("thing" : Str)] : List Str) (defScope (st 13)) := C8.fnScope_by (by decide +kernel)
theorem mem_13 : (("is_word_of" : Str), 13, ([("thing" : Str)] : List Str), ([((1 : Nat), ([] : List Str))] : List (Nat × List Str))) ∈ G.fns := List.mem_of_getElem? (i := 13) rfl
def P_16 : Nat → LD.Spec := upd P_15 13 (sp_row wordB)
theorem o_16 (t : Tab G st cls K mg) : Oks G cls P w K mg base P_16 16 := t.step (o_15 t) mem_13 sc_13 c_13 (m_is_word_of rfl)
theorem c_14 : cSs G ⟨[("row" : Str), ("own" : Str)], defScope (st 14), none, true⟩ 60 (defBody (st 14)) = some (b_sure_row 4 12) := by kernel_rfl
theorem sc_14 : FnScope ([("row" : Str), ("own" : Str)] : List Str) ([("row" : Str)] : List Str) (defScope (st 14)) := C8.fnScope_by (by decide +kernel)
theorem mem_14 : (("sure_row" : Str), 14, ([("row" : Str)] : List Str), ([((1 : Nat), ([] : List Str))] : List (Nat × List Str))) ∈ G.fns := List.mem_of_getElem? (i := 14) rfl
def P_17 : Nat → LD.Spec := upd P_16 14 (sp_sure rowB)
theorem o_17 (t : Tab G st cls K mg) : Oks G cls P w K mg base P_17 17 := t.step (o_16 t) mem_14 sc_14 c_14 (m_sure_row (n := 1) rfl rfl)
theorem c_15 : cSs G ⟨[("word" : Str), ("own" : Str)], defScope (st 15), none, true⟩ 60 (defBody (st 15)) = some (b_sure_word 4 13) := by kernel_rfl
theorem sc_15 : FnScope ([("word" : Str), ("own" : Str)] : List Str) ([("word" : Str)] : List Str) (defScope (st 15)) := C8.fnScope_by (by decide +kernel)
theorem mem_15 : (("sure_word" : Str), 15, ([("word" : Str)] : List Str), ([((1 : Nat), ([] : List Str))] : List (Nat × List Str))) ∈ G.fns := List.mem_of_getElem? (i := 15) rfl
def P_18 : Nat → LD.Spec := upd P_17 15 (sp_sure wordB)
theorem o_18 (t : Tab G st cls K mg) : Oks G cls P w K mg base P_18 18 := t.step (o_17 t) mem_15 sc_15 c_15 (m_sure_word (n := 1) rfl rfl)
theorem c_16 : cSs G ⟨[("row" : Str), ("found" : Str), ("own" : Str), ("both" : Str)], defScope (st 16), none, true⟩ 60 (defBody (st 16)) = some (b_shortest) := by kernel_rfl
theorem sc_16 : FnScope ([("row" : Str), ("found" : Str), ("own" : Str), ("both" : Str)] : List Str) ([("row" : Str)] : List Str) (defScope (st 16)) := C8.fnScope_by (by decide +kernel)
theorem mem_16 : (("shortest" : Str), 16, ([("row" : Str)] : List Str), ([((1 : Nat), ([] : List Str))] : List (Nat × List Str))) ∈ G.fns := List.mem_of_getElem? (i := 16) rfl
def P_19 : Nat → LD.Spec := upd P_18 16 sp_shortest
theorem o_19 (t : Tab G st cls K mg) : Oks G cls P w K mg base P_19 19 := t.step (o_18 t) mem_16 sc_16 c_16 (m_shortest)
theorem c_17 : cSs G ⟨[("word" : Str), ("own" : Str)], defScope (st 17), none, true⟩ 60 (defBody (st 17)) = some (b_back_of) := by kernel_rfl
theorem sc_17 : FnScope ([("word" : Str), ("own" : Str)] : List Str) ([("word" : Str)] : List Str) (defScope (st 17)) := C8.fnScope_by (by decide +kernel)
theorem mem_17 : (("back_of" : Str), 17, ([("word" : Str)] : List Str), ([((1 : Nat), ([] : List Str))] : List (Nat × List Str))) ∈ G.fns := List.mem_of_getElem? (i := 17) rfl
def P_20 : Nat → LD.Spec := upd P_19 17 sp_back
theorem o_20 (t : Tab G st cls K mg) : Oks G cls P w K mg base P_20 20 := t.step (o_19 t) mem_17 sc_17 c_17 (m_back_of)
theorem c_18 : cSs G ⟨[("row" : Str), ("found" : Str), ("own" : Str)], defScope (st 18), none, true⟩ 60 (defBody (st 18)) = some (b_move_in 8) := by kernel_rfl
theorem sc_18 : FnScope ([("row" : Str), ("found" : Str), ("own" : Str)] : List Str) ([("row" : Str)] : List Str) (defScope (st 18)) := C8.fnScope_by (by decide +kernel)
theorem mem_18 : (("move_in" : Str), 18, ([("row" : Str)] : List Str), ([((1 : Nat), ([] : List Str))] : List (Nat × List Str))) ∈ G.fns := List.mem_of_getElem? (i := 18) rfl
def P_21 : Nat → LD.Spec := upd P_20 18 sp_move_in
theorem o_21 (t : Tab G st cls K mg) : Oks G cls P w K mg base P_21 21 := t.step (o_20 t) mem_18 sc_18 c_18 (m_move_in rfl)
theorem c_19 : cSs G ⟨[("word" : Str), ("own" : Str), ("place" : Str)], defScope (st 19), none, true⟩ 60 (defBody (st 19)) = some (b_round_of 16) := by kernel_rfl
theorem sc_19 : FnScope ([("word" : Str), ("own" : Str), ("place" : Str)] : List Str) ([("word" : Str)] : List Str) (defScope (st 19)) := C8.fnScope_by (by decide +kernel)
theorem mem_19 : (("round_of" : Str), 19, ([("word" : Str)] : List Str), ([((1 : Nat), ([] : List Str))] : List (Nat × List Str))) ∈ G.fns := List.mem_of_getElem? (i := 19) rfl
def P_22 : Nat → LD.Spec := upd P_21 19 sp_round
theorem o_22 (t : Tab G st cls K mg) : Oks G cls P w K mg base P_22 22 := t.step (o_21 t) mem_19 sc_19 c_19 (m_round)
theorem c_20 : cSs G ⟨[("thing" : Str)], defScope (st 20), none, true⟩ 60 (defBody (st 20)) = some (b_is_word 13) := by kernel_rfl
theorem sc_20 : FnScope ([("thing" : Str)] : List Str) ([("thing" : Str)] : List Str) (defScope (st 20)) := C8.fnScope_by (by decide +kernel)
theorem mem_20 : (("is_word" : Str), 20, ([("thing" : Str)] : List Str), ([((0 : Nat), ([("thing" : Str)] : List Str)), ((1 : Nat), ([] : List Str))] : List (Nat × List Str))) ∈ G.fns := List.mem_of_getElem? (i := 20) rfl
def P_23 : Nat → LD.Spec := upd P_22 20 (sp_row wordB)
theorem o_23 (t : Tab G st cls K mg) : Oks G cls P w K mg base P_23 23 := t.step (o_22 t) mem_20 sc_20 c_20 (m_is_word rfl)
theorem c_21 : cSs G ⟨[("row" : Str)], defScope (st 21), none, true⟩ 60 (defBody (st 21)) = some (b_move_by 18 14) := by kernel_rfl
theorem sc_21 : FnScope ([("row" : Str)] : List Str) ([("row" : Str)] : List Str) (defScope (st 21)) := C8.fnScope_by (by decide +kernel)
theorem mem_21 : (("move_by" : Str), 21, ([("row" : Str)] : List Str), ([((0 : Nat), ([("row" : Str)] : List Str)), ((1 : Nat), ([] : List Str))] : List (Nat × List Str))) ∈ G.fns := List.mem_of_getElem? (i := 21) rfl
def P_24 : Nat → LD.Spec := upd P_23 21 sp_move_in
theorem o_24 (t : Tab G st cls K mg) : Oks G cls P w K mg base P_24 24 := t.step (o_23 t) mem_21 sc_21 c_21 (m_move_by rfl rfl)
theorem c_22 : cSs G ⟨[("row" : Str)], defScope (st 22), none, true⟩ 60 (defBody (st 22)) = some (b_shortened 16 14) := by kernel_rfl
theorem sc_22 : FnScope ([("row" : Str)] : List Str) ([("row" : Str)] : List Str) (defScope (st 22)) := C8.fnScope_by (by decide +kernel)
theorem mem_22 : (("shortened" : Str), 22, ([("row" : Str)] : List Str), ([((0 : Nat), ([("row" : Str)] : List Str))] : List (Nat × List Str))) ∈ G.fns := List.mem_of_getElem? (i := 22) rfl
def P_25 : Nat → LD.Spec := upd P_24 22 sp_shortened
theorem o_25 (t : Tab G st cls K mg) : Oks G cls P w K mg base P_25 25 := t.step (o_24 t) mem_22 sc_22 c_22 (m_shortened rfl rfl)
theorem c_23 : cSs G ⟨[("one" : Str), ("other" : Str), ("near" : Str), ("far" : Str)], defScope (st 23), none, true⟩ 60 (defBody (st 23)) = some (b_word_behind 15 16) := by kernel_rfl
theorem sc_23 : FnScope ([("one" : Str), ("other" : Str), ("near" : Str), ("far" : Str)] : List Str) ([("one" : Str), ("other" : Str)] : List Str) (defScope (st 23)) := C8.fnScope_by (by decide +kernel)
theorem mem_23 : (("word_behind" : Str), 23, ([("one" : Str), ("other" : Str)] : List Str), ([((0 : Nat), ([("one" : Str), ("other" : Str)] : List Str)), ((2 : Nat), ([] : List Str))] : List (Nat × List Str))) ∈ G.fns := List.mem_of_getElem? (i := 23) rfl
def P_26 : Nat → LD.Spec := upd P_25 23 sp_behind
theorem o_26 (t : Tab G st cls K mg) : Oks G cls P w K mg base P_26 26 := t.step (o_25 t) mem_23 sc_23 c_23 (m_behind rfl rfl)
theorem c_24 : cSs G ⟨[("word" : Str)], defScope (st 24), none, true⟩ 60 (defBody (st 24)) = some (b_word_back 17 15) := by kernel_rfl
theorem sc_24 : FnScope ([("word" : Str)] : List Str) ([("word" : Str)] : List Str) (defScope (st 24)) := C8.fnScope_by (by decide +kernel)
theorem mem_24 : (("word_back" : Str), 24, ([("word" : Str)] : List Str), ([((0 : Nat), ([("word" : Str)] : List Str))] : List (Nat × List Str))) ∈ G.fns := List.mem_of_getElem? (i := 24) rfl
def P_27 : Nat → LD.Spec := upd P_26 24 sp_word_back
theorem o_27 (t : Tab G st cls K mg) : Oks G cls P w K mg base P_27 27 := t.step (o_26 t) mem_24 sc_24 c_24 (m_word_back rfl rfl)
theorem c_25 : cSs G ⟨[("length" : Str), ("one" : Str), ("two" : Str), ("lap" : Str)], defScope (st 25), none, true⟩ 60 (defBody (st 25)) = some (b_how_many_words 1) := by kernel_rfl
theorem sc_25 : FnScope ([("length" : Str), ("one" : Str), ("two" : Str), ("lap" : Str)] : List Str) ([("length" : Str)] : List Str) (defScope (st 25)) := C8.fnScope_by (by decide +kernel)
theorem mem_25 : (("how_many_words" : Str), 25, ([("length" : Str)] : List Str), ([((0 : Nat), ([("length" : Str)] : List Str)), ((1 : Nat), ([] : List Str))] : List (Nat × List Str))) ∈ G.fns := List.mem_of_getElem? (i := 25) rfl
def P_28 : Nat → LD.Spec := upd P_27 25 sp_hmw
theorem o_28 (t : Tab G st cls K mg) : Oks G cls P w K mg base P_28 28 := t.step (o_27 t) mem_25 sc_25 c_25 (m_hmw rfl)
theorem c_26 : cSs G ⟨[("word" : Str)], defScope (st 26), none, true⟩ 60 (defBody (st 26)) = some (b_round_word 19 15) := by kernel_rfl
theorem sc_26 : FnScope ([("word" : Str)] : List Str) ([("word" : Str)] : List Str) (defScope (st 26)) := C8.fnScope_by (by decide +kernel)
theorem mem_26 : (("round_word" : Str), 26, ([("word" : Str)] : List Str), ([((0 : Nat), ([("word" : Str)] : List Str))] : List (Nat × List Str))) ∈ G.fns := List.mem_of_getElem? (i := 26) rfl
def P_29 : Nat → LD.Spec := upd P_28 26 sp_roundw
theorem o_29 (t : Tab G st cls K mg) : Oks G cls P w K mg base P_29 29 := t.step (o_28 t) mem_26 sc_26 c_26 (m_round_word rfl rfl)
theorem c_27 : cSs G ⟨[("word" : Str), ("own" : Str)], defScope (st 27), none, true⟩ 60 (defBody (st 27)) = some (b_class_move 4 13 19 18) := by kernel_rfl
theorem sc_27 : FnScope ([("word" : Str), ("own" : Str)] : List Str) ([("word" : Str)] : List Str) (defScope (st 27)) := C8.fnScope_by (by decide +kernel)
theorem mem_27 : (("class_move" : Str), 27, ([("word" : Str)] : List Str), ([((1 : Nat), ([] : List Str)), ((0 : Nat), ([("word" : Str)] : List Str))] : List (Nat × List Str))) ∈ G.fns := List.mem_of_getElem? (i := 27) rfl
def P_30 : Nat → LD.Spec := upd P_29 27 sp_class_move
theorem o_30 (t : Tab G st cls K mg) : Oks G cls P w K mg base P_30 30 := t.step (o_29 t) mem_27 sc_27 c_27 (m_class_move (n := 1) rfl rfl rfl rfl)
theorem c_29 : cSs G ⟨[("word" : Str), ("length" : Str)], defScope (st 29), none, true⟩ 60 (defBody (st 29)) = some (b_repeats_of) := by kernel_rfl
theorem sc_29 : FnScope ([("word" : Str), ("length" : Str)] : List Str) ([("word" : Str)] : List Str) (defScope (st 29)) := C8.fnScope_by (by decide +kernel)
theorem mem_29 : (("repeats_of" : Str), 29, ([("word" : Str)] : List Str), ([((1 : Nat), ([] : List Str))] : List (Nat × List Str))) ∈ G.fns := List.mem_of_getElem? (i := 29) rfl
def P_31 : Nat → LD.Spec := upd P_30 29 sp_repeats
theorem o_31 (t : Tab G st cls K mg) : Oks G cls P w K mg base P_31 31 := t.step (o_30 t) mem_29 sc_29 c_29 (m_repeats)
theorem c_28 : cSs G ⟨[("word" : Str), ("own" : Str)], defScope (st 28), none, true⟩ 60 (defBody (st 28)) = some (b_how_often 4 13 19 29) := by kernel_rfl
theorem sc_28 : FnScope ([("word" : Str), ("own" : Str)] : List Str) ([("word" : Str)] : List Str) (defScope (st 28)) := C8.fnScope_by (by decide +kernel)
theorem mem_28 : (("how_often" : Str), 28, ([("word" : Str)] : List Str), ([((0 : Nat), ([("word" : Str)] : List Str))] : List (Nat × List Str))) ∈ G.fns := List.mem_of_getElem? (i := 28) rfl
def P_32 : Nat → LD.Spec := upd P_31 28 sp_how_often
theorem o_32 (t : Tab G st cls K mg) : Oks G cls P w K mg base P_32 32 := t.step (o_31 t) mem_28 sc_28 c_28 (m_how_often (n := 1) rfl rfl rfl rfl)
theorem c_30 : cSs G ⟨[("word" : Str), ("own" : Str)], defScope (st 30), none, true⟩ 60 (defBody (st 30)) = some (b_sizes_by 4 13 9 18) := by kernel_rfl
theorem sc_30 : FnScope ([("word" : Str), ("own" : Str)] : List Str) ([("word" : Str)] : List Str) (defScope (st 30)) := C8.fnScope_by (by decide +kernel)
theorem mem_30 : (("sizes_by" : Str), 30, ([("word" : Str)] : List Str), ([((0 : Nat), ([("word" : Str)] : List Str))] : List (Nat × List Str))) ∈ G.fns := List.mem_of_getElem? (i := 30) rfl
def P_33 : Nat → LD.Spec := upd P_32 30 sp_sizes_by
theorem o_33 (t : Tab G st cls K mg) : Oks G cls P w K mg base P_33 33 := t.step (o_32 t) mem_30 sc_30 c_30 (m_sizes_by (n := 1) rfl rfl rfl rfl)
theorem c_31 : cSs G ⟨[("script" : Str), ("k" : Str), ("bit_so" : Str)], defScope (st 31), none, true⟩ 60 (defBody (st 31)) = some (b__law_box 9284093) := by kernel_rfl
theorem sc_31 : FnScope ([("script" : Str), ("k" : Str), ("bit_so" : Str)] : List Str) ([("script" : Str), ("k" : Str)] : List Str) (defScope (st 31)) := C8.fnScope_by (by decide +kernel)
theorem mem_31 : (("_law_box" : Str), 31, ([("script" : Str), ("k" : Str)] : List Str), ([((2 : Nat), ([] : List Str))] : List (Nat × List Str))) ∈ G.fns := List.mem_of_getElem? (i := 31) rfl
def P_34 : Nat → LD.Spec := upd P_33 31 sp_box
theorem o_34 (t : Tab G st cls K mg) : Oks G cls P w K mg base P_34 34 := t.step (o_33 t) mem_31 sc_31 c_31 (m_box (by decide) (by decide))
theorem c_32 : cSs G ⟨[("tin" : Str), ("below_so" : Str), ("drawn_so" : Str), ("once_so" : Str), ("wide_so" : Str), ("twice_so" : Str)], defScope (st 32), none, true⟩ 60 (defBody (st 32)) = some (b__law_take) := by kernel_rfl
theorem sc_32 : FnScope ([("tin" : Str), ("below_so" : Str), ("drawn_so" : Str), ("once_so" : Str), ("wide_so" : Str), ("twice_so" : Str)] : List Str) ([("tin" : Str), ("below_so" : Str)] : List Str) (defScope (st 32)) := C8.fnScope_by (by decide +kernel)
theorem mem_32 : (("_law_take" : Str), 32, ([("tin" : Str), ("below_so" : Str)] : List Str), ([((2 : Nat), ([] : List Str))] : List (Nat × List Str))) ∈ G.fns := List.mem_of_getElem? (i := 32) rfl
def P_35 : Nat → LD.Spec := upd P_34 32 sp_take
theorem o_35 (t : Tab G st cls K mg) : Oks G cls P w K mg base P_35 35 := t.step (o_34 t) mem_32 sc_32 c_32 (m_take)
theorem c_33 : cSs G ⟨[("script" : Str), ("most_so" : Str), ("cells_so" : Str), ("k" : Str), ("bit_so" : Str), ("at_so" : Str)], defScope (st 33), none, true⟩ 60 (defBody (st 33)) = some (b__law_cells) := by kernel_rfl
theorem sc_33 : FnScope ([("script" : Str), ("most_so" : Str), ("cells_so" : Str), ("k" : Str), ("bit_so" : Str), ("at_so" : Str)] : List Str) ([("script" : Str), ("most_so" : Str)] : List Str) (defScope (st 33)) := C8.fnScope_by (by decide +kernel)
theorem mem_33 : (("_law_cells" : Str), 33, ([("script" : Str), ("most_so" : Str)] : List Str), ([((2 : Nat), ([] : List Str))] : List (Nat × List Str))) ∈ G.fns := List.mem_of_getElem? (i := 33) rfl
def P_36 : Nat → LD.Spec := upd P_35 33 sp_cells
theorem o_36 (t : Tab G st cls K mg) : Oks G cls P w K mg base P_36 36 := t.step (o_35 t) mem_33 sc_33 c_33 (m_cells)
theorem c_34 : cSs G ⟨[("rows_so" : Str), ("found" : Str), ("own" : Str)], defScope (st 34), none, true⟩ 60 (defBody (st 34)) = some (b__law_flat) := by kernel_rfl
theorem sc_34 : FnScope ([("rows_so" : Str), ("found" : Str), ("own" : Str)] : List Str) ([("rows_so" : Str)] : List Str) (defScope (st 34)) := C8.fnScope_by (by decide +kernel)
theorem mem_34 : (("_law_flat" : Str), 34, ([("rows_so" : Str)] : List Str), ([((1 : Nat), ([] : List Str))] : List (Nat × List Str))) ∈ G.fns := List.mem_of_getElem? (i := 34) rfl
def P_37 : Nat → LD.Spec := upd P_36 34 sp_flat
theorem o_37 (t : Tab G st cls K mg) : Oks G cls P w K mg base P_37 37 := t.step (o_36 t) mem_34 sc_34 c_34 (m_flat)
theorem c_35 : cSs G ⟨[("move" : Str), ("own" : Str)], defScope (st 35), none, true⟩ 60 (defBody (st 35)) = some (b__law_mark) := by kernel_rfl
theorem sc_35 : FnScope ([("move" : Str), ("own" : Str)] : List Str) ([("move" : Str)] : List Str) (defScope (st 35)) := C8.fnScope_by (by decide +kernel)
theorem mem_35 : (("_law_mark" : Str), 35, ([("move" : Str)] : List Str), ([((1 : Nat), ([] : List Str))] : List (Nat × List Str))) ∈ G.fns := List.mem_of_getElem? (i := 35) rfl
def P_38 : Nat → LD.Spec := upd P_37 35 sp_signed
theorem o_38 (t : Tab G st cls K mg) : Oks G cls P w K mg base P_38 38 := t.step (o_37 t) mem_35 sc_35 c_35 (m_mark)
theorem c_36 : cSs G ⟨[("one" : Str), ("two" : Str)], defScope (st 36), none, true⟩ 60 (defBody (st 36)) = some (b__law_times 35) := by kernel_rfl
theorem sc_36 : FnScope ([("one" : Str), ("two" : Str)] : List Str) ([("one" : Str), ("two" : Str)] : List Str) (defScope (st 36)) := C8.fnScope_by (by decide +kernel)
theorem mem_36 : (("_law_times" : Str), 36, ([("one" : Str), ("two" : Str)] : List Str), ([((2 : Nat), ([] : List Str))] : List (Nat × List Str))) ∈ G.fns := List.mem_of_getElem? (i := 36) rfl
def P_39 : Nat → LD.Spec := upd P_38 36 sp_product
theorem o_39 (t : Tab G st cls K mg) : Oks G cls P w K mg base P_39 39 := t.step (o_38 t) mem_36 sc_36 c_36 (m_times4 rfl)
theorem c_37 : cSs G ⟨[("k" : Str)], defScope (st 37), none, true⟩ 60 (defBody (st 37)) = some (b__law_letter) := by kernel_rfl
theorem sc_37 : FnScope ([("k" : Str)] : List Str) ([("k" : Str)] : List Str) (defScope (st 37)) := C8.fnScope_by (by decide +kernel)
theorem mem_37 : (("_law_letter" : Str), 37, ([("k" : Str)] : List Str), ([((1 : Nat), ([] : List Str))] : List (Nat × List Str))) ∈ G.fns := List.mem_of_getElem? (i := 37) rfl
def P_40 : Nat → LD.Spec := upd P_39 37 sp_letter
theorem o_40 (t : Tab G st cls K mg) : Oks G cls P w K mg base P_40 40 := t.step (o_39 t) mem_37 sc_37 c_37 (m_letter)
theorem c_38 : cSs G ⟨[("row_so" : Str), ("found" : Str), ("own" : Str)], defScope (st 38), none, true⟩ 60 (defBody (st 38)) = some (b__law_spell 36 37) := by kernel_rfl
theorem sc_38 : FnScope ([("row_so" : Str), ("found" : Str), ("own" : Str)] : List Str) ([("row_so" : Str)] : List Str) (defScope (st 38)) := C8.fnScope_by (by decide +kernel)
theorem mem_38 : (("_law_spell" : Str), 38, ([("row_so" : Str)] : List Str), ([((1 : Nat), ([] : List Str))] : List (Nat × List Str))) ∈ G.fns := List.mem_of_getElem? (i := 38) rfl
def P_41 : Nat → LD.Spec := upd P_40 38 sp_move_in
theorem o_41 (t : Tab G st cls K mg) : Oks G cls P w K mg base P_41 41 := t.step (o_40 t) mem_38 sc_38 c_38 (m_spell rfl rfl)
theorem c_39 : cSs G ⟨[("row_so" : Str), ("found" : Str), ("own" : Str), ("both_so" : Str)], defScope (st 39), none, true⟩ 60 (defBody (st 39)) = some (b__law_short) := by kernel_rfl
theorem sc_39 : FnScope ([("row_so" : Str), ("found" : Str), ("own" : Str), ("both_so" : Str)] : List Str) ([("row_so" : Str)] : List Str) (defScope (st 39)) := C8.fnScope_by (by decide +kernel)
theorem mem_39 : (("_law_short" : Str), 39, ([("row_so" : Str)] : List Str), ([((1 : Nat), ([] : List Str))] : List (Nat × List Str))) ∈ G.fns := List.mem_of_getElem? (i := 39) rfl
def P_42 : Nat → LD.Spec := upd P_41 39 sp_shortest
theorem o_42 (t : Tab G st cls K mg) : Oks G cls P w K mg base P_42 42 := t.step (o_41 t) mem_39 sc_39 c_39 (m_lshort)
theorem c_40 : cSs G ⟨[("script" : Str), ("tin" : Str), ("many" : Str), ("row_so" : Str), ("due" : Str), ("back_so" : Str), ("cut_so" : Str), ("part_so" : Str), ("often_so" : Str), ("ring_so" : Str), ("least_so" : Str), ("length" : Str), ("own" : Str), ("k" : Str)], defScope (st 40), none, true⟩ 60 (defBody (st 40)) = some (b_law 31 33 32 39 22 20 24 23 10 21 34 26 28 30 11 27 38 25) := by kernel_rfl
theorem sc_40 : FnScope ([("script" : Str), ("tin" : Str), ("many" : Str), ("row_so" : Str), ("due" : Str), ("back_so" : Str), ("cut_so" : Str), ("part_so" : Str), ("often_so" : Str), ("ring_so" : Str), ("least_so" : Str), ("length" : Str), ("own" : Str), ("k" : Str)] : List Str) ([("script" : Str)] : List Str) (defScope (st 40)) := C8.fnScope_by (by decide +kernel)
theorem mem_40 : (("law" : Str), 40, ([("script" : Str)] : List Str), ([] : List (Nat × List Str))) ∈ G.fns := List.mem_of_getElem? (i := 40) rfl
def P_43 : Nat → LD.Spec := upd P_42 40 sp_law
theorem o_43 (t : Tab G st cls K mg) : Oks G cls P w K mg base P_43 43 := t.step (o_42 t) mem_40 sc_40 c_40 (m_law93 ⟨rfl, rfl, rfl, rfl, rfl, rfl, rfl, rfl, rfl, rfl, rfl, rfl, rfl, rfl, rfl, rfl, rfl, rfl⟩)
end
def loose : List Str := ([("is_number" : Str), ("is_within" : Str), ("is_long" : Str), ("are_numbers" : Str), ("tupled" : Str), ("is_move_of" : Str), ("sure_move" : Str), ("signed" : Str), ("product" : Str), ("size_of" : Str), ("move_product" : Str), ("move_size" : Str), ("is_row_of" : Str), ("is_word_of" : Str), ("sure_row" : Str), ("sure_word" : Str), ("shortest" : Str), ("back_of" : Str), ("move_in" : Str), ("round_of" : Str), ("is_word" : Str), ("move_by" : Str), ("shortened" : Str), ("word_behind" : Str), ("word_back" : Str), ("how_many_words" : Str), ("round_word" : Str), ("class_move" : Str), ("how_often" : Str), ("repeats_of" : Str)] : List Str) ++ ([("sizes_by" : Str), ("_law_box" : Str), ("_law_take" : Str), ("_law_cells" : Str), ("_law_flat" : Str), ("_law_mark" : Str), ("_law_times" : Str), ("_law_letter" : Str), ("_law_spell" : Str), ("_law_short" : Str), ("Unfit" : Str), ("STILL" : Str), ("TURN" : Str), ("THREE" : Str), ("THREE_BACK" : Str), ("LETTERS" : Str)] : List Str)
abbrev R : PySem.W.OpenRow := PySem.W.OpenLaw.row PySem.Challenge.rw_tablelots_k93_across_long_rows_of_letter
abbrev fa : List Fa := faOf G
abbrev fn : List DefD := G.fns.map (mkD st)
abbrev hk : PySem.W.Hook := hookE 5 fa fn (exB G)
def ob (s : PySem.W.SharedT) : AlD × Bool := obsE 5 fa fn (exB G) (HandSHeadRun.getT s)
theorem ob_eq (s : PySem.W.SharedT) : ob s = hk.obs s.abs := obsE_eq (HandSHeadRun.getT_eq s)
theorem run (w : World) : HandSHeadRun.RunEq R (PySem.W.view R.prog [52]) hk ob 4000 loose w := by_FT (p := fun w => HandSHeadRun.RunEq R (PySem.W.view R.prog [52]) hk ob 4000 loose w) (fun w b => by
  intro os
  cases b
  · kernel_rfl
  · kernel_rfl) w
theorem facts {w : World} {h : Heap} {mg : Str → Option Value} {f : Addr} (Y : hk.says w h) (N : h.Ns mainGlobals mg) (hfa : mg ("law" : Str) = some (.ref f)) :
    ∃ (K : PySem.W.Frag) (fd : FuncData) (sp : Sp), K.In h ∧ (∀ (s : Shared) (u : Value), BindsTo s fd ⟨[u], []⟩ [("script", u)]) ∧
      (∀ (H : Hp) (a : Addr) (ns : List Int), ns.length ≤ 63 → (∀ z ∈ ns, Builtin.Int.intBits z ≤ 1048576) → SqL K H a (ns.map V.int) → sp [.ref a] H (fun v _ => v = .bl true) fun _ _ _ => False) ∧
      ∀ base : Heap, K.In base → base.Ns mainGlobals mg → FnOk PySem.Challenge.pw_tablelots_k93_across_long_rows_of_letter w K mg base (L2.CX PySem.Challenge.pw_tablelots_k93_across_long_rows_of_letter w) 43 f fd ["script"] sp := by
  obtain ⟨K, KX, c, ex⟩ := Y
  have t : Tab G st (ga K) K mg := tab_of KX N c ex (by decide +kernel) bnd
  have g := t.glo _ mem_40
  dsimp only at g
  have e := hfa.symm.trans g
  cases e
  refine ⟨K, fdAt K (fAd K (("law" : Str), none)), spD K (ga K) 1 sp_law, KX, fun s u => ?_, fun H a ns h1 h2 hS => law_in h1 h2 hS, fun base _ _ => ?_⟩
  · have F := t.fn _ mem_40
    exact FunD.bindsA (ps := ["script"]) F (fun _ _ _ _ _ _ us hl => match us, hl with | [_], _ => rfl) s [u] rfl
  · exact (o_43 t) 40
end Fin_k93
open PySem PySem.W PySem.Calls PyProof.Rows
theorem PySem.Challenge.cw_tablelots_k93_across_long_rows_of_letter_holds : PySem.Challenge.rw_tablelots_k93_across_long_rows_of_letter.Holds := by
  w_on; o_law
  refine HandSHeadRun.head_any (r := OpenLaw.row PySem.Challenge.rw_tablelots_k93_across_long_rows_of_letter) (q := view (OpenLaw.row PySem.Challenge.rw_tablelots_k93_across_long_rows_of_letter).prog [52]) (H := Fin_k93.hk) (ob := Fin_k93.ob) (M := 4000) (loose := Fin_k93.loose) (d := HandSHeadRun.topDef (OpenLaw.row PySem.Challenge.rw_tablelots_k93_across_long_rows_of_letter).prog 52) (kwd := []) Fin_k93.ob_eq
    (by kernel_rfl) (fun s => by kernel_rfl) Fin_k93.run (by kernel_rfl) (by kernel_rfl) (by kernel_rfl) (by rfl) (by first | assumption | decide +kernel) (by decide +kernel) ⟨rfl, rfl, rfl, rfl, rfl, by decide +kernel⟩ ?hw ?hc
  case hw => w_witness2
  case hc =>
    refine LD.walk_EB (l := PySem.Challenge.rw_tablelots_k93_across_long_rows_of_letter) (n := 63) (k := 43) (x := "script") rfl (by decide) (by kernel_rfl) ⟨rfl, by decide, by decide⟩ ?F
    intro w mg fa h Y G hmg0
    have hmg : mg ("law" : PySem.Str) = some (.ref fa) := by
      have e : (HandSHeadRun.topDef (OpenLaw.row PySem.Challenge.rw_tablelots_k93_across_long_rows_of_letter).prog 52).name = ("law" : PySem.Str) := by kernel_rfl
      rw [← e]
      exact hmg0
    exact Fin_k93.facts Y G hmg
