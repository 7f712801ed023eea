import PyProof.Rows.All
import Wide.All
import OpenK.AllK
import Wide.FinOn
import HandS.ForMost
import HandS.Wide
import HandS.Deep
import HandS.TupAny
import HandS.TupMul
import HandS.TupLe
import HandS.Style
import HandS.Walk
import HandS.Rev
import HandS.Zip
import HandS.Conv
import PyProof.P3In
import PyProof.FactsAll.tuple_2
import HandS.SetFor
import HandS.RevTup
import KE.KDictList
import PyProof.ReprRoads
import PyProof.CallFns
import KE.GoesEnum
import HandS.Flow
import PyProof.ReprBulk
import PyProof.Rows.RegStrFacts
import PySem.Challenge.RW_hitsalike_k56_whole_next_weights
set_option Elab.async false
set_option linter.all false
set_option maxRecDepth 100000
set_option maxHeartbeats 4000000
namespace PV
open PySem PySem.Spec PyProof.Rows L2
/-! ## values, memory, results -/
inductive D where
  | non
  | bl (b : Bool)
  | int (i : Int)
  | str (x : Str)
  | tup (ds : List D)
  | lst (ds : List D)
  | scr (ds : List D)
  | ref (i : Nat)
inductive Cell where
  | lst (ds : List D)
abbrev Mem := List Cell
inductive Out (α : Type) where
  | ok (a : α) (μ : Mem)
  | err (c : Nat) (fs : List D) (μ : Mem)
  | bad
def Out.bind {α β : Type} (o : Out α) (f : α → Mem → Out β) : Out β :=
  match o with
  | .ok a μ => f a μ
  | .err c fs μ => .err c fs μ
  | .bad => .bad
@[simp] theorem bind_ok {α β : Type} (a : α) (μ : Mem) (f : α → Mem → Out β) : (Out.ok a μ).bind f = f a μ := rfl
@[simp] theorem bind_err {α β : Type} (c : Nat) (fs : List D) (μ : Mem) (f : α → Mem → Out β) : (Out.err c fs μ).bind f = .err c fs μ := rfl
@[simp] theorem bind_bad {α β : Type} (f : α → Mem → Out β) : (Out.bad : Out α).bind f = .bad := rfl
abbrev EnvD := List (Option D)

mutual
def D.beq : D → D → Bool
  | .non, .non => true
  | .bl a, .bl b => a == b
  | .int a, .int b => a == b
  | .str a, .str b => a == b
  | .tup a, .tup b => D.beqL a b
  | .lst a, .lst b => D.beqL a b
  | .scr a, .scr b => D.beqL a b
  | .ref a, .ref b => a == b
  | _, _ => false
def D.beqL : List D → List D → Bool
  | [], [] => true
  | a :: r, b :: t => D.beq a b && D.beqL r t
  | _, _ => false
end
mutual
theorem D.eq_of_beq : ∀ (a b : D), D.beq a b = true → a = b
  | .non, b, h => by cases b <;> simp_all [D.beq]
  | .bl _, b, h => by cases b <;> simp_all [D.beq]
  | .int _, b, h => by cases b <;> simp_all [D.beq]
  | .str _, b, h => by cases b <;> simp_all [D.beq]
  | .tup x, b, h => by
    cases b <;> simp only [D.beq, Bool.false_eq_true] at h
    rw [D.eq_of_beqL x _ h]
  | .lst x, b, h => by
    cases b <;> simp only [D.beq, Bool.false_eq_true] at h
    rw [D.eq_of_beqL x _ h]
  | .scr x, b, h => by
    cases b <;> simp only [D.beq, Bool.false_eq_true] at h
    rw [D.eq_of_beqL x _ h]
  | .ref _, b, h => by cases b <;> simp_all [D.beq]
theorem D.eq_of_beqL : ∀ (a b : List D), D.beqL a b = true → a = b
  | [], [], _ => rfl
  | [], _ :: _, h => by simp [D.beqL] at h
  | _ :: _, [], h => by simp [D.beqL] at h
  | x :: r, y :: t, h => by
    simp only [D.beqL, Bool.and_eq_true] at h
    rw [D.eq_of_beq x y h.1, D.eq_of_beqL r t h.2]
end
mutual
theorem D.beq_refl : ∀ a : D, D.beq a a = true
  | .non => rfl
  | .bl b => by simp [D.beq]
  | .int _ => by simp [D.beq]
  | .str _ => by simp [D.beq]
  | .tup x => by simp only [D.beq]; exact D.beqL_refl x
  | .lst x => by simp only [D.beq]; exact D.beqL_refl x
  | .scr x => by simp only [D.beq]; exact D.beqL_refl x
  | .ref _ => by simp [D.beq]
theorem D.beqL_refl : ∀ a : List D, D.beqL a a = true
  | [] => rfl
  | x :: r => by simp only [D.beqL, D.beq_refl x, D.beqL_refl r, Bool.and_self]
end

/-! ## how they stand in an abstract heap -/
def noH : Hp := fun _ => none
/-- the written part, and the lists that are kept out of sight -/
structure KZ where
  K : PySem.W.Frag
  z : List Addr
instance : Coe KZ PySem.W.Frag := ⟨KZ.K⟩
def Free (K : KZ) (ρ : List Addr) (p : Addr) : Prop := p ∉ ρ ∧ p ∉ K.z
/-- the script: locked, or an object of the written part -/
def ScrAt (K : PySem.W.Frag) (H : Hp) (p : Addr) (vs : List V) : Prop := (∃ o, H p = some (.frz o (.lst vs))) ∨ SqL K noH p vs
theorem ScrAt.sq {K : PySem.W.Frag} {H : Hp} {p : Addr} {vs : List V} (h : ScrAt K H p vs) : SqL K H p vs := by
  rcases h with h | h
  · exact .inl (.inr h)
  · rcases h with h | h
    · rcases h with h | ⟨o, h⟩ <;> cases h
    · exact .inr h
mutual
def Rep (K : KZ) (H : Hp) (ρ : List Addr) : D → V → Prop
  | .non, v => v = .non
  | .bl b, v => v = .bl b
  | .int i, v => v = .int i
  | .str x, v => v = .str x
  | .tup ds, v => ∃ p vs, v = .ref p ∧ SqT K.K H p vs ∧ vs.length ≤ sizeLine ∧ RepL K H ρ ds vs
  | .lst ds, v => ∃ p vs, v = .ref p ∧ H p = some (.lst vs) ∧ Free K ρ p ∧ vs.length ≤ sizeLine ∧ RepL K H ρ ds vs
  | .scr ds, v => ∃ p vs, v = .ref p ∧ ScrAt K.K H p vs ∧ vs.length ≤ sizeLine ∧ RepL K H ρ ds vs
  | .ref i, v => ∃ a, ρ[i]? = some a ∧ v = .ref a
def RepL (K : KZ) (H : Hp) (ρ : List Addr) : List D → List V → Prop
  | [], vs => vs = []
  | d :: ds, vs => ∃ v r, vs = v :: r ∧ Rep K H ρ d v ∧ RepL K H ρ ds r
end

inductive CellOk (K : KZ) (H : Hp) (ρ : List Addr) (a : Addr) : Cell → Prop
  | lst {ds : List D} {vs : List V} : H a = some (.lst vs) → vs.length ≤ sizeLine → RepL K H ρ ds vs → CellOk K H ρ a (.lst ds)
structure Rel (K : KZ) (H : Hp) (ρ : List Addr) (μ : Mem) : Prop where
  len : ρ.length = μ.length
  nd : ρ.Nodup
  cell : ∀ (i : Nat) (a : Addr) (c : Cell), ρ[i]? = some a → μ[i]? = some c → CellOk K H ρ a c
  hid : ∀ a ∈ K.z, a ∉ ρ ∧ ∃ vs, H a = some (.lst vs)
structure Keep (ρ : List Addr) (H : Hp) (ρ' : List Addr) (H' : Hp) : Prop where
  ext : ∃ m, ρ' = ρ ++ m ∧ ∀ a ∈ m, H a = none
  keep : ∀ a o, H a = some o → a ∉ ρ → H' a = some o
  tups : ∀ a xs, H a = some (.tup xs) → H' a = some (.tup xs)
  frzs : ∀ a o u, H a = some (.frz o u) → H' a = some (.frz o u)
  dom : ∀ a o, H a = some o → ∃ o', H' a = some o'
theorem Keep.refl {ρ : List Addr} {H : Hp} : Keep ρ H ρ H := ⟨⟨[], by simp, by simp⟩, fun _ _ h _ => h, fun _ _ h => h, fun _ _ _ h => h, fun _ o h => ⟨o, h⟩⟩
theorem Keep.trans {ρ ρ1 ρ2 : List Addr} {H H1 H2 : Hp} (k : Keep ρ H ρ1 H1) (l : Keep ρ1 H1 ρ2 H2) : Keep ρ H ρ2 H2 := by
  obtain ⟨m, e, hm⟩ := k.ext
  obtain ⟨n, e', hn⟩ := l.ext
  refine ⟨⟨m ++ n, by rw [e', e, List.append_assoc], fun a ha => ?_⟩, fun a o h hr => ?_, fun a xs h => l.tups _ _ (k.tups _ _ h), fun a o u h => l.frzs _ _ _ (k.frzs _ _ _ h), fun a o h => ?_⟩
  · rcases List.mem_append.mp ha with ha | ha
    · exact hm a ha
    · cases q : H a with
      | none => rfl
      | some o =>
        obtain ⟨o', h'⟩ := k.dom a o q
        rw [hn a ha] at h'; cases h'
  · refine l.keep a o (k.keep a o h hr) fun hr' => ?_
    rw [e] at hr'
    rcases List.mem_append.mp hr' with hr' | hr'
    · exact hr hr'
    · rw [hm a hr'] at h; cases h
  · obtain ⟨o', h'⟩ := k.dom a o h
    exact l.dom a o' h'
theorem Keep.rd {ρ ρ' : List Addr} {H H' : Hp} (k : Keep ρ H ρ' H') {a : Addr} {xs : List V} (h : Rd H a (.tup xs)) : Rd H' a (.tup xs) := by
  rcases h with h | ⟨o, h⟩
  · exact .inl (k.tups _ _ h)
  · exact .inr ⟨o, k.frzs _ _ _ h⟩
theorem Keep.sqT {K : PySem.W.Frag} {ρ ρ' : List Addr} {H H' : Hp} (k : Keep ρ H ρ' H') {a : Addr} {xs : List V} (h : SqT K H a xs) : SqT K H' a xs := by
  rcases h with h | h
  · exact .inl (k.rd h)
  · exact .inr h
theorem Keep.scr {K : PySem.W.Frag} {ρ ρ' : List Addr} {H H' : Hp} (k : Keep ρ H ρ' H') {a : Addr} {xs : List V} (h : ScrAt K H a xs) : ScrAt K H' a xs := by
  rcases h with ⟨o, h⟩ | h
  · exact .inl ⟨o, k.frzs _ _ _ h⟩
  · exact .inr h
theorem Keep.at {ρ ρ' : List Addr} {H H' : Hp} (k : Keep ρ H ρ' H') {i : Nat} {a : Addr} (h : ρ[i]? = some a) : ρ'[i]? = some a := by
  obtain ⟨m, e, _⟩ := k.ext
  rw [e, List.getElem?_append_left (List.getElem?_eq_some_iff.mp h).1]
  exact h
theorem Keep.out0 {ρ ρ' : List Addr} {H H' : Hp} (k : Keep ρ H ρ' H') {a : Addr} {o : HO} (h : H a = some o) (hr : a ∉ ρ) : a ∉ ρ' := fun hr' => by
  obtain ⟨m, e, hm⟩ := k.ext
  rw [e] at hr'
  rcases List.mem_append.mp hr' with hr' | hr'
  · exact hr hr'
  · rw [hm a hr'] at h; cases h
theorem Keep.out {K : KZ} {ρ ρ' : List Addr} {H H' : Hp} (k : Keep ρ H ρ' H') {a : Addr} {o : HO} (h : H a = some o) (hr : Free K ρ a) : Free K ρ' a := ⟨k.out0 h hr.1, hr.2⟩
mutual
theorem Rep.mono {K : KZ} {ρ ρ' : List Addr} {H H' : Hp} (k : Keep ρ H ρ' H') : ∀ (d : D) (v : V), Rep K H ρ d v → Rep K H' ρ' d v
  | .non, v, h => h
  | .bl _, v, h => h
  | .int _, v, h => h
  | .str _, v, h => h
  | .tup ds, v, h => by
    obtain ⟨p, vs, e, h1, h2, h3⟩ := h
    exact ⟨p, vs, e, k.sqT h1, h2, RepL.mono k ds vs h3⟩
  | .lst ds, v, h => by
    obtain ⟨p, vs, e, h1, h2, h3, h4⟩ := h
    exact ⟨p, vs, e, k.keep _ _ h1 h2.1, k.out h1 h2, h3, RepL.mono k ds vs h4⟩
  | .scr ds, v, h => by
    obtain ⟨p, vs, e, h1, h2, h3⟩ := h
    exact ⟨p, vs, e, k.scr h1, h2, RepL.mono k ds vs h3⟩
  | .ref i, v, h => by
    obtain ⟨a, h1, h2⟩ := h
    exact ⟨a, k.at h1, h2⟩
theorem RepL.mono {K : KZ} {ρ ρ' : List Addr} {H H' : Hp} (k : Keep ρ H ρ' H') : ∀ (ds : List D) (vs : List V), RepL K H ρ ds vs → RepL K H' ρ' ds vs
  | [], vs, h => h
  | d :: ds, vs, h => by
    obtain ⟨v, r, e, h1, h2⟩ := h
    exact ⟨v, r, e, Rep.mono k d v h1, RepL.mono k ds r h2⟩
end
theorem RepL.len {K : KZ} {ρ : List Addr} {H : Hp} : ∀ {ds : List D} {vs : List V}, RepL K H ρ ds vs → vs.length = ds.length
  | [], vs, h => by
    have h : vs = [] := h
    rw [h]; rfl
  | d :: ds, vs, h => by
    obtain ⟨v, r, e, _, h2⟩ := h
    rw [e, List.length_cons, List.length_cons, RepL.len h2]
theorem RepL.get {K : KZ} {ρ : List Addr} {H : Hp} : ∀ {ds : List D} {vs : List V} {i : Nat} {d : D}, RepL K H ρ ds vs → ds[i]? = some d → ∃ v, vs[i]? = some v ∧ Rep K H ρ d v
  | [], vs, i, d, h, e => by simp at e
  | c :: ds, vs, 0, d, h, e => by
    obtain ⟨v, r, e', h1, _⟩ := h
    have q : c = d := by simpa using e
    subst q
    exact ⟨v, by rw [e']; rfl, h1⟩
  | c :: ds, vs, i + 1, d, h, e => by
    obtain ⟨v, r, e', _, h2⟩ := h
    obtain ⟨w, h3, h4⟩ := RepL.get (i := i) (d := d) h2 (by simpa using e)
    exact ⟨w, by rw [e']; simpa using h3, h4⟩
theorem RepL.getV {K : KZ} {ρ : List Addr} {H : Hp} {ds : List D} {vs : List V} {i : Nat} {v : V} (h : RepL K H ρ ds vs) (e : vs[i]? = some v) : ∃ d, ds[i]? = some d ∧ Rep K H ρ d v := by
  have hl := h.len
  have hi : i < ds.length := by rw [← hl]; exact (List.getElem?_eq_some_iff.mp e).1
  obtain ⟨w, h1, h2⟩ := h.get (List.getElem?_eq_getElem hi)
  rw [e] at h1
  cases h1
  exact ⟨_, List.getElem?_eq_getElem hi, h2⟩
theorem RepL.append {K : KZ} {ρ : List Addr} {H : Hp} : ∀ {ds es : List D} {vs us : List V}, RepL K H ρ ds vs → RepL K H ρ es us → RepL K H ρ (ds ++ es) (vs ++ us)
  | [], es, vs, us, h, g => by
    have h : vs = [] := h
    rw [h]; exact g
  | d :: ds, es, vs, us, h, g => by
    obtain ⟨v, r, e, h1, h2⟩ := h
    exact ⟨v, r ++ us, by rw [e]; rfl, h1, RepL.append h2 g⟩
theorem RepL.one {K : KZ} {ρ : List Addr} {H : Hp} {d : D} {v : V} (h : Rep K H ρ d v) : RepL K H ρ [d] [v] := ⟨v, [], rfl, h, rfl⟩
theorem RepL.take {K : KZ} {ρ : List Addr} {H : Hp} : ∀ {ds : List D} {vs : List V} (n : Nat), RepL K H ρ ds vs → RepL K H ρ (ds.take n) (vs.take n)
  | [], vs, n, h => by
    have h : vs = [] := h
    rw [h]; simp [RepL]
  | d :: ds, vs, 0, h => by simp [RepL]
  | d :: ds, vs, n + 1, h => by
    obtain ⟨v, r, e, h1, h2⟩ := h
    exact ⟨v, r.take n, by rw [e]; rfl, h1, RepL.take n h2⟩
theorem RepL.drop {K : KZ} {ρ : List Addr} {H : Hp} : ∀ {ds : List D} {vs : List V} (n : Nat), RepL K H ρ ds vs → RepL K H ρ (ds.drop n) (vs.drop n)
  | [], vs, n, h => by
    have h : vs = [] := h
    rw [h]; simp [RepL]
  | d :: ds, vs, 0, h => h
  | d :: ds, vs, n + 1, h => by
    obtain ⟨v, r, e, h1, h2⟩ := h
    rw [e]
    exact RepL.drop n h2
theorem RepL.set {K : KZ} {ρ : List Addr} {H : Hp} {d : D} {v : V} (g : Rep K H ρ d v) : ∀ {ds : List D} {vs : List V} (n : Nat), RepL K H ρ ds vs → RepL K H ρ (ds.set n d) (vs.set n v)
  | [], vs, n, h => by
    have h : vs = [] := h
    rw [h]; simp [RepL]
  | _ :: ds, vs, 0, h => by
    obtain ⟨_, r, e, _, h2⟩ := h
    rw [e]
    exact ⟨v, r, rfl, g, h2⟩
  | _ :: ds, vs, n + 1, h => by
    obtain ⟨w, r, e, h1, h2⟩ := h
    rw [e]
    exact ⟨w, r.set n v, rfl, h1, RepL.set g n h2⟩
theorem RepL.reverse {K : KZ} {ρ : List Addr} {H : Hp} : ∀ {ds : List D} {vs : List V}, RepL K H ρ ds vs → RepL K H ρ ds.reverse vs.reverse
  | [], vs, h => by
    have h : vs = [] := h
    rw [h]; rfl
  | d :: ds, vs, h => by
    obtain ⟨v, r, e, h1, h2⟩ := h
    rw [e, List.reverse_cons, List.reverse_cons]
    exact RepL.append (RepL.reverse h2) (RepL.one h1)
theorem RepL.dropLast {K : KZ} {ρ : List Addr} {H : Hp} {ds : List D} {vs : List V} (h : RepL K H ρ ds vs) : RepL K H ρ ds.dropLast vs.dropLast := by
  rw [List.dropLast_eq_take, List.dropLast_eq_take, h.len]
  exact h.take _
theorem RepL.rep {K : KZ} {ρ : List Addr} {H : Hp} {ds : List D} {vs : List V} (h : RepL K H ρ ds vs) : ∀ k : Nat, RepL K H ρ (List.replicate k ds).flatten (List.replicate k vs).flatten
  | 0 => rfl
  | k + 1 => by
    rw [List.replicate_succ, List.replicate_succ, List.flatten_cons, List.flatten_cons]
    exact RepL.append h (RepL.rep h k)
theorem RepL.mapI {K : KZ} {ρ : List Addr} {H : Hp} : ∀ (ns : List Int), RepL K H ρ (ns.map D.int) (ns.map V.int)
  | [] => rfl
  | n :: r => ⟨.int n, r.map V.int, rfl, rfl, RepL.mapI r⟩
end PV

set_option maxRecDepth 100000
set_option maxHeartbeats 4000000
namespace PV
open PySem PySem.Spec PyProof.Rows L2
section
variable {K : KZ} {H H' : Hp} {ρ ρ' : List Addr} {μ μ' : Mem}
theorem Rel.at (r : Rel K H ρ μ) {i : Nat} {c : Cell} (h : μ[i]? = some c) : ∃ a, ρ[i]? = some a ∧ CellOk K H ρ a c := by
  have hi : i < ρ.length := by rw [r.len]; exact (List.getElem?_eq_some_iff.mp h).1
  exact ⟨_, List.getElem?_eq_getElem hi, r.cell i _ c (List.getElem?_eq_getElem hi) h⟩
theorem Rel.mem (r : Rel K H ρ μ) {a : Addr} (h : a ∈ ρ) : ∃ vs, H a = some (.lst vs) := by
  obtain ⟨i, hi, e⟩ := List.getElem_of_mem h
  have h1 : ρ[i]? = some a := by rw [List.getElem?_eq_getElem hi, e]
  have h2 : i < μ.length := by rw [← r.len]; exact hi
  have c := r.cell i a _ h1 (List.getElem?_eq_getElem h2)
  generalize μ[i] = cc at c
  cases c with
  | lst h _ _ => exact ⟨_, h⟩
theorem Rel.out0 (r : Rel K H ρ μ) {p : Addr} (h : H p = none) : p ∉ ρ := fun q => by
  obtain ⟨vs, e⟩ := r.mem q
  rw [h] at e; cases e
theorem Rel.out (r : Rel K H ρ μ) {p : Addr} (h : H p = none) : Free K ρ p := ⟨r.out0 h, fun q => by
  obtain ⟨_, vs, e⟩ := r.hid p q
  rw [h] at e; cases e⟩
/-! ### something new that is not a cell -/
theorem keep_new {p : Addr} {o : HO} (h : H p = none) : Keep ρ H ρ (upd H p o) := by
  have ne : ∀ a u, H a = some u → a ≠ p := fun a u e z => by rw [z, h] at e; cases e
  exact ⟨⟨[], by simp, by simp⟩, fun a u e _ => by rw [upd_ne (ne a u e)]; exact e, fun a xs e => by rw [upd_ne (ne a _ e)]; exact e, fun a o u e => by rw [upd_ne (ne a _ e)]; exact e, fun a u e => ⟨u, by rw [upd_ne (ne a u e)]; exact e⟩⟩
theorem CellOk.mono (k : Keep ρ H ρ' H') {a : Addr} {c : Cell} (h : CellOk K H ρ a c) (s : ∀ vs, H a = some (.lst vs) → H' a = some (.lst vs)) : CellOk K H' ρ' a c := by
  cases h with
  | lst h1 h2 h3 => exact .lst (s _ h1) h2 (RepL.mono k _ _ h3)
theorem Rel.new {p : Addr} {o : HO} (r : Rel K H ρ μ) (h : H p = none) : Rel K (upd H p o) ρ μ :=
  ⟨r.len, r.nd, fun i a c h1 h2 => (r.cell i a c h1 h2).mono (keep_new h) fun vs e => by
    rw [upd_ne (fun z => by rw [z, h] at e; cases e)]; exact e,
   fun a ha => by
    obtain ⟨h1, vs, e⟩ := r.hid a ha
    exact ⟨h1, vs, by rw [upd_ne (fun z => by rw [z, h] at e; cases e)]; exact e⟩⟩
/-! ### a new cell -/
theorem keep_cell {p : Addr} {o : HO} (h : H p = none) : Keep ρ H (ρ ++ [p]) (upd H p o) := by
  have k := keep_new (ρ := ρ) (o := o) h
  exact ⟨⟨[p], rfl, fun a ha => by rw [List.mem_singleton.mp ha]; exact h⟩, k.keep, k.tups, k.frzs, k.dom⟩
theorem Rel.newCell {p : Addr} {ds : List D} {vs : List V} (r : Rel K H ρ μ) (h : H p = none) (hz : vs.length ≤ sizeLine) (hr : RepL K H ρ ds vs) : Rel K (upd H p (.lst vs)) (ρ ++ [p]) (μ ++ [.lst ds]) := by
  have hp := r.out0 h
  have k := keep_cell (ρ := ρ) (o := .lst vs) h
  refine ⟨by simp [r.len], ?_, fun i a c h1 h2 => ?_, fun a ha => ?_⟩
  · exact List.nodup_append.mpr ⟨r.nd, by simp, fun a ha b hb e => by rw [List.mem_singleton.mp hb] at e; exact hp (e ▸ ha)⟩
  · by_cases hi : i < ρ.length
    · rw [List.getElem?_append_left hi] at h1
      rw [List.getElem?_append_left (by rw [← r.len]; exact hi)] at h2
      exact (r.cell i a c h1 h2).mono k fun us e => by rw [upd_ne (fun z => by rw [z, h] at e; cases e)]; exact e
    · have e : i = ρ.length := by
        have := (List.getElem?_eq_some_iff.mp h1).1
        simp at this; omega
      subst e
      simp at h1
      rw [r.len] at h2
      simp at h2
      subst h1; subst h2
      exact .lst upd_same hz (RepL.mono k _ _ hr)
  · obtain ⟨h1, vs, e⟩ := r.hid a ha
    have ne : a ≠ p := fun z => by rw [z, h] at e; cases e
    exact ⟨fun q => (List.mem_append.mp q).elim h1 fun q => ne (List.mem_singleton.mp q), vs, by rw [upd_ne ne]; exact e⟩
/-! ### a cell is written -/
theorem keep_set {i : Nat} {a : Addr} {xs ys : List V} (h : ρ[i]? = some a) (e : H a = some (.lst xs)) : Keep ρ H ρ (upd H a (.lst ys)) := by
  have ha : a ∈ ρ := List.mem_of_getElem? h
  refine ⟨⟨[], by simp, by simp⟩, fun b o q hb => ?_, fun b zs q => ?_, fun b o u q => ?_, fun b o q => ?_⟩
  · rw [upd_ne (fun z => hb (by rw [z]; exact ha))]; exact q
  · rw [upd_ne (fun z => by rw [z, e] at q; cases q)]; exact q
  · rw [upd_ne (fun z => by rw [z, e] at q; cases q)]; exact q
  · by_cases hb : b = a
    · exact ⟨_, by rw [hb]; exact upd_same⟩
    · exact ⟨o, by rw [upd_ne hb]; exact q⟩
theorem Rel.set {i : Nat} {a : Addr} {xs ys : List V} {ds : List D} (r : Rel K H ρ μ) (h : ρ[i]? = some a) (e : H a = some (.lst xs)) (hz : ys.length ≤ sizeLine) (hr : RepL K H ρ ds ys) : Rel K (upd H a (.lst ys)) ρ (μ.set i (.lst ds)) := by
  have k := keep_set (ys := ys) h e
  refine ⟨by simp [r.len], r.nd, fun j b c h1 h2 => ?_, fun b hb => ?_⟩
  rotate_left
  · obtain ⟨h1, vs, q⟩ := r.hid b hb
    exact ⟨h1, vs, by rw [upd_ne (fun z => h1 (by rw [z]; exact List.mem_of_getElem? h))]; exact q⟩
  by_cases hj : j = i
  · subst hj
    rw [h] at h1; cases h1
    have hl : j < μ.length := by rw [← r.len]; exact (List.getElem?_eq_some_iff.mp h).1
    rw [List.getElem?_set_self hl] at h2
    cases h2
    exact .lst upd_same hz (RepL.mono k _ _ hr)
  · rw [List.getElem?_set_ne (Ne.symm hj)] at h2
    have hb : b ≠ a := fun z => by
      subst z
      exact hj ((List.getElem?_inj (List.getElem?_eq_some_iff.mp h1).1 r.nd).mp (h1.trans h.symm))
    exact (r.cell j b c h1 h2).mono k fun us q => by rw [upd_ne hb]; exact q
end
/-! ## the slots -/
def EnvRel (K : KZ) (H : Hp) (ρ : List Addr) (σ : L2.St) (env : EnvD) : Prop :=
  σ.length = env.length ∧ ∀ (i : Nat) (d : D), env[i]? = some (some d) → ∃ v, σ[i]? = some (some v) ∧ Rep K H ρ d v
theorem EnvRel.mono {K : KZ} {H H' : Hp} {ρ ρ' : List Addr} {σ : L2.St} {env : EnvD} (k : Keep ρ H ρ' H') (h : EnvRel K H ρ σ env) : EnvRel K H' ρ' σ env :=
  ⟨h.1, fun i d e => let ⟨v, h1, h2⟩ := h.2 i d e; ⟨v, h1, Rep.mono k d v h2⟩⟩
theorem EnvRel.set {K : KZ} {H : Hp} {ρ : List Addr} {σ : L2.St} {env : EnvD} {d : D} {v : V} (i : Nat) (h : EnvRel K H ρ σ env) (r : Rep K H ρ d v) : EnvRel K H ρ (σ.set i (some v)) (env.set i (some d)) := by
  refine ⟨by simp [h.1], fun j e q => ?_⟩
  by_cases hj : j = i
  · subst hj
    have hl : j < env.length := by
      have := (List.getElem?_eq_some_iff.mp q).1
      simpa using this
    rw [List.getElem?_set_self hl] at q
    cases q
    exact ⟨v, by rw [List.getElem?_set_self (by rw [h.1]; exact hl)], r⟩
  · rw [List.getElem?_set_ne (Ne.symm hj)] at q
    obtain ⟨w, h1, h2⟩ := h.2 j e q
    exact ⟨w, by rw [List.getElem?_set_ne (Ne.symm hj)]; exact h1, h2⟩
def wipeD (env : EnvD) : List Nat → EnvD
  | [] => env
  | v :: vs => (wipeD env vs).set v none
theorem EnvRel.wipe {K : KZ} {H : Hp} {ρ : List Addr} {σ : L2.St} {env : EnvD} (h : EnvRel K H ρ σ env) : ∀ vs : List Nat, EnvRel K H ρ (L2.wipe σ vs) (wipeD env vs)
  | [] => h
  | v :: vs => by
    have ih := EnvRel.wipe h vs
    refine ⟨by simp [L2.wipe, wipeD, ih.1], fun j e q => ?_⟩
    simp only [wipeD] at q
    simp only [L2.wipe]
    by_cases hj : v = j
    · subst hj
      have hl : v < (wipeD env vs).length := by
        have := (List.getElem?_eq_some_iff.mp q).1
        simpa using this
      rw [List.getElem?_set_self hl] at q
      cases q
    · rw [List.getElem?_set_ne hj] at q
      rw [List.getElem?_set_ne hj]
      exact ih.2 j e q

/-! ## what is wanted of a result -/
abbrev WD := Nat → List D → Mem → List Addr → Hp → Prop
def Post {α β : Type} (K : KZ) (W : WD) (R : List Addr → Hp → α → β → Prop) (ρ : List Addr) (H : Hp) (o : Out α) (Q : β → Hp → Prop) : Prop :=
  match o with
  | .ok a μ' => ∀ ρ' H' b, Keep ρ H ρ' H' → Rel K H' ρ' μ' → R ρ' H' a b → Q b H'
  | .err c fs μ' => ∀ ρ' H', Keep ρ H ρ' H' → Rel K H' ρ' μ' → W c fs μ' ρ' H'
  | .bad => False
/-- behind a first part -/
theorem Post.bind {α β γ δ : Type} {K : KZ} {W : WD} {R1 : List Addr → Hp → α → β → Prop} {R : List Addr → Hp → γ → δ → Prop} {ρ : List Addr} {H : Hp} {o : Out α} {f : α → Mem → Out γ} {Q : δ → Hp → Prop}
    (h : Post K W R ρ H (o.bind f) Q) : Post K W R1 ρ H o fun b H1 => ∃ a ρ1 μ1, Keep ρ H ρ1 H1 ∧ Rel K H1 ρ1 μ1 ∧ R1 ρ1 H1 a b ∧ Post K W R ρ1 H1 (f a μ1) Q := by
  cases o with
  | ok a μ' =>
    intro ρ1 H1 b k r q
    refine ⟨a, ρ1, μ', k, r, q, ?_⟩
    have h : Post K W R ρ H (f a μ') Q := h
    cases e : f a μ' with
    | ok c μ2 =>
      rw [e] at h
      exact fun ρ2 H2 d k2 r2 q2 => h ρ2 H2 d (k.trans k2) r2 q2
    | err c fs μ2 =>
      rw [e] at h
      exact fun ρ2 H2 k2 r2 => h ρ2 H2 (k.trans k2) r2
    | bad => rw [e] at h; exact h
  | err c fs μ' => exact h
  | bad => exact h
theorem Post.ok {α β : Type} {K : KZ} {W : WD} {R : List Addr → Hp → α → β → Prop} {ρ : List Addr} {H : Hp} {a : α} {b : β} {μ : Mem} {Q : β → Hp → Prop} (h : Post K W R ρ H (.ok a μ) Q) (r : Rel K H ρ μ) (q : R ρ H a b) : Q b H := h ρ H b Keep.refl r q
theorem Post.okK {α β : Type} {K : KZ} {W : WD} {R : List Addr → Hp → α → β → Prop} {ρ ρ' : List Addr} {H H' : Hp} {a : α} {b : β} {μ : Mem} {Q : β → Hp → Prop} (h : Post K W R ρ H (.ok a μ) Q) (k : Keep ρ H ρ' H') (r : Rel K H' ρ' μ) (q : R ρ' H' a b) : Q b H' := h ρ' H' b k r q

/-! ## the readings -/
abbrev RD (K : KZ) : List Addr → Hp → D → V → Prop := fun ρ H d v => Rep K H ρ d v
abbrev RL (K : KZ) : List Addr → Hp → List D → List V → Prop := fun ρ H d v => RepL K H ρ d v
abbrev RB (_ : KZ) : List Addr → Hp → Bool → Bool → Prop := fun _ _ a b => a = b
/-- the uniform reading -/
def tG {α β : Type} (K : PySem.W.Frag) (W : L2.St → WD) (R : KZ → List Addr → Hp → α → β → Prop) (m : EnvD → Mem → Out α) (σ : L2.St) (H : Hp) (Q : β → Hp → Prop) : Prop :=
  ∃ z ρ μ env, Rel ⟨K, z⟩ H ρ μ ∧ EnvRel ⟨K, z⟩ H ρ σ env ∧ Post ⟨K, z⟩ (W σ) (R ⟨K, z⟩) ρ H (m env μ) Q
abbrev tD (K : PySem.W.Frag) (W : L2.St → WD) (m : EnvD → Mem → Out D) : TE := tG K W RD m
abbrev tDs (K : PySem.W.Frag) (W : L2.St → WD) (m : EnvD → Mem → Out (List D)) : TA := tG K W RL m
abbrev tDb (K : PySem.W.Frag) (W : L2.St → WD) (m : EnvD → Mem → Out Bool) : TT := tG K W RB m
theorem Post.mono {α β : Type} {K : KZ} {W : WD} {R : List Addr → Hp → α → β → Prop} {ρ : List Addr} {H : Hp} {o : Out α} {Q Q' : β → Hp → Prop} (h : Post K W R ρ H o Q) (g : ∀ b H, Q b H → Q' b H) : Post K W R ρ H o Q' := by
  cases o with
  | ok a μ' => exact fun ρ' H' b k r q => g b H' (h ρ' H' b k r q)
  | err c fs μ' => exact h
  | bad => exact h
/-- one part of a reading, then the rest by values -/
theorem Post.then {α β γ δ : Type} {K : KZ} {W : WD} {R1 : List Addr → Hp → α → β → Prop} {R : List Addr → Hp → γ → δ → Prop} {ρ : List Addr} {H : Hp} {o : Out α} {f : α → Mem → Out γ} {Q : δ → Hp → Prop} {P : β → Hp → Prop}
    (h : Post K W R ρ H (o.bind f) Q) (g : ∀ a b ρ1 μ1 H1, Keep ρ H ρ1 H1 → Rel K H1 ρ1 μ1 → R1 ρ1 H1 a b → Post K W R ρ1 H1 (f a μ1) Q → P b H1) : Post K W R1 ρ H o P :=
  (Post.bind (R1 := R1) h).mono fun b H1 ⟨a, ρ1, μ1, k, r, q, p⟩ => g a b ρ1 μ1 H1 k r q p
theorem _root_.L2.PE.imp {X : Cx} {e : Expr} {t t' : TE} (h : PE X e t) (g : ∀ σ H Q, t' σ H Q → t σ H Q) : PE X e t' := ⟨fun pins s σ H Q I hw => h.run pins s σ H Q I (g σ H Q hw)⟩
theorem _root_.L2.PT.imp {X : Cx} {e : Expr} {t t' : TT} (h : PT X e t) (g : ∀ σ H Q, t' σ H Q → t σ H Q) : PT X e t' := ⟨fun pins s σ H Q I hw => h.run pins s σ H Q I (g σ H Q hw)⟩
theorem _root_.L2.PW.imp {X : Cx} {e : Expr} {t t' : TT} (h : PW X e t) (g : ∀ σ H Q, t' σ H Q → t σ H Q) : PW X e t' := ⟨fun wh pins s σ H Q I hw => h.run wh pins s σ H Q I (g σ H Q hw)⟩
theorem _root_.L2.PA.imp {X : Cx} {e : List Expr} {t t' : TA} (h : PA X e t) (g : ∀ σ H Q, t' σ H Q → t σ H Q) : PA X e t' := ⟨fun pos pins s σ H Q I hw => h.run pos pins s σ H Q I (g σ H Q hw)⟩
theorem _root_.L2.PS.imp {X : Cx} {e : Stmt} {t t' : TS} (h : PS X e t) (g : ∀ D σ H, t' D σ H → t D σ H) : PS X e t' := ⟨fun pins s σ H D I hw => h.run pins s σ H D I (g D σ H hw)⟩
theorem _root_.L2.PSs.imp {X : Cx} {e : List Stmt} {t t' : TS} (h : PSs X e t) (g : ∀ D σ H, t' D σ H → t D σ H) : PSs X e t' := ⟨fun pins s σ H D I hw => h.run pins s σ H D I (g D σ H hw)⟩
/-- one operand, two operands, then a rule by values -/
theorem red1 {K : PySem.W.Frag} {W : L2.St → WD} {ma : EnvD → Mem → Out D} {f : D → Mem → Out D} {r : V → Hp → VK → Prop}
    (hf : ∀ z W d v ρ μ H Q, Rel ⟨K, z⟩ H ρ μ → Rep ⟨K, z⟩ H ρ d v → Post ⟨K, z⟩ W (RD ⟨K, z⟩) ρ H (f d μ) Q → r v H Q) {σ : L2.St} {H : Hp} {Q : VK}
    (h : tD K W (fun env μ => (ma env μ).bind f) σ H Q) : tD K W ma σ H fun x H1 => r x H1 Q := by
  obtain ⟨z, ρ, μ, env, r, er, p⟩ := h
  exact ⟨z, ρ, μ, env, r, er, p.then fun a b ρ1 μ1 H1 k r1 q p1 => hf z _ a b ρ1 μ1 H1 Q r1 q p1⟩
theorem red2 {K : PySem.W.Frag} {W : L2.St → WD} {ma mb : EnvD → Mem → Out D} {f : D → D → Mem → Out D} {r : R2}
    (hf : ∀ z W d e v u ρ μ H Q, Rel ⟨K, z⟩ H ρ μ → Rep ⟨K, z⟩ H ρ d v → Rep ⟨K, z⟩ H ρ e u → Post ⟨K, z⟩ W (RD ⟨K, z⟩) ρ H (f d e μ) Q → r v u H Q) {σ : L2.St} {H : Hp} {Q : VK}
    (h : tD K W (fun env μ => (ma env μ).bind fun x μ1 => (mb env μ1).bind fun y μ2 => f x y μ2) σ H Q) : tOp r (tD K W ma) (tD K W mb) σ H Q := by
  obtain ⟨z, ρ, μ, env, r0, er, p⟩ := h
  refine ⟨z, ρ, μ, env, r0, er, p.then fun a b ρ1 μ1 H1 k r1 q p1 => ?_⟩
  refine ⟨z, ρ1, μ1, env, r1, er.mono k, p1.then fun a2 b2 ρ2 μ2 H2 k2 r2 q2 p2 => ?_⟩
  exact hf z _ a a2 b b2 ρ2 μ2 H2 Q r2 (Rep.mono k2 _ _ q) q2 p2
end PV

set_option maxRecDepth 100000
set_option maxHeartbeats 4000000
namespace PV
open PySem PySem.Spec PyProof.Rows L2
/-! ## data of the library's kind -/
mutual
def toPDw (f : Nat → Nat → Option PyData) : Nat → D → Option PyData
  | _, .non => some .none
  | _, .bl b => some (.bool b)
  | _, .int i => some (.int i)
  | _, .str x => if PyData.strOk x then some (.str x) else none
  | n, .tup ds => match n with
    | 0 => none
    | n + 1 => match toPDwL f n ds with
      | some xs => some (.tuple xs)
      | none => none
  | n, .lst ds => match n with
    | 0 => none
    | n + 1 => match toPDwL f n ds with
      | some xs => some (.list xs)
      | none => none
  | _, .scr _ => none
  | n, .ref i => f n i
def toPDwL (f : Nat → Nat → Option PyData) : Nat → List D → Option (List PyData)
  | _, [] => some []
  | n, d :: ds => match toPDw f n d with
    | some x => match toPDwL f n ds with
      | some xs => some (x :: xs)
      | none => none
    | none => none
end
def pdF (μ : Mem) : Nat → Nat → Nat → Option PyData
  | 0, _, _ => none
  | _ + 1, 0, _ => none
  | k + 1, n + 1, i => match μ[i]? with
    | some (.lst ds) => match toPDwL (pdF μ k) n ds with
      | some xs => some (.list xs)
      | none => none
    | none => none
def toPD (μ : Mem) (d : D) : Option PyData := toPDw (pdF μ 4) 60 d
def toPDs (μ : Mem) (ds : List D) : Option (List PyData) := toPDwL (pdF μ 4) 59 ds
def DpD (K : PySem.W.Frag) (H : Hp) (n : Nat) (v : V) (p : PyData) : Prop := Dp K H v p ∧ p.canLay0 = true ∧ p.depth ≤ n
def DpDs (K : PySem.W.Frag) (H : Hp) (n : Nat) (v : List V) (p : List PyData) : Prop := DpAll K H v p ∧ PyData.canLayAll0 p = true ∧ PyData.depthAll p ≤ n
section
variable {K : KZ} {H : Hp} {ρ : List Addr} {μ : Mem}
mutual
theorem toPDw_ok {f : Nat → Nat → Option PyData} (hf : ∀ n i p a, f n i = some p → ρ[i]? = some a → DpD K H n (.ref a) p) : ∀ (d : D) (n : Nat) (v : V) (p : PyData), toPDw f n d = some p → Rep K H ρ d v → DpD K H n v p
  | .non, n, v, p, h, r => by
    simp only [toPDw, Option.some.injEq] at h
    subst h; cases r
    exact ⟨.non, by simp [PyData.canLay0], by simp [PyData.depth]⟩
  | .bl b, n, v, p, h, r => by
    simp only [toPDw, Option.some.injEq] at h
    subst h; cases r
    exact ⟨.bl b, by simp [PyData.canLay0], by simp [PyData.depth]⟩
  | .int i, n, v, p, h, r => by
    simp only [toPDw, Option.some.injEq] at h
    subst h; cases r
    exact ⟨.int i, by simp [PyData.canLay0], by simp [PyData.depth]⟩
  | .str x, n, v, p, h, r => by
    simp only [toPDw] at h
    split at h
    · rename_i hx
      cases h; cases r
      exact ⟨.str x, by simp [PyData.canLay0, hx], by simp [PyData.depth]⟩
    · cases h
  | .tup ds, n, v, p, h, r => by
    obtain ⟨a, vs, rfl, h1, _, h2⟩ := r
    cases n with
    | zero => simp [toPDw] at h
    | succ n =>
      simp only [toPDw] at h
      cases e : toPDwL f n ds with
      | none => rw [e] at h; cases h
      | some xs =>
        rw [e] at h; cases h
        obtain ⟨q1, q2, q3⟩ := toPDwL_ok hf ds n vs xs e h2
        exact ⟨.tup h1 q1, by simp [PyData.canLay0, q2], by simp [PyData.depth]; omega⟩
  | .lst ds, n, v, p, h, r => by
    obtain ⟨a, vs, rfl, h1, _, _, h2⟩ := r
    cases n with
    | zero => simp [toPDw] at h
    | succ n =>
      simp only [toPDw] at h
      cases e : toPDwL f n ds with
      | none => rw [e] at h; cases h
      | some xs =>
        rw [e] at h; cases h
        obtain ⟨q1, q2, q3⟩ := toPDwL_ok hf ds n vs xs e h2
        exact ⟨.lst (SqL.of h1) q1, by simp [PyData.canLay0, q2], by simp [PyData.depth]; omega⟩
  | .scr ds, n, v, p, h, r => by simp [toPDw] at h
  | .ref i, n, v, p, h, r => by
    obtain ⟨a, h1, rfl⟩ := r
    simp only [toPDw] at h
    exact hf n i p a h h1
theorem toPDwL_ok {f : Nat → Nat → Option PyData} (hf : ∀ n i p a, f n i = some p → ρ[i]? = some a → DpD K H n (.ref a) p) : ∀ (ds : List D) (n : Nat) (vs : List V) (ps : List PyData), toPDwL f n ds = some ps → RepL K H ρ ds vs → DpDs K H n vs ps
  | [], n, vs, ps, h, r => by
    simp only [toPDwL, Option.some.injEq] at h
    have r : vs = [] := r
    subst h; subst r
    exact ⟨.nil, by simp [PyData.canLayAll0], by simp [PyData.depthAll]⟩
  | d :: ds, n, vs, ps, h, r => by
    obtain ⟨v, w, rfl, h1, h2⟩ := r
    simp only [toPDwL] at h
    cases e : toPDw f n d with
    | none => rw [e] at h; cases h
    | some x =>
      rw [e] at h
      simp only at h
      cases e2 : toPDwL f n ds with
      | none => rw [e2] at h; cases h
      | some xs =>
        rw [e2] at h; cases h
        obtain ⟨a1, a2, a3⟩ := toPDw_ok hf d n v x e h1
        obtain ⟨b1, b2, b3⟩ := toPDwL_ok hf ds n w xs e2 h2
        exact ⟨.cons a1 b1, by simp [PyData.canLayAll0, a2, b2], by simp [PyData.depthAll]; omega⟩
end
theorem pdF_ok (r : Rel K H ρ μ) : ∀ (k n i : Nat) (p : PyData) (a : Addr), pdF μ k n i = some p → ρ[i]? = some a → DpD K H n (.ref a) p
  | 0, n, i, p, a, h, _ => by simp [pdF] at h
  | k + 1, 0, i, p, a, h, _ => by simp [pdF] at h
  | k + 1, n + 1, i, p, a, h, ha => by
    simp only [pdF] at h
    cases e : μ[i]? with
    | none => rw [e] at h; cases h
    | some c =>
      rw [e] at h
      obtain ⟨b, hb, hc⟩ := r.at e
      rw [ha] at hb; cases hb
      cases hc with
      | lst h1 h2 h3 =>
        rename_i ds vs
        simp only at h
        cases e2 : toPDwL (pdF μ k) n ds with
        | none => rw [e2] at h; cases h
        | some xs =>
          rw [e2] at h; cases h
          obtain ⟨q1, q2, q3⟩ := toPDwL_ok (fun n i p a => pdF_ok r k n i p a) ds n vs xs e2 h3
          exact ⟨.lst (SqL.of h1) q1, by simp [PyData.canLay0, q2], by simp [PyData.depth]; omega⟩
theorem toPD_ok (r : Rel K H ρ μ) {d : D} {v : V} {p : PyData} (h : toPD μ d = some p) (q : Rep K H ρ d v) : DpD K H 60 v p := toPDw_ok (fun n i p a => pdF_ok r 4 n i p a) d 60 v p h q
theorem toPDs_ok (r : Rel K H ρ μ) {d : List D} {v : List V} {p : List PyData} (h : toPDs μ d = some p) (q : RepL K H ρ d v) : DpDs K H 59 v p := toPDwL_ok (fun n i p a => pdF_ok r 4 n i p a) d 59 v p h q
end
theorem DpD.shaped {K : PySem.W.Frag} {H : Hp} {v : V} {p : PyData} (h : DpD K H 60 v p) : SeqAt.shaped p = true := by
  have := h.2.2
  simp [SeqAt.shaped, h.2.1]; omega
/-! ## lists and tuples as they are seen -/
def asList (d : D) (μ : Mem) : Option (List D) :=
  match d with
  | .lst ds => some ds
  | .ref i => match μ[i]? with
    | some (.lst ds) => some ds
    | none => none
  | _ => none
theorem asList_ok {K : KZ} {H : Hp} {ρ : List Addr} {μ : Mem} (r : Rel K H ρ μ) {d : D} {v : V} {ds : List D} (h : asList d μ = some ds) (q : Rep K H ρ d v) : ∃ p vs, v = .ref p ∧ H p = some (.lst vs) ∧ vs.length ≤ sizeLine ∧ RepL K H ρ ds vs := by
  cases d with
  | lst es =>
    obtain ⟨p, vs, h1, h2, _, h3, h4⟩ := q
    cases h
    exact ⟨p, vs, h1, h2, h3, h4⟩
  | ref i =>
    obtain ⟨a, h1, h2⟩ := q
    simp only [asList] at h
    cases e : μ[i]? with
    | none => rw [e] at h; cases h
    | some c =>
      rw [e] at h
      obtain ⟨b, hb, hc⟩ := r.at e
      rw [h1] at hb; cases hb
      cases hc with
      | lst h3 h4 h5 => cases h; exact ⟨a, _, h2, h3, h4, h5⟩
  | _ => cases h
/-- a new list: locked (false), or a cell of the memory -/
def newList (mu : Bool) (ds : List D) (μ : Mem) : Out D := if mu then .ok (.ref μ.length) (μ ++ [.lst ds]) else .ok (.lst ds) μ
abbrev lim : Nat := 16777216
theorem lim_eq : sizeLine = lim := sizeLine_eq
section
variable {K : KZ} {H : Hp} {ρ : List Addr} {μ : Mem} {W : WD}
theorem new_list {mu : Bool} {ds : List D} {vs : List V} {Q : VK} (r : Rel K H ρ μ) (q : RepL K H ρ ds vs) (hz : vs.length ≤ sizeLine) (h : Post K W (RD K) ρ H (newList mu ds μ) Q) {p : Addr} (hp : H p = none) : Q (.ref p) (upd H p (.lst vs)) := by
  cases mu with
  | false =>
    refine h.okK (keep_new hp) (r.new hp) ⟨p, vs, rfl, upd_same, r.out hp, hz, RepL.mono (keep_new hp) _ _ q⟩
  | true =>
    refine h.okK (keep_cell hp) (r.newCell hp hz q) ⟨p, ?_, rfl⟩
    rw [← r.len]; simp
theorem new_tup {ds : List D} {vs : List V} {Q : VK} (r : Rel K H ρ μ) (q : RepL K H ρ ds vs) (hz : vs.length ≤ sizeLine) (h : Post K W (RD K) ρ H (.ok (.tup ds) μ) Q) {p : Addr} (hp : H p = none) : Q (.ref p) (upd H p (.tup vs)) :=
  h.okK (keep_new hp) (r.new hp) ⟨p, vs, rfl, .inl (.inl upd_same), hz, RepL.mono (keep_new hp) _ _ q⟩
end
end PV

set_option maxRecDepth 100000
set_option maxHeartbeats 4000000
namespace PV
open PySem PySem.Spec PyProof.Rows L2
/-! ## operators -/
def addD (mu : Bool) (x y : D) (μ : Mem) : Out D :=
  match x, y with
  | .int a, .int b => .ok (.int (a + b)) μ
  | .str a, .str b => if a.length + b.length ≤ lim then .ok (.str (a ++ b)) μ else .bad
  | .tup a, .tup b => if a.length + b.length ≤ lim then .ok (.tup (a ++ b)) μ else .bad
  | x, y => match asList x μ with
    | some a => match asList y μ with
      | some b => if a.length + b.length ≤ lim then newList mu (a ++ b) μ else .bad
      | none => .bad
    | none => .bad
def mulD (mu : Bool) (x y : D) (μ : Mem) : Out D :=
  match x, y with
  | .int a, .int b => if a.natAbs.log2 + b.natAbs.log2 < 1000000 then .ok (.int (a * b)) μ else .bad
  | .tup a, .int k => if a.length ≤ 1000 ∧ k ≤ 1000 ∧ -1000 ≤ k then .ok (.tup (List.replicate k.toNat a).flatten) μ else .bad
  | x, .int k => match asList x μ with
    | some a => if a.length ≤ 1000 ∧ k ≤ 1000 ∧ -1000 ≤ k then newList mu (List.replicate k.toNat a).flatten μ else .bad
    | none => .bad
  | _, _ => .bad
def modD (x y : D) (μ : Mem) : Out D :=
  match x, y with
  | .int a, .int b => if 0 < b then .ok (.int (a % b)) μ else if b < 0 then .ok (.int (a.fmod b)) μ else .bad
  | _, _ => .bad
def divD (x y : D) (μ : Mem) : Out D :=
  match x, y with
  | .int a, .int b => if b.natAbs.log2 < 9000 then (if 0 < b then .ok (.int (a / b)) μ else if b < 0 then .ok (.int (a.fdiv b)) μ else .bad) else .bad
  | _, _ => .bad
def powD (x y : D) (μ : Mem) : Out D :=
  match x, y with
  | .int a, .int b => if 0 ≤ b ∧ b ≤ 1000000 ∧ a.natAbs < 18446744073709551616 then .ok (.int (a ^ b.toNat)) μ else .bad
  | _, _ => .bad
def shlD (x y : D) (μ : Mem) : Out D :=
  match x, y with
  | .int a, .int b => if 0 ≤ b ∧ b ≤ 1000000 ∧ a.natAbs < 18446744073709551616 then .ok (.int (a * 2 ^ b.toNat)) μ else .bad
  | _, _ => .bad
def binD (mu : Bool) (op : Operator) (x y : D) (μ : Mem) : Out D :=
  match op with
  | .Add => addD mu x y μ
  | .Sub => match x, y with
    | .int a, .int b => .ok (.int (a - b)) μ
    | _, _ => .bad
  | .Mult => mulD mu x y μ
  | .Mod => modD x y μ
  | .FloorDiv => divD x y μ
  | .Pow => powD x y μ
  | .LShift => shlD x y μ
  | _ => .bad
/-- a rule by values: what the operands are, what is wanted of the result -/
def r2D (K : PySem.W.Frag) (f : D → D → Mem → Out D) : R2 := fun v u H Q => ∃ (z : List Addr) (W : WD) (d e : D) (ρ : List Addr) (μ : Mem), Rel ⟨K, z⟩ H ρ μ ∧ Rep ⟨K, z⟩ H ρ d v ∧ Rep ⟨K, z⟩ H ρ e u ∧ Post ⟨K, z⟩ W (RD ⟨K, z⟩) ρ H (f d e μ) Q
theorem OpR.imp {X : Cx} {f : Value → Value → Sem Value} {r r' : R2} (h : OpR X f r) {x y : V} {H : Hp} {Q : VK} (g : r' x y H Q → r x y H Q) (pins : List (Addr × Obj)) (s : Shared) (σ : L2.St) (v u : Value) (I : Inv X pins σ H s) (rx : RelV x v) (ry : RelV y u) (hq : r' x y H Q) :
    wpAny (model X.prog X.w) X.A (f v u) (EP X pins σ Q) X.xe s := h pins s σ H x y v u Q I rx ry (g hq)
theorem meets_tmul1 (l : Addr) (items : Array Value) (n : Nat) (dd : Option Addr) (sl : Array (Option Value)) (x : Int) (u : Tok) (c0 : (decide (x < -(2 ^ 63)) || decide (x ≥ 2 ^ 63)) = false) (c1 : (items.isEmpty || x == 1) = true) :
    Meets (Builtin.«tuple.__mul__» ⟨[.ref l, .int x u], []⟩) (fun _ R s => s.heap.get? l = some { cls := .type "tuple", dict := dd, data := .seq items n, slots := sl } ∧ R (.ok (.ret (Value.ref l))) s) :=
  .of_wp fun prog w A R s h => by
    obtain ⟨hp, g, d, tk, os⟩ := s
    obtain ⟨hl, h⟩ := h
    have f1 := AutoSeq1.idx_int
    wp_walk using AutoSeq1.wpAny_loadPart' hl
    repeat (first
      | (refine wpAny_ite_false (decide_eq_false (by rw [c0]; exact Bool.false_ne_true)) ?_; wp_walk using AutoSeq1.wpAny_loadPart' hl)
      | (refine wpAny_ite_true (decide_eq_true (by rw [c1])) ?_; wp_walk using AutoSeq1.wpAny_loadPart' hl))
    exact ⟨_, rfl, h⟩
theorem meets_tmul0 (l : Addr) (items : Array Value) (n : Nat) (dd : Option Addr) (sl : Array (Option Value)) (x : Int) (u : Tok) (c0 : (decide (x < -(2 ^ 63)) || decide (x ≥ 2 ^ 63)) = false) (c1 : (items.isEmpty || x == 1) = false) (c2 : (decide (x ≤ 0) || items.isEmpty) = true) :
    Meets (Builtin.«tuple.__mul__» ⟨[.ref l, .int x u], []⟩) (fun _ R s => s.heap.get? l = some { cls := .type "tuple", dict := dd, data := .seq items n, slots := sl } ∧ R (.ok (.ret (Value.ref s.heap.objs.size))) { s with heap := s.heap.push { cls := Value.type "tuple", data := Data.seq #[] } }) :=
  .of_wp fun prog w A R s h => by
    obtain ⟨hp, g, d, tk, os⟩ := s
    obtain ⟨hl, h⟩ := h
    have f1 := AutoSeq1.idx_int
    have hsz : (#[] : Array Value).size ≤ sizeLine := Nat.zero_le _
    wp_walk using AutoSeq1.wpAny_loadPart' hl
    repeat (first
      | (refine wpAny_ite_false (decide_eq_false (by rw [c0]; exact Bool.false_ne_true)) ?_; wp_walk using AutoSeq1.wpAny_loadPart' hl)
      | (refine wpAny_ite_false (decide_eq_false (by rw [c1]; exact Bool.false_ne_true)) ?_; wp_walk using AutoSeq1.wpAny_loadPart' hl)
      | (refine wpAny_ite_true (decide_eq_true (by rw [c2])) ?_; wp_walk using AutoSeq1.wpAny_loadPart' hl)
      | (refine wpAny_ite_false (decide_eq_false (Nat.not_lt.mpr hsz)) ?_; wp_walk using AutoSeq1.wpAny_loadPart' hl))
    exact ⟨_, rfl, h⟩
section
variable {X : Cx}
/-- tuple * int, the places at which no new one of twice or more comes -/
def rRepT01 (K : PySem.W.Frag) : R2 := fun x y H Q => ∃ l k xs, x = .ref l ∧ y = .int k ∧ SqT K H l xs ∧ -1000 ≤ k ∧ k ≤ 1000 ∧
  (((xs = [] ∨ k = 1) ∧ Q (.ref l) H) ∨ (xs ≠ [] ∧ k ≤ 0 ∧ ∀ p, H p = none → Q (.ref p) (upd H p (.tup []))))
theorem op_repT01 : OpR X (binaryOp .Mult) (rRepT01 X.K) := by
  intro pins s σ H x y v u Q I rx ry h
  obtain ⟨l, k, xs, rfl, rfl, hT, h1, h2, hq⟩ := h
  cases rx
  obtain ⟨t, rfl⟩ := ry
  obtain ⟨its, r, ⟨⟨cls, dd, data, sl⟩, ho, hc, n, hd⟩, hs⟩ := I.tuple hT
  simp only at hc hd
  subst hc hd
  have hle : its.length = xs.length := r.length.symm
  have c0 : (decide (k < -(2 ^ 63)) || decide (k ≥ 2 ^ 63)) = false := by
    rw [decide_eq_false (by omega), decide_eq_false (by omega)] <;> rfl
  have emp : its.toArray.isEmpty = xs.isEmpty := by
    cases its with
    | nil => cases xs with
      | nil => rfl
      | cons _ _ => cases hle
    | cons _ _ => cases xs with
      | nil => cases hle
      | cons _ _ => rfl
  refine wpAny_binaryOp_repeat_ref (T := "tuple") (U := "int") (by decide) ⟨_, ho, rfl⟩ (fun s' => typeIs_int s' k t) noFill_tuple_mul F.fills_int_mul F.slot_int_rmul repeat_tuple F.slot_int_index.lookup
    (call_meets F.slot_int_rmul (typeIs_int s k t) F.entry_int_rmul (F.args_int_rmul_2 _ _) (int_rmul_tuple k t l its.toArray n dd sl) ⟨ho, rfl, ⟨_, ho, rfl⟩, ?_⟩)
  rcases hq with ⟨hk, q⟩ | ⟨hx, hk, q⟩
  · have c1 : (its.toArray.isEmpty || k == 1) = true := by
      rw [emp]
      rcases hk with hk | hk
      · rw [hk]; rfl
      · rw [hk]; simp
    exact call_meets F.slot_tuple_mul ⟨_, ho, rfl⟩ F.entry_tuple_mul (F.args_tuple_mul_2 _ _) (meets_tmul1 l its.toArray n dd sl k t c0 c1) ⟨ho, ⟨.ref l, H, I, rfl, q⟩⟩
  · have c1 : (its.toArray.isEmpty || k == 1) = false := by
      rw [emp]
      cases xs with
      | nil => exact absurd rfl hx
      | cons _ _ =>
        show (k == 1) = false
        exact beq_eq_false_iff_ne.mpr (by omega)
    have c2 : (decide (k ≤ 0) || its.toArray.isEmpty) = true := by rw [decide_eq_true hk]; rfl
    refine call_meets F.slot_tuple_mul ⟨_, ho, rfl⟩ F.entry_tuple_mul (F.args_tuple_mul_2 _ _) (meets_tmul0 l its.toArray n dd sl k t c0 c1 c2) ⟨ho, ?_⟩
    refine ⟨.ref s.heap.objs.size, _, I.laid (t' := s.toks) (o := .tup []) (fun b ob q => Heap.get?_push_of_some _ q) (Nat.le_refl _) ?_, rfl, q _ (I.hok.fresh (Nat.le_refl _))⟩
    exact ⟨Nat.zero_le _, [], .nil, IsTup.new _ _⟩
theorem flat_len {α : Type} (xs : List α) : ∀ k : Nat, (List.replicate k xs).flatten.length = k * xs.length
  | 0 => by simp
  | k + 1 => by rw [List.replicate_succ, List.flatten_cons, List.length_append, flat_len xs k, Nat.succ_mul, Nat.add_comm]
theorem rep_small {α : Type} {xs : List α} {k : Int} (h : xs.length ≤ 1000) (hk : k ≤ 1000) : xs.length * k.toNat ≤ 1000000 :=
  Nat.mul_le_mul h (show k.toNat ≤ 1000 by omega)
theorem op_addD {mu : Bool} : OpR X (binaryOp .Add) (r2D X.K (addD mu)) := by
  intro pins s σ H x y v u Q I rx ry h
  obtain ⟨zz, W, d, e, ρ, μ, r, qd, qe, p⟩ := h
  unfold addD at p
  split at p
  · cases qd; cases qe
    exact op_add pins s σ H _ _ v u Q I rx ry ⟨_, _, rfl, rfl, p.ok r rfl⟩
  · cases qd; cases qe
    split at p
    · rename_i hl
      exact op_add_str pins s σ H _ _ v u Q I rx ry ⟨_, _, rfl, rfl, by rw [lim_eq]; exact hl, p.ok r rfl⟩
    · exact p.elim
  · obtain ⟨a, xs, rfl, h1, h2, h3⟩ := qd
    obtain ⟨b, ys, rfl, g1, g2, g3⟩ := qe
    split at p
    · rename_i hl
      have hz : xs.length + ys.length ≤ sizeLine := by rw [h3.len, g3.len, lim_eq]; exact hl
      have hap := h3.append g3
      refine op_catA pins s σ H _ _ v u Q I rx ry ⟨a, b, xs, ys, rfl, rfl, h1, g1, hz, fun e => ?_, fun _ e => ?_, fun _ _ q hq => ?_⟩
      · refine p.ok r ⟨b, ys, rfl, g1, g2, ?_⟩
        rw [e] at hap; exact hap
      · refine p.ok r ⟨a, xs, rfl, h1, h2, ?_⟩
        rw [e, List.append_nil] at hap; exact hap
      · exact new_tup r hap (by rw [List.length_append]; exact hz) p hq
    · exact p.elim
  · split at p
    · rename_i e1
      split at p
      · rename_i e2
        obtain ⟨a, xs, rfl, h1, h2, h3⟩ := asList_ok r e1 qd
        obtain ⟨b, ys, rfl, g1, g2, g3⟩ := asList_ok r e2 qe
        split at p
        · rename_i hl
          have hz : xs.length + ys.length ≤ sizeLine := by rw [h3.len, g3.len, lim_eq]; exact hl
          exact op_cat pins s σ H _ _ v u Q I rx ry ⟨a, b, xs, ys, rfl, rfl, h1, g1, hz, fun q hq => new_list r (h3.append g3) (by rw [List.length_append]; exact hz) p hq⟩
        · exact p.elim
      · exact p.elim
    · exact p.elim
theorem op_mulD {mu : Bool} : OpR X (binaryOp .Mult) (r2D X.K (mulD mu)) := by
  intro pins s σ H x y v u Q I rx ry h
  obtain ⟨zz, W, d, e, ρ, μ, r, qd, qe, p⟩ := h
  unfold mulD at p
  split at p
  · cases qd; cases qe
    split at p
    · rename_i hl
      exact op_mulW pins s σ H _ _ v u Q I rx ry ⟨_, _, rfl, rfl, hl, p.ok r rfl⟩
    · exact p.elim
  · rename_i ds k
    obtain ⟨a, xs, rfl, h1, h2, h3⟩ := qd
    cases qe
    split at p
    · rename_i hl
      obtain ⟨l1, l2, l3⟩ := hl
      have hl1 : xs.length ≤ 1000 := by rw [h3.len]; exact l1
      have hap := h3.rep k.toNat
      have hz : (List.replicate k.toNat xs).flatten.length ≤ sizeLine := by
        rw [flat_len, Nat.mul_comm, lim_eq]
        exact Nat.le_trans (rep_small hl1 l2) (by decide)
      by_cases c1 : xs = [] ∨ k = 1
      · refine op_repT01 pins s σ H _ _ v u Q I rx ry ⟨a, k, xs, rfl, rfl, h1, l3, l2, .inl ⟨c1, p.ok r ⟨a, xs, rfl, h1, h2, ?_⟩⟩⟩
        rcases c1 with c1 | c1
        · rw [c1] at hap ⊢
          have : (List.replicate k.toNat ([] : List V)).flatten = [] := by simp
          rw [this] at hap; exact hap
        · subst c1
          have : (List.replicate (1 : Int).toNat xs).flatten = xs := by simp
          rw [this] at hap; exact hap
      · have hne : xs ≠ [] := fun z => c1 (.inl z)
        by_cases c2 : k ≤ 0
        · refine op_repT01 pins s σ H _ _ v u Q I rx ry ⟨a, k, xs, rfl, rfl, h1, l3, l2, .inr ⟨hne, c2, fun q hq => ?_⟩⟩
          have e : k.toNat = 0 := by omega
          have e2 : (List.replicate k.toNat xs).flatten = [] := by rw [e]; rfl
          rw [e2] at hap hz
          exact new_tup r hap hz p hq
        · have hk2 : 2 ≤ k := by
            have : k ≠ 1 := fun z => c1 (.inr z)
            omega
          exact op_repT pins s σ H _ _ v u Q I rx ry ⟨a, k, xs, rfl, rfl, h1, hne, hk2, l2, hl1, fun q hq => new_tup r hap hz p hq⟩
    · exact p.elim
  · rename_i k _ _
    split at p
    · rename_i e1
      obtain ⟨a, xs, rfl, h1, h2, h3⟩ := asList_ok r e1 qd
      cases qe
      split at p
      · rename_i hl
        obtain ⟨l1, l2, l3⟩ := hl
        have hl1 : xs.length ≤ 1000 := by rw [h3.len]; exact l1
        have hm : xs.length * k.toNat ≤ sizeLine := by rw [lim_eq]; exact Nat.le_trans (rep_small hl1 l2) (by decide)
        refine op_rep pins s σ H _ _ v u Q I rx ry ⟨a, k, xs, rfl, rfl, h1, by omega, by omega, hm, fun q hq => new_list r (h3.rep k.toNat) ?_ p hq⟩
        rw [flat_len, Nat.mul_comm]; exact hm
      · exact p.elim
    · exact p.elim
  · exact p.elim
theorem op_binD {mu : Bool} {op : Operator} : OpR X (binaryOp op) (r2D X.K (binD mu op)) := by
  cases op with
  | Add => exact op_addD
  | Mult => exact op_mulD
  | Sub =>
    intro pins s σ H x y v u Q I rx ry h
    obtain ⟨zz, W, d, e, ρ, μ, r, qd, qe, p⟩ := h
    unfold binD at p
    simp only at p
    split at p
    · cases qd; cases qe
      exact op_sub pins s σ H _ _ v u Q I rx ry ⟨_, _, rfl, rfl, p.ok r rfl⟩
    · exact p.elim
  | Mod =>
    intro pins s σ H x y v u Q I rx ry h
    obtain ⟨zz, W, d, e, ρ, μ, r, qd, qe, p⟩ := h
    simp only [binD, modD] at p
    split at p
    · cases qd; cases qe
      split at p
      · rename_i hb
        exact op_mod pins s σ H _ _ v u Q I rx ry ⟨_, _, rfl, rfl, hb, p.ok r rfl⟩
      · split at p
        · rename_i hb
          exact op_modN pins s σ H _ _ v u Q I rx ry ⟨_, _, rfl, rfl, by omega, p.ok r rfl⟩
        · exact p.elim
    · exact p.elim
  | FloorDiv =>
    intro pins s σ H x y v u Q I rx ry h
    obtain ⟨zz, W, d, e, ρ, μ, r, qd, qe, p⟩ := h
    simp only [binD, divD] at p
    split at p
    · cases qd; cases qe
      split at p
      · rename_i hl
        split at p
        · rename_i hb
          exact op_fdivW pins s σ H _ _ v u Q I rx ry ⟨_, _, rfl, rfl, ⟨hb, hl⟩, p.ok r rfl⟩
        · split at p
          · rename_i hb
            obtain ⟨t1, rfl⟩ := rx
            obtain ⟨t2, rfl⟩ := ry
            exact floordiv_int (by omega) ⟨.int _, H, I.tok _, ⟨_, rfl⟩, p.ok r rfl⟩ (.inl (PyProof.noPylong_of_log2 hl))
          · exact p.elim
      · exact p.elim
    · exact p.elim
  | Pow =>
    intro pins s σ H x y v u Q I rx ry h
    obtain ⟨zz, W, d, e, ρ, μ, r, qd, qe, p⟩ := h
    simp only [binD, powD] at p
    split at p
    · cases qd; cases qe
      split at p
      · rename_i hb
        exact op_pow pins s σ H _ _ v u Q I rx ry ⟨_, _, rfl, rfl, ⟨hb.1, hb.2.1, hb.2.2⟩, p.ok r rfl⟩
      · exact p.elim
    · exact p.elim
  | LShift =>
    intro pins s σ H x y v u Q I rx ry h
    obtain ⟨zz, W, d, e, ρ, μ, r, qd, qe, p⟩ := h
    simp only [binD, shlD] at p
    split at p
    · cases qd; cases qe
      split at p
      · rename_i hb
        exact op_shl pins s σ H _ _ v u Q I rx ry ⟨_, _, rfl, rfl, ⟨hb.1, hb.2.1, hb.2.2⟩, p.ok r rfl⟩
      · exact p.elim
    · exact p.elim
  | _ =>
    intro pins s σ H x y v u Q I rx ry h
    obtain ⟨zz, W, d, e, ρ, μ, r, qd, qe, p⟩ := h
    exact p.elim
end
end PV

set_option maxRecDepth 100000
set_option maxHeartbeats 4000000
namespace PV
open PySem PySem.Spec PyProof.Rows L2
/-! ## comparisons -/
def intsOf : List D → Option (List Int)
  | [] => some []
  | .int i :: r => match intsOf r with
    | some l => some (i :: l)
    | none => none
  | _ :: _ => none
def eqM (x y : D) (μ : Mem) : Option Bool :=
  match x, y with
  | .int a, .int b => some (a == b)
  | .str a, .str b => some (decide (a = b))
  | x, y => match toPD μ x with
    | some a => match toPD μ y with
      | some b => some (PyData.eqv a b)
      | none => none
    | none => none
def isM (x y : D) : Option Bool :=
  match x, y with
  | .non, .non => some true
  | _, .non => some false
  | .bl a, .bl b => some (a == b)
  | _, .bl _ => some false
  | _, _ => none
/-- the items of a tuple or a list -/
def asSeq (d : D) (μ : Mem) : Option (List D) :=
  match d with
  | .tup ds => some ds
  | d => asList d μ
def inM (x y : D) (μ : Mem) : Option Bool :=
  match x, y with
  | .str a, .str b => some (!(Builtin.Str.occurrences b a 0 b.length 1).isEmpty)
  | x, y => match toPD μ x with
    | some a => match asSeq y μ with
      | some ds => match toPDs μ ds with
        | some bs => some (bs.any fun z => PyData.eqv z a)
        | none => none
      | none => none
    | none => none
def ltM (x y : D) : Option Bool :=
  match x, y with
  | .int a, .int b => some (decide (a < b))
  | .str a, .str b => some (decide (a.cps.toList < b.cps.toList))
  | .tup a, .tup b => match intsOf a with
    | some as => match intsOf b with
      | some bs => some (HT.lexLt as bs)
      | none => none
    | none => none
  | _, _ => none
def cmpM (op : CmpOp) (x y : D) (μ : Mem) : Option Bool :=
  match op with
  | .Eq => eqM x y μ
  | .NotEq => match eqM x y μ with
    | some b => some (!b)
    | none => none
  | .Is => isM x y
  | .IsNot => match isM x y with
    | some b => some (!b)
    | none => none
  | .In => inM x y μ
  | .NotIn => match inM x y μ with
    | some b => some (!b)
    | none => none
  | .Lt => ltM x y
  | .LtE => match x, y with
    | .int a, .int b => some (decide (a ≤ b))
    | _, _ => none
  | .Gt => match x, y with
    | .int a, .int b => some (decide (b < a))
    | _, _ => none
  | .GtE => match x, y with
    | .int a, .int b => some (decide (b ≤ a))
    | _, _ => none
def ofOpt (o : Option Bool) (μ : Mem) : Out D :=
  match o with
  | some b => .ok (.bl b) μ
  | none => .bad
def cmpD (op : CmpOp) (x y : D) (μ : Mem) : Out D := ofOpt (cmpM op x y μ) μ
theorem intsOf_map : ∀ {ds : List D} {l : List Int}, intsOf ds = some l → ds = l.map D.int
  | [], l, h => by cases h; rfl
  | d :: r, l, h => by
    cases d <;> simp only [intsOf] at h <;> try cases h
    cases e : intsOf r with
    | none => rw [e] at h; cases h
    | some m => rw [e] at h; cases h; rw [intsOf_map e]; rfl
theorem RepL.ints {K : KZ} {H : Hp} {ρ : List Addr} : ∀ {l : List Int} {vs : List V}, RepL K H ρ (l.map D.int) vs → vs = l.map V.int
  | [], vs, h => h
  | i :: l, vs, h => by
    obtain ⟨v, r, rfl, h1, h2⟩ := h
    cases h1
    rw [RepL.ints h2]; rfl
theorem is_bool_gen {M : Model} {A : Around} {E : Value → Shared → Prop} {s : Shared} {x : V} {v : Value} {b : Bool} {Q : Value → Shared → Prop} (r : RelV x v) (h : Q (.bool (v == .bool b)) s) : wpAny M A (compareOp .Is v (.bool b)) Q E s := by
  cases x <;> first
    | (cases r; exact wpAny_pure h)
    | (obtain ⟨t, rfl⟩ := r; exact wpAny_pure h)
theorem isnot_bool_gen {M : Model} {A : Around} {E : Value → Shared → Prop} {s : Shared} {x : V} {v : Value} {b : Bool} {Q : Value → Shared → Prop} (r : RelV x v) (h : Q (.bool (!(v == .bool b))) s) : wpAny M A (compareOp .IsNot v (.bool b)) Q E s := by
  cases x <;> first
    | (cases r; exact wpAny_pure h)
    | (obtain ⟨t, rfl⟩ := r; exact wpAny_pure h)
section
variable {K : KZ} {H : Hp} {ρ : List Addr} {μ : Mem}
theorem asSeq_ok (r : Rel K H ρ μ) {d : D} {v : V} {ds : List D} (h : asSeq d μ = some ds) (q : Rep K H ρ d v) : ∃ p vs, v = .ref p ∧ (SqL K H p vs ∨ SqT K H p vs) ∧ vs.length ≤ sizeLine ∧ RepL K H ρ ds vs := by
  cases d with
  | tup es =>
    obtain ⟨p, vs, h1, h2, h3, h4⟩ := q
    cases h
    exact ⟨p, vs, h1, .inr h2, h3, h4⟩
  | lst es =>
    obtain ⟨p, vs, h1, h2, h3, h4⟩ := asList_ok r (show asList (.lst es) μ = some ds from h) q
    exact ⟨p, vs, h1, .inl (SqL.of h2), h3, h4⟩
  | ref i =>
    obtain ⟨p, vs, h1, h2, h3, h4⟩ := asList_ok r (show asList (.ref i) μ = some ds from h) q
    exact ⟨p, vs, h1, .inl (SqL.of h2), h3, h4⟩
  | _ => cases h
/-- what is at y tells None and the bools apart from all else -/
theorem isM_ok {x y : D} {v u : V} {b : Bool} (h : isM x y = some b) (qx : Rep K H ρ x v) (qy : Rep K H ρ y u) : (u = .non ∧ b = decide (v = .non)) ∨ ∃ c, u = .bl c ∧ b = decide (v = .bl c) := by
  cases y with
  | non =>
    cases qy
    refine .inl ⟨rfl, ?_⟩
    cases x with
    | non => cases qx; cases h; rfl
    | bl _ => cases qx; cases h; rfl
    | int _ => cases qx; cases h; rfl
    | str _ => cases qx; cases h; rfl
    | tup _ => obtain ⟨p, vs, rfl, _⟩ := qx; cases h; rfl
    | lst _ => obtain ⟨p, vs, rfl, _⟩ := qx; cases h; rfl
    | scr _ => obtain ⟨p, vs, rfl, _⟩ := qx; cases h; rfl
    | ref _ => obtain ⟨a, _, rfl⟩ := qx; cases h; rfl
  | bl c =>
    cases qy
    refine .inr ⟨c, rfl, ?_⟩
    cases x with
    | non => cases qx; cases h; rfl
    | bl a =>
      cases qx; cases h
      by_cases e : a = c
      · subst e; simp
      · have : ¬ (V.bl a = V.bl c) := fun z => e (V.bl.inj z)
        rw [decide_eq_false this]; simpa using e
    | int _ => cases qx; cases h; rfl
    | str _ => cases qx; cases h; rfl
    | tup _ => obtain ⟨p, vs, rfl, _⟩ := qx; cases h; rfl
    | lst _ => obtain ⟨p, vs, rfl, _⟩ := qx; cases h; rfl
    | scr _ => obtain ⟨p, vs, rfl, _⟩ := qx; cases h; rfl
    | ref _ => obtain ⟨a, _, rfl⟩ := qx; cases h; rfl
  | _ => cases x <;> cases h
end
theorem rel_bool {x : V} {v : Value} {c : Bool} (r : RelV x v) : (v == Value.bool c) = decide (x = .bl c) := by
  cases x with
  | bl a =>
    cases r
    by_cases e : a = c
    · subst e; simp
    · have h1 : ¬ (V.bl a = V.bl c) := fun z => e (V.bl.inj z)
      have h2 : ¬ (Value.bool a = Value.bool c) := fun z => e (Value.bool.inj z)
      rw [decide_eq_false h1]
      exact beq_eq_false_iff_ne.mpr h2
  | non => cases r; rfl
  | int _ => obtain ⟨t, rfl⟩ := r; rfl
  | str _ => obtain ⟨t, rfl⟩ := r; rfl
  | byt _ => obtain ⟨t, rfl⟩ := r; rfl
  | flt _ => obtain ⟨t, rfl⟩ := r; rfl
  | ref _ => cases r; rfl
  | ty _ => cases r; rfl
section
variable {X : Cx}
theorem op_eqM {zz : List Addr} (hu : X.A.units + 64 < cLine) {v u : V} {d e : D} {ρ : List Addr} {μ : Mem} {H : Hp} {b : Bool} (r : Rel ⟨X.K, zz⟩ H ρ μ) (qd : Rep ⟨X.K, zz⟩ H ρ d v) (qe : Rep ⟨X.K, zz⟩ H ρ e u) (h : eqM d e μ = some b) {Q : VK} (q : Q (.bl b) H) :
    (∀ (pins : List (Addr × Obj)) (s : Shared) (σ : L2.St) (x y : Value), Inv X pins σ H s → RelV v x → RelV u y → wpAny (model X.prog X.w) X.A (compareOp .Eq x y) (EP X pins σ Q) X.xe s) ∧
    (∀ (Q' : VK), Q' (.bl (!b)) H → ∀ (pins : List (Addr × Obj)) (s : Shared) (σ : L2.St) (x y : Value), Inv X pins σ H s → RelV v x → RelV u y → wpAny (model X.prog X.w) X.A (compareOp .NotEq x y) (EP X pins σ Q') X.xe s) := by
  unfold eqM at h
  split at h
  · cases qd; cases qe; cases h
    refine ⟨fun pins s σ x y I rx ry => op_eq pins s σ H _ _ x y Q I rx ry ⟨rfl, ?_⟩, fun Q' q' pins s σ x y I rx ry => op_ne pins s σ H _ _ x y Q' I rx ry ⟨rfl, ?_⟩⟩
    · rw [dec_int]; exact q
    · rw [dec_int]; exact q'
  · cases qd; cases qe; cases h
    refine ⟨fun pins s σ x y I rx ry => op_eq pins s σ H _ _ x y Q I rx ry ⟨rfl, ?_⟩, fun Q' q' pins s σ x y I rx ry => op_ne pins s σ H _ _ x y Q' I rx ry ⟨rfl, ?_⟩⟩
    · rw [dec_str]; simpa [Bool.beq_eq_decide_eq] using q
    · rw [dec_str]; simpa [Bool.beq_eq_decide_eq] using q'
  · split at h
    · rename_i p1 e1
      split at h
      · rename_i p2 e2
        cases h
        have a1 := toPD_ok r e1 qd
        have a2 := toPD_ok r e2 qe
        exact ⟨fun pins s σ x y I rx ry => op_eqD hu pins s σ H _ _ x y Q I rx ry ⟨_, _, a1.1, a2.1, a1.shaped, a2.shaped, q⟩,
          fun Q' q' pins s σ x y I rx ry => op_neD hu pins s σ H _ _ x y Q' I rx ry ⟨_, _, a1.1, a2.1, a1.shaped, a2.shaped, q'⟩⟩
      · cases h
    · cases h
theorem op_inM {zz : List Addr} (hu : X.A.units + 128 < cLine) {v u : V} {d e : D} {ρ : List Addr} {μ : Mem} {H : Hp} {b : Bool} (r : Rel ⟨X.K, zz⟩ H ρ μ) (qd : Rep ⟨X.K, zz⟩ H ρ d v) (qe : Rep ⟨X.K, zz⟩ H ρ e u) (h : inM d e μ = some b) :
    (∀ (Q : VK), Q (.bl b) H → ∀ (pins : List (Addr × Obj)) (s : Shared) (σ : L2.St) (x y : Value), Inv X pins σ H s → RelV v x → RelV u y → wpAny (model X.prog X.w) X.A (compareOp .In x y) (EP X pins σ Q) X.xe s) ∧
    (∀ (Q' : VK), Q' (.bl (!b)) H → ∀ (pins : List (Addr × Obj)) (s : Shared) (σ : L2.St) (x y : Value), Inv X pins σ H s → RelV v x → RelV u y → wpAny (model X.prog X.w) X.A (compareOp .NotIn x y) (EP X pins σ Q') X.xe s) := by
  unfold inM at h
  split at h
  · cases qd; cases qe; cases h
    exact ⟨fun Q q pins s σ x y I rx ry => op_in_str pins s σ H _ _ x y Q I rx ry ⟨_, _, rfl, rfl, q⟩, fun Q' q' pins s σ x y I rx ry => op_notin_str pins s σ H _ _ x y Q' I rx ry ⟨_, _, rfl, rfl, q'⟩⟩
  · split at h
    · rename_i p1 e1
      split at h
      · rename_i ds e2
        split at h
        · rename_i bs e3
          cases h
          obtain ⟨hd, ld, dd⟩ := toPD_ok r e1 qd
          obtain ⟨p, vs, rfl, hs, _, hr⟩ := asSeq_ok r e2 qe
          obtain ⟨hb, lb, db⟩ := toPDs_ok r e3 hr
          have room : X.A.units + 1 + min (PyData.depthAll bs) p1.depth < cLine := by
            have : min (PyData.depthAll bs) p1.depth ≤ 60 := Nat.le_trans (Nat.min_le_right _ _) dd
            omega
          rcases hs with hs | hs
          · have hl : Dp X.K H (.ref p) (.list bs) := .lst hs hb
            refine ⟨fun Q q pins s σ x y I rx ry => ?_, fun Q' q' pins s σ x y I rx ry => ?_⟩
            · obtain ⟨as, r1⟩ := Dp.reads I _ _ x hd rx
              obtain ⟨cs, r2⟩ := Dp.reads I _ _ y hl ry
              exact SeqAt.in_list_reads r2 r1 lb ld room ⟨.bl _, H, I, rfl, q⟩
            · obtain ⟨as, r1⟩ := Dp.reads I _ _ x hd rx
              obtain ⟨cs, r2⟩ := Dp.reads I _ _ y hl ry
              exact SeqAt.notIn_list_reads r2 r1 lb ld room ⟨.bl _, H, I, rfl, q'⟩
          · have hl : Dp X.K H (.ref p) (.tuple bs) := .tup hs hb
            refine ⟨fun Q q pins s σ x y I rx ry => ?_, fun Q' q' pins s σ x y I rx ry => ?_⟩
            · obtain ⟨as, r1⟩ := Dp.reads I _ _ x hd rx
              obtain ⟨cs, r2⟩ := Dp.reads I _ _ y hl ry
              exact SeqAt.in_tuple_reads r2 r1 lb ld room ⟨.bl _, H, I, rfl, q⟩
            · obtain ⟨as, r1⟩ := Dp.reads I _ _ x hd rx
              obtain ⟨cs, r2⟩ := Dp.reads I _ _ y hl ry
              exact SeqAt.notIn_tuple_reads r2 r1 lb ld room ⟨.bl _, H, I, rfl, q'⟩
        · cases h
      · cases h
    · cases h
theorem op_cmpD (hu : X.A.units + 200 < cLine) {op : CmpOp} : OpR X (compareOp op) (r2D X.K (cmpD op)) := by
  intro pins s σ H x y v u Q I rx ry h
  obtain ⟨zz, W, d, e, ρ, μ, r, qd, qe, p⟩ := h
  unfold cmpD at p
  cases hb : cmpM op d e μ with
  | none => rw [hb] at p; exact p.elim
  | some b =>
    rw [hb] at p
    have q : Q (.bl b) H := p.ok r rfl
    cases op with
    | Eq => exact (op_eqM (Q := Q) (by omega) r qd qe hb q).1 pins s σ v u I rx ry
    | NotEq =>
      simp only [cmpM] at hb
      cases e1 : eqM d e μ with
      | none => rw [e1] at hb; cases hb
      | some c =>
        rw [e1] at hb; cases hb
        exact (op_eqM (Q := fun _ _ => True) (by omega) r qd qe e1 trivial).2 Q q pins s σ v u I rx ry
    | In => exact (op_inM (by omega) r qd qe hb).1 Q q pins s σ v u I rx ry
    | NotIn =>
      simp only [cmpM] at hb
      cases e1 : inM d e μ with
      | none => rw [e1] at hb; cases hb
      | some c =>
        rw [e1] at hb; cases hb
        exact (op_inM (by omega) r qd qe e1).2 Q q pins s σ v u I rx ry
    | Is =>
      rcases isM_ok hb qd qe with ⟨rfl, rfl⟩ | ⟨c, rfl, rfl⟩
      · exact op_isN pins s σ H _ _ v u Q I rx ry ⟨rfl, q⟩
      · cases ry
        exact is_bool_gen rx ⟨.bl _, H, I, by rw [rel_bool rx]; rfl, q⟩
    | IsNot =>
      simp only [cmpM] at hb
      cases e1 : isM d e with
      | none => rw [e1] at hb; cases hb
      | some c =>
        rw [e1] at hb; cases hb
        rcases isM_ok e1 qd qe with ⟨rfl, rfl⟩ | ⟨c, rfl, rfl⟩
        · exact op_notN pins s σ H _ _ v u Q I rx ry ⟨rfl, q⟩
        · cases ry
          exact isnot_bool_gen rx ⟨.bl _, H, I, by rw [rel_bool rx]; rfl, q⟩
    | Lt =>
      simp only [cmpM, ltM] at hb
      split at hb
      · cases qd; cases qe; cases hb
        exact op_lt pins s σ H _ _ v u Q I rx ry ⟨_, _, rfl, rfl, q⟩
      · cases qd; cases qe; cases hb
        exact op_lt_str pins s σ H _ _ v u Q I rx ry ⟨_, _, rfl, rfl, q⟩
      · rename_i a c
        split at hb
        · rename_i as ea
          split at hb
          · rename_i cs ec
            cases hb
            obtain ⟨p1, v1, rfl, t1, _, l1⟩ := qd
            obtain ⟨p2, v2, rfl, t2, _, l2⟩ := qe
            rw [intsOf_map ea] at l1
            rw [intsOf_map ec] at l2
            have z1 := RepL.ints l1
            have z2 := RepL.ints l2
            subst z1; subst z2
            exact op_ltT (by omega) pins s σ H _ _ v u Q I rx ry ⟨_, _, _, _, rfl, rfl, t1, t2, q⟩
          · cases hb
        · cases hb
      · cases hb
    | LtE =>
      simp only [cmpM] at hb
      split at hb
      · cases qd; cases qe; cases hb
        exact op_le pins s σ H _ _ v u Q I rx ry ⟨_, _, rfl, rfl, q⟩
      · cases hb
    | Gt =>
      simp only [cmpM] at hb
      split at hb
      · cases qd; cases qe; cases hb
        exact op_gt pins s σ H _ _ v u Q I rx ry ⟨_, _, rfl, rfl, q⟩
      · cases hb
    | GtE =>
      simp only [cmpM] at hb
      split at hb
      · cases qd; cases qe; cases hb
        exact op_ge pins s σ H _ _ v u Q I rx ry ⟨_, _, rfl, rfl, q⟩
      · cases hb
/-! ## truth, length -/
end
def truM (x : D) (μ : Mem) : Option Bool :=
  match x with
  | .non => some false
  | .bl b => some b
  | .int i => some (i != 0)
  | .str x => if x.length ≤ lim then some ((x.length : Int) != 0) else none
  | .tup ds => some (!ds.isEmpty)
  | .scr _ => none
  | x => match asList x μ with
    | some ds => some (!ds.isEmpty)
    | none => none
theorem RepL.isEmpty {K : KZ} {H : Hp} {ρ : List Addr} {ds : List D} {vs : List V} (h : RepL K H ρ ds vs) : vs.isEmpty = ds.isEmpty := by
  have := h.len
  cases ds <;> cases vs <;> simp_all
theorem truM_ok {K : KZ} {H : Hp} {ρ : List Addr} {μ : Mem} (r : Rel K H ρ μ) {d : D} {v : V} {b : Bool} (h : truM d μ = some b) (q : Rep K H ρ d v) : TruV K v H b := by
  cases d with
  | non => cases q; cases h; rfl
  | bl c => cases q; cases h; rfl
  | int i => cases q; cases h; rfl
  | str x =>
    cases q
    simp only [truM] at h
    split at h
    · rename_i hl
      cases h
      exact ⟨by rw [lim_eq]; exact hl, rfl⟩
    · cases h
  | tup ds =>
    obtain ⟨p, vs, rfl, h1, h2, h3⟩ := q
    cases h
    exact .inr (.inl ⟨vs, h1, by rw [h3.isEmpty]⟩)
  | scr ds => cases h
  | lst ds =>
    obtain ⟨p, vs, rfl, h1, h2, h3⟩ := asList_ok r (d := .lst ds) rfl q
    cases h
    exact .inl ⟨vs, SqL.of h1, by rw [h3.isEmpty]⟩
  | ref i =>
    simp only [truM] at h
    cases e : asList (.ref i) μ with
    | none => rw [e] at h; cases h
    | some ds =>
      rw [e] at h; cases h
      obtain ⟨p, vs, rfl, h1, h2, h3⟩ := asList_ok r e q
      exact .inl ⟨vs, SqL.of h1, by rw [h3.isEmpty]⟩
end PV

set_option maxRecDepth 100000
set_option maxHeartbeats 4000000
namespace PV
open PySem PySem.Spec PyProof.Rows L2
/-! ## the language -/
abbrev G := List D → Mem → Out D
inductive Blt where
  | len | int | abs | list | tuple | max2 | min2 | max | min | sum | all | any | repr | sorted | str
  deriving DecidableEq
inductive Mth where
  | append | extend | pop | popAt | count
  deriving DecidableEq
mutual
inductive E where
  | var (i : Nat)
  | cst (d : D)
  | glo (x : Str) (d : D)
  | tup (es : Es)
  | lst (mu : Bool) (es : Es)
  | bin (mu : Bool) (op : Operator) (a b : E)
  | neg (a : E)
  | not (a : E)
  | cmp (op : CmpOp) (a b : E)
  | cmp2 (op op' : CmpOp) (a b c : E)
  | and (a b : E)
  | or (a b : E)
  | ife (c a b : E)
  | idx (a i : E)
  | slc (mu : Bool) (a : E) (lo hi : Eo)
  | rev (mu : Bool) (a : E)
  | call (x : Str) (ps : List Str) (g : G) (es : Es)
  | callK (x : Str) (ps : List Str) (g : G) (es : Es) (ks : List Str) (kes : Es)
  | blt (f : Blt) (mu : Bool) (es : Es)
  | lrev (mu : Bool) (a : E)
  | mth (m : Mth) (o : E) (es : Es)
  | comp (mu : Bool) (own : List Nat) (tg : Tg) (it : It) (c : Eo) (e : E)
  | comp2 (mu : Bool) (own own1 : List Nat) (tg : Tg) (it : It) (c : Eo) (tg1 : Tg) (it1 : It) (c1 : Eo) (e : E)
inductive Es where
  | nil
  | cons (e : E) (es : Es)
inductive Eo where
  | no
  | yes (e : E)
inductive It where
  | val (e : E)
  | rng1 (a : E)
  | rng2 (a b : E)
  | rng3 (a b c : E)
  | enu (e : E)
  | zip (a b : E)
  | rev (e : E)
inductive Tg where
  | nm (i : Nat)
  | tup (ts : Tgs)
  | sub (o i : E)
inductive Tgs where
  | nil
  | cons (t : Tg) (ts : Tgs)
end
inductive Fl where
  | nx (env : EnvD)
  | rt (d : D)
  | bk (env : EnvD)
  | ct (env : EnvD)
inductive OutS where
  | ok (f : Fl) (μ : Mem)
  | err (c : Nat) (fs : List D) (env : EnvD) (μ : Mem)
  | bad
mutual
inductive S where
  | asg (tg : Tg) (e : E)
  | par2 (i j : Nat) (a b : E)
  | par3 (i j k : Nat) (a b c : E)
  | aug (op : Operator) (i : Nat) (e : E)
  | expr (e : E)
  | ret (e : E)
  | retN
  | ife (c : E) (a b : Ss)
  | whl (fuel : Nat) (c : E) (b : Ss)
  | fore (tg : Tg) (it : It) (b : Ss)
  | brk
  | cont
  | pass
  | dead
inductive Ss where
  | nil
  | cons (s : S) (ss : Ss)
end

/-! ## what it means -/
def lenM (x : D) (μ : Mem) : Option Nat :=
  match x with
  | .str z => if z.length ≤ lim then some z.length else none
  | .scr ds => some ds.length
  | x => match asSeq x μ with
    | some ds => some ds.length
    | none => none
def blsOf : List D → Option (List Bool)
  | [] => some []
  | .bl i :: r => match blsOf r with
    | some l => some (i :: l)
    | none => none
  | _ :: _ => none
def reprM (x : D) (μ : Mem) : Option Str :=
  match toPD μ x with
  | some p => if p.showable && decide (p.shown.length ≤ lim) then some p.shown else none
  | none => none
def insertI (x : Int) : List Int → List Int
  | [] => [x]
  | y :: r => if x ≤ y then x :: y :: r else y :: insertI x r
def sortI : List Int → List Int
  | [] => []
  | x :: r => insertI x (sortI r)
def bltD (f : Blt) (mu : Bool) (args : List D) (μ : Mem) : Out D :=
  match f, args with
  | .len, [x] => match lenM x μ with
    | some n => .ok (.int n) μ
    | none => .bad
  | .int, [.int i] => .ok (.int i) μ
  | .int, [.bl b] => .ok (.int (if b then 1 else 0)) μ
  | .abs, [.int i] => .ok (.int (if i < 0 then -i else i)) μ
  | .list, [x] => match (match x with | .scr ds => some ds | x => asSeq x μ) with
    | some ds => newList mu ds μ
    | none => .bad
  | .tuple, [.tup ds] => .ok (.tup ds) μ
  | .tuple, [x] => match asList x μ with
    | some ds => .ok (.tup ds) μ
    | none => .bad
  | .max2, [.int i, .int j] => .ok (.int (if j > i then j else i)) μ
  | .min2, [.int i, .int j] => .ok (.int (if j < i then j else i)) μ
  | .max, [x] => match asList x μ with
    | some ds => match intsOf ds with
      | some (n :: ns) => .ok (.int (ns.foldl (fun a b => if b > a then b else a) n)) μ
      | _ => .bad
    | none => .bad
  | .min, [x] => match asList x μ with
    | some ds => match intsOf ds with
      | some (n :: ns) => .ok (.int (ns.foldl (fun a b => if b < a then b else a) n)) μ
      | _ => .bad
    | none => .bad
  | .sum, [x] => match asList x μ with
    | some ds => match intsOf ds with
      | some ns => .ok (.int ns.sum) μ
      | none => .bad
    | none => .bad
  | .all, [x] => match asList x μ with
    | some ds => match blsOf ds with
      | some bs => .ok (.bl (bs.all id)) μ
      | none => .bad
    | none => .bad
  | .any, [x] => match asList x μ with
    | some ds => match blsOf ds with
      | some bs => .ok (.bl (bs.any id)) μ
      | none => .bad
    | none => .bad
  | .repr, [x] => match reprM x μ with
    | some z => .ok (.str z) μ
    | none => .bad
  | .sorted, [x] => match asList x μ with
    | some ds => match intsOf ds with
      | some ns => if ns.length < 64 then newList mu ((sortI ns).map D.int) μ else .bad
      | none => .bad
    | none => .bad
  | .str, [.int i] => if i.natAbs.log2 < 1920 then .ok (.str (toString i)) μ else .bad
  | _, _ => .bad
def mthD (m : Mth) (o : D) (args : List D) (μ : Mem) : Out D :=
  match m, o, args with
  | .append, .ref i, [x] => match μ[i]? with
    | some (.lst ds) => if ds.length < lim then .ok .non (μ.set i (.lst (ds ++ [x]))) else .bad
    | none => .bad
  | .extend, .ref i, [x] => match μ[i]? with
    | some (.lst ds) => match asList x μ with
      | some es => if ds.length + es.length ≤ lim then .ok .non (μ.set i (.lst (ds ++ es))) else .bad
      | none => .bad
    | none => .bad
  | .pop, .ref i, [] => match μ[i]? with
    | some (.lst ds) => match ds[ds.length - 1]? with
      | some x => .ok x (μ.set i (.lst ds.dropLast))
      | none => .bad
    | none => .bad
  | .popAt, .ref i, [.int 0] => match μ[i]? with
    | some (.lst (x :: ds)) => .ok x (μ.set i (.lst ds))
    | _ => .bad
  | .count, o, [.int k] => match asList o μ with
    | some ds => match intsOf ds with
      | some ns => .ok (.int (ns.countP (· == k))) μ
      | none => .bad
    | none => .bad
  | _, _, _ => .bad
def getD (x i : D) (μ : Mem) : Out D :=
  match x, i with
  | .str z, .int i => if z.length ≤ lim then (match atI z.cps.toList i with | some c => .ok (.str ⟨#[c]⟩) μ | none => .bad) else .bad
  | .scr ds, .int i => match atI ds i with
    | some d => .ok d μ
    | none => .bad
  | x, .int i => match asSeq x μ with
    | some ds => match atI ds i with
      | some d => .ok d μ
      | none => .bad
    | none => .bad
  | _, _ => .bad
def cutD (xs : List D) (lo hi : Option Int) : List D := (xs.drop (HT.sIx xs.length 0 lo)).take (HT.sIx xs.length xs.length hi - HT.sIx xs.length 0 lo)
def slcD (mu : Bool) (x : D) (lo hi : Option Int) (μ : Mem) : Out D :=
  match x with
  | .tup ds => .ok (.tup (cutD ds lo hi)) μ
  | .scr ds => newList mu (cutD ds lo hi) μ
  | x => match asList x μ with
    | some ds => newList mu (cutD ds lo hi) μ
    | none => .bad
def revD (mu : Bool) (x : D) (μ : Mem) : Out D :=
  match x with
  | .tup ds => .ok (.tup ds.reverse) μ
  | x => match asList x μ with
    | some ds => newList mu ds.reverse μ
    | none => .bad
def setItD (o i v : D) (μ : Mem) : Option Mem :=
  match o, i with
  | .ref r, .int k => match μ[r]? with
    | some (.lst ds) => match ixN ds.length k with
      | some j => some (μ.set r (.lst (ds.set j v)))
      | none => none
    | none => none
  | _, _ => none
abbrev Grd := List (Nat × List D)
def okG (g : Grd) (μ : Mem) : Bool := g.all fun p => match μ[p.1]? with
  | some (.lst es) => D.beqL es p.2
  | none => false
/-- what is walked: the items, and the cells that must stay -/
def itemsD (x : D) (μ : Mem) : Option (List D × Grd) :=
  match x with
  | .tup ds => some (ds, [])
  | .lst ds => some (ds, [])
  | .scr ds => some (ds, [])
  | .ref i => match μ[i]? with
    | some (.lst ds) => some (ds, [(i, ds)])
    | none => none
  | _ => none
def rangeD (lo c : Int) (n : Nat) : List D := (List.range n).map fun (k : Nat) => D.int (lo + k * c)
def pairsD : Nat → List D → List D
  | _, [] => []
  | n, x :: r => .tup [.int n, x] :: pairsD (n + 1) r
def zipD : List D → List D → List D
  | x :: r, y :: t => .tup [x, y] :: zipD r t
  | _, _ => []
def compL (g : Grd) (f : D → Mem → Out (List D)) : List D → Mem → Out (List D)
  | [], μ => if okG g μ then .ok [] μ else .bad
  | x :: xs, μ => if okG g μ then (match f x μ with
    | .ok l μ1 => match compL g f xs μ1 with
      | .ok r μ2 => .ok (l ++ r) μ2
      | _ => .bad
    | _ => .bad) else .bad
def forL (g : Grd) (f : D → EnvD → Mem → OutS) : List D → EnvD → Mem → OutS
  | [], env, μ => if okG g μ then .ok (.nx env) μ else .bad
  | x :: xs, env, μ => if okG g μ then (match f x env μ with
    | .ok (.nx env1) μ1 => forL g f xs env1 μ1
    | .ok (.ct env1) μ1 => forL g f xs env1 μ1
    | .ok (.bk env1) μ1 => .ok (.nx env1) μ1
    | .ok (.rt d) μ1 => .ok (.rt d) μ1
    | .err c fs env1 μ1 => .err c fs env1 μ1
    | .bad => .bad) else .bad
def whileL (c : EnvD → Mem → Out Bool) (f : EnvD → Mem → OutS) : Nat → EnvD → Mem → OutS
  | 0, _, _ => .bad
  | n + 1, env, μ => match c env μ with
    | .ok true μ1 => match f env μ1 with
      | .ok (.nx env1) μ2 => whileL c f n env1 μ2
      | .ok (.ct env1) μ2 => whileL c f n env1 μ2
      | .ok (.bk env1) μ2 => .ok (.nx env1) μ2
      | .ok (.rt d) μ2 => .ok (.rt d) μ2
      | .err c fs env1 μ2 => .err c fs env1 μ2
      | .bad => .bad
    | .ok false μ1 => .ok (.nx env) μ1
    | .err c fs μ1 => .err c fs env μ1
    | .bad => .bad
def Out.safe {α : Type} (o : Out α) : Out α :=
  match o with
  | .ok a μ => .ok a μ
  | _ => .bad
def isTup : D → Bool
  | .tup _ => true
  | _ => false
def truO (x : D) (μ : Mem) : Out Bool :=
  match truM x μ with
  | some b => .ok b μ
  | none => .bad
/-- keyword arguments brought to the parameters' order -/
def pickK {α : Type} : List Str → List α → List Str → List α → Option (List α)
  | [], [], _, _ => some []
  | [], _ :: _, _, _ => none
  | _ :: ps, d :: ds, ks, vs => match pickK ps ds ks vs with
    | some r => some (d :: r)
    | none => none
  | p :: ps, [], ks, vs => match (ks.zip vs).lookup p with
    | some d => match pickK ps [] ks vs with
      | some r => some (d :: r)
      | none => none
    | none => none
mutual
def denE : E → EnvD → Mem → Out D
  | .var i, env, μ => match env[i]? with
    | some (some d) => .ok d μ
    | _ => .bad
  | .cst d, _, μ => .ok d μ
  | .glo _ d, _, μ => .ok d μ
  | .tup es, env, μ => (denEs es env μ).bind fun ds μ1 => .ok (.tup ds) μ1
  | .lst mu es, env, μ => (denEs es env μ).bind fun ds μ1 => newList mu ds μ1
  | .bin mu op a b, env, μ => (denE a env μ).bind fun x μ1 => (denE b env μ1).bind fun y μ2 => binD mu op x y μ2
  | .neg a, env, μ => (denE a env μ).bind fun x μ1 => match x with
    | .int i => .ok (.int (-i)) μ1
    | _ => .bad
  | .not a, env, μ => (denE a env μ).bind fun x μ1 => (truO x μ1).bind fun b μ2 => .ok (.bl (!b)) μ2
  | .cmp op a b, env, μ => (denE a env μ).bind fun x μ1 => (denE b env μ1).bind fun y μ2 => cmpD op x y μ2
  | .cmp2 op op' a b c, env, μ => (denE a env μ).bind fun x μ1 => (denE b env μ1).bind fun y μ2 => match cmpM op x y μ2 with
    | some true => (denE c env μ2).bind fun z μ3 => cmpD op' y z μ3
    | some false => .ok (.bl false) μ2
    | none => .bad
  | .and a b, env, μ => (denE a env μ).bind fun x μ1 => match truM x μ1 with
    | some true => denE b env μ1
    | some false => .ok x μ1
    | none => .bad
  | .or a b, env, μ => (denE a env μ).bind fun x μ1 => match truM x μ1 with
    | some true => .ok x μ1
    | some false => denE b env μ1
    | none => .bad
  | .ife c a b, env, μ => (denE c env μ).bind fun x μ1 => match truM x μ1 with
    | some true => denE a env μ1
    | some false => denE b env μ1
    | none => .bad
  | .idx a i, env, μ => (denE a env μ).bind fun x μ1 => (denE i env μ1).bind fun y μ2 => getD x y μ2
  | .slc mu a lo hi, env, μ => (denE a env μ).bind fun x μ1 => (denEo lo env μ1).bind fun l μ2 => (denEo hi env μ2).bind fun h μ3 => slcD mu x l h μ3
  | .rev mu a, env, μ => (denE a env μ).bind fun x μ1 => revD mu x μ1
  | .call _ _ g es, env, μ => (denEs es env μ).bind fun ds μ1 => g ds μ1
  | .callK _ ps g es ks kes, env, μ => (denEs es env μ).bind fun ds μ1 => (denEs kes env μ1).bind fun vs μ2 => match pickK ps ds ks vs with
    | some r => g r μ2
    | none => .bad
  | .blt f mu es, env, μ => (denEs es env μ).bind fun ds μ1 => bltD f mu ds μ1
  | .lrev mu a, env, μ => (denE a env μ).bind fun x μ1 => match asList x μ1 with
    | some ds => newList mu ds.reverse μ1
    | none => .bad
  | .mth m o es, env, μ => (denE o env μ).bind fun x μ1 => match asList x μ1 with
    | some _ => (denEs es env μ1).bind fun ds μ2 => mthD m x ds μ2
    | none => .bad
  | .comp mu own tg it c e, env, μ => (denIt it env μ).bind fun p μ1 =>
    (compL p.2 (fun x μ => (denTg tg x (wipeD env own) μ).bind fun env1 μ2 => (denC c env1 μ2).bind fun b μ3 => if b then (denE e env1 μ3).bind fun y μ4 => .ok [y] μ4 else .ok [] μ3) p.1 μ1).bind fun ds μ2 => newList mu ds μ2
  | .comp2 mu own own1 tg it c tg1 it1 c1 e, env, μ => (denIt it env μ).bind fun p μ1 =>
    (compL p.2 (fun x μ => (denTg tg x (wipeD env own) μ).bind fun env1 μ2 => (denC c env1 μ2).bind fun b μ3 => if b then (denIt it1 env1 μ3).bind fun q μ4 =>
      compL q.2 (fun y μ => (denTg tg1 y (wipeD env1 own1) μ).bind fun env2 μ5 => (denC c1 env2 μ5).bind fun b1 μ6 => if b1 then (denE e env2 μ6).bind fun y μ7 => .ok [y] μ7 else .ok [] μ6) q.1 μ4 else .ok [] μ3) p.1 μ1).bind fun ds μ2 => if ds.length ≤ lim then newList mu ds μ2 else .bad
def denEs : Es → EnvD → Mem → Out (List D)
  | .nil, _, μ => .ok [] μ
  | .cons e es, env, μ => (denE e env μ).bind fun x μ1 => (denEs es env μ1).bind fun xs μ2 => .ok (x :: xs) μ2
def denEo : Eo → EnvD → Mem → Out (Option Int)
  | .no, _, μ => .ok none μ
  | .yes e, env, μ => (denE e env μ).bind fun x μ1 => match x with
    | .int i => .ok (some i) μ1
    | _ => .bad
/-- a clause's test -/
def denC : Eo → EnvD → Mem → Out Bool
  | .no, _, μ => .ok true μ
  | .yes e, env, μ => (denE e env μ).bind fun x μ1 => truO x μ1
def denIt : It → EnvD → Mem → Out (List D × Grd)
  | .val e, env, μ => (denE e env μ).bind fun x μ1 => match itemsD x μ1 with
    | some p => .ok p μ1
    | none => .bad
  | .rng1 a, env, μ => (denE a env μ).bind fun x μ1 => match x with
    | .int j => if -lim ≤ j ∧ j ≤ lim then .ok (rangeD 0 1 j.toNat, []) μ1 else .bad
    | _ => .bad
  | .rng2 a b, env, μ => (denE a env μ).bind fun x μ1 => (denE b env μ1).bind fun y μ2 => match x, y with
    | .int i, .int j => if (-lim ≤ i ∧ i ≤ lim) ∧ (-lim ≤ j ∧ j ≤ lim) ∧ j - i ≤ lim then .ok (rangeD i 1 (j - i).toNat, []) μ2 else .bad
    | _, _ => .bad
  | .rng3 _ _ _, _, _ => .bad
  | .enu e, env, μ => (denE e env μ).bind fun x μ1 => match itemsD x μ1 with
    | some p => .ok (pairsD 0 p.1, p.2) μ1
    | none => .bad
  | .zip a b, env, μ => (denE a env μ).bind fun x μ1 => (denE b env μ1).bind fun y μ2 => match itemsD x μ2 with
    | some p => match itemsD y μ2 with
      | some q => if isTup x = isTup y then .ok (zipD p.1 q.1, p.2 ++ q.2) μ2 else .bad
      | none => .bad
    | none => .bad
  | .rev e, env, μ => (denE e env μ).bind fun x μ1 => match itemsD x μ1 with
    | some p => .ok (p.1.reverse, p.2) μ1
    | none => .bad
def denTg : Tg → D → EnvD → Mem → Out EnvD
  | .nm i, d, env, μ => .ok (env.set i (some d)) μ
  | .tup ts, d, env, μ => match d with
    | .tup ds => (denTgs ts ds env μ).safe
    | _ => .bad
  | .sub o i, d, env, μ => ((denE o env μ).bind fun x μ1 => (denE i env μ1).bind fun y μ2 => match setItD x y d μ2 with
    | some μ3 => .ok env μ3
    | none => .bad).safe
def denTgs : Tgs → List D → EnvD → Mem → Out EnvD
  | .nil, ds, env, μ => match ds with
    | [] => .ok env μ
    | _ :: _ => .bad
  | .cons t ts, ds, env, μ => match ds with
    | [] => .bad
    | d :: r => (denTg t d env μ).bind fun env1 μ1 => denTgs ts r env1 μ1
end
def denB (e : E) (env : EnvD) (μ : Mem) : Out Bool := (denE e env μ).bind fun x μ1 => truO x μ1
def Out.toS {α : Type} (o : Out α) (env : EnvD) (f : α → Mem → OutS) : OutS :=
  match o with
  | .ok d μ => f d μ
  | .err c fs μ => .err c fs env μ
  | .bad => .bad
@[simp] theorem toS_ok {α : Type} (a : α) (μ : Mem) (env : EnvD) (f : α → Mem → OutS) : (Out.ok a μ).toS env f = f a μ := rfl
@[simp] theorem toS_err {α : Type} (c : Nat) (fs : List D) (μ : Mem) (env : EnvD) (f : α → Mem → OutS) : (Out.err c fs μ : Out α).toS env f = .err c fs env μ := rfl
@[simp] theorem toS_bad {α : Type} (env : EnvD) (f : α → Mem → OutS) : (Out.bad : Out α).toS env f = .bad := rfl
def augD (op : Operator) (x y : D) (env : EnvD) (i : Nat) (μ : Mem) : OutS :=
  match op, x, y with
  | .Add, .int a, .int b => .ok (.nx (env.set i (some (.int (a + b))))) μ
  | .Sub, .int a, .int b => .ok (.nx (env.set i (some (.int (a - b))))) μ
  | _, _, _ => .bad
def asgD (o : Out EnvD) : OutS :=
  match o with
  | .ok env μ => .ok (.nx env) μ
  | _ => .bad
def stepD (o : Out EnvD) (f : EnvD → Mem → OutS) : OutS :=
  match o with
  | .ok env μ => f env μ
  | _ => .bad
def seqD (o : OutS) (f : EnvD → Mem → OutS) : OutS :=
  match o with
  | .ok (.nx env) μ => f env μ
  | r => r
mutual
def denS : S → EnvD → Mem → OutS
  | .asg tg e, env, μ => (denE e env μ).toS env fun d μ1 => asgD (denTg tg d env μ1)
  | .par2 i j a b, env, μ => ((denE a env μ).bind fun x μ1 => (denE b env μ1).bind fun y μ2 => .ok (x, y) μ2).toS env fun p μ1 =>
    .ok (.nx ((env.set i (some p.1)).set j (some p.2))) μ1
  | .par3 i j k a b c, env, μ => ((denE a env μ).bind fun x μ1 => (denE b env μ1).bind fun y μ2 => (denE c env μ2).bind fun z μ3 => .ok (x, y, z) μ3).toS env fun p μ1 =>
    .ok (.nx (((env.set i (some p.1)).set j (some p.2.1)).set k (some p.2.2))) μ1
  | .aug op i e, env, μ => match env[i]? with
    | some (some x) => (denE e env μ).toS env fun y μ1 => augD op x y env i μ1
    | _ => .bad
  | .expr e, env, μ => (denE e env μ).toS env fun _ μ1 => .ok (.nx env) μ1
  | .ret e, env, μ => (denE e env μ).toS env fun d μ1 => .ok (.rt d) μ1
  | .retN, _, μ => .ok (.rt .non) μ
  | .ife c a b, env, μ => (denB c env μ).toS env fun t μ1 => if t then denSs a env μ1 else denSs b env μ1
  | .whl n c b, env, μ => whileL (denB c) (denSs b) n env μ
  | .fore tg it b, env, μ => (denIt it env μ).toS env fun p μ1 => forL p.2 (fun x env μ => stepD (denTg tg x env μ) (denSs b)) p.1 env μ1
  | .brk, env, μ => .ok (.bk env) μ
  | .cont, env, μ => .ok (.ct env) μ
  | .pass, env, μ => .ok (.nx env) μ
  | .dead, _, _ => .bad
def denSs : Ss → EnvD → Mem → OutS
  | .nil, env, μ => .ok (.nx env) μ
  | .cons s ss, env, μ => seqD (denS s env μ) (denSs ss)
end
mutual
def D.under (n : Nat) : D → Bool
  | .tup ds => D.underL n ds
  | .lst ds => D.underL n ds
  | .scr ds => D.underL n ds
  | .ref i => i < n
  | _ => true
def D.underL (n : Nat) : List D → Bool
  | [] => true
  | d :: ds => D.under n d && D.underL n ds
end
def Cell.under (n : Nat) : Cell → Bool
  | .lst ds => D.underL n ds
def finish (n : Nat) (d : D) (μ : Mem) : Out D :=
  if μ.length ≤ n then .ok d μ else if D.under n d && (μ.take n).all (Cell.under n) then .ok d (μ.take n) else .ok d μ
structure Fn where
  ps : List Str
  N : List Str
  body : Ss
def runFn (F : Fn) : G := fun args μ =>
  if args.length = F.ps.length then
    match denSs F.body (args.map some ++ List.replicate (F.N.length - args.length) none) μ with
    | .ok (.nx _) μ1 => finish μ.length .non μ1
    | .ok (.rt d) μ1 => finish μ.length d μ1
    | .err c fs _ μ1 => .err c fs μ1
    | _ => .bad
  else .bad
end PV

set_option maxRecDepth 100000
set_option maxHeartbeats 4000000
namespace PV
open PySem PySem.Spec PyProof.Rows L2
/-! ## list(reversed(a list)) -/
section
variable {prog : Program} {w : World} {A : Around} {E : Value → Shared → Prop} {s : Shared}
open RT in
theorem ext_rev {it l S : Addr} {items : Array Value} {c0 : Nat} {R : Result → Shared → Prop} {res : Value} (hh : A.handled = none) (hit : s.heap.IsRevIter it l ((items.size : Int) - 1)) (hl : s.heap.IsList l items) (hne : l ≠ it) (hn : items.size ≤ sizeLine)
    (hSi : S ≠ it) (hSl : S ≠ l) (hS : s.heap.get? S = some { cls := .type "list", data := .seq #[] c0 })
    (hR : ∀ h' tk acc' c', (∀ b o, b ≠ S → b ≠ it → s.heap.get? b = some o → h'.get? b = some o) → h'.get? S = some { cls := .type "list", dict := none, data := .seq acc' c', slots := #[] } → ItemsOf (fun i v => items[items.size - 1 - i]? = some v) acc' items.size → R (.ok (.ret res)) { s with heap := h', toks := tk }) :
    wpAny (model prog w) A.in1 (Builtin.List.listExtendWith (.ref S) (.ref it) res)
      (fun fin s' => match fin with | .done f => R (.ok f) s' | .again c' => c'.quiet = true ∧ codeAny (model prog w) A c' R s') (fun e s' => R (.error e) s') s := by
  have W := Walks.listRev (prog := prog) (w := w) (A := A.in1) hh it l hne items
  have hT : s.TypeIs (.ref it) "list_reverseiterator" := hit.typeIs
  have h1 : Builtin.List.listSameRef (.ref S) (.ref it) = false := by simp [Builtin.List.listSameRef, hSi]
  have hSf : S ∉ [it, l] := by
    simp only [List.mem_cons, List.not_mem_nil, or_false, not_or]
    exact ⟨hSi, hSl⟩
  unfold Builtin.List.listExtendWith
  refine wpAny_bind (wpAny_typeOf hT ?_)
  rw [if_neg (by rw [h1]; decide)]
  refine wpAny_bind (wpAny_pyIter_revIter hit ?_)
  refine wpAny_bind (wpAny_holding ?_)
  unfold Builtin.List.listLengthHint
  refine wpAny_bind (wpAny_specialOf hT nolen_lri ?_)
  show wpAny _ A.in1 (specialOf (Value.ref it) (Str.ofString "__length_hint__") >>= _) _ _ _
  refine wpAny_bind (wpAny_specialOf hT hint_lri ?_)
  generalize hid : ("list_reverseiterator.__length_hint__" : String) = id0
  wp_delta
  rw [show splitId id0 = some ("list_reverseiterator", "__length_hint__") from by subst hid; decide +kernel]
  subst hid
  refine wpAny_bind (wpAny_isInstance (b := true) hT (by rw [isSubtype_type]; kernel_rfl) ?_)
  refine wpAny_pure ?_
  rw [if_neg (by decide)]
  have e0 : ((items.size : Nat) : Int) - 1 - ((0 : Nat) : Int) = (items.size : Int) - 1 := by omega
  refine wpAny_pure ⟨plainId_quiet F.plain_extend_loop _, codeAny_extend_loopS W.toS hn _ hSf _ items.size 0 _ _ _ rfl (Nat.zero_le _) ⟨Nat.zero_le _, by rw [e0]; exact hit, hl⟩ hS (ItemsOf.nil _) fun s' acc' c' hm hS' hacc => ?_⟩
  rw [Moved.eq_with hm]
  refine hR s'.heap s'.toks acc' c' (fun b o hb hb2 e => hm.heap b o (fun hmem => ?_) e) hS' hacc
  rcases List.mem_cons.mp hmem with e' | hmem
  · exact hb e'
  · exact hb2 (List.mem_singleton.mp hmem)
theorem init_rev {it l S : Addr} {items : Array Value} {R : Result → Shared → Prop} (hh : A.handled = none) (hit : s.heap.IsRevIter it l ((items.size : Int) - 1)) (hl : s.heap.IsList l items) (hne : l ≠ it) (hn : items.size ≤ sizeLine)
    (hSi : S ≠ it) (hSl : S ≠ l) (hS : s.heap.get? S = some { cls := .type "list", data := .seq #[] })
    (hR : ∀ h' tk acc' c', (∀ b o, b ≠ S → b ≠ it → s.heap.get? b = some o → h'.get? b = some o) → h'.get? S = some { cls := .type "list", dict := none, data := .seq acc' c', slots := #[] } → ItemsOf (fun i v => items[items.size - 1 - i]? = some v) acc' items.size → R (.ok (.ret .none)) { s with heap := h', toks := tk }) :
    wpAny (model prog w) A.in1 (Builtin.«list.__init__» ⟨[.ref S, .ref it], []⟩)
      (fun fin s' => match fin with | .done f => R (.ok f) s' | .again c' => c'.quiet = true ∧ codeAny (model prog w) A c' R s') (fun e s' => R (.error e) s') s := by
  show wpAny _ _ (do let old ← Builtin.List.listItems (.ref S); Builtin.List.listUpdate (.ref S) (fun _ => #[]); letGo old.toList.reverse; Builtin.List.listExtendWith (.ref S) (.ref it) .none) _ _ s
  refine wpAny_bind ?_
  unfold Builtin.List.listItems
  refine wpAny_bind (wpAny_seqItems hS rfl (wpAny_pure ?_))
  show wpAny _ _ (updateSeq S (fun _ => #[]) >>= fun _ => letGo (#[] : Array Value).toList.reverse >>= fun _ => Builtin.List.listExtendWith (.ref S) (.ref it) .none) _ _ s
  refine wpAny_bind (wpAny_updateSeq hS rfl ?_)
  have hS2 := Heap.get?_update_self (Obj.mapSeq (fun _ => (#[] : Array Value))) hS rfl
  have oth : ∀ b o, b ≠ S → s.heap.get? b = some o → (s.heap.update S (Obj.mapSeq (fun _ => (#[] : Array Value)))).get? b = some o :=
    fun b o hb e => (Heap.get?_update_other _ _ (Ne.symm hb)).trans e
  refine wpAny_bind (wpAny_letGo ?_)
  refine ext_rev hh (hit.at fun o e => oth it o hSi.symm e) (hl.at fun o e => oth l o hSl.symm e) hne hn hSi hSl hS2 fun h' tk acc' c' hk hS' hacc => ?_
  exact hR h' tk acc' c' (fun b o hb hb2 e => hk b o hb hb2 (oth b o hb e)) hS' hacc
theorem call_list_rev {it l : Addr} {items : Array Value} {Q : Value → Shared → Prop} (hh : A.handled = none) (hit : s.heap.IsRevIter it l ((items.size : Int) - 1)) (hl : s.heap.IsList l items) (hne : l ≠ it) (hn : items.size ≤ sizeLine)
    (hQ : ∀ h' tk acc' c', (∀ b o, b ≠ it → s.heap.get? b = some o → h'.get? b = some o) → h'.get? s.heap.objs.size = some { cls := .type "list", dict := none, data := .seq acc' c', slots := #[] } → ItemsOf (fun i v => items[items.size - 1 - i]? = some v) acc' items.size → Q (.ref s.heap.objs.size) { s with heap := h', toks := tk }) :
    wpAny (model prog w) A (call (.type "list") [.ref it]) Q E s := by
  refine callType_codes (Q₁ := fun obj s₁ => obj = .ref s.heap.objs.size ∧ s₁ = { s with heap := s.heap.push { cls := .type "list", data := .seq #[] } }) PySem.F.called_list (PySem.F.typeCall_list_1 _) PySem.F.entry_list_init
    (code_list_new _ ⟨rfl, rfl⟩) fun obj s₁ h₁ => ?_
  obtain ⟨rfl, rfl⟩ := h₁
  have hS : (s.heap.push { cls := .type "list", data := .seq #[] }).get? s.heap.objs.size = some { cls := .type "list", data := .seq #[] } := Heap.get?_push_size _ rfl
  have l1 : it < s.heap.objs.size := let ⟨_, ho, _⟩ := hit; Heap.lt_size ho
  have l2 : l < s.heap.objs.size := let ⟨_, ho, _⟩ := hl; Heap.lt_size ho
  refine ⟨⟨_, hS, rfl⟩, PySem.F.args_list_init_2 _ _, init_rev (A := A.in1) hh (hit.at fun o e => Heap.get?_push_of_some _ e) (hl.push _) hne hn (Nat.ne_of_gt l1) (Nat.ne_of_gt l2) hS (fun h' tk acc' c' hk hS' hacc => ?_)⟩
  exact ⟨rfl, hQ h' tk acc' c' (fun b o hb e => hk b o (Nat.ne_of_lt (Heap.lt_size e)) hb (Heap.get?_push_of_some _ e)) hS' hacc⟩
end
/-- list(reversed(x)), by values -/
theorem rl_lrev {X : Cx} (hc : X.calm = true) (pins : List (Addr × Obj)) (s : Shared) (σ : L2.St) (H : Hp) (a : Addr) (xs : List V) (Q : VK) (I : Inv X pins σ H s) (h : SqL X.K H a xs) (q : ∀ p, H p = none → Q (.ref p) (upd H p (.lst xs.reverse))) :
    wpAny (model X.prog X.w) X.A (call (.type "reversed") [.ref a]) (fun r s1 => wpAny (model X.prog X.w) X.A (call (.type "list") [r]) (EP X pins σ Q) X.xe s1) X.xe s := by
  obtain ⟨its, rv, p, hz⟩ := I.list h
  refine call_reversed_list p.isList ?_
  have hl := rv.length
  have la : a < s.heap.objs.size := let ⟨_, _, ho, _⟩ := p; Heap.lt_size ho
  have hsz : its.toArray.size ≤ sizeLine := by rw [List.size_toArray, ← hl]; exact hz
  refine call_list_rev (s := { s with heap := s.heap.push (revObj a ((its.toArray.size : Int) - 1)) }) (items := its.toArray) (I.ok.hd hc) ⟨_, Heap.get?_push_size _ rfl, rfl, rfl⟩ (p.isList.push _) (Nat.ne_of_lt la) hsz fun h' tk acc' c' hk hS hacc => ?_
  have ks : ∀ b o, s.heap.get? b = some o → h'.get? b = some o := fun b o e => hk b o (Nat.ne_of_lt (Heap.lt_size e)) (Heap.get?_push_of_some _ e)
  have hp : s.heap.objs.size ≤ (s.heap.push (revObj a ((its.toArray.size : Int) - 1))).objs.size := by rw [Heap.size_push]; exact Nat.le_succ _
  have vr := RT.vals_rev rv hacc
  refine ⟨.ref _, upd H _ (.lst xs.reverse), I.laid (a := (s.heap.push (revObj a ((its.toArray.size : Int) - 1))).objs.size) (t' := tk) ks hp ⟨by rw [List.length_reverse]; exact hz, acc'.toList, c', vr, ?_⟩, rfl, q _ (I.hok.fresh hp)⟩
  rw [Array.toArray_toList]
  exact hS
end PV

set_option maxRecDepth 100000
set_option maxHeartbeats 4000000
namespace PV
open PySem PySem.Spec PyProof.Rows L2 PySem.Calls
/-! ## built-in calls, by values -/
def rArgs (K : PySem.W.Frag) (f : List D → Mem → Out D) : List V → Hp → VK → Prop := fun vs H Q => ∃ (z : List Addr) (W : WD) (ds : List D) (ρ : List Addr) (μ : Mem), Rel ⟨K, z⟩ H ρ μ ∧ RepL ⟨K, z⟩ H ρ ds vs ∧ Post ⟨K, z⟩ W (RD ⟨K, z⟩) ρ H (f ds μ) Q
def bltV : Blt → Value
  | .len => .builtin "len"
  | .int => .type "int"
  | .abs => .builtin "abs"
  | .list => .type "list"
  | .tuple => .type "tuple"
  | .max2 => .builtin "max"
  | .min2 => .builtin "min"
  | .max => .builtin "max"
  | .min => .builtin "min"
  | .sum => .builtin "sum"
  | .all => .builtin "all"
  | .any => .builtin "any"
  | .repr => .builtin "repr"
  | .sorted => .builtin "sorted"
  | .str => .type "str"
theorem RepL.inv1 {K : KZ} {H : Hp} {ρ : List Addr} {d : D} {vs : List V} (h : RepL K H ρ [d] vs) : ∃ v, vs = [v] ∧ Rep K H ρ d v := by
  obtain ⟨v, r, rfl, h1, h2⟩ := h
  have h2 : r = [] := h2
  exact ⟨v, by rw [h2], h1⟩
theorem RepL.inv2 {K : KZ} {H : Hp} {ρ : List Addr} {d e : D} {vs : List V} (h : RepL K H ρ [d, e] vs) : ∃ v u, vs = [v, u] ∧ Rep K H ρ d v ∧ Rep K H ρ e u := by
  obtain ⟨v, r, rfl, h1, h2⟩ := h
  obtain ⟨u, rfl, h3⟩ := RepL.inv1 h2
  exact ⟨v, u, rfl, h1, h3⟩
theorem blsOf_map : ∀ {ds : List D} {l : List Bool}, blsOf ds = some l → ds = l.map D.bl
  | [], l, h => by cases h; rfl
  | d :: r, l, h => by
    cases d <;> simp only [blsOf] at h <;> try cases h
    cases e : blsOf r with
    | none => rw [e] at h; cases h
    | some m => rw [e] at h; cases h; rw [blsOf_map e]; rfl
theorem RepL.bls {K : KZ} {H : Hp} {ρ : List Addr} : ∀ {l : List Bool} {vs : List V}, RepL K H ρ (l.map D.bl) vs → vs = l.map V.bl
  | [], vs, h => h
  | i :: l, vs, h => by
    obtain ⟨v, r, rfl, h1, h2⟩ := h
    cases h1
    rw [RepL.bls h2]; rfl
theorem maxFold_spec : ∀ (ns : List Int) (n : Int), (ns.foldl (fun a b => if b > a then b else a) n ∈ n :: ns) ∧ ∀ y ∈ n :: ns, y ≤ ns.foldl (fun a b => if b > a then b else a) n
  | [], n => ⟨by simp, by simp⟩
  | m :: ns, n => by
    obtain ⟨h1, h2⟩ := maxFold_spec ns (if m > n then m else n)
    simp only [List.foldl_cons]
    refine ⟨?_, fun y hy => ?_⟩
    · rcases List.mem_cons.mp h1 with e | e
      · rw [e]; split <;> simp
      · exact List.mem_cons_of_mem _ (List.mem_cons_of_mem _ e)
    · have h0 := h2 _ List.mem_cons_self
      rcases List.mem_cons.mp hy with e | e
      · subst e; refine Int.le_trans ?_ h0; split <;> omega
      · rcases List.mem_cons.mp e with e | e
        · subst e; refine Int.le_trans ?_ h0; split <;> omega
        · exact h2 y (List.mem_cons_of_mem _ e)
theorem minFold_spec : ∀ (ns : List Int) (n : Int), (ns.foldl (fun a b => if b < a then b else a) n ∈ n :: ns) ∧ ∀ y ∈ n :: ns, ns.foldl (fun a b => if b < a then b else a) n ≤ y
  | [], n => ⟨by simp, by simp⟩
  | m :: ns, n => by
    obtain ⟨h1, h2⟩ := minFold_spec ns (if m < n then m else n)
    simp only [List.foldl_cons]
    refine ⟨?_, fun y hy => ?_⟩
    · rcases List.mem_cons.mp h1 with e | e
      · rw [e]; split <;> simp
      · exact List.mem_cons_of_mem _ (List.mem_cons_of_mem _ e)
    · have h0 := h2 _ List.mem_cons_self
      rcases List.mem_cons.mp hy with e | e
      · subst e; refine Int.le_trans h0 ?_; split <;> omega
      · rcases List.mem_cons.mp e with e | e
        · subst e; refine Int.le_trans h0 ?_; split <;> omega
        · exact h2 y (List.mem_cons_of_mem _ e)
theorem insertI_perm (x : Int) : ∀ l : List Int, (insertI x l).Perm (x :: l)
  | [] => by simp [insertI]
  | y :: r => by
    simp only [insertI]
    split
    · exact List.Perm.refl _
    · exact ((insertI_perm x r).cons y).trans (List.Perm.swap x y r)
theorem sortI_perm : ∀ l : List Int, (sortI l).Perm l
  | [] => by simp [sortI]
  | x :: r => (insertI_perm x (sortI r)).trans ((sortI_perm r).cons x)
theorem insertI_up (x : Int) : ∀ l : List Int, l.Pairwise (· ≤ ·) → (insertI x l).Pairwise (· ≤ ·)
  | [], _ => by simp [insertI]
  | y :: r, h => by
    simp only [insertI]
    obtain ⟨h1, h2⟩ := List.pairwise_cons.mp h
    split
    · rename_i hx
      refine List.pairwise_cons.mpr ⟨fun z hz => ?_, h⟩
      rcases List.mem_cons.mp hz with e | e
      · subst e; exact hx
      · exact Int.le_trans hx (h1 z e)
    · rename_i hx
      refine List.pairwise_cons.mpr ⟨fun z hz => ?_, insertI_up x r h2⟩
      rcases List.mem_cons.mp ((insertI_perm x r).mem_iff.mp hz) with e | e
      · subst e; omega
      · exact h1 z e
theorem sortI_up : ∀ l : List Int, (sortI l).Pairwise (· ≤ ·)
  | [] => by simp [sortI]
  | x :: r => insertI_up x _ (sortI_up r)
theorem sort_one {l m : List Int} (p : m.Perm l) (h : m.Pairwise (· ≤ ·)) : m = sortI l :=
  List.Perm.eq_of_pairwise (fun a b _ _ h1 h2 => Int.le_antisymm h1 h2) h (sortI_up l) (p.trans (sortI_perm l).symm)
section
variable {X : Cx}
theorem rl_repr {zz : List Addr} (hg : X.A.guards = some []) (hu : X.A.units + 200 < cLine) {d : D} {v : V} {ρ : List Addr} {μ : Mem} {H : Hp} {z : Str} (r : Rel ⟨X.K, zz⟩ H ρ μ) (q : Rep ⟨X.K, zz⟩ H ρ d v) (h : reprM d μ = some z) (pins : List (Addr × Obj)) (s : Shared) (σ : L2.St) (u : Value) (Q : VK) (I : Inv X pins σ H s) (rv : RelV v u) (hq : Q (.str z) H) :
    wpAny (model X.prog X.w) X.A (call (.builtin "repr") [u]) (EP X pins σ Q) X.xe s := by
  unfold reprM at h
  cases e : toPD μ d with
  | none => rw [e] at h; cases h
  | some p =>
    rw [e] at h
    simp only at h
    split at h
    · rename_i hs
      cases h
      simp only [Bool.and_eq_true, decide_eq_true_eq] at hs
      obtain ⟨hs1, hs2⟩ := hs
      have hs2' : p.shown.length ≤ sizeLine := by rw [lim_eq]; exact hs2
      obtain ⟨dp, lay, dep⟩ := toPD_ok r e q
      have hnd := PyData.hasDict_of_canLay p lay
      cases dp with
      | non => cases rv; exact PySem.P.repr_of_none ⟨.str _, H, I.tok _, ⟨_, rfl⟩, hq⟩
      | bl b => cases rv; exact PySem.P.repr_of_bool ⟨.str _, H, I.tok _, ⟨_, rfl⟩, by simpa [PyData.shown] using hq⟩
      | int i =>
        obtain ⟨t, rfl⟩ := rv
        exact PySem.P.repr_of_int (by simpa [PyData.showable] using hs1) ⟨.str _, H, I.tok _, ⟨_, rfl⟩, by simpa [PyData.shown] using hq⟩
      | str x =>
        obtain ⟨t, rfl⟩ := rv
        exact PySem.P.repr_of_str ⟨.str _, H, I.tok _, ⟨_, rfl⟩, by simpa [PyData.shown] using hq⟩ (by simpa [PyData.shown] using hs2')
      | lst h1 h2 =>
        have dp := Dp.lst h1 h2
        cases rv
        obtain ⟨as, rd⟩ := Dp.reads I _ _ _ dp (by exact rfl)
        exact repr_of_reads' rd hs1 (PyData.noDict_hsm hnd) hg (by omega) (fun b o e => e) (fun h' u tk k => ⟨.str _, H, I.kept k, ⟨_, rfl⟩, hq⟩) hs2'
      | tup h1 h2 =>
        have dp := Dp.tup h1 h2
        cases rv
        obtain ⟨as, rd⟩ := Dp.reads I _ _ _ dp (by exact rfl)
        exact repr_of_reads' rd hs1 (PyData.noDict_hsm hnd) hg (by omega) (fun b o e => e) (fun h' u tk k => ⟨.str _, H, I.kept k, ⟨_, rfl⟩, hq⟩) hs2'
    · cases h

/-- what the calls ask of the context -/
structure BOk (X : Cx) : Prop where
  calm : X.calm = true
  hg : X.A.guards = some []
  hu : X.A.units + 200 < cLine
theorem cr_blt (b : BOk X) (f : Blt) (mu : Bool) : CallR X (bltV f) (rArgs X.K (bltD f mu)) := by
  intro pins s σ H vs us Q I rs h
  obtain ⟨zz, W, ds, ρ, μ, r, q, p⟩ := h
  unfold bltD at p
  split at p
  · -- len
    obtain ⟨v, rfl, qv⟩ := q.inv1
    rename_i x
    split at p
    · rename_i n e
      unfold lenM at e
      split at e
      · cases qv
        split at e
        · rename_i z hl
          cases e
          exact call_len pins s σ H _ us Q I rs ⟨_, _, rfl, ⟨by rw [lim_eq]; exact hl, rfl⟩, p.ok r rfl⟩
        · cases e
      · cases e
        obtain ⟨a, xs, rfl, h1, h2, h3⟩ := qv
        exact call_len_seq pins s σ H _ us Q I rs ⟨a, xs, rfl, .inl h1.sq, p.ok r (by show _ = _; rw [h3.len])⟩
      · split at e
        · rename_i ds es e2
          cases e
          obtain ⟨a, xs, rfl, h1, h2, h3⟩ := asSeq_ok r e2 qv
          exact call_len_seq pins s σ H _ us Q I rs ⟨a, xs, rfl, h1, p.ok r (by show _ = _; rw [h3.len])⟩
        · cases e
    · exact p.elim
  · obtain ⟨v, rfl, qv⟩ := q.inv1
    cases qv
    exact call_int1 pins s σ H _ us Q I rs (.inl ⟨_, rfl, p.ok r rfl⟩)
  · obtain ⟨v, rfl, qv⟩ := q.inv1
    cases qv
    exact call_int1 pins s σ H _ us Q I rs (.inr ⟨_, rfl, p.ok r rfl⟩)
  · obtain ⟨v, rfl, qv⟩ := q.inv1
    cases qv
    exact call_abs pins s σ H _ us Q I rs ⟨_, rfl, p.ok r rfl⟩
  · -- list
    obtain ⟨v, rfl, qv⟩ := q.inv1
    split at p
    · rename_i ds e
      split at e
      · cases e
        obtain ⟨a, xs, rfl, h1, h2, h3⟩ := qv
        exact call_list_of pins s σ H _ us Q I rs ⟨a, xs, rfl, .inl h1.sq, fun l hl => new_list r h3 h2 p hl⟩
      · obtain ⟨a, xs, rfl, h1, h2, h3⟩ := asSeq_ok r e qv
        exact call_list_of pins s σ H _ us Q I rs ⟨a, xs, rfl, h1, fun l hl => new_list r h3 h2 p hl⟩
    · exact p.elim
  · obtain ⟨v, rfl, qv⟩ := q.inv1
    obtain ⟨a, xs, rfl, h1, h2, h3⟩ := qv
    exact call_tuple_of pins s σ H _ us Q I rs ⟨a, xs, rfl, .inr ⟨h1, p.ok r ⟨a, xs, rfl, h1, h2, h3⟩⟩⟩
  · obtain ⟨v, rfl, qv⟩ := q.inv1
    split at p
    · rename_i ds e
      obtain ⟨a, xs, rfl, h1, h2, h3⟩ := asList_ok r e qv
      exact call_tuple_of pins s σ H _ us Q I rs ⟨a, xs, rfl, .inl ⟨SqL.of h1, fun l hl => new_tup r h3 h2 p hl⟩⟩
    · exact p.elim
  · obtain ⟨v, u, rfl, qv, qu⟩ := q.inv2
    cases qv; cases qu
    exact call_max2 b.calm pins s σ H _ us Q I rs ⟨_, _, rfl, p.ok r rfl⟩
  · obtain ⟨v, u, rfl, qv, qu⟩ := q.inv2
    cases qv; cases qu
    exact call_min2 b.calm pins s σ H _ us Q I rs ⟨_, _, rfl, p.ok r rfl⟩
  · -- max
    obtain ⟨v, rfl, qv⟩ := q.inv1
    split at p
    · rename_i ds e
      split at p
      · rename_i n ns e2
        obtain ⟨a, xs, rfl, h1, h2, h3⟩ := asList_ok r e qv
        rw [intsOf_map e2] at h3
        have e3 := h3.ints
        subst e3
        refine cr_max b.calm pins s σ H _ us Q I rs ⟨a, n :: ns, rfl, SqL.of h1, by simp, fun m hm hy => ?_⟩
        obtain ⟨g1, g2⟩ := maxFold_spec ns n
        have : m = ns.foldl (fun a b => if b > a then b else a) n := Int.le_antisymm (g2 m hm) (hy _ g1)
        rw [this]
        exact p.ok r rfl
      · exact p.elim
    · exact p.elim
  · -- min
    obtain ⟨v, rfl, qv⟩ := q.inv1
    split at p
    · rename_i ds e
      split at p
      · rename_i n ns e2
        obtain ⟨a, xs, rfl, h1, h2, h3⟩ := asList_ok r e qv
        rw [intsOf_map e2] at h3
        have e3 := h3.ints
        subst e3
        refine cr_min b.calm pins s σ H _ us Q I rs ⟨a, n :: ns, rfl, SqL.of h1, by simp, fun m hm hy => ?_⟩
        obtain ⟨g1, g2⟩ := minFold_spec ns n
        have : m = ns.foldl (fun a b => if b < a then b else a) n := Int.le_antisymm (hy _ g1) (g2 m hm)
        rw [this]
        exact p.ok r rfl
      · exact p.elim
    · exact p.elim
  · -- sum
    obtain ⟨v, rfl, qv⟩ := q.inv1
    split at p
    · rename_i ds e
      split at p
      · rename_i ns e2
        obtain ⟨a, xs, rfl, h1, h2, h3⟩ := asList_ok r e qv
        rw [intsOf_map e2] at h3
        have e3 := h3.ints
        subst e3
        exact cr_sum b.calm pins s σ H _ us Q I rs ⟨a, ns, rfl, SqL.of h1, p.ok r rfl⟩
      · exact p.elim
    · exact p.elim
  · -- all
    obtain ⟨v, rfl, qv⟩ := q.inv1
    split at p
    · rename_i ds e
      split at p
      · rename_i ns e2
        obtain ⟨a, xs, rfl, h1, h2, h3⟩ := asList_ok r e qv
        rw [blsOf_map e2] at h3
        have e3 := h3.bls
        subst e3
        exact cr_all b.calm pins s σ H _ us Q I rs ⟨a, ns, rfl, SqL.of h1, p.ok r rfl⟩
      · exact p.elim
    · exact p.elim
  · -- any
    obtain ⟨v, rfl, qv⟩ := q.inv1
    split at p
    · rename_i ds e
      split at p
      · rename_i ns e2
        obtain ⟨a, xs, rfl, h1, h2, h3⟩ := asList_ok r e qv
        rw [blsOf_map e2] at h3
        have e3 := h3.bls
        subst e3
        exact cr_any b.calm pins s σ H _ us Q I rs ⟨a, ns, rfl, SqL.of h1, p.ok r rfl⟩
      · exact p.elim
    · exact p.elim
  · -- repr
    obtain ⟨v, rfl, qv⟩ := q.inv1
    split at p
    · rename_i z e
      obtain ⟨u, rfl, rx⟩ := Vals.one rs
      exact rl_repr b.hg b.hu r qv e pins s σ u Q I rx (p.ok r rfl)
    · exact p.elim
  · -- sorted
    obtain ⟨v, rfl, qv⟩ := q.inv1
    split at p
    · rename_i ds e
      split at p
      · rename_i ns e2
        obtain ⟨a, xs, rfl, h1, h2, h3⟩ := asList_ok r e qv
        rw [intsOf_map e2] at h3
        have e3 := h3.ints
        subst e3
        split at p
        · rename_i hl
          refine cr_sorted pins s σ H _ us Q I rs ⟨a, ns, rfl, SqL.of h1, hl, fun ns' l hp hs hl2 => ?_⟩
          rw [sort_one hp hs]
          refine new_list r (RepL.mapI _) ?_ p hl2
          rw [List.length_map, (sortI_perm ns).length_eq, lim_eq]
          exact Nat.le_trans (Nat.le_of_lt hl) (by decide)
        · exact p.elim
      · exact p.elim
    · exact p.elim
  · -- str
    obtain ⟨v, rfl, qv⟩ := q.inv1
    cases qv
    split at p
    · rename_i hl
      exact call_str_int pins s σ H _ us Q I rs ⟨_, rfl, hl, p.ok r rfl⟩
    · exact p.elim
  · exact p.elim
end
end PV

set_option maxRecDepth 100000
set_option maxHeartbeats 4000000
namespace PV
open PySem PySem.Spec PyProof.Rows L2
/-! ## places, cuts, methods, stores -/
theorem RepL.atI {K : KZ} {H : Hp} {ρ : List Addr} {ds : List D} {vs : List V} {i : Int} {d : D} (h : RepL K H ρ ds vs) (e : atI ds i = some d) : ∃ v, L2.atI vs i = some v ∧ Rep K H ρ d v := by
  unfold L2.atI at e ⊢
  rw [h.len]
  cases q : ixN ds.length i with
  | none => rw [q] at e; cases e
  | some j =>
    rw [q] at e
    exact h.get e
section
variable {X : Cx}
theorem ix_getD : IxR X (r2D X.K getD) := by
  intro value slice pins s σ H x y v u Q I rx ry h hs
  obtain ⟨zz, W, d, e, ρ, μ, r, qd, qe, p⟩ := h
  unfold getD at p
  split at p
  · cases qd; cases qe
    split at p
    · rename_i hl
      split at p
      · rename_i c e1
        exact ix_str value slice pins s σ H _ _ v u Q I rx ry ⟨_, _, c, rfl, rfl, by rw [lim_eq]; exact hl, e1, p.ok r rfl⟩ hs
      · exact p.elim
    · exact p.elim
  · obtain ⟨a, xs, rfl, h1, h2, h3⟩ := qd
    cases qe
    split at p
    · rename_i dd e1
      obtain ⟨w, g1, g2⟩ := h3.atI e1
      exact ix_list value slice pins s σ H _ _ v u Q I rx ry ⟨a, xs, _, w, rfl, rfl, h1.sq, g1, p.ok r g2⟩ hs
    · exact p.elim
  · cases qe
    split at p
    · rename_i ds e0
      split at p
      · rename_i dd e1
        obtain ⟨a, xs, rfl, h1, h2, h3⟩ := asSeq_ok r e0 qd
        obtain ⟨w, g1, g2⟩ := h3.atI e1
        rcases h1 with h1 | h1
        · exact ix_list value slice pins s σ H _ _ v u Q I rx ry ⟨a, xs, _, w, rfl, rfl, h1, g1, p.ok r g2⟩ hs
        · exact ix_tup value slice pins s σ H _ _ v u Q I rx ry ⟨a, xs, _, w, rfl, rfl, h1, g1, p.ok r g2⟩ hs
      · exact p.elim
    · exact p.elim
  · exact p.elim
theorem cutD_rep {K : KZ} {H : Hp} {ρ : List Addr} {ds : List D} {vs : List V} (h : RepL K H ρ ds vs) (lo hi : Option Int) : RepL K H ρ (cutD ds lo hi) (cutV vs lo hi) := by
  unfold cutD cutV
  rw [h.len]
  exact (h.drop _).take _
theorem cut_whole {vs : List V} {lo hi : Option Int} (h : HT.sIx vs.length 0 lo = 0 ∧ HT.sIx vs.length vs.length hi = vs.length) : cutV vs lo hi = vs := by
  unfold cutV
  rw [h.1, h.2]
  simp
def rSlD (K : PySem.W.Frag) (mu : Bool) : V → Option Int → Option Int → Hp → VK → Prop := fun v lo hi H Q => ∃ (z : List Addr) (W : WD) (d : D) (ρ : List Addr) (μ : Mem), Rel ⟨K, z⟩ H ρ μ ∧ Rep ⟨K, z⟩ H ρ d v ∧ Post ⟨K, z⟩ W (RD ⟨K, z⟩) ρ H (slcD mu d lo hi μ) Q
theorem sl_slcD {mu : Bool} : SlR X (rSlD X.K mu) := by
  intro pins s σ H x v vl vu lo hi sl Q I rx hs pl pu h
  obtain ⟨zz, W, d, ρ, μ, r, qd, p⟩ := h
  unfold slcD at p
  split at p
  · obtain ⟨a, xs, rfl, h1, h2, h3⟩ := qd
    refine sl_tupA pins s σ H _ v vl vu lo hi sl Q I rx hs pl pu ⟨a, xs, rfl, h1, fun hw => ?_, fun hw q hq => ?_⟩
    · refine p.ok r ⟨a, xs, rfl, h1, h2, ?_⟩
      have z := cutD_rep h3 lo hi
      rw [cut_whole hw] at z
      exact z
    · exact new_tup r (cutD_rep h3 lo hi) (Nat.le_trans (cutV_length xs lo hi) h2) p hq
  · obtain ⟨a, xs, rfl, h1, h2, h3⟩ := qd
    exact sl_list pins s σ H _ v vl vu lo hi sl Q I rx hs pl pu ⟨a, xs, rfl, h1.sq, fun q hq => new_list r (cutD_rep h3 lo hi) (Nat.le_trans (cutV_length xs lo hi) h2) p hq⟩
  · split at p
    · rename_i ds e0
      obtain ⟨a, xs, rfl, h1, h2, h3⟩ := asList_ok r e0 qd
      exact sl_list pins s σ H _ v vl vu lo hi sl Q I rx hs pl pu ⟨a, xs, rfl, SqL.of h1, fun q hq => new_list r (cutD_rep h3 lo hi) (Nat.le_trans (cutV_length xs lo hi) h2) p hq⟩
    · exact p.elim
/-! ### methods of lists -/
def mthId : Mth → String
  | .append => "list.append"
  | .extend => "list.extend"
  | .pop => "list.pop"
  | .popAt => "list.pop"
  | .count => "list.count"
def mthName : Mth → Str
  | .append => "append"
  | .extend => "extend"
  | .pop => "pop"
  | .popAt => "pop"
  | .count => "count"
def rMth (K : PySem.W.Frag) (m : Mth) : V → List V → Hp → VK → Prop := fun v vs H Q => ∃ (z : List Addr) (W : WD) (d : D) (ds : List D) (ρ : List Addr) (μ : Mem), Rel ⟨K, z⟩ H ρ μ ∧ Rep ⟨K, z⟩ H ρ d v ∧ RepL ⟨K, z⟩ H ρ ds vs ∧ Post ⟨K, z⟩ W (RD ⟨K, z⟩) ρ H (mthD m d ds μ) Q
theorem RepL.inv0 {K : KZ} {H : Hp} {ρ : List Addr} {vs : List V} (h : RepL K H ρ [] vs) : vs = [] := h
theorem set_cell {K : KZ} {W : WD} {H : Hp} {ρ : List Addr} {μ : Mem} {i : Nat} {a : Addr} {xs ys : List V} {es : List D} {d : D} {v : V} {Q : VK} (r : Rel K H ρ μ) (ha : ρ[i]? = some a) (h1 : H a = some (.lst xs)) (hz : ys.length ≤ sizeLine) (hr : RepL K H ρ es ys)
    (hd : Rep K H ρ d v) (p : Post K W (RD K) ρ H (.ok d (μ.set i (.lst es))) Q) : Q v (upd H a (.lst ys)) :=
  p.okK (keep_set ha h1) (r.set ha h1 hz hr) (Rep.mono (keep_set ha h1) _ _ hd)
theorem mt_mthD (m : Mth) : MtR X (mthId m) (rMth X.K m) := by
  intro pins s σ H x xs v us Q I rx rs h
  obtain ⟨zz, W, d, ds, ρ, μ, r, qd, qs, p⟩ := h
  unfold mthD at p
  split at p
  · -- append
    obtain ⟨a, ha, rfl⟩ := qd
    obtain ⟨y, rfl, qy⟩ := qs.inv1
    split at p
    · rename_i es e
      obtain ⟨b, hb, hc⟩ := r.at e
      rw [ha] at hb; cases hb
      cases hc with
      | lst h1 h2 h3 =>
        rename_i ys
        split at p
        · rename_i hl
          refine mt_append pins s σ H _ _ v us Q I rx rs ⟨a, ys, y, rfl, rfl, h1, by rw [h3.len, lim_eq]; exact hl, ?_⟩
          refine set_cell r ha h1 ?_ (h3.append (RepL.one qy)) (d := .non) rfl p
          rw [List.length_append, h3.len, lim_eq]
          exact hl
        · exact p.elim
    · exact p.elim
  · -- extend
    obtain ⟨a, ha, rfl⟩ := qd
    obtain ⟨y, rfl, qy⟩ := qs.inv1
    split at p
    · rename_i es e
      obtain ⟨b, hb, hc⟩ := r.at e
      rw [ha] at hb; cases hb
      cases hc with
      | lst h1 h2 h3 =>
        rename_i ys
        split at p
        · rename_i fs e2
          obtain ⟨c, zs, rfl, g1, g2, g3⟩ := asList_ok r e2 qy
          split at p
          · rename_i hl
            have hz : ys.length + zs.length ≤ sizeLine := by rw [h3.len, g3.len, lim_eq]; exact hl
            refine mt_extend pins s σ H _ _ v us Q I rx rs ⟨a, c, ys, zs, rfl, rfl, h1, g1, hz, ?_⟩
            exact set_cell r ha h1 (by rw [List.length_append]; exact hz) (h3.append g3) (d := .non) rfl p
          · exact p.elim
        · exact p.elim
    · exact p.elim
  · -- pop()
    obtain ⟨a, ha, rfl⟩ := qd
    have e0 := qs.inv0
    subst e0
    split at p
    · rename_i es e
      obtain ⟨b, hb, hc⟩ := r.at e
      rw [ha] at hb; cases hb
      cases hc with
      | lst h1 h2 h3 =>
        rename_i ys
        split at p
        · rename_i y e2
          obtain ⟨w, g1, g2⟩ := h3.get e2
          rw [← h3.len] at g1
          refine mt_pop pins s σ H _ _ v us Q I rx rs ⟨a, ys, w, rfl, rfl, h1, g1, ?_⟩
          refine set_cell r ha h1 ?_ h3.dropLast g2 p
          rw [List.length_dropLast]; omega
        · exact p.elim
    · exact p.elim
  · -- pop(0)
    obtain ⟨a, ha, rfl⟩ := qd
    obtain ⟨y, rfl, qy⟩ := qs.inv1
    cases qy
    split at p
    · rename_i z es e
      obtain ⟨b, hb, hc⟩ := r.at e
      rw [ha] at hb; cases hb
      cases hc with
      | lst h1 h2 h3 =>
        rename_i ys
        obtain ⟨w, ws, rfl, g1, g2⟩ := h3
        refine mt_popAt pins s σ H _ _ v us Q I rx rs ⟨a, w :: ws, 0, 0, w, rfl, rfl, h1, by omega, by omega, ?_, rfl, ?_⟩
        · exact (ixN_seq (n := (w :: ws).length) (i := 0) (j := 0) (by simp [ixN])).1
        · refine set_cell r ha h1 ?_ g2 g1 p
          simp only [List.length_cons] at h2; exact Nat.le_of_succ_le h2
    · exact p.elim
  · -- count
    obtain ⟨y, rfl, qy⟩ := qs.inv1
    cases qy
    split at p
    · rename_i es e
      split at p
      · rename_i ns e2
        obtain ⟨a, ys, rfl, h1, h2, h3⟩ := asList_ok r e qd
        rw [intsOf_map e2] at h3
        have e3 := h3.ints
        subst e3
        exact mt_lcount pins s σ H _ _ v us Q I rx rs ⟨a, ns, _, rfl, rfl, SqL.of h1, p.ok r rfl⟩
      · exact p.elim
    · exact p.elim
  · exact p.elim
/-! ### o[i] = v -/
theorem set_itD {K : KZ} {H : Hp} {ρ : List Addr} {μ μ' : Mem} {o i d : D} {vo vi v : V} (r : Rel K H ρ μ) (ho : Rep K H ρ o vo) (hi : Rep K H ρ i vi) (hd : Rep K H ρ d v) (h : setItD o i d μ = some μ') {Q : Hp → Prop}
    (hq : ∀ H', Keep ρ H ρ H' → Rel K H' ρ μ' → Q H') : rSetL vo vi v H Q := by
  unfold setItD at h
  split at h
  · obtain ⟨a, ha, rfl⟩ := ho
    cases hi
    split at h
    · rename_i ds e
      obtain ⟨b, hb, hc⟩ := r.at e
      rw [ha] at hb; cases hb
      cases hc with
      | lst h1 h2 h3 =>
        rename_i ys
        split at h
        · rename_i j e2
          cases h
          refine ⟨a, ys, _, j, rfl, rfl, h1, by rw [h3.len]; exact e2, ?_⟩
          exact hq _ (keep_set ha h1) (r.set ha h1 (by rw [List.length_set]; exact h2) (h3.set hd j))
        · cases h
    · cases h
  · cases h
end
end PV

set_option maxRecDepth 100000
set_option maxHeartbeats 4000000
namespace PV
open PySem PySem.Spec PyProof.Rows L2
/-! ## enumerate(a tuple) -/
theorem meets_enum1 {v : Value} {o : Obj} {H : Heap → Prop} (B : Begins v o H) :
    Meets (Builtin.«enumerate.__new__» ⟨[.type "enumerate", v], []⟩) (fun _ R s => H s.heap ∧
      R (.ok (.ret (.ref (s.heap.push o).objs.size))) { s with heap := (s.heap.push o).push { cls := .type "enumerate", data := .fields #[.none, .bool false, .ref s.heap.objs.size, rawInt 0, .none, .none] } }) :=
  .of_wp fun prog w A R s h => by
    obtain ⟨hp, g, d, tk, os⟩ := s; obtain ⟨h1, h⟩ := h
    have hsub := sub_enumerate
    have q1 : ∀ {A' : Around} {E : Value → Shared → Prop} {Q : Value → Shared → Prop}, Q (.ref hp.objs.size) ⟨hp.push o, g, d, tk, os⟩ → wpAny (model prog w) A' (pyIter v) Q E ⟨hp, g, d, tk, os⟩ :=
      fun q => B.iter prog w _ _ ⟨hp, g, d, tk, os⟩ _ h1 q
    wp_walk using q1
    refine wpAny_stack_any fun st => wpAny_pure ?_
    split
    · rename_i c _ _ _ _ _
      cases (c == Value.type "enumerate") <;> (wp_walk using q1; exact ⟨_, rfl, h⟩)
    · wp_walk using q1
      exact ⟨_, rfl, h⟩
theorem enum1_begins {prog : Program} {w : World} {A : Around} {E : Value → Shared → Prop} {s : Shared} {v : Value} {o : Obj} {H : Heap → Prop} {Q : Value → Shared → Prop} (B : Begins v o H) (h1 : H s.heap)
    (h : ∀ h', IsEnum h' (s.heap.objs.size + 1) s.heap.objs.size 0 .none → h'.get? s.heap.objs.size = some o → h'.objs.size = s.heap.objs.size + 2 →
      (∀ b o, s.heap.get? b = some o → h'.get? b = some o) → Q (.ref (s.heap.objs.size + 1)) { s with heap := h' }) :
    wpAny (model prog w) A (call (.type "enumerate") [v]) Q E s := by
  refine callType_new F.called_enumerate (by decide) (F.typeCall_enumerate_1 _) (F.newCall_enumerate_1 _) (fun obj => F.args_object_init_2 obj _) F.entry_enumerate_new (meets_enum1 B) ⟨h1, ?_⟩
  have hz : (s.heap.push o).objs.size = s.heap.objs.size + 1 := Heap.size_push ..
  show _ ∧ _
  rw [hz]
  generalize hob : ({ cls := .type "enumerate", data := .fields #[.none, .bool false, .ref s.heap.objs.size, rawInt 0, .none, .none] } : Obj) = ob
  have hfr : ob.isFreed = false := by rw [← hob]; rfl
  have he : ((s.heap.push o).push ob).get? (s.heap.objs.size + 1) = some ob := by rw [← hz]; exact Heap.get?_push_size _ hfr
  have he' : IsEnum ((s.heap.push o).push ob) (s.heap.objs.size + 1) s.heap.objs.size 0 .none := by subst hob; exact he
  exact ⟨⟨_, he', rfl⟩, h _ he' (Heap.get?_push_of_some _ (Heap.get?_push_size _ B.free)) (by rw [Heap.size_push, hz]) fun b o x => Heap.get?_push_of_some _ (Heap.get?_push_of_some _ x)⟩
/-- the tuple at a, each item in a new pair -/
def IteT (K : PySem.W.Frag) (a : Addr) : L2.It :=
  ⟨fun i H => ∃ (xs : List V) (x : V), SqT K H a xs ∧ xs[i]? = some x, fun i H v H' => ∃ T x, v = .ref T ∧ H T = none ∧ H' = upd H T (.tup [.int (i : Nat), x]) ∧ ∀ xs, SqT K H a xs → xs[i]? = some x, fun i H => ∃ xs : List V, SqT K H a xs ∧ xs.length = i⟩
theorem turn_enumT {P : Program} {w : World} {K : PySem.W.Frag} {elts : List Expr} {kk : Nat} {tpos : Pos} (a e it : Addr) :
    Turn P w K (.Tuple elts kk tpos) (IteT K a) [e, it] e (fun i h => (∃ old, IsEnum h e it ((i : Nat) : Int) old) ∧ h.IsTupleIter it a i ∧ e ≠ it ∧ a ≠ it) where
  mem := by simp
  obj := fun i h st b hb => by
    obtain ⟨⟨old, he⟩, ⟨o, ho, hc, hd⟩, _⟩ := st
    rcases (show b = e ∨ b = it by simpa using hb) with z | z
    · rw [z]; exact ⟨_, he, fun v q => nomatch q⟩
    · rw [z]; exact ⟨o, ho, fun v q => by rw [hd] at q; cases q⟩
  keep := fun i h h' st k => let ⟨⟨old, he⟩, hi, hne⟩ := st; ⟨⟨old, k e (by simp) _ he⟩, hi.at fun o q => k it (by simp) o q, hne⟩
  item := by
    intro X hP hw hK hc i pins s σ H E I hf st hg
    subst hP hw hK
    obtain ⟨⟨old, he⟩, hit, hne, hai⟩ := st
    obtain ⟨xs, x, hq, hx⟩ := hg
    obtain ⟨its, rv, p, hz⟩ := I.tuple hq
    obtain ⟨u, hu, ru⟩ := rv.get hx
    have hel : e < s.heap.objs.size := Heap.lt_size he
    have hil : it < s.heap.objs.size := by obtain ⟨_, q, _⟩ := hit; exact Heap.lt_size q
    have hlt : i < its.toArray.size := by rw [List.size_toArray]; exact (List.getElem?_eq_some_iff.mp hu).1
    have hae : a ≠ e := fun z => by
      obtain ⟨o, ho, hcl, _⟩ := p
      rw [z, he] at ho
      cases ho
      exact absurd (Value.type.inj hcl) (by decide)
    have D := Draws.tuple (prog := X.prog) (w := X.w) (A := X.A.in1) (I.ok.hd hc) it a hai its.toArray
    have hef : e ∉ [it, a] := by
      simp only [List.mem_cons, List.not_mem_nil, or_false, not_or]
      exact ⟨hne, Ne.symm hae⟩
    refine wpAny_pyNext_enum_itemD D he ⟨hit, p⟩ hlt hne hef fun y h' tk hP ho hst hT hsz hk => ?_
    obtain ⟨hit', _⟩ := hst
    have ey : y = u := by
      have z : its.toArray[i]? = some u := by simpa using hu
      rw [z] at hP; exact (Option.some.inj hP).symm
    subst ey
    refine ⟨_, rfl, wpAny_letOwnedTupleGo_enum (s := { s with heap := h', toks := tk + 1 }) ho fun h'' he' sb => ?_⟩
    have hT2 : h''.get? s.heap.objs.size = some { cls := .type "tuple", data := .seq #[.int i tk, y] } := (sb.2 _ (Nat.ne_of_gt hel)).trans hT
    have new : ObjOk X.prog X.w (upd H s.heap.objs.size (.tup [.int (i : Nat), x])) h'' s.heap.objs.size (.tup [.int (i : Nat), x]) :=
      ⟨by show 2 ≤ sizeLine; decide, [.int i tk, y], .cons ⟨_, rfl⟩ (.cons ru .nil), ⟨_, hT2, rfl, _, rfl⟩⟩
    have I1 : Inv X pins σ (upd H s.heap.objs.size (.tup [.int (i : Nat), x])) { s with heap := h'', toks := tk + 1 } :=
      I.turnedNew (ch := [e, it]) (fun b ob hb q => (sb.2 b (fun z => hb (by simp [z]))).trans (hk b ob (fun z => hb (by simp [z])) (fun z => hb (by simp [z])) q)) hf (Nat.le_refl _) new
    refine ⟨.ref s.heap.objs.size, _, I1, rfl, ⟨_, x, rfl, I.hok.fresh (Nat.le_refl _), rfl, fun ys hy => by rw [I.tuple_inj hy hq]; exact hx⟩, ⟨⟨y, ?_⟩, hit'.at fun o q => (sb.2 it (Ne.symm hne)).trans q, hne, hai⟩, fun b hb => ?_⟩
    · have e1 : ((i + 1 : Nat) : Int) = (i : Int) + 1 := by omega
      rw [e1]; exact he'
    · have hb' : b < s.heap.objs.size := by
        rcases (show b = e ∨ b = it by simpa using hb) with z | z
        · rw [z]; exact hel
        · rw [z]; exact hil
      rw [upd_ne (Nat.ne_of_lt hb')]
      exact (hf b hb).1
  done := by
    intro X hP hw hK hc i pins s σ H E I hf st hg
    subst hP hw hK
    obtain ⟨⟨old, he⟩, hit, hne, hai⟩ := st
    obtain ⟨xs, hq, hx⟩ := hg
    obtain ⟨its, rv, p, hz⟩ := I.tuple hq
    obtain ⟨f0, f1, f2, f3, f4, f5⟩ := hf it (by simp)
    have hl := rv.length
    have D := Draws.tuple (prog := X.prog) (w := X.w) (A := X.A.in1) (I.ok.hd hc) it a hai its.toArray
    have hi2 : its.toArray.size = i := by rw [List.size_toArray]; omega
    exact wpAny_pyNext_enum_endD D he (by rw [hi2]; exact ⟨hit, p⟩) fun h' eb => ⟨rfl, I.turned (t' := s.toks) (fun b o hb q => eb b o hb q) f0 f1 f3 f4 f5⟩
  self := fun A i s Q E st h => let ⟨⟨_, he⟩, _⟩ := st; wpAny_pyIter_enum he h

/-! ## what is walked, by values -/
section
variable {X : Cx} {tg : Expr}
/-- a list or a tuple -/
def iSeq (K : PySem.W.Frag) (tl : TE) : TI := fun σ H R => tl σ H fun x H1 => ∃ a, x = .ref a ∧ (((∃ xs, SqL K H1 a xs) ∧ R (Itl K a) H1) ∨ ((∃ xs, SqT K H1 a xs) ∧ R (Itt K a) H1))
theorem pi_seq {l : Expr} {tl : TE} (hl : PE X l tl) : PI X tg l (iSeq X.K tl) := by
  refine ⟨fun pins s σ H R I h => ?_⟩
  refine thn (hl.run pins s σ H _ I h) fun v s1 ⟨x, H1, I1, r1, q1⟩ => ?_
  obtain ⟨a, e, q1⟩ := q1
  subst e
  cases r1
  have fr : ∀ b ∈ [s1.heap.objs.size], FpOk X pins H1 b := fun b hb => by
    rw [List.mem_singleton.mp hb]
    exact I1.fpOk (Nat.le_refl _) (I1.hok.fresh (Nat.le_refl _))
  rcases q1 with ⟨⟨xs, hq⟩, q⟩ | ⟨⟨xs, hq⟩, q⟩
  · obtain ⟨its, rv, p, hz⟩ := I1.list hq
    refine wpAny_pyIter_list p.isList ?_
    exact ⟨s1.heap.objs.size, [s1.heap.objs.size], _, _, H1, rfl, I1.kept (t' := s1.toks) fun b o e => Heap.get?_push_of_some _ e, turn_list a _, ⟨_, Heap.get?_push_size _ rfl, rfl, rfl⟩, fr, q⟩
  · obtain ⟨its, rv, p, hz⟩ := I1.tuple hq
    refine wpAny_pyIter_tuple (show s1.heap.IsTuple a its.toArray from p) ?_
    exact ⟨s1.heap.objs.size, [s1.heap.objs.size], _, _, H1, rfl, I1.kept (t' := s1.toks) fun b o e => Heap.get?_push_of_some _ e, turn_tuple a _, ⟨_, Heap.get?_push_size _ rfl, rfl, rfl⟩, fr, q⟩
/-- enumerate of a list or of a tuple -/
def iEnu (K : PySem.W.Frag) (te : TE) : TI := fun σ H R => te σ H fun x H1 => ∃ a, x = .ref a ∧ ((∃ xs, SqL K H1 a xs ∧ R (Ite K a) H1) ∨ (∃ xs, SqT K H1 a xs ∧ R (IteT K a) H1))
theorem pi_enu {e : Expr} {te : TE} {p pos tpos : Pos} {elts : List Expr} {kk : Nat} (hg : Gl X "enumerate") (hm : X.mg "enumerate" = none) (ha : PE X e te) (hs : starEach [e] X.env = [(false, eval e X.env)]) :
    PI X (.Tuple elts kk tpos) (.Call (.Name "enumerate" p) [e] [] pos) (iEnu X.K te) := by
  refine ⟨fun pins s σ H R I h => ?_⟩
  refine Call_ (ld_blt I hg hm boot_enumerate (PyProof.Rows.callWith_type1 ?_ hs rfl))
  have pa : PA X [e] (tCons te tNil) := pa_cons ha pa_nil hs
  refine thn (pa.run pos pins s σ H (fun vs H1 => match vs with
    | [x] => ∃ a, x = .ref a ∧ ((∃ xs, SqL X.K H1 a xs ∧ R (Ite X.K a) H1) ∨ (∃ xs, SqT X.K H1 a xs ∧ R (IteT X.K a) H1))
    | _ => False) I h) fun us s1 ⟨vs, H1, I1, r1, q1⟩ => ?_
  dsimp only at q1
  split at q1
  · obtain ⟨a, ex, q1⟩ := q1
    subst ex
    obtain ⟨u, rfl, ru⟩ := Vals.one r1
    cases ru
    have fr : ∀ b ∈ [s1.heap.objs.size + 1, s1.heap.objs.size], FpOk X pins H1 b := fun b hb => by
      have hle : s1.heap.objs.size ≤ b := by
        rcases (show b = s1.heap.objs.size + 1 ∨ b = s1.heap.objs.size by simpa using hb) with z | z
        · rw [z]; exact Nat.le_succ _
        · rw [z]; exact Nat.le_refl _
      exact I1.fpOk hle (I1.hok.fresh hle)
    rcases q1 with ⟨xs, hq, q⟩ | ⟨xs, hq, q⟩
    · obtain ⟨its, rv, p', hz⟩ := I1.list hq
      refine call_enumerate_list p'.isList fun h' he hit hsz hk => wpAny_pyIter_enum he ?_
      exact ⟨s1.heap.objs.size + 1, [s1.heap.objs.size + 1, s1.heap.objs.size], _, _, H1, rfl, I1.kept (t' := s1.toks) hk, turn_enum a (s1.heap.objs.size + 1) s1.heap.objs.size, ⟨⟨.none, he⟩, hit, Nat.succ_ne_self _⟩, fr, q⟩
    · obtain ⟨its, rv, p', hz⟩ := I1.tuple hq
      have la : a < s1.heap.objs.size := let ⟨_, ho, _⟩ := p'; Heap.lt_size ho
      refine enum1_begins (begins_tuple a its.toArray) (show s1.heap.IsTuple a its.toArray from p') fun h' he hit hsz hk => wpAny_pyIter_enum he ?_
      exact ⟨s1.heap.objs.size + 1, [s1.heap.objs.size + 1, s1.heap.objs.size], _, _, H1, rfl, I1.kept (t' := s1.toks) hk, turn_enumT a (s1.heap.objs.size + 1) s1.heap.objs.size, ⟨⟨.none, he⟩, ⟨_, hit, rfl, rfl⟩, Nat.succ_ne_self _, Nat.ne_of_lt la⟩, fr, q⟩
  · exact q1.elim
end
end PV

set_option maxRecDepth 100000
set_option maxHeartbeats 4000000
namespace PV
open PySem PySem.Spec PyProof.Rows L2
/-! ## lists out of sight -/
inductive Veil (z ρ : List Addr) (H : Hp) : List Addr → Hp → Prop
  | new {D : Addr} {ys : List V} : H D = none → Veil z ρ H (D :: z) (upd H D (.lst ys))
  | wr {D : Addr} {xs ys : List V} : D ∈ z → D ∉ ρ → H D = some (.lst xs) → Veil z ρ H z (upd H D (.lst ys))
section
variable {K : PySem.W.Frag} {z z' ρ : List Addr} {H H' : Hp}
theorem Veil.lst (h : Veil z ρ H z' H') {a : Addr} {vs : List V} (e : H a = some (.lst vs)) (f : Free ⟨K, z⟩ ρ a) : H' a = some (.lst vs) ∧ Free ⟨K, z'⟩ ρ a := by
  cases h with
  | new n =>
    have ne := ne_of_none e n
    exact ⟨by rw [upd_ne ne]; exact e, f.1, fun q => (List.mem_cons.mp q).elim ne f.2⟩
  | wr h1 h2 h3 =>
    exact ⟨by rw [upd_ne (fun q => f.2 (by rw [q]; exact h1))]; exact e, f⟩
theorem Veil.inρ (h : Veil z ρ H z' H') {a : Addr} {o : HO} (e : H a = some o) (f : a ∈ ρ) : H' a = some o := by
  cases h with
  | new n => rw [upd_ne (ne_of_none e n)]; exact e
  | wr h1 h2 h3 => rw [upd_ne (fun q => h2 (by rw [← q]; exact f))]; exact e
theorem Veil.oth (h : Veil z ρ H z' H') {a : Addr} {o : HO} (e : H a = some o) (f : ∀ xs, o ≠ .lst xs) : H' a = some o := by
  cases h with
  | new n => rw [upd_ne (ne_of_none e n)]; exact e
  | wr h1 h2 h3 => rw [upd_ne (ne_of e h3 (f _))]; exact e
theorem Veil.sqT (h : Veil z ρ H z' H') {a : Addr} {vs : List V} (e : SqT K H a vs) : SqT K H' a vs := by
  rcases e with (e | ⟨o, e⟩) | e
  · exact .inl (.inl (h.oth e fun _ q => nomatch q))
  · exact .inl (.inr ⟨o, h.oth e fun _ q => nomatch q⟩)
  · exact .inr e
theorem Veil.scr (h : Veil z ρ H z' H') {a : Addr} {vs : List V} (e : ScrAt K H a vs) : ScrAt K H' a vs := by
  rcases e with ⟨o, e⟩ | e
  · exact .inl ⟨o, h.oth e fun _ q => nomatch q⟩
  · exact .inr e
mutual
theorem Rep.veil (h : Veil z ρ H z' H') : ∀ (d : D) (v : V), Rep ⟨K, z⟩ H ρ d v → Rep ⟨K, z'⟩ H' ρ d v
  | .non, v, q => q
  | .bl _, v, q => q
  | .int _, v, q => q
  | .str _, v, q => q
  | .tup ds, v, q => by
    obtain ⟨p, vs, e, h1, h2, h3⟩ := q
    exact ⟨p, vs, e, h.sqT h1, h2, RepL.veil h ds vs h3⟩
  | .lst ds, v, q => by
    obtain ⟨p, vs, e, h1, h2, h3, h4⟩ := q
    obtain ⟨g1, g2⟩ := h.lst h1 h2
    exact ⟨p, vs, e, g1, g2, h3, RepL.veil h ds vs h4⟩
  | .scr ds, v, q => by
    obtain ⟨p, vs, e, h1, h2, h3⟩ := q
    exact ⟨p, vs, e, h.scr h1, h2, RepL.veil h ds vs h3⟩
  | .ref i, v, q => q
theorem RepL.veil (h : Veil z ρ H z' H') : ∀ (ds : List D) (vs : List V), RepL ⟨K, z⟩ H ρ ds vs → RepL ⟨K, z'⟩ H' ρ ds vs
  | [], vs, q => q
  | d :: ds, vs, q => by
    obtain ⟨v, r, e, h1, h2⟩ := q
    exact ⟨v, r, e, Rep.veil h d v h1, RepL.veil h ds r h2⟩
end
theorem Rel.veil {μ : Mem} (h : Veil z ρ H z' H') (r : Rel ⟨K, z⟩ H ρ μ) : Rel ⟨K, z'⟩ H' ρ μ := by
  refine ⟨r.len, r.nd, fun i a c h1 h2 => ?_, fun a ha => ?_⟩
  · cases r.cell i a c h1 h2 with
    | lst g1 g2 g3 => exact .lst (h.inρ g1 (List.mem_of_getElem? h1)) g2 (RepL.veil h _ _ g3)
  · cases h with
    | new n =>
      rcases List.mem_cons.mp ha with e | e
      · subst e; exact ⟨r.out0 n, _, upd_same⟩
      · obtain ⟨g1, vs, g2⟩ := r.hid a e
        exact ⟨g1, vs, by rw [upd_ne (ne_of_none g2 n)]; exact g2⟩
    | @wr D xs ys h1 h2 h3 =>
      obtain ⟨g1, vs, g2⟩ := r.hid a ha
      by_cases e : a = D
      · subst e; exact ⟨g1, _, upd_same⟩
      · exact ⟨g1, vs, by rw [upd_ne e]; exact g2⟩
theorem EnvRel.veil {σ : L2.St} {env : EnvD} (h : Veil z ρ H z' H') (r : EnvRel ⟨K, z⟩ H ρ σ env) : EnvRel ⟨K, z'⟩ H' ρ σ env :=
  ⟨r.1, fun i d e => let ⟨v, h1, h2⟩ := r.2 i d e; ⟨v, h1, Rep.veil h d v h2⟩⟩
/-! ### out of sight no more -/
mutual
theorem Rep.un (h : ∀ a ∈ z', a ∈ z) : ∀ (d : D) (v : V), Rep ⟨K, z⟩ H ρ d v → Rep ⟨K, z'⟩ H ρ d v
  | .non, v, q => q
  | .bl _, v, q => q
  | .int _, v, q => q
  | .str _, v, q => q
  | .tup ds, v, q => by
    obtain ⟨p, vs, e, h1, h2, h3⟩ := q
    exact ⟨p, vs, e, h1, h2, RepL.un h ds vs h3⟩
  | .lst ds, v, q => by
    obtain ⟨p, vs, e, h1, h2, h3, h4⟩ := q
    exact ⟨p, vs, e, h1, ⟨h2.1, fun q => h2.2 (h p q)⟩, h3, RepL.un h ds vs h4⟩
  | .scr ds, v, q => by
    obtain ⟨p, vs, e, h1, h2, h3⟩ := q
    exact ⟨p, vs, e, h1, h2, RepL.un h ds vs h3⟩
  | .ref i, v, q => q
theorem RepL.un (h : ∀ a ∈ z', a ∈ z) : ∀ (ds : List D) (vs : List V), RepL ⟨K, z⟩ H ρ ds vs → RepL ⟨K, z'⟩ H ρ ds vs
  | [], vs, q => q
  | d :: ds, vs, q => by
    obtain ⟨v, r, e, h1, h2⟩ := q
    exact ⟨v, r, e, Rep.un h d v h1, RepL.un h ds r h2⟩
end
theorem Rel.un {μ : Mem} (h : ∀ a ∈ z', a ∈ z) (r : Rel ⟨K, z⟩ H ρ μ) : Rel ⟨K, z'⟩ H ρ μ := by
  refine ⟨r.len, r.nd, fun i a c h1 h2 => ?_, fun a ha => r.hid a (h a ha)⟩
  cases r.cell i a c h1 h2 with
  | lst g1 g2 g3 => exact .lst g1 g2 (RepL.un h _ _ g3)
end
abbrev ZP := List Addr → List Addr → Hp → Prop
def Stable (K : PySem.W.Frag) (g : Grd) (S : ZP) : Prop := (∀ z ρ H ρ' H' μ', S z ρ H → Keep ρ H ρ' H' → Rel ⟨K, z⟩ H' ρ' μ' → okG g μ' = true → S z ρ' H') ∧ ∀ z ρ H z' H', S z ρ H → Veil z ρ H z' H' → S z' ρ H'
/-- J walks the items ds, as long as the cells of g stay -/
def WalkD (K : KZ) (ρ : List Addr) (H : Hp) (p : List D × Grd) (J : L2.It) : Prop :=
  p.1.length ≤ sizeLine ∧ ∃ S : ZP, S K.z ρ H ∧ Stable K.K p.2 S ∧
    (∀ z ρ μ H i d, S z ρ H → Rel ⟨K.K, z⟩ H ρ μ → okG p.2 μ = true → p.1[i]? = some d → J.go i H ∧ ∀ x H', J.yld i H x H' → Keep ρ H ρ H' ∧ Rel ⟨K.K, z⟩ H' ρ μ ∧ Rep ⟨K.K, z⟩ H' ρ d x ∧ S z ρ H') ∧
    (∀ z ρ μ H, S z ρ H → Rel ⟨K.K, z⟩ H ρ μ → J.stop p.1.length H)
/-- a source that stands -/
def SrcL (K : KZ) (ρ : List Addr) (H : Hp) (p : List D × Grd) (a : Addr) : Prop :=
  p.1.length ≤ sizeLine ∧ ∃ S : ZP, S K.z ρ H ∧ Stable K.K p.2 S ∧ ∀ z ρ H, S z ρ H → ∃ vs, SqL K.K H a vs ∧ RepL ⟨K.K, z⟩ H ρ p.1 vs
def SrcT (K : KZ) (ρ : List Addr) (H : Hp) (p : List D × Grd) (a : Addr) : Prop :=
  p.1.length ≤ sizeLine ∧ ∃ S : ZP, S K.z ρ H ∧ Stable K.K p.2 S ∧ ∀ z ρ H, S z ρ H → ∃ vs, SqT K.K H a vs ∧ RepL ⟨K.K, z⟩ H ρ p.1 vs
theorem okG_one {i : Nat} {ds : List D} {μ : Mem} (h : okG [(i, ds)] μ = true) : μ[i]? = some (.lst ds) := by
  simp only [okG, List.all_cons, List.all_nil, Bool.and_true] at h
  cases e : μ[i]? with
  | none => rw [e] at h; cases h
  | some c =>
    cases c with
    | lst es =>
      rw [e] at h
      rw [D.eq_of_beqL es ds h]
theorem okG_app {g k : Grd} {μ : Mem} (h : okG (g ++ k) μ = true) : okG g μ = true ∧ okG k μ = true := by
  simpa [okG, List.all_append] using h
theorem src_of {K : KZ} {ρ : List Addr} {H : Hp} {μ : Mem} {d : D} {v : V} {p : List D × Grd} (r : Rel K H ρ μ) (q : Rep K H ρ d v) (h : itemsD d μ = some p) : ∃ a, v = .ref a ∧ ((isTup d = false ∧ SrcL K ρ H p a) ∨ (isTup d = true ∧ SrcT K ρ H p a)) := by
  unfold itemsD at h
  split at h
  · cases h
    obtain ⟨a, vs, rfl, h1, h2, h3⟩ := q
    exact ⟨a, rfl, .inr ⟨rfl, by rw [← h3.len]; exact h2, fun z ρ H => ∃ vs, SqT K.K H a vs ∧ RepL ⟨K.K, z⟩ H ρ _ vs, ⟨vs, h1, h3⟩,
      ⟨fun z ρ H ρ' H' μ' ⟨vs, h1, h3⟩ k _ _ => ⟨vs, k.sqT h1, RepL.mono k _ _ h3⟩, fun z ρ H z' H' ⟨vs, h1, h3⟩ w => ⟨vs, w.sqT h1, RepL.veil w _ _ h3⟩⟩, fun z ρ H h => h⟩⟩
  · cases h
    obtain ⟨a, vs, rfl, h1, h2, h4, h3⟩ := q
    exact ⟨a, rfl, .inl ⟨rfl, by rw [← h3.len]; exact h4, fun z ρ H => ∃ vs, H a = some (.lst vs) ∧ Free ⟨K.K, z⟩ ρ a ∧ RepL ⟨K.K, z⟩ H ρ _ vs, ⟨vs, h1, h2, h3⟩,
      ⟨fun z ρ H ρ' H' μ' ⟨vs, h1, h2, h3⟩ k _ _ => ⟨vs, k.keep _ _ h1 h2.1, k.out h1 h2, RepL.mono k _ _ h3⟩, fun z ρ H z' H' ⟨vs, h1, h2, h3⟩ w => let ⟨g1, g2⟩ := w.lst h1 h2; ⟨vs, g1, g2, RepL.veil w _ _ h3⟩⟩,
      fun z ρ H ⟨vs, h1, _, h3⟩ => ⟨vs, SqL.of h1, h3⟩⟩⟩
  · cases h
    obtain ⟨a, vs, rfl, h1, h2, h3⟩ := q
    exact ⟨a, rfl, .inl ⟨rfl, by rw [← h3.len]; exact h2, fun z ρ H => ∃ vs, ScrAt K.K H a vs ∧ RepL ⟨K.K, z⟩ H ρ _ vs, ⟨vs, h1, h3⟩,
      ⟨fun z ρ H ρ' H' μ' ⟨vs, h1, h3⟩ k _ _ => ⟨vs, k.scr h1, RepL.mono k _ _ h3⟩, fun z ρ H z' H' ⟨vs, h1, h3⟩ w => ⟨vs, w.scr h1, RepL.veil w _ _ h3⟩⟩, fun z ρ H ⟨vs, h1, h3⟩ => ⟨vs, h1.sq, h3⟩⟩⟩
  · rename_i i
    obtain ⟨a, ha, rfl⟩ := q
    split at h
    · rename_i ds e
      cases h
      obtain ⟨b, hb, hc⟩ := r.at e
      rw [ha] at hb; cases hb
      cases hc with
      | lst h1 h2 h3 =>
        rename_i vs
        refine ⟨a, rfl, .inl ⟨rfl, by rw [← h3.len]; exact h2, fun z ρ H => ρ[i]? = some a ∧ ∃ vs, H a = some (.lst vs) ∧ RepL ⟨K.K, z⟩ H ρ ds vs, ⟨ha, vs, h1, h3⟩,
          ⟨fun z ρ H ρ' H' μ' ⟨q1, _⟩ k r' hg => ?_, fun z ρ H z' H' ⟨q1, vs, h1, h3⟩ w => ⟨q1, vs, w.inρ h1 (List.mem_of_getElem? q1), RepL.veil w _ _ h3⟩⟩, fun z ρ H ⟨_, vs, h1, h3⟩ => ⟨vs, SqL.of h1, h3⟩⟩⟩
        have e' := okG_one hg
        obtain ⟨b, hb, hc⟩ := r'.at e'
        rw [k.at q1] at hb; cases hb
        cases hc with
        | lst g1 g2 g3 => exact ⟨k.at q1, _, g1, g3⟩
    · cases h
  · cases h
section
variable {K : KZ} {ρ : List Addr} {H : Hp} {a b : Addr}
theorem sq_injL {H : Hp} {xs : List V} {i : Nat} {x y : V} (h : SqL K.K H a xs) (hx : xs[i]? = some y) (g : ∀ xs, SqL K.K H a xs → xs[i]? = some x) : x = y := Option.some.inj ((g xs h).symm.trans hx)
theorem sq_injT {H : Hp} {xs : List V} {i : Nat} {x y : V} (h : SqT K.K H a xs) (hx : xs[i]? = some y) (g : ∀ xs, SqT K.K H a xs → xs[i]? = some x) : x = y := Option.some.inj ((g xs h).symm.trans hx)
theorem walk_l {p : List D × Grd} (h : SrcL K ρ H p a) : WalkD K ρ H p (Itl K a) := by
  obtain ⟨hl, S, s0, st, hS⟩ := h
  refine ⟨hl, S, s0, st, fun z ρ μ H i d s r og e => ?_, fun z ρ μ H s r => ?_⟩
  · obtain ⟨vs, h1, h2⟩ := hS z ρ H s
    obtain ⟨v, hv, hd⟩ := h2.get e
    refine ⟨⟨vs, v, h1, hv⟩, fun x H' y => ?_⟩
    obtain ⟨rfl, hx⟩ := y
    have := sq_injL h1 hv hx
    subst this
    exact ⟨Keep.refl, r, hd, s⟩
  · obtain ⟨vs, h1, h2⟩ := hS z ρ H s
    exact ⟨vs, h1, by rw [h2.len]; exact Nat.le_refl _⟩
theorem walk_t {p : List D × Grd} (h : SrcT K ρ H p a) : WalkD K ρ H p (Itt K a) := by
  obtain ⟨hl, S, s0, st, hS⟩ := h
  refine ⟨hl, S, s0, st, fun z ρ μ H i d s r og e => ?_, fun z ρ μ H s r => ?_⟩
  · obtain ⟨vs, h1, h2⟩ := hS z ρ H s
    obtain ⟨v, hv, hd⟩ := h2.get e
    refine ⟨⟨vs, v, h1, hv⟩, fun x H' y => ?_⟩
    obtain ⟨rfl, hx⟩ := y
    have := sq_injT h1 hv hx
    subst this
    exact ⟨Keep.refl, r, hd, s⟩
  · obtain ⟨vs, h1, h2⟩ := hS z ρ H s
    exact ⟨vs, h1, by rw [h2.len]; exact Nat.le_refl _⟩
theorem pairsD_get : ∀ (ds : List D) (n i : Nat) (d : D), (pairsD n ds)[i]? = some d → ∃ x, ds[i]? = some x ∧ d = .tup [.int ((n + i : Nat) : Int), x]
  | [], n, i, d, h => by simp [pairsD] at h
  | x :: r, n, 0, d, h => by
    simp only [pairsD, List.getElem?_cons_zero, Option.some.injEq] at h
    exact ⟨x, rfl, h.symm⟩
  | x :: r, n, i + 1, d, h => by
    simp only [pairsD, List.getElem?_cons_succ] at h
    obtain ⟨y, h1, h2⟩ := pairsD_get r (n + 1) i d h
    refine ⟨y, by simpa using h1, ?_⟩
    rw [h2]
    congr 3
    omega
theorem pairsD_len : ∀ (ds : List D) (n : Nat), (pairsD n ds).length = ds.length
  | [], _ => rfl
  | _ :: r, n => by rw [pairsD, List.length_cons, List.length_cons, pairsD_len r]
theorem rep_pair {H : Hp} {T : Addr} {d e : D} {v u : V} (n : H T = none) (h1 : Rep K H ρ d v) (h2 : Rep K H ρ e u) : Rep K (upd H T (.tup [v, u])) ρ (.tup [d, e]) (.ref T) :=
  ⟨T, [v, u], rfl, .inl (.inl upd_same), by show 2 ≤ sizeLine; decide, v, [u], rfl, Rep.mono (keep_new n) _ _ h1, u, [], rfl, Rep.mono (keep_new n) _ _ h2, rfl⟩
theorem walk_el {p : List D × Grd} (h : SrcL K ρ H p a) : WalkD K ρ H (pairsD 0 p.1, p.2) (Ite K a) := by
  obtain ⟨hl, S, s0, st, hS⟩ := h
  refine ⟨by rw [pairsD_len]; exact hl, S, s0, st, fun z ρ μ H i d s r og e => ?_, fun z ρ μ H s r => ?_⟩
  · obtain ⟨vs, h1, h2⟩ := hS z ρ H s
    obtain ⟨c, hc, rfl⟩ := pairsD_get _ _ _ _ e
    obtain ⟨v, hv, hd⟩ := h2.get hc
    refine ⟨⟨vs, v, h1, hv⟩, fun x H' y => ?_⟩
    obtain ⟨T, x', rfl, nT, rfl, hx⟩ := y
    have := sq_injL h1 hv hx
    subst this
    have k := keep_new (ρ := ρ) (o := .tup [.int (i : Nat), x']) nT
    refine ⟨k, r.new nT, ?_, st.1 _ _ _ _ _ μ s k (r.new nT) og⟩
    rw [Nat.zero_add]
    exact rep_pair nT rfl hd
  · obtain ⟨vs, h1, h2⟩ := hS z ρ H s
    exact ⟨vs, h1, by rw [h2.len, pairsD_len]; exact Nat.le_refl _⟩
theorem walk_et {p : List D × Grd} (h : SrcT K ρ H p a) : WalkD K ρ H (pairsD 0 p.1, p.2) (IteT K a) := by
  obtain ⟨hl, S, s0, st, hS⟩ := h
  refine ⟨by rw [pairsD_len]; exact hl, S, s0, st, fun z ρ μ H i d s r og e => ?_, fun z ρ μ H s r => ?_⟩
  · obtain ⟨vs, h1, h2⟩ := hS z ρ H s
    obtain ⟨c, hc, rfl⟩ := pairsD_get _ _ _ _ e
    obtain ⟨v, hv, hd⟩ := h2.get hc
    refine ⟨⟨vs, v, h1, hv⟩, fun x H' y => ?_⟩
    obtain ⟨T, x', rfl, nT, rfl, hx⟩ := y
    have := sq_injT h1 hv hx
    subst this
    have k := keep_new (ρ := ρ) (o := .tup [.int (i : Nat), x']) nT
    refine ⟨k, r.new nT, ?_, st.1 _ _ _ _ _ μ s k (r.new nT) og⟩
    rw [Nat.zero_add]
    exact rep_pair nT rfl hd
  · obtain ⟨vs, h1, h2⟩ := hS z ρ H s
    exact ⟨vs, h1, by rw [h2.len, pairsD_len]⟩
theorem zipD_get : ∀ (xs ys : List D) (i : Nat) (d : D), (zipD xs ys)[i]? = some d → ∃ x y, xs[i]? = some x ∧ ys[i]? = some y ∧ d = .tup [x, y]
  | [], ys, i, d, h => by simp [zipD] at h
  | _ :: _, [], i, d, h => by simp [zipD] at h
  | x :: r, y :: t, 0, d, h => by
    simp only [zipD, List.getElem?_cons_zero, Option.some.injEq] at h
    exact ⟨x, y, rfl, rfl, h.symm⟩
  | x :: r, y :: t, i + 1, d, h => by
    simp only [zipD, List.getElem?_cons_succ] at h
    obtain ⟨a, b, h1, h2, h3⟩ := zipD_get r t i d h
    exact ⟨a, b, by simpa using h1, by simpa using h2, h3⟩
theorem zipD_le : ∀ (xs ys : List D), (zipD xs ys).length ≤ xs.length
  | [], ys => Nat.zero_le _
  | _ :: _, [] => Nat.zero_le _
  | x :: r, y :: t => Nat.succ_le_succ (zipD_le r t)
theorem zipD_len : ∀ (xs ys : List D), xs.length ≤ (zipD xs ys).length ∨ ys.length ≤ (zipD xs ys).length
  | [], ys => .inl (Nat.zero_le _)
  | _ :: _, [] => .inr (Nat.zero_le _)
  | x :: r, y :: t => by
    simp only [zipD, List.length_cons]
    have := zipD_len r t
    omega
theorem walk_zl {p q : List D × Grd} (h : SrcL K ρ H p a) (g : SrcL K ρ H q b) : WalkD K ρ H (zipD p.1 q.1, p.2 ++ q.2) (Itz K a b) := by
  obtain ⟨hl, S, s0, st, hS⟩ := h
  obtain ⟨_, T, t0, tt, hT⟩ := g
  have stb : Stable K.K (p.2 ++ q.2) (fun z ρ H => S z ρ H ∧ T z ρ H) := ⟨fun z ρ H ρ' H' μ' s k r og => ⟨st.1 _ _ _ _ _ μ' s.1 k r (okG_app og).1, tt.1 _ _ _ _ _ μ' s.2 k r (okG_app og).2⟩, fun z ρ H z' H' s w => ⟨st.2 _ _ _ _ _ s.1 w, tt.2 _ _ _ _ _ s.2 w⟩⟩
  refine ⟨Nat.le_trans (zipD_le _ _) hl, fun z ρ H => S z ρ H ∧ T z ρ H, ⟨s0, t0⟩, stb, fun z ρ μ H i d s r og e => ?_, fun z ρ μ H s r => ?_⟩
  · obtain ⟨vs, h1, h2⟩ := hS z ρ H s.1
    obtain ⟨us, g1, g2⟩ := hT z ρ H s.2
    obtain ⟨c, c', hc, hc', rfl⟩ := zipD_get _ _ _ _ e
    obtain ⟨v, hv, hd⟩ := h2.get hc
    obtain ⟨u, hu, hd'⟩ := g2.get hc'
    refine ⟨⟨vs, us, v, u, h1, g1, hv, hu⟩, fun x H' y => ?_⟩
    obtain ⟨Tp, x', y', rfl, nT, rfl, hx, hy⟩ := y
    have e1 := sq_injL h1 hv hx
    have e2 := sq_injL g1 hu hy
    subst e1; subst e2
    have k := keep_new (ρ := ρ) (o := .tup [x', y']) nT
    exact ⟨k, r.new nT, rep_pair nT hd hd', stb.1 _ _ _ _ _ μ s k (r.new nT) og⟩
  · obtain ⟨vs, h1, h2⟩ := hS z ρ H s.1
    obtain ⟨us, g1, g2⟩ := hT z ρ H s.2
    exact ⟨vs, us, h1, g1, by rw [h2.len, g2.len]; exact zipD_len _ _⟩
theorem walk_zt {p q : List D × Grd} (h : SrcT K ρ H p a) (g : SrcT K ρ H q b) : WalkD K ρ H (zipD p.1 q.1, p.2 ++ q.2) (RZ.ItzT K a b) := by
  obtain ⟨hl, S, s0, st, hS⟩ := h
  obtain ⟨_, T, t0, tt, hT⟩ := g
  have stb : Stable K.K (p.2 ++ q.2) (fun z ρ H => S z ρ H ∧ T z ρ H) := ⟨fun z ρ H ρ' H' μ' s k r og => ⟨st.1 _ _ _ _ _ μ' s.1 k r (okG_app og).1, tt.1 _ _ _ _ _ μ' s.2 k r (okG_app og).2⟩, fun z ρ H z' H' s w => ⟨st.2 _ _ _ _ _ s.1 w, tt.2 _ _ _ _ _ s.2 w⟩⟩
  refine ⟨Nat.le_trans (zipD_le _ _) hl, fun z ρ H => S z ρ H ∧ T z ρ H, ⟨s0, t0⟩, stb, fun z ρ μ H i d s r og e => ?_, fun z ρ μ H s r => ?_⟩
  · obtain ⟨vs, h1, h2⟩ := hS z ρ H s.1
    obtain ⟨us, g1, g2⟩ := hT z ρ H s.2
    obtain ⟨c, c', hc, hc', rfl⟩ := zipD_get _ _ _ _ e
    obtain ⟨v, hv, hd⟩ := h2.get hc
    obtain ⟨u, hu, hd'⟩ := g2.get hc'
    refine ⟨⟨vs, us, v, u, h1, g1, hv, hu⟩, fun x H' y => ?_⟩
    obtain ⟨Tp, x', y', rfl, nT, rfl, hx, hy⟩ := y
    have e1 := sq_injT h1 hv hx
    have e2 := sq_injT g1 hu hy
    subst e1; subst e2
    have k := keep_new (ρ := ρ) (o := .tup [x', y']) nT
    exact ⟨k, r.new nT, rep_pair nT hd hd', stb.1 _ _ _ _ _ μ s k (r.new nT) og⟩
  · obtain ⟨vs, h1, h2⟩ := hS z ρ H s.1
    obtain ⟨us, g1, g2⟩ := hT z ρ H s.2
    exact ⟨vs, us, h1, g1, by rw [h2.len, g2.len]; exact zipD_len _ _⟩
theorem rev_get {xs : List D} {i : Nat} {d : D} (h : xs.reverse[i]? = some d) : i < xs.length ∧ xs[xs.length - 1 - i]? = some d := by
  have hi : i < xs.length := by
    have := (List.getElem?_eq_some_iff.mp h).1
    rwa [List.length_reverse] at this
  rw [List.getElem?_reverse hi] at h
  exact ⟨hi, h⟩
theorem walk_rl {p : List D × Grd} (h : SrcL K ρ H p a) : WalkD K ρ H (p.1.reverse, p.2) (Itv K a p.1.length) := by
  obtain ⟨hl, S, s0, st, hS⟩ := h
  refine ⟨by rw [List.length_reverse]; exact hl, S, s0, st, fun z ρ μ H i d s r og e => ?_, fun z ρ μ H s r => ?_⟩
  · obtain ⟨vs, h1, h2⟩ := hS z ρ H s
    obtain ⟨hi, e⟩ := rev_get e
    obtain ⟨v, hv, hd⟩ := h2.get e
    refine ⟨⟨hi, vs, v, h1, hv⟩, fun x H' y => ?_⟩
    obtain ⟨rfl, hx⟩ := y
    have := Option.some.inj ((hx vs h1).symm.trans hv)
    subst this
    exact ⟨Keep.refl, r, hd, s⟩
  · show _ ≤ _
    rw [List.length_reverse]; exact Nat.le_refl _
theorem walk_rt {p : List D × Grd} (h : SrcT K ρ H p a) : WalkD K ρ H (p.1.reverse, p.2) (RT.ItvT K a p.1.length) := by
  obtain ⟨hl, S, s0, st, hS⟩ := h
  refine ⟨by rw [List.length_reverse]; exact hl, S, s0, st, fun z ρ μ H i d s r og e => ?_, fun z ρ μ H s r => ?_⟩
  · obtain ⟨vs, h1, h2⟩ := hS z ρ H s
    obtain ⟨hi, e⟩ := rev_get e
    obtain ⟨v, hv, hd⟩ := h2.get e
    refine ⟨⟨hi, vs, v, h1, hv⟩, fun x H' y => ?_⟩
    obtain ⟨rfl, hx⟩ := y
    have := Option.some.inj ((hx vs h1).symm.trans hv)
    subst this
    exact ⟨Keep.refl, r, hd, s⟩
  · show _ ≤ _
    rw [List.length_reverse]; exact Nat.le_refl _
theorem rangeD_get {lo c : Int} {n i : Nat} {d : D} (h : (rangeD lo c n)[i]? = some d) : i < n ∧ d = .int (lo + i * c) := by
  unfold rangeD at h
  rw [List.getElem?_map] at h
  cases e : (List.range n)[i]? with
  | none => rw [e] at h; cases h
  | some k =>
    rw [e] at h
    have hi : i < n := by
      have := (List.getElem?_eq_some_iff.mp e).1
      rwa [List.length_range] at this
    rw [List.getElem?_range hi] at e
    cases e
    exact ⟨hi, (Option.some.inj h).symm⟩
theorem walk_rg {lo : Int} {n : Nat} (hn : n ≤ sizeLine) : WalkD K ρ H (rangeD lo 1 n, []) (Itr lo n) := by
  refine ⟨by simp [rangeD]; exact hn, fun _ _ _ => True, trivial, ⟨fun _ _ _ _ _ _ _ _ _ _ => trivial, fun _ _ _ _ _ _ _ => trivial⟩, fun z ρ μ H i d s r og e => ?_, fun z ρ μ H s r => ?_⟩
  · obtain ⟨hi, rfl⟩ := rangeD_get e
    refine ⟨hi, fun x H' y => ?_⟩
    obtain ⟨rfl, rfl⟩ := y
    exact ⟨Keep.refl, r, by show _ = _; rw [Int.mul_one], trivial⟩
  · show n ≤ _
    simp [rangeD]
theorem items_ok {d : D} {μ : Mem} {p : List D × Grd} (h : itemsD d μ = some p) : okG p.2 μ = true := by
  unfold itemsD at h
  split at h
  · cases h; rfl
  · cases h; rfl
  · cases h; rfl
  · split at h
    · rename_i ds e
      cases h
      simp only [okG, List.all_cons, List.all_nil, Bool.and_true, e]
      exact D.beqL_refl ds
    · cases h
  · cases h
theorem SrcL.mono {ρ' : List Addr} {H' : Hp} {μ' : Mem} {p : List D × Grd} (h : SrcL K ρ H p a) (k : Keep ρ H ρ' H') (r : Rel K H' ρ' μ') (og : okG p.2 μ' = true) : SrcL K ρ' H' p a := by
  obtain ⟨hl, S, s0, st, hS⟩ := h
  exact ⟨hl, S, st.1 _ _ _ _ _ μ' s0 k r og, st, hS⟩
end
end PV

set_option maxRecDepth 100000
set_option maxHeartbeats 4000000
namespace PV
open PySem PySem.Spec PyProof.Rows L2 HT
/-! ## a tuple read backwards by a cut -/
theorem adjust_back (n : Nat) : Builtin.Slice.sliceAdjust none none (-1) (n : Int) = ((n : Int) - 1, -1) := by
  unfold Builtin.Slice.sliceAdjust
  first | rfl | simp
theorem places_back (n : Nat) : Builtin.Slice.slicePlaces ((n : Int) - 1) (-1) (-1) = n := by
  unfold Builtin.Slice.slicePlaces
  have h1 : ¬ ((-1 : Int) > 0) := by omega
  simp only [h1, if_false, Int.neg_neg, Int.ediv_one]
  split <;> omega
theorem fm_congr {α β : Type} {f g : α → Option β} : ∀ {l : List α}, (∀ a ∈ l, f a = g a) → l.filterMap f = l.filterMap g
  | [], _ => rfl
  | a :: l, h => by
    rw [List.filterMap_cons, List.filterMap_cons, h a List.mem_cons_self, fm_congr fun b hb => h b (List.mem_cons_of_mem _ hb)]
theorem pick_back (xs : Array Value) : ((List.range xs.size).filterMap fun (m : Nat) => xs[(((xs.size : Nat) : Int) - 1 + (m : Int) * -1).toNat]?).toArray = xs.toList.reverse.toArray := by
  congr 1
  have e : xs.toList.reverse = (List.range xs.size).filterMap fun m => xs.toList.reverse[m]? := by
    have := PySem.W.krv_all xs.toList.reverse.toArray
    simpa using this.symm
  rw [e]
  refine fm_congr fun m hm => ?_
  have hm := List.mem_range.mp hm
  rw [List.getElem?_reverse (by simpa using hm)]
  have : (((xs.size : Nat) : Int) - 1 + (m : Int) * -1).toNat = xs.toList.length - 1 - m := by
    rw [Array.length_toList]; omega
  rw [this]
  simp
section
variable {prog : Program} {w : World} {A : Around} {E : Value → Shared → Prop} {s : Shared}
theorem applied_back {sl : Addr} {vl vu vs : Value} {n : Nat} {Q : Int × Int × Nat → Shared → Prop} (hs : s.heap.IsSliceOf sl vl vu vs) (pl : IsPart vl none) (pu : IsPart vu none) (ps : IsPart vs (some (-1)))
    (h : Q ((n : Int) - 1, -1, n) s) : wpAny (model prog w) A (Builtin.Slice.sliceApplied (.ref sl) (pure (n : Int))) Q E s := by
  obtain ⟨os, hos, hcs, hds⟩ := id hs
  unfold Builtin.Slice.sliceApplied Builtin.Slice.sliceFields
  refine wpAny_bind (wpAny_bind (wpAny_field hos hds (x := vl) rfl (wpAny_bind (wpAny_field hos hds (x := vu) rfl (wpAny_bind (wpAny_field hos hds (x := vs) rfl (wpAny_pure ?_)))))))
  refine wpAny_bind (slicePart_ ps ?_)
  show wpAny _ _ (if ((-1 : Int) == 0) = true then _ else _) _ _ s
  rw [if_neg (by decide)]
  refine wpAny_bind (slicePart_ pl (wpAny_bind (slicePart_ pu (wpAny_bind (wpAny_pure ?_)))))
  show wpAny _ _ (match Builtin.Slice.sliceAdjust none none (-1) (n : Int) with | (lo, hi) => pure (lo, (-1 : Int), Builtin.Slice.slicePlaces lo hi (-1))) _ _ s
  rw [adjust_back n]
  show wpAny _ _ (pure (((n : Int) - 1), (-1 : Int), Builtin.Slice.slicePlaces ((n : Int) - 1) (-1) (-1))) _ _ s
  rw [places_back]
  exact wpAny_pure h
theorem item_tuple_back {t sl : Addr} {items : Array Value} {vl vu vs : Value} {Q : Value → Shared → Prop} (ht : IsTup s.heap t items) (hs : s.heap.IsSliceOf sl vl vu vs) (pl : IsPart vl none) (pu : IsPart vu none) (ps : IsPart vs (some (-1)))
    (h : Q (.ref s.heap.objs.size) { s with heap := s.heap.push { cls := .type "tuple", data := .seq items.toList.reverse.toArray } })
    (hsz : items.size ≤ sizeLine) : wpAny (model prog w) A (getItem (.ref t) (.ref sl)) Q E s := by
  have hrev : sizeOk (.seq items.toList.reverse.toArray) := by
    show items.toList.reverse.toArray.size ≤ sizeLine
    rw [List.size_toArray, List.length_reverse, Array.length_toList]
    exact hsz
  obtain ⟨os, hos, hcs, hds⟩ := id hs
  have hTs : s.TypeIs (.ref sl) "slice" := ⟨os, hos, hcs⟩
  unfold getItem
  try with_reducible refine wpAny_holding ?_
  first | refine wpAny_bind (wpAny_pure ?_) | skip
  refine wpAny_bind (wpAny_sequenceKey ht.typeIs (by decide) ?_)
  refine wpAny_bind (wpAny_callSpecial?_slot (name := Str.ofString "__getitem__") ht.typeIs PyProof.Rows.slot_tuple_getitem (wpAny_call_entry PyProof.Rows.slot_tuple_getitem ht.typeIs entry_tuple_getitem ?_ (args_tuple_getitem _ _)))
  show wpAny _ _ (Builtin.Tuple.tupleItemsOf (.ref t) >>= _) _ _ s
  refine wpAny_bind (tupleItemsOf_ ht (wpAny_bind (wpAny_typeOf hTs ?_)))
  rw [if_pos (by decide)]
  refine wpAny_bind (applied_back hs pl pu ps ?_)
  have hno : ¬ ((((items.size : Nat) : Int) - 1 == 0 && (-1 : Int) == 1 && items.size == items.size) = true) := by
    simp
  show wpAny _ _ (if (((items.size : Nat) : Int) - 1 == 0 && (-1 : Int) == 1 && items.size == items.size) = true then _ else _) _ _ s
  rw [if_neg hno, pick_back]
  first
    | exact wpAny_bind (m := Builtin.Tuple.tupleExact _) (wpAny_newObj_type (wpAny_pure ⟨_, rfl, wpAny_pure h⟩) hrev)
    | exact wpAny_bind (m := Builtin.Tuple.tupleExact _) (wpAny_newObj_type (wpAny_bind (wpAny_pure (wpAny_pure ⟨_, rfl, wpAny_pure h⟩))) hrev)
    | exact wpAny_bind (wpAny_bind (m := Builtin.Tuple.tupleExact _) (wpAny_newObj_type (wpAny_pure (wpAny_pure ⟨_, rfl, wpAny_pure h⟩)) hrev))
    | exact wpAny_bind (wpAny_bind (m := Builtin.Tuple.tupleExact _) (wpAny_newObj_type (wpAny_pure ⟨_, rfl, wpAny_pure h⟩) hrev))
end
section
variable {X : Cx}
/-- xs[::-1], a list or a tuple -/
def tBack (K : PySem.W.Frag) (te : TE) : TE := fun σ H Q => te σ H fun x H1 => ∃ a xs, x = .ref a ∧ ((SqL K H1 a xs ∧ ∀ p, H1 p = none → Q (.ref p) (upd H1 p (.lst xs.reverse))) ∨ (SqT K H1 a xs ∧ ∀ p, H1 p = none → Q (.ref p) (upd H1 p (.tup xs.reverse))))
theorem pe_back {e : Expr} {te : TE} {k : Nat} {p1 p2 p3 pos : Pos} (he : PE X e te) : PE X (.Subscript e (.Slice none none (some (.UnaryOp .USub (.Constant (.int 1) k p1) p2)) p3) pos) (tBack X.K te) := by
  refine ⟨fun pins s σ H Q I h => ?_⟩
  refine Subscript_ (thn (he.run pins s σ H _ I h) fun v s1 ⟨x, H1, I1, r1, a, xs, ex, q⟩ => ?_)
  subst ex
  cases r1
  have hst : PO X (some (.UnaryOp .USub (.Constant (.int 1) k p1) p2)) (tPart (tUn (rU fun i => .int (-i)) (tC (.int 1)))) := po_some (pe_un un_neg pe_int)
  have no : PO X none tNoPart := po_none
  refine wpAny_Slice (thn (no.run pins s1 σ H1 (fun o H2 => o = none ∧ H2 = H1) I1 ⟨rfl, rfl⟩) fun vl s2 ⟨l, H2, I2, pl, el, e2⟩ => ?_)
  cases el; cases e2
  refine thn (no.run pins s2 σ H1 (fun o H3 => o = none ∧ H3 = H1) I2 ⟨rfl, rfl⟩) fun vu s3 ⟨u, H3, I3, pu, eu, e3⟩ => ?_
  cases eu; cases e3
  refine thn (hst.run pins s3 σ H1 (fun o H4 => o = some (-1) ∧ H4 = H1) I3 ⟨1, rfl, -1, rfl, rfl, rfl⟩) fun vs s4 ⟨o, H4, I4, ps, eo, e4⟩ => ?_
  cases eo; cases e4
  have I5 : Inv X pins σ H1 { s4 with heap := s4.heap.push { cls := .type "slice", data := .fields #[vl, vu, vs] } } := I4.kept (t' := s4.toks) fun b ob q => Heap.get?_push_of_some _ q
  show wpAny (model X.prog X.w) X.A (subscriptTail e (.Slice none none (some (.UnaryOp .USub (.Constant (.int 1) k p1) p2)) p3) (.ref a) (.ref s4.heap.objs.size)) (EP X pins σ Q) X.xe { s4 with heap := s4.heap.push { cls := .type "slice", data := .fields #[vl, vu, vs] } }
  have fr := I5.hok.fresh (Nat.le_refl _)
  rcases q with ⟨hx, q⟩ | ⟨hx, q⟩
  · obtain ⟨its, r, ht, hz⟩ := I5.list hx
    have hlen := r.length
    refine tail_any (ops := [.ref a, .ref s4.heap.objs.size]) ht.isList.typeIs (PySem.slot_list_getitem.lookup) ?_ (by with_unfolding_all rfl)
    refine wpAny_getItem_list_slice ht.isList (Heap.IsSliceOf.new _ vl vu vs) pl pu ps (by decide) ?_ (by rw [List.size_toArray]; omega)
    rw [PySem.W.krv_pick]
    have new := I5.laid (t' := s4.toks) (o := .lst xs.reverse) (fun b ob q => Heap.get?_push_of_some _ q) (Nat.le_refl _) ⟨by rw [List.length_reverse]; exact hz, _, 0, r.reverse, Heap.get?_push_size _ rfl⟩
    exact ⟨.ref _, _, new, rfl, q _ fr⟩
  · obtain ⟨its, r, ht, hz⟩ := I5.tuple hx
    have hlen := r.length
    refine tail_any (ops := [.ref a, .ref s4.heap.objs.size]) ht.typeIs (PyProof.Rows.slot_tuple_getitem.lookup) ?_ (by with_unfolding_all rfl)
    refine item_tuple_back ht (Heap.IsSliceOf.new _ vl vu vs) pl pu ps ?_ (by rw [List.size_toArray]; omega)
    have new := I5.laid (t' := s4.toks) (o := .tup xs.reverse) (fun b ob q => Heap.get?_push_of_some _ q) (Nat.le_refl _) ⟨by rw [List.length_reverse]; exact hz, _, r.reverse, IsTup.new _ _⟩
    exact ⟨.ref _, _, new, rfl, q _ fr⟩
end
end PV

set_option maxRecDepth 100000
set_option maxHeartbeats 4000000
namespace PV
open PySem PySem.Spec PyProof.Rows L2
/-! ## the rules of the expressions -/
def Es.len : Es → Nat
  | .nil => 0
  | .cons _ es => es.len + 1
theorem denEs_len : ∀ (ms : Es) (env : EnvD) (μ : Mem), match denEs ms env μ with
    | .ok ds _ => ds.length = ms.len
    | _ => True
  | .nil, env, μ => rfl
  | .cons e es, env, μ => by
    unfold denEs
    cases denE e env μ with
    | ok x μ1 =>
      simp only [bind_ok]
      have ih := denEs_len es env μ1
      cases q : denEs es env μ1 with
      | ok xs μ2 =>
        rw [q] at ih
        simp only [bind_ok, List.length_cons]
        have ih : xs.length = es.len := ih
        rw [ih]; rfl
      | err c fs μ2 => trivial
      | bad => trivial
    | err c fs μ1 => trivial
    | bad => trivial
theorem Post.up {α β : Type} {K : KZ} {W : WD} {R : List Addr → Hp → α → β → Prop} {ρ ρ' : List Addr} {H H' : Hp} {o : Out α} {Q : β → Hp → Prop} (h : Post K W R ρ H o Q) (k : Keep ρ H ρ' H') : Post K W R ρ' H' o Q := by
  cases o with
  | ok a μ' => exact fun ρ2 H2 b k2 r2 q2 => h ρ2 H2 b (k.trans k2) r2 q2
  | err c fs μ' => exact fun ρ2 H2 k2 r2 => h ρ2 H2 (k.trans k2) r2
  | bad => exact h
theorem cmpD_bl {op : CmpOp} {x y d : D} {μ μ' : Mem} (e : cmpD op x y μ = .ok d μ') : ∃ c, d = .bl c := by
  unfold cmpD at e
  cases q : cmpM op x y μ with
  | some c => rw [q] at e; cases e; exact ⟨c, rfl⟩
  | none => rw [q] at e; cases e
theorem cmp_bl {op : CmpOp} {ma mb : E} {env : EnvD} {μ μ' : Mem} {d : D} (e : denE (.cmp op ma mb) env μ = .ok d μ') : ∃ c, d = .bl c := by
  unfold denE at e
  cases ea : denE ma env μ with
  | ok x μ1 =>
    rw [ea] at e
    simp only [bind_ok] at e
    cases eb : denE mb env μ1 with
    | ok y μ2 =>
      rw [eb] at e
      exact cmpD_bl e
    | err c fs μ2 => rw [eb] at e; cases e
    | bad => rw [eb] at e; cases e
  | err c fs μ2 => rw [ea] at e; cases e
  | bad => rw [ea] at e; cases e
theorem cmp2_bl {op op' : CmpOp} {ma mb mc : E} {env : EnvD} {μ μ' : Mem} {d : D} (e : denE (.cmp2 op op' ma mb mc) env μ = .ok d μ') : ∃ c, d = .bl c := by
  unfold denE at e
  cases ea : denE ma env μ with
  | ok x μ1 =>
    rw [ea] at e
    simp only [bind_ok] at e
    cases eb : denE mb env μ1 with
    | ok y μ2 =>
      rw [eb] at e
      simp only [bind_ok] at e
      split at e
      · cases ec : denE mc env μ2 with
        | ok w μ3 => rw [ec] at e; exact cmpD_bl e
        | err c fs μ3 => rw [ec] at e; cases e
        | bad => rw [ec] at e; cases e
      · cases e; exact ⟨_, rfl⟩
      · cases e
    | err c fs μ2 => rw [eb] at e; cases e
    | bad => rw [eb] at e; cases e
  | err c fs μ2 => rw [ea] at e; cases e
  | bad => rw [ea] at e; cases e
section
variable {X : Cx} {W : L2.St → WD} {pos : Pos}
/-- the denotation of one part, then the rest -/
theorem x_var {i : Nat} {x : Str} (hN : X.N[i]? = some x) (hv : Vis X.env.scope x) (hd : (x == ("__debug__" : Str)) = false := by decide) (hc : (x == ("__classdict__" : Str)) = false := by decide) :
    PE X (.Name x pos) (tD X.K W (denE (.var i))) := by
  refine (pe_var hN hv hd hc).imp fun σ H Q ⟨z, ρ, μ, env, r, er, p⟩ => ?_
  unfold denE at p
  split at p
  · rename_i d e
    obtain ⟨v, h1, h2⟩ := er.2 i d e
    exact ⟨v, h1, p.ok r h2⟩
  · exact p.elim
theorem x_int {i j} : PE X (.Constant (.int i) j pos) (tD X.K W (denE (.cst (.int i)))) := pe_int.imp fun σ H Q ⟨z, ρ, μ, env, r, er, p⟩ => p.ok r rfl
theorem x_bl {b j} : PE X (.Constant (.bool b) j pos) (tD X.K W (denE (.cst (.bl b)))) := pe_bl.imp fun σ H Q ⟨z, ρ, μ, env, r, er, p⟩ => p.ok r rfl
theorem x_str {s j} : PE X (.Constant (.str s) j pos) (tD X.K W (denE (.cst (.str s)))) := pe_str.imp fun σ H Q ⟨z, ρ, μ, env, r, er, p⟩ => p.ok r rfl
theorem x_non {j} : PE X (.Constant .none j pos) (tD X.K W (denE (.cst .non))) := pe_non.imp fun σ H Q ⟨z, ρ, μ, env, r, er, p⟩ => p.ok r rfl
theorem x_glo {x : Str} {d : D} {v : V} {u : Value} (hg : Gl X x) (hm : X.mg x = some u) (rv : RelV v u) (hr : ∀ z H ρ, Rep ⟨X.K, z⟩ H ρ d v) (hd : (x == ("__debug__" : Str)) = false := by decide) :
    PE X (.Name x pos) (tD X.K W (denE (.glo x d))) := (pe_glob hg hm rv hd).imp fun σ H Q ⟨z, ρ, μ, env, r, er, p⟩ => p.ok r (hr _ _ _)
/-! ### argument lists -/
theorem a_nil : PA X [] (tDs X.K W (denEs .nil)) := pa_nil.imp fun σ H Q ⟨z, ρ, μ, env, r, er, p⟩ => p.ok r rfl
theorem a_cons {e : Expr} {es : List Expr} {m : E} {ms : Es} (he : PE X e (tD X.K W (denE m))) (hes : PA X es (tDs X.K W (denEs ms))) (hs : starEach (e :: es) X.env = (false, eval e X.env) :: starEach es X.env := by rfl) :
    PA X (e :: es) (tDs X.K W (denEs (.cons m ms))) := by
  refine (pa_cons he hes hs).imp fun σ H Q ⟨z, ρ, μ, env, r, er, p⟩ => ⟨z, ρ, μ, env, r, er, ?_⟩
  unfold denEs at p
  refine p.then fun a b ρ1 μ1 H1 k1 r1 q1 p1 => ⟨z, ρ1, μ1, env, r1, er.mono k1, ?_⟩
  refine p1.then fun as bs ρ2 μ2 H2 k2 r2 q2 p2 => ?_
  exact p2.ok r2 ⟨b, bs, rfl, Rep.mono k2 _ _ q1, q2⟩
theorem RepL.bound {K : KZ} {H : Hp} {ρ : List Addr} {ds : List D} {vs : List V} (h : RepL K H ρ ds vs) (hl : ds.length ≤ lim) : vs.length ≤ sizeLine := by
  rw [h.len, lim_eq]; exact hl
theorem x_tup {es : List Expr} {ms : Es} {k : Nat} (h : PA X es (tDs X.K W (denEs ms))) (hl : es.length ≤ 1000 := by decide) (hm : ms.len = es.length := by rfl) : PE X (.Tuple es k pos) (tD X.K W (denE (.tup ms))) := by
  refine (pe_tup h).imp fun σ H Q ⟨z, ρ, μ, env, r, er, p⟩ => ⟨z, ρ, μ, env, r, er, ?_⟩
  unfold denE at p
  have pl := denEs_len ms env μ
  generalize denEs ms env μ = o at p pl
  cases o with
  | ok ds μ1 =>
    intro ρ1 H1 b k1 r1 q1
    have hz : b.length ≤ sizeLine := q1.bound (by rw [pl, hm]; exact Nat.le_trans hl (by decide))
    exact ⟨hz, fun a ha => by
      have p : Post ⟨X.K, z⟩ (W σ) (RD ⟨X.K, z⟩) ρ H (.ok (.tup ds) μ1) Q := p
      exact new_tup r1 q1 hz (p.up k1) ha⟩
  | err c fs μ1 => exact p
  | bad => exact p
theorem x_lst {mu : Bool} {es : List Expr} {ms : Es} (h : PA X es (tDs X.K W (denEs ms))) (hl : es.length ≤ 1000 := by decide) (hm : ms.len = es.length := by rfl) : PE X (.List es pos) (tD X.K W (denE (.lst mu ms))) := by
  refine (pe_lst h).imp fun σ H Q ⟨z, ρ, μ, env, r, er, p⟩ => ⟨z, ρ, μ, env, r, er, ?_⟩
  unfold denE at p
  have pl := denEs_len ms env μ
  generalize denEs ms env μ = o at p pl
  cases o with
  | ok ds μ1 =>
    intro ρ1 H1 b k1 r1 q1
    have hz : b.length ≤ sizeLine := q1.bound (by rw [pl, hm]; exact Nat.le_trans hl (by decide))
    exact ⟨hz, fun a ha => by
      have p : Post ⟨X.K, z⟩ (W σ) (RD ⟨X.K, z⟩) ρ H (newList mu ds μ1) Q := p
      exact new_list r1 q1 hz (p.up k1) ha⟩
  | err c fs μ1 => exact p
  | bad => exact p
/-! ### operators -/
theorem x_bin {mu : Bool} {op : Operator} {a b : Expr} {ma mb : E} (ha : PE X a (tD X.K W (denE ma))) (hb : PE X b (tD X.K W (denE mb))) : PE X (.BinOp a op b pos) (tD X.K W (denE (.bin mu op ma mb))) :=
  (pe_op (op_binD (mu := mu)) ha hb).imp fun σ H Q h => red2 (f := fun x y μ2 => binD mu op x y μ2) (fun z W d e v u ρ μ H Q r qd qe p => ⟨z, W, d, e, ρ, μ, r, qd, qe, p⟩) h
theorem x_neg {a : Expr} {ma : E} (ha : PE X a (tD X.K W (denE ma))) : PE X (.UnaryOp .USub a pos) (tD X.K W (denE (.neg ma))) := by
  refine (pe_un un_neg ha).imp fun σ H Q h => red1 (ma := denE ma) (f := fun x μ1 => match x with | .int i => .ok (.int (-i)) μ1 | _ => .bad) (fun z W d v ρ μ H Q r qd p => ?_) h
  split at p
  · cases qd
    exact ⟨_, rfl, p.ok r rfl⟩
  · exact p.elim
theorem x_not {a : Expr} {ma : E} (ha : PE X a (tD X.K W (denE ma))) : PE X (.UnaryOp .Not a pos) (tD X.K W (denE (.not ma))) := by
  refine (pe_notT ha).imp fun σ H Q h => red1 (ma := denE ma) (f := fun x μ1 => (truO x μ1).bind fun b μ2 => .ok (.bl (!b)) μ2) (r := fun x H1 Q => ∃ k, TruV X.K x H1 k ∧ Q (.bl (!k)) H1) (fun z W d v ρ μ H Q r qd p => ?_) h
  unfold truO at p
  split at p
  · rename_i b e
    exact ⟨b, truM_ok r e qd, p.ok r rfl⟩
  · exact p.elim
theorem x_cmp {op : CmpOp} {a b : Expr} {ma mb : E} (B : BOk X) (ha : PE X a (tD X.K W (denE ma))) (hb : PE X b (tD X.K W (denE mb))) (hm : behindInMarks op b = false := by rfl) : PE X (.Compare a [op] [b] pos) (tD X.K W (denE (.cmp op ma mb))) :=
  (pe_cmpR (op_cmpD B.hu) ha hb hm).imp fun σ H Q h => red2 (f := fun x y μ2 => cmpD op x y μ2) (fun z W d e v u ρ μ H Q r qd qe p => ⟨z, W, d, e, ρ, μ, r, qd, qe, p⟩) h
/-- a chain of two, as the kit reads it -/
theorem chain_ok {op op' : CmpOp} {ma mb mc : E} {σ : L2.St} {H : Hp} {Q : VK} (h : tD X.K W (denE (.cmp2 op op' ma mb mc)) σ H Q) :
    tChain (r2D X.K (cmpD op)) (r2D X.K (cmpD op')) (tD X.K W (denE ma)) (tD X.K W (denE mb)) (tD X.K W (denE mc)) σ H Q := by
  obtain ⟨z, ρ, μ, env, r, er, p⟩ := h
  unfold denE at p
  refine ⟨z, ρ, μ, env, r, er, p.then fun a v ρ1 μ1 H1 k1 r1 q1 p1 => ⟨z, ρ1, μ1, env, r1, er.mono k1, p1.then fun b u ρ2 μ2 H2 k2 r2 q2 p2 => ?_⟩⟩
  have q1 := Rep.mono k2 _ _ q1
  refine ⟨z, W σ, a, b, ρ2, μ2, r2, q1, q2, ?_⟩
  unfold cmpD
  cases e : cmpM op a b μ2 with
  | none => rw [e] at p2; exact p2
  | some t =>
    rw [e] at p2
    intro ρ3 H3 v3 k3 r3 q3
    cases q3
    refine ⟨t, rfl, ?_⟩
    cases t with
    | false =>
      rw [if_neg Bool.false_ne_true]
      exact p2 ρ3 H3 _ k3 r3 rfl
    | true =>
      rw [if_pos rfl]
      refine ⟨z, ρ3, μ2, env, r3, (er.mono k1).mono (k2.trans k3), ?_⟩
      have p3 : Post ⟨X.K, z⟩ (W σ) (RD ⟨X.K, z⟩) ρ3 H3 ((denE mc env μ2).bind fun z μ3 => cmpD op' b z μ3) Q := p2.up k3
      refine p3.then fun c w ρ4 μ4 H4 k4 r4 q4 p4 => ?_
      exact ⟨z, W σ, b, c, ρ4, μ4, r4, Rep.mono k4 _ _ (Rep.mono k3 _ _ q2), q4, p4⟩
theorem x_cmp2 {op op' : CmpOp} {a b c : Expr} {ma mb mc : E} (B : BOk X) (ha : PE X a (tD X.K W (denE ma))) (hb : PE X b (tD X.K W (denE mb))) (hc : PE X c (tD X.K W (denE mc))) (hm : lastMarks [op, op'] [b, c] = false := by with_unfolding_all rfl) :
    PE X (.Compare a [op, op'] [b, c] pos) (tD X.K W (denE (.cmp2 op op' ma mb mc))) := (pe_chain (op_cmpD B.hu) (op_cmpD B.hu) ha hb hc hm).imp fun σ H Q h => chain_ok h
/-! ### and, or, if -/
theorem x_one {op} {a : Expr} {ma : E} (ha : PE X a (tD X.K W (denE ma))) : PE X (.BoolOp op [a] pos) (tD X.K W (denE ma)) := pe_one ha
theorem x_and {a b : Expr} {rest : List Expr} {ma mb : E} (ha : PE X a (tD X.K W (denE ma))) (hb : PE X (.BoolOp .And (b :: rest) pos) (tD X.K W (denE mb))) : PE X (.BoolOp .And (a :: b :: rest) pos) (tD X.K W (denE (.and ma mb))) := by
  refine (pe_andT ha hb).imp fun σ H Q ⟨z, ρ, μ, env, r, er, p⟩ => ⟨z, ρ, μ, env, r, er, ?_⟩
  unfold denE at p
  refine p.then fun x v ρ1 μ1 H1 k1 r1 q1 p1 => ?_
  split at p1
  · rename_i e
    exact ⟨true, truM_ok r1 e q1, z, ρ1, μ1, env, r1, er.mono k1, p1⟩
  · rename_i e
    exact ⟨false, truM_ok r1 e q1, p1.ok r1 q1⟩
  · exact p1.elim
theorem x_or {a b : Expr} {rest : List Expr} {ma mb : E} (ha : PE X a (tD X.K W (denE ma))) (hb : PE X (.BoolOp .Or (b :: rest) pos) (tD X.K W (denE mb))) : PE X (.BoolOp .Or (a :: b :: rest) pos) (tD X.K W (denE (.or ma mb))) := by
  refine (pe_orT ha hb).imp fun σ H Q ⟨z, ρ, μ, env, r, er, p⟩ => ⟨z, ρ, μ, env, r, er, ?_⟩
  unfold denE at p
  refine p.then fun x v ρ1 μ1 H1 k1 r1 q1 p1 => ?_
  split at p1
  · rename_i e
    exact ⟨true, truM_ok r1 e q1, p1.ok r1 q1⟩
  · rename_i e
    exact ⟨false, truM_ok r1 e q1, z, ρ1, μ1, env, r1, er.mono k1, p1⟩
  · exact p1.elim
/-! ### tests -/
theorem t_plain {a : Expr} {ma : E} (ha : PE X a (tD X.K W (denE ma))) (he : ∀ whole, isTrue a X.env whole = (do let v ← whole; standAt a.pos; holding [v] (truthy v)) := by intro _; rfl) : PT X a (tDb X.K W (denB ma)) := by
  refine (pt_truth ha he).imp fun σ H Q ⟨z, ρ, μ, env, r, er, p⟩ => ⟨z, ρ, μ, env, r, er, ?_⟩
  unfold denB at p
  refine p.then fun x v ρ1 μ1 H1 k1 r1 q1 p1 => ?_
  unfold truO at p1
  split at p1
  · rename_i b e
    exact ⟨b, truM_ok r1 e q1, p1.ok r1 rfl⟩
  · exact p1.elim
/-- a reading whose values are bools, as a test -/
theorem test_bl {m : E} {t : TE} (hb : ∀ env μ d μ', denE m env μ = .ok d μ' → ∃ c, d = .bl c) (hr : ∀ σ H Q, tD X.K W (denE m) σ H Q → t σ H Q) {σ : L2.St} {H : Hp} {Q : Bool → Hp → Prop} (h : tDb X.K W (denB m) σ H Q) : tTest t σ H Q := by
  obtain ⟨z, ρ, μ, env, r, er, p⟩ := h
  refine hr _ _ _ ⟨z, ρ, μ, env, r, er, ?_⟩
  unfold denB at p
  cases e : denE m env μ with
  | ok d μ1 =>
    obtain ⟨c, rfl⟩ := hb _ _ _ _ e
    rw [e] at p
    intro ρ1 H1 v k1 r1 q1
    cases q1
    exact ⟨c, rfl, p ρ1 H1 c k1 r1 rfl⟩
  | err c fs μ1 => rw [e] at p; exact p
  | bad => rw [e] at p; exact p
theorem t_cmp {op : CmpOp} {a b : Expr} {ma mb : E} (B : BOk X) (ha : PE X a (tD X.K W (denE ma))) (hb : PE X b (tD X.K W (denE mb))) (hm : behindInMarks op b = false := by rfl) : PT X (.Compare a [op] [b] pos) (tDb X.K W (denB (.cmp op ma mb))) := by
  refine (pt_cmpR (op_cmpD B.hu) ha hb hm).imp fun σ H Q h => test_bl (m := .cmp op ma mb) (fun env μ d μ' e => ?_) (fun σ H Q h => red2 (f := fun x y μ2 => cmpD op x y μ2) (fun z W d e v u ρ μ H Q r qd qe p => ⟨z, W, d, e, ρ, μ, r, qd, qe, p⟩) h) h
  exact cmp_bl e
theorem t_cmp2 {op op' : CmpOp} {a b c : Expr} {ma mb mc : E} (B : BOk X) (ha : PE X a (tD X.K W (denE ma))) (hb : PE X b (tD X.K W (denE mb))) (hc : PE X c (tD X.K W (denE mc))) (hm : lastMarks [op, op'] [b, c] = false := by with_unfolding_all rfl) :
    PT X (.Compare a [op, op'] [b, c] pos) (tDb X.K W (denB (.cmp2 op op' ma mb mc))) := by
  refine (pt_chain (op_cmpD B.hu) (op_cmpD B.hu) ha hb hc hm).imp fun σ H Q h => test_bl (m := .cmp2 op op' ma mb mc) (fun env μ d μ' e => ?_) (fun σ H Q h => chain_ok h) h
  exact cmp2_bl e
theorem t_not {a : Expr} {ma : E} (ha : PT X a (tDb X.K W (denB ma))) : PT X (.UnaryOp .Not a pos) (tDb X.K W (denB (.not ma))) := by
  refine (pt_not ha).imp fun σ H Q ⟨z, ρ, μ, env, r, er, p⟩ => ⟨z, ρ, μ, env, r, er, ?_⟩
  have e : denB (.not ma) env μ = (denB ma env μ).bind fun b μ1 => .ok (!b) μ1 := by
    simp only [denB, denE, Out.bind]
    cases denE ma env μ with
    | ok d μ1 =>
      simp only [truO]
      cases truM d μ1 with
      | none => rfl
      | some b => rfl
    | err c fs μ1 => rfl
    | bad => rfl
  rw [e] at p
  exact p.then fun b c ρ1 μ1 H1 k1 r1 q1 p1 => by
    cases q1
    exact p1.ok r1 rfl
theorem w_and {a b : Expr} {rest : List Expr} {ma mb : E} (ha : PT X a (tDb X.K W (denB ma))) (hb : PW X (.BoolOp .And (b :: rest) pos) (tDb X.K W (denB mb))) : PW X (.BoolOp .And (a :: b :: rest) pos) (tDb X.K W (denB (.and ma mb))) := by
  refine (pw_and ha hb).imp fun σ H Q ⟨z, ρ, μ, env, r, er, p⟩ => ⟨z, ρ, μ, env, r, er, ?_⟩
  have e : denB (.and ma mb) env μ = (denB ma env μ).bind fun b μ1 => if b then denB mb env μ1 else .ok false μ1 := by
    simp only [denB, denE, Out.bind]
    cases denE ma env μ with
    | ok d μ1 =>
      simp only [truO]
      cases q : truM d μ1 with
      | none => rfl
      | some b => cases b with
        | true => rfl
        | false => simp [q]
    | err c fs μ1 => rfl
    | bad => rfl
  rw [e] at p
  refine p.then fun b c ρ1 μ1 H1 k1 r1 q1 p1 => ?_
  cases q1
  cases b with
  | true => exact ⟨z, ρ1, μ1, env, r1, er.mono k1, p1⟩
  | false => exact p1.ok r1 rfl
theorem w_or {a b : Expr} {rest : List Expr} {ma mb : E} (ha : PT X a (tDb X.K W (denB ma))) (hb : PW X (.BoolOp .Or (b :: rest) pos) (tDb X.K W (denB mb))) : PW X (.BoolOp .Or (a :: b :: rest) pos) (tDb X.K W (denB (.or ma mb))) := by
  refine (pw_or ha hb).imp fun σ H Q ⟨z, ρ, μ, env, r, er, p⟩ => ⟨z, ρ, μ, env, r, er, ?_⟩
  have e : denB (.or ma mb) env μ = (denB ma env μ).bind fun b μ1 => if b then .ok true μ1 else denB mb env μ1 := by
    simp only [denB, denE, Out.bind]
    cases denE ma env μ with
    | ok d μ1 =>
      simp only [truO]
      cases q : truM d μ1 with
      | none => rfl
      | some b => cases b with
        | true => simp [q]
        | false => rfl
    | err c fs μ1 => rfl
    | bad => rfl
  rw [e] at p
  refine p.then fun b c ρ1 μ1 H1 k1 r1 q1 p1 => ?_
  cases q1
  cases b with
  | true => exact p1.ok r1 rfl
  | false => exact ⟨z, ρ1, μ1, env, r1, er.mono k1, p1⟩
theorem w_and1 {a : Expr} {ma : E} (ha : PT X a (tDb X.K W (denB ma))) : PW X (.BoolOp .And [a] pos) (tDb X.K W (denB ma)) := pw_and1 ha
theorem w_or1 {a : Expr} {ma : E} (ha : PT X a (tDb X.K W (denB ma))) : PW X (.BoolOp .Or [a] pos) (tDb X.K W (denB ma)) := pw_or1 ha
theorem x_ife {c a b : Expr} {mc ma mb : E} (hc : PT X c (tDb X.K W (denB mc))) (ha : PE X a (tD X.K W (denE ma))) (hb : PE X b (tD X.K W (denE mb))) : PE X (.IfExp c a b pos) (tD X.K W (denE (.ife mc ma mb))) := by
  refine (pe_ifExp hc ha hb).imp fun σ H Q ⟨z, ρ, μ, env, r, er, p⟩ => ⟨z, ρ, μ, env, r, er, ?_⟩
  have e : denE (.ife mc ma mb) env μ = (denB mc env μ).bind fun b μ1 => if b then denE ma env μ1 else denE mb env μ1 := by
    simp only [denB, denE, Out.bind]
    cases denE mc env μ with
    | ok d μ1 =>
      simp only [truO]
      cases q : truM d μ1 with
      | none => rfl
      | some b => cases b <;> rfl
    | err c fs μ1 => rfl
    | bad => rfl
  rw [e] at p
  refine p.then fun b c ρ1 μ1 H1 k1 r1 q1 p1 => ?_
  cases q1
  cases b with
  | true => exact ⟨z, ρ1, μ1, env, r1, er.mono k1, p1⟩
  | false => exact ⟨z, ρ1, μ1, env, r1, er.mono k1, p1⟩
end
end PV

set_option maxRecDepth 100000
set_option maxHeartbeats 4000000
namespace PV
open PySem PySem.Spec PyProof.Rows L2
section
variable {X : Cx} {W : L2.St → WD} {pos : Pos}
/-! ### places, cuts -/
theorem x_idx {a b : Expr} {ma mb : E} (ha : PE X a (tD X.K W (denE ma))) (hb : PE X b (tD X.K W (denE mb))) (hs : PlainIx b := by intro _ _; rfl) : PE X (.Subscript a b pos) (tD X.K W (denE (.idx ma mb))) :=
  (pe_ix ix_getD ha hb hs).imp fun σ H Q h => red2 (f := fun x y μ2 => getD x y μ2) (fun z W d e v u ρ μ H Q r qd qe p => ⟨z, W, d, e, ρ, μ, r, qd, qe, p⟩) h
abbrev RO (_ : KZ) : List Addr → Hp → Option Int → Option Int → Prop := fun _ _ a b => a = b
theorem o_no : PO X none (tG X.K W RO (denEo .no)) := ⟨fun pins s σ H Q I ⟨z, ρ, μ, env, r, er, p⟩ => po_none.run pins s σ H Q I (p.ok r rfl)⟩
theorem o_yes {a : Expr} {ma : E} (ha : PE X a (tD X.K W (denE ma))) : PO X (some a) (tG X.K W RO (denEo (.yes ma))) := by
  refine ⟨fun pins s σ H Q I ⟨z, ρ, μ, env, r, er, p⟩ => (po_some ha).run pins s σ H Q I ⟨z, ρ, μ, env, r, er, ?_⟩⟩
  unfold denEo at p
  refine p.then fun x v ρ1 μ1 H1 k1 r1 q1 p1 => ?_
  split at p1
  · cases q1
    exact ⟨_, rfl, p1.ok r1 rfl⟩
  · exact p1.elim
theorem x_slc {mu : Bool} {a : Expr} {lo hi : Option Expr} {ma : E} {ml mh : Eo} {p2 : Pos} (ha : PE X a (tD X.K W (denE ma))) (hl : PO X lo (tG X.K W RO (denEo ml))) (hh : PO X hi (tG X.K W RO (denEo mh))) :
    PE X (.Subscript a (.Slice lo hi none p2) pos) (tD X.K W (denE (.slc mu ma ml mh))) := by
  refine (pe_slice (sl_slcD (mu := mu)) ha hl hh).imp fun σ H Q ⟨z, ρ, μ, env, r, er, p⟩ => ⟨z, ρ, μ, env, r, er, ?_⟩
  unfold denE at p
  refine p.then fun x v ρ1 μ1 H1 k1 r1 q1 p1 => ⟨z, ρ1, μ1, env, r1, er.mono k1, p1.then fun l l' ρ2 μ2 H2 k2 r2 q2 p2 => ?_⟩
  cases q2
  refine ⟨z, ρ2, μ2, env, r2, (er.mono k1).mono k2, p2.then fun h h' ρ3 μ3 H3 k3 r3 q3 p3 => ?_⟩
  cases q3
  exact ⟨z, W σ, x, ρ3, μ3, r3, Rep.mono k3 _ _ (Rep.mono k2 _ _ q1), p3⟩
theorem x_rev {mu : Bool} {a : Expr} {ma : E} {k : Nat} {p1 p2 p3 : Pos} (ha : PE X a (tD X.K W (denE ma))) : PE X (.Subscript a (.Slice none none (some (.UnaryOp .USub (.Constant (.int 1) k p1) p2)) p3) pos) (tD X.K W (denE (.rev mu ma))) := by
  refine (pe_back ha).imp fun σ H Q ⟨z, ρ, μ, env, r, er, p⟩ => ⟨z, ρ, μ, env, r, er, ?_⟩
  unfold denE at p
  refine p.then fun x v ρ1 μ1 H1 k1 r1 q1 p1 => ?_
  unfold revD at p1
  split at p1
  · obtain ⟨a, vs, rfl, h1, h2, h3⟩ := q1
    exact ⟨a, vs, rfl, .inr ⟨h1, fun q hq => new_tup r1 h3.reverse (by rw [List.length_reverse]; exact h2) p1 hq⟩⟩
  · split at p1
    · rename_i ds e
      obtain ⟨a, vs, rfl, h1, h2, h3⟩ := asList_ok r1 e q1
      exact ⟨a, vs, rfl, .inl ⟨SqL.of h1, fun q hq => new_list r1 h3.reverse (by rw [List.length_reverse]; exact h2) p1 hq⟩⟩
    · exact p1.elim
/-! ### built-ins -/
theorem red_args {ms : Es} {f : List D → Mem → Out D} {σ : L2.St} {H : Hp} {Q : VK} (h : tD X.K W (fun env μ => (denEs ms env μ).bind fun ds μ1 => f ds μ1) σ H Q) : tCB (rArgs X.K f) (tDs X.K W (denEs ms)) σ H Q := by
  obtain ⟨z, ρ, μ, env, r, er, p⟩ := h
  exact ⟨z, ρ, μ, env, r, er, p.then fun ds vs ρ1 μ1 H1 k1 r1 q1 p1 => ⟨z, W σ, ds, ρ1, μ1, r1, q1, p1⟩⟩
theorem x_bltB {f : Blt} {mu : Bool} {id : String} {x : Str} {p : Pos} {e : Expr} {es : List Expr} {ms : Es} (B : BOk X) (hf : bltV f = .builtin id) (hg : Gl X x) (hm : X.mg x = none) (hv : bootBuiltins x = some (.builtin id)) (ha : PA X (e :: es) (tDs X.K W (denEs ms)))
    (hn : x ≠ "__name__" := by decide) (hdb : (x == ("__debug__" : Str)) = false := by decide) (he : starEach (e :: es) X.env = (false, eval e X.env) :: starEach es X.env := by rfl) (hpl : (backTo pos (starEach es X.env)).any (·.1) = false := by rfl) :
    PE X (.Call (.Name x p) (e :: es) [] pos) (tD X.K W (denE (.blt f mu ms))) :=
  (pe_callB (by rw [← hf]; exact cr_blt B f mu) hg hm hv ha hn hdb he hpl).imp fun σ H Q h => red_args (f := fun ds μ1 => bltD f mu ds μ1) h
theorem x_bltT {f : Blt} {mu : Bool} {T : String} {x : Str} {p : Pos} {e : Expr} {es : List Expr} {ms : Es} (B : BOk X) (hf : bltV f = .type T) (hg : Gl X x) (hm : X.mg x = none) (hv : bootBuiltins x = some (.type T)) (ha : PA X (e :: es) (tDs X.K W (denEs ms)))
    (hn : x ≠ "__name__" := by decide) (hdb : (x == ("__debug__" : Str)) = false := by decide) (he : starEach (e :: es) X.env = (false, eval e X.env) :: starEach es X.env := by rfl) (hpl : (backTo pos (starEach es X.env)).any (·.1) = false := by rfl) :
    PE X (.Call (.Name x p) (e :: es) [] pos) (tD X.K W (denE (.blt f mu ms))) :=
  (pe_callTy (by rw [← hf]; exact cr_blt B f mu) hg hm hv ha hn hdb he hpl).imp fun σ H Q h => red_args (f := fun ds μ1 => bltD f mu ds μ1) h
theorem x_lrev {mu : Bool} {a : Expr} {ma : E} {p p' pos' : Pos} (B : BOk X) (hg : Gl X "list") (hm : X.mg "list" = none) (hg' : Gl X "reversed") (hm' : X.mg "reversed" = none) (ha : PE X a (tD X.K W (denE ma)))
    (hs : starEach [a] X.env = (false, eval a X.env) :: starEach [] X.env := by rfl) : PE X (.Call (.Name "list" p) [.Call (.Name "reversed" p') [a] [] pos'] [] pos) (tD X.K W (denE (.lrev mu ma))) := by
  refine ⟨fun pins s σ H Q I ⟨z, ρ, μ, env, r, er, h⟩ => ?_⟩
  unfold denE at h
  refine Call_ (ld_blt I hg hm PyProof.Rows.boot_list (PyProof.Rows.callWith_type1 (args_cons ?_ rfl) rfl))
  refine Call_ (ld_blt I hg' hm' PyProof.Rows.boot_reversed (PyProof.Rows.callWith_type1 (args_cons ?_ hs) hs rfl))
  refine thn (ha.run pins s σ H _ I ⟨z, ρ, μ, env, r, er, h.then (P := fun v H1 => ∃ a xs, v = .ref a ∧ SqL X.K H1 a xs ∧ ∀ p, H1 p = none → Q (.ref p) (upd H1 p (.lst xs.reverse))) fun x v ρ1 μ1 H1 k1 r1 q1 p1 => ?_⟩) fun u s1 ⟨v, H1, I1, rv, b, xs, ev, hb, q⟩ => args_nil ?_
  · split at p1
    · rename_i ds e
      obtain ⟨a, vs, rfl, h1, h2, h3⟩ := asList_ok r1 e q1
      exact ⟨a, vs, rfl, SqL.of h1, fun q hq => new_list r1 h3.reverse (by rw [List.length_reverse]; exact h2) p1 hq⟩
    · exact p1.elim
  · subst ev
    cases rv
    refine thn (rl_lrev B.calm pins s1 σ H1 b xs Q I1 hb q) fun w s2 h2 => args_nil h2
/-! ### methods of lists -/
def rMeth (K : PySem.W.Frag) (m : Mth) : V → List V → Hp → VK → Prop := rMth K m
theorem x_mth {m : Mth} {o e : Expr} {es : List Expr} {mo : E} {ms : Es} {apos : Pos} {name : Str} {id : String} (hid : mthId m = id) (slot : Slot "list" name id) (hty : typeOf (.builtin id) = pure (.type "method_descriptor"))
    (ho : PE X o (tD X.K W (denE mo))) (ha : PA X (e :: es) (tDs X.K W (denEs ms))) (hb : attributeBase o name X.env (eval o X.env) = eval o X.env := by rfl)
    (hf : ((backTo pos (starEach (e :: es) X.env)).all (fun x => !x.1) && (backToKw pos (keywordEach [] X.env)).all (fun x => x.1.isSome) && decide ((e :: es).length + ([] : List Keyword).length + (if ([] : List Keyword).isEmpty then 0 else 1) < 30)) = true := by rfl)
    (hl : (apos.endLine == pos.line) = true := by rfl) (hs : starEach (e :: es) X.env = (false, eval e X.env) :: starEach es X.env := by rfl) (hp : (backTo pos (starEach es X.env)).any (·.1) = false := by rfl) :
    PE X (.Call (.Attribute o name apos) (e :: es) [] pos) (tD X.K W (denE (.mth m mo ms))) := by
  refine (pe_bm PySem.F.plainAttrs_list slot hty (by rw [← hid]; exact mt_mthD m) ho ha hb hf hl hs hp).imp fun σ H Q ⟨z, ρ, μ, env, r, er, p⟩ => ⟨z, ρ, μ, env, r, er, ?_⟩
  unfold denE at p
  refine p.then fun x v ρ1 μ1 H1 k1 r1 q1 p1 => ?_
  split at p1
  · rename_i ds0 hx
    obtain ⟨a, vs, e0, h1, _⟩ := asList_ok r1 hx q1
    have ty : tyV X.K "list" v H1 := by
      rw [e0]
      exact .inl ⟨rfl, vs, SqL.of h1⟩
    exact ⟨ty, z, ρ1, μ1, env, r1, er.mono k1, p1.then fun ds vs ρ2 μ2 H2 k2 r2 q2 p2 => ⟨z, W σ, x, ds, ρ2, μ2, r2, Rep.mono k2 _ _ q1, q2, p2⟩⟩
  · exact p1.elim
theorem x_mth0 {m : Mth} {o : Expr} {mo : E} {apos : Pos} {name : Str} {id : String} (hid : mthId m = id) (slot : Slot "list" name id) (hty : typeOf (.builtin id) = pure (.type "method_descriptor"))
    (ho : PE X o (tD X.K W (denE mo))) (hb : attributeBase o name X.env (eval o X.env) = eval o X.env := by rfl) (hl : (apos.endLine == pos.line) = true := by rfl) :
    PE X (.Call (.Attribute o name apos) [] [] pos) (tD X.K W (denE (.mth m mo .nil))) := by
  refine (pe_bm0 PySem.F.plainAttrs_list slot hty (by rw [← hid]; exact mt_mthD m) ho hb hl).imp fun σ H Q ⟨z, ρ, μ, env, r, er, p⟩ => ⟨z, ρ, μ, env, r, er, ?_⟩
  unfold denE at p
  refine p.then fun x v ρ1 μ1 H1 k1 r1 q1 p1 => ?_
  split at p1
  · rename_i ds0 hx
    obtain ⟨a, vs, e0, h1, _⟩ := asList_ok r1 hx q1
    have ty : tyV X.K "list" v H1 := by
      rw [e0]
      exact .inl ⟨rfl, vs, SqL.of h1⟩
    exact ⟨ty, z, W σ, x, [], ρ1, μ1, r1, q1, rfl, p1⟩
  · exact p1.elim
end
end PV

set_option maxRecDepth 100000
set_option maxHeartbeats 4000000
namespace PV
open PySem PySem.Spec PyProof.Rows L2
/-! ## what is walked, targets -/
theorem _root_.L2.PI.imp {X : Cx} {tg e : Expr} {t t' : TI} (h : PI X tg e t) (g : ∀ σ H R, t' σ H R → t σ H R) : PI X tg e t' := ⟨fun pins s σ H R I hw => h.run pins s σ H R I (g σ H R hw)⟩
theorem _root_.L2.PG.imp {X : Cx} {e : Expr} {t t' : L2.TG} (h : PG X e t) (g : ∀ v σ H Q, t' v σ H Q → t v σ H Q) : PG X e t' := ⟨fun pins s σ H v u Q I r hw => h.run pins s σ H v u Q I r (g v σ H Q hw)⟩
theorem _root_.L2.PGs.imp {X : Cx} {e : List Expr} {t t' : TGs} (h : PGs X e t) (g : ∀ v σ H Q, t' v σ H Q → t v σ H Q) : PGs X e t' := ⟨fun pins s σ H v u Q I r hw => h.run pins s σ H v u Q I r (g v σ H Q hw)⟩
abbrev RI (k : KZ) : List Addr → Hp → (List D × Grd) → L2.It → Prop := fun ρ H p J => WalkD k ρ H p J
abbrev tI (K : PySem.W.Frag) (W : L2.St → WD) (m : EnvD → Mem → Out (List D × Grd)) : TI := tG K W RI m
theorem SrcL.sq {K : KZ} {ρ : List Addr} {H : Hp} {p : List D × Grd} {a : Addr} (h : SrcL K ρ H p a) : ∃ xs, SqL K.K H a xs ∧ xs.length = p.1.length := by
  obtain ⟨_, S, s0, _, hS⟩ := h
  obtain ⟨vs, h1, h2⟩ := hS _ _ _ s0
  exact ⟨vs, h1, h2.len⟩
theorem SrcT.sq {K : KZ} {ρ : List Addr} {H : Hp} {p : List D × Grd} {a : Addr} (h : SrcT K ρ H p a) : ∃ xs, SqT K.K H a xs ∧ xs.length = p.1.length := by
  obtain ⟨_, S, s0, _, hS⟩ := h
  obtain ⟨vs, h1, h2⟩ := hS _ _ _ s0
  exact ⟨vs, h1, h2.len⟩
theorem SrcT.mono {K : KZ} {ρ ρ' : List Addr} {H H' : Hp} {a : Addr} {μ' : Mem} {p : List D × Grd} (h : SrcT K ρ H p a) (k : Keep ρ H ρ' H') (r : Rel K H' ρ' μ') (og : okG p.2 μ' = true) : SrcT K ρ' H' p a := by
  obtain ⟨hl, S, s0, st, hS⟩ := h
  exact ⟨hl, S, st.1 _ _ _ _ _ μ' s0 k r og, st, hS⟩
section
variable {X : Cx} {W : L2.St → WD} {pos : Pos} {tg : Expr}
theorem i_val {e : Expr} {me : E} (he : PE X e (tD X.K W (denE me))) : PI X tg e (tI X.K W (denIt (.val me))) := by
  refine (pi_seq he).imp fun σ H R ⟨z, ρ, μ, env, r, er, p⟩ => ⟨z, ρ, μ, env, r, er, ?_⟩
  unfold denIt at p
  refine p.then fun x v ρ1 μ1 H1 k1 r1 q1 p1 => ?_
  split at p1
  · rename_i pp e
    obtain ⟨a, rfl, s⟩ := src_of r1 q1 e
    rcases s with ⟨_, s⟩ | ⟨_, s⟩
    · obtain ⟨xs, h1, _⟩ := s.sq
      exact ⟨a, rfl, .inl ⟨⟨xs, h1⟩, p1.ok r1 (walk_l s)⟩⟩
    · obtain ⟨xs, h1, _⟩ := s.sq
      exact ⟨a, rfl, .inr ⟨⟨xs, h1⟩, p1.ok r1 (walk_t s)⟩⟩
  · exact p1.elim
theorem i_rng1 {a : Expr} {ma : E} {p : Pos} (hg : Gl X "range") (hm : X.mg "range" = none) (ha : PE X a (tD X.K W (denE ma))) (hs : starEach [a] X.env = [(false, eval a X.env)] := by rfl) : PI X tg (.Call (.Name "range" p) [a] [] pos) (tI X.K W (denIt (.rng1 ma))) := by
  refine (pi_range1 hg hm (pa_cons ha pa_nil hs) hs).imp fun σ H R ⟨z, ρ, μ, env, r, er, p⟩ => ⟨z, ρ, μ, env, r, er, ?_⟩
  unfold denIt at p
  refine p.then fun x v ρ1 μ1 H1 k1 r1 q1 p1 => ?_
  split at p1
  · cases q1
    split at p1
    · rename_i j hj
      have b1 : -(2 : Int) ^ 62 ≤ -(lim : Int) := by decide
      have b2 : ((lim : Nat) : Int) < 2 ^ 62 := by decide
      refine ⟨_, rfl, by omega, by omega, p1.ok r1 (walk_rg ?_)⟩
      rw [lim_eq]; omega
    · exact p1.elim
  · exact p1.elim
theorem i_rng2 {a b : Expr} {ma mb : E} {p : Pos} (hg : Gl X "range") (hm : X.mg "range" = none) (ha : PE X a (tD X.K W (denE ma))) (hb : PE X b (tD X.K W (denE mb))) (hs : starEach [a, b] X.env = [(false, eval a X.env), (false, eval b X.env)] := by rfl) (hs2 : starEach [b] X.env = [(false, eval b X.env)] := by rfl) :
    PI X tg (.Call (.Name "range" p) [a, b] [] pos) (tI X.K W (denIt (.rng2 ma mb))) := by
  refine (pi_range2 hg hm (pa_cons ha (pa_cons hb pa_nil hs2) (by rw [hs, hs2])) hs hs2).imp fun σ H R ⟨z, ρ, μ, env, r, er, p⟩ => ⟨z, ρ, μ, env, r, er, ?_⟩
  unfold denIt at p
  refine p.then fun x v ρ1 μ1 H1 k1 r1 q1 p1 => ⟨z, ρ1, μ1, env, r1, er.mono k1, p1.then fun y u ρ2 μ2 H2 k2 r2 q2 p2 => ?_⟩
  split at p2
  · cases q1; cases q2
    split at p2
    · rename_i i j hj
      obtain ⟨⟨c1, c2⟩, ⟨c3, c4⟩, c5⟩ := hj
      have b1 : -(2 : Int) ^ 62 ≤ -(lim : Int) := by decide
      have b2 : ((lim : Nat) : Int) < 2 ^ 62 := by decide
      refine ⟨_, _, rfl, ⟨by omega, by omega, by omega, by omega⟩, p2.ok r2 (walk_rg ?_)⟩
      rw [lim_eq]; omega
    · exact p2.elim
  · exact p2.elim
theorem i_enu {e : Expr} {me : E} {p tpos : Pos} {elts : List Expr} {kk : Nat} (hg : Gl X "enumerate") (hm : X.mg "enumerate" = none) (he : PE X e (tD X.K W (denE me))) (hs : starEach [e] X.env = [(false, eval e X.env)] := by rfl) :
    PI X (.Tuple elts kk tpos) (.Call (.Name "enumerate" p) [e] [] pos) (tI X.K W (denIt (.enu me))) := by
  refine (pi_enu hg hm he hs).imp fun σ H R ⟨z, ρ, μ, env, r, er, p⟩ => ⟨z, ρ, μ, env, r, er, ?_⟩
  unfold denIt at p
  refine p.then fun x v ρ1 μ1 H1 k1 r1 q1 p1 => ?_
  split at p1
  · rename_i pp e
    obtain ⟨a, rfl, s⟩ := src_of r1 q1 e
    rcases s with ⟨_, s⟩ | ⟨_, s⟩
    · obtain ⟨xs, h1, _⟩ := s.sq
      exact ⟨a, rfl, .inl ⟨xs, h1, p1.ok r1 (walk_el s)⟩⟩
    · obtain ⟨xs, h1, _⟩ := s.sq
      exact ⟨a, rfl, .inr ⟨xs, h1, p1.ok r1 (walk_et s)⟩⟩
  · exact p1.elim
theorem i_rev {e : Expr} {me : E} {p : Pos} (hg : Gl X "reversed") (hm : X.mg "reversed" = none) (he : PE X e (tD X.K W (denE me))) (hs : starEach [e] X.env = (false, eval e X.env) :: starEach [] X.env := by rfl) :
    PI X tg (.Call (.Name "reversed" p) [e] [] pos) (tI X.K W (denIt (.rev me))) := by
  refine (RT.pi_revA hg hm he hs).imp fun σ H R ⟨z, ρ, μ, env, r, er, p⟩ => ⟨z, ρ, μ, env, r, er, ?_⟩
  unfold denIt at p
  refine p.then fun x v ρ1 μ1 H1 k1 r1 q1 p1 => ?_
  split at p1
  · rename_i pp e
    obtain ⟨a, rfl, s⟩ := src_of r1 q1 e
    rcases s with ⟨_, s⟩ | ⟨_, s⟩
    · obtain ⟨xs, h1, hl⟩ := s.sq
      exact ⟨a, xs, rfl, .inl ⟨h1, p1.ok r1 (by rw [hl]; exact walk_rl s)⟩⟩
    · obtain ⟨xs, h1, hl⟩ := s.sq
      exact ⟨a, xs, rfl, .inr ⟨h1, p1.ok r1 (by rw [hl]; exact walk_rt s)⟩⟩
  · exact p1.elim
theorem i_zip {e e2 : Expr} {me me2 : E} {p tpos : Pos} {elts : List Expr} {kk : Nat} (hg : Gl X "zip") (hm : X.mg "zip" = none) (he : PE X e (tD X.K W (denE me))) (he2 : PE X e2 (tD X.K W (denE me2)))
    (hs : starEach [e, e2] X.env = (false, eval e X.env) :: starEach [e2] X.env := by rfl) (hs2 : starEach [e2] X.env = (false, eval e2 X.env) :: starEach [] X.env := by rfl) (hpl : (backTo pos (starEach [e2] X.env)).any (·.1) = false := by rfl) :
    PI X (.Tuple elts kk tpos) (.Call (.Name "zip" p) [e, e2] [] pos) (tI X.K W (denIt (.zip me me2))) := by
  refine (RZ.pi_zipA hg hm (pa_cons he (pa_cons he2 pa_nil hs2) hs) hs hpl).imp fun σ H R ⟨z, ρ, μ, env, r, er, p⟩ => ⟨z, ρ, μ, env, r, er, ?_⟩
  unfold denIt at p
  refine p.then fun x v ρ1 μ1 H1 k1 r1 q1 p1 => ⟨z, ρ1, μ1, env, r1, er.mono k1, p1.then fun y u ρ2 μ2 H2 k2 r2 q2 p2 => ?_⟩
  have q1 := Rep.mono k2 _ _ q1
  split at p2
  · rename_i pp e
    split at p2
    · rename_i qq e'
      split at p2
      · rename_i hk
        obtain ⟨a, rfl, s⟩ := src_of r2 q1 e
        obtain ⟨b, rfl, t⟩ := src_of r2 q2 e'
        rcases s with ⟨f1, s⟩ | ⟨f1, s⟩ <;> rcases t with ⟨f2, t⟩ | ⟨f2, t⟩
        · obtain ⟨xs, h1, _⟩ := s.sq
          obtain ⟨ys, h2, _⟩ := t.sq
          exact ⟨a, b, xs, ys, rfl, .inl ⟨h1, h2, p2.ok r2 (walk_zl s t)⟩⟩
        · rw [f1, f2] at hk; cases hk
        · rw [f1, f2] at hk; cases hk
        · obtain ⟨xs, h1, _⟩ := s.sq
          obtain ⟨ys, h2, _⟩ := t.sq
          exact ⟨a, b, xs, ys, rfl, .inr ⟨h1, h2, p2.ok r2 (walk_zt s t)⟩⟩
      · exact p2.elim
    · exact p2.elim
  · exact p2.elim
end
/-! ### targets -/
mutual
def Tg.sl : Tg → List Nat
  | .nm i => [i]
  | .tup ts => ts.sl
  | .sub _ _ => []
def Tgs.sl : Tgs → List Nat
  | .nil => []
  | .cons t ts => t.sl ++ ts.sl
end
def Tgs.len : Tgs → Nat
  | .nil => 0
  | .cons _ ts => ts.len + 1
def Only (σ σ' : L2.St) (l : List Nat) : Prop := σ'.length = σ.length ∧ ∀ i, i ∉ l → σ'[i]? = σ[i]?
theorem Only.refl {σ : L2.St} {l : List Nat} : Only σ σ l := ⟨rfl, fun _ _ => rfl⟩
theorem Only.trans {σ σ' σ'' : L2.St} {l m : List Nat} (h : Only σ σ' l) (g : Only σ' σ'' m) : Only σ σ'' (l ++ m) :=
  ⟨g.1.trans h.1, fun i hi => (g.2 i fun q => hi (List.mem_append_right _ q)).trans (h.2 i fun q => hi (List.mem_append_left _ q))⟩
theorem wipe_at {σ : L2.St} : ∀ {vs : List Nat} {i : Nat}, i ∈ vs → (L2.wipe σ vs)[i]? = if i < σ.length then some none else none
  | v :: vs, i, h => by
    unfold L2.wipe
    by_cases e : v = i
    · subst e
      by_cases hl : v < σ.length
      · rw [List.getElem?_set_self (by rw [wipe_length]; exact hl), if_pos hl]
      · rw [if_neg hl, List.getElem?_eq_none (by rw [List.length_set, wipe_length]; omega)]
    · rw [List.getElem?_set_ne e]
      exact wipe_at (by
        rcases List.mem_cons.mp h with q | q
        · exact absurd q.symm e
        · exact q)
theorem Only.wipe {σ σ' : L2.St} {l vs : List Nat} (h : Only (L2.wipe σ vs) σ' l) (hl : ∀ i ∈ l, i ∈ vs) : L2.wipe σ' vs = L2.wipe σ vs := by
  apply List.ext_getElem?
  intro i
  have hlen : σ'.length = σ.length := by rw [h.1, wipe_length]
  by_cases hi : i ∈ vs
  · rw [wipe_at hi, wipe_at hi, hlen]
  · rw [wipe_out hi, h.2 i (fun q => hi (hl i q))]
abbrev RG (l : List Nat) (σ0 : L2.St) (k : KZ) : List Addr → Hp → EnvD → L2.St → Prop := fun ρ H env σ => EnvRel k H ρ σ env ∧ Only σ0 σ l
def NW : L2.St → WD := fun _ _ _ _ _ _ => False
def tT (K : PySem.W.Frag) (m : D → EnvD → Mem → Out EnvD) (l : List Nat) : L2.TG := fun v σ H Q =>
  ∃ z ρ μ env d, Rel ⟨K, z⟩ H ρ μ ∧ EnvRel ⟨K, z⟩ H ρ σ env ∧ Rep ⟨K, z⟩ H ρ d v ∧ Post ⟨K, z⟩ (NW σ) (RG l σ ⟨K, z⟩) ρ H (m d env μ) Q
def tTs (K : PySem.W.Frag) (m : List D → EnvD → Mem → Out EnvD) (l : List Nat) : TGs := fun vs σ H Q =>
  ∃ z ρ μ env ds, Rel ⟨K, z⟩ H ρ μ ∧ EnvRel ⟨K, z⟩ H ρ σ env ∧ RepL ⟨K, z⟩ H ρ ds vs ∧ Post ⟨K, z⟩ (NW σ) (RG l σ ⟨K, z⟩) ρ H (m ds env μ) Q
theorem Post.safe {α β : Type} {K : KZ} {W W' : WD} {R : List Addr → Hp → α → β → Prop} {ρ : List Addr} {H : Hp} {o : Out α} {Q : β → Hp → Prop} (h : Post K W R ρ H o.safe Q) : Post K W' R ρ H o Q := by
  cases o with
  | ok a μ => exact h
  | err c fs μ => exact h.elim
  | bad => exact h
section
variable {X : Cx} {pos : Pos}
theorem g_nm {i : Nat} {x : Str} (hN : X.N.Nodup) (hi : X.N[i]? = some x) (hx : Loc X.env.scope x) (hf : X.fn x = true ∨ X.env.scope.names.lookup x = some .local) : PG X (.Name x pos) (tT X.K (denTg (.nm i)) (Tg.sl (.nm i))) := by
  refine (pg_name hN hi hx hf).imp fun v σ H Q ⟨z, ρ, μ, env, d, r, er, qd, p⟩ => ?_
  unfold denTg at p
  refine p.ok r ⟨er.set i qd, by simp, fun j hj => ?_⟩
  have : j ≠ i := fun e => hj (by rw [e]; exact List.mem_singleton.mpr rfl)
  rw [List.getElem?_set_ne (Ne.symm this)]
theorem gs_nil : PGs X [] (tTs X.K (denTgs .nil) (Tgs.sl .nil)) := by
  refine pgs_nil.imp fun vs σ H Q ⟨z, ρ, μ, env, ds, r, er, qd, p⟩ => ?_
  unfold denTgs at p
  split at p
  · exact ⟨qd, p.ok r ⟨er, Only.refl⟩⟩
  · exact p.elim
theorem gs_cons {e : Expr} {es : List Expr} {t : Tg} {ts : Tgs} (h1 : PG X e (tT X.K (denTg t) t.sl)) (h2 : PGs X es (tTs X.K (denTgs ts) ts.sl)) (hs : (assignEach (e :: es) X.env).map (·.2) = assign e X.env :: (assignEach es X.env).map (·.2) := by rfl) :
    PGs X (e :: es) (tTs X.K (denTgs (.cons t ts)) (Tgs.sl (.cons t ts))) := by
  refine (pgs_cons h1 h2 hs).imp fun vs σ H Q ⟨z, ρ, μ, env, ds, r, er, qd, p⟩ => ?_
  unfold denTgs at p
  split at p
  · exact p.elim
  · obtain ⟨v, us, rfl, q1, q2⟩ := qd
    refine ⟨v, us, rfl, z, ρ, μ, env, _, r, er, q1, p.then fun env1 σ1 ρ1 μ1 H1 k1 r1 g1 p1 => ?_⟩
    refine ⟨z, ρ1, μ1, env1, _, r1, g1.1, RepL.mono k1 _ _ q2, ?_⟩
    cases e : denTgs ts _ env1 μ1 with
    | ok env2 μ2 =>
      rw [e] at p1
      exact fun ρ2 H2 σ2 k2 r2 g2 => p1 ρ2 H2 σ2 k2 r2 ⟨g2.1, g1.2.trans g2.2⟩
    | err c fs μ2 => rw [e] at p1; exact p1
    | bad => rw [e] at p1; exact p1
theorem tgs_len : ∀ (ts : Tgs) (ds : List D) (env : EnvD) (μ : Mem), (match denTgs ts ds env μ with | .ok _ _ => ds.length = ts.len | _ => True)
  | .nil, ds, env, μ => by
    unfold denTgs
    cases ds with
    | nil => rfl
    | cons _ _ => trivial
  | .cons t ts, ds, env, μ => by
    unfold denTgs
    cases ds with
    | nil => trivial
    | cons d r =>
      simp only
      cases denTg t d env μ with
      | ok env1 μ1 =>
        simp only [bind_ok]
        have ih := tgs_len ts r env1 μ1
        cases q : denTgs ts r env1 μ1 with
        | ok e2 μ2 =>
          rw [q] at ih
          have ih : r.length = ts.len := ih
          simp only [List.length_cons, ih]; rfl
        | err c fs μ2 => trivial
        | bad => trivial
      | err c fs μ1 => trivial
      | bad => trivial
theorem g_tup {es : List Expr} {k : Nat} {ts : Tgs} (hc : X.calm = true) (h : PGs X es (tTs X.K (denTgs ts) ts.sl)) (hn : (assignEach es X.env).length = ts.len := by rfl) (hst : (assignEach es X.env).findIdx? (·.1) = none := by rfl) :
    PG X (.Tuple es k pos) (tT X.K (denTg (.tup ts)) (Tg.sl (.tup ts))) := by
  refine (pg_tup hc h hn hst).imp fun v σ H Q ⟨z, ρ, μ, env, d, r, er, qd, p⟩ => ?_
  unfold denTg at p
  split at p
  · rename_i ds
    obtain ⟨a, vs, rfl, h1, h2, h3⟩ := qd
    refine ⟨a, vs, rfl, h1, ?_, z, ρ, μ, env, ds, r, er, h3, p.safe⟩
    have := tgs_len ts ds env μ
    cases e : denTgs ts ds env μ with
    | ok e2 μ2 => rw [e] at this; rw [h3.len]; exact this
    | err c fs μ2 => rw [e] at p; exact p.elim
    | bad => rw [e] at p; exact p.elim
  · exact p.elim
theorem g_sub {o i : Expr} {mo mi : E} (ho : PE X o (tD X.K NW (denE mo))) (hi : PE X i (tD X.K NW (denE mi)))
    (ha : ∀ v, assign (.Subscript o i pos) X.env v = (do
      let w ← holding [v] (eval o X.env)
      let j ← holding [v, w] (eval i X.env)
      standAt pos
      holding [v, w, j] (setItem w j v)
      release [v, w, j] []) := by intro _; rfl) : PG X (.Subscript o i pos) (tT X.K (denTg (.sub mo mi)) (Tg.sl (.sub mo mi))) := by
  refine (pg_sub ho hi set_list ha).imp fun v σ H Q ⟨z, ρ, μ, env, d, r, er, qd, p⟩ => ?_
  unfold denTg at p
  have p := p.safe (W' := NW σ)
  refine ⟨z, ρ, μ, env, r, er, p.then fun x w ρ1 μ1 H1 k1 r1 q1 p1 => ⟨z, ρ1, μ1, env, r1, er.mono k1, p1.then fun y u ρ2 μ2 H2 k2 r2 q2 p2 => ?_⟩⟩
  split at p2
  · rename_i μ3 e
    exact set_itD r2 (Rep.mono k2 _ _ q1) q2 (Rep.mono k2 _ _ (Rep.mono k1 _ _ qd)) e fun H' k3 r3 => p2.okK k3 r3 ⟨((er.mono k1).mono k2).mono k3, Only.refl⟩
  · exact p2.elim
end
end PV

set_option maxRecDepth 100000
set_option maxHeartbeats 4000000
namespace PV
open PySem PySem.Spec PyProof.Rows L2
/-! ## comprehensions -/
section
variable {K : PySem.W.Frag} {z ρ : List Addr} {H : Hp} {D0 : Addr}
mutual
theorem Rep.adopt : ∀ (d : D) (v : V), Rep ⟨K, D0 :: z⟩ H ρ d v → Rep ⟨K, z⟩ H (ρ ++ [D0]) d v
  | .non, v, q => q
  | .bl _, v, q => q
  | .int _, v, q => q
  | .str _, v, q => q
  | .tup ds, v, q => by
    obtain ⟨p, vs, e, h1, h2, h3⟩ := q
    exact ⟨p, vs, e, h1, h2, RepL.adopt ds vs h3⟩
  | .lst ds, v, q => by
    obtain ⟨p, vs, e, h1, h2, h3, h4⟩ := q
    refine ⟨p, vs, e, h1, ⟨fun m => ?_, fun m => h2.2 (List.mem_cons_of_mem _ m)⟩, h3, RepL.adopt ds vs h4⟩
    rcases List.mem_append.mp m with m | m
    · exact h2.1 m
    · exact h2.2 (by rw [List.mem_singleton.mp m]; exact List.mem_cons_self)
  | .scr ds, v, q => by
    obtain ⟨p, vs, e, h1, h2, h3⟩ := q
    exact ⟨p, vs, e, h1, h2, RepL.adopt ds vs h3⟩
  | .ref i, v, q => by
    obtain ⟨a, h1, h2⟩ := q
    refine ⟨a, ?_, h2⟩
    rw [List.getElem?_append_left (List.getElem?_eq_some_iff.mp h1).1]
    exact h1
theorem RepL.adopt : ∀ (ds : List D) (vs : List V), RepL ⟨K, D0 :: z⟩ H ρ ds vs → RepL ⟨K, z⟩ H (ρ ++ [D0]) ds vs
  | [], vs, q => q
  | d :: ds, vs, q => by
    obtain ⟨v, r, e, h1, h2⟩ := q
    exact ⟨v, r, e, Rep.adopt d v h1, RepL.adopt ds r h2⟩
end
theorem Rel.adopt {μ : Mem} {ds : List D} {vs : List V} (r : Rel ⟨K, D0 :: z⟩ H ρ μ) (hz : D0 ∉ z) (h : H D0 = some (.lst vs)) (hl : vs.length ≤ sizeLine) (q : RepL ⟨K, D0 :: z⟩ H ρ ds vs) : Rel ⟨K, z⟩ H (ρ ++ [D0]) (μ ++ [.lst ds]) := by
  obtain ⟨hn, _⟩ := r.hid D0 List.mem_cons_self
  refine ⟨by simp [r.len], ?_, fun i a c h1 h2 => ?_, fun a ha => ?_⟩
  · refine List.nodup_append.mpr ⟨r.nd, by simp, fun a ha b hb e => ?_⟩
    rw [List.mem_singleton.mp hb] at e
    exact hn (e ▸ ha)
  · by_cases hi : i < ρ.length
    · rw [List.getElem?_append_left hi] at h1
      rw [List.getElem?_append_left (by rw [← r.len]; exact hi)] at h2
      cases r.cell i a c h1 h2 with
      | lst g1 g2 g3 => exact .lst g1 g2 (RepL.adopt _ _ g3)
    · have e : i = ρ.length := by
        have := (List.getElem?_eq_some_iff.mp h1).1
        simp at this; omega
      subst e
      simp at h1
      rw [r.len] at h2
      simp at h2
      subst h1; subst h2
      exact .lst h hl (RepL.adopt _ _ q)
  · obtain ⟨g1, g2⟩ := r.hid a (List.mem_cons_of_mem _ ha)
    refine ⟨fun m => ?_, g2⟩
    rcases List.mem_append.mp m with m | m
    · exact g1 m
    · exact hz (List.mem_singleton.mp m ▸ ha)
theorem Keep.off {ρ ρ' : List Addr} {H H' : Hp} {o : HO} (k : Keep ρ H ρ' H') (h : H D0 = none) : Keep ρ H ρ' (upd H' D0 o) := by
  have ne : ∀ a u, H a = some u → a ≠ D0 := fun a u e => ne_of_none e h
  refine ⟨k.ext, fun a u e hr => ?_, fun a xs e => ?_, fun a u v e => ?_, fun a u e => ?_⟩
  · rw [upd_ne (ne a u e)]; exact k.keep a u e hr
  · rw [upd_ne (ne a _ e)]; exact k.tups a xs e
  · rw [upd_ne (ne a _ e)]; exact k.frzs a u v e
  · obtain ⟨o', e'⟩ := k.dom a u e
    exact ⟨o', by rw [upd_ne (ne a u e)]; exact e'⟩
theorem Keep.take {ρ ρ' : List Addr} {H H' : Hp} (k : Keep ρ H ρ' H') (h : H D0 = none) : Keep ρ H (ρ' ++ [D0]) H' := by
  obtain ⟨m, e, hm⟩ := k.ext
  refine ⟨⟨m ++ [D0], by rw [e, List.append_assoc], fun a ha => ?_⟩, k.keep, k.tups, k.frzs, k.dom⟩
  rcases List.mem_append.mp ha with ha | ha
  · exact hm a ha
  · rw [List.mem_singleton.mp ha]; exact h
/-- the kept list brought to sight: a locked list, or a cell -/
theorem show_list {W : WD} {ρ0 : List Addr} {H1 : Hp} {mu : Bool} {μ : Mem} {ds : List D} {vs : List V} {Q : VK} (k : Keep ρ0 H1 ρ H) (hD : H1 D0 = none) (hz : D0 ∉ z) (r : Rel ⟨K, D0 :: z⟩ H ρ μ) (h : H D0 = some (.lst vs)) (hl : vs.length ≤ sizeLine)
    (q : RepL ⟨K, D0 :: z⟩ H ρ ds vs) (p : Post ⟨K, z⟩ W (RD ⟨K, z⟩) ρ0 H1 (newList mu ds μ) Q) : Q (.ref D0) H := by
  have sub : ∀ a ∈ z, a ∈ D0 :: z := fun a => List.mem_cons_of_mem _
  cases mu with
  | false => exact p.okK k (r.un sub) ⟨D0, vs, rfl, h, ⟨(r.hid D0 List.mem_cons_self).1, hz⟩, hl, RepL.un sub _ _ q⟩
  | true =>
    refine p.okK (k.take hD) (r.adopt hz h hl q) ⟨D0, ?_, rfl⟩
    rw [← r.len]; simp
end
theorem upd_id {H : Hp} {a : Addr} {o : HO} (h : H a = some o) : upd H a o = H := by
  funext b
  unfold upd
  split
  · rename_i e; rw [e, h]
  · rfl
/-- what one turn of a comprehension needs -/
theorem lc_ok {K : PySem.W.Frag} {W : L2.St → WD} {mu : Bool} {own : List Nat} {tg : Tg} {it : PV.It} {c : Eo} {e : E} (hown : ∀ i ∈ tg.sl, i ∈ own) {σ : L2.St} {H : Hp} {Q : VK}
    (h : tD K W (denE (.comp mu own tg it c e)) σ H Q) : tLc (tI K W (denIt it)) (tT K (denTg tg) tg.sl) (tDb K NW (denC c)) (tD K NW (denE e)) own σ H Q := by
  obtain ⟨z, ρ, μ, env, r, er, p⟩ := h
  unfold denE at p
  refine ⟨z, ρ, μ, env, r, er, p.then fun pp J ρ0 μ0 H1 k0 r0 w0 p1 => ?_⟩
  intro D0 hD
  obtain ⟨hlen, S, s0, ⟨st, vl⟩, hgo, hstop⟩ := w0
  have er0 := (er.mono k0).wipe own
  have hz : D0 ∉ z := fun m => by
    obtain ⟨_, vs, q⟩ := r0.hid D0 m
    rw [hD] at q; cases q
  have V0 : Veil z ρ0 H1 (D0 :: z) (upd H1 D0 (.lst [])) := .new hD
  generalize hf : (fun (x : D) (μ : Mem) => (denTg tg x (wipeD env own) μ).bind fun env1 μ2 => (denC c env1 μ2).bind fun b μ3 => if b then (denE e env1 μ3).bind fun y μ4 => Out.ok [y] μ4 else .ok [] μ3) = f at p1
  let Iv : Nat → Hp → Prop := fun i H => ∃ ρ' μ' ds acc, i ≤ pp.1.length ∧ ds.length ≤ i ∧ Keep ρ0 H1 ρ' H ∧ Rel ⟨K, D0 :: z⟩ H ρ' μ' ∧ EnvRel ⟨K, D0 :: z⟩ H ρ' (L2.wipe σ own) (wipeD env own) ∧ (okG pp.2 μ' = true → S (D0 :: z) ρ' H) ∧ H D0 = some (.lst acc) ∧
    RepL ⟨K, D0 :: z⟩ H ρ' ds acc ∧ Post ⟨K, z⟩ (W σ) (RD ⟨K, z⟩) ρ0 H1 ((compL pp.2 f (pp.1.drop i) μ').bind fun r μ2 => newList mu (ds ++ r) μ2) Q
  refine ⟨fun i m H => m = pp.1.length - i ∧ Iv i H, ⟨_, rfl, ρ0, μ0, [], [], Nat.zero_le _, Nat.le_refl _, Keep.off Keep.refl hD, r0.veil V0, er0.veil V0, fun _ => vl _ _ _ _ _ s0 V0, upd_same, rfl, p1⟩, fun i m H ⟨hm, ρ', μ', ds, acc, hi, hds, k, r1, er1, s1, hD1, q1, p2⟩ => ?_⟩
  have hacc : acc.length ≤ i := by rw [q1.len]; exact hds
  cases hd : pp.1.drop i with
  | nil =>
    have hi' : i = pp.1.length := by
      have := List.drop_eq_nil_iff.mp hd
      omega
    rw [hd] at p2
    have p2 : Post ⟨K, z⟩ (W σ) (RD ⟨K, z⟩) ρ0 H1 ((if okG pp.2 μ' then .ok [] μ' else .bad : Out (List D)).bind fun r μ2 => newList mu (ds ++ r) μ2) Q := p2
    cases og : okG pp.2 μ' with
    | false => rw [og, if_neg Bool.false_ne_true] at p2; exact p2.elim
    | true =>
      rw [og, if_pos rfl] at p2
      refine .inl ⟨by rw [hi']; exact hstop _ _ _ _ (s1 og) r1, ?_⟩
      have p3 : Post ⟨K, z⟩ (W σ) (RD ⟨K, z⟩) ρ0 H1 (newList mu (ds ++ []) μ') Q := p2
      rw [List.append_nil] at p3
      exact show_list k hD hz r1 hD1 (by omega) q1 p3
  | cons x xs =>
    have hlt : i < pp.1.length := by
      rcases Nat.lt_or_ge i pp.1.length with q | q
      · exact q
      · rw [List.drop_eq_nil_iff.mpr q] at hd; cases hd
    have hx : pp.1[i]? = some x := by
      have : (pp.1.drop i)[0]? = some x := by rw [hd]; rfl
      rw [List.getElem?_drop] at this
      simpa using this
    have hxs : pp.1.drop (i + 1) = xs := by
      have : (pp.1.drop i).drop 1 = xs := by rw [hd]; rfl
      rwa [List.drop_drop] at this
    rw [hd] at p2
    have p2 : Post ⟨K, z⟩ (W σ) (RD ⟨K, z⟩) ρ0 H1 ((if okG pp.2 μ' then (match f x μ' with
      | .ok l μ1 => match compL pp.2 f xs μ1 with
        | .ok r μ2 => .ok (l ++ r) μ2
        | _ => .bad
      | _ => .bad) else .bad : Out (List D)).bind fun r μ2 => newList mu (ds ++ r) μ2) Q := p2
    cases og : okG pp.2 μ' with
    | false => rw [og, if_neg Bool.false_ne_true] at p2; exact p2.elim
    | true =>
      rw [og, if_pos rfl] at p2
      obtain ⟨g1, g2⟩ := hgo _ _ _ _ _ _ (s1 og) r1 og hx
      refine .inr ⟨g1, Iv (i + 1), fun H' q => ⟨_, by omega, rfl, q⟩, fun x' H' y => ?_⟩
      obtain ⟨k2, r2, qx, s2⟩ := g2 x' H' y
      have hDk : ∀ {ρ2 H2}, Keep ρ' H ρ2 H2 → H2 D0 = some (.lst acc) := fun k => k.keep _ _ hD1 (r1.hid D0 List.mem_cons_self).1
      -- the turn's outcome, from what follows
      have fin : ∀ l μ1 ρ2 H2, f x μ' = .ok l μ1 → Keep ρ' H ρ2 H2 → Rel ⟨K, D0 :: z⟩ H2 ρ2 μ1 → ∀ us, l.length ≤ 1 → RepL ⟨K, D0 :: z⟩ H2 ρ2 l us → Iv (i + 1) (upd H2 D0 (.lst (acc ++ us))) := fun l μ1 ρ2 H2 ef k3 r3 us hus q3 => by
        have V : Veil (D0 :: z) ρ2 H2 (D0 :: z) (upd H2 D0 (.lst (acc ++ us))) := .wr List.mem_cons_self (r3.hid D0 List.mem_cons_self).1 (hDk k3)
        refine ⟨ρ2, μ1, ds ++ l, acc ++ us, by omega, by rw [List.length_append]; omega, (k.trans k3).off hD, r3.veil V, (er1.mono k3).veil V, fun og2 => ?_, upd_same, RepL.veil V _ _ (RepL.append (RepL.mono k3 _ _ q1) q3), ?_⟩
        · exact vl _ _ _ _ _ (st _ _ _ _ _ _ (s1 og) k3 r3 og2) V
        · rw [ef] at p2
          dsimp only at p2
          rw [hxs]
          cases ec : compL pp.2 f xs μ1 with
          | ok r μ2 =>
            rw [ec] at p2
            simp only [bind_ok] at p2 ⊢
            rw [List.append_assoc]; exact p2
          | err c fs μ2 => rw [ec] at p2; exact p2.elim
          | bad => rw [ec] at p2; exact p2.elim
      have bad : ∀ {o : Out (List D)}, f x μ' = o → (∀ l μ1, o ≠ .ok l μ1) → False := fun ef hn => by
        rw [ef] at p2
        split at p2
        · exact hn _ _ rfl
        · exact p2
      have hfx : f x μ' = (denTg tg x (wipeD env own) μ').bind fun env1 μ2 => (denC c env1 μ2).bind fun b μ3 => if b then (denE e env1 μ3).bind fun y μ4 => Out.ok [y] μ4 else .ok [] μ3 := by rw [← hf]
      refine ⟨D0 :: z, ρ', μ', wipeD env own, x, r2, er1.mono k2, qx, ?_⟩
      cases e1 : denTg tg x (wipeD env own) μ' with
      | err c' fs μ2 => rw [e1] at hfx; exact (bad hfx (by intro _ _ q; cases q)).elim
      | bad => rw [e1] at hfx; exact (bad hfx (by intro _ _ q; cases q)).elim
      | ok env1 μ2 =>
        rw [e1] at hfx
        simp only [bind_ok] at hfx
        intro ρ2 H2 σ2 k3 r3 ⟨er3, on⟩
        refine ⟨on.wipe hown, D0 :: z, ρ2, μ2, env1, r3, er3, ?_⟩
        cases e2 : denC c env1 μ2 with
        | err c' fs μ3 => rw [e2] at hfx; exact (bad hfx (by intro _ _ q; cases q)).elim
        | bad => rw [e2] at hfx; exact (bad hfx (by intro _ _ q; cases q)).elim
        | ok b μ3 =>
          rw [e2] at hfx
          simp only [bind_ok] at hfx
          intro ρ3 H3 b' k4 r4 q4
          cases q4
          have k24 := k2.trans (k3.trans k4)
          cases b with
          | false =>
            rw [if_neg Bool.false_ne_true] at hfx ⊢
            have q := fin [] μ3 ρ3 H3 hfx k24 r4 [] (Nat.zero_le _) rfl
            rw [List.append_nil, upd_id (hDk k24)] at q
            exact q
          | true =>
            rw [if_pos rfl] at hfx ⊢
            refine ⟨D0 :: z, ρ3, μ3, env1, r4, er3.mono k4, ?_⟩
            cases e3 : denE e env1 μ3 with
            | err c' fs μ4 => rw [e3] at hfx; exact (bad hfx (by intro _ _ q; cases q)).elim
            | bad => rw [e3] at hfx; exact (bad hfx (by intro _ _ q; cases q)).elim
            | ok y μ4 =>
              rw [e3] at hfx
              simp only [bind_ok] at hfx
              intro ρ4 H4 y' k5 r5 q5
              have k25 := k24.trans k5
              exact ⟨acc, hDk k25, by omega, fin [y] μ4 ρ4 H4 hfx k25 r5 [y'] (Nat.le_refl _) (RepL.one q5)⟩
end PV

set_option maxRecDepth 100000
set_option maxHeartbeats 4000000
namespace PV
open PySem PySem.Spec PyProof.Rows L2
section
variable {X : Cx} {W : L2.St → WD} {pos : Pos}
/-! ### a comprehension's clause, the comprehension -/
theorem c_no : PTs X [] (tDb X.K W (denC .no)) := ⟨fun pins s σ H Q I ⟨z, ρ, μ, env, r, er, p⟩ => pts_nil.run pins s σ H Q I (p.ok r rfl)⟩
theorem c_yes {c : Expr} {mc : E} (h : PT X c (tDb X.K W (denB mc))) : PTs X [c] (tDb X.K W (denC (.yes mc))) := pts_one h
abbrev Blk (X : Cx) (scope : Scope) (P : Cx → Prop) : Prop := ∀ (s : Shared) (H : Hp) (C : Addr) (cl : List (Str × Addr)) (fp : List Addr), P (X.blk s H scope (compEnvC scope cl C X.env) fp)
theorem x_comp {mu : Bool} {own : List (Str × Nat)} {elt tg iter : Expr} {ifs : List Expr} {scope : Scope} {mt : Tg} {mi : PV.It} {mc : Eo} {me : E} (B : BOk X) (hN : X.N.Nodup) (ok : BlkOk X.N X.env.scope scope own) (hown : ∀ i ∈ mt.sl, i ∈ own.map (·.2))
    (hi : PI X tg iter (tI X.K W (denIt mi))) (hg : Blk X scope fun Y => PG Y tg (tT X.K (denTg mt) mt.sl)) (ht : Blk X scope fun Y => PTs Y ifs (tDb X.K NW (denC mc))) (he : Blk X scope fun Y => PE Y elt (tD X.K NW (denE me))) (hs : ∀ x, foldedSetIterable iter X.env x = pure x := by intro _; rfl) :
    PE X (.ListComp elt [⟨tg, iter, ifs, 0⟩] scope pos) (tD X.K W (denE (.comp mu (own.map (·.2)) mt mi mc me))) :=
  (pe_lc B.calm hN hi ok hg ht he hs).imp fun σ H Q h => lc_ok hown h
/-! ### statements -/
def PostS (K : KZ) (W : L2.St → WD) (ρ : List Addr) (H : Hp) (o : OutS) (D : Ends) : Prop :=
  match o with
  | .ok (.nx env) μ => ∀ ρ' H' σ', Keep ρ H ρ' H' → Rel K H' ρ' μ → EnvRel K H' ρ' σ' env → D.nx σ' H'
  | .ok (.bk env) μ => ∀ ρ' H' σ', Keep ρ H ρ' H' → Rel K H' ρ' μ → EnvRel K H' ρ' σ' env → D.bk σ' H'
  | .ok (.ct env) μ => ∀ ρ' H' σ', Keep ρ H ρ' H' → Rel K H' ρ' μ → EnvRel K H' ρ' σ' env → D.ct σ' H'
  | .ok (.rt d) μ => ∀ ρ' H' v, Keep ρ H ρ' H' → Rel K H' ρ' μ → Rep K H' ρ' d v → D.rt v H'
  | .err c fs env μ => ∀ ρ' H' σ', Keep ρ H ρ' H' → Rel K H' ρ' μ → EnvRel K H' ρ' σ' env → W σ' c fs μ ρ' H'
  | .bad => False
theorem PostS.up {K : KZ} {W : L2.St → WD} {ρ ρ' : List Addr} {H H' : Hp} {o : OutS} {D : Ends} (h : PostS K W ρ H o D) (k : Keep ρ H ρ' H') : PostS K W ρ' H' o D := by
  cases o with
  | ok f μ =>
    cases f with
    | nx env => exact fun a b c k2 => h a b c (k.trans k2)
    | rt d => exact fun a b c k2 => h a b c (k.trans k2)
    | bk env => exact fun a b c k2 => h a b c (k.trans k2)
    | ct env => exact fun a b c k2 => h a b c (k.trans k2)
  | err c fs env μ => exact fun a b c k2 => h a b c (k.trans k2)
  | bad => exact h
def tS (K : PySem.W.Frag) (W : L2.St → WD) (m : EnvD → Mem → OutS) : TS := fun D σ H => ∃ z ρ μ env, Rel ⟨K, z⟩ H ρ μ ∧ EnvRel ⟨K, z⟩ H ρ σ env ∧ PostS ⟨K, z⟩ W ρ H (m env μ) D
/-- an expression's part of a statement -/
theorem Post.ofS {α β : Type} {K : KZ} {W : L2.St → WD} {R : List Addr → Hp → α → β → Prop} {ρ : List Addr} {H : Hp} {o : Out α} {f : α → Mem → OutS} {env : EnvD} {σ : L2.St} {D : Ends} {Q : β → Hp → Prop} (er : EnvRel K H ρ σ env)
    (h : PostS K W ρ H (o.toS env f) D)
    (g : ∀ d v ρ1 μ1 H1, Keep ρ H ρ1 H1 → Rel K H1 ρ1 μ1 → R ρ1 H1 d v → PostS K W ρ1 H1 (f d μ1) D → Q v H1) : Post K (W σ) R ρ H o Q := by
  cases o with
  | ok d μ1 => exact fun ρ1 H1 v k1 r1 q1 => g d v ρ1 μ1 H1 k1 r1 q1 (PostS.up h k1)
  | err c fs μ1 => exact fun ρ1 H1 k1 r1 => h ρ1 H1 σ k1 r1 (er.mono k1)
  | bad => exact h
theorem s_asg {tg e : Expr} {me : E} {mt : Tg} (he : PE X e (tD X.K W (denE me))) (hg : PG X tg (tT X.K (denTg mt) mt.sl)) (hs : swapsWithSole [tg] e pos.line X.env = pure false := by rfl) (hw : swappedStores [tg] e X.env = pure none := by rfl)
    (h1 : (assignEach [tg] X.env).map (·.2) = [assign tg X.env] := by rfl) : PS X (.Assign [tg] e pos) (tS X.K W (denS (.asg mt me))) := by
  refine (ps_asg he hg hs hw h1).imp fun D σ H ⟨z, ρ, μ, env, r, er, p⟩ => ⟨z, ρ, μ, env, r, er, ?_⟩
  unfold denS at p
  refine Post.ofS er p fun d v ρ1 μ1 H1 k1 r1 q1 p1 => ⟨z, ρ1, μ1, env, d, r1, er.mono k1, q1, ?_⟩
  cases e1 : denTg mt d env μ1 with
  | ok env1 μ2 =>
    rw [e1] at p1
    exact fun ρ2 H2 σ2 k2 r2 q2 => p1 ρ2 H2 σ2 k2 r2 q2.1
  | err c fs μ2 => rw [e1] at p1; exact p1.elim
  | bad => rw [e1] at p1; exact p1.elim
/-- name = a comprehension on its line -/
theorem s_comp {mu : Bool} {i : Nat} {y : Str} {py spos : Pos} {own : List (Str × Nat)} {elt tg iter : Expr} {ifs : List Expr} {scope : Scope} {mt : Tg} {mi : PV.It} {mc : Eo} {me : E} (B : BOk X) (hN : X.N.Nodup) (hy : X.N[i]? = some y) (hyl : X.env.scope.names.lookup y = some .local)
    (hsw : swapsWith (.ListComp elt [⟨tg, iter, ifs, 0⟩] scope pos) (some (.Name y py)) spos.line X.env = pure true) (ok : BlkOk X.N X.env.scope scope own) (hown : ∀ i ∈ mt.sl, i ∈ own.map (·.2))
    (hi : PI X tg iter (tI X.K W (denIt mi))) (hg : Blk X scope fun Y => PG Y tg (tT X.K (denTg mt) mt.sl)) (ht : Blk X scope fun Y => PTs Y ifs (tDb X.K NW (denC mc))) (he : Blk X scope fun Y => PE Y elt (tD X.K NW (denE me))) (hs : ∀ x, foldedSetIterable iter X.env x = pure x := by intro _; rfl) :
    PS X (.Assign [.Name y py] (.ListComp elt [⟨tg, iter, ifs, 0⟩] scope pos) spos) (tS X.K W (denS (.asg (.nm i) (.comp mu (own.map (·.2)) mt mi mc me)))) := by
  refine (ps_setLc B.calm hN hy hyl hsw hi ok hg ht he hs).imp fun D σ H ⟨z, ρ, μ, env, r, er, p⟩ => lc_ok (mu := mu) hown ⟨z, ρ, μ, env, r, er, ?_⟩
  unfold denS at p
  refine Post.ofS er p fun d v ρ1 μ1 H1 k1 r1 q1 p1 => ?_
  unfold denTg at p1
  exact p1 ρ1 H1 _ Keep.refl r1 ((er.mono k1).set i q1)
theorem s_expr {e : Expr} {me : E} (he : PE X e (tD X.K W (denE me))) (hs : swapsWith e none pos.line X.env = pure false := by rfl) : PS X (.Expr e pos) (tS X.K W (denS (.expr me))) := by
  refine (ps_expr he hs).imp fun D σ H ⟨z, ρ, μ, env, r, er, p⟩ => ⟨z, ρ, μ, env, r, er, ?_⟩
  unfold denS at p
  exact Post.ofS er p fun d v ρ1 μ1 H1 k1 r1 q1 p1 => p1 ρ1 H1 σ Keep.refl r1 (er.mono k1)
theorem s_doc {x : Str} {j : Nat} {p0 : Pos} : PS X (.Expr (.Constant (.str x) j p0) pos) (tS X.K W (denS .pass)) := ps_doc.imp fun D σ H ⟨z, ρ, μ, env, r, er, p⟩ => p ρ H σ Keep.refl r er
theorem s_ret {e : Expr} {me : E} (he : PE X e (tD X.K W (denE me))) : PS X (.Return (some e) pos) (tS X.K W (denS (.ret me))) := by
  refine (ps_ret he).imp fun D σ H ⟨z, ρ, μ, env, r, er, p⟩ => ⟨z, ρ, μ, env, r, er, ?_⟩
  unfold denS at p
  exact Post.ofS er p fun d v ρ1 μ1 H1 k1 r1 q1 p1 => p1 ρ1 H1 v Keep.refl r1 q1
theorem s_retN : PS X (.Return none pos) (tS X.K W (denS .retN)) := ps_retN.imp fun D σ H ⟨z, ρ, μ, env, r, er, p⟩ => p ρ H .non Keep.refl r rfl
theorem s_pass : PS X (.Pass pos) (tS X.K W (denS .pass)) := ps_pass.imp fun D σ H ⟨z, ρ, μ, env, r, er, p⟩ => p ρ H σ Keep.refl r er
theorem s_brk : PS X (.Break pos) (tS X.K W (denS .brk)) := ps_break.imp fun D σ H ⟨z, ρ, μ, env, r, er, p⟩ => p ρ H σ Keep.refl r er
theorem s_cont : PS X (.Continue pos) (tS X.K W (denS .cont)) := ps_continue.imp fun D σ H ⟨z, ρ, μ, env, r, er, p⟩ => p ρ H σ Keep.refl r er
theorem s_dead {st : Stmt} : PS X st (tS X.K W (denS .dead)) := ps_never.imp fun D σ H ⟨z, ρ, μ, env, r, er, p⟩ => p
theorem s_ife {c : Expr} {a b : List Stmt} {mc : E} {ma mb : Ss} (hc : PT X c (tDb X.K W (denB mc))) (ha : PSs X a (tS X.K W (denSs ma))) (hb : PSs X b (tS X.K W (denSs mb))) : PS X (.If c a b pos) (tS X.K W (denS (.ife mc ma mb))) := by
  refine (ps_if hc ha hb).imp fun D σ H ⟨z, ρ, μ, env, r, er, p⟩ => ⟨z, ρ, μ, env, r, er, ?_⟩
  unfold denS at p
  refine Post.ofS (R := RB ⟨X.K, z⟩) er p fun b b' ρ1 μ1 H1 k1 r1 q1 p1 => ?_
  cases q1
  cases b with
  | true => exact ⟨z, ρ1, μ1, env, r1, er.mono k1, p1⟩
  | false => exact ⟨z, ρ1, μ1, env, r1, er.mono k1, p1⟩
theorem ss_nil : PSs X [] (tS X.K W (denSs .nil)) := pss_nil.imp fun D σ H ⟨z, ρ, μ, env, r, er, p⟩ => p ρ H σ Keep.refl r er
theorem ss_cons {st : Stmt} {rest : List Stmt} {m : S} {ms : Ss} (h1 : PS X st (tS X.K W (denS m))) (h2 : PSs X rest (tS X.K W (denSs ms))) : PSs X (st :: rest) (tS X.K W (denSs (.cons m ms))) := by
  refine (pss_cons h1 h2).imp fun D σ H ⟨z, ρ, μ, env, r, er, p⟩ => ⟨z, ρ, μ, env, r, er, ?_⟩
  unfold denSs at p
  cases e : denS m env μ with
  | ok f μ1 =>
    rw [e] at p
    cases f with
    | nx env1 => exact fun ρ1 H1 σ1 k1 r1 er1 => ⟨z, ρ1, μ1, env1, r1, er1, PostS.up p k1⟩
    | rt d => exact p
    | bk env1 => exact p
    | ct env1 => exact p
  | err c fs env1 μ1 => rw [e] at p; exact p
  | bad => rw [e] at p; exact p
/-! ### a, b = x, y -/
theorem par_args {ma mb : E} {σ : L2.St} {H : Hp} {D : Ends} {i j : Nat} (h : tS X.K W (denS (.par2 i j ma mb)) D σ H) : tPar i j (tDs X.K W (denEs (.cons ma (.cons mb .nil)))) D σ H := by
  obtain ⟨z, ρ, μ, env, r, er, p⟩ := h
  unfold denS at p
  refine ⟨z, ρ, μ, env, r, er, ?_⟩
  have e : denEs (.cons ma (.cons mb .nil)) env μ = ((denE ma env μ).bind fun x μ1 => (denE mb env μ1).bind fun y μ2 => .ok (x, y) μ2).bind fun p μ => .ok [p.1, p.2] μ := by
    simp only [denEs]
    cases denE ma env μ with
    | ok x μ1 =>
      simp only [bind_ok]
      cases denE mb env μ1 <;> rfl
    | err c fs μ1 => rfl
    | bad => rfl
  rw [e]
  cases e1 : ((denE ma env μ).bind fun x μ1 => (denE mb env μ1).bind fun y μ2 => Out.ok (x, y) μ2) with
  | ok q μ1 =>
    rw [e1] at p
    intro ρ1 H1 vs k1 r1 q1
    obtain ⟨v, u, rfl, h1, h2⟩ := q1.inv2
    exact ⟨v, u, rfl, p ρ1 H1 _ k1 r1 (((er.mono k1).set i h1).set j h2)⟩
  | err c fs μ1 => rw [e1] at p; exact fun ρ1 H1 k1 r1 => p ρ1 H1 σ k1 r1 (er.mono k1)
  | bad => rw [e1] at p; exact p
theorem s_par2 {i j : Nat} {x y : Str} {a b : Expr} {ma mb : E} {px py pt pt2 : Pos} {kt k2 : Nat} (B : BOk X) (hN : X.N.Nodup) (hi : X.N[i]? = some x) (hj : X.N[j]? = some y) (hij : i ≠ j) (hx : X.env.scope.names.lookup x = some .local) (hy : X.env.scope.names.lookup y = some .local)
    (ha : PA X [a, b] (tDs X.K W (denEs (.cons ma (.cons mb .nil))))) (hw : swappedStores [.Tuple [.Name x px, .Name y py] kt pt] (.Tuple [a, b] k2 pt2) X.env = pure (some [x, y])) (hs : swapsWithSole [.Tuple [.Name x px, .Name y py] kt pt] (.Tuple [a, b] k2 pt2) pos.line X.env = pure false := by rfl) :
    PS X (.Assign [.Tuple [.Name x px, .Name y py] kt pt] (.Tuple [a, b] k2 pt2) pos) (tS X.K W (denS (.par2 i j ma mb))) := (ps_par B.calm hN hi hj hij hx hy ha hw hs).imp fun D σ H h => par_args h
/-! ### name op= -/
theorem s_aug {i : Nat} {x : Str} {e : Expr} {me : E} {op : Operator} {px : Pos} (hop : op = .Add ∨ op = .Sub) (hN : X.N.Nodup) (hi : X.N[i]? = some x) (hx : Loc X.env.scope x) (hf : X.fn x = true ∨ X.env.scope.names.lookup x = some .local) (he : PE X e (tD X.K W (denE me))) :
    PS X (.AugAssign (.Name x px) op e pos) (tS X.K W (denS (.aug op i me))) := by
  have core : ∀ {f : Int → Int → Int} (hp : PIp X op (ipI f)), (∀ x y env μ, augD op x y env i μ = .bad ∨ ∃ a b, x = D.int a ∧ y = D.int b ∧ augD op x y env i μ = .ok (.nx (env.set i (some (.int (f a b))))) μ) →
      PS X (.AugAssign (.Name x px) op e pos) (tS X.K W (denS (.aug op i me))) := fun {f} hp hz => by
    refine (ps_aug hN hi hx he hp hf).imp fun D σ H ⟨z, ρ, μ, env, r, er, p⟩ => ?_
    unfold denS at p
    split at p
    · rename_i d e1
      obtain ⟨v, hv, qv⟩ := er.2 i d e1
      refine ⟨v, hv, z, ρ, μ, env, r, er, Post.ofS er p fun y u ρ1 μ1 H1 k1 r1 q1 p1 => ?_⟩
      rcases hz d y env μ1 with e2 | ⟨a, b, rfl, rfl, e2⟩
      · rw [e2] at p1; exact p1.elim
      · rw [e2] at p1
        cases q1
        have qv : v = .int a := qv
        subst qv
        exact ⟨a, b, rfl, rfl, p1 ρ1 H1 _ Keep.refl r1 ((er.mono k1).set i rfl)⟩
    · exact p.elim
  rcases hop with rfl | rfl
  · refine core ip_add fun x y env μ => ?_
    cases x <;> cases y <;> first | exact .inl rfl | exact .inr ⟨_, _, rfl, rfl, rfl⟩
  · refine core ip_sub fun x y env μ => ?_
    cases x <;> cases y <;> first | exact .inl rfl | exact .inr ⟨_, _, rfl, rfl, rfl⟩
/-! ### loops -/
theorem s_whl {n : Nat} {c : Expr} {body : List Stmt} {mc : E} {mb : Ss} (hp : PassesOwn (model X.prog X.w) X.A X.env X.xe) (hc : PT X c (tDb X.K W (denB mc))) (hb : PSs X body (tS X.K W (denSs mb))) : PS X (.While c body [] pos) (tS X.K W (denS (.whl n mc mb))) := by
  refine (ps_while hp hc hb).imp fun D σ H ⟨z, ρ, μ, env, r, er, p⟩ => ?_
  unfold denS at p
  refine ⟨fun m σ H => ∃ ρ μ env, Rel ⟨X.K, z⟩ H ρ μ ∧ EnvRel ⟨X.K, z⟩ H ρ σ env ∧ PostS ⟨X.K, z⟩ W ρ H (whileL (denB mc) (denSs mb) m env μ) D, ⟨n, ρ, μ, env, r, er, p⟩, fun m σ H ⟨ρ, μ, env, r, er, p⟩ => ?_⟩
  cases m with
  | zero => exact p.elim
  | succ m =>
    unfold whileL at p
    refine ⟨z, ρ, μ, env, r, er, ?_⟩
    cases e1 : denB mc env μ with
    | ok b μ1 =>
      rw [e1] at p
      intro ρ1 H1 b' k1 r1 q1
      cases q1
      cases b with
      | false =>
        rw [if_neg Bool.false_ne_true]
        exact p ρ1 H1 σ k1 r1 (er.mono k1)
      | true =>
        rw [if_pos rfl]
        dsimp only at p
        refine ⟨fun σ H => ∃ ρ μ env, Rel ⟨X.K, z⟩ H ρ μ ∧ EnvRel ⟨X.K, z⟩ H ρ σ env ∧ PostS ⟨X.K, z⟩ W ρ H (whileL (denB mc) (denSs mb) m env μ) D, fun σ' H' h => ⟨m, Nat.lt_succ_self m, h⟩, z, ρ1, μ1, env, r1, er.mono k1, ?_⟩
        cases e2 : denSs mb env μ1 with
        | ok f μ2 =>
          rw [e2] at p
          cases f with
          | nx env1 => exact fun ρ2 H2 σ2 k2 r2 er2 => ⟨ρ2, μ2, env1, r2, er2, PostS.up p (k1.trans k2)⟩
          | ct env1 => exact fun ρ2 H2 σ2 k2 r2 er2 => ⟨ρ2, μ2, env1, r2, er2, PostS.up p (k1.trans k2)⟩
          | bk env1 => exact fun ρ2 H2 σ2 k2 r2 er2 => p ρ2 H2 σ2 (k1.trans k2) r2 er2
          | rt d => exact fun ρ2 H2 v2 k2 r2 q2 => p ρ2 H2 v2 (k1.trans k2) r2 q2
        | err c fs env1 μ2 => rw [e2] at p; exact fun ρ2 H2 σ2 k2 r2 er2 => p ρ2 H2 σ2 (k1.trans k2) r2 er2
        | bad => rw [e2] at p; exact p
    | err c fs μ1 => rw [e1] at p; exact fun ρ1 H1 k1 r1 => p ρ1 H1 σ k1 r1 (er.mono k1)
    | bad => rw [e1] at p; exact p
theorem s_for {tg iter : Expr} {body : List Stmt} {mt : Tg} {mi : PV.It} {mb : Ss} (B : BOk X) (hp : PassesOwn (model X.prog X.w) X.A X.env X.xe) (hi : PI X tg iter (tI X.K W (denIt mi))) (hg : PG X tg (tT X.K (denTg mt) mt.sl)) (hb : PSs X body (tS X.K W (denSs mb))) (hs : ∀ x, foldedSetIterable iter X.env x = pure x := by intro _; rfl) :
    PS X (.For tg iter body [] pos) (tS X.K W (denS (.fore mt mi mb))) := by
  refine (ps_for hp B.calm hi hg hb hs).imp fun D σ H ⟨z, ρ, μ, env, r, er, p⟩ => ?_
  unfold denS at p
  generalize hf : (fun (x : PV.D) (env : EnvD) (μ : Mem) => stepD (denTg mt x env μ) (denSs mb)) = f at p
  refine ⟨z, ρ, μ, env, r, er, Post.ofS (f := fun (pp : List PV.D × Grd) μ1 => forL pp.2 f pp.1 env μ1) er p fun pp J ρ0 μ0 H1 k0 r0 w0 p1 => ?_⟩
  obtain ⟨hlen, S, s0, ⟨st, vl⟩, hgo, hstop⟩ := w0
  let Iv : Nat → L2.St → Hp → Prop := fun i σ H => ∃ ρ' μ' env', i ≤ pp.1.length ∧ Keep ρ0 H1 ρ' H ∧ Rel ⟨X.K, z⟩ H ρ' μ' ∧ EnvRel ⟨X.K, z⟩ H ρ' σ env' ∧ (okG pp.2 μ' = true → S z ρ' H) ∧ PostS ⟨X.K, z⟩ W ρ0 H1 (forL pp.2 f (pp.1.drop i) env' μ') D
  refine ⟨fun i m σ H => m = pp.1.length - i ∧ Iv i σ H, ⟨_, rfl, ρ0, μ0, env, Nat.zero_le _, Keep.refl, r0, er.mono k0, fun _ => s0, p1⟩, fun i m σ H ⟨hm, ρ', μ', env', hi', k, r1, er1, s1, p2⟩ => ?_⟩
  cases hd : pp.1.drop i with
  | nil =>
    have hi' : i = pp.1.length := by
      have := List.drop_eq_nil_iff.mp hd
      omega
    rw [hd] at p2
    have p2 : PostS ⟨X.K, z⟩ W ρ0 H1 (if okG pp.2 μ' then .ok (.nx env') μ' else .bad) D := p2
    cases og : okG pp.2 μ' with
    | false => rw [og, if_neg Bool.false_ne_true] at p2; exact p2.elim
    | true =>
      rw [og, if_pos rfl] at p2
      exact .inl ⟨by rw [hi']; exact hstop _ _ _ _ (s1 og) r1, p2 ρ' H σ k r1 er1⟩
  | cons x xs =>
    have hlt : i < pp.1.length := by
      rcases Nat.lt_or_ge i pp.1.length with q | q
      · exact q
      · rw [List.drop_eq_nil_iff.mpr q] at hd; cases hd
    have hx : pp.1[i]? = some x := by
      have : (pp.1.drop i)[0]? = some x := by rw [hd]; rfl
      rw [List.getElem?_drop] at this
      simpa using this
    have hxs : pp.1.drop (i + 1) = xs := by
      have : (pp.1.drop i).drop 1 = xs := by rw [hd]; rfl
      rwa [List.drop_drop] at this
    rw [hd] at p2
    have p2 : PostS ⟨X.K, z⟩ W ρ0 H1 (if okG pp.2 μ' then (match f x env' μ' with
      | .ok (.nx env1) μ1 => forL pp.2 f xs env1 μ1
      | .ok (.ct env1) μ1 => forL pp.2 f xs env1 μ1
      | .ok (.bk env1) μ1 => .ok (.nx env1) μ1
      | .ok (.rt d) μ1 => .ok (.rt d) μ1
      | .err c fs env1 μ1 => .err c fs env1 μ1
      | .bad => .bad) else .bad) D := p2
    cases og : okG pp.2 μ' with
    | false => rw [og, if_neg Bool.false_ne_true] at p2; exact p2.elim
    | true =>
      rw [og, if_pos rfl] at p2
      obtain ⟨g1, g2⟩ := hgo _ _ _ _ _ _ (s1 og) r1 og hx
      refine .inr ⟨g1, Iv (i + 1), fun σ' H' q => ⟨_, by omega, rfl, q⟩, fun x' H' y => ?_⟩
      obtain ⟨k2, r2, qx, s2⟩ := g2 x' H' y
      have hfx : f x env' μ' = stepD (denTg mt x env' μ') (denSs mb) := by rw [← hf]
      refine ⟨z, ρ', μ', env', x, r2, er1.mono k2, qx, ?_⟩
      cases e1 : denTg mt x env' μ' with
      | err c fs μ2 => rw [e1] at hfx; rw [hfx] at p2; exact p2.elim
      | bad => rw [e1] at hfx; rw [hfx] at p2; exact p2.elim
      | ok env1 μ2 =>
        rw [e1] at hfx
        dsimp only [stepD] at hfx
        rw [hfx] at p2
        intro ρ2 H2 σ2 k3 r3 ⟨er3, _⟩
        refine ⟨z, ρ2, μ2, env1, r3, er3, ?_⟩
        have kk := k2.trans k3
        cases e2 : denSs mb env1 μ2 with
        | ok fl μ3 =>
          rw [e2] at p2
          cases fl with
          | nx env2 => exact fun ρ3 H3 σ3 k4 r4 er4 => ⟨ρ3, μ3, env2, by omega, k.trans (kk.trans k4), r4, er4, fun og2 => st _ _ _ _ _ _ (s1 og) (kk.trans k4) r4 og2, by rw [hxs]; exact p2⟩
          | ct env2 => exact fun ρ3 H3 σ3 k4 r4 er4 => ⟨ρ3, μ3, env2, by omega, k.trans (kk.trans k4), r4, er4, fun og2 => st _ _ _ _ _ _ (s1 og) (kk.trans k4) r4 og2, by rw [hxs]; exact p2⟩
          | bk env2 => exact fun ρ3 H3 σ3 k4 r4 er4 => p2 ρ3 H3 σ3 (k.trans (kk.trans k4)) r4 er4
          | rt d => exact fun ρ3 H3 v3 k4 r4 q4 => p2 ρ3 H3 v3 (k.trans (kk.trans k4)) r4 q4
        | err c fs env2 μ3 => rw [e2] at p2; exact fun ρ3 H3 σ3 k4 r4 er4 => p2 ρ3 H3 σ3 (k.trans (kk.trans k4)) r4 er4
        | bad => rw [e2] at p2; exact p2
end
end PV

set_option maxRecDepth 100000
set_option maxHeartbeats 4000000
namespace PV
open PySem PySem.Spec PyProof.Rows L2
/-! ## a def's promise -/
section
variable {K : PySem.W.Frag} {z ρ m : List Addr} {H : Hp} {n : Nat}
mutual
theorem Rep.under (hn : ρ.length = n) : ∀ (d : D) (v : V), D.under n d = true → Rep ⟨K, z⟩ H (ρ ++ m) d v → Rep ⟨K, z⟩ H ρ d v
  | .non, v, _, q => q
  | .bl _, v, _, q => q
  | .int _, v, _, q => q
  | .str _, v, _, q => q
  | .tup ds, v, u, q => by
    obtain ⟨p, vs, e, h1, h2, h3⟩ := q
    simp only [D.under] at u
    exact ⟨p, vs, e, h1, h2, RepL.under hn ds vs u h3⟩
  | .lst ds, v, u, q => by
    obtain ⟨p, vs, e, h1, h2, h3, h4⟩ := q
    simp only [D.under] at u
    exact ⟨p, vs, e, h1, ⟨fun w => h2.1 (List.mem_append_left _ w), h2.2⟩, h3, RepL.under hn ds vs u h4⟩
  | .scr ds, v, u, q => by
    obtain ⟨p, vs, e, h1, h2, h3⟩ := q
    simp only [D.under] at u
    exact ⟨p, vs, e, h1, h2, RepL.under hn ds vs u h3⟩
  | .ref i, v, u, q => by
    obtain ⟨a, h1, h2⟩ := q
    simp only [D.under, decide_eq_true_eq] at u
    rw [List.getElem?_append_left (by rw [hn]; exact u)] at h1
    exact ⟨a, h1, h2⟩
theorem RepL.under (hn : ρ.length = n) : ∀ (ds : List D) (vs : List V), D.underL n ds = true → RepL ⟨K, z⟩ H (ρ ++ m) ds vs → RepL ⟨K, z⟩ H ρ ds vs
  | [], vs, _, q => q
  | d :: ds, vs, u, q => by
    obtain ⟨v, r, e, h1, h2⟩ := q
    simp only [D.underL, Bool.and_eq_true] at u
    exact ⟨v, r, e, Rep.under hn d v u.1 h1, RepL.under hn ds r u.2 h2⟩
end
/-- behind a body: the cells that nobody sees are left -/
theorem fin_ok {W : WD} {ρ' : List Addr} {H' : Hp} {d : D} {v : V} {μ1 : Mem} {Q : VK} (hn : ρ.length = n) (p : Post ⟨K, z⟩ W (RD ⟨K, z⟩) ρ H (finish n d μ1) Q) (k : Keep ρ H ρ' H') (r : Rel ⟨K, z⟩ H' ρ' μ1) (q : Rep ⟨K, z⟩ H' ρ' d v) : Q v H' := by
  unfold finish at p
  split at p
  · exact p.okK k r q
  · split at p
    · rename_i hu
      simp only [Bool.and_eq_true] at hu
      obtain ⟨u1, u2⟩ := hu
      obtain ⟨m, rfl, hm⟩ := k.ext
      refine p.okK ⟨⟨[], by simp, by simp⟩, k.keep, k.tups, k.frzs, k.dom⟩ ⟨?_, ?_, fun i a c h1 h2 => ?_, fun a ha => ?_⟩ (Rep.under hn d v u1 q)
      · have := r.len
        rw [List.length_append] at this
        rw [List.length_take]; omega
      · exact (List.nodup_append.mp r.nd).1
      · have hi : i < n := by rw [← hn]; exact (List.getElem?_eq_some_iff.mp h1).1
        rw [List.getElem?_take_of_lt hi] at h2
        have hc : c ∈ μ1.take n := List.mem_of_getElem? (i := i) (by rw [List.getElem?_take_of_lt hi]; exact h2)
        have uc := List.all_eq_true.mp u2 c hc
        have h1' : (ρ ++ m)[i]? = some a := by
          rw [List.getElem?_append_left (by rw [hn]; exact hi)]; exact h1
        cases r.cell i a c h1' h2 with
        | lst g1 g2 g3 => exact .lst g1 g2 (RepL.under hn _ _ uc g3)
      · obtain ⟨g1, g2⟩ := r.hid a ha
        exact ⟨fun w => g1 (List.mem_append_left _ w), g2⟩
    · exact p.okK k r q
end
def spG (K : PySem.W.Frag) (g : G) : List V → Hp → VK → Prop := fun vs H Q => ∃ (z : List Addr) (ds : List D) (ρ : List Addr) (μ : Mem), Rel ⟨K, z⟩ H ρ μ ∧ RepL ⟨K, z⟩ H ρ ds vs ∧ Post ⟨K, z⟩ (NW []) (RD ⟨K, z⟩) ρ H (g ds μ) Q
structure GOk (P : Program) (w : World) (K : PySem.W.Frag) (mg : Str → Option Value) (base : Heap) (k : Nat) (f : Addr) (fd : FuncData) (ps : List Str) (g : G) : Prop where
  len : ∀ vs H Q, spG K g vs H Q → vs.length = ps.length
  run : ∀ (A : Around) (outer : List Env) (s : Shared) (H : Hp) (args : Args) (us : List Value) (vs : List V) (Q : VK), Room k A → A.guards = some [] → Env0 P w K mg base A outer s H → BindsTo s fd args (ps.zip us) → Vals vs us → spG K g vs H Q →
    codeAny (model P w) A (.call (.ref f) args) (CR CX0 outer P w H s Q E0) s
/-- what a body may lean on -/
structure Good (X : Cx) (P : Program) (w : World) (K : PySem.W.Frag) (mg : Str → Option Value) (base : Heap) (k : Nat) : Prop where
  prog : X.prog = P
  w : X.w = w
  K : X.K = K
  mg : X.mg = mg
  base : X.base = base
  room : Room k X.A
  b : BOk X
theorem start_rel {K : KZ} {H : Hp} {ρ : List Addr} {N : List Str} {ds : List D} {vs : List V} (h : RepL K H ρ ds vs) : EnvRel K H ρ (L2.start N vs) (ds.map some ++ List.replicate (N.length - ds.length) none) := by
  unfold L2.start
  refine ⟨by simp [h.len], fun i d e => ?_⟩
  by_cases hi : i < ds.length
  · rw [List.getElem?_append_left (by simpa using hi), List.getElem?_map] at e
    cases q : ds[i]? with
    | none => rw [q] at e; cases e
    | some c =>
      rw [q] at e
      cases e
      obtain ⟨v, h1, h2⟩ := h.get q
      exact ⟨v, by rw [List.getElem?_append_left (by simpa [h.len] using hi), List.getElem?_map, h1]; rfl, h2⟩
  · rw [List.getElem?_append_right (by simpa using hi), List.getElem?_replicate] at e
    split at e <;> cases e
theorem run_len {F : Fn} {K : PySem.W.Frag} {vs : List V} {H : Hp} {Q : VK} (h : spG K (runFn F) vs H Q) : vs.length = F.ps.length := by
  obtain ⟨z, ds, ρ, μ, r, q, p⟩ := h
  unfold runFn at p
  split at p
  · rename_i e
    rw [q.len]; exact e
  · exact p.elim
/-- the body's end as the def's -/
theorem run_post {F : Fn} {K : PySem.W.Frag} {z ρ : List Addr} {H : Hp} {ds : List D} {μ : Mem} {Q : VK} (hn : ρ.length = μ.length) (p : Post ⟨K, z⟩ (NW []) (RD ⟨K, z⟩) ρ H (runFn F ds μ) Q) :
    PostS ⟨K, z⟩ NW ρ H (denSs F.body (ds.map some ++ List.replicate (F.N.length - ds.length) none) μ) { nx := fun _ H' => Q .non H', rt := Q } := by
  unfold runFn at p
  split at p
  · split at p
    · rename_i e
      rw [e]
      exact fun ρ' H' σ' k r er => fin_ok hn p k r rfl
    · rename_i e
      rw [e]
      exact fun ρ' H' v k r q => fin_ok hn p k r q
    · rename_i e
      rw [e]
      exact fun ρ' H' σ' k r er => p ρ' H' k r
    · exact p.elim
  · exact p.elim
section
variable {P : Program} {w : World} {K : PySem.W.Frag} {mg : Str → Option Value} {base : Heap}
theorem body_ok {F : Fn} {x qual : Str} {st : Stmt} {f : Addr} {fd : FuncData} {k : Nat} (D0 : Fun K x qual st f fd) (S : FnScope F.N F.ps (defScope st))
    (hbody : ∀ (A : Around) (outer : List Env) (s : Shared) (H : Hp) (cdv : Value), Good (cxOf CX0 P w K mg base F.N qual (defScope st) f cdv A outer s H E0).nox P w K mg base k →
      PSs (cxOf CX0 P w K mg base F.N qual (defScope st) f cdv A outer s H E0).nox (defBody st) (tS K NW (denSs F.body))) : GOk P w K mg base (k + 1) f fd F.ps (runFn F) := by
  obtain ⟨oc, od, kV, doc, pm, an, cdv, ct, osl, rfl, lk, hcd⟩ := D0.ex
  refine ⟨fun vs H Q h => run_len h, fun A outer s H args us vs Q hr hg e0 hb r hsp => ?_⟩
  have hl := run_len hsp
  have kx : K.In s.heap := e0.mod.kin.keeps fun b o e => (e0.bs b o e).1
  have nl : s.heap.NoLimit := e0.mod.nolimit.keeps fun b o e => (e0.bs b o e).1
  have par : ∀ y ∈ F.ps.zip us, (defScope st).names.lookup y.1 = some .local ∨ ((defScope st).names.lookup y.1 = some .cell ∧ ((cellsFrom (s.heap.objs.size + 1) (defScope st).names []).lookup y.1).isSome = true) := fun ⟨n, v⟩ hy => by
    rcases S.par n (List.of_mem_zip hy).1 with q | q
    · exact .inl q
    · exact .inr ⟨q, PySem.W.cellsFrom_some _ _ _ (.inl q)⟩
  refine codeAny_call_function hr.depth (kx _ _ lk) rfl S.co S.gen rfl (PySem.W.codeRec_of kx hcd) (hb _ _ _ _ ?_)
  refine wpAny_newFunctionEnv_cells S.kind par fun env he s1 x => ?_
  subst he
  refine ⟨nl.keeps x.toInCall.keep, codeAny_func ?_⟩
  have rm := hr.deeper (envOfC qual (defScope st) s.heap.objs.size f cdv)
  obtain ⟨z, ds, ρ, μ, rel, rl, p⟩ := hsp
  have ht := (hbody A outer s H cdv ⟨rfl, rfl, rfl, rfl, rfl, rm, ⟨rfl, hg, by have := rm.un; show (A.deeper (envOfC qual (defScope st) s.heap.objs.size f cdv)).units + 200 < cLine; omega⟩⟩).nox
  have I : Inv (cxOf CX0 P w K mg base F.N qual (defScope st) f cdv A outer s H E0) [] (L2.start F.N vs) H s1 := inv_start S hr.hd e0 hl r x
  have q0 : tS K NW (denSs F.body) { nx := fun _ H' => Q .non H', rt := Q } (L2.start F.N vs) H := ⟨z, ρ, μ, _, rel, start_rel rl, run_post rel.len p⟩
  refine wpAny_mono (ht.run [] s1 (L2.start F.N vs) H _ I q0) (fun fl s' hs => ?_) fun e s' hs => hs
  have fin : ∀ {τ : L2.St} {H' : Hp} {v : V} {u : Value}, Inv (cxOf CX0 P w K mg base F.N qual (defScope st) f cdv A outer s H E0) [] τ H' s' → RelV v u → Q v H' → CE outer P w H s Q u s' :=
    fun {τ H' v u} J rv q => ⟨v, H', J.os, J.bare, J.base, J.hok, rv, q⟩
  cases fl with
  | ret u =>
    obtain ⟨v, τ, H', J, rv, q⟩ := hs
    exact fin J rv q
  | next =>
    obtain ⟨τ, H', J, q⟩ := hs
    exact fin (v := V.non) (u := Value.none) J rfl q
  | brk =>
    obtain ⟨_, _, _, q⟩ := hs
    exact q.elim
  | cont =>
    obtain ⟨_, _, _, q⟩ := hs
    exact q.elim
/-! ## calls -/
/-- how keywords bind -/
def KB (fd : FuncData) (ps : List Str) (n : Nat) (ks : List Str) : Prop := ∀ us ws us' : List Value, us.length = n → ws.length = ks.length → pickK ps us ks ws = some us' → bindArgs fd ⟨us, ks.zip ws⟩ = pure (ps.zip us')
/-- a def that may be called by its name -/
structure Cle (P : Program) (w : World) (K : PySem.W.Frag) (mg : Str → Option Value) (base : Heap) (k : Nat) (x : Str) (ps : List Str) (kws : List (Nat × List Str)) (g : G) : Prop where
  ex : ∃ f fd, GOk P w K mg base k f fd ps g ∧ mg x = some (.ref f) ∧ PySem.W.keepIn K (.ref f) = true ∧ (∀ us : List Value, us.length = ps.length → bindArgs fd ⟨us, []⟩ = pure (ps.zip us)) ∧ ∀ p ∈ kws, KB fd ps p.1 p.2
end
theorem run_g {X : Cx} {k : Nat} {f : Addr} {fd : FuncData} {ps : List Str} {g : G} {args : Args} {pins : List (Addr × Obj)} {σ : L2.St} {H : Hp} {s : Shared} {Q : VK} {us : List Value} {vs : List V} (F : GOk X.prog X.w X.K X.mg X.base k f fd ps g) (hr : Room k X.A) (hg : X.A.guards = some [])
    (I : Inv X pins σ H s) (hb : us.length = ps.length → BindsTo s fd args (ps.zip us)) (r : Vals vs us) (h : spG X.K g vs H Q) : wpAny (model X.prog X.w) X.A (call (.ref f) args.pos args.kw) (EP X pins σ Q) X.xe s := by
  have hl : us.length = ps.length := by rw [← r.length]; exact F.len _ _ _ h
  refine wpAny_call (codeAny_mono (F.run X.A X.stack s H args us vs Q hr hg I.env0 (hb hl) r h) fun r s' hq => ?_)
  cases r with
  | error e => exact hq.elim
  | ok fl =>
    cases fl with
    | ret u => exact I.after hq
    | next => exact hq.elim
    | brk => exact hq.elim
    | cont => exact hq.elim
section
variable {X : Cx} {pos p : Pos} {k j : Nat} {x : Str} {ps : List Str} {kws : List (Nat × List Str)} {g : G}
theorem x_call {e : Expr} {es : List Expr} {ms : Es} (C : Cle X.prog X.w X.K X.mg X.base k x ps kws g) (hr : Room j X.A) (hk : k ≤ j) (B : BOk X) (hg : Gl X x) (ha : PA X (e :: es) (tDs X.K NW (denEs ms))) (hd : (x == ("__debug__" : Str)) = false := by decide)
    (he : starEach (e :: es) X.env = (false, eval e X.env) :: starEach es X.env := by rfl) (hpl : (backTo pos (starEach es X.env)).any (·.1) = false := by rfl) : PE X (.Call (.Name x p) (e :: es) [] pos) (tD X.K NW (denE (.call x ps g ms))) := by
  obtain ⟨f, fd, F, hm, hkp, hb, _⟩ := C.ex
  refine ⟨fun pins s σ H Q I ⟨z, ρ, μ, env, r, er, h⟩ => ?_⟩
  unfold denE at h
  refine wpAny_Call_Name_kw (ld_glob I hg hm (PySem.W.callWith_K (h₀ := X.base) I.ok.mod.kin hkp (thn (ha.run pos pins s σ H (fun vs H1 => spG X.K g vs H1 Q) I ?_) fun us s1 ⟨vs, H1, I1, rv, q⟩ => ⟨I1.kIn, ?_⟩) he hpl) hd)
  · exact ⟨z, ρ, μ, env, r, er, h.then fun ds vs ρ1 μ1 H1 k1 r1 q1 p1 => ⟨z, ds, ρ1, μ1, r1, q1, p1⟩⟩
  · exact run_g (args := ⟨us, []⟩) F (hr.mono hk) B.hg I1 (fun hl => .of_eq (hb us hl)) rv q
theorem x_call0 (C : Cle X.prog X.w X.K X.mg X.base k x ps kws g) (hr : Room j X.A) (hk : k ≤ j) (B : BOk X) (hg : Gl X x) (hd : (x == ("__debug__" : Str)) = false := by decide) : PE X (.Call (.Name x p) [] [] pos) (tD X.K NW (denE (.call x ps g .nil))) := by
  obtain ⟨f, fd, F, hm, hkp, hb, _⟩ := C.ex
  refine ⟨fun pins s σ H Q I ⟨z, ρ, μ, env, r, er, h⟩ => ?_⟩
  unfold denE at h
  exact wpAny_Call_Name_kw (ld_glob I hg hm (PySem.W.callWith_K0 I.kIn hkp (run_g (us := []) (args := ⟨[], []⟩) F (hr.mono hk) B.hg I (fun hl => .of_eq (hb [] hl)) .nil ⟨z, [], ρ, μ, r, rfl, h⟩)) hd)
/-! ### keywords -/
theorem k_nil : PK X [] (tDs X.K NW (denEs .nil)) := ⟨fun q pins s σ H Q I ⟨z, ρ, μ, env, r, er, h⟩ => pk_nil.run q pins s σ H Q I (h.ok r rfl)⟩
theorem k_cons {nm : Option Str} {kpos : Pos} {e : Expr} {ks : List Keyword} {m : E} {ms : Es} (he : PE X e (tD X.K NW (denE m))) (hk : PK X ks (tDs X.K NW (denEs ms))) : PK X (⟨nm, e, kpos⟩ :: ks) (tDs X.K NW (denEs (.cons m ms))) := by
  refine ⟨fun q pins s σ H Q I ⟨z, ρ, μ, env, r, er, h⟩ => (pk_cons he hk).run q pins s σ H Q I ⟨z, ρ, μ, env, r, er, ?_⟩⟩
  unfold denEs at h
  refine h.then fun a b ρ1 μ1 H1 k1 r1 q1 p1 => ⟨z, ρ1, μ1, env, r1, er.mono k1, p1.then fun as bs ρ2 μ2 H2 k2 r2 q2 p2 => ?_⟩
  exact p2.ok r2 ⟨b, bs, rfl, Rep.mono k2 _ _ q1, q2⟩
/-- the order of the parameters, for data and for values -/
theorem look_rel {α β : Type} {R : α → β → Prop} : ∀ {ks : List Str} {vs : List α} {us : List β} {x : Str} {d : α}, vs.length = us.length → (∀ (i : Nat) a b, vs[i]? = some a → us[i]? = some b → R a b) → (ks.zip vs).lookup x = some d → ∃ v, (ks.zip us).lookup x = some v ∧ R d v
  | [], _, _, _, _, _, _, h => by simp at h
  | _ :: _, [], _, _, _, _, _, h => by simp at h
  | _ :: _, _ :: _, [], _, _, hl, _, _ => by simp at hl
  | y :: ks, a :: vs, b :: us, x, d, hl, hR, h => by
    simp only [List.zip_cons_cons, List.lookup_cons] at h ⊢
    cases e : x == y with
    | true =>
      rw [e] at h
      cases h
      exact ⟨b, rfl, hR 0 _ _ rfl rfl⟩
    | false =>
      rw [e] at h
      exact look_rel (by simpa using hl) (fun i a' b' h1 h2 => hR (i + 1) a' b' (by simpa using h1) (by simpa using h2)) h
theorem pick_rel {α β : Type} {R : α → β → Prop} : ∀ {ps : List Str} {ds : List α} {ks : List Str} {vs : List α} {es : List β} {us : List β} {rs : List α}, ds.length = es.length → (∀ (i : Nat) a b, ds[i]? = some a → es[i]? = some b → R a b) →
    vs.length = us.length → (∀ (i : Nat) a b, vs[i]? = some a → us[i]? = some b → R a b) → pickK ps ds ks vs = some rs → ∃ ts, pickK ps es ks us = some ts ∧ rs.length = ts.length ∧ ∀ (i : Nat) a b, rs[i]? = some a → ts[i]? = some b → R a b
  | [], [], ks, vs, [], us, rs, hl, hR, hl2, hR2, h => by
    simp only [pickK, Option.some.injEq] at h
    subst h
    exact ⟨[], by simp [pickK], rfl, by simp⟩
  | [], [], ks, vs, _ :: _, us, rs, hl, _, _, _, _ => by simp at hl
  | [], _ :: _, ks, vs, es, us, rs, hl, hR, hl2, hR2, h => by simp [pickK] at h
  | p :: ps, d :: ds, ks, vs, [], us, rs, hl, hR, hl2, hR2, h => by simp at hl
  | p :: ps, d :: ds, ks, vs, e :: es, us, rs, hl, hR, hl2, hR2, h => by
    simp only [pickK] at h ⊢
    cases q : pickK ps ds ks vs with
    | none => rw [q] at h; cases h
    | some r =>
      rw [q] at h
      cases h
      obtain ⟨ts, h1, h2, h3⟩ := pick_rel (by simpa using hl) (fun i a b g1 g2 => hR (i + 1) a b (by simpa using g1) (by simpa using g2)) hl2 hR2 q
      refine ⟨e :: ts, by rw [h1], by simp [h2], fun i a b g1 g2 => ?_⟩
      cases i with
      | zero => cases g1; cases g2; exact hR 0 _ _ rfl rfl
      | succ i => exact h3 i a b (by simpa using g1) (by simpa using g2)
  | p :: ps, [], ks, vs, e :: es, us, rs, hl, hR, hl2, hR2, h => by simp at hl
  | p :: ps, [], ks, vs, [], us, rs, hl, hR, hl2, hR2, h => by
    simp only [pickK] at h ⊢
    cases q : (ks.zip vs).lookup p with
    | none => rw [q] at h; cases h
    | some d =>
      rw [q] at h
      dsimp only at h
      obtain ⟨v, g1, g2⟩ := look_rel hl2 hR2 q
      cases q2 : pickK ps [] ks vs with
      | none => rw [q2] at h; cases h
      | some r =>
        rw [q2] at h
        cases h
        obtain ⟨ts, h1, h2, h3⟩ := pick_rel (R := R) (es := ([] : List β)) rfl (by simp) hl2 hR2 q2
        refine ⟨v :: ts, by rw [g1]; dsimp only; rw [h1], by simp [h2], fun i a b f1 f2 => ?_⟩
        cases i with
        | zero => cases f1; cases f2; exact g2
        | succ i => exact h3 i a b (by simpa using f1) (by simpa using f2)
theorem repl_at {K : KZ} {H : Hp} {ρ : List Addr} : ∀ {ds : List D} {vs : List V}, RepL K H ρ ds vs ↔ ds.length = vs.length ∧ ∀ (i : Nat) a b, ds[i]? = some a → vs[i]? = some b → Rep K H ρ a b
  | [], vs => by
    constructor
    · intro h
      have h : vs = [] := h
      subst h
      exact ⟨rfl, by simp⟩
    · intro ⟨h, _⟩
      exact (List.length_eq_zero_iff.mp h.symm)
  | d :: ds, vs => by
    constructor
    · intro ⟨v, r, e, h1, h2⟩
      subst e
      obtain ⟨g1, g2⟩ := repl_at.mp h2
      refine ⟨by simp [g1], fun i a b h3 h4 => ?_⟩
      cases i with
      | zero => cases h3; cases h4; exact h1
      | succ i => exact g2 i a b (by simpa using h3) (by simpa using h4)
    · intro ⟨h, g⟩
      cases vs with
      | nil => simp at h
      | cons v r => exact ⟨v, r, rfl, g 0 _ _ rfl rfl, repl_at.mpr ⟨by simpa using h, fun i a b h3 h4 => g (i + 1) a b (by simpa using h3) (by simpa using h4)⟩⟩
theorem vals_at : ∀ {xs : List V} {us : List Value}, Vals xs us ↔ xs.length = us.length ∧ ∀ (i : Nat) a b, xs[i]? = some a → us[i]? = some b → RelV a b
  | [], us => by
    constructor
    · intro h
      cases h
      exact ⟨rfl, by simp⟩
    · intro ⟨h, _⟩
      rw [List.length_eq_zero_iff.mp h.symm]
      exact .nil
  | x :: xs, us => by
    constructor
    · intro h
      cases h with
      | cons h1 h2 =>
        obtain ⟨g1, g2⟩ := vals_at.mp h2
        refine ⟨by simp [g1], fun i a b h3 h4 => ?_⟩
        cases i with
        | zero => cases h3; cases h4; exact h1
        | succ i => exact g2 i a b (by simpa using h3) (by simpa using h4)
    · intro ⟨h, g⟩
      cases us with
      | nil => simp at h
      | cons v r => exact .cons (g 0 _ _ rfl rfl) (vals_at.mpr ⟨by simpa using h, fun i a b h3 h4 => g (i + 1) a b (by simpa using h3) (by simpa using h4)⟩)
theorem pick_rep {K : KZ} {H : Hp} {ρ : List Addr} {ds zs rs : List D} {vs us : List V} {ks : List Str} (h1 : RepL K H ρ ds vs) (h2 : RepL K H ρ zs us) (h : pickK ps ds ks zs = some rs) : ∃ ts, pickK ps vs ks us = some ts ∧ RepL K H ρ rs ts := by
  obtain ⟨a1, a2⟩ := repl_at.mp h1
  obtain ⟨b1, b2⟩ := repl_at.mp h2
  obtain ⟨ts, c1, c2, c3⟩ := pick_rel a1 a2 b1 b2 h
  exact ⟨ts, c1, repl_at.mpr ⟨c2, c3⟩⟩
theorem pick_vals {rs vs us : List V} {ws xs : List Value} {ks : List Str} (h1 : Vals vs ws) (h2 : Vals us xs) (h : pickK ps vs ks us = some rs) : ∃ ts, pickK ps ws ks xs = some ts ∧ Vals rs ts := by
  obtain ⟨a1, a2⟩ := vals_at.mp h1
  obtain ⟨b1, b2⟩ := vals_at.mp h2
  obtain ⟨ts, c1, c2, c3⟩ := pick_rel a1 a2 b1 b2 h
  exact ⟨ts, c1, vals_at.mpr ⟨c2, c3⟩⟩
/-- the order of the parameters, at the callee's door -/
theorem pick_spG {ds zs : List D} {vs us : List V} {ks : List Str} {z ρ : List Addr} {μ : Mem} {H : Hp} {Q : VK} (r : Rel ⟨X.K, z⟩ H ρ μ) (h1 : RepL ⟨X.K, z⟩ H ρ ds vs) (h2 : RepL ⟨X.K, z⟩ H ρ zs us)
    (p : Post ⟨X.K, z⟩ (NW []) (RD ⟨X.K, z⟩) ρ H (match pickK ps ds ks zs with | some r => g r μ | none => .bad) Q) : ∃ ts, pickK ps vs ks us = some ts ∧ spG X.K g ts H Q := by
  split at p
  · rename_i rs e
    obtain ⟨ts, c1, c2⟩ := pick_rep h1 h2 e
    exact ⟨ts, c1, z, rs, ρ, μ, r, c2, p⟩
  · exact p.elim
theorem x_callK {e : Expr} {es : List Expr} {kw : List Keyword} {ms mk : Es} {ks : List Str} (C : Cle X.prog X.w X.K X.mg X.base k x ps kws g) (hr : Room j X.A) (hk : k ≤ j) (B : BOk X) (hg : Gl X x) (ha : PA X (e :: es) (tDs X.K NW (denEs ms))) (hkw : PK X kw (tDs X.K NW (denEs mk)))
    (hin : (ms.len, ks) ∈ kws) (hl : mk.len = ks.length := by rfl) (hall : (backToKw pos (keywordEach kw X.env)).all (·.1.isSome) = true := by rfl) (hks : (backToKw pos (keywordEach kw X.env)).filterMap (·.1) = ks := by rfl) (hd : (x == ("__debug__" : Str)) = false := by decide)
    (he : starEach (e :: es) X.env = (false, eval e X.env) :: starEach es X.env := by rfl) (hpl : ((backTo pos (starEach (e :: es) X.env)).any (·.1) || (backToKw pos (keywordEach kw X.env)).any (·.1.isNone)) = false := by rfl) :
    PE X (.Call (.Name x p) (e :: es) kw pos) (tD X.K NW (denE (.callK x ps g ms ks mk))) := by
  obtain ⟨f, fd, F, hm, hkp, _, hb⟩ := C.ex
  refine ⟨fun pins s σ H Q I ⟨z, ρ, μ, env, r, er, h⟩ => ?_⟩
  unfold denE at h
  have n1 := denEs_len ms env μ
  refine wpAny_Call_Name_kw (ld_glob I hg hm ?_ hd)
  refine PySem.W.callWith_KW (h₀ := X.base) I.ok.mod.kin hkp hall (thn (ha.run pos pins s σ H (fun vs H1 => vs.length = ms.len ∧ tDs X.K NW (denEs mk) σ H1 fun us H2 => us.length = mk.len ∧ ∃ ts, pickK ps vs ks us = some ts ∧ spG X.K g ts H2 Q) I ?_) fun us s1 ⟨vs, H1, I1, rv, e1, q⟩ => ?_) hpl he
  · refine ⟨z, ρ, μ, env, r, er, ?_⟩
    cases ea : denEs ms env μ with
    | err c fs μ1 => rw [ea] at h; exact h
    | bad => rw [ea] at h; exact h
    | ok ds μ1 =>
      rw [ea] at h n1
      intro ρ1 H1 vs k1 r1 q1
      refine ⟨by rw [q1.len]; exact n1, z, ρ1, μ1, env, r1, er.mono k1, ?_⟩
      have n2 := denEs_len mk env μ1
      cases eb : denEs mk env μ1 with
      | err c fs μ2 =>
        simp only [bind_ok, eb] at h
        exact fun ρ2 H2 k2 r2 => h ρ2 H2 (k1.trans k2) r2
      | bad =>
        simp only [bind_ok, eb] at h
        exact h
      | ok zs μ2 =>
        rw [eb] at n2
        simp only [bind_ok, eb] at h
        exact fun ρ2 H2 us k2 r2 q2 => ⟨by rw [q2.len]; exact n2, pick_spG r2 (RepL.mono k2 _ _ q1) q2 (h.up (k1.trans k2))⟩
  · refine thn (hkw.run pos pins s1 σ H1 _ I1 q) fun ws s2 ⟨zs, H2, I2, rz, e2, ts, c1, c2⟩ => ⟨I2.kIn, ?_⟩
    rw [hks]
    obtain ⟨us', d1, d2⟩ := pick_vals rv rz c1
    exact run_g (args := ⟨us, ks.zip ws⟩) F (hr.mono hk) B.hg I2 (fun _ => .of_eq (hb _ hin us ws us' (by rw [← rv.length]; exact e1) (by rw [← rz.length, e2, hl]) d1)) d2 c2
theorem x_callK0 {kw : List Keyword} {mk : Es} {ks : List Str} (C : Cle X.prog X.w X.K X.mg X.base k x ps kws g) (hr : Room j X.A) (hk : k ≤ j) (B : BOk X) (hg : Gl X x) (hkw : PK X kw (tDs X.K NW (denEs mk)))
    (hin : (0, ks) ∈ kws) (hl : mk.len = ks.length := by rfl) (hall : (backToKw pos (keywordEach kw X.env)).all (·.1.isSome) = true := by rfl) (hks : (backToKw pos (keywordEach kw X.env)).filterMap (·.1) = ks := by rfl) (hd : (x == ("__debug__" : Str)) = false := by decide)
    (hpl : ((backTo pos (starEach [] X.env)).any (·.1) || (backToKw pos (keywordEach kw X.env)).any (·.1.isNone)) = false := by rfl) :
    PE X (.Call (.Name x p) [] kw pos) (tD X.K NW (denE (.callK x ps g .nil ks mk))) := by
  obtain ⟨f, fd, F, hm, hkp, _, hb⟩ := C.ex
  refine ⟨fun pins s σ H Q I ⟨z, ρ, μ, env, r, er, h⟩ => ?_⟩
  unfold denE at h
  simp only [denEs, bind_ok] at h
  refine wpAny_Call_Name_kw (ld_glob I hg hm ?_ hd)
  refine PySem.W.callWith_KW0 (h₀ := X.base) I.ok.mod.kin hkp hall (thn (hkw.run pos pins s σ H (fun us H2 => us.length = mk.len ∧ ∃ ts, pickK ps [] ks us = some ts ∧ spG X.K g ts H2 Q) I ?_) fun ws s2 ⟨zs, H2, I2, rz, e2, ts, c1, c2⟩ => ⟨I2.kIn, ?_⟩) hpl
  · refine ⟨z, ρ, μ, env, r, er, ?_⟩
    have n2 := denEs_len mk env μ
    cases eb : denEs mk env μ with
    | err c fs μ2 => rw [eb] at h; exact h
    | bad => rw [eb] at h; exact h
    | ok zs μ2 =>
      rw [eb] at n2
      simp only [bind_ok, eb] at h
      exact fun ρ2 H2 us k2 r2 q2 => ⟨by rw [q2.len]; exact n2, pick_spG (ds := []) (vs := []) r2 rfl q2 (h.up k2)⟩
  · rw [hks]
    obtain ⟨us', d1, d2⟩ := pick_vals .nil rz c1
    exact run_g (args := ⟨[], ks.zip ws⟩) F (hr.mono hk) B.hg I2 (fun _ => .of_eq (hb _ hin [] ws us' rfl (by rw [← rz.length, e2, hl]) d1)) d2 c2
end
end PV

set_option maxRecDepth 100000
set_option maxHeartbeats 4000000
namespace PV
open PySem PySem.Spec PyProof.Rows L2
/-! ## the law's own call -/
/-- nothing is tracked but the script -/
def Lone (H : Hp) : Prop := ∀ b, H b = none ∨ ∃ o xs, H b = some (.frz o (.lst xs))
theorem scr_spG {K : PySem.W.Frag} {g : G} {H : Hp} {a : Addr} {ns : List Int} {μ1 : Mem} (h1 : Lone H) (h2 : SqL K H a (ns.map V.int)) (hl : ns.length ≤ sizeLine) (hg : g [.scr (ns.map D.int)] [] = .ok (.bl true) μ1) : spG K g [.ref a] H fun v _ => v = .bl true := by
  have hs : ScrAt K H a (ns.map V.int) := by
    rcases h2 with (h | ⟨o, h⟩) | h
    · rcases h1 a with z | ⟨o, xs, z⟩
      · rw [h] at z; cases z
      · rw [h] at z; cases z
    · exact .inl ⟨o, h⟩
    · exact .inr (.inr h)
  refine ⟨[], [.scr (ns.map D.int)], [], [], ⟨rfl, by simp, by simp, by simp⟩, ⟨_, [], rfl, ⟨a, ns.map V.int, rfl, hs, by rw [List.length_map]; exact hl, RepL.mapI ns⟩, rfl⟩, ?_⟩
  rw [hg]
  intro ρ' H' v k r q
  exact q
theorem law_g {P : Program} {w : World} {K : PySem.W.Frag} {mg mb : Str → Option Value} {k : Nat} {fa a : Addr} {fd : FuncData} {x : Str} {g : G} {s₁ : Shared} {vs : List Value} {ns : List Int}
    (kx : K.In s₁.heap) (hn : s₁.heap.Ns mainGlobals mg) (hb : s₁.heap.Ns builtinsNs mb) (hbb : ∀ x : Str, x ≠ "__name__" → mb x = bootBuiltins x) (nl : s₁.heap.NoLimit) (hgs : s₁.gens = #[])
    (ha : s₁.heap.get? a = some { cls := .type "list", data := .seq vs.toArray }) (hi : IntsAre vs ns) (hl : ns.length ≤ sizeLine) (hr : Room k callerA)
    (F : ∀ base : Heap, GOk P w K mg base k fa fd [x] g) (hbind : ∀ (s : Shared) (u : Value), BindsTo s fd ⟨[u], []⟩ [(x, u)]) (hg : ∃ μ1, g [.scr (ns.map D.int)] [] = .ok (.bl true) μ1) :
    codeAny (model P w) callerA (.call (.ref fa) ⟨[.ref a], []⟩) (fun r s' => r = .ok (.ret (.bool true)) ∧ OldK s₁.heap s'.heap ∧ s'.os = s₁.os ∧ AllBare s'.gens) s₁ := by
  have rv := vals_ints hi
  have lv := hi.length
  obtain ⟨μ1, hg⟩ := hg
  -- an abstract heap in which at most the script is tracked
  have core : ∀ H : Hp, Lone H → SqL K H a (ns.map V.int) → HOk P w H s₁.heap → (∀ b, H b ≠ none → b = a) → (H a ≠ none → K.lookup a = none) →
      codeAny (model P w) callerA (.call (.ref fa) ⟨[.ref a], []⟩) (fun r t => r = .ok (.ret (.bool true)) ∧ OldK s₁.heap t.heap ∧ t.os = s₁.os ∧ AllBare t.gens) s₁ := by
    intro H lone sq hok only free
    have none_of : ∀ {b : Addr}, (b = a → False) → H b = none := fun {b} hb => by
      cases q : H b with
      | none => rfl
      | some u => exact (hb (only b (by rw [q]; simp))).elim
    have dct : ∀ {b : Addr} {o : Obj} {es : Array DictEntry} {ep : Nat}, s₁.heap.get? b = some o → o.data = .dict es ep → H b = none := fun {b o es ep} e d => none_of fun z => by
      subst z
      rw [ha] at e; cases e
      have d2 : Data.seq vs.toArray _ = Data.dict es ep := d
      cases d2
    have nsH : ∀ {b : Addr} {m : Str → Option Value}, s₁.heap.Ns b m → (hidT s₁.heap H).Ns b m := fun {b m} ⟨o, es, ep, e, d, r⟩ => ⟨o, es, ep, hidT_get e (dct e d), d, r⟩
    have kH : K.In (hidT s₁.heap H) := fun b o e => hidT_get (kx b o e) (by
      cases q : H b with
      | none => rfl
      | some u =>
        have z := only b (by rw [q]; simp)
        subst z
        rw [free (by rw [q]; simp)] at e; cases e)
    have md : Mod K mg (hidT s₁.heap H) := ⟨kH, nsH hn, ⟨mb, nsH hb, hbb⟩, let ⟨mc, h1, h2⟩ := nl; ⟨mc, nsH h1, h2⟩⟩
    have nil : ∀ b : Addr, b ∉ ([] : List Addr) := fun b z => absurd z (by simp)
    have e0 : Env0 P w K mg (hidT s₁.heap H) callerA [] s₁ H := ⟨rfl, md, fun b o e => of_hidT e, Nat.le_of_eq (hidT_size _ _), trivial, fun b z => (nil b z).elim, hok, .of_eq hgs⟩
    have go := (F (hidT s₁.heap H)).run callerA [] s₁ H ⟨[.ref a], []⟩ [.ref a] [.ref a] _ hr rfl e0 (hbind s₁ (.ref a)) (.cons rfl .nil) (scr_spG lone sq hl hg)
    refine codeAny_mono go fun r s' h => ?_
    cases r with
    | error e => exact h.elim
    | ok fl =>
      cases fl with
      | next => exact h.elim
      | brk => exact h.elim
      | cont => exact h.elim
      | ret u =>
        obtain ⟨v, H', os, bare, un, hok2, r2, q⟩ := h
        have q : v = .bl true := q
        subst q
        obtain rfl : u = Value.bool true := r2
        refine ⟨rfl, OldK.of_keep fun b o e => ?_, os, bare⟩
        cases q : H b with
        | none => exact un.keep b o e q (nil b) (by simp)
        | some u =>
          rcases lone b with z | ⟨ob, xs, z⟩
          · rw [q] at z; cases z
          · obtain ⟨e1, _⟩ := hok b _ z
            obtain ⟨e2, _⟩ := hok2 b _ (un.frzs b ob _ z)
            rw [e] at e1; cases e1
            exact e2
  cases hk : K.lookup a with
  | some o =>
    have e := kx a o hk
    rw [ha] at e
    cases e
    have ht : SqL K (fun _ => none) a (ns.map V.int) := .inr ⟨_, vs.toArray, _, hk, rfl, rfl, rfl, by rw [List.size_toArray, lv]; exact hl, by simpa using rv⟩
    exact core (fun _ => none) (fun _ => .inl rfl) ht (fun b u z => by cases (show (none : Option HO) = some u from z)) (fun b z => absurd rfl z) fun z => absurd rfl z
  | none =>
    have at_a : ∀ b, b = a → (fun b => if b = a then some (HO.frz { cls := .type "list", data := .seq vs.toArray } (.lst (ns.map V.int))) else none) b = some (HO.frz { cls := .type "list", data := .seq vs.toArray } (.lst (ns.map V.int))) := fun b e => if_pos e
    refine core (fun b => if b = a then some (.frz { cls := .type "list", data := .seq vs.toArray } (.lst (ns.map V.int))) else none) (fun b => ?_) (.inl (.inr ⟨_, at_a a rfl⟩)) (fun b u z => ?_) (fun b z => ?_) fun _ => hk
    · by_cases hb : b = a
      · exact .inr ⟨_, _, at_a b hb⟩
      · exact .inl (if_neg hb)
    · by_cases hb : b = a
      · have z2 := (at_a b hb).symm.trans z
        cases z2
        subst hb
        exact ⟨ha, by rw [List.length_map]; exact hl, vs, _, rv, ha⟩
      · have z2 := (if_neg hb).symm.trans z
        cases z2
    · by_cases hb : b = a
      · exact hb
      · exact absurd (if_neg hb) z
/-- the goal that the head leaves -/
theorem walk_g {l : PySem.W.OpenLaw} {n k : Nat} {q : Program} {loose : List Str} {XP : (Str → Option Value) → Heap → Prop} {YP : World → Heap → Prop} {d : DefRec} {K : Params → PySem.W.Frag} {x : Str} {g : G}
    (hn : l.most = some n) (hn2 : n ≤ sizeLine) (hdf : d.params.defaults = []) (hr : Room k callerA) (hY : ∀ (w : World) (h : Heap), YP w h → (K w.params).In h)
    (F : ∀ (w : World) (mg : Str → Option Value) (fa : Addr) (h : Heap), (K w.params).In h → h.Ns mainGlobals mg → mg d.name = some (.ref fa) → ∃ fd : FuncData, (∀ (s : Shared) (u : Value), BindsTo s fd ⟨[u], []⟩ [(x, u)]) ∧ ∀ base : Heap, GOk l.prog w (K w.params) mg base k fa fd [x] g)
    (hg : ∀ ns : List Int, ns.length ≤ n → ∃ μ1, g [.scr (ns.map D.int)] [] = .ok (.bl true) μ1) : PySem.W.WalkO q loose XP YP l.row.toRowW d [] (fun f vs => PySem.call f vs) := by
  refine Att.attach_call hn hdf fun w s₀ s₁ mg mb fa o pm cd doc a vs ns G Y ho hd hcd hmg hobj hints hlen hgs => ?_
  have kx := hY w _ Y
  obtain ⟨fd, hb, hF⟩ := F w mg fa _ kx G.T.g hmg
  exact law_g kx G.T.g G.T.b G.T.builtins G.T.nolimit hgs hobj hints (Nat.le_trans hlen hn2) hr hF hb (hg ns hlen)
end PV

set_option maxRecDepth 100000
set_option maxHeartbeats 4000000
namespace PV
open PySem PySem.Spec PyProof.Rows L2
/-! ## short words for the printed texts -/
def visB (sc : Scope) (x : Str) : Bool := match sc.names.lookup x with
  | some .local => true
  | some .cell => true
  | some .free => true
  | _ => false
theorem vis {sc : Scope} {x : Str} (h : visB sc x = true) : Vis sc x := by
  unfold visB at h
  split at h
  · rename_i e; exact .inl e
  · rename_i e; exact .inr (.inl e)
  · rename_i e; exact .inr (.inr e)
  · cases h
def locB (sc : Scope) (x : Str) : Bool := match sc.names.lookup x with
  | some .local => true
  | some .cell => true
  | _ => false
theorem loc {sc : Scope} {x : Str} (h : locB sc x = true) : Loc sc x := by
  unfold locB at h
  split at h
  · rename_i e; exact .inl e
  · rename_i e; exact .inr e
  · cases h
def ownB (s1 s2 : Scope) (x : Str) : Bool := decide (s2.names.lookup x = some .local) || (decide (s1.names.lookup x = some .cell) && decide (s2.names.lookup x = some .cell))
theorem gl {X : Cx} {x : Str} (h : X.env.kindOf x = some .globalImplicit) : Gl X x := h
theorem BOk.blk {X : Cx} {s : Shared} {H : Hp} {scope : Scope} {e : Env} {fp : List Addr} (B : BOk X) : BOk (X.blk s H scope e fp) := ⟨B.calm, B.hg, B.hu⟩
section
variable {X : Cx} {pos : Pos}
/-- the name of a block's own slot as a target -/
theorem g_own {i : Nat} {x : Str} {s : Shared} {H : Hp} {scope : Scope} {e : Env} {fp : List Addr} (hN : X.N.Nodup) (hi : X.N[i]? = some x) (hx : ownB scope e.scope x = true) : PG (X.blk s H scope e fp) (.Name x pos) (tT X.K (denTg (.nm i)) (Tg.sl (.nm i))) := by
  unfold ownB at hx
  simp only [Bool.or_eq_true, Bool.and_eq_true, decide_eq_true_eq] at hx
  rcases hx with h | ⟨h, h2⟩
  · exact g_nm (X := X.blk s H scope e fp) hN hi (.inl h) (.inr h)
  · exact g_nm (X := X.blk s H scope e fp) hN hi (.inr h2) (.inl (by show (scope.names.lookup x == some .cell) = true; rw [h]; rfl))
end
/-! ### a global that the top has written -/
structure GloIs (K : PySem.W.Frag) (mg : Str → Option Value) (x : Str) (d : PV.D) : Prop where
  ex : ∃ (u : Value) (v : V), mg x = some u ∧ RelV v u ∧ ∀ z H ρ, Rep ⟨K, z⟩ H ρ d v
theorem glo_int {K : PySem.W.Frag} {mg : Str → Option Value} {x : Str} {i : Int} {t : Tok} (h : mg x = some (.int i t)) : GloIs K mg x (.int i) := ⟨⟨_, .int i, h, ⟨t, rfl⟩, fun _ _ _ => rfl⟩⟩
theorem glo_tup {K : PySem.W.Frag} {mg : Str → Option Value} {x : Str} {ns : List Int} {p : Addr} {o : Obj} {its : Array Value} {n : Nat} (h : mg x = some (.ref p)) (l : K.lookup p = some o) (c : o.cls = .type "tuple") (d : o.data = .seq its n) (hz : decide (its.size ≤ 1000) = true) (hv : Vals (ns.map V.int) its.toList) : GloIs K mg x (.tup (ns.map PV.D.int)) := by
  refine ⟨⟨_, .ref p, h, rfl, fun z H ρ => ⟨p, ns.map V.int, rfl, .inr ⟨o, its, n, l, c, d, ?_, hv⟩, ?_, RepL.mapI ns⟩⟩⟩
  · exact Nat.le_trans (of_decide_eq_true hz) (by decide)
  · have := hv.length
    rw [this, Array.length_toList]
    exact Nat.le_trans (of_decide_eq_true hz) (by decide)
section
variable {X : Cx} {W : L2.St → WD} {pos : Pos}
theorem x_gloM {x : Str} {d : PV.D} (hg : Gl X x) (h : GloIs X.K X.mg x d) (hd : (x == ("__debug__" : Str)) = false := by decide) : PE X (.Name x pos) (tD X.K W (denE (.glo x d))) := by
  obtain ⟨u, v, hm, rv, hr⟩ := h.ex
  exact x_glo hg hm rv hr hd
end
abbrev Cxb (P : Program) (w : World) (K : PySem.W.Frag) (mg : Str → Option Value) (base : Heap) (F : Fn) (x : Str) (st : Stmt) (f : Addr) (cdv : Value) (A : Around) (outer : List Env) (s : Shared) (H : Hp) : Cx := (cxOf CX0 P w K mg base F.N x (defScope st) f cdv A outer s H E0).nox
theorem bo_len : bootBuiltins "len" = some (.builtin "len") := by decide +kernel
theorem bo_int : bootBuiltins "int" = some (.type "int") := by decide +kernel
theorem bo_abs : bootBuiltins "abs" = some (.builtin "abs") := by decide +kernel
theorem bo_list : bootBuiltins "list" = some (.type "list") := by decide +kernel
theorem bo_tuple : bootBuiltins "tuple" = some (.type "tuple") := by decide +kernel
theorem bo_max : bootBuiltins "max" = some (.builtin "max") := by decide +kernel
theorem bo_min : bootBuiltins "min" = some (.builtin "min") := by decide +kernel
theorem bo_sum : bootBuiltins "sum" = some (.builtin "sum") := by decide +kernel
theorem bo_all : bootBuiltins "all" = some (.builtin "all") := by decide +kernel
theorem bo_any : bootBuiltins "any" = some (.builtin "any") := by decide +kernel
theorem bo_repr : bootBuiltins "repr" = some (.builtin "repr") := by decide +kernel
theorem bo_sorted : bootBuiltins "sorted" = some (.builtin "sorted") := by decide +kernel
theorem bo_str : bootBuiltins "str" = some (.type "str") := by decide +kernel
end PV

set_option maxRecDepth 100000
set_option maxHeartbeats 4000000
namespace PV
open PySem PySem.Spec PyProof.Rows L2
/-! ## comprehensions of two clauses -/
def Out.only {α β : Type} (o : Out α) (f : α → Mem → Out β) : Out β :=
  match o with
  | .ok a μ => f a μ
  | _ => .bad
theorem compL_cons {g : Grd} {f : D → Mem → Out (List D)} {x : D} {xs : List D} {μ : Mem} : compL g f (x :: xs) μ = if okG g μ then (f x μ).only fun l μ1 => (compL g f xs μ1).only fun r μ2 => .ok (l ++ r) μ2 else .bad := by
  show (if okG g μ then (match f x μ with | .ok l μ1 => (match compL g f xs μ1 with | .ok r μ2 => .ok (l ++ r) μ2 | _ => .bad) | _ => .bad) else .bad : Out (List D)) = _
  congr 1
  cases f x μ with
  | ok l μ1 =>
    show (match compL g f xs μ1 with | .ok r μ2 => .ok (l ++ r) μ2 | _ => .bad : Out (List D)) = (compL g f xs μ1).only fun r μ2 => .ok (l ++ r) μ2
    cases compL g f xs μ1 <;> rfl
  | err c fs μ1 => rfl
  | bad => rfl
theorem compL_nil {g : Grd} {f : D → Mem → Out (List D)} {μ : Mem} : compL g f [] μ = if okG g μ then .ok [] μ else .bad := rfl
theorem only_bind {α β γ : Type} (o : Out α) (f : α → Mem → Out β) (h : β → Mem → Out γ) : (o.only f).bind h = o.only fun a μ => (f a μ).bind h := by cases o <;> rfl
theorem only_only {α β γ : Type} (o : Out α) (f : α → Mem → Out β) (h : β → Mem → Out γ) : (o.only f).only h = o.only fun a μ => (f a μ).only h := by cases o <;> rfl
theorem Post.onlyE {α β γ : Type} {K : KZ} {W : WD} {R : List Addr → Hp → β → γ → Prop} {ρ : List Addr} {H : Hp} {o : Out α} {f : α → Mem → Out β} {Q : γ → Hp → Prop} (h : Post K W R ρ H (o.only f) Q) : ∃ a μ, o = .ok a μ ∧ Post K W R ρ H (f a μ) Q := by
  cases o with
  | ok a μ => exact ⟨a, μ, rfl, h⟩
  | err c fs μ => exact h.elim
  | bad => exact h.elim
section
variable {K : PySem.W.Frag} {z ρ ρ' : List Addr} {H H' : Hp} {D0 : Addr}
theorem Keep.both {xs ys os : List V} (k : Keep ρ H ρ' H') (h : H D0 = some (.lst xs)) (h' : H' D0 = some (.lst ys)) : Keep ρ (upd H D0 (.lst os)) ρ' (upd H' D0 (.lst os)) := by
  obtain ⟨m, e, hm⟩ := k.ext
  refine ⟨⟨m, e, fun a ha => ?_⟩, fun a u q hr => ?_, fun a us q => ?_, fun a u v q => ?_, fun a u q => ?_⟩
  · have n := hm a ha
    rw [upd_ne (fun z => by rw [z, h] at n; cases n)]; exact n
  · by_cases ha : a = D0
    · subst ha; rw [upd_same] at q ⊢; exact q
    · rw [upd_ne ha] at q ⊢; exact k.keep a u q hr
  · by_cases ha : a = D0
    · subst ha; rw [upd_same] at q; cases q
    · rw [upd_ne ha] at q ⊢; exact k.tups a us q
  · by_cases ha : a = D0
    · subst ha; rw [upd_same] at q; cases q
    · rw [upd_ne ha] at q ⊢; exact k.frzs a u v q
  · by_cases ha : a = D0
    · exact ⟨_, by rw [ha]; exact upd_same⟩
    · rw [upd_ne ha] at q
      obtain ⟨o', e'⟩ := k.dom a u q
      exact ⟨o', by rw [upd_ne ha]; exact e'⟩
/-- kept but for the list that is collected -/
def KeepX (D0 : Addr) (ρ : List Addr) (H : Hp) (ρ' : List Addr) (H' : Hp) : Prop := ∃ ys, H' D0 = some (.lst ys) ∧ Keep ρ (upd H D0 (.lst ys)) ρ' H'
theorem KeepX.of {xs : List V} (k : Keep ρ H ρ' H') (h : H D0 = some (.lst xs)) (hn : D0 ∉ ρ) : KeepX D0 ρ H ρ' H' := ⟨xs, k.keep _ _ h hn, by rw [upd_id h]; exact k⟩
theorem KeepX.trans {ρ2 : List Addr} {H2 : Hp} (k : KeepX D0 ρ H ρ' H') (l : Keep ρ' H' ρ2 H2) (hn : D0 ∉ ρ') : KeepX D0 ρ H ρ2 H2 := by
  obtain ⟨ys, h, k⟩ := k
  exact ⟨ys, l.keep _ _ h hn, k.trans l⟩
theorem KeepX.wr {os : List V} (k : KeepX D0 ρ H ρ' H') : KeepX D0 ρ H ρ' (upd H' D0 (.lst os)) := by
  obtain ⟨ys, h, k⟩ := k
  refine ⟨os, upd_same, ?_⟩
  have := Keep.both (os := os) k upd_same h
  rwa [upd_upd] at this
theorem KeepX.stab {g : Grd} {S : ZP} {xs : List V} {μ' : Mem} (k : KeepX D0 ρ H ρ' H') (st : Stable K g S) (h : H D0 = some (.lst xs)) (hz : D0 ∈ z) (hn : D0 ∉ ρ) (s : S z ρ H) (r : Rel ⟨K, z⟩ H' ρ' μ') (og : okG g μ' = true) : S z ρ' H' := by
  obtain ⟨ys, _, k⟩ := k
  exact st.1 _ _ _ _ _ _ (st.2 _ _ _ _ _ s (.wr hz hn h)) k r og
theorem KeepX.env {σ : L2.St} {env : EnvD} {xs : List V} (k : KeepX D0 ρ H ρ' H') (h : H D0 = some (.lst xs)) (hz : D0 ∈ z) (hn : D0 ∉ ρ) (er : EnvRel ⟨K, z⟩ H ρ σ env) : EnvRel ⟨K, z⟩ H' ρ' σ env := by
  obtain ⟨ys, _, k⟩ := k
  exact (er.veil (.wr hz hn h)).mono k
end
theorem drop_cons {α : Type} {l : List α} {i : Nat} {x : α} {xs : List α} (h : l.drop i = x :: xs) : i < l.length ∧ l[i]? = some x ∧ l.drop (i + 1) = xs := by
  refine ⟨?_, ?_, ?_⟩
  · rcases Nat.lt_or_ge i l.length with q | q
    · exact q
    · rw [List.drop_eq_nil_iff.mpr q] at h; cases h
  · have : (l.drop i)[0]? = some x := by rw [h]; rfl
    rw [List.getElem?_drop] at this
    simpa using this
  · have : (l.drop i).drop 1 = xs := by rw [h]; rfl
    rwa [List.drop_drop] at this
theorem lc2_ok {K : PySem.W.Frag} {W : L2.St → WD} {mu : Bool} {own own1 : List Nat} {tg tg1 : Tg} {it it1 : PV.It} {c c1 : Eo} {e : E} (hown : ∀ i ∈ tg.sl, i ∈ own) (hown1 : ∀ i ∈ tg1.sl, i ∈ own1) {σ : L2.St} {H : Hp} {Q : VK}
    (h : tD K W (denE (.comp2 mu own own1 tg it c tg1 it1 c1 e)) σ H Q) : tLc2 (tI K W (denIt it)) (tT K (denTg tg) tg.sl) (tDb K NW (denC c)) (tI K NW (denIt it1)) (tT K (denTg tg1) tg1.sl) (tDb K NW (denC c1)) (tD K NW (denE e)) own own1 σ H Q := by
  obtain ⟨z, ρ, μ, env, r, er, p⟩ := h
  unfold denE at p
  refine ⟨z, ρ, μ, env, r, er, p.then fun pp J ρ0 μ0 H1 k0 r0 w0 p1 => ?_⟩
  intro D0 hD
  obtain ⟨hlen, S, s0, stS, hgo, hstop⟩ := w0
  have er0 := (er.mono k0).wipe own
  have hz : D0 ∉ z := fun m => by
    obtain ⟨_, vs, q⟩ := r0.hid D0 m
    rw [hD] at q; cases q
  have V0 : Veil z ρ0 H1 (D0 :: z) (upd H1 D0 (.lst [])) := .new hD
  have mz : D0 ∈ D0 :: z := List.mem_cons_self
  generalize hf1 : (fun (env1 : EnvD) (y : D) (μ : Mem) => (denTg tg1 y (wipeD env1 own1) μ).bind fun env2 μ5 => (denC c1 env2 μ5).bind fun b1 μ6 => if b1 then (denE e env2 μ6).bind fun y μ7 => Out.ok [y] μ7 else .ok [] μ6) = f1
  have hf1' : ∀ env1 y μ, f1 env1 y μ = (denTg tg1 y (wipeD env1 own1) μ).bind fun env2 μ5 => (denC c1 env2 μ5).bind fun b1 μ6 => if b1 then (denE e env2 μ6).bind fun y μ7 => Out.ok [y] μ7 else .ok [] μ6 := fun env1 y μ => by rw [← hf1]
  generalize hf : (fun (x : D) (μ : Mem) => (denTg tg x (wipeD env own) μ).bind fun env1 μ2 => (denC c env1 μ2).bind fun b μ3 => if b then (denIt it1 env1 μ3).bind fun q μ4 => compL q.2 (f1 env1) q.1 μ4 else Out.ok [] μ3) = f
  have hf' : ∀ x μ, f x μ = (denTg tg x (wipeD env own) μ).bind fun env1 μ2 => (denC c env1 μ2).bind fun b μ3 => if b then (denIt it1 env1 μ3).bind fun q μ4 => compL q.2 (f1 env1) q.1 μ4 else Out.ok [] μ3 := fun x μ => by rw [← hf]
  let fin : List D → Mem → Out D := fun ds μ => if ds.length ≤ lim then newList mu ds μ else .bad
  have p1 : Post ⟨K, z⟩ (W σ) (RD ⟨K, z⟩) ρ0 H1 ((compL pp.2 f pp.1 μ0).bind fin) Q := by rw [← hf, ← hf1]; exact p1
  -- behind a turn: what was collected, then the rest
  let rest : List D → List D → Mem → Out D := fun xs ds μ1 => (compL pp.2 f xs μ1).bind fun r μ2 => fin (ds ++ r) μ2
  have small : ∀ {xs ds μ1}, Post ⟨K, z⟩ (W σ) (RD ⟨K, z⟩) ρ0 H1 (rest xs ds μ1) Q → ds.length ≤ lim := fun {xs ds μ1} q => by
    cases ec : compL pp.2 f xs μ1 with
    | ok r μ2 =>
      have q : Post ⟨K, z⟩ (W σ) (RD ⟨K, z⟩) ρ0 H1 (if (ds ++ r).length ≤ lim then newList mu (ds ++ r) μ2 else .bad) Q := by
        have q := q
        simp only [rest, ec, bind_ok] at q
        exact q
      split at q
      · rename_i hl
        rw [List.length_append] at hl; omega
      · exact q.elim
    | err c' fs μ2 =>
      exfalso
      have : ∀ (xs : List D) (μ : Mem) c' fs μ2, compL pp.2 f xs μ ≠ .err c' fs μ2 := fun xs => by
        intro μ c' fs μ2 hh
        cases xs with
        | nil => rw [compL_nil] at hh; split at hh <;> cases hh
        | cons x xs =>
          rw [compL_cons] at hh
          split at hh
          · cases ea : f x μ with
            | ok l μ3 =>
              rw [ea] at hh
              have hh : ((compL pp.2 f xs μ3).only fun r μ2 => Out.ok (l ++ r) μ2) = .err c' fs μ2 := hh
              cases eb : compL pp.2 f xs μ3 <;> rw [eb] at hh <;> cases hh
            | err _ _ _ => rw [ea] at hh; cases hh
            | bad => rw [ea] at hh; cases hh
          · cases hh
      exact this _ _ _ _ _ ec
    | bad => simp only [rest, ec, bind_bad] at q; exact q.elim
  let Iv : Nat → Hp → Prop := fun i H => ∃ ρ' μ' ds acc, i ≤ pp.1.length ∧ Keep ρ0 H1 ρ' H ∧ Rel ⟨K, D0 :: z⟩ H ρ' μ' ∧ EnvRel ⟨K, D0 :: z⟩ H ρ' (L2.wipe σ own) (wipeD env own) ∧ (okG pp.2 μ' = true → S (D0 :: z) ρ' H) ∧ H D0 = some (.lst acc) ∧
    RepL ⟨K, D0 :: z⟩ H ρ' ds acc ∧ Post ⟨K, z⟩ (W σ) (RD ⟨K, z⟩) ρ0 H1 (rest (pp.1.drop i) ds μ') Q
  refine ⟨fun i m H => m = pp.1.length - i ∧ Iv i H, ⟨_, rfl, ρ0, μ0, [], [], Nat.zero_le _, Keep.off Keep.refl hD, r0.veil V0, er0.veil V0, fun _ => stS.2 _ _ _ _ _ s0 V0, upd_same, rfl, p1⟩, fun i m H ⟨hm, ρ', μ', ds, acc, hi, k, r1, er1, s1, hD1, q1, p2⟩ => ?_⟩
  cases hd : pp.1.drop i with
  | nil =>
    have hi' : i = pp.1.length := by
      have := List.drop_eq_nil_iff.mp hd
      omega
    rw [hd] at p2
    have hs := small p2
    have p2 : Post ⟨K, z⟩ (W σ) (RD ⟨K, z⟩) ρ0 H1 ((if okG pp.2 μ' then .ok [] μ' else .bad : Out (List D)).bind fun r μ2 => fin (ds ++ r) μ2) Q := p2
    cases og : okG pp.2 μ' with
    | false => rw [og, if_neg Bool.false_ne_true] at p2; exact p2.elim
    | true =>
      rw [og, if_pos rfl] at p2
      refine .inl ⟨by rw [hi']; exact hstop _ _ _ _ (s1 og) r1, ?_⟩
      have p3 : Post ⟨K, z⟩ (W σ) (RD ⟨K, z⟩) ρ0 H1 (fin (ds ++ []) μ') Q := p2
      rw [List.append_nil] at p3
      have p3 : Post ⟨K, z⟩ (W σ) (RD ⟨K, z⟩) ρ0 H1 (if ds.length ≤ lim then newList mu ds μ' else .bad) Q := p3
      rw [if_pos hs] at p3
      exact show_list k hD hz r1 hD1 (q1.bound hs) q1 p3
  | cons x xs =>
    obtain ⟨hlt, hx, hxs⟩ := drop_cons hd
    rw [hd] at p2
    have p2 : Post ⟨K, z⟩ (W σ) (RD ⟨K, z⟩) ρ0 H1 (if okG pp.2 μ' then (f x μ').only fun l μ1 => rest xs (ds ++ l) μ1 else .bad) Q := by
      have e : rest (x :: xs) ds μ' = if okG pp.2 μ' then (f x μ').only fun l μ1 => rest xs (ds ++ l) μ1 else .bad := by
        show (compL pp.2 f (x :: xs) μ').bind (fun r μ2 => fin (ds ++ r) μ2) = _
        rw [compL_cons]
        split
        · rw [only_bind]
          cases f x μ' with
          | ok l μ1 =>
            show ((compL pp.2 f xs μ1).only fun r μ2 => Out.ok (l ++ r) μ2).bind (fun r μ2 => fin (ds ++ r) μ2) = (compL pp.2 f xs μ1).bind fun r μ2 => fin (ds ++ l ++ r) μ2
            rw [only_bind]
            cases ec : compL pp.2 f xs μ1 with
            | ok r μ2 =>
              show fin (ds ++ (l ++ r)) μ2 = fin (ds ++ l ++ r) μ2
              rw [List.append_assoc]
            | err c' fs μ2 =>
              exfalso
              cases xs with
              | nil => rw [compL_nil] at ec; split at ec <;> cases ec
              | cons x2 xs =>
                rw [compL_cons] at ec
                split at ec
                · cases ea : f x2 μ1 with
                  | ok l μ3 =>
                    rw [ea] at ec
                    have ec : ((compL pp.2 f xs μ3).only fun r μ2 => Out.ok (l ++ r) μ2) = .err c' fs μ2 := ec
                    cases eb : compL pp.2 f xs μ3 <;> rw [eb] at ec <;> cases ec
                  | err _ _ _ => rw [ea] at ec; cases ec
                  | bad => rw [ea] at ec; cases ec
                · cases ec
            | bad => rfl
          | err _ _ _ => rfl
          | bad => rfl
        · rfl
      rw [← e]; exact p2
    cases og : okG pp.2 μ' with
    | false => rw [og, if_neg Bool.false_ne_true] at p2; exact p2.elim
    | true =>
      rw [og, if_pos rfl] at p2
      obtain ⟨g1, g2⟩ := hgo _ _ _ _ _ _ (s1 og) r1 og hx
      refine .inr ⟨g1, Iv (i + 1), fun H' q => ⟨_, by omega, rfl, q⟩, fun x' H' y => ?_⟩
      obtain ⟨k2, r2, qx, s2⟩ := g2 x' H' y
      have n1 : D0 ∉ ρ' := (r1.hid D0 mz).1
      obtain ⟨l, μE, el, pE⟩ := p2.onlyE
      rw [hf'] at el
      -- the turn's end
      have turn : ∀ {ρ2 H2 μ2 es acc2}, KeepX D0 ρ' H ρ2 H2 → Keep ρ0 H1 ρ2 H2 → Rel ⟨K, D0 :: z⟩ H2 ρ2 μ2 → H2 D0 = some (.lst acc2) → RepL ⟨K, D0 :: z⟩ H2 ρ2 (ds ++ es) acc2 → Post ⟨K, z⟩ (W σ) (RD ⟨K, z⟩) ρ0 H1 (rest xs (ds ++ es) μ2) Q → Iv (i + 1) H2 :=
        fun {ρ2 H2 μ2 es acc2} kx k3 r3 h3 q3 p3 => ⟨ρ2, μ2, _, acc2, by omega, k3, r3, kx.env hD1 mz n1 er1, fun og2 => kx.stab stS hD1 mz n1 (s1 og) r3 og2, h3, q3, by rw [hxs]; exact p3⟩
      refine ⟨D0 :: z, ρ', μ', wipeD env own, x, r2, er1.mono k2, qx, ?_⟩
      cases e1 : denTg tg x (wipeD env own) μ' with
      | err c' fs μ2 => rw [e1] at el; cases el
      | bad => rw [e1] at el; cases el
      | ok env1 μ2 =>
        rw [e1] at el
        simp only [bind_ok] at el
        intro ρ2 H2 σ2 k3 r3 ⟨er3, on⟩
        refine ⟨on.wipe hown, D0 :: z, ρ2, μ2, env1, r3, er3, ?_⟩
        cases e2 : denC c env1 μ2 with
        | err c' fs μ3 => rw [e2] at el; cases el
        | bad => rw [e2] at el; cases el
        | ok b μ3 =>
          rw [e2] at el
          simp only [bind_ok] at el
          intro ρ3 H3 b' k4 r4 q4
          cases q4
          have k24 := k2.trans (k3.trans k4)
          have hD3 := k24.keep _ _ hD1 n1
          cases b with
          | false =>
            rw [if_neg Bool.false_ne_true] at el ⊢
            cases el
            exact turn (es := []) (.of k24 hD1 n1) (k.trans k24) r4 hD3 (by rw [List.append_nil]; exact RepL.mono k24 _ _ q1) pE
          | true =>
            rw [if_pos rfl] at el ⊢
            refine ⟨D0 :: z, ρ3, μ3, env1, r4, er3.mono k4, ?_⟩
            cases e3 : denIt it1 env1 μ3 with
            | err c' fs μ4 => rw [e3] at el; cases el
            | bad => rw [e3] at el; cases el
            | ok qq μ4 =>
              rw [e3] at el
              simp only [bind_ok] at el
              intro ρ4 H4 J1 k5 r5 w5
              obtain ⟨hlen1, S1, s5, stS1, hgo1, hstop1⟩ := w5
              have k25 := k24.trans k5
              have hD4 := k25.keep _ _ hD1 n1
              have n4 : D0 ∉ ρ4 := (r5.hid D0 mz).1
              have erI := ((er3.mono k4).mono k5).wipe own1
              -- the inner turns
              let Iw : Nat → Hp → Prop := fun j H5 => ∃ ρ5 μ5 es acc5, j ≤ qq.1.length ∧ KeepX D0 ρ' H ρ5 H5 ∧ KeepX D0 ρ4 H4 ρ5 H5 ∧ Keep ρ0 H1 ρ5 H5 ∧ Rel ⟨K, D0 :: z⟩ H5 ρ5 μ5 ∧ (okG qq.2 μ5 = true → S1 (D0 :: z) ρ5 H5) ∧ H5 D0 = some (.lst acc5) ∧ RepL ⟨K, D0 :: z⟩ H5 ρ5 (ds ++ es) acc5 ∧
                ∃ l2 μ6, compL qq.2 (f1 env1) (qq.1.drop j) μ5 = .ok l2 μ6 ∧ Post ⟨K, z⟩ (W σ) (RD ⟨K, z⟩) ρ0 H1 (rest xs (ds ++ (es ++ l2)) μ6) Q
              refine ⟨fun j m H5 => m = qq.1.length - j ∧ Iw j H5, ⟨_, rfl, ρ4, μ4, [], acc, Nat.zero_le _, .of k25 hD1 n1, .of Keep.refl hD4 n4, k.trans k25, r5, fun _ => s5, hD4, by rw [List.append_nil]; exact RepL.mono k25 _ _ q1, l, μE, el, pE⟩, fun j m H5 ⟨hm5, ρ5, μ5, es, acc5, hj, kx, ky, k6, r6, s6, hD5, q6, l2, μ6, el2, pI⟩ => ?_⟩
              have n5 : D0 ∉ ρ5 := (r6.hid D0 mz).1
              cases hdj : qq.1.drop j with
              | nil =>
                rw [hdj, compL_nil] at el2
                cases og1 : okG qq.2 μ5 with
                | false => rw [og1, if_neg Bool.false_ne_true] at el2; cases el2
                | true =>
                  rw [og1, if_pos rfl] at el2
                  cases el2
                  have hj' : j = qq.1.length := by
                    have := List.drop_eq_nil_iff.mp hdj
                    omega
                  rw [List.append_nil] at pI
                  exact .inl ⟨by rw [hj']; exact hstop1 _ _ _ _ (s6 og1) r6, turn kx k6 r6 hD5 q6 pI⟩
              | cons y0 ys =>
                obtain ⟨hltj, hyj, hys⟩ := drop_cons hdj
                rw [hdj, compL_cons] at el2
                cases og1 : okG qq.2 μ5 with
                | false => rw [og1, if_neg Bool.false_ne_true] at el2; cases el2
                | true =>
                  rw [og1, if_pos rfl] at el2
                  obtain ⟨go1, go2⟩ := hgo1 _ _ _ _ _ _ (s6 og1) r6 og1 hyj
                  refine .inr ⟨go1, Iw (j + 1), fun H' q => ⟨_, by omega, rfl, q⟩, fun y' H6 yy => ?_⟩
                  obtain ⟨k7, r7, qy, s7⟩ := go2 y' H6 yy
                  cases ef : f1 env1 y0 μ5 with
                  | err c' fs μ7 => rw [ef] at el2; cases el2
                  | bad => rw [ef] at el2; cases el2
                  | ok la μ7 =>
                    rw [ef] at el2
                    cases ec : compL qq.2 (f1 env1) ys μ7 with
                    | err c' fs μ8 => simp only [Out.only, ec] at el2; cases el2
                    | bad => simp only [Out.only, ec] at el2; cases el2
                    | ok lb μ8 =>
                      simp only [Out.only, ec] at el2
                      cases el2
                      rw [← List.append_assoc es la lb] at pI
                      rw [hf1'] at ef
                      -- the inner turn's end
                      have turn1 : ∀ {ρ9 H9 us}, Keep ρ5 H5 ρ9 H9 → Rel ⟨K, D0 :: z⟩ H9 ρ9 μ7 → RepL ⟨K, D0 :: z⟩ H9 ρ9 la us → Iw (j + 1) (upd H9 D0 (.lst (acc5 ++ us))) := fun {ρ9 H9 us} k9 r9 q9 => by
                        have hD9 := k9.keep _ _ hD5 n5
                        have n9 : D0 ∉ ρ9 := (r9.hid D0 mz).1
                        have V : Veil (D0 :: z) ρ9 H9 (D0 :: z) (upd H9 D0 (.lst (acc5 ++ us))) := .wr mz n9 hD9
                        have kyy := (ky.trans k9 n5).wr (os := acc5 ++ us)
                        refine ⟨ρ9, μ7, es ++ la, acc5 ++ us, by omega, (kx.trans k9 n5).wr, kyy, (k6.trans k9).off hD, r9.veil V, fun og9 => kyy.stab stS1 hD4 mz n4 s5 (r9.veil V) og9, upd_same, ?_, lb, _, by rw [hys]; exact ec, pI⟩
                        rw [← List.append_assoc]
                        exact RepL.veil V _ _ (RepL.append (RepL.mono k9 _ _ q6) q9)
                      refine ⟨D0 :: z, ρ5, μ5, wipeD env1 own1, y0, r7, (ky.env hD4 mz n4 erI).mono k7, qy, ?_⟩
                      cases e4 : denTg tg1 y0 (wipeD env1 own1) μ5 with
                      | err c' fs μ2 => rw [e4] at ef; cases ef
                      | bad => rw [e4] at ef; cases ef
                      | ok env2 μ9 =>
                        rw [e4] at ef
                        simp only [bind_ok] at ef
                        intro ρ9 H9 σ3 k8 r8 ⟨er8, on1⟩
                        refine ⟨on1.wipe hown1, D0 :: z, ρ9, μ9, env2, r8, er8, ?_⟩
                        cases e5 : denC c1 env2 μ9 with
                        | err c' fs μ3 => rw [e5] at ef; cases ef
                        | bad => rw [e5] at ef; cases ef
                        | ok b1 μ10 =>
                          rw [e5] at ef
                          simp only [bind_ok] at ef
                          intro ρ10 H10 b2 k10 r10 q10
                          cases q10
                          have k78 := k7.trans (k8.trans k10)
                          cases b1 with
                          | false =>
                            rw [if_neg Bool.false_ne_true] at ef ⊢
                            cases ef
                            have q := turn1 (us := []) k78 r10 rfl
                            rw [List.append_nil, upd_id (k78.keep _ _ hD5 n5)] at q
                            exact q
                          | true =>
                            rw [if_pos rfl] at ef ⊢
                            refine ⟨D0 :: z, ρ10, μ10, env2, r10, er8.mono k10, ?_⟩
                            cases e6 : denE e env2 μ10 with
                            | err c' fs μ3 => rw [e6] at ef; cases ef
                            | bad => rw [e6] at ef; cases ef
                            | ok yv μ11 =>
                              rw [e6] at ef
                              simp only [bind_ok] at ef
                              cases ef
                              intro ρ11 H11 yv' k11 r11 q11
                              have k79 := k78.trans k11
                              have hs := small pI
                              refine ⟨acc5, k79.keep _ _ hD5 n5, ?_, turn1 (us := [yv']) k79 r11 (RepL.one q11)⟩
                              have hl5 := q6.len
                              simp only [List.length_append, List.length_cons, List.length_nil] at hs hl5
                              rw [lim_eq]; omega
section
variable {X : Cx} {W : L2.St → WD} {pos : Pos}
theorem x_comp2 {mu : Bool} {own own1 : List (Str × Nat)} {elt tg iter tg1 iter1 : Expr} {ifs ifs1 : List Expr} {scope : Scope} {mt mt1 : Tg} {mi mi1 : PV.It} {mc mc1 : Eo} {me : E} (B : BOk X) (hN : X.N.Nodup) (ok : BlkOk X.N X.env.scope scope own) (hv : ∀ i ∈ own1.map (·.2), i ∈ own.map (·.2)) (hown : ∀ i ∈ mt.sl, i ∈ own.map (·.2)) (hown1 : ∀ i ∈ mt1.sl, i ∈ own1.map (·.2))
    (hi : PI X tg iter (tI X.K W (denIt mi))) (hg : Blk X scope fun Y => PG Y tg (tT X.K (denTg mt) mt.sl)) (ht : Blk X scope fun Y => PTs Y ifs (tDb X.K NW (denC mc))) (hi1 : Blk X scope fun Y => PI Y tg1 iter1 (tI X.K NW (denIt mi1))) (hg1 : Blk X scope fun Y => PG Y tg1 (tT X.K (denTg mt1) mt1.sl))
    (ht1 : Blk X scope fun Y => PTs Y ifs1 (tDb X.K NW (denC mc1))) (he : Blk X scope fun Y => PE Y elt (tD X.K NW (denE me))) (hs : ∀ x, foldedSetIterable iter X.env x = pure x := by intro _; rfl) (hs1 : ∀ env x, foldedSetIterable iter1 env x = pure x := by intro _ _; rfl) :
    PE X (.ListComp elt [⟨tg, iter, ifs, 0⟩, ⟨tg1, iter1, ifs1, 0⟩] scope pos) (tD X.K W (denE (.comp2 mu (own.map (·.2)) (own1.map (·.2)) mt mi mc mt1 mi1 mc1 me))) :=
  (pe_lc2 B.calm hN hi ok hv hg ht hi1 hg1 ht1 he hs hs1).imp fun σ H Q h => lc2_ok hown hown1 h
theorem s_comp2 {mu : Bool} {i : Nat} {y : Str} {py spos : Pos} {own own1 : List (Str × Nat)} {elt tg iter tg1 iter1 : Expr} {ifs ifs1 : List Expr} {scope : Scope} {mt mt1 : Tg} {mi mi1 : PV.It} {mc mc1 : Eo} {me : E} (B : BOk X) (hN : X.N.Nodup) (hy : X.N[i]? = some y) (hyl : X.env.scope.names.lookup y = some .local)
    (hsw : swapsWith (.ListComp elt [⟨tg, iter, ifs, 0⟩, ⟨tg1, iter1, ifs1, 0⟩] scope pos) (some (.Name y py)) spos.line X.env = pure true) (ok : BlkOk X.N X.env.scope scope own) (hv : ∀ i ∈ own1.map (·.2), i ∈ own.map (·.2)) (hown : ∀ i ∈ mt.sl, i ∈ own.map (·.2)) (hown1 : ∀ i ∈ mt1.sl, i ∈ own1.map (·.2))
    (hi : PI X tg iter (tI X.K W (denIt mi))) (hg : Blk X scope fun Y => PG Y tg (tT X.K (denTg mt) mt.sl)) (ht : Blk X scope fun Y => PTs Y ifs (tDb X.K NW (denC mc))) (hi1 : Blk X scope fun Y => PI Y tg1 iter1 (tI X.K NW (denIt mi1))) (hg1 : Blk X scope fun Y => PG Y tg1 (tT X.K (denTg mt1) mt1.sl))
    (ht1 : Blk X scope fun Y => PTs Y ifs1 (tDb X.K NW (denC mc1))) (he : Blk X scope fun Y => PE Y elt (tD X.K NW (denE me))) (hs : ∀ x, foldedSetIterable iter X.env x = pure x := by intro _; rfl) (hs1 : ∀ env x, foldedSetIterable iter1 env x = pure x := by intro _ _; rfl) :
    PS X (.Assign [.Name y py] (.ListComp elt [⟨tg, iter, ifs, 0⟩, ⟨tg1, iter1, ifs1, 0⟩] scope pos) spos) (tS X.K W (denS (.asg (.nm i) (.comp2 mu (own.map (·.2)) (own1.map (·.2)) mt mi mc mt1 mi1 mc1 me)))) := by
  refine (ps_setLc2 B.calm hN hy hyl hsw hi ok hv hg ht hi1 hg1 ht1 he hs hs1).imp fun D σ H ⟨z, ρ, μ, env, r, er, p⟩ => lc2_ok (mu := mu) hown hown1 ⟨z, ρ, μ, env, r, er, ?_⟩
  unfold denS at p
  refine Post.ofS er p fun d v ρ1 μ1 H1 k1 r1 q1 p1 => ?_
  unfold denTg at p1
  exact p1 ρ1 H1 _ Keep.refl r1 ((er.mono k1).set i q1)
end
end PV

set_option maxRecDepth 100000
set_option maxHeartbeats 4000000
namespace PV
open PySem PySem.Spec PyProof.Rows L2
/-! ## plain laws: what the small language computes -/
theorem run_ret {F : Fn} {args : List D} {μ : Mem} {d : D} (h : args.length = F.ps.length) (hb : denSs F.body (args.map some ++ List.replicate (F.N.length - args.length) none) μ = .ok (.rt d) μ) : runFn F args μ = .ok d μ := by
  unfold runFn
  rw [if_pos h, hb]
  show finish μ.length d μ = _
  unfold finish
  rw [if_pos (Nat.le_refl _)]
theorem run_retM {F : Fn} {args : List D} {μ μ1 : Mem} {d : D} (h : args.length = F.ps.length) (hb : denSs F.body (args.map some ++ List.replicate (F.N.length - args.length) none) μ = .ok (.rt d) μ1) : runFn F args μ = finish μ.length d μ1 := by
  unfold runFn
  rw [if_pos h, hb]
theorem finish_same {n : Nat} {d : D} {μ : Mem} (h : μ.length = n) : finish n d μ = .ok d μ := by
  unfold finish
  rw [if_pos (by omega)]
theorem ss_nx {s : S} {ss : Ss} {env e1 : EnvD} {μ μ1 : Mem} {r : OutS} (h : denS s env μ = .ok (.nx e1) μ1) (g : denSs ss e1 μ1 = r) : denSs (.cons s ss) env μ = r := by
  unfold denSs; rw [h]; exact g
theorem ss_rt {s : S} {ss : Ss} {env : EnvD} {μ μ1 : Mem} {d : D} (h : denS s env μ = .ok (.rt d) μ1) : denSs (.cons s ss) env μ = .ok (.rt d) μ1 := by
  unfold denSs; rw [h]; rfl
/-! ### tests, branches -/
section
variable {a b c e : E} {env : EnvD} {μ μ1 : Mem} {x y d : D} {t u : Bool} {ss ss' : Ss} {op : CmpOp}
theorem dB_cmp (ha : denE a env μ = .ok x μ) (hb : denE b env μ = .ok y μ) (h : cmpM op x y μ = some t) : denB (.cmp op a b) env μ = .ok t μ := by
  simp only [denB, denE, ha, hb, bind_ok, cmpD, h, ofOpt, truO, truM]
theorem dE_cmp (ha : denE a env μ = .ok x μ) (hb : denE b env μ = .ok y μ) (h : cmpM op x y μ = some t) : denE (.cmp op a b) env μ = .ok (.bl t) μ := by
  simp only [denE, ha, hb, bind_ok, cmpD, h, ofOpt]
theorem dB_val (ha : denE a env μ = .ok x μ) (h : truM x μ = some t) : denB a env μ = .ok t μ := by
  simp only [denB, ha, bind_ok, truO, h]
theorem dB_not (ha : denB a env μ = .ok t μ) : denB (.not a) env μ = .ok (!t) μ := by
  simp only [denB, denE] at ha ⊢
  cases e1 : denE a env μ with
  | ok z μ2 =>
    rw [e1] at ha
    simp only [bind_ok, truO] at ha ⊢
    cases e2 : truM z μ2 with
    | none => rw [e2] at ha; cases ha
    | some w => rw [e2] at ha; cases ha; rfl
  | err _ _ _ => rw [e1] at ha; cases ha
  | bad => rw [e1] at ha; cases ha
theorem dB_and (ha : denB a env μ = .ok t μ) (hb : t = true → denB b env μ = .ok u μ) : denB (.and a b) env μ = .ok (t && u) μ := by
  simp only [denB, denE] at ha hb ⊢
  cases e1 : denE a env μ with
  | ok z μ2 =>
    rw [e1] at ha
    simp only [bind_ok, truO] at ha ⊢
    cases e2 : truM z μ2 with
    | none => rw [e2] at ha; cases ha
    | some w =>
      rw [e2] at ha
      cases ha
      cases t with
      | false => simp [e2]
      | true => exact hb rfl
  | err _ _ _ => rw [e1] at ha; cases ha
  | bad => rw [e1] at ha; cases ha
theorem dB_or (ha : denB a env μ = .ok t μ) (hb : t = false → denB b env μ = .ok u μ) : denB (.or a b) env μ = .ok (t || u) μ := by
  simp only [denB, denE] at ha hb ⊢
  cases e1 : denE a env μ with
  | ok z μ2 =>
    rw [e1] at ha
    simp only [bind_ok, truO] at ha ⊢
    cases e2 : truM z μ2 with
    | none => rw [e2] at ha; cases ha
    | some w =>
      rw [e2] at ha
      cases ha
      cases t with
      | true => simp [e2]
      | false => exact hb rfl
  | err _ _ _ => rw [e1] at ha; cases ha
  | bad => rw [e1] at ha; cases ha
theorem dE_ife (hc : denB c env μ = .ok t μ1) : denE (.ife c a b) env μ = if t then denE a env μ1 else denE b env μ1 := by
  simp only [denB, denE] at hc ⊢
  cases e1 : denE c env μ with
  | ok z μ2 =>
    rw [e1] at hc
    simp only [bind_ok, truO] at hc ⊢
    cases e2 : truM z μ2 with
    | none => rw [e2] at hc; cases hc
    | some w => rw [e2] at hc; cases hc; cases t <;> rfl
  | err _ _ _ => rw [e1] at hc; cases hc
  | bad => rw [e1] at hc; cases hc
theorem ss_ret (h : denE e env μ = .ok x μ1) : denSs (.cons (.ret e) ss) env μ = .ok (.rt x) μ1 := by
  simp only [denSs, denS, h, toS_ok, seqD]
theorem ss_ifR (h : denB c env μ = .ok t μ1) (hx : t = true → denE e env μ1 = .ok x μ1) : denSs (.cons (.ife c (.cons (.ret e) .nil) .nil) ss) env μ = if t then .ok (.rt x) μ1 else denSs ss env μ1 := by
  cases t with
  | false => simp [denSs, denS, h, seqD]
  | true => simp [denSs, denS, h, seqD, hx rfl]
theorem ss_if {a b : Ss} (h : denB c env μ = .ok t μ1) : denSs (.cons (.ife c a b) ss) env μ = seqD (if t then denSs a env μ1 else denSs b env μ1) (denSs ss) := by
  simp only [denSs, denS, h, toS_ok]
theorem seq_nx {f : EnvD → Mem → OutS} : seqD (.ok (.nx env) μ) f = f env μ := rfl
theorem seq_rt {f : EnvD → Mem → OutS} : seqD (.ok (.rt x) μ) f = .ok (.rt x) μ := rfl
theorem ss_end : denSs .nil env μ = .ok (.nx env) μ := by simp only [denSs]
theorem dE_call {n : Str} {ps : List Str} {g : G} {es : Es} {ds : List D} {o : Out D} (h : denEs es env μ = .ok ds μ1) (hg : g ds μ1 = o) : denE (.call n ps g es) env μ = o := by simp only [denE, h, bind_ok, hg]
theorem dEs_nil : denEs .nil env μ = .ok [] μ := by simp only [denEs]
theorem dEs_cons {es : Es} {ds : List D} {μ2 : Mem} (h : denE e env μ = .ok x μ1) (hs : denEs es env μ1 = .ok ds μ2) : denEs (.cons e es) env μ = .ok (x :: ds) μ2 := by simp only [denEs, h, hs, bind_ok]
theorem ss_asg {i : Nat} (h : denE e env μ = .ok x μ1) : denSs (.cons (.asg (.nm i) e) ss) env μ = denSs ss (env.set i (some x)) μ1 := by
  simp only [denSs, denS, h, toS_ok, denTg, asgD, seqD]
theorem dE_var {i : Nat} (h : env[i]? = some (some x)) : denE (.var i) env μ = .ok x μ := by simp only [denE, h]
theorem dE_cst : denE (.cst x) env μ = .ok x μ := by simp only [denE]
end
/-! ### arithmetic -/
theorem add_int {mu : Bool} {a b : Int} {μ : Mem} : binD mu .Add (.int a) (.int b) μ = .ok (.int (a + b)) μ := rfl
theorem sub_int {mu : Bool} {a b : Int} {μ : Mem} : binD mu .Sub (.int a) (.int b) μ = .ok (.int (a - b)) μ := rfl
theorem mul_int {mu : Bool} {a b : Int} {μ : Mem} (h : a.natAbs.log2 + b.natAbs.log2 < 1000000) : binD mu .Mult (.int a) (.int b) μ = .ok (.int (a * b)) μ := if_pos h
theorem mod_int {mu : Bool} {a b : Int} {μ : Mem} (h : 0 < b) : binD mu .Mod (.int a) (.int b) μ = .ok (.int (a % b)) μ := if_pos h
theorem div_int {mu : Bool} {a b : Int} {μ : Mem} (h : 0 < b) (hl : b.natAbs.log2 < 9000) : binD mu .FloorDiv (.int a) (.int b) μ = .ok (.int (a / b)) μ := (if_pos hl).trans (if_pos h)
theorem int_int {mu : Bool} {a : Int} {μ : Mem} : bltD .int mu [.int a] μ = .ok (.int a) μ := rfl
theorem abs_int {mu : Bool} {a : Int} {μ : Mem} : bltD .abs mu [.int a] μ = .ok (.int (if a < 0 then -a else a)) μ := rfl
/-! ### loops -/
theorem for_eq {tg : Tg} {it : PV.It} {b : Ss} {env : EnvD} {μ μ1 : Mem} {p : List D × Grd} (h : denIt it env μ = .ok p μ1) : denS (.fore tg it b) env μ = forL p.2 (fun x env μ => stepD (denTg tg x env μ) (denSs b)) p.1 env μ1 := by
  unfold denS; rw [h]; rfl
theorem compL_pure {α : Type} {g : Grd} {f : D → Mem → Out (List D)} {e : α → D} {k : α → List D} {μ : Mem} (hg : okG g μ = true) : ∀ {xs : List α}, (∀ a ∈ xs, f (e a) μ = .ok (k a) μ) → compL g f (xs.map e) μ = .ok (xs.flatMap k) μ
  | [], _ => by rw [List.map_nil, compL_nil, if_pos hg]; rfl
  | a :: xs, h => by
    rw [List.map_cons, compL_cons, if_pos hg, h a List.mem_cons_self]
    show (compL g f (xs.map e) μ).only _ = _
    rw [compL_pure hg fun b hb => h b (List.mem_cons_of_mem _ hb)]
    rfl
theorem compL_map {α : Type} {g : Grd} {f : D → Mem → Out (List D)} {e : α → D} {k : α → D} {μ : Mem} {xs : List α} (hg : okG g μ = true) (h : ∀ a ∈ xs, f (e a) μ = .ok [k a] μ) : compL g f (xs.map e) μ = .ok (xs.map k) μ := by
  rw [compL_pure (k := fun a => [k a]) hg h]
  congr 1
  induction xs with
  | nil => rfl
  | cons a xs ih => rw [List.flatMap_cons, List.map_cons, ih fun b hb => h b (List.mem_cons_of_mem _ hb)]; rfl
/-- a comprehension that changes the memory: P holds between the turns -/
theorem compL_mem {α : Type} {g : Grd} {f : D → Mem → Out (List D)} {e : α → D} {P : Mem → Prop} {R : D → Prop} (hg : ∀ μ, P μ → okG g μ = true) : ∀ {xs : List α} {μ : Mem}, P μ → (∀ a ∈ xs, ∀ μ, P μ → ∃ d μ', f (e a) μ = .ok [d] μ' ∧ P μ' ∧ R d) → ∃ ds μ', compL g f (xs.map e) μ = .ok ds μ' ∧ P μ' ∧ (∀ d ∈ ds, R d) ∧ ds.length = xs.length
  | [], μ, hp, _ => ⟨[], μ, by rw [List.map_nil, compL_nil, if_pos (hg μ hp)], hp, by simp, rfl⟩
  | a :: xs, μ, hp, h => by
    obtain ⟨d, μ1, e1, p1, r1⟩ := h a List.mem_cons_self μ hp
    obtain ⟨ds, μ2, e2, p2, r2, l2⟩ := compL_mem hg p1 fun b hb => h b (List.mem_cons_of_mem _ hb)
    refine ⟨d :: ds, μ2, ?_, p2, fun c hc => ?_, by simp [l2]⟩
    · rw [List.map_cons, compL_cons, if_pos (hg μ hp), e1]
      show (compL g f (xs.map e) μ1).only _ = _
      rw [e2]; rfl
    · rcases List.mem_cons.mp hc with q | q
      · rw [q]; exact r1
      · exact r2 c q
/-- a loop whose turns go on: P holds between them -/
theorem forL_inv {α : Type} {g : Grd} {f : D → EnvD → Mem → OutS} {e : α → D} {P : List α → EnvD → Mem → Prop} (hg : ∀ xs env μ, P xs env μ → okG g μ = true) : ∀ {xs : List α} {env : EnvD} {μ : Mem}, P xs env μ →
    (∀ a xs env μ, P (a :: xs) env μ → ∃ env' μ', f (e a) env μ = .ok (.nx env') μ' ∧ P xs env' μ') → ∃ env' μ', forL g f (xs.map e) env μ = .ok (.nx env') μ' ∧ P [] env' μ'
  | [], env, μ, hp, _ => ⟨env, μ, by show (if okG g μ = true then _ else _) = _; rw [if_pos (hg _ _ _ hp)], hp⟩
  | a :: xs, env, μ, hp, h => by
    obtain ⟨env1, μ1, e1, p1⟩ := h a xs env μ hp
    obtain ⟨env2, μ2, e2, p2⟩ := forL_inv hg p1 h
    refine ⟨env2, μ2, ?_, p2⟩
    show (if okG g μ = true then _ else _) = _
    rw [if_pos (hg _ _ _ hp), e1]
    exact e2
/-- the same with a break -/
theorem forL_brk {α : Type} {g : Grd} {f : D → EnvD → Mem → OutS} {e : α → D} {P : List α → EnvD → Mem → Prop} {Q : EnvD → Mem → Prop} (hg : ∀ xs env μ, P xs env μ → okG g μ = true) (hq : ∀ env μ, P [] env μ → Q env μ) : ∀ {xs : List α} {env : EnvD} {μ : Mem}, P xs env μ →
    (∀ a xs env μ, P (a :: xs) env μ → ∃ env' μ', (f (e a) env μ = .ok (.nx env') μ' ∧ P xs env' μ') ∨ (f (e a) env μ = .ok (.bk env') μ' ∧ Q env' μ')) → ∃ env' μ', forL g f (xs.map e) env μ = .ok (.nx env') μ' ∧ Q env' μ'
  | [], env, μ, hp, _ => ⟨env, μ, by show (if okG g μ = true then _ else _) = _; rw [if_pos (hg _ _ _ hp)], hq _ _ hp⟩
  | a :: xs, env, μ, hp, h => by
    obtain ⟨env1, μ1, ⟨e1, p1⟩ | ⟨e1, q1⟩⟩ := h a xs env μ hp
    · obtain ⟨env2, μ2, e2, p2⟩ := forL_brk hg hq p1 h
      refine ⟨env2, μ2, ?_, p2⟩
      show (if okG g μ = true then _ else _) = _
      rw [if_pos (hg _ _ _ hp), e1]
      exact e2
    · refine ⟨env1, μ1, ?_, q1⟩
      show (if okG g μ = true then _ else _) = _
      rw [if_pos (hg _ _ _ hp), e1]
/-! ### data that can be shown -/
def ShB (B k n : Nat) (d : D) : Prop := ∃ p : PyData, (∀ f m, k ≤ m → toPDw f m d = some p) ∧ p.showable = true ∧ p.leavesShort B = true ∧ p.bulk ≤ n ∧ p.canLay0 = true
def ShL (B k n : Nat) (ds : List D) : Prop := ∃ ps : List PyData, (∀ f m, k ≤ m → toPDwL f m ds = some ps) ∧ PyData.showableAll ps = true ∧ PyData.leavesShortAll B ps = true ∧ PyData.bulkAll ps ≤ n ∧ PyData.canLayAll0 ps = true
section
variable {B k n : Nat}
theorem ShB.up {k' n' : Nat} {d : D} (h : ShB B k n d) (hk : k ≤ k') (hn : n ≤ n') : ShB B k' n' d := let ⟨p, h1, h2, h3, h4, h5⟩ := h; ⟨p, fun f m hm => h1 f m (Nat.le_trans hk hm), h2, h3, Nat.le_trans h4 hn, h5⟩
theorem sh_non : ShB B k n .non := ⟨.none, fun _ _ _ => by simp [toPDw], by simp [PyData.showable], by simp [PyData.leavesShort], by simp [PyData.bulk], by simp [PyData.canLay0]⟩
theorem sh_bl {b : Bool} : ShB B k n (.bl b) := ⟨.bool b, fun _ _ _ => by simp [toPDw], by simp [PyData.showable], by simp [PyData.leavesShort], by simp [PyData.bulk], by simp [PyData.canLay0]⟩
theorem sh_int {i : Int} (h1 : i.natAbs.log2 < 1920) (h2 : (PyData.int i).shown.length ≤ B) : ShB B k n (.int i) := ⟨.int i, fun _ _ _ => by simp [toPDw], by simpa [PyData.showable] using h1, by simpa [PyData.leavesShort] using h2, by simp [PyData.bulk], by simp [PyData.canLay0]⟩
theorem sh_str {x : Str} (h1 : PyData.strOk x = true) (h2 : (PyData.str x).leavesShort B = true) (h3 : x.cps.size ≤ n) : ShB B k n (.str x) := ⟨.str x, fun _ _ _ => by simp [toPDw, h1], by simp [PyData.showable], h2, by simpa [PyData.bulk] using h3, by simp [PyData.canLay0, h1]⟩
theorem shl_nil : ShL B k n [] := ⟨[], fun _ _ _ => by simp [toPDwL], by simp [PyData.showableAll], by simp [PyData.leavesShortAll], by simp [PyData.bulkAll], by simp [PyData.canLayAll0]⟩
theorem shl_cons {m : Nat} {d : D} {ds : List D} (h : ShB B k n d) (g : ShL B k m ds) : ShL B k (n + 1 + m) (d :: ds) := by
  obtain ⟨p, h1, h2, h3, h4, h5⟩ := h
  obtain ⟨ps, g1, g2, g3, g4, g5⟩ := g
  exact ⟨p :: ps, fun f i hi => by simp [toPDwL, h1 f i hi, g1 f i hi], by simp [PyData.showableAll, h2, g2], by simp [PyData.leavesShortAll, h3, g3], by simp only [PyData.bulkAll]; omega, by simp [PyData.canLayAll0, h5, g5]⟩
theorem shl_all {ds : List D} (h : ∀ d ∈ ds, ShB B k n d) : ShL B k ((n + 1) * ds.length) ds := by
  induction ds with
  | nil => exact shl_nil
  | cons d ds ih =>
    have := shl_cons (h d List.mem_cons_self) (ih fun e he => h e (List.mem_cons_of_mem _ he))
    obtain ⟨ps, g1, g2, g3, g4, g5⟩ := this
    refine ⟨ps, g1, g2, g3, ?_, g5⟩
    rw [List.length_cons, Nat.mul_succ]; omega
theorem ShL.up {n' : Nat} {ds : List D} (h : ShL B k n ds) (hn : n ≤ n') : ShL B k n' ds := let ⟨p, h1, h2, h3, h4, h5⟩ := h; ⟨p, h1, h2, h3, Nat.le_trans h4 hn, h5⟩
theorem sh_tup {ds : List D} (h : ShL B k n ds) : ShB B (k + 1) n (.tup ds) := by
  obtain ⟨ps, h1, h2, h3, h4, h5⟩ := h
  refine ⟨.tuple ps, fun f m hm => ?_, by simpa [PyData.showable] using h2, by simpa [PyData.leavesShort] using h3, by simpa [PyData.bulk] using h4, by simpa [PyData.canLay0] using h5⟩
  cases m with
  | zero => omega
  | succ m => simp [toPDw, h1 f m (by omega)]
theorem sh_lst {ds : List D} (h : ShL B k n ds) : ShB B (k + 1) n (.lst ds) := by
  obtain ⟨ps, h1, h2, h3, h4, h5⟩ := h
  refine ⟨.list ps, fun f m hm => ?_, by simpa [PyData.showable] using h2, by simpa [PyData.leavesShort] using h3, by simpa [PyData.bulk] using h4, by simpa [PyData.canLay0] using h5⟩
  cases m with
  | zero => omega
  | succ m => simp [toPDw, h1 f m (by omega)]
end
theorem ShB.repr {B k n : Nat} {d : D} (h : ShB B k n d) (hB : 8 ≤ B) (hk : k ≤ 60) (hn : (B + 2) * n + B ≤ lim) (μ : Mem) : ∃ p, toPD μ d = some p ∧ reprM d μ = some p.shown ∧ p.canLay0 = true := by
  obtain ⟨p, h1, h2, h3, h4, h5⟩ := h
  have e : toPD μ d = some p := h1 _ _ hk
  refine ⟨p, e, ?_, h5⟩
  have hl : p.shown.length ≤ lim := Nat.le_trans (PyData.shown_le_bulk B hB p h3) (Nat.le_trans (Nat.add_le_add_right (Nat.mul_le_mul_left _ h4) _) hn)
  unfold reprM
  rw [e]
  simp [h2, hl]
theorem ShB.eq {B k n : Nat} {d : D} (h : ShB B k n d) (hk : k ≤ 60) (μ : Mem) : eqM d d μ = some true := by
  obtain ⟨p, h1, h2, h3, h4, h5⟩ := h
  have e : toPD μ d = some p := h1 _ _ hk
  unfold eqM
  split
  · simp
  · simp
  · rw [e]
    simp [PySem.SeqAt.eqv_refl p h5]
/-- repr(told) == repr(due) and told == due -/
def FnSame : Fn := ⟨["told", "due"], ["told", "due"], .cons (.ret (.and (.cmp .Eq (.blt .repr false (.cons (.var 0) .nil)) (.blt .repr false (.cons (.var 1) .nil))) (.cmp .Eq (.var 0) (.var 1)))) .nil⟩
theorem same_ok {B k n : Nat} {d : D} {μ : Mem} (h : ShB B k n d) (hB : 8 ≤ B) (hk : k ≤ 60) (hn : (B + 2) * n + B ≤ lim) : runFn FnSame [d, d] μ = .ok (.bl true) μ := by
  obtain ⟨p, h1, h2, h3⟩ := h.repr hB hk hn μ
  refine run_ret rfl (ss_rt ?_)
  have e : eqM d d μ = some true := h.eq hk μ
  have e2 : eqM (.str p.shown) (.str p.shown) μ = some true := by simp [eqM]
  simp [denS, denE, denEs, bltD, h2, cmpD, cmpM, e, e2, ofOpt, truM]
/-! ### whole numbers in a row -/
abbrev T (ns : List Int) : D := .tup (ns.map D.int)
theorem toPDwL_ints {f : Nat → Nat → Option PyData} : ∀ (m : Nat) (ns : List Int), toPDwL f m (ns.map D.int) = some (ns.map PyData.int)
  | m, [] => by simp [toPDwL]
  | m, n :: ns => by simp [toPDwL, toPDw, toPDwL_ints m ns]
theorem toPD_T {μ : Mem} {ns : List Int} : toPD μ (T ns) = some (.tuple (ns.map PyData.int)) := by simp [toPD, toPDw, toPDwL_ints]
theorem eqvAll_ints : ∀ (ns ms : List Int), PyData.eqvAll (ns.map PyData.int) (ms.map PyData.int) = decide (ns = ms)
  | [], [] => by simp [PyData.eqvAll]
  | [], m :: ms => by simp [PyData.eqvAll]
  | n :: ns, [] => by simp [PyData.eqvAll]
  | n :: ns, m :: ms => by
    rw [List.map_cons, List.map_cons, PyData.eqvAll, eqvAll_ints ns ms]
    by_cases h : n = m <;> by_cases g : ns = ms <;> simp [PyData.eqv, h, g]
theorem eqM_T {μ : Mem} {ns ms : List Int} : eqM (T ns) (T ms) μ = some (decide (ns = ms)) := by
  show (match toPD μ (T ns) with | some a => (match toPD μ (T ms) with | some b => some (PyData.eqv a b) | none => none) | none => none) = _
  rw [toPD_T, toPD_T]
  simp only [PyData.eqv, eqvAll_ints]
abbrev Ls (ns : List Int) : D := .lst (ns.map D.int)
theorem toPD_Ls {μ : Mem} {ns : List Int} : toPD μ (Ls ns) = some (.list (ns.map PyData.int)) := by simp [toPD, toPDw, toPDwL_ints]
theorem eqM_Ls {μ : Mem} {ns ms : List Int} : eqM (Ls ns) (Ls ms) μ = some (decide (ns = ms)) := by
  show (match toPD μ (Ls ns) with | some a => (match toPD μ (Ls ms) with | some b => some (PyData.eqv a b) | none => none) | none => none) = _
  rw [toPD_Ls, toPD_Ls]
  simp only [PyData.eqv, eqvAll_ints]
theorem intsOf_ints : ∀ ns : List Int, intsOf (ns.map D.int) = some ns
  | [] => rfl
  | n :: ns => by rw [List.map_cons, intsOf, intsOf_ints ns]
theorem count_Ls {μ : Mem} {ns : List Int} {k : Int} : mthD .count (Ls ns) [.int k] μ = .ok (.int (ns.countP (· == k))) μ := by
  show (match asList (Ls ns) μ with | some ds => (match intsOf ds with | some ns => Out.ok (D.int (ns.countP (· == k))) μ | none => .bad) | none => .bad) = _
  simp only [asList, intsOf_ints]
theorem inM_T {μ : Mem} {a : Int} {ns : List Int} : inM (.int a) (T ns) μ = some (decide (a ∈ ns)) := by
  show (match toPD μ (.int a) with | some a => (match asSeq (T ns) μ with | some ds => (match toPDs μ ds with | some bs => some (bs.any fun z => PyData.eqv z a) | none => none) | none => none) | none => none) = _
  have e1 : toPD μ (.int a) = some (.int a) := by simp [toPD, toPDw]
  have e2 : toPDs μ (ns.map D.int) = some (ns.map PyData.int) := by unfold toPDs; exact toPDwL_ints _ _
  rw [e1]
  simp only [asSeq, e2]
  congr 1
  rw [List.any_map]
  induction ns with
  | nil => simp
  | cons n ns ih =>
    rw [List.any_cons, ih (by unfold toPDs; exact toPDwL_ints _ _)]
    by_cases h : a = n
    · subst h; simp [PyData.eqv]
    · have h2 : ¬ (n = a) := fun z => h z.symm
      by_cases g : a ∈ ns <;> simp [PyData.eqv, h, h2, g]
theorem pairs_T : ∀ (ns : List Int) (k : Nat), pairsD k (ns.map D.int) = (ns.zipIdx k).map fun p => D.tup [.int (p.2 : Nat), .int p.1]
  | [], k => rfl
  | n :: ns, k => by
    rw [List.map_cons, pairsD, List.zipIdx_cons, List.map_cons, pairs_T ns (k + 1)]
theorem finish_ok (n : Nat) (d : D) (μ : Mem) : ∃ μ', finish n d μ = .ok d μ' := by
  unfold finish
  split
  · exact ⟨_, rfl⟩
  · split <;> exact ⟨_, rfl⟩
theorem cut_T {ns : List Int} {i j : Nat} (hi : i ≤ ns.length) (hj : j ≤ ns.length) : cutD (ns.map D.int) (some (i : Int)) (some (j : Int)) = ((ns.drop i).take (j - i)).map D.int := by
  unfold cutD
  rw [HT.sIx_nat, HT.sIx_nat, List.length_map, Nat.min_eq_left hi, Nat.min_eq_left hj, List.map_take, List.map_drop]
theorem in_lim {j : Int} (h0 : -1000000 ≤ j) (h1 : j ≤ 1000000) : -(lim : Int) ≤ j ∧ j ≤ (lim : Int) := by
  have a : -(lim : Int) ≤ -1000000 := by decide
  have b : (1000000 : Int) ≤ (lim : Int) := by decide
  exact ⟨Int.le_trans a h0, Int.le_trans h1 b⟩
theorem it_rng1 {a : E} {env : EnvD} {μ μ1 : Mem} {n : Nat} (h : denE a env μ = .ok (.int (n : Int)) μ1) (hn : n ≤ 1000000) : denIt (.rng1 a) env μ = .ok ((List.range n).map (fun (k : Nat) => D.int (0 + k * 1)), []) μ1 := by
  simp only [denIt, h, bind_ok]
  rw [if_pos (in_lim (by omega) (by omega)), Int.toNat_natCast, rangeD]
theorem it_rng2 {a b : E} {env : EnvD} {μ μ1 μ2 : Mem} {i n : Nat} (ha : denE a env μ = .ok (.int (i : Int)) μ1) (hb : denE b env μ1 = .ok (.int (n : Int)) μ2) (hi : i ≤ 1000000) (hn : n ≤ 1000000) : denIt (.rng2 a b) env μ = .ok ((List.range (n - i)).map (fun (k : Nat) => D.int (i + k * 1)), []) μ2 := by
  simp only [denIt, ha, hb, bind_ok]
  rw [if_pos ⟨in_lim (by omega) (by omega), in_lim (by omega) (by omega), (in_lim (by omega) (by omega)).2⟩, show ((n : Int) - (i : Int)).toNat = n - i by omega, rangeD]
end PV

set_option maxRecDepth 100000
set_option maxHeartbeats 4000000
namespace PV
open PySem PySem.Spec PyProof.Rows L2
/-! ## the bag of a law: two cells, whatever stands behind them -/
abbrev Bag (cs : List Int) (b m : Int) (rest : Mem) : Mem := .lst (cs.map D.int) :: .lst [.ref 0, .int b, .int m] :: rest
def MixOk (m : Int) : Prop := 0 ≤ m ∧ m < 2147483647
def BagOk (rest μ : Mem) : Prop := ∃ cs b m, μ = Bag cs b m rest ∧ MixOk m
theorem range_items (n : Nat) : rangeD 0 1 n = (List.range n).map fun (k : Nat) => D.int (0 + k * 1) := rfl
theorem log_lt {a : Int} (h1 : 0 ≤ a) (h2 : a < 2147483648) : a.natAbs.log2 < 31 := by
  rcases Nat.eq_zero_or_pos a.natAbs with e | e
  · rw [e]; decide
  · exact (Nat.log2_lt (by omega)).mpr (by omega)
theorem pdL_ints {μ : Mem} {k n : Nat} (cs : List Int) : toPDwL (pdF μ k) n (cs.map D.int) = some (cs.map PyData.int) := toPDwL_ints _ _
theorem eq_nil_cell {cs : List Int} {b m : Int} {rest : Mem} : eqM (.ref 0) (.lst []) (Bag cs b m rest) = some (decide (cs = [])) := by
  have e1 : toPD (Bag cs b m rest) (.ref 0) = some (.list (cs.map PyData.int)) := by
    simp only [toPD, toPDw, pdF, List.getElem?_cons_zero, pdL_ints]
  have e2 : toPD (Bag cs b m rest) (.lst []) = some (.list []) := by simp [toPD, toPDw, toPDwL]
  simp only [eqM, e1, e2]
  cases cs <;> simp [PyData.eqv, PyData.eqvAll]
def FnDraw : Fn := ⟨["bag", "below"], ["bag", "below", "turn", "cell", "found"],
  .cons (.fore (.nm 2) (.rng1 (.cst (.int 64)))
    (.cons (.ife (.or (.cmp .Gt (.idx (.var 0) (.cst (.int 1))) (.cst (.int 0))) (.cmp .Eq (.idx (.var 0) (.cst (.int 0))) (.lst false (.nil)))) (.cons (.brk) (.nil)) (.nil))
    (.cons (.asg (.nm 3) (.mth .pop (.idx (.var 0) (.cst (.int 0))) .nil))
    (.cons (.asg (.sub (.var 0) (.cst (.int 1))) (.ife (.cmp .Gt (.var 3) (.bin false .Pow (.cst (.int 10)) (.cst (.int 9)))) (.var 3) (.cst (.int 0)))) (.nil)))))
  (.cons (.ife (.cmp .Gt (.idx (.var 0) (.cst (.int 1))) (.cst (.int 0)))
    (.cons (.asg (.nm 4) (.bin false .Mod (.blt .int false (.cons (.idx (.var 0) (.cst (.int 1))) (.nil))) (.var 1)))
    (.cons (.asg (.sub (.var 0) (.cst (.int 1))) (.bin false .FloorDiv (.idx (.var 0) (.cst (.int 1))) (.var 1)))
    (.cons (.ret (.var 4)) (.nil)))) (.nil))
  (.cons (.asg (.sub (.var 0) (.cst (.int 2))) (.bin false .Mod (.blt .int false (.cons (.bin false .Add (.bin false .Mult (.idx (.var 0) (.cst (.int 2))) (.cst (.int 48271))) (.cst (.int 11))) (.nil))) (.cst (.int 2147483647))))
  (.cons (.ret (.bin false .Mod (.blt .int false (.cons (.bin false .FloorDiv (.bin false .Mod (.blt .int false (.cons (.bin false .Mult (.idx (.var 0) (.cst (.int 2))) (.idx (.var 0) (.cst (.int 2)))) (.nil))) (.cst (.int 2147483629))) (.cst (.int 7))) (.nil))) (.var 1))) (.nil))))⟩
section
variable {cs : List Int} {b m : Int} {rest : Mem}
theorem bag1 {k : Nat} {d : D} (h : ([.ref 0, .int b, .int m] : List D)[k]? = some d) (hk : k < 3) : getD (.ref 1) (.int (k : Int)) (Bag cs b m rest) = .ok d (Bag cs b m rest) := by
  show (match asSeq (.ref 1) (Bag cs b m rest) with | some ds => (match atI ds (k : Int) with | some d => Out.ok d (Bag cs b m rest) | none => .bad) | none => .bad) = _
  have e : asSeq (.ref 1) (Bag cs b m rest) = some [.ref 0, .int b, .int m] := rfl
  have e2 : atI ([.ref 0, .int b, .int m] : List D) (k : Int) = some d := by
    unfold L2.atI ixN
    rw [if_pos (by omega), if_pos (by simp; omega)]
    simpa using h
  rw [e]
  simp only [e2]
theorem setBag1 {v : Int} : setItD (.ref 1) (.int 1) (.int v) (Bag cs b m rest) = some (Bag cs v m rest) := rfl
theorem setBag2 {v : Int} : setItD (.ref 1) (.int 2) (.int v) (Bag cs b m rest) = some (Bag cs b v rest) := rfl
theorem popBag {c : Int} : mthD .pop (.ref 0) [] (Bag (cs ++ [c]) b m rest) = .ok (.int c) (Bag cs b m rest) := by
  simp [mthD]
theorem draw_loop {n : Int} (e3 e4 : Option D) : ∃ env' μ', forL [] (fun x env μ => stepD (denTg (.nm 2) x env μ) (denSs (.cons (.ife (.or (.cmp .Gt (.idx (.var 0) (.cst (.int 1))) (.cst (.int 0))) (.cmp .Eq (.idx (.var 0) (.cst (.int 0))) (.lst false (.nil)))) (.cons (.brk) (.nil)) (.nil))
    (.cons (.asg (.nm 3) (.mth .pop (.idx (.var 0) (.cst (.int 0))) .nil))
    (.cons (.asg (.sub (.var 0) (.cst (.int 1))) (.ife (.cmp .Gt (.var 3) (.bin false .Pow (.cst (.int 10)) (.cst (.int 9)))) (.var 3) (.cst (.int 0)))) (.nil)))))) (rangeD 0 1 64) [some (.ref 1), some (.int n), e3, e4, none] (Bag cs b m rest) = .ok (.nx env') μ' ∧
      (∃ o2 o3, env' = [some (.ref 1), some (.int n), o2, o3, none]) ∧ ∃ cs' b', μ' = Bag cs' b' m rest := by
  rw [range_items]
  refine forL_brk (P := fun _ env μ => (∃ o2 o3, env = [some (.ref 1), some (.int n), o2, o3, none]) ∧ ∃ cs' b', μ = Bag cs' b' m rest) (Q := fun env μ => (∃ o2 o3, env = [some (.ref 1), some (.int n), o2, o3, none]) ∧ ∃ cs' b', μ = Bag cs' b' m rest)
    (fun _ _ _ _ => rfl) (fun _ _ h => h) ⟨⟨e3, e4, rfl⟩, cs, b, rfl⟩ fun a xs env μ h => ?_
  obtain ⟨⟨o2, o3, rfl⟩, cs, b, rfl⟩ := h
  have g1 := bag1 (cs := cs) (b := b) (m := m) (rest := rest) (k := 1) rfl (by omega)
  have g0 := bag1 (cs := cs) (b := b) (m := m) (rest := rest) (k := 0) rfl (by omega)
  have g0 : getD (.ref 1) (.int 0) (Bag cs b m rest) = .ok (.ref 0) (Bag cs b m rest) := g0
  have g1 : getD (.ref 1) (.int 1) (Bag cs b m rest) = .ok (.int b) (Bag cs b m rest) := g1
  have q := eq_nil_cell (cs := cs) (b := b) (m := m) (rest := rest)
  by_cases hb : 0 < b
  · refine ⟨_, _, .inr ⟨?_, ⟨some (.int (0 + a * 1)), o3, rfl⟩, cs, b, rfl⟩⟩
    · simp [stepD, denTg, denSs, denS, seqD, denB, denE, g1, cmpD, cmpM, ofOpt, truM, truO, hb]
  · by_cases hc : cs = []
    · refine ⟨_, _, .inr ⟨?_, ⟨some (.int (0 + a * 1)), o3, rfl⟩, cs, b, rfl⟩⟩
      subst hc
      simp only [List.map_nil] at g0 g1 q
      simp [stepD, denTg, denSs, denS, seqD, denB, denE, denEs, newList, g1, g0, q, cmpD, cmpM, ofOpt, truM, truO, hb]
    · obtain ⟨ds, c, rfl⟩ : ∃ ds c, cs = ds ++ [c] := ⟨cs.dropLast, cs.getLast hc, (List.dropLast_concat_getLast hc).symm⟩
      have pp := popBag (cs := ds) (c := c) (b := b) (m := m) (rest := rest)
      have sq : asList (.ref 0) (Bag (ds ++ [c]) b m rest) = some ((ds ++ [c]).map D.int) := rfl
      refine ⟨[some (.ref 1), some (.int n), some (.int (0 + a * 1)), some (.int c), none], Bag ds (if 1000000000 < c then c else 0) m rest, .inl ⟨?_, ⟨_, _, rfl⟩, ds, _, rfl⟩⟩
      have s1 := setBag1 (cs := ds) (b := b) (m := m) (rest := rest) (v := if 1000000000 < c then c else 0)
      have h1 : getD (.ref 1) (.int 1) (Bag ds b m rest) = .ok (.int b) (Bag ds b m rest) := bag1 (k := 1) rfl (by omega)
      by_cases h9 : 1000000000 < c
      · rw [if_pos h9] at s1 ⊢
        simp [stepD, denTg, denSs, denS, seqD, denB, denE, denEs, newList, g1, g0, q, cmpD, cmpM, ofOpt, truM, truO, hb, pp, sq, asgD, Out.safe, binD, powD, h1, s1, h9]
      · rw [if_neg h9] at s1 ⊢
        simp [stepD, denTg, denSs, denS, seqD, denB, denE, denEs, newList, g1, g0, q, cmpD, cmpM, ofOpt, truM, truO, hb, pp, sq, asgD, Out.safe, binD, powD, h1, s1, h9]
theorem draw_ok {n : Int} {μ : Mem} (h : BagOk rest μ) (hn : 0 < n) (hl : n.natAbs.log2 < 9000) : ∃ v μ', runFn FnDraw [.ref 1, .int n] μ = .ok (.int v) μ' ∧ 0 ≤ v ∧ v < n ∧ BagOk rest μ' := by
  obtain ⟨cs0, b0, m, rfl, hm⟩ := h
  obtain ⟨env', μ', e0, ⟨o2, o3, rfl⟩, cs, b, rfl⟩ := draw_loop (cs := cs0) (b := b0) (m := m) (rest := rest) (n := n) none none
  have g1 : getD (.ref 1) (.int 1) (Bag cs b m rest) = .ok (.int b) (Bag cs b m rest) := bag1 (k := 1) rfl (by omega)
  have g2 : getD (.ref 1) (.int 2) (Bag cs b m rest) = .ok (.int m) (Bag cs b m rest) := bag1 (k := 2) rfl (by omega)
  have st : ∀ {r : OutS}, denSs (Ss.cons (.ife (.cmp .Gt (.idx (.var 0) (.cst (.int 1))) (.cst (.int 0)))
    (.cons (.asg (.nm 4) (.bin false .Mod (.blt .int false (.cons (.idx (.var 0) (.cst (.int 1))) (.nil))) (.var 1)))
    (.cons (.asg (.sub (.var 0) (.cst (.int 1))) (.bin false .FloorDiv (.idx (.var 0) (.cst (.int 1))) (.var 1)))
    (.cons (.ret (.var 4)) (.nil)))) (.nil)) (.cons (.asg (.sub (.var 0) (.cst (.int 2))) (.bin false .Mod (.blt .int false (.cons (.bin false .Add (.bin false .Mult (.idx (.var 0) (.cst (.int 2))) (.cst (.int 48271))) (.cst (.int 11))) (.nil))) (.cst (.int 2147483647))))
  (.cons (.ret (.bin false .Mod (.blt .int false (.cons (.bin false .FloorDiv (.bin false .Mod (.blt .int false (.cons (.bin false .Mult (.idx (.var 0) (.cst (.int 2))) (.idx (.var 0) (.cst (.int 2)))) (.nil))) (.cst (.int 2147483629))) (.cst (.int 7))) (.nil))) (.var 1))) (.nil)))) [some (.ref 1), some (.int n), o2, o3, none] (Bag cs b m rest) = r →
      denSs FnDraw.body [some (.ref 1), some (.int n), none, none, none] (Bag cs0 b0 m rest) = r := fun {r} q => ss_nx ((for_eq (p := (rangeD 0 1 64, [])) rfl).trans e0) q
  by_cases hb : 0 < b
  · have s1 := setBag1 (cs := cs) (b := b) (m := m) (rest := rest) (v := b / n)
    refine ⟨b % n, Bag cs (b / n) m rest, ?_, Int.emod_nonneg _ (by omega), Int.emod_lt_of_pos _ hn, cs, b / n, m, rfl, hm⟩
    refine (run_retM (d := .int (b % n)) (μ1 := Bag cs (b / n) m rest) rfl (st ?_)).trans (finish_same rfl)
    simp [denSs, denS, seqD, denB, denE, denEs, g1, cmpD, cmpM, ofOpt, truM, truO, hb, int_int, mod_int hn, div_int hn hl, denTg, asgD, Out.safe, s1]
  · have s2 := setBag2 (cs := cs) (b := b) (m := m) (rest := rest) (v := (m * 48271 + 11) % 2147483647)
    have g3 : getD (.ref 1) (.int 2) (Bag cs b ((m * 48271 + 11) % 2147483647) rest) = .ok (.int ((m * 48271 + 11) % 2147483647)) (Bag cs b ((m * 48271 + 11) % 2147483647) rest) := bag1 (k := 2) rfl (by omega)
    have hm2 : MixOk ((m * 48271 + 11) % 2147483647) := ⟨Int.emod_nonneg _ (by omega), Int.emod_lt_of_pos _ (by omega)⟩
    have l1 : m.natAbs.log2 + (48271 : Int).natAbs.log2 < 1000000 := by
      have := log_lt hm.1 (Int.lt_trans hm.2 (by omega))
      have e : (48271 : Int).natAbs.log2 = 15 := by decide
      omega
    have l2 : ((m * 48271 + 11) % 2147483647).natAbs.log2 + ((m * 48271 + 11) % 2147483647).natAbs.log2 < 1000000 := by
      have := log_lt hm2.1 (Int.lt_trans hm2.2 (by omega))
      omega
    have l3 : (7 : Int).natAbs.log2 < 9000 := by decide
    generalize hq : (m * 48271 + 11) % 2147483647 = q at *
    refine ⟨(q * q % 2147483629 / 7) % n, Bag cs b q rest, ?_, Int.emod_nonneg _ (by omega), Int.emod_lt_of_pos _ hn, cs, b, q, rfl, hm2⟩
    refine (run_retM (d := .int ((q * q % 2147483629 / 7) % n)) (μ1 := Bag cs b q rest) rfl (st ?_)).trans (finish_same rfl)
    simp [denSs, denS, seqD, denB, denE, denEs, g1, g2, cmpD, cmpM, ofOpt, truM, truO, hb, int_int, add_int, mul_int l1, mul_int l2, mod_int (b := 2147483647) (by omega), mod_int (b := 2147483629) (by omega), mod_int hn, div_int (b := 7) (by omega) l3, denTg, asgD, Out.safe, hq, s2, g3]
/-! ### how it is made -/
def FnBag (c : Int) : Fn := ⟨["script"], ["script", "cells", "cell", "mixed"],
  .cons (.asg (.nm 1) (.comp false [2] (.nm 2) (.val (.slc false (.var 0) .no (.yes (.cst (.int 63))))) .no (.blt .abs false (.cons (.blt .int false (.cons (.var 2) (.nil))) (.nil)))))
  (.cons (.asg (.nm 3) (.bin false .Add (.cst (.int c)) (.blt .len false (.cons (.var 1) (.nil)))))
  (.cons (.fore (.nm 2) (.val (.var 1)) (.cons (.asg (.nm 3) (.bin false .Mod (.blt .int false (.cons (.bin false .Add (.bin false .Add (.bin false .Mult (.var 3) (.cst (.int 48271))) (.bin false .Mod (.blt .int false (.cons (.var 2) (.nil))) (.cst (.int 2147483629)))) (.cst (.int 7))) (.nil))) (.cst (.int 2147483647)))) (.nil)))
  (.cons (.ret (.lst true (.cons (.lrev true (.blt .list false (.cons (.var 1) (.nil)))) (.cons (.cst (.int 0)) (.cons (.var 3) (.nil)))))) (.nil))))⟩
theorem cut_all {ds : List D} {k : Int} (h : (ds.length : Int) ≤ k) : cutD ds none (some k) = ds := by
  unfold cutD HT.sIx
  have : ¬ k < 0 := by omega
  simp only [this, if_false, List.drop_zero]
  rw [List.take_of_length_le]
  omega
def absI (i : Int) : Int := if i < 0 then -i else i
theorem bag_ok {c : Int} {ns : List Int} (hl : ns.length ≤ 63) (hc : 0 ≤ c ∧ c ≤ 1000000) : ∃ μ, runFn (FnBag c) [.scr (ns.map D.int)] [] = .ok (.ref 1) μ ∧ BagOk [] μ := by
  have s1 : denS (.asg (.nm 1) (.comp false [2] (.nm 2) (.val (.slc false (.var 0) .no (.yes (.cst (.int 63))))) .no (.blt .abs false (.cons (.blt .int false (.cons (.var 2) (.nil))) (.nil))))) [some (.scr (ns.map D.int)), none, none, none] [] = .ok (.nx [some (.scr (ns.map D.int)), some (.lst (ns.map fun i => .int (absI i))), none, none]) [] := by
    have hc : cutD (ns.map D.int) none (some 63) = ns.map D.int := cut_all (by rw [List.length_map]; omega)
    simp [denS, denE, denIt, denEo, slcD, newList, hc, itemsD, wipeD]
    rw [compL_map (k := fun i => .int (absI i)) rfl fun a _ => ?_]
    · simp [asgD, denTg]
    · simp [denTg, denC, denE, denEs, bltD, absI]
  have hlen : (21639 : Int) = 21639 := rfl
  have s2 : denS (.asg (.nm 3) (.bin false .Add (.cst (.int c)) (.blt .len false (.cons (.var 1) (.nil))))) [some (.scr (ns.map D.int)), some (.lst (ns.map fun i => .int (absI i))), none, none] [] = .ok (.nx [some (.scr (ns.map D.int)), some (.lst (ns.map fun i => .int (absI i))), none, some (.int (c + ns.length))]) [] := by
    simp [denS, denE, denEs, bltD, lenM, asSeq, asList, binD, addD, asgD, denTg]
  have s3 : ∃ m o2, MixOk m ∧ denS (.fore (.nm 2) (.val (.var 1)) (.cons (.asg (.nm 3) (.bin false .Mod (.blt .int false (.cons (.bin false .Add (.bin false .Add (.bin false .Mult (.var 3) (.cst (.int 48271))) (.bin false .Mod (.blt .int false (.cons (.var 2) (.nil))) (.cst (.int 2147483629)))) (.cst (.int 7))) (.nil))) (.cst (.int 2147483647)))) (.nil)))
      [some (.scr (ns.map D.int)), some (.lst (ns.map fun i => .int (absI i))), none, some (.int (c + ns.length))] [] = .ok (.nx [some (.scr (ns.map D.int)), some (.lst (ns.map fun i => .int (absI i))), o2, some (.int m)]) [] := by
    have fl := forL_inv (g := []) (e := fun i => D.int (absI i)) (xs := ns) (f := fun x env μ => stepD (denTg (.nm 2) x env μ) (denSs (.cons (.asg (.nm 3) (.bin false .Mod (.blt .int false (.cons (.bin false .Add (.bin false .Add (.bin false .Mult (.var 3) (.cst (.int 48271))) (.bin false .Mod (.blt .int false (.cons (.var 2) (.nil))) (.cst (.int 2147483629)))) (.cst (.int 7))) (.nil))) (.cst (.int 2147483647)))) (.nil))))
      (P := fun _ env μ => μ = [] ∧ ∃ o2 m, MixOk m ∧ env = [some (.scr (ns.map D.int)), some (.lst (ns.map fun i => .int (absI i))), o2, some (.int m)])
      (env := [some (.scr (ns.map D.int)), some (.lst (ns.map fun i => .int (absI i))), none, some (.int (c + ns.length))]) (μ := []) (fun _ _ _ _ => rfl) ⟨rfl, none, _, ⟨by omega, by omega⟩, rfl⟩ ?_
    · obtain ⟨env', μ', e1, rfl, o2, m, hm, rfl⟩ := fl
      refine ⟨m, o2, hm, ?_⟩
      exact (for_eq (p := (ns.map fun i => .int (absI i), [])) rfl).trans e1
    · intro a xs env μ ⟨hμ, o2, m, hm, he⟩
      subst hμ; subst he
      have l1 : m.natAbs.log2 + (48271 : Int).natAbs.log2 < 1000000 := by
        have := log_lt hm.1 (Int.lt_trans hm.2 (by omega))
        have e : (48271 : Int).natAbs.log2 = 15 := by decide
        omega
      refine ⟨[some (.scr (ns.map D.int)), some (.lst (ns.map fun i => .int (absI i))), some (.int (absI a)), some (.int ((m * 48271 + absI a % 2147483629 + 7) % 2147483647))], [], ?_, rfl, _, _, ⟨Int.emod_nonneg _ (by omega), Int.emod_lt_of_pos _ (by omega)⟩, rfl⟩
      simp [stepD, denTg, denSs, denS, seqD, denE, denEs, int_int, add_int, mul_int l1, mod_int (b := 2147483647) (by omega), mod_int (b := 2147483629) (by omega), asgD]
  obtain ⟨m, o2, hm, s3⟩ := s3
  refine ⟨Bag (ns.map absI).reverse 0 m [], ?_, _, _, _, rfl, hm⟩
  have e4 : runFn (FnBag c) [.scr (ns.map D.int)] [] = finish 0 (.ref 1) (Bag (ns.map absI).reverse 0 m []) := by
    refine run_retM rfl (ss_nx s1 (ss_nx s2 (ss_nx s3 (ss_rt ?_))))
    simp [denS, denE, denEs, bltD, asSeq, asList, newList]
  rw [e4]
  rfl
end
end PV

set_option maxRecDepth 100000
set_option maxHeartbeats 4000000
namespace PV
open PySem PySem.Spec PyProof.Rows L2
/-! ## more rules -/
theorem RepL.inv3 {K : KZ} {H : Hp} {ρ : List Addr} {d e f : D} {vs : List V} (h : RepL K H ρ [d, e, f] vs) : ∃ v u w, vs = [v, u, w] ∧ Rep K H ρ d v ∧ Rep K H ρ e u ∧ Rep K H ρ f w := by
  obtain ⟨v, r, rfl, h1, h2⟩ := h
  obtain ⟨u, w, rfl, h3, h4⟩ := RepL.inv2 h2
  exact ⟨v, u, w, rfl, h1, h3, h4⟩
section
variable {X : Cx} {W : L2.St → WD} {pos : Pos}
theorem par_args3 {ma mb mc : E} {σ : L2.St} {H : Hp} {D : Ends} {i j k : Nat} (h : tS X.K W (denS (.par3 i j k ma mb mc)) D σ H) : tPar3 i j k (tDs X.K W (denEs (.cons ma (.cons mb (.cons mc .nil))))) D σ H := by
  obtain ⟨z, ρ, μ, env, r, er, p⟩ := h
  unfold denS at p
  refine ⟨z, ρ, μ, env, r, er, ?_⟩
  have e : denEs (.cons ma (.cons mb (.cons mc .nil))) env μ = ((denE ma env μ).bind fun x μ1 => (denE mb env μ1).bind fun y μ2 => (denE mc env μ2).bind fun z μ3 => .ok (x, y, z) μ3).bind fun p μ => .ok [p.1, p.2.1, p.2.2] μ := by
    simp only [denEs]
    cases denE ma env μ with
    | ok x μ1 =>
      simp only [bind_ok]
      cases denE mb env μ1 with
      | ok y μ2 =>
        simp only [bind_ok]
        cases denE mc env μ2 <;> rfl
      | err c fs μ2 => rfl
      | bad => rfl
    | err c fs μ1 => rfl
    | bad => rfl
  rw [e]
  cases e1 : ((denE ma env μ).bind fun x μ1 => (denE mb env μ1).bind fun y μ2 => (denE mc env μ2).bind fun z μ3 => Out.ok (x, y, z) μ3) with
  | ok q μ1 =>
    rw [e1] at p
    intro ρ1 H1 vs k1 r1 q1
    obtain ⟨v, u, w, rfl, h1, h2, h3⟩ := RepL.inv3 q1
    exact ⟨v, u, w, rfl, p ρ1 H1 _ k1 r1 ((((er.mono k1).set i h1).set j h2).set k h3)⟩
  | err c fs μ1 => rw [e1] at p; exact fun ρ1 H1 k1 r1 => p ρ1 H1 σ k1 r1 (er.mono k1)
  | bad => rw [e1] at p; exact p
theorem s_par3 {i j l : Nat} {x y z : Str} {a b c : Expr} {ma mb mc : E} {px py pz pt pt2 : Pos} {kt k2 : Nat} (B : BOk X) (hN : X.N.Nodup) (hi : X.N[i]? = some x) (hj : X.N[j]? = some y) (hl : X.N[l]? = some z) (hij : i ≠ j) (hil : i ≠ l) (hjl : j ≠ l)
    (hx : X.env.scope.names.lookup x = some .local) (hy : X.env.scope.names.lookup y = some .local) (hz : X.env.scope.names.lookup z = some .local) (ha : PA X [a, b, c] (tDs X.K W (denEs (.cons ma (.cons mb (.cons mc .nil))))))
    (hw : swappedStores [.Tuple [.Name x px, .Name y py, .Name z pz] kt pt] (.Tuple [a, b, c] k2 pt2) X.env = pure (some [x, y, z])) (hs : swapsWithSole [.Tuple [.Name x px, .Name y py, .Name z pz] kt pt] (.Tuple [a, b, c] k2 pt2) pos.line X.env = pure false := by rfl) :
    PS X (.Assign [.Tuple [.Name x px, .Name y py, .Name z pz] kt pt] (.Tuple [a, b, c] k2 pt2) pos) (tS X.K W (denS (.par3 i j l ma mb mc))) := (ps_par3 B.calm hN hi hj hl hij hil hjl hx hy hz ha hw hs).imp fun D σ H h => par_args3 h
end
end PV

set_option maxRecDepth 100000
set_option maxHeartbeats 4000000
namespace PV
open PySem PySem.Spec PyProof.Rows L2
/-! ## a loop with a measure -/
theorem while_inv {c : EnvD → Mem → Out Bool} {f : EnvD → Mem → OutS} {P : Nat → EnvD → Mem → Prop} {Q : EnvD → Mem → Prop}
    (step : ∀ k env μ, P k env μ → (c env μ = .ok false μ ∧ Q env μ) ∨ (c env μ = .ok true μ ∧ ∃ env' μ' k', f env μ = .ok (.nx env') μ' ∧ k' < k ∧ P k' env' μ')) :
    ∀ n k env μ, k < n → P k env μ → ∃ env' μ', whileL c f n env μ = .ok (.nx env') μ' ∧ Q env' μ'
  | 0, k, env, μ, h, _ => absurd h (Nat.not_lt_zero _)
  | n + 1, k, env, μ, h, p => by
    rcases step k env μ p with ⟨e, q⟩ | ⟨e, env', μ', k', e2, hk, p'⟩
    · exact ⟨env, μ, by simp only [whileL, e], q⟩
    · obtain ⟨env2, μ2, e3, q⟩ := while_inv step n k' env' μ' (by omega) p'
      exact ⟨env2, μ2, by simp only [whileL, e, e2, e3], q⟩
theorem while_go {c : EnvD → Mem → Out Bool} {f : EnvD → Mem → OutS} {n : Nat} {env e : EnvD} {μ μ1 μ2 : Mem} (h : c env μ = .ok true μ1) (g : f env μ1 = .ok (.nx e) μ2) : whileL c f (n + 1) env μ = whileL c f n e μ2 := by
  simp only [whileL, h, g]
theorem whl_eq {n : Nat} {c : E} {b : Ss} {env : EnvD} {μ : Mem} : denS (.whl n c b) env μ = whileL (denB c) (denSs b) n env μ := by simp only [denS]
theorem ss_par2 {i j : Nat} {a b : E} {x y : D} {env : EnvD} {μ μ1 μ2 : Mem} {ss : Ss} (ha : denE a env μ = .ok x μ1) (hb : denE b env μ1 = .ok y μ2) : denSs (.cons (.par2 i j a b) ss) env μ = denSs ss ((env.set i (some x)).set j (some y)) μ2 := by
  simp only [denSs, denS, ha, hb, bind_ok, toS_ok, seqD]
theorem dE_blt1 {f : Blt} {mu : Bool} {a : E} {x : D} {o : Out D} {env : EnvD} {μ μ1 : Mem} (ha : denE a env μ = .ok x μ1) (h : bltD f mu [x] μ1 = o) : denE (.blt f mu (.cons a .nil)) env μ = o := by
  simp only [denE, denEs, ha, bind_ok, h]
theorem dE_bin {mu : Bool} {op : Operator} {a b : E} {x y : D} {o : Out D} {env : EnvD} {μ μ1 μ2 : Mem} (ha : denE a env μ = .ok x μ1) (hb : denE b env μ1 = .ok y μ2) (h : binD mu op x y μ2 = o) : denE (.bin mu op a b) env μ = o := by
  simp only [denE, ha, hb, bind_ok, h]
/-! ## common_divisor -/
def fuel : Nat := 1000000
def FnGcd : Fn := ⟨["one", "other"], ["one", "other", "low", "high"],
  .cons (.par2 2 3 (.blt .abs false (.cons (.var 0) (.nil))) (.blt .abs false (.cons (.var 1) (.nil))))
  (.cons (.whl fuel (.var 2) (.cons (.par2 2 3 (.bin false .Mod (.var 3) (.var 2)) (.var 2)) (.nil)))
  (.cons (.ret (.var 3)) (.nil)))⟩
theorem abs_nat (a : Int) : (if a < 0 then -a else a) = ((a.natAbs : Nat) : Int) := by split <;> omega
theorem gcd_turn {l h : Nat} (hl : 0 < l) (hlh : l ≤ h) {m : Nat} (hm : l * h < 2 ^ (m + 1)) : (h % l) * l < 2 ^ m := by
  have h1 : h % l < l := Nat.mod_lt _ hl
  have h2 : h / l * l + h % l = h := Nat.div_add_mod' h l
  have h3 : 1 ≤ h / l := (Nat.one_le_div_iff hl).mpr hlh
  have h4 : l ≤ h / l * l := Nat.le_mul_of_pos_left _ h3
  have h5 : 2 * (h % l) ≤ h := by omega
  have h6 : 2 * (h % l) * l ≤ h * l := Nat.mul_le_mul_right _ h5
  rw [Nat.pow_succ, Nat.mul_comm l h] at hm
  have h7 : 2 * ((h % l) * l) ≤ h * l := by rw [← Nat.mul_assoc]; exact h6
  omega
theorem gcd_loop {x y : Option D} {μ : Mem} (l h m : Nat) (hlh : l ≤ h) (hm : l * h < 2 ^ m) (n : Nat) (hn : m < n) :
    ∃ env', whileL (denB (.var 2)) (denSs (.cons (.par2 2 3 (.bin false .Mod (.var 3) (.var 2)) (.var 2)) (.nil))) n [x, y, some (.int (l : Int)), some (.int (h : Int))] μ = .ok (.nx env') μ ∧ env' = [x, y, some (.int 0), some (.int (Nat.gcd l h : Nat))] := by
  have := while_inv (c := denB (.var 2)) (f := denSs (.cons (.par2 2 3 (.bin false .Mod (.var 3) (.var 2)) (.var 2)) (.nil)))
    (P := fun k env μ' => μ' = μ ∧ ∃ l' h' : Nat, env = [x, y, some (.int (l' : Int)), some (.int (h' : Int))] ∧ l' ≤ h' ∧ l' * h' < 2 ^ k ∧ Nat.gcd l' h' = Nat.gcd l h)
    (Q := fun env μ' => μ' = μ ∧ env = [x, y, some (.int 0), some (.int (Nat.gcd l h : Nat))]) (fun k env μ' ⟨hμ, l', h', he, h1, h2, h3⟩ => by
      subst hμ; subst he
      have v2 : denE (.var 2) [x, y, some (.int (l' : Int)), some (.int (h' : Int))] μ' = .ok (.int (l' : Int)) μ' := dE_var rfl
      have v3 : denE (.var 3) [x, y, some (.int (l' : Int)), some (.int (h' : Int))] μ' = .ok (.int (h' : Int)) μ' := dE_var rfl
      by_cases h0 : l' = 0
      · subst h0
        refine .inl ⟨dB_val v2 rfl, rfl, ?_⟩
        rw [← h3, Nat.gcd_zero_left]; rfl
      · have hp : 0 < l' := Nat.pos_of_ne_zero h0
        have tr : truM (.int (l' : Int)) μ' = some true := by simp [truM, h0]
        cases k with
        | zero =>
          exfalso
          have : 0 < l' * h' := Nat.mul_pos hp (by omega)
          omega
        | succ k =>
          refine .inr ⟨dB_val v2 tr, _, _, k, ?_, Nat.lt_succ_self k, rfl, h' % l', l', rfl, Nat.le_of_lt (Nat.mod_lt _ hp), gcd_turn hp h1 h2, ?_⟩
          · rw [ss_par2 (dE_bin v3 v2 (mod_int (by omega))) v2, ss_end]
            simp only [List.set_cons_succ, List.set_cons_zero]
            rw [← Int.natCast_emod]
          · exact (Nat.gcd_rec l' h').symm.trans h3) n m _ μ hn ⟨rfl, l, h, rfl, hlh, hm, rfl⟩
  obtain ⟨env', μ', e, rfl, q⟩ := this
  exact ⟨env', e, q⟩
/-- bits enough -/
def Fits (k : Nat) (a : Int) : Prop := a.natAbs < 2 ^ k
theorem Fits.log {k : Nat} {a : Int} (h : Fits k a) (hk : 0 < k) : a.natAbs.log2 < k := by
  by_cases h0 : a.natAbs = 0
  · rw [h0]; exact hk
  · exact (Nat.log2_lt h0).mpr h
theorem gcd_ok {a b : Int} {μ : Mem} {k : Nat} (ha : Fits k a) (hb : Fits k b) (hk : k ≤ 400000) : runFn FnGcd [.int a, .int b] μ = .ok (.int (Int.gcd a b : Nat)) μ := by
  refine run_ret rfl ?_
  show denSs FnGcd.body [some (.int a), some (.int b), none, none] μ = _
  unfold FnGcd
  have va : denE (.var 0) [some (.int a), some (.int b), none, none] μ = .ok (.int a) μ := dE_var rfl
  have vb : denE (.var 1) [some (.int a), some (.int b), none, none] μ = .ok (.int b) μ := dE_var rfl
  rw [ss_par2 (dE_blt1 va (abs_int)) (dE_blt1 vb abs_int), abs_nat, abs_nat]
  simp only [List.set_cons_succ, List.set_cons_zero]
  have hprod : a.natAbs * b.natAbs < 2 ^ (k + k) := by
    rw [Nat.pow_add]
    exact Nat.mul_lt_mul'' ha hb
  -- the first turn brings the smaller one ahead
  have main : ∃ env' : EnvD, whileL (denB (.var 2)) (denSs (.cons (.par2 2 3 (.bin false .Mod (.var 3) (.var 2)) (.var 2)) (.nil))) fuel [some (.int a), some (.int b), some (.int (a.natAbs : Nat)), some (.int (b.natAbs : Nat))] μ = .ok (.nx env') μ ∧ env' = [some (.int a), some (.int b), some (.int 0), some (.int (Nat.gcd a.natAbs b.natAbs : Nat))] := by
    by_cases h : a.natAbs ≤ b.natAbs
    · exact gcd_loop _ _ (k + k) h hprod fuel (by show k + k < 1000000; omega)
    · have hp : 0 < a.natAbs := by omega
      have v2 : denE (.var 2) [some (.int a), some (.int b), some (.int (a.natAbs : Nat)), some (.int (b.natAbs : Nat))] μ = .ok (.int (a.natAbs : Nat)) μ := dE_var rfl
      have v3 : denE (.var 3) [some (.int a), some (.int b), some (.int (a.natAbs : Nat)), some (.int (b.natAbs : Nat))] μ = .ok (.int (b.natAbs : Nat)) μ := dE_var rfl
      have tr : truM (.int (a.natAbs : Nat)) μ = some true := by
        show some (((a.natAbs : Nat) : Int) != 0) = _
        congr 1
        rw [bne_iff_ne]; omega
      obtain ⟨env', e, q⟩ := gcd_loop (x := some (.int a)) (y := some (.int b)) (μ := μ) b.natAbs a.natAbs (k + k) (by omega) (by rw [Nat.mul_comm]; exact hprod) 999999 (by omega)
      refine ⟨env', ?_, by rw [q, Nat.gcd_comm]⟩
      show whileL _ _ (999999 + 1) _ μ = _
      have em : ((b.natAbs : Nat) : Int) % ((a.natAbs : Nat) : Int) = (b.natAbs : Nat) := by
        rw [← Int.natCast_emod, Nat.mod_eq_of_lt (by omega)]
      refine (while_go (dB_val v2 tr) (e := [some (.int a), some (.int b), some (.int (b.natAbs : Nat)), some (.int (a.natAbs : Nat))]) (μ2 := μ) ?_).trans e
      rw [ss_par2 (dE_bin v3 v2 (mod_int (by omega))) v2, ss_end]
      simp only [List.set_cons_succ, List.set_cons_zero, em]
  obtain ⟨env', e, rfl⟩ := main
  refine ss_nx (whl_eq.trans e) (ss_ret ?_)
  exact dE_var rfl
/-! ## fractions -/
def qD (q : Rat) : D := .tup [.int q.num, .int (q.den : Nat)]
def FnMade : Fn := ⟨["above", "below"], ["above", "below", "common"],
  .cons (.ife (.cmp .Lt (.var 1) (.cst (.int 0))) (.cons (.par2 0 1 (.neg (.var 0)) (.neg (.var 1))) (.nil)) (.nil))
  (.cons (.asg (.nm 2) (.call "common_divisor" ["one", "other"] (runFn FnGcd) (.cons (.var 0) (.cons (.var 1) (.nil)))))
  (.cons (.ret (.tup (.cons (.bin false .FloorDiv (.var 0) (.var 2)) (.cons (.bin false .FloorDiv (.var 1) (.var 2)) (.nil))))) (.nil)))⟩
theorem rat_num {a : Int} {b : Nat} (hb : b ≠ 0) : ((a : Rat) / ((b : Int) : Rat)).num = a / (Int.gcd a b : Nat) ∧ ((a : Rat) / ((b : Int) : Rat)).den = b / Int.gcd a b := by
  have e : ((a : Rat) / ((b : Int) : Rat)) = mkRat a b := by
    rw [Rat.mkRat_eq_div]; rfl
  rw [e]
  refine ⟨?_, ?_⟩
  · rw [Rat.num_mkRat, if_neg hb, Int.gcd, Int.natAbs_natCast, Nat.gcd_comm]
  · rw [Rat.den_mkRat, if_neg hb, Int.gcd, Int.natAbs_natCast, Nat.gcd_comm]
theorem Fits.neg {k : Nat} {a : Int} (h : Fits k a) : Fits k (-a) := by unfold Fits at *; rwa [Int.natAbs_neg]
theorem Fits.mul {k l : Nat} {a b : Int} (h : Fits k a) (g : Fits l b) : Fits (k + l) (a * b) := by
  unfold Fits at *
  rw [Int.natAbs_mul, Nat.pow_add]
  exact Nat.mul_lt_mul'' h g
theorem Fits.up {k l : Nat} {a : Int} (h : Fits k a) (hl : k ≤ l) : Fits l a := Nat.lt_of_lt_of_le h (Nat.pow_le_pow_right (by omega) hl)
theorem Fits.add {k : Nat} {a b : Int} (h : Fits k a) (g : Fits k b) : Fits (k + 1) (a + b) := by
  unfold Fits at *
  rw [Nat.pow_succ]
  have := Int.natAbs_add_le a b
  omega
theorem Fits.div {k : Nat} {a : Int} (h : Fits k a) (n : Nat) : Fits k (a / (n : Int)) := by
  unfold Fits at *
  refine Nat.lt_of_le_of_lt ?_ h
  exact Int.natAbs_ediv_le_natAbs a n
/-- made: a fraction in least terms -/
theorem made_pos {a : Int} {b : Nat} {μ : Mem} {k : Nat} (hb : b ≠ 0) (fa : Fits k a) (fb : Fits k (b : Int)) (hk0 : 0 < k) (hk : k ≤ 9000) {env : EnvD} (ea : env[0]? = some (some (.int a))) (eb : env[1]? = some (some (.int (b : Int)))) (h2 : 2 < env.length) :
    denSs (.cons (.asg (.nm 2) (.call "common_divisor" ["one", "other"] (runFn FnGcd) (.cons (.var 0) (.cons (.var 1) (.nil)))))
      (.cons (.ret (.tup (.cons (.bin false .FloorDiv (.var 0) (.var 2)) (.cons (.bin false .FloorDiv (.var 1) (.var 2)) (.nil))))) (.nil))) env μ = .ok (.rt (qD ((a : Rat) / ((b : Int) : Rat)))) μ := by
  have va : denE (.var 0) env μ = .ok (.int a) μ := dE_var ea
  have vb : denE (.var 1) env μ = .ok (.int (b : Int)) μ := dE_var eb
  rw [ss_asg (dE_call (dEs_cons va (dEs_cons vb dEs_nil)) (gcd_ok fa fb (by omega)))]
  have wa : denE (.var 0) (env.set 2 (some (.int (Int.gcd a b : Nat)))) μ = .ok (.int a) μ := dE_var (by rw [List.getElem?_set_ne (by omega)]; exact ea)
  have wb : denE (.var 1) (env.set 2 (some (.int (Int.gcd a b : Nat)))) μ = .ok (.int (b : Int)) μ := dE_var (by rw [List.getElem?_set_ne (by omega)]; exact eb)
  have wc : denE (.var 2) (env.set 2 (some (.int (Int.gcd a b : Nat)))) μ = .ok (.int (Int.gcd a b : Nat)) μ := dE_var (by rw [List.getElem?_set_self h2])
  have gp : 0 < Int.gcd a b := Int.gcd_pos_of_ne_zero_right a (by omega)
  have gl : Fits k ((Int.gcd a b : Nat) : Int) := by
    unfold Fits at *
    refine Nat.lt_of_le_of_lt ?_ fb
    rw [Int.natAbs_natCast, Int.natAbs_natCast]
    exact Nat.le_of_dvd (Nat.pos_of_ne_zero hb) (by
      have := Int.gcd_dvd_right a (b : Int)
      exact Int.natCast_dvd_natCast.mp this)
  have lg : ((Int.gcd a b : Nat) : Int).natAbs.log2 < 9000 := Nat.lt_of_lt_of_le (gl.log hk0) hk
  have d1 := dE_bin (mu := false) wa wc (div_int (by omega) lg)
  have d2 := dE_bin (mu := false) wb wc (div_int (by omega) lg)
  obtain ⟨n1, n2⟩ := rat_num (a := a) hb
  refine ss_ret ?_
  simp only [denE.eq_def (.tup _), dEs_cons d1 (dEs_cons d2 dEs_nil), bind_ok, qD, n1, n2]
  rw [Int.natCast_ediv]
theorem made_ok {a b : Int} {μ : Mem} {k : Nat} (hb : b ≠ 0) (fa : Fits k a) (fb : Fits k b) (hk0 : 0 < k) (hk : k ≤ 9000) : runFn FnMade [.int a, .int b] μ = .ok (qD ((a : Rat) / (b : Rat))) μ := by
  refine run_ret rfl ?_
  show denSs FnMade.body [some (.int a), some (.int b), none] μ = _
  unfold FnMade
  have t : denB (.cmp .Lt (.var 1) (.cst (.int 0))) [some (.int a), some (.int b), none] μ = .ok (decide (b < 0)) μ := dB_cmp (op := .Lt) (x := .int b) (y := .int 0) (dE_var rfl) dE_cst rfl
  by_cases h : b < 0
  · obtain ⟨n, hn⟩ := Int.eq_ofNat_of_zero_le (show 0 ≤ -b by omega)
    have e : (a : Rat) / (b : Rat) = ((-a : Int) : Rat) / ((-b : Int) : Rat) := by
      have h1 : ((-a : Int) : Rat) = -(a : Rat) := Rat.intCast_neg a
      have h2 : ((-b : Int) : Rat) = -(b : Rat) := Rat.intCast_neg b
      have h3 : (b : Rat) ≠ 0 := by
        intro z
        exact hb (Rat.intCast_inj.mp z)
      rw [h1, h2]
      grind
    have na : denE (.neg (.var 0)) [some (.int a), some (.int b), none] μ = .ok (.int (-a)) μ := by simp [denE]
    have nb : denE (.neg (.var 1)) [some (.int a), some (.int b), none] μ = .ok (.int (-b)) μ := by simp [denE]
    rw [ss_if t, decide_eq_true h, if_pos rfl, ss_par2 na nb, ss_end, seq_nx, e]
    simp only [List.set_cons_succ, List.set_cons_zero]
    rw [hn]
    exact made_pos (by omega) fa.neg (by rw [← hn]; exact fb.neg) hk0 hk rfl rfl (by simp)
  · obtain ⟨n, rfl⟩ := Int.eq_ofNat_of_zero_le (show 0 ≤ b by omega)
    rw [ss_if t, decide_eq_false h, if_neg Bool.false_ne_true, ss_end, seq_nx]
    exact made_pos (by omega) fa fb hk0 hk rfl rfl (by simp)
end PV

set_option maxRecDepth 100000
set_option maxHeartbeats 4000000
namespace PV
open PySem PySem.Spec PyProof.Rows L2
/-! ## the operations of fractions -/
structure Sz (k : Nat) (q : Rat) : Prop where
  n : Fits k q.num
  d : Fits k (q.den : Int)
theorem Sz.up {k l : Nat} {q : Rat} (h : Sz k q) (hl : k ≤ l) : Sz l q := ⟨h.n.up hl, h.d.up hl⟩
theorem rat_eq (q : Rat) : q = (q.num : Rat) / ((q.den : Int) : Rat) := by
  have h := Rat.mkRat_self q
  rw [Rat.mkRat_eq_div] at h
  exact h.symm
theorem den_ne (q : Rat) : ((q.den : Int) : Rat) ≠ 0 := by
  intro z
  have : (q.den : Int) = 0 := Rat.intCast_inj.mp z
  exact q.den_nz (by omega)
theorem sz_div {a b : Int} {k : Nat} (hb : b ≠ 0) (fa : Fits k a) (fb : Fits k b) : Sz k ((a : Rat) / (b : Rat)) := by
  have pos : ∀ {a : Int} {n : Nat}, n ≠ 0 → Fits k a → Fits k (n : Int) → Sz k ((a : Rat) / ((n : Int) : Rat)) := fun {a n} hn fa fn => by
    obtain ⟨h1, h2⟩ := rat_num (a := a) hn
    refine ⟨by rw [h1]; exact fa.div _, ?_⟩
    rw [h2, Int.natCast_ediv]
    exact fn.div _
  by_cases h : b < 0
  · obtain ⟨n, hn⟩ := Int.eq_ofNat_of_zero_le (show 0 ≤ -b by omega)
    have e : (a : Rat) / (b : Rat) = ((-a : Int) : Rat) / ((-b : Int) : Rat) := by
      have h1 : ((-a : Int) : Rat) = -(a : Rat) := Rat.intCast_neg a
      have h2 : ((-b : Int) : Rat) = -(b : Rat) := Rat.intCast_neg b
      have h3 : (b : Rat) ≠ 0 := fun z => hb (Rat.intCast_inj.mp z)
      rw [h1, h2]
      grind
    rw [e, hn]
    exact pos (by omega) fa.neg (by rw [← hn]; exact fb.neg)
  · obtain ⟨n, rfl⟩ := Int.eq_ofNat_of_zero_le (show 0 ≤ b by omega)
    exact pos (by omega) fa fb
theorem mul_frac (x y : Rat) : ((x.num * y.num : Int) : Rat) / (((x.den : Int) * (y.den : Int) : Int) : Rat) = x * y := by
  have hx := rat_eq x
  have hy := rat_eq y
  have dx := den_ne x
  have dy := den_ne y
  rw [Rat.intCast_mul, Rat.intCast_mul]
  grind
theorem add_frac (x y : Rat) : ((x.num * y.den + y.num * x.den : Int) : Rat) / (((x.den : Int) * (y.den : Int) : Int) : Rat) = x + y := by
  have hx := rat_eq x
  have hy := rat_eq y
  have dx := den_ne x
  have dy := den_ne y
  rw [Rat.intCast_add, Rat.intCast_mul, Rat.intCast_mul, Rat.intCast_mul]
  grind
theorem num_ne {y : Rat} (h : y ≠ 0) : y.num ≠ 0 := fun z => h (Rat.num_eq_zero.mp z)
theorem div_frac (x : Rat) {y : Rat} (h : y ≠ 0) : ((x.num * y.den : Int) : Rat) / (((x.den : Int) * y.num : Int) : Rat) = x / y := by
  have hx := rat_eq x
  have hy := rat_eq y
  have dx := den_ne x
  have dy := den_ne y
  have ny : ((y.num : Int) : Rat) ≠ 0 := fun z => num_ne h (Rat.intCast_inj.mp z)
  rw [Rat.intCast_mul, Rat.intCast_mul]
  grind
theorem lt_frac (x y : Rat) : (x.num * y.den < y.num * x.den) ↔ x < y := (Rat.lt_iff x y).symm
/-! ### parts of a fraction -/
theorem get0 {q : Rat} {μ : Mem} : getD (qD q) (.int 0) μ = .ok (.int q.num) μ := rfl
theorem get1 {q : Rat} {μ : Mem} : getD (qD q) (.int 1) μ = .ok (.int (q.den : Nat)) μ := rfl
theorem dE_idx {a b : E} {x y : D} {o : Out D} {env : EnvD} {μ μ1 μ2 : Mem} (ha : denE a env μ = .ok x μ1) (hb : denE b env μ1 = .ok y μ2) (h : getD x y μ2 = o) : denE (.idx a b) env μ = o := by
  simp only [denE, ha, hb, bind_ok, h]
theorem nm {i : Nat} {q : Rat} {env : EnvD} {μ : Mem} (h : denE (.var i) env μ = .ok (qD q) μ) : denE (.idx (.var i) (.cst (.int 0))) env μ = .ok (.int q.num) μ := dE_idx h dE_cst get0
theorem dn {i : Nat} {q : Rat} {env : EnvD} {μ : Mem} (h : denE (.var i) env μ = .ok (qD q) μ) : denE (.idx (.var i) (.cst (.int 1))) env μ = .ok (.int (q.den : Nat)) μ := dE_idx h dE_cst get1
theorem small_mul {k l : Nat} {a b : Int} (h : Fits k a) (g : Fits l b) (hk : 0 < k) (hl : 0 < l) (hs : k + l ≤ 1000000) : a.natAbs.log2 + b.natAbs.log2 < 1000000 := by
  have := h.log hk
  have := g.log hl
  omega
def FnTimes : Fn := ⟨["one", "other"], ["one", "other"],
  .cons (.ret (.call "made" ["above", "below"] (runFn FnMade) (.cons (.bin false .Mult (.idx (.var 0) (.cst (.int 0))) (.idx (.var 1) (.cst (.int 0)))) (.cons (.bin false .Mult (.idx (.var 0) (.cst (.int 1))) (.idx (.var 1) (.cst (.int 1)))) (.nil))))) (.nil)⟩
def FnOver : Fn := ⟨["one", "other"], ["one", "other"],
  .cons (.ret (.call "made" ["above", "below"] (runFn FnMade) (.cons (.bin false .Mult (.idx (.var 0) (.cst (.int 0))) (.idx (.var 1) (.cst (.int 1)))) (.cons (.bin false .Mult (.idx (.var 0) (.cst (.int 1))) (.idx (.var 1) (.cst (.int 0)))) (.nil))))) (.nil)⟩
def FnPlus : Fn := ⟨["one", "other"], ["one", "other"],
  .cons (.ife (.cmp2 .Eq .Eq (.idx (.var 0) (.cst (.int 1))) (.idx (.var 1) (.cst (.int 1))) (.cst (.int 1))) (.cons (.ret (.tup (.cons (.bin false .Add (.idx (.var 0) (.cst (.int 0))) (.idx (.var 1) (.cst (.int 0)))) (.cons (.cst (.int 1)) (.nil))))) (.nil)) (.nil))
  (.cons (.ret (.call "made" ["above", "below"] (runFn FnMade) (.cons (.bin false .Add (.bin false .Mult (.idx (.var 0) (.cst (.int 0))) (.idx (.var 1) (.cst (.int 1)))) (.bin false .Mult (.idx (.var 1) (.cst (.int 0))) (.idx (.var 0) (.cst (.int 1))))) (.cons (.bin false .Mult (.idx (.var 0) (.cst (.int 1))) (.idx (.var 1) (.cst (.int 1)))) (.nil))))) (.nil))⟩
def FnOpposite : Fn := ⟨["one"], ["one"], .cons (.ret (.tup (.cons (.neg (.idx (.var 0) (.cst (.int 0)))) (.cons (.idx (.var 0) (.cst (.int 1))) (.nil))))) (.nil)⟩
def FnMinus : Fn := ⟨["one", "other"], ["one", "other"], .cons (.ret (.call "plus" ["one", "other"] (runFn FnPlus) (.cons (.var 0) (.cons (.call "opposite" ["one"] (runFn FnOpposite) (.cons (.var 1) (.nil))) (.nil))))) (.nil)⟩
def FnBelow : Fn := ⟨["one", "other"], ["one", "other"], .cons (.ret (.cmp .Lt (.bin false .Mult (.idx (.var 0) (.cst (.int 0))) (.idx (.var 1) (.cst (.int 1)))) (.bin false .Mult (.idx (.var 1) (.cst (.int 0))) (.idx (.var 0) (.cst (.int 1)))))) (.nil)⟩
section
variable {x y : Rat} {k : Nat} {μ : Mem}
theorem den_int_ne : ((x.den : Int) * (y.den : Int)) ≠ 0 := by
  have h1 := x.den_nz
  have h2 := y.den_nz
  intro z
  rcases Int.mul_eq_zero.mp z with q | q <;> omega
theorem times_ok (hx : Sz k x) (hy : Sz k y) (hk0 : 0 < k) (hk : k ≤ 4000) : runFn FnTimes [qD x, qD y] μ = .ok (qD (x * y)) μ ∧ Sz (k + k) (x * y) := by
  have f1 := hx.n.mul hy.n
  have f2 := hx.d.mul hy.d
  refine ⟨?_, by rw [← mul_frac]; exact sz_div den_int_ne f1 f2⟩
  have v0 : denE (.var 0) [some (qD x), some (qD y)] μ = .ok (qD x) μ := dE_var rfl
  have v1 : denE (.var 1) [some (qD x), some (qD y)] μ = .ok (qD y) μ := dE_var rfl
  refine run_ret rfl (ss_ret ?_)
  have m1 := dE_bin (mu := false) (nm v0) (nm v1) (mul_int (small_mul hx.n hy.n hk0 hk0 (by omega)))
  have m2 := dE_bin (mu := false) (dn v0) (dn v1) (mul_int (small_mul hx.d hy.d hk0 hk0 (by omega)))
  rw [← mul_frac]
  exact dE_call (dEs_cons m1 (dEs_cons m2 dEs_nil)) (made_ok den_int_ne f1 f2 (by omega) (by omega))
theorem over_ok (h0 : y ≠ 0) (hx : Sz k x) (hy : Sz k y) (hk0 : 0 < k) (hk : k ≤ 4000) : runFn FnOver [qD x, qD y] μ = .ok (qD (x / y)) μ ∧ Sz (k + k) (x / y) := by
  have f1 := hx.n.mul hy.d
  have f2 := hx.d.mul hy.n
  have ne : ((x.den : Int) * y.num) ≠ 0 := by
    have h1 := x.den_nz
    have h2 := num_ne h0
    intro z
    rcases Int.mul_eq_zero.mp z with q | q <;> omega
  refine ⟨?_, by rw [← div_frac x h0]; exact sz_div ne f1 f2⟩
  have v0 : denE (.var 0) [some (qD x), some (qD y)] μ = .ok (qD x) μ := dE_var rfl
  have v1 : denE (.var 1) [some (qD x), some (qD y)] μ = .ok (qD y) μ := dE_var rfl
  refine run_ret rfl (ss_ret ?_)
  have m1 := dE_bin (mu := false) (nm v0) (dn v1) (mul_int (small_mul hx.n hy.d hk0 hk0 (by omega)))
  have m2 := dE_bin (mu := false) (dn v0) (nm v1) (mul_int (small_mul hx.d hy.n hk0 hk0 (by omega)))
  rw [← div_frac x h0]
  exact dE_call (dEs_cons m1 (dEs_cons m2 dEs_nil)) (made_ok ne f1 f2 (by omega) (by omega))
theorem plus_ok (hx : Sz k x) (hy : Sz k y) (hk0 : 0 < k) (hk : k ≤ 4000) : runFn FnPlus [qD x, qD y] μ = .ok (qD (x + y)) μ ∧ Sz (k + k + 1) (x + y) := by
  have f1 := (hx.n.mul hy.d).add (hy.n.mul hx.d)
  have f2 := (hx.d.mul hy.d).up (Nat.le_succ _)
  refine ⟨?_, by rw [← add_frac]; exact sz_div den_int_ne f1 f2⟩
  have v0 : denE (.var 0) [some (qD x), some (qD y)] μ = .ok (qD x) μ := dE_var rfl
  have v1 : denE (.var 1) [some (qD x), some (qD y)] μ = .ok (qD y) μ := dE_var rfl
  refine run_ret rfl ?_
  show denSs FnPlus.body [some (qD x), some (qD y)] μ = _
  unfold FnPlus
  have t : denB (.cmp2 .Eq .Eq (.idx (.var 0) (.cst (.int 1))) (.idx (.var 1) (.cst (.int 1))) (.cst (.int 1))) [some (qD x), some (qD y)] μ = .ok (decide (x.den = y.den ∧ y.den = 1)) μ := by
    have c1 : cmpM .Eq (.int (x.den : Nat)) (.int (y.den : Nat)) μ = some (decide (x.den = y.den)) := by
      show some (((x.den : Nat) : Int) == (y.den : Nat)) = _
      congr 1
      rw [Bool.eq_iff_iff]; simp; omega
    have c2 : cmpD .Eq (.int (y.den : Nat)) (.int 1) μ = .ok (.bl (decide (y.den = 1))) μ := by
      show Out.ok (D.bl (((y.den : Nat) : Int) == 1)) μ = _
      congr 2
      rw [Bool.eq_iff_iff]; simp; omega
    simp only [denB, denE.eq_def (.cmp2 _ _ _ _ _), dn v0, dn v1, dE_cst, bind_ok, c1]
    by_cases h : x.den = y.den
    · simp only [decide_eq_true h, c2, bind_ok, truO, truM]
      by_cases h2 : y.den = 1 <;> simp [h, h2]
    · simp only [decide_eq_false h, bind_ok, truO, truM]
      simp [h]
  have e1 : denE (.tup (.cons (.bin false .Add (.idx (.var 0) (.cst (.int 0))) (.idx (.var 1) (.cst (.int 0)))) (.cons (.cst (.int 1)) (.nil)))) [some (qD x), some (qD y)] μ = .ok (.tup [.int (x.num + y.num), .int 1]) μ := by
    simp only [denE.eq_def (.tup _), dEs_cons (dE_bin (mu := false) (nm v0) (nm v1) PV.add_int) (dEs_cons (dE_cst (x := .int 1)) dEs_nil), bind_ok]
  have m1 := dE_bin (mu := false) (nm v0) (dn v1) (mul_int (small_mul hx.n hy.d hk0 hk0 (by omega)))
  have m2 := dE_bin (mu := false) (nm v1) (dn v0) (mul_int (small_mul hy.n hx.d hk0 hk0 (by omega)))
  have m3 := dE_bin (mu := false) (dn v0) (dn v1) (mul_int (small_mul hx.d hy.d hk0 hk0 (by omega)))
  have big := dE_call (n := "made") (ps := ["above", "below"]) (dEs_cons (dE_bin (mu := false) m1 m2 PV.add_int) (dEs_cons m3 dEs_nil)) (made_ok (μ := μ) den_int_ne f1 f2 (by omega) (by omega))
  rw [add_frac] at big
  rw [ss_ifR t fun _ => e1, ss_ret big]
  by_cases h : x.den = y.den ∧ y.den = 1
  · rw [decide_eq_true h, if_pos rfl]
    obtain ⟨h1, h2⟩ := h
    have hx1 : x = ((x.num : Int) : Rat) := by
      have := rat_eq x
      rw [h1, h2] at this
      grind
    have hy1 : y = ((y.num : Int) : Rat) := by
      have := rat_eq y
      rw [h2] at this
      grind
    have e : x + y = ((x.num + y.num : Int) : Rat) := by rw [Rat.intCast_add, ← hx1, ← hy1]
    rw [e]
    show _ = OutS.ok (.rt (.tup [.int (((x.num + y.num : Int) : Rat)).num, .int ((((x.num + y.num : Int) : Rat)).den : Nat)])) μ
    rw [Rat.num_intCast, Rat.den_intCast]
    rfl
  · rw [decide_eq_false h, if_neg Bool.false_ne_true]
theorem opp_ok : runFn FnOpposite [qD x] μ = .ok (qD (-x)) μ := by
  have v0 : denE (.var 0) [some (qD x)] μ = .ok (qD x) μ := dE_var rfl
  refine run_ret rfl (ss_ret ?_)
  have n1 : denE (.neg (.idx (.var 0) (.cst (.int 0)))) [some (qD x)] μ = .ok (.int (-x.num)) μ := by simp only [denE.eq_def (.neg _), nm v0, bind_ok]
  have e : qD (-x) = .tup [.int (-x.num), .int (x.den : Nat)] := by simp only [qD, Rat.neg_num, Rat.neg_den]
  rw [e]
  show denE _ [some (qD x)] μ = _
  simp only [denE.eq_def (.tup _), dEs_cons n1 (dEs_cons (dn v0) dEs_nil), bind_ok]
theorem Sz.neg (hx : Sz k x) : Sz k (-x) := ⟨by rw [Rat.neg_num]; exact hx.n.neg, by rw [Rat.neg_den]; exact hx.d⟩
theorem minus_ok (hx : Sz k x) (hy : Sz k y) (hk0 : 0 < k) (hk : k ≤ 4000) : runFn FnMinus [qD x, qD y] μ = .ok (qD (x - y)) μ ∧ Sz (k + k + 1) (x - y) := by
  obtain ⟨h1, h2⟩ := plus_ok (μ := μ) hx hy.neg hk0 hk
  rw [← Rat.sub_eq_add_neg] at h1 h2
  refine ⟨run_ret rfl (ss_ret (dE_call (dEs_cons (dE_var rfl) (dEs_cons (dE_call (dEs_cons (dE_var rfl) dEs_nil) opp_ok) dEs_nil)) h1)), h2⟩
theorem below_ok (hx : Sz k x) (hy : Sz k y) (hk0 : 0 < k) (hk : k ≤ 4000) : runFn FnBelow [qD x, qD y] μ = .ok (.bl (decide (x < y))) μ := by
  have v0 : denE (.var 0) [some (qD x), some (qD y)] μ = .ok (qD x) μ := dE_var rfl
  have v1 : denE (.var 1) [some (qD x), some (qD y)] μ = .ok (qD y) μ := dE_var rfl
  have m1 := dE_bin (mu := false) (nm v0) (dn v1) (mul_int (small_mul hx.n hy.d hk0 hk0 (by omega)))
  have m2 := dE_bin (mu := false) (nm v1) (dn v0) (mul_int (small_mul hy.n hx.d hk0 hk0 (by omega)))
  refine run_ret rfl (ss_ret (dE_cmp m1 m2 ?_))
  show some (decide (x.num * (y.den : Int) < y.num * (x.den : Int))) = _
  congr 1
  rw [decide_eq_decide]
  exact lt_frac x y
end
end PV

set_option maxRecDepth 100000
set_option maxHeartbeats 4000000
namespace PV
open PySem PySem.Spec PyProof.Rows L2
/-! ## a law's own fractions -/
def FnLGcd : Fn := ⟨["a", "b"], ["a", "b"],
  .cons (.par2 0 1 (.blt .abs false (.cons (.var 0) (.nil))) (.blt .abs false (.cons (.var 1) (.nil))))
  (.cons (.whl fuel (.cmp .Gt (.var 1) (.cst (.int 0))) (.cons (.par2 0 1 (.var 1) (.bin false .Mod (.blt .int false (.cons (.var 0) (.nil))) (.var 1))) (.nil)))
  (.cons (.ret (.var 0)) (.nil)))⟩
abbrev lgS : Ss := .cons (.par2 0 1 (.var 1) (.bin false .Mod (.blt .int false (.cons (.var 0) (.nil))) (.var 1))) .nil
theorem lg_turn {h l : Nat} (hp : 0 < l) {μ : Mem} : denSs lgS [some (.int (h : Int)), some (.int (l : Int))] μ = .ok (.nx [some (.int (l : Int)), some (.int ((h % l : Nat) : Int))]) μ := by
  have v0 : denE (.var 0) [some (.int (h : Int)), some (.int (l : Int))] μ = .ok (.int (h : Int)) μ := dE_var rfl
  have v1 : denE (.var 1) [some (.int (h : Int)), some (.int (l : Int))] μ = .ok (.int (l : Int)) μ := dE_var rfl
  rw [ss_par2 v1 (dE_bin (dE_blt1 v0 int_int) v1 (mod_int (by omega))), ss_end]
  simp only [List.set_cons_succ, List.set_cons_zero]
  rw [← Int.natCast_emod]
theorem lg_test {h l : Nat} {μ : Mem} : denB (.cmp .Gt (.var 1) (.cst (.int 0))) [some (.int (h : Int)), some (.int (l : Int))] μ = .ok (decide (0 < l)) μ := by
  refine dB_cmp (op := .Gt) (x := .int (l : Int)) (y := .int 0) (dE_var rfl) dE_cst ?_
  show some (decide ((0 : Int) < (l : Int))) = _
  congr 1
  rw [decide_eq_decide]; omega
theorem lg_loop {μ : Mem} (l h m : Nat) (hlh : l ≤ h) (hm : l * h < 2 ^ m) (n : Nat) (hn : m < n) :
    whileL (denB (.cmp .Gt (.var 1) (.cst (.int 0)))) (denSs lgS) n [some (.int (h : Int)), some (.int (l : Int))] μ = .ok (.nx [some (.int (Nat.gcd l h : Nat)), some (.int 0)]) μ := by
  have := while_inv (c := denB (.cmp .Gt (.var 1) (.cst (.int 0)))) (f := denSs lgS)
    (P := fun k env μ' => μ' = μ ∧ ∃ l' h' : Nat, env = [some (.int (h' : Int)), some (.int (l' : Int))] ∧ l' ≤ h' ∧ l' * h' < 2 ^ k ∧ Nat.gcd l' h' = Nat.gcd l h)
    (Q := fun env μ' => μ' = μ ∧ env = [some (.int (Nat.gcd l h : Nat)), some (.int 0)]) (fun k env μ' ⟨hμ, l', h', he, h1, h2, h3⟩ => by
      subst hμ; subst he
      by_cases h0 : l' = 0
      · subst h0
        refine .inl ⟨lg_test, rfl, ?_⟩
        rw [← h3, Nat.gcd_zero_left]; rfl
      · have hp : 0 < l' := Nat.pos_of_ne_zero h0
        cases k with
        | zero =>
          exfalso
          have : 0 < l' * h' := Nat.mul_pos hp (by omega)
          omega
        | succ k =>
          refine .inr ⟨by rw [lg_test, decide_eq_true hp], _, _, k, lg_turn hp, Nat.lt_succ_self k, rfl, h' % l', l', rfl, Nat.le_of_lt (Nat.mod_lt _ hp), gcd_turn hp h1 h2, ?_⟩
          exact (Nat.gcd_rec l' h').symm.trans h3) n m _ μ hn ⟨rfl, l, h, rfl, hlh, hm, rfl⟩
  obtain ⟨env', μ', e, rfl, rfl⟩ := this
  exact e
theorem lgcd_ok {a b : Int} {μ : Mem} {k : Nat} (ha : Fits k a) (hb : Fits k b) (hk : k ≤ 400000) : runFn FnLGcd [.int a, .int b] μ = .ok (.int (Int.gcd a b : Nat)) μ := by
  refine run_ret rfl ?_
  show denSs FnLGcd.body [some (.int a), some (.int b)] μ = _
  unfold FnLGcd
  have va : denE (.var 0) [some (.int a), some (.int b)] μ = .ok (.int a) μ := dE_var rfl
  have vb : denE (.var 1) [some (.int a), some (.int b)] μ = .ok (.int b) μ := dE_var rfl
  rw [ss_par2 (dE_blt1 va abs_int) (dE_blt1 vb abs_int), abs_nat, abs_nat]
  simp only [List.set_cons_succ, List.set_cons_zero]
  have hprod : a.natAbs * b.natAbs < 2 ^ (k + k) := by
    rw [Nat.pow_add]
    exact Nat.mul_lt_mul'' ha hb
  have main : whileL (denB (.cmp .Gt (.var 1) (.cst (.int 0)))) (denSs lgS) fuel [some (.int (a.natAbs : Nat)), some (.int (b.natAbs : Nat))] μ = .ok (.nx [some (.int (Int.gcd a b : Nat)), some (.int 0)]) μ := by
    by_cases h : b.natAbs ≤ a.natAbs
    · have := lg_loop (μ := μ) b.natAbs a.natAbs (k + k) h (by rw [Nat.mul_comm]; exact hprod) fuel (by show k + k < 1000000; omega)
      rw [Nat.gcd_comm] at this
      exact this
    · have hp : 0 < b.natAbs := by omega
      have := lg_loop (μ := μ) a.natAbs b.natAbs (k + k) (by omega) hprod 999999 (by omega)
      refine (while_go (n := 999999) (lg_test.trans (by rw [decide_eq_true hp])) ((lg_turn hp).trans ?_)).trans this
      rw [Nat.mod_eq_of_lt (by omega)]
  exact ss_nx (whl_eq.trans main) (ss_ret (dE_var rfl))
def FnLFrac : Fn := ⟨["a", "b"], ["a", "b", "c"],
  .cons (.asg (.nm 2) (.call "_law_gcd" ["a", "b"] (runFn FnLGcd) (.cons (.var 0) (.cons (.var 1) (.nil)))))
  (.cons (.ret (.ife (.cmp .Gt (.var 1) (.cst (.int 0))) (.tup (.cons (.bin false .FloorDiv (.var 0) (.var 2)) (.cons (.bin false .FloorDiv (.var 1) (.var 2)) (.nil)))) (.tup (.cons (.bin false .Sub (.cst (.int 0)) (.bin false .FloorDiv (.var 0) (.var 2))) (.cons (.bin false .Sub (.cst (.int 0)) (.bin false .FloorDiv (.var 1) (.var 2))) (.nil)))))) (.nil))⟩
theorem lfrac_ok {a b : Int} {μ : Mem} {k : Nat} (hb : b ≠ 0) (fa : Fits k a) (fb : Fits k b) (hk0 : 0 < k) (hk : k ≤ 9000) : runFn FnLFrac [.int a, .int b] μ = .ok (qD ((a : Rat) / (b : Rat))) μ := by
  refine run_ret rfl ?_
  show denSs FnLFrac.body [some (.int a), some (.int b), none] μ = _
  unfold FnLFrac
  have va : denE (.var 0) [some (.int a), some (.int b), none] μ = .ok (.int a) μ := dE_var rfl
  have vb : denE (.var 1) [some (.int a), some (.int b), none] μ = .ok (.int b) μ := dE_var rfl
  rw [ss_asg (dE_call (dEs_cons va (dEs_cons vb dEs_nil)) (lgcd_ok fa fb (by omega)))]
  simp only [List.set_cons_succ, List.set_cons_zero]
  generalize he : [some (D.int a), some (D.int b), some (D.int (Int.gcd a b : Nat))] = env
  have wa : denE (.var 0) env μ = .ok (.int a) μ := dE_var (by rw [← he]; rfl)
  have wb : denE (.var 1) env μ = .ok (.int b) μ := dE_var (by rw [← he]; rfl)
  have wc : denE (.var 2) env μ = .ok (.int (Int.gcd a b : Nat)) μ := dE_var (by rw [← he]; rfl)
  have gp : 0 < Int.gcd a b := Int.gcd_pos_of_ne_zero_right a hb
  have gl : Fits k ((Int.gcd a b : Nat) : Int) := by
    unfold Fits at *
    refine Nat.lt_of_le_of_lt ?_ fb
    rw [Int.natAbs_natCast]
    exact Nat.le_of_dvd (by omega) (Nat.gcd_dvd_right _ _)
  have lg : ((Int.gcd a b : Nat) : Int).natAbs.log2 < 9000 := Nat.lt_of_lt_of_le (gl.log hk0) hk
  have d1 := dE_bin (mu := false) wa wc (div_int (by omega) lg)
  have d2 := dE_bin (mu := false) wb wc (div_int (by omega) lg)
  have t : denB (.cmp .Gt (.var 1) (.cst (.int 0))) env μ = .ok (decide (0 < b)) μ := dB_cmp (op := .Gt) (x := .int b) (y := .int 0) wb dE_cst rfl
  refine ss_ret ((dE_ife t).trans ?_)
  by_cases h : 0 < b
  · obtain ⟨n, rfl⟩ := Int.eq_ofNat_of_zero_le (show 0 ≤ b by omega)
    obtain ⟨n1, n2⟩ := rat_num (a := a) (b := n) (by omega)
    rw [decide_eq_true h, if_pos rfl]
    simp only [denE.eq_def (.tup _), dEs_cons d1 (dEs_cons d2 dEs_nil), bind_ok, qD, n1, n2]
    rw [Int.natCast_ediv]
  · rw [decide_eq_false h, if_neg Bool.false_ne_true]
    have z1 := dE_bin (mu := false) (dE_cst (x := .int 0)) d1 PV.sub_int
    have z2 := dE_bin (mu := false) (dE_cst (x := .int 0)) d2 PV.sub_int
    simp only [denE.eq_def (.tup _), dEs_cons z1 (dEs_cons z2 dEs_nil), bind_ok]
    obtain ⟨n, hn⟩ := Int.eq_ofNat_of_zero_le (show 0 ≤ -b by omega)
    have e : (a : Rat) / (b : Rat) = ((-a : Int) : Rat) / ((-b : Int) : Rat) := by
      have h1 : ((-a : Int) : Rat) = -(a : Rat) := Rat.intCast_neg a
      have h2 : ((-b : Int) : Rat) = -(b : Rat) := Rat.intCast_neg b
      have h3 : (b : Rat) ≠ 0 := fun z => hb (Rat.intCast_inj.mp z)
      rw [h1, h2]
      grind
    obtain ⟨n1, n2⟩ := rat_num (a := -a) (b := n) (by omega)
    have bn : b = -(n : Int) := by omega
    have ge : Int.gcd (-a) (n : Int) = Int.gcd a b := by rw [bn, Int.neg_gcd, Int.gcd_neg]
    have da : ((Int.gcd a b : Nat) : Int) ∣ a := Int.gcd_dvd_left a b
    have db : ((Int.gcd a b : Nat) : Int) ∣ b := Int.gcd_dvd_right a b
    have e1 : (-a) / ((Int.gcd a b : Nat) : Int) = 0 - a / ((Int.gcd a b : Nat) : Int) := by rw [Int.neg_ediv_of_dvd da]; omega
    have e2 : ((n / Int.gcd a b : Nat) : Int) = 0 - b / ((Int.gcd a b : Nat) : Int) := by
      rw [Int.natCast_ediv, ← hn, Int.neg_ediv_of_dvd db]; omega
    rw [e, hn]
    simp only [qD, n1, n2, ge, e1, e2]
end PV

set_option maxRecDepth 100000
set_option maxHeartbeats 4000000
namespace PV
open PySem PySem.Spec PyProof.Rows L2
abbrev gLF : G := runFn FnLFrac
abbrev xE (i j : Nat) : E := .idx (.var i) (.cst (.int (j : Int)))
def FnLTimesA : Fn := ⟨["x", "y"], ["x", "y"],
  .cons (.ret (.ife (.and (.cmp .NotEq (.idx (.var 0) (.cst (.int 0))) (.cst (.int 0))) (.cmp .NotEq (.idx (.var 1) (.cst (.int 0))) (.cst (.int 0)))) (.call "_law_frac" ["a", "b"] gLF (.cons (.bin false .Mult (.idx (.var 0) (.cst (.int 0))) (.idx (.var 1) (.cst (.int 0)))) (.cons (.bin false .Mult (.idx (.var 0) (.cst (.int 1))) (.idx (.var 1) (.cst (.int 1)))) (.nil)))) (.tup (.cons (.cst (.int 0)) (.cons (.cst (.int 1)) (.nil)))))) (.nil)⟩
def FnLTimesB : Fn := ⟨["x", "y"], ["x", "y"],
  .cons (.ret (.call "_law_frac" ["a", "b"] gLF (.cons (.bin false .Mult (.idx (.var 0) (.cst (.int 0))) (.idx (.var 1) (.cst (.int 0)))) (.cons (.bin false .Mult (.idx (.var 0) (.cst (.int 1))) (.idx (.var 1) (.cst (.int 1)))) (.nil))))) (.nil)⟩
abbrev lpE : E := .call "_law_frac" ["a", "b"] gLF (.cons (.bin false .Add (.bin false .Mult (.idx (.var 0) (.cst (.int 0))) (.idx (.var 1) (.cst (.int 1)))) (.bin false .Mult (.idx (.var 1) (.cst (.int 0))) (.idx (.var 0) (.cst (.int 1))))) (.cons (.bin false .Mult (.idx (.var 0) (.cst (.int 1))) (.idx (.var 1) (.cst (.int 1)))) (.nil)))
def FnLPlusA : Fn := ⟨["x", "y"], ["x", "y"],
  .cons (.ife (.or (.cmp .Eq (.idx (.var 0) (.cst (.int 0))) (.cst (.int 0))) (.cmp .Eq (.idx (.var 1) (.cst (.int 0))) (.cst (.int 0)))) (.cons (.ret (.ife (.cmp .Eq (.idx (.var 0) (.cst (.int 0))) (.cst (.int 0))) (.var 1) (.var 0))) (.nil)) (.nil))
  (.cons (.ret lpE) (.nil))⟩
def FnLPlusB : Fn := ⟨["x", "y"], ["x", "y"], .cons (.ret lpE) (.nil)⟩
def FnLMinus : Fn := ⟨["x"], ["x"], .cons (.ret (.tup (.cons (.bin false .Sub (.cst (.int 0)) (.idx (.var 0) (.cst (.int 0)))) (.cons (.idx (.var 0) (.cst (.int 1))) (.nil))))) (.nil)⟩
def FnLOver : Fn := ⟨["x", "y"], ["x", "y"],
  .cons (.ret (.call "_law_frac" ["a", "b"] gLF (.cons (.bin false .Mult (.idx (.var 0) (.cst (.int 0))) (.idx (.var 1) (.cst (.int 1)))) (.cons (.bin false .Mult (.idx (.var 0) (.cst (.int 1))) (.idx (.var 1) (.cst (.int 0)))) (.nil))))) (.nil)⟩
def FnLBelow : Fn := ⟨["x", "y"], ["x", "y"], .cons (.ret (.cmp .Lt (.bin false .Mult (.idx (.var 0) (.cst (.int 0))) (.idx (.var 1) (.cst (.int 1)))) (.bin false .Mult (.idx (.var 1) (.cst (.int 0))) (.idx (.var 0) (.cst (.int 1)))))) (.nil)⟩
section
variable {x y : Rat} {k : Nat} {μ : Mem}
theorem qD_zero : qD 0 = .tup [.int 0, .int 1] := rfl
theorem eq0 {i : Int} : cmpM .Eq (.int i) (.int 0) μ = some (decide (i = 0)) := by
  show some (i == 0) = _
  have : (i == 0) = decide (i = 0) := by rw [Bool.eq_iff_iff]; simp
  rw [this]
theorem ne0 {i : Int} : cmpM .NotEq (.int i) (.int 0) μ = some (decide (i ≠ 0)) := by
  show some (!(i == 0)) = _
  have : (!(i == 0)) = decide (i ≠ 0) := by rw [Bool.eq_iff_iff]; simp
  rw [this]
theorem num0 : x.num = 0 ↔ x = 0 := Rat.num_eq_zero
theorem lt_e (hx : Sz k x) (hy : Sz k y) (hk0 : 0 < k) (hk : k ≤ 4000) {env : EnvD} (v0 : denE (.var 0) env μ = .ok (qD x) μ) (v1 : denE (.var 1) env μ = .ok (qD y) μ) :
    denE (.call "_law_frac" ["a", "b"] gLF (.cons (.bin false .Mult (.idx (.var 0) (.cst (.int 0))) (.idx (.var 1) (.cst (.int 0)))) (.cons (.bin false .Mult (.idx (.var 0) (.cst (.int 1))) (.idx (.var 1) (.cst (.int 1)))) (.nil)))) env μ = .ok (qD (x * y)) μ := by
  have m1 := dE_bin (mu := false) (nm v0) (nm v1) (mul_int (small_mul hx.n hy.n hk0 hk0 (by omega)))
  have m2 := dE_bin (mu := false) (dn v0) (dn v1) (mul_int (small_mul hx.d hy.d hk0 hk0 (by omega)))
  rw [← mul_frac]
  exact dE_call (dEs_cons m1 (dEs_cons m2 dEs_nil)) (lfrac_ok den_int_ne (hx.n.mul hy.n) (hx.d.mul hy.d) (by omega) (by omega))
theorem lp_e (hx : Sz k x) (hy : Sz k y) (hk0 : 0 < k) (hk : k ≤ 4000) {env : EnvD} (v0 : denE (.var 0) env μ = .ok (qD x) μ) (v1 : denE (.var 1) env μ = .ok (qD y) μ) : denE lpE env μ = .ok (qD (x + y)) μ := by
  have m1 := dE_bin (mu := false) (nm v0) (dn v1) (mul_int (small_mul hx.n hy.d hk0 hk0 (by omega)))
  have m2 := dE_bin (mu := false) (nm v1) (dn v0) (mul_int (small_mul hy.n hx.d hk0 hk0 (by omega)))
  have m3 := dE_bin (mu := false) (dn v0) (dn v1) (mul_int (small_mul hx.d hy.d hk0 hk0 (by omega)))
  rw [← add_frac]
  exact dE_call (dEs_cons (dE_bin (mu := false) m1 m2 PV.add_int) (dEs_cons m3 dEs_nil)) (lfrac_ok (k := k + k + 1) den_int_ne ((hx.n.mul hy.d).add (hy.n.mul hx.d)) ((hx.d.mul hy.d).up (Nat.le_succ _)) (by omega) (by omega))
theorem sz_mul (hx : Sz k x) (hy : Sz k y) : Sz (k + k) (x * y) := by rw [← mul_frac]; exact sz_div den_int_ne (hx.n.mul hy.n) (hx.d.mul hy.d)
theorem sz_add (hx : Sz k x) (hy : Sz k y) : Sz (k + k + 1) (x + y) := by rw [← add_frac]; exact sz_div den_int_ne ((hx.n.mul hy.d).add (hy.n.mul hx.d)) ((hx.d.mul hy.d).up (Nat.le_succ _))
theorem ltimesB_ok (hx : Sz k x) (hy : Sz k y) (hk0 : 0 < k) (hk : k ≤ 4000) : runFn FnLTimesB [qD x, qD y] μ = .ok (qD (x * y)) μ := run_ret rfl (ss_ret (lt_e hx hy hk0 hk (dE_var rfl) (dE_var rfl)))
theorem ltimesA_ok (hx : Sz k x) (hy : Sz k y) (hk0 : 0 < k) (hk : k ≤ 4000) : runFn FnLTimesA [qD x, qD y] μ = .ok (qD (x * y)) μ := by
  have v0 : denE (.var 0) [some (qD x), some (qD y)] μ = .ok (qD x) μ := dE_var rfl
  have v1 : denE (.var 1) [some (qD x), some (qD y)] μ = .ok (qD y) μ := dE_var rfl
  have t := dB_and (dB_cmp (nm v0) (dE_cst (x := .int 0)) ne0) fun _ => dB_cmp (nm v1) (dE_cst (x := .int 0)) ne0
  refine run_ret rfl (ss_ret ((dE_ife t).trans ?_))
  by_cases h1 : x.num = 0
  · have hx0 : x = 0 := num0.mp h1
    subst hx0
    rw [Rat.zero_mul, qD_zero]
    simp [denE, denEs]
  · by_cases h2 : y.num = 0
    · have hy0 : y = 0 := num0.mp h2
      subst hy0
      rw [Rat.mul_zero, qD_zero]
      simp [denE, denEs]
    · rw [decide_eq_true h1, decide_eq_true h2, Bool.and_self, if_pos rfl]
      exact lt_e hx hy hk0 hk v0 v1
theorem lplusB_ok (hx : Sz k x) (hy : Sz k y) (hk0 : 0 < k) (hk : k ≤ 4000) : runFn FnLPlusB [qD x, qD y] μ = .ok (qD (x + y)) μ := run_ret rfl (ss_ret (lp_e hx hy hk0 hk (dE_var rfl) (dE_var rfl)))
theorem lplusA_ok (hx : Sz k x) (hy : Sz k y) (hk0 : 0 < k) (hk : k ≤ 4000) : runFn FnLPlusA [qD x, qD y] μ = .ok (qD (x + y)) μ := by
  have v0 : denE (.var 0) [some (qD x), some (qD y)] μ = .ok (qD x) μ := dE_var rfl
  have v1 : denE (.var 1) [some (qD x), some (qD y)] μ = .ok (qD y) μ := dE_var rfl
  have t0 := dB_cmp (nm v0) (dE_cst (x := .int 0)) (eq0 (i := x.num))
  have t := dB_or t0 fun _ => dB_cmp (nm v1) (dE_cst (x := .int 0)) (eq0 (i := y.num))
  refine run_ret rfl ?_
  show denSs FnLPlusA.body [some (qD x), some (qD y)] μ = _
  unfold FnLPlusA
  have e : denE (.ife (.cmp .Eq (.idx (.var 0) (.cst (.int 0))) (.cst (.int 0))) (.var 1) (.var 0)) [some (qD x), some (qD y)] μ = .ok (if x.num = 0 then qD y else qD x) μ := by
    rw [dE_ife t0, v0, v1]
    by_cases h : x.num = 0 <;> simp [h]
  rw [ss_ifR t fun _ => e]
  by_cases h1 : x.num = 0
  · have hx0 : x = 0 := num0.mp h1
    subst hx0
    rw [Rat.zero_add]
    simp
  · by_cases h2 : y.num = 0
    · have hy0 : y = 0 := num0.mp h2
      subst hy0
      rw [Rat.add_zero]
      simp [h1]
    · rw [decide_eq_false h1, decide_eq_false h2, Bool.or_self, if_neg Bool.false_ne_true]
      exact ss_ret (lp_e hx hy hk0 hk v0 v1)
theorem lminus_ok : runFn FnLMinus [qD x] μ = .ok (qD (-x)) μ := by
  have v0 : denE (.var 0) [some (qD x)] μ = .ok (qD x) μ := dE_var rfl
  have e : qD (-x) = .tup [.int (0 - x.num), .int (x.den : Nat)] := by simp only [qD, Rat.neg_num, Rat.neg_den, Int.zero_sub]
  refine run_ret rfl (ss_ret ?_)
  rw [e]
  show denE _ [some (qD x)] μ = _
  simp only [denE.eq_def (.tup _), dEs_cons (dE_bin (mu := false) (dE_cst (x := .int 0)) (nm v0) PV.sub_int) (dEs_cons (dn v0) dEs_nil), bind_ok]
theorem lover_ok (h0 : y ≠ 0) (hx : Sz k x) (hy : Sz k y) (hk0 : 0 < k) (hk : k ≤ 4000) : runFn FnLOver [qD x, qD y] μ = .ok (qD (x / y)) μ := by
  have v0 : denE (.var 0) [some (qD x), some (qD y)] μ = .ok (qD x) μ := dE_var rfl
  have v1 : denE (.var 1) [some (qD x), some (qD y)] μ = .ok (qD y) μ := dE_var rfl
  have ne : ((x.den : Int) * y.num) ≠ 0 := by
    have h1 := x.den_nz
    have h2 := num_ne h0
    intro z
    rcases Int.mul_eq_zero.mp z with q | q <;> omega
  have m1 := dE_bin (mu := false) (nm v0) (dn v1) (mul_int (small_mul hx.n hy.d hk0 hk0 (by omega)))
  have m2 := dE_bin (mu := false) (dn v0) (nm v1) (mul_int (small_mul hx.d hy.n hk0 hk0 (by omega)))
  refine run_ret rfl (ss_ret ?_)
  rw [← div_frac x h0]
  exact dE_call (dEs_cons m1 (dEs_cons m2 dEs_nil)) (lfrac_ok ne (hx.n.mul hy.d) (hx.d.mul hy.n) (by omega) (by omega))
theorem lbelow_ok (hx : Sz k x) (hy : Sz k y) (hk0 : 0 < k) (hk : k ≤ 4000) : runFn FnLBelow [qD x, qD y] μ = .ok (.bl (decide (x < y))) μ := by
  have v0 : denE (.var 0) [some (qD x), some (qD y)] μ = .ok (qD x) μ := dE_var rfl
  have v1 : denE (.var 1) [some (qD x), some (qD y)] μ = .ok (qD y) μ := dE_var rfl
  have m1 := dE_bin (mu := false) (nm v0) (dn v1) (mul_int (small_mul hx.n hy.d hk0 hk0 (by omega)))
  have m2 := dE_bin (mu := false) (nm v1) (dn v0) (mul_int (small_mul hy.n hx.d hk0 hk0 (by omega)))
  refine run_ret rfl (ss_ret (dE_cmp m1 m2 ?_))
  show some (decide (x.num * (y.den : Int) < y.num * (x.den : Int))) = _
  congr 1
  rw [decide_eq_decide]
  exact lt_frac x y
end
end PV

set_option maxRecDepth 100000
set_option maxHeartbeats 4000000
namespace PV
open PySem PySem.Spec PyProof.Rows L2
/-! ## the bag, drawn from by a while -/
def BagW (rest μ : Mem) : Prop := ∃ cs b m, μ = Bag cs b m rest ∧ MixOk m ∧ cs.length ≤ 63
theorem BagW.len {rest μ : Mem} (h : BagW rest μ) : μ.length = rest.length + 2 := by
  obtain ⟨cs, b, m, rfl, _⟩ := h
  simp
abbrev dwC : E := (.and (.cmp .Eq (.idx (.var 0) (.cst (.int 1))) (.cst (.int 0))) (.cmp .NotEq (.idx (.var 0) (.cst (.int 0))) (.lst false (.nil))))
abbrev dwS : Ss := (.cons (.asg (.nm 2) (.mth .pop (.idx (.var 0) (.cst (.int 0))) .nil)) (.cons (.asg (.sub (.var 0) (.cst (.int 1))) (.ife (.cmp .Gt (.var 2) (.bin false .Pow (.cst (.int 10)) (.cst (.int 9)))) (.var 2) (.cst (.int 0)))) (.nil)))
abbrev dwDivI : E := (.bin false .FloorDiv (.blt .int false (.cons (.idx (.var 0) (.cst (.int 1))) (.nil))) (.var 1))
abbrev dwDiv : E := (.bin false .FloorDiv (.idx (.var 0) (.cst (.int 1))) (.var 1))
abbrev dwRest (e : E) : Ss := (.cons (.ife (.cmp .Gt (.idx (.var 0) (.cst (.int 1))) (.cst (.int 0)))
    (.cons (.asg (.nm 3) (.bin false .Mod (.blt .int false (.cons (.idx (.var 0) (.cst (.int 1))) (.nil))) (.var 1)))
    (.cons (.asg (.sub (.var 0) (.cst (.int 1))) e)
    (.cons (.ret (.var 3)) (.nil)))) (.nil))
  (.cons (.asg (.sub (.var 0) (.cst (.int 2))) (.bin false .Mod (.blt .int false (.cons (.bin false .Add (.bin false .Mult (.idx (.var 0) (.cst (.int 2))) (.cst (.int 48271))) (.cst (.int 11))) (.nil))) (.cst (.int 2147483647))))
  (.cons (.ret (.bin false .Mod (.blt .int false (.cons (.bin false .FloorDiv (.bin false .Mod (.blt .int false (.cons (.bin false .Mult (.idx (.var 0) (.cst (.int 2))) (.idx (.var 0) (.cst (.int 2)))) (.nil))) (.cst (.int 2147483629))) (.cst (.int 7))) (.nil))) (.var 1))) (.nil))))
def FnDrawW (e : E) : Fn := ⟨["bag", "below"], ["bag", "below", "cell", "found"], .cons (.whl fuel dwC dwS) (dwRest e)⟩
section
variable {cs : List Int} {b m : Int} {rest : Mem}
theorem drawW_loop {n : Int} (hl : cs.length ≤ 63) : ∃ o2 cs' b', whileL (denB dwC) (denSs dwS) fuel [some (.ref 1), some (.int n), none, none] (Bag cs b m rest) = .ok (.nx [some (.ref 1), some (.int n), o2, none]) (Bag cs' b' m rest) ∧ cs'.length ≤ 63 := by
  have := while_inv (c := denB dwC) (f := denSs dwS)
    (P := fun k env μ => ∃ o2 cs b, env = [some (.ref 1), some (.int n), o2, none] ∧ μ = Bag cs b m rest ∧ cs.length = k ∧ k ≤ 63)
    (Q := fun env μ => ∃ o2 cs b, env = [some (.ref 1), some (.int n), o2, none] ∧ μ = Bag cs b m rest ∧ cs.length ≤ 63) (fun k env μ ⟨o2, cs, b, he, hμ, hk, h63⟩ => by
      subst he; subst hμ
      have g1 : getD (.ref 1) (.int 1) (Bag cs b m rest) = .ok (.int b) (Bag cs b m rest) := bag1 (k := 1) rfl (by omega)
      have g0 : getD (.ref 1) (.int 0) (Bag cs b m rest) = .ok (.ref 0) (Bag cs b m rest) := bag1 (k := 0) rfl (by omega)
      have q := eq_nil_cell (cs := cs) (b := b) (m := m) (rest := rest)
      have x1 : denE (.idx (.var 0) (.cst (.int 1))) [some (.ref 1), some (.int n), o2, none] (Bag cs b m rest) = .ok (.int b) (Bag cs b m rest) := dE_idx (dE_var rfl) dE_cst g1
      have x0 : denE (.idx (.var 0) (.cst (.int 0))) [some (.ref 1), some (.int n), o2, none] (Bag cs b m rest) = .ok (.ref 0) (Bag cs b m rest) := dE_idx (dE_var rfl) dE_cst g0
      have xn : denE (.lst false .nil) [some (.ref 1), some (.int n), o2, none] (Bag cs b m rest) = .ok (.lst []) (Bag cs b m rest) := by simp [denE, denEs, newList]
      have c2 : cmpM .NotEq (.ref 0) (.lst []) (Bag cs b m rest) = some (decide (cs ≠ [])) := by
        show (match eqM (.ref 0) (.lst []) (Bag cs b m rest) with | some b => some (!b) | none => none) = _
        rw [q]
        simp
      have t := dB_and (dB_cmp x1 (dE_cst (x := .int 0)) (eq0 (i := b))) fun _ => dB_cmp x0 xn c2
      by_cases hb : b = 0
      · cases hc : cs.getLast? with
        | none =>
          have hn : cs = [] := List.getLast?_eq_none_iff.mp hc
          refine .inl ⟨by rw [t]; simp [hn], o2, cs, b, rfl, rfl, by omega⟩
        | some c =>
          obtain ⟨ds, rfl⟩ := List.getLast?_eq_some_iff.mp hc
          refine .inr ⟨by rw [t]; simp [hb], [some (.ref 1), some (.int n), some (.int c), none], Bag ds (if 1000000000 < c then c else 0) m rest, ds.length, ?_, by rw [← hk]; simp, some (.int c), ds, _, rfl, rfl, rfl, by simp at hk; omega⟩
          have pp := popBag (cs := ds) (c := c) (b := b) (m := m) (rest := rest)
          have sq : asList (.ref 0) (Bag (ds ++ [c]) b m rest) = some ((ds ++ [c]).map D.int) := rfl
          have s1 := setBag1 (cs := ds) (b := b) (m := m) (rest := rest) (v := if 1000000000 < c then c else 0)
          have h1 : getD (.ref 1) (.int 1) (Bag ds b m rest) = .ok (.int b) (Bag ds b m rest) := bag1 (k := 1) rfl (by omega)
          by_cases h9 : 1000000000 < c
          · rw [if_pos h9] at s1 ⊢
            simp [denTg, denSs, denS, seqD, denB, denE, denEs, g0, cmpD, cmpM, ofOpt, truM, truO, pp, sq, asgD, Out.safe, binD, powD, h1, s1, h9]
          · rw [if_neg h9] at s1 ⊢
            simp [denTg, denSs, denS, seqD, denB, denE, denEs, g0, cmpD, cmpM, ofOpt, truM, truO, pp, sq, asgD, Out.safe, binD, powD, h1, s1, h9]
      · refine .inl ⟨by rw [t]; simp [hb], o2, cs, b, rfl, rfl, by omega⟩) fuel cs.length [some (.ref 1), some (.int n), none, none] (Bag cs b m rest) (by show cs.length < 1000000; omega) ⟨none, cs, b, rfl, rfl, rfl, hl⟩
  obtain ⟨env', μ', e, o2, cs', b', rfl, rfl, h⟩ := this
  exact ⟨o2, cs', b', e, h⟩
theorem drawW_ok {e : E} (he : e = dwDivI ∨ e = dwDiv) {n : Int} {μ : Mem} (h : BagW rest μ) (hn : 0 < n) (hl : n.natAbs.log2 < 9000) : ∃ v μ', runFn (FnDrawW e) [.ref 1, .int n] μ = .ok (.int v) μ' ∧ 0 ≤ v ∧ v < n ∧ BagW rest μ' := by
  obtain ⟨cs0, b0, m, rfl, hm, h63⟩ := h
  obtain ⟨o2, cs, b, e0, hc63⟩ := drawW_loop (b := b0) (m := m) (rest := rest) (n := n) h63
  have g1 : getD (.ref 1) (.int 1) (Bag cs b m rest) = .ok (.int b) (Bag cs b m rest) := bag1 (k := 1) rfl (by omega)
  have g2 : getD (.ref 1) (.int 2) (Bag cs b m rest) = .ok (.int m) (Bag cs b m rest) := bag1 (k := 2) rfl (by omega)
  have st : ∀ {r : OutS}, denSs (dwRest e) [some (.ref 1), some (.int n), o2, none] (Bag cs b m rest) = r → denSs (FnDrawW e).body [some (.ref 1), some (.int n), none, none] (Bag cs0 b0 m rest) = r := fun {r} q => ss_nx (whl_eq.trans e0) q
  by_cases hb : 0 < b
  · have s1 := setBag1 (cs := cs) (b := b) (m := m) (rest := rest) (v := b / n)
    refine ⟨b % n, Bag cs (b / n) m rest, ?_, Int.emod_nonneg _ (by omega), Int.emod_lt_of_pos _ hn, cs, b / n, m, rfl, hm, hc63⟩
    refine (run_retM (d := .int (b % n)) (μ1 := Bag cs (b / n) m rest) rfl (st ?_)).trans (finish_same rfl)
    rcases he with rfl | rfl
    · simp [denSs, denS, seqD, denB, denE, denEs, g1, cmpD, cmpM, ofOpt, truM, truO, hb, int_int, mod_int hn, div_int hn hl, denTg, asgD, Out.safe, s1]
    · simp [denSs, denS, seqD, denB, denE, denEs, g1, cmpD, cmpM, ofOpt, truM, truO, hb, int_int, mod_int hn, div_int hn hl, denTg, asgD, Out.safe, s1]
  · have s2 := setBag2 (cs := cs) (b := b) (m := m) (rest := rest) (v := (m * 48271 + 11) % 2147483647)
    have g3 : getD (.ref 1) (.int 2) (Bag cs b ((m * 48271 + 11) % 2147483647) rest) = .ok (.int ((m * 48271 + 11) % 2147483647)) (Bag cs b ((m * 48271 + 11) % 2147483647) rest) := bag1 (k := 2) rfl (by omega)
    have hm2 : MixOk ((m * 48271 + 11) % 2147483647) := ⟨Int.emod_nonneg _ (by omega), Int.emod_lt_of_pos _ (by omega)⟩
    have l1 : m.natAbs.log2 + (48271 : Int).natAbs.log2 < 1000000 := by
      have := log_lt hm.1 (Int.lt_trans hm.2 (by omega))
      have e : (48271 : Int).natAbs.log2 = 15 := by decide
      omega
    have l2 : ((m * 48271 + 11) % 2147483647).natAbs.log2 + ((m * 48271 + 11) % 2147483647).natAbs.log2 < 1000000 := by
      have := log_lt hm2.1 (Int.lt_trans hm2.2 (by omega))
      omega
    have l3 : (7 : Int).natAbs.log2 < 9000 := by decide
    generalize hq : (m * 48271 + 11) % 2147483647 = q at *
    refine ⟨(q * q % 2147483629 / 7) % n, Bag cs b q rest, ?_, Int.emod_nonneg _ (by omega), Int.emod_lt_of_pos _ hn, cs, b, q, rfl, hm2, hc63⟩
    refine (run_retM (d := .int ((q * q % 2147483629 / 7) % n)) (μ1 := Bag cs b q rest) rfl (st ?_)).trans (finish_same rfl)
    simp [denSs, denS, seqD, denB, denE, denEs, g1, g2, cmpD, cmpM, ofOpt, truM, truO, hb, int_int, add_int, mul_int l1, mul_int l2, mod_int (b := 2147483647) (by omega), mod_int (b := 2147483629) (by omega), mod_int hn, div_int (b := 7) (by omega) l3, denTg, asgD, Out.safe, hq, s2, g3]
end
end PV

set_option maxRecDepth 100000
set_option maxHeartbeats 4000000
namespace PV
open PySem PySem.Spec PyProof.Rows L2
/-! ### what is shown of numbers -/
theorem sh_fits {i : Int} {k n : Nat} (h : Fits 1900 i) : ShB 2000 k n (.int i) := by
  have hl : i.natAbs.log2 < 1920 := Nat.lt_of_lt_of_le (h.log (by omega)) (by omega)
  refine sh_int hl ?_
  rw [PyData.shown_int]
  exact Nat.le_trans (int_text_len_1921 hl) (by omega)
theorem sh_q {q : Rat} {k : Nat} (h : Sz 1900 q) : ShB 2000 (k + 1) 2 (qD q) := (sh_tup (k := k) (shl_cons (n := 0) (sh_fits h.n) (shl_cons (n := 0) (m := 0) (sh_fits h.d) shl_nil))).up (by omega) (by omega)
/-! ### told == due and repr(told) == repr(due) -/
def FnIs : Fn := ⟨["told", "due"], ["told", "due"], .cons (.ret (.and (.cmp .Eq (.var 0) (.var 1)) (.cmp .Eq (.blt .repr false (.cons (.var 0) .nil)) (.blt .repr false (.cons (.var 1) .nil))))) .nil⟩
theorem is_ok {B k n : Nat} {d : D} {μ : Mem} (h : ShB B k n d) (hB : 8 ≤ B) (hk : k ≤ 60) (hn : (B + 2) * n + B ≤ lim) : runFn FnIs [d, d] μ = .ok (.bl true) μ := by
  obtain ⟨p, h1, h2, h3⟩ := h.repr hB hk hn μ
  refine run_ret rfl (ss_ret ?_)
  have e : eqM d d μ = some true := h.eq hk μ
  have e2 : eqM (.str p.shown) (.str p.shown) μ = some true := by simp [eqM]
  simp [denE, denEs, bltD, h2, cmpD, cmpM, e, e2, ofOpt, truM]
/-! ### the bag made of the cells as they are -/
def FnBagW (c : Int) : Fn := ⟨["script"], ["script", "cells", "cell", "mixed"],
  .cons (.asg (.nm 1) (.comp false [2] (.nm 2) (.val (.slc false (.var 0) .no (.yes (.cst (.int 63))))) .no (.blt .abs false (.cons (.var 2) (.nil)))))
  (.cons (.asg (.nm 3) (.bin false .Add (.cst (.int c)) (.blt .len false (.cons (.var 1) (.nil)))))
  (.cons (.fore (.nm 2) (.val (.var 1)) (.cons (.asg (.nm 3) (.bin false .Mod (.blt .int false (.cons (.bin false .Add (.bin false .Add (.bin false .Mult (.var 3) (.cst (.int 48271))) (.bin false .Mod (.blt .int false (.cons (.var 2) (.nil))) (.cst (.int 2147483629)))) (.cst (.int 7))) (.nil))) (.cst (.int 2147483647)))) (.nil)))
  (.cons (.ret (.lst true (.cons (.lrev true (.blt .list false (.cons (.var 1) (.nil)))) (.cons (.cst (.int 0)) (.cons (.var 3) (.nil)))))) (.nil))))⟩
abbrev bwS : Ss := (.cons (.asg (.nm 3) (.bin false .Mod (.blt .int false (.cons (.bin false .Add (.bin false .Add (.bin false .Mult (.var 3) (.cst (.int 48271))) (.bin false .Mod (.blt .int false (.cons (.var 2) (.nil))) (.cst (.int 2147483629)))) (.cst (.int 7))) (.nil))) (.cst (.int 2147483647)))) (.nil))
theorem bagW_ok {c : Int} {ns : List Int} (hl : ns.length ≤ 63) (hc : 0 ≤ c ∧ c ≤ 1000000000) : ∃ μ, runFn (FnBagW c) [.scr (ns.map D.int)] [] = .ok (.ref 1) μ ∧ BagW [] μ := by
  let S : Option D := some (.scr (ns.map D.int))
  let C : D := .lst (ns.map fun i => .int (absI i))
  have s1 : denS (.asg (.nm 1) (.comp false [2] (.nm 2) (.val (.slc false (.var 0) .no (.yes (.cst (.int 63))))) .no (.blt .abs false (.cons (.var 2) (.nil))))) [S, none, none, none] [] = .ok (.nx [S, some C, none, none]) [] := by
    have hc : cutD (ns.map D.int) none (some 63) = ns.map D.int := cut_all (by rw [List.length_map]; omega)
    simp [S, C, denS, denE, denIt, denEo, slcD, newList, hc, itemsD, wipeD]
    rw [compL_map (k := fun i => .int (absI i)) rfl fun a _ => ?_]
    · simp [asgD, denTg]
    · simp [denTg, denC, denE, denEs, bltD, absI]
  have s2 : denS (.asg (.nm 3) (.bin false .Add (.cst (.int c)) (.blt .len false (.cons (.var 1) (.nil))))) [S, some C, none, none] [] = .ok (.nx [S, some C, none, some (.int (c + ns.length))]) [] := by
    simp [C, denS, denE, denEs, bltD, lenM, asSeq, asList, binD, addD, asgD, denTg]
  have fl := forL_inv (g := []) (e := fun i => D.int (absI i)) (xs := ns) (f := fun x env μ => stepD (denTg (.nm 2) x env μ) (denSs bwS))
    (P := fun _ env μ => μ = [] ∧ ∃ o2 m, MixOk m ∧ env = [S, some C, o2, some (.int m)]) (env := [S, some C, none, some (.int (c + ns.length))]) (μ := []) (fun _ _ _ _ => rfl) ⟨rfl, none, _, ⟨by omega, by omega⟩, rfl⟩ (fun a xs env μ ⟨hμ, o2, m, hm, he⟩ => by
      subst hμ; subst he
      have l1 : m.natAbs.log2 + (48271 : Int).natAbs.log2 < 1000000 := by
        have := log_lt hm.1 (Int.lt_trans hm.2 (by omega))
        have e : (48271 : Int).natAbs.log2 = 15 := by decide
        omega
      refine ⟨[S, some C, some (.int (absI a)), some (.int ((m * 48271 + absI a % 2147483629 + 7) % 2147483647))], [], ?_, rfl, _, _, ⟨Int.emod_nonneg _ (by omega), Int.emod_lt_of_pos _ (by omega)⟩, rfl⟩
      simp [stepD, denTg, denSs, denS, seqD, denE, denEs, int_int, add_int, mul_int l1, mod_int (b := 2147483647) (by omega), mod_int (b := 2147483629) (by omega), asgD])
  obtain ⟨env', μ', e1, rfl, o2, m, hm, rfl⟩ := fl
  refine ⟨Bag (ns.map absI).reverse 0 m [], ?_, _, _, _, rfl, hm, by simpa using hl⟩
  have e4 : runFn (FnBagW c) [.scr (ns.map D.int)] [] = finish 0 (.ref 1) (Bag (ns.map absI).reverse 0 m []) := by
    refine run_retM rfl (ss_nx s1 (ss_nx s2 (ss_nx ((for_eq (p := (ns.map fun i => .int (absI i), [])) rfl).trans e1) (ss_rt ?_))))
    simp [C, denS, denE, denEs, bltD, asSeq, asList, newList]
  rw [e4]
  rfl
end PV

set_option maxRecDepth 100000
set_option maxHeartbeats 4000000
namespace K56
open PySem PySem.Spec PyProof.Rows L2 PV
def topS (i : Nat) : Stmt := PySem.Challenge.pw_hitsalike_k56_whole_next_weights.main.body.getD i (.Pass ⟨0, 0, 0, 0⟩)
/-! ### _law_own_bag -/
def fn_u_law_own_bag : Fn := ⟨["script"], ["script", "cells", "cell", "mixed"],
.cons (.asg (.nm 1) (.comp false [2] (.nm 2) (.val (.slc false (.var 0) .no (.yes (.cst (.int 63))))) .no (.blt .abs false (.cons (.var 2) (.nil)))))
   (.cons (.asg (.nm 3) (.bin false .Add (.cst (.int 21639056)) (.blt .len false (.cons (.var 1) (.nil)))))
   (.cons (.fore (.nm 2) (.val (.var 1))
   (.cons (.asg (.nm 3) (.bin false .Mod (.blt .int false (.cons (.bin false .Add (.bin false .Add (.bin false .Mult (.var 3) (.cst (.int 48271))) (.bin false .Mod (.blt .int false (.cons (.var 2) (.nil))) (.cst (.int 2147483629)))) (.cst (.int 7))) (.nil))) (.cst (.int 2147483647))))
   (.nil)))
   (.cons (.ret (.lst true (.cons (.lrev true (.blt .list false (.cons (.var 1) (.nil)))) (.cons (.cst (.int 0)) (.cons (.var 3) (.nil))))))
   (.nil))))⟩
def g_u_law_own_bag : G := runFn fn_u_law_own_bag
theorem sc_u_law_own_bag : FnScope fn_u_law_own_bag.N fn_u_law_own_bag.ps (defScope (topS 25)) := ⟨rfl, rfl, rfl, by decide +kernel, rfl, by decide +kernel, by decide +kernel⟩
theorem b_u_law_own_bag {P : Program} {w : World} {K : PySem.W.Frag} {mg : Str → Option Value} {base : Heap} {f : Addr} {cdv : Value} {A : Around} {outer : List Env} {s : Shared} {H : Hp} (G : Good (Cxb P w K mg base fn_u_law_own_bag "_law_own_bag" (topS 25) f cdv A outer s H) P w K mg base 0) (z_abs : mg "abs" = none) (z_len : mg "len" = none) (z_int : mg "int" = none) (z_list : mg "list" = none) (z_reversed : mg "reversed" = none) :
 PSs (Cxb P w K mg base fn_u_law_own_bag "_law_own_bag" (topS 25) f cdv A outer s H) (defBody (topS 25)) (tS K NW (denSs fn_u_law_own_bag.body)) :=
 have B := G.b
 have hr := G.room
 have nd := sc_u_law_own_bag.nd
 ss_cons (s_comp (own := [("cell", 2)]) B nd rfl rfl (sw_true rfl rfl rfl rfl) (blkOk_by rfl) (by decide) (i_val (x_slc (x_var rfl (vis rfl)) o_no (o_yes (x_int)))) (fun _ _ _ _ _ => g_own nd rfl rfl) (fun _ _ _ _ _ => c_no) (fun _ _ _ _ _ => x_bltB B.blk rfl (gl rfl) z_abs bo_abs (a_cons (x_var rfl (vis rfl)) (a_nil))))
   (ss_cons (s_asg (x_bin (x_int) (x_bltB B rfl (gl rfl) z_len bo_len (a_cons (x_var rfl (vis rfl)) (a_nil)))) (g_nm nd rfl (loc rfl) (.inl rfl)))
   (ss_cons (s_for B PassesOwn.never (i_val (x_var rfl (vis rfl))) (g_nm nd rfl (loc rfl) (.inl rfl))
   (ss_cons (s_asg (x_bin (x_bltT B rfl (gl rfl) z_int bo_int (a_cons (x_bin (x_bin (x_bin (x_var rfl (vis rfl)) (x_int)) (x_bin (x_bltT B rfl (gl rfl) z_int bo_int (a_cons (x_var rfl (vis rfl)) (a_nil))) (x_int))) (x_int)) (a_nil))) (x_int)) (g_nm nd rfl (loc rfl) (.inl rfl)))
   (ss_nil)))
   (ss_cons (s_ret (x_lst (a_cons (x_lrev B (gl rfl) z_list (gl rfl) z_reversed (x_bltT B rfl (gl rfl) z_list bo_list (a_cons (x_var rfl (vis rfl)) (a_nil)))) (a_cons (x_int) (a_cons (x_var rfl (vis rfl)) (a_nil))))))
   (ss_nil))))
theorem ok_u_law_own_bag {P : Program} {w : World} {K : PySem.W.Frag} {mg : Str → Option Value} {base : Heap} {f : Addr} {fd : FuncData} (F : Fun K "_law_own_bag" "_law_own_bag" (topS 25) f fd) (z_abs : mg "abs" = none) (z_len : mg "len" = none) (z_int : mg "int" = none) (z_list : mg "list" = none) (z_reversed : mg "reversed" = none) : GOk P w K mg base 1 f fd ["script"] g_u_law_own_bag := body_ok (F := fn_u_law_own_bag) F sc_u_law_own_bag fun A outer s H cdv G => b_u_law_own_bag G z_abs z_len z_int z_list z_reversed
theorem cl_u_law_own_bag {P : Program} {w : World} {K : PySem.W.Frag} {mg : Str → Option Value} {base : Heap} {f : Addr} {fd : FuncData} (F : Fun K "_law_own_bag" "_law_own_bag" (topS 25) f fd) (hm : mg "_law_own_bag" = some (.ref f)) (z_abs : mg "abs" = none) (z_len : mg "len" = none) (z_int : mg "int" = none) (z_list : mg "list" = none) (z_reversed : mg "reversed" = none) : Cle P w K mg base 1 "_law_own_bag" ["script"] [] g_u_law_own_bag := by
  refine ⟨⟨f, fd, ok_u_law_own_bag F z_abs z_len z_int z_list z_reversed, hm, F.kp, ?_, ?_⟩⟩
  all_goals (obtain ⟨oc, od, kV, doc, pm, an, cdv, ct, osl, rfl, lk, hcd⟩ := F.ex)
  · exact fun us hl => match us, hl with | [_], _ => rfl
  · exact List.forall_mem_nil _
/-! ### _law_draw -/
def fn_u_law_draw : Fn := ⟨["bag", "below"], ["bag", "below", "cell", "found"],
.cons (.whl fuel (.and (.cmp .Eq (.idx (.var 0) (.cst (.int 1))) (.cst (.int 0))) (.cmp .NotEq (.idx (.var 0) (.cst (.int 0))) (.lst false (.nil))))
   (.cons (.asg (.nm 2) (.mth .pop (.idx (.var 0) (.cst (.int 0))) .nil))
   (.cons (.asg (.sub (.var 0) (.cst (.int 1))) (.ife (.cmp .Gt (.var 2) (.bin false .Pow (.cst (.int 10)) (.cst (.int 9)))) (.var 2) (.cst (.int 0))))
   (.nil))))
   (.cons (.ife (.cmp .Gt (.idx (.var 0) (.cst (.int 1))) (.cst (.int 0)))
   (.cons (.asg (.nm 3) (.bin false .Mod (.blt .int false (.cons (.idx (.var 0) (.cst (.int 1))) (.nil))) (.var 1)))
   (.cons (.asg (.sub (.var 0) (.cst (.int 1))) (.bin false .FloorDiv (.blt .int false (.cons (.idx (.var 0) (.cst (.int 1))) (.nil))) (.var 1)))
   (.cons (.ret (.var 3))
   (.nil)))) (.nil))
   (.cons (.asg (.sub (.var 0) (.cst (.int 2))) (.bin false .Mod (.blt .int false (.cons (.bin false .Add (.bin false .Mult (.idx (.var 0) (.cst (.int 2))) (.cst (.int 48271))) (.cst (.int 11))) (.nil))) (.cst (.int 2147483647))))
   (.cons (.ret (.bin false .Mod (.blt .int false (.cons (.bin false .FloorDiv (.bin false .Mod (.blt .int false (.cons (.bin false .Mult (.idx (.var 0) (.cst (.int 2))) (.idx (.var 0) (.cst (.int 2)))) (.nil))) (.cst (.int 2147483629))) (.cst (.int 7))) (.nil))) (.var 1)))
   (.nil))))⟩
def g_u_law_draw : G := runFn fn_u_law_draw
theorem sc_u_law_draw : FnScope fn_u_law_draw.N fn_u_law_draw.ps (defScope (topS 26)) := ⟨rfl, rfl, rfl, by decide +kernel, rfl, by decide +kernel, by decide +kernel⟩
theorem b_u_law_draw {P : Program} {w : World} {K : PySem.W.Frag} {mg : Str → Option Value} {base : Heap} {f : Addr} {cdv : Value} {A : Around} {outer : List Env} {s : Shared} {H : Hp} (G : Good (Cxb P w K mg base fn_u_law_draw "_law_draw" (topS 26) f cdv A outer s H) P w K mg base 0) (z_int : mg "int" = none) :
 PSs (Cxb P w K mg base fn_u_law_draw "_law_draw" (topS 26) f cdv A outer s H) (defBody (topS 26)) (tS K NW (denSs fn_u_law_draw.body)) :=
 have B := G.b
 have hr := G.room
 have nd := sc_u_law_draw.nd
 ss_cons (s_whl PassesOwn.never (PW.pt (w_and (t_cmp B (x_idx (x_var rfl (vis rfl)) (x_int)) (x_int)) (w_and1 (t_cmp B (x_idx (x_var rfl (vis rfl)) (x_int)) (x_lst (a_nil))))))
   (ss_cons (s_asg (x_mth0 (by rfl) PySem.F.slot_list_pop PySem.F.type_list_pop (x_idx (x_var rfl (vis rfl)) (x_int))) (g_nm nd rfl (loc rfl) (.inl rfl)))
   (ss_cons (s_asg (x_ife (t_cmp B (x_var rfl (vis rfl)) (x_bin (x_int) (x_int))) (x_var rfl (vis rfl)) (x_int)) (g_sub (x_var rfl (vis rfl)) (x_int)))
   (ss_nil))))
   (ss_cons (s_ife (t_cmp B (x_idx (x_var rfl (vis rfl)) (x_int)) (x_int))
   (ss_cons (s_asg (x_bin (x_bltT B rfl (gl rfl) z_int bo_int (a_cons (x_idx (x_var rfl (vis rfl)) (x_int)) (a_nil))) (x_var rfl (vis rfl))) (g_nm nd rfl (loc rfl) (.inl rfl)))
   (ss_cons (s_asg (x_bin (x_bltT B rfl (gl rfl) z_int bo_int (a_cons (x_idx (x_var rfl (vis rfl)) (x_int)) (a_nil))) (x_var rfl (vis rfl))) (g_sub (x_var rfl (vis rfl)) (x_int)))
   (ss_cons (s_ret (x_var rfl (vis rfl)))
   (ss_nil)))) (ss_nil))
   (ss_cons (s_asg (x_bin (x_bltT B rfl (gl rfl) z_int bo_int (a_cons (x_bin (x_bin (x_idx (x_var rfl (vis rfl)) (x_int)) (x_int)) (x_int)) (a_nil))) (x_int)) (g_sub (x_var rfl (vis rfl)) (x_int)))
   (ss_cons (s_ret (x_bin (x_bltT B rfl (gl rfl) z_int bo_int (a_cons (x_bin (x_bin (x_bltT B rfl (gl rfl) z_int bo_int (a_cons (x_bin (x_idx (x_var rfl (vis rfl)) (x_int)) (x_idx (x_var rfl (vis rfl)) (x_int))) (a_nil))) (x_int)) (x_int)) (a_nil))) (x_var rfl (vis rfl))))
   (ss_nil))))
theorem ok_u_law_draw {P : Program} {w : World} {K : PySem.W.Frag} {mg : Str → Option Value} {base : Heap} {f : Addr} {fd : FuncData} (F : Fun K "_law_draw" "_law_draw" (topS 26) f fd) (z_int : mg "int" = none) : GOk P w K mg base 1 f fd ["bag", "below"] g_u_law_draw := body_ok (F := fn_u_law_draw) F sc_u_law_draw fun A outer s H cdv G => b_u_law_draw G z_int
theorem cl_u_law_draw {P : Program} {w : World} {K : PySem.W.Frag} {mg : Str → Option Value} {base : Heap} {f : Addr} {fd : FuncData} (F : Fun K "_law_draw" "_law_draw" (topS 26) f fd) (hm : mg "_law_draw" = some (.ref f)) (z_int : mg "int" = none) : Cle P w K mg base 1 "_law_draw" ["bag", "below"] [] g_u_law_draw := by
  refine ⟨⟨f, fd, ok_u_law_draw F z_int, hm, F.kp, ?_, ?_⟩⟩
  all_goals (obtain ⟨oc, od, kV, doc, pm, an, cdv, ct, osl, rfl, lk, hcd⟩ := F.ex)
  · exact fun us hl => match us, hl with | [_, _], _ => rfl
  · exact List.forall_mem_nil _
/-! ### _law_gcd -/
def fn_u_law_gcd : Fn := ⟨["a", "b"], ["a", "b"],
.cons (.par2 0 1 (.blt .abs false (.cons (.var 0) (.nil))) (.blt .abs false (.cons (.var 1) (.nil))))
   (.cons (.whl fuel (.cmp .Gt (.var 1) (.cst (.int 0)))
   (.cons (.par2 0 1 (.var 1) (.bin false .Mod (.blt .int false (.cons (.var 0) (.nil))) (.var 1)))
   (.nil)))
   (.cons (.ret (.var 0))
   (.nil)))⟩
def g_u_law_gcd : G := runFn fn_u_law_gcd
theorem sc_u_law_gcd : FnScope fn_u_law_gcd.N fn_u_law_gcd.ps (defScope (topS 29)) := ⟨rfl, rfl, rfl, by decide +kernel, rfl, by decide +kernel, by decide +kernel⟩
theorem b_u_law_gcd {P : Program} {w : World} {K : PySem.W.Frag} {mg : Str → Option Value} {base : Heap} {f : Addr} {cdv : Value} {A : Around} {outer : List Env} {s : Shared} {H : Hp} (G : Good (Cxb P w K mg base fn_u_law_gcd "_law_gcd" (topS 29) f cdv A outer s H) P w K mg base 0) (z_abs : mg "abs" = none) (z_int : mg "int" = none) :
 PSs (Cxb P w K mg base fn_u_law_gcd "_law_gcd" (topS 29) f cdv A outer s H) (defBody (topS 29)) (tS K NW (denSs fn_u_law_gcd.body)) :=
 have B := G.b
 have hr := G.room
 have nd := sc_u_law_gcd.nd
 ss_cons (s_par2 B nd rfl rfl (by decide) rfl rfl (a_cons (x_bltB B rfl (gl rfl) z_abs bo_abs (a_cons (x_var rfl (vis rfl)) (a_nil))) (a_cons (x_bltB B rfl (gl rfl) z_abs bo_abs (a_cons (x_var rfl (vis rfl)) (a_nil))) a_nil)) rfl)
   (ss_cons (s_whl PassesOwn.never (t_cmp B (x_var rfl (vis rfl)) (x_int))
   (ss_cons (s_par2 B nd rfl rfl (by decide) rfl rfl (a_cons (x_var rfl (vis rfl)) (a_cons (x_bin (x_bltT B rfl (gl rfl) z_int bo_int (a_cons (x_var rfl (vis rfl)) (a_nil))) (x_var rfl (vis rfl))) a_nil)) rfl)
   (ss_nil)))
   (ss_cons (s_ret (x_var rfl (vis rfl)))
   (ss_nil)))
theorem ok_u_law_gcd {P : Program} {w : World} {K : PySem.W.Frag} {mg : Str → Option Value} {base : Heap} {f : Addr} {fd : FuncData} (F : Fun K "_law_gcd" "_law_gcd" (topS 29) f fd) (z_abs : mg "abs" = none) (z_int : mg "int" = none) : GOk P w K mg base 1 f fd ["a", "b"] g_u_law_gcd := body_ok (F := fn_u_law_gcd) F sc_u_law_gcd fun A outer s H cdv G => b_u_law_gcd G z_abs z_int
theorem cl_u_law_gcd {P : Program} {w : World} {K : PySem.W.Frag} {mg : Str → Option Value} {base : Heap} {f : Addr} {fd : FuncData} (F : Fun K "_law_gcd" "_law_gcd" (topS 29) f fd) (hm : mg "_law_gcd" = some (.ref f)) (z_abs : mg "abs" = none) (z_int : mg "int" = none) : Cle P w K mg base 1 "_law_gcd" ["a", "b"] [] g_u_law_gcd := by
  refine ⟨⟨f, fd, ok_u_law_gcd F z_abs z_int, hm, F.kp, ?_, ?_⟩⟩
  all_goals (obtain ⟨oc, od, kV, doc, pm, an, cdv, ct, osl, rfl, lk, hcd⟩ := F.ex)
  · exact fun us hl => match us, hl with | [_, _], _ => rfl
  · exact List.forall_mem_nil _
/-! ### _law_frac -/
def fn_u_law_frac : Fn := ⟨["a", "b"], ["a", "b", "c"],
.cons (.asg (.nm 2) (.call "_law_gcd" ["a", "b"] g_u_law_gcd (.cons (.var 0) (.cons (.var 1) (.nil)))))
   (.cons (.ret (.ife (.cmp .Gt (.var 1) (.cst (.int 0))) (.tup (.cons (.bin false .FloorDiv (.var 0) (.var 2)) (.cons (.bin false .FloorDiv (.var 1) (.var 2)) (.nil)))) (.tup (.cons (.bin false .Sub (.cst (.int 0)) (.bin false .FloorDiv (.var 0) (.var 2))) (.cons (.bin false .Sub (.cst (.int 0)) (.bin false .FloorDiv (.var 1) (.var 2))) (.nil))))))
   (.nil))⟩
def g_u_law_frac : G := runFn fn_u_law_frac
theorem sc_u_law_frac : FnScope fn_u_law_frac.N fn_u_law_frac.ps (defScope (topS 30)) := ⟨rfl, rfl, rfl, by decide +kernel, rfl, by decide +kernel, by decide +kernel⟩
theorem b_u_law_frac {P : Program} {w : World} {K : PySem.W.Frag} {mg : Str → Option Value} {base : Heap} {f : Addr} {cdv : Value} {A : Around} {outer : List Env} {s : Shared} {H : Hp} (G : Good (Cxb P w K mg base fn_u_law_frac "_law_frac" (topS 30) f cdv A outer s H) P w K mg base 1) (c_u_law_gcd : Cle P w K mg base 1 "_law_gcd" ["a", "b"] [] g_u_law_gcd) :
 PSs (Cxb P w K mg base fn_u_law_frac "_law_frac" (topS 30) f cdv A outer s H) (defBody (topS 30)) (tS K NW (denSs fn_u_law_frac.body)) :=
 have B := G.b
 have hr := G.room
 have nd := sc_u_law_frac.nd
 ss_cons (s_asg (x_call c_u_law_gcd hr (by decide) B (gl rfl) (a_cons (x_var rfl (vis rfl)) (a_cons (x_var rfl (vis rfl)) (a_nil)))) (g_nm nd rfl (loc rfl) (.inl rfl)))
   (ss_cons (s_ret (x_ife (t_cmp B (x_var rfl (vis rfl)) (x_int)) (x_tup (a_cons (x_bin (x_var rfl (vis rfl)) (x_var rfl (vis rfl))) (a_cons (x_bin (x_var rfl (vis rfl)) (x_var rfl (vis rfl))) (a_nil)))) (x_tup (a_cons (x_bin (x_int) (x_bin (x_var rfl (vis rfl)) (x_var rfl (vis rfl)))) (a_cons (x_bin (x_int) (x_bin (x_var rfl (vis rfl)) (x_var rfl (vis rfl)))) (a_nil))))))
   (ss_nil))
theorem ok_u_law_frac {P : Program} {w : World} {K : PySem.W.Frag} {mg : Str → Option Value} {base : Heap} {f : Addr} {fd : FuncData} (F : Fun K "_law_frac" "_law_frac" (topS 30) f fd) (c_u_law_gcd : Cle P w K mg base 1 "_law_gcd" ["a", "b"] [] g_u_law_gcd) : GOk P w K mg base 2 f fd ["a", "b"] g_u_law_frac := body_ok (F := fn_u_law_frac) F sc_u_law_frac fun A outer s H cdv G => b_u_law_frac G c_u_law_gcd
theorem cl_u_law_frac {P : Program} {w : World} {K : PySem.W.Frag} {mg : Str → Option Value} {base : Heap} {f : Addr} {fd : FuncData} (F : Fun K "_law_frac" "_law_frac" (topS 30) f fd) (hm : mg "_law_frac" = some (.ref f)) (c_u_law_gcd : Cle P w K mg base 1 "_law_gcd" ["a", "b"] [] g_u_law_gcd) : Cle P w K mg base 2 "_law_frac" ["a", "b"] [] g_u_law_frac := by
  refine ⟨⟨f, fd, ok_u_law_frac F c_u_law_gcd, hm, F.kp, ?_, ?_⟩⟩
  all_goals (obtain ⟨oc, od, kV, doc, pm, an, cdv, ct, osl, rfl, lk, hcd⟩ := F.ex)
  · exact fun us hl => match us, hl with | [_, _], _ => rfl
  · exact List.forall_mem_nil _
/-! ### _law_great_weight -/
def fn_u_law_great_weight : Fn := ⟨["bag"], ["bag", "way"],
.cons (.asg (.nm 1) (.call "_law_draw" ["bag", "below"] g_u_law_draw (.cons (.var 0) (.cons (.cst (.int 6)) (.nil)))))
   (.cons (.ife (.cmp .Eq (.var 1) (.cst (.int 0)))
   (.cons (.ret (.tup (.cons (.bin false .Sub (.bin false .Pow (.cst (.int 10)) (.cst (.int 9))) (.call "_law_draw" ["bag", "below"] g_u_law_draw (.cons (.var 0) (.cons (.cst (.int 3)) (.nil))))) (.cons (.cst (.int 1)) (.nil)))))
   (.nil)) (.nil))
   (.cons (.ife (.cmp .Eq (.var 1) (.cst (.int 1)))
   (.cons (.ret (.call "_law_frac" ["a", "b"] g_u_law_frac (.cons (.bin false .Add (.cst (.int 1)) (.call "_law_draw" ["bag", "below"] g_u_law_draw (.cons (.var 0) (.cons (.cst (.int 5)) (.nil))))) (.cons (.bin false .Sub (.bin false .Pow (.cst (.int 10)) (.cst (.int 6))) (.call "_law_draw" ["bag", "below"] g_u_law_draw (.cons (.var 0) (.cons (.cst (.int 3)) (.nil))))) (.nil)))))
   (.nil)) (.nil))
   (.cons (.ret (.call "_law_frac" ["a", "b"] g_u_law_frac (.cons (.bin false .Add (.cst (.int 1)) (.call "_law_draw" ["bag", "below"] g_u_law_draw (.cons (.var 0) (.cons (.cst (.int 12)) (.nil))))) (.cons (.bin false .Add (.cst (.int 1)) (.bin false .FloorDiv (.call "_law_draw" ["bag", "below"] g_u_law_draw (.cons (.var 0) (.cons (.cst (.int 4)) (.nil)))) (.cst (.int 2)))) (.nil)))))
   (.nil))))⟩
def g_u_law_great_weight : G := runFn fn_u_law_great_weight
theorem sc_u_law_great_weight : FnScope fn_u_law_great_weight.N fn_u_law_great_weight.ps (defScope (topS 35)) := ⟨rfl, rfl, rfl, by decide +kernel, rfl, by decide +kernel, by decide +kernel⟩
theorem b_u_law_great_weight {P : Program} {w : World} {K : PySem.W.Frag} {mg : Str → Option Value} {base : Heap} {f : Addr} {cdv : Value} {A : Around} {outer : List Env} {s : Shared} {H : Hp} (G : Good (Cxb P w K mg base fn_u_law_great_weight "_law_great_weight" (topS 35) f cdv A outer s H) P w K mg base 2) (c_u_law_draw : Cle P w K mg base 1 "_law_draw" ["bag", "below"] [] g_u_law_draw) (c_u_law_frac : Cle P w K mg base 2 "_law_frac" ["a", "b"] [] g_u_law_frac) :
 PSs (Cxb P w K mg base fn_u_law_great_weight "_law_great_weight" (topS 35) f cdv A outer s H) (defBody (topS 35)) (tS K NW (denSs fn_u_law_great_weight.body)) :=
 have B := G.b
 have hr := G.room
 have nd := sc_u_law_great_weight.nd
 ss_cons (s_asg (x_call c_u_law_draw hr (by decide) B (gl rfl) (a_cons (x_var rfl (vis rfl)) (a_cons (x_int) (a_nil)))) (g_nm nd rfl (loc rfl) (.inl rfl)))
   (ss_cons (s_ife (t_cmp B (x_var rfl (vis rfl)) (x_int))
   (ss_cons (s_ret (x_tup (a_cons (x_bin (x_bin (x_int) (x_int)) (x_call c_u_law_draw hr (by decide) B (gl rfl) (a_cons (x_var rfl (vis rfl)) (a_cons (x_int) (a_nil))))) (a_cons (x_int) (a_nil)))))
   (ss_nil)) (ss_nil))
   (ss_cons (s_ife (t_cmp B (x_var rfl (vis rfl)) (x_int))
   (ss_cons (s_ret (x_call c_u_law_frac hr (by decide) B (gl rfl) (a_cons (x_bin (x_int) (x_call c_u_law_draw hr (by decide) B (gl rfl) (a_cons (x_var rfl (vis rfl)) (a_cons (x_int) (a_nil))))) (a_cons (x_bin (x_bin (x_int) (x_int)) (x_call c_u_law_draw hr (by decide) B (gl rfl) (a_cons (x_var rfl (vis rfl)) (a_cons (x_int) (a_nil))))) (a_nil)))))
   (ss_nil)) (ss_nil))
   (ss_cons (s_ret (x_call c_u_law_frac hr (by decide) B (gl rfl) (a_cons (x_bin (x_int) (x_call c_u_law_draw hr (by decide) B (gl rfl) (a_cons (x_var rfl (vis rfl)) (a_cons (x_int) (a_nil))))) (a_cons (x_bin (x_int) (x_bin (x_call c_u_law_draw hr (by decide) B (gl rfl) (a_cons (x_var rfl (vis rfl)) (a_cons (x_int) (a_nil)))) (x_int))) (a_nil)))))
   (ss_nil))))
theorem ok_u_law_great_weight {P : Program} {w : World} {K : PySem.W.Frag} {mg : Str → Option Value} {base : Heap} {f : Addr} {fd : FuncData} (F : Fun K "_law_great_weight" "_law_great_weight" (topS 35) f fd) (c_u_law_draw : Cle P w K mg base 1 "_law_draw" ["bag", "below"] [] g_u_law_draw) (c_u_law_frac : Cle P w K mg base 2 "_law_frac" ["a", "b"] [] g_u_law_frac) : GOk P w K mg base 3 f fd ["bag"] g_u_law_great_weight := body_ok (F := fn_u_law_great_weight) F sc_u_law_great_weight fun A outer s H cdv G => b_u_law_great_weight G c_u_law_draw c_u_law_frac
theorem cl_u_law_great_weight {P : Program} {w : World} {K : PySem.W.Frag} {mg : Str → Option Value} {base : Heap} {f : Addr} {fd : FuncData} (F : Fun K "_law_great_weight" "_law_great_weight" (topS 35) f fd) (hm : mg "_law_great_weight" = some (.ref f)) (c_u_law_draw : Cle P w K mg base 1 "_law_draw" ["bag", "below"] [] g_u_law_draw) (c_u_law_frac : Cle P w K mg base 2 "_law_frac" ["a", "b"] [] g_u_law_frac) : Cle P w K mg base 3 "_law_great_weight" ["bag"] [] g_u_law_great_weight := by
  refine ⟨⟨f, fd, ok_u_law_great_weight F c_u_law_draw c_u_law_frac, hm, F.kp, ?_, ?_⟩⟩
  all_goals (obtain ⟨oc, od, kV, doc, pm, an, cdv, ct, osl, rfl, lk, hcd⟩ := F.ex)
  · exact fun us hl => match us, hl with | [_], _ => rfl
  · exact List.forall_mem_nil _
/-! ### _law_plus -/
def fn_u_law_plus : Fn := ⟨["x", "y"], ["x", "y"],
.cons (.ife (.or (.cmp .Eq (.idx (.var 0) (.cst (.int 0))) (.cst (.int 0))) (.cmp .Eq (.idx (.var 1) (.cst (.int 0))) (.cst (.int 0))))
   (.cons (.ret (.ife (.cmp .Eq (.idx (.var 0) (.cst (.int 0))) (.cst (.int 0))) (.var 1) (.var 0)))
   (.nil)) (.nil))
   (.cons (.ret (.call "_law_frac" ["a", "b"] g_u_law_frac (.cons (.bin false .Add (.bin false .Mult (.idx (.var 0) (.cst (.int 0))) (.idx (.var 1) (.cst (.int 1)))) (.bin false .Mult (.idx (.var 1) (.cst (.int 0))) (.idx (.var 0) (.cst (.int 1))))) (.cons (.bin false .Mult (.idx (.var 0) (.cst (.int 1))) (.idx (.var 1) (.cst (.int 1)))) (.nil)))))
   (.nil))⟩
def g_u_law_plus : G := runFn fn_u_law_plus
theorem sc_u_law_plus : FnScope fn_u_law_plus.N fn_u_law_plus.ps (defScope (topS 31)) := ⟨rfl, rfl, rfl, by decide +kernel, rfl, by decide +kernel, by decide +kernel⟩
theorem b_u_law_plus {P : Program} {w : World} {K : PySem.W.Frag} {mg : Str → Option Value} {base : Heap} {f : Addr} {cdv : Value} {A : Around} {outer : List Env} {s : Shared} {H : Hp} (G : Good (Cxb P w K mg base fn_u_law_plus "_law_plus" (topS 31) f cdv A outer s H) P w K mg base 2) (c_u_law_frac : Cle P w K mg base 2 "_law_frac" ["a", "b"] [] g_u_law_frac) :
 PSs (Cxb P w K mg base fn_u_law_plus "_law_plus" (topS 31) f cdv A outer s H) (defBody (topS 31)) (tS K NW (denSs fn_u_law_plus.body)) :=
 have B := G.b
 have hr := G.room
 have nd := sc_u_law_plus.nd
 ss_cons (s_ife (PW.pt (w_or (t_cmp B (x_idx (x_var rfl (vis rfl)) (x_int)) (x_int)) (w_or1 (t_cmp B (x_idx (x_var rfl (vis rfl)) (x_int)) (x_int)))))
   (ss_cons (s_ret (x_ife (t_cmp B (x_idx (x_var rfl (vis rfl)) (x_int)) (x_int)) (x_var rfl (vis rfl)) (x_var rfl (vis rfl))))
   (ss_nil)) (ss_nil))
   (ss_cons (s_ret (x_call c_u_law_frac hr (by decide) B (gl rfl) (a_cons (x_bin (x_bin (x_idx (x_var rfl (vis rfl)) (x_int)) (x_idx (x_var rfl (vis rfl)) (x_int))) (x_bin (x_idx (x_var rfl (vis rfl)) (x_int)) (x_idx (x_var rfl (vis rfl)) (x_int)))) (a_cons (x_bin (x_idx (x_var rfl (vis rfl)) (x_int)) (x_idx (x_var rfl (vis rfl)) (x_int))) (a_nil)))))
   (ss_nil))
theorem ok_u_law_plus {P : Program} {w : World} {K : PySem.W.Frag} {mg : Str → Option Value} {base : Heap} {f : Addr} {fd : FuncData} (F : Fun K "_law_plus" "_law_plus" (topS 31) f fd) (c_u_law_frac : Cle P w K mg base 2 "_law_frac" ["a", "b"] [] g_u_law_frac) : GOk P w K mg base 3 f fd ["x", "y"] g_u_law_plus := body_ok (F := fn_u_law_plus) F sc_u_law_plus fun A outer s H cdv G => b_u_law_plus G c_u_law_frac
theorem cl_u_law_plus {P : Program} {w : World} {K : PySem.W.Frag} {mg : Str → Option Value} {base : Heap} {f : Addr} {fd : FuncData} (F : Fun K "_law_plus" "_law_plus" (topS 31) f fd) (hm : mg "_law_plus" = some (.ref f)) (c_u_law_frac : Cle P w K mg base 2 "_law_frac" ["a", "b"] [] g_u_law_frac) : Cle P w K mg base 3 "_law_plus" ["x", "y"] [] g_u_law_plus := by
  refine ⟨⟨f, fd, ok_u_law_plus F c_u_law_frac, hm, F.kp, ?_, ?_⟩⟩
  all_goals (obtain ⟨oc, od, kV, doc, pm, an, cdv, ct, osl, rfl, lk, hcd⟩ := F.ex)
  · exact fun us hl => match us, hl with | [_, _], _ => rfl
  · exact List.forall_mem_nil _
/-! ### _law_times -/
def fn_u_law_times : Fn := ⟨["x", "y"], ["x", "y"],
.cons (.ret (.ife (.and (.cmp .NotEq (.idx (.var 0) (.cst (.int 0))) (.cst (.int 0))) (.cmp .NotEq (.idx (.var 1) (.cst (.int 0))) (.cst (.int 0)))) (.call "_law_frac" ["a", "b"] g_u_law_frac (.cons (.bin false .Mult (.idx (.var 0) (.cst (.int 0))) (.idx (.var 1) (.cst (.int 0)))) (.cons (.bin false .Mult (.idx (.var 0) (.cst (.int 1))) (.idx (.var 1) (.cst (.int 1)))) (.nil)))) (.tup (.cons (.cst (.int 0)) (.cons (.cst (.int 1)) (.nil))))))
   (.nil)⟩
def g_u_law_times : G := runFn fn_u_law_times
theorem sc_u_law_times : FnScope fn_u_law_times.N fn_u_law_times.ps (defScope (topS 32)) := ⟨rfl, rfl, rfl, by decide +kernel, rfl, by decide +kernel, by decide +kernel⟩
theorem b_u_law_times {P : Program} {w : World} {K : PySem.W.Frag} {mg : Str → Option Value} {base : Heap} {f : Addr} {cdv : Value} {A : Around} {outer : List Env} {s : Shared} {H : Hp} (G : Good (Cxb P w K mg base fn_u_law_times "_law_times" (topS 32) f cdv A outer s H) P w K mg base 2) (c_u_law_frac : Cle P w K mg base 2 "_law_frac" ["a", "b"] [] g_u_law_frac) :
 PSs (Cxb P w K mg base fn_u_law_times "_law_times" (topS 32) f cdv A outer s H) (defBody (topS 32)) (tS K NW (denSs fn_u_law_times.body)) :=
 have B := G.b
 have hr := G.room
 have nd := sc_u_law_times.nd
 ss_cons (s_ret (x_ife (PW.pt (w_and (t_cmp B (x_idx (x_var rfl (vis rfl)) (x_int)) (x_int)) (w_and1 (t_cmp B (x_idx (x_var rfl (vis rfl)) (x_int)) (x_int))))) (x_call c_u_law_frac hr (by decide) B (gl rfl) (a_cons (x_bin (x_idx (x_var rfl (vis rfl)) (x_int)) (x_idx (x_var rfl (vis rfl)) (x_int))) (a_cons (x_bin (x_idx (x_var rfl (vis rfl)) (x_int)) (x_idx (x_var rfl (vis rfl)) (x_int))) (a_nil)))) (x_tup (a_cons (x_int) (a_cons (x_int) (a_nil))))))
   (ss_nil)
theorem ok_u_law_times {P : Program} {w : World} {K : PySem.W.Frag} {mg : Str → Option Value} {base : Heap} {f : Addr} {fd : FuncData} (F : Fun K "_law_times" "_law_times" (topS 32) f fd) (c_u_law_frac : Cle P w K mg base 2 "_law_frac" ["a", "b"] [] g_u_law_frac) : GOk P w K mg base 3 f fd ["x", "y"] g_u_law_times := body_ok (F := fn_u_law_times) F sc_u_law_times fun A outer s H cdv G => b_u_law_times G c_u_law_frac
theorem cl_u_law_times {P : Program} {w : World} {K : PySem.W.Frag} {mg : Str → Option Value} {base : Heap} {f : Addr} {fd : FuncData} (F : Fun K "_law_times" "_law_times" (topS 32) f fd) (hm : mg "_law_times" = some (.ref f)) (c_u_law_frac : Cle P w K mg base 2 "_law_frac" ["a", "b"] [] g_u_law_frac) : Cle P w K mg base 3 "_law_times" ["x", "y"] [] g_u_law_times := by
  refine ⟨⟨f, fd, ok_u_law_times F c_u_law_frac, hm, F.kp, ?_, ?_⟩⟩
  all_goals (obtain ⟨oc, od, kV, doc, pm, an, cdv, ct, osl, rfl, lk, hcd⟩ := F.ex)
  · exact fun us hl => match us, hl with | [_, _], _ => rfl
  · exact List.forall_mem_nil _
/-! ### _law_minus -/
def fn_u_law_minus : Fn := ⟨["x"], ["x"],
.cons (.ret (.tup (.cons (.bin false .Sub (.cst (.int 0)) (.idx (.var 0) (.cst (.int 0)))) (.cons (.idx (.var 0) (.cst (.int 1))) (.nil)))))
   (.nil)⟩
def g_u_law_minus : G := runFn fn_u_law_minus
theorem sc_u_law_minus : FnScope fn_u_law_minus.N fn_u_law_minus.ps (defScope (topS 33)) := ⟨rfl, rfl, rfl, by decide +kernel, rfl, by decide +kernel, by decide +kernel⟩
theorem b_u_law_minus {P : Program} {w : World} {K : PySem.W.Frag} {mg : Str → Option Value} {base : Heap} {f : Addr} {cdv : Value} {A : Around} {outer : List Env} {s : Shared} {H : Hp} (G : Good (Cxb P w K mg base fn_u_law_minus "_law_minus" (topS 33) f cdv A outer s H) P w K mg base 0) :
 PSs (Cxb P w K mg base fn_u_law_minus "_law_minus" (topS 33) f cdv A outer s H) (defBody (topS 33)) (tS K NW (denSs fn_u_law_minus.body)) :=
 have B := G.b
 have hr := G.room
 have nd := sc_u_law_minus.nd
 ss_cons (s_ret (x_tup (a_cons (x_bin (x_int) (x_idx (x_var rfl (vis rfl)) (x_int))) (a_cons (x_idx (x_var rfl (vis rfl)) (x_int)) (a_nil)))))
   (ss_nil)
theorem ok_u_law_minus {P : Program} {w : World} {K : PySem.W.Frag} {mg : Str → Option Value} {base : Heap} {f : Addr} {fd : FuncData} (F : Fun K "_law_minus" "_law_minus" (topS 33) f fd) : GOk P w K mg base 1 f fd ["x"] g_u_law_minus := body_ok (F := fn_u_law_minus) F sc_u_law_minus fun A outer s H cdv G => b_u_law_minus G 
theorem cl_u_law_minus {P : Program} {w : World} {K : PySem.W.Frag} {mg : Str → Option Value} {base : Heap} {f : Addr} {fd : FuncData} (F : Fun K "_law_minus" "_law_minus" (topS 33) f fd) (hm : mg "_law_minus" = some (.ref f)) : Cle P w K mg base 1 "_law_minus" ["x"] [] g_u_law_minus := by
  refine ⟨⟨f, fd, ok_u_law_minus F , hm, F.kp, ?_, ?_⟩⟩
  all_goals (obtain ⟨oc, od, kV, doc, pm, an, cdv, ct, osl, rfl, lk, hcd⟩ := F.ex)
  · exact fun us hl => match us, hl with | [_], _ => rfl
  · exact List.forall_mem_nil _
/-! ### _law_next_weight -/
def fn_u_law_next_weight : Fn := ⟨["a", "b", "k"], ["a", "b", "k", "both", "left", "top"],
.cons (.asg (.nm 3) (.call "_law_plus" ["x", "y"] g_u_law_plus (.cons (.var 0) (.cons (.var 1) (.nil)))))
   (.cons (.asg (.nm 4) (.call "_law_plus" ["x", "y"] g_u_law_plus (.cons (.call "_law_times" ["x", "y"] g_u_law_times (.cons (.tup (.cons (.cst (.int 4)) (.cons (.cst (.int 1)) (.nil)))) (.cons (.var 0) (.nil)))) (.cons (.call "_law_minus" ["x"] g_u_law_minus (.cons (.call "_law_times" ["x", "y"] g_u_law_times (.cons (.tup (.cons (.var 2) (.cons (.cst (.int 1)) (.nil)))) (.cons (.var 3) (.nil)))) (.nil))) (.nil)))))
   (.cons (.ife (.cmp .LtE (.idx (.var 4) (.cst (.int 0))) (.cst (.int 0)))
   (.cons (.ret (.cst .non))
   (.nil)) (.nil))
   (.cons (.asg (.nm 5) (.call "_law_times" ["x", "y"] g_u_law_times (.cons (.call "_law_times" ["x", "y"] g_u_law_times (.cons (.tup (.cons (.var 2) (.cons (.cst (.int 1)) (.nil)))) (.cons (.var 1) (.nil)))) (.cons (.var 3) (.nil)))))
   (.cons (.ret (.call "_law_frac" ["a", "b"] g_u_law_frac (.cons (.bin false .Mult (.idx (.var 5) (.cst (.int 0))) (.idx (.var 4) (.cst (.int 1)))) (.cons (.bin false .Mult (.idx (.var 5) (.cst (.int 1))) (.idx (.var 4) (.cst (.int 0)))) (.nil)))))
   (.nil)))))⟩
def g_u_law_next_weight : G := runFn fn_u_law_next_weight
theorem sc_u_law_next_weight : FnScope fn_u_law_next_weight.N fn_u_law_next_weight.ps (defScope (topS 34)) := ⟨rfl, rfl, rfl, by decide +kernel, rfl, by decide +kernel, by decide +kernel⟩
theorem b_u_law_next_weight {P : Program} {w : World} {K : PySem.W.Frag} {mg : Str → Option Value} {base : Heap} {f : Addr} {cdv : Value} {A : Around} {outer : List Env} {s : Shared} {H : Hp} (G : Good (Cxb P w K mg base fn_u_law_next_weight "_law_next_weight" (topS 34) f cdv A outer s H) P w K mg base 3) (c_u_law_plus : Cle P w K mg base 3 "_law_plus" ["x", "y"] [] g_u_law_plus) (c_u_law_times : Cle P w K mg base 3 "_law_times" ["x", "y"] [] g_u_law_times) (c_u_law_minus : Cle P w K mg base 1 "_law_minus" ["x"] [] g_u_law_minus) (c_u_law_frac : Cle P w K mg base 2 "_law_frac" ["a", "b"] [] g_u_law_frac) :
 PSs (Cxb P w K mg base fn_u_law_next_weight "_law_next_weight" (topS 34) f cdv A outer s H) (defBody (topS 34)) (tS K NW (denSs fn_u_law_next_weight.body)) :=
 have B := G.b
 have hr := G.room
 have nd := sc_u_law_next_weight.nd
 ss_cons (s_asg (x_call c_u_law_plus hr (by decide) B (gl rfl) (a_cons (x_var rfl (vis rfl)) (a_cons (x_var rfl (vis rfl)) (a_nil)))) (g_nm nd rfl (loc rfl) (.inl rfl)))
   (ss_cons (s_asg (x_call c_u_law_plus hr (by decide) B (gl rfl) (a_cons (x_call c_u_law_times hr (by decide) B (gl rfl) (a_cons (x_tup (a_cons (x_int) (a_cons (x_int) (a_nil)))) (a_cons (x_var rfl (vis rfl)) (a_nil)))) (a_cons (x_call c_u_law_minus hr (by decide) B (gl rfl) (a_cons (x_call c_u_law_times hr (by decide) B (gl rfl) (a_cons (x_tup (a_cons (x_var rfl (vis rfl)) (a_cons (x_int) (a_nil)))) (a_cons (x_var rfl (vis rfl)) (a_nil)))) (a_nil))) (a_nil)))) (g_nm nd rfl (loc rfl) (.inl rfl)))
   (ss_cons (s_ife (t_cmp B (x_idx (x_var rfl (vis rfl)) (x_int)) (x_int))
   (ss_cons (s_ret (x_non))
   (ss_nil)) (ss_nil))
   (ss_cons (s_asg (x_call c_u_law_times hr (by decide) B (gl rfl) (a_cons (x_call c_u_law_times hr (by decide) B (gl rfl) (a_cons (x_tup (a_cons (x_var rfl (vis rfl)) (a_cons (x_int) (a_nil)))) (a_cons (x_var rfl (vis rfl)) (a_nil)))) (a_cons (x_var rfl (vis rfl)) (a_nil)))) (g_nm nd rfl (loc rfl) (.inl rfl)))
   (ss_cons (s_ret (x_call c_u_law_frac hr (by decide) B (gl rfl) (a_cons (x_bin (x_idx (x_var rfl (vis rfl)) (x_int)) (x_idx (x_var rfl (vis rfl)) (x_int))) (a_cons (x_bin (x_idx (x_var rfl (vis rfl)) (x_int)) (x_idx (x_var rfl (vis rfl)) (x_int))) (a_nil)))))
   (ss_nil)))))
theorem ok_u_law_next_weight {P : Program} {w : World} {K : PySem.W.Frag} {mg : Str → Option Value} {base : Heap} {f : Addr} {fd : FuncData} (F : Fun K "_law_next_weight" "_law_next_weight" (topS 34) f fd) (c_u_law_plus : Cle P w K mg base 3 "_law_plus" ["x", "y"] [] g_u_law_plus) (c_u_law_times : Cle P w K mg base 3 "_law_times" ["x", "y"] [] g_u_law_times) (c_u_law_minus : Cle P w K mg base 1 "_law_minus" ["x"] [] g_u_law_minus) (c_u_law_frac : Cle P w K mg base 2 "_law_frac" ["a", "b"] [] g_u_law_frac) : GOk P w K mg base 4 f fd ["a", "b", "k"] g_u_law_next_weight := body_ok (F := fn_u_law_next_weight) F sc_u_law_next_weight fun A outer s H cdv G => b_u_law_next_weight G c_u_law_plus c_u_law_times c_u_law_minus c_u_law_frac
theorem cl_u_law_next_weight {P : Program} {w : World} {K : PySem.W.Frag} {mg : Str → Option Value} {base : Heap} {f : Addr} {fd : FuncData} (F : Fun K "_law_next_weight" "_law_next_weight" (topS 34) f fd) (hm : mg "_law_next_weight" = some (.ref f)) (c_u_law_plus : Cle P w K mg base 3 "_law_plus" ["x", "y"] [] g_u_law_plus) (c_u_law_times : Cle P w K mg base 3 "_law_times" ["x", "y"] [] g_u_law_times) (c_u_law_minus : Cle P w K mg base 1 "_law_minus" ["x"] [] g_u_law_minus) (c_u_law_frac : Cle P w K mg base 2 "_law_frac" ["a", "b"] [] g_u_law_frac) : Cle P w K mg base 4 "_law_next_weight" ["a", "b", "k"] [] g_u_law_next_weight := by
  refine ⟨⟨f, fd, ok_u_law_next_weight F c_u_law_plus c_u_law_times c_u_law_minus c_u_law_frac, hm, F.kp, ?_, ?_⟩⟩
  all_goals (obtain ⟨oc, od, kV, doc, pm, an, cdv, ct, osl, rfl, lk, hcd⟩ := F.ex)
  · exact fun us hl => match us, hl with | [_, _, _], _ => rfl
  · exact List.forall_mem_nil _
/-! ### common_divisor -/
def fn_common_divisor : Fn := ⟨["one", "other"], ["one", "other", "low", "high"],
.cons (.par2 2 3 (.blt .abs false (.cons (.var 0) (.nil))) (.blt .abs false (.cons (.var 1) (.nil))))
   (.cons (.whl fuel (.var 2)
   (.cons (.par2 2 3 (.bin false .Mod (.var 3) (.var 2)) (.var 2))
   (.nil)))
   (.cons (.ret (.var 3))
   (.nil)))⟩
def g_common_divisor : G := runFn fn_common_divisor
theorem sc_common_divisor : FnScope fn_common_divisor.N fn_common_divisor.ps (defScope (topS 6)) := ⟨rfl, rfl, rfl, by decide +kernel, rfl, by decide +kernel, by decide +kernel⟩
theorem b_common_divisor {P : Program} {w : World} {K : PySem.W.Frag} {mg : Str → Option Value} {base : Heap} {f : Addr} {cdv : Value} {A : Around} {outer : List Env} {s : Shared} {H : Hp} (G : Good (Cxb P w K mg base fn_common_divisor "common_divisor" (topS 6) f cdv A outer s H) P w K mg base 0) (z_abs : mg "abs" = none) :
 PSs (Cxb P w K mg base fn_common_divisor "common_divisor" (topS 6) f cdv A outer s H) (defBody (topS 6)) (tS K NW (denSs fn_common_divisor.body)) :=
 have B := G.b
 have hr := G.room
 have nd := sc_common_divisor.nd
 ss_cons (s_par2 B nd rfl rfl (by decide) rfl rfl (a_cons (x_bltB B rfl (gl rfl) z_abs bo_abs (a_cons (x_var rfl (vis rfl)) (a_nil))) (a_cons (x_bltB B rfl (gl rfl) z_abs bo_abs (a_cons (x_var rfl (vis rfl)) (a_nil))) a_nil)) rfl)
   (ss_cons (s_whl PassesOwn.never (t_plain (x_var rfl (vis rfl)))
   (ss_cons (s_par2 B nd rfl rfl (by decide) rfl rfl (a_cons (x_bin (x_var rfl (vis rfl)) (x_var rfl (vis rfl))) (a_cons (x_var rfl (vis rfl)) a_nil)) rfl)
   (ss_nil)))
   (ss_cons (s_ret (x_var rfl (vis rfl)))
   (ss_nil)))
theorem ok_common_divisor {P : Program} {w : World} {K : PySem.W.Frag} {mg : Str → Option Value} {base : Heap} {f : Addr} {fd : FuncData} (F : Fun K "common_divisor" "common_divisor" (topS 6) f fd) (z_abs : mg "abs" = none) : GOk P w K mg base 1 f fd ["one", "other"] g_common_divisor := body_ok (F := fn_common_divisor) F sc_common_divisor fun A outer s H cdv G => b_common_divisor G z_abs
theorem cl_common_divisor {P : Program} {w : World} {K : PySem.W.Frag} {mg : Str → Option Value} {base : Heap} {f : Addr} {fd : FuncData} (F : Fun K "common_divisor" "common_divisor" (topS 6) f fd) (hm : mg "common_divisor" = some (.ref f)) (z_abs : mg "abs" = none) : Cle P w K mg base 1 "common_divisor" ["one", "other"] [] g_common_divisor := by
  refine ⟨⟨f, fd, ok_common_divisor F z_abs, hm, F.kp, ?_, ?_⟩⟩
  all_goals (obtain ⟨oc, od, kV, doc, pm, an, cdv, ct, osl, rfl, lk, hcd⟩ := F.ex)
  · exact fun us hl => match us, hl with | [_, _], _ => rfl
  · exact List.forall_mem_nil _
/-! ### made -/
def fn_made : Fn := ⟨["above", "below"], ["above", "below", "common"],
.cons (.ife (.cmp .Lt (.var 1) (.cst (.int 0)))
   (.cons (.par2 0 1 (.neg (.var 0)) (.neg (.var 1)))
   (.nil)) (.nil))
   (.cons (.asg (.nm 2) (.call "common_divisor" ["one", "other"] g_common_divisor (.cons (.var 0) (.cons (.var 1) (.nil)))))
   (.cons (.ret (.tup (.cons (.bin false .FloorDiv (.var 0) (.var 2)) (.cons (.bin false .FloorDiv (.var 1) (.var 2)) (.nil)))))
   (.nil)))⟩
def g_made : G := runFn fn_made
theorem sc_made : FnScope fn_made.N fn_made.ps (defScope (topS 7)) := ⟨rfl, rfl, rfl, by decide +kernel, rfl, by decide +kernel, by decide +kernel⟩
theorem b_made {P : Program} {w : World} {K : PySem.W.Frag} {mg : Str → Option Value} {base : Heap} {f : Addr} {cdv : Value} {A : Around} {outer : List Env} {s : Shared} {H : Hp} (G : Good (Cxb P w K mg base fn_made "made" (topS 7) f cdv A outer s H) P w K mg base 1) (c_common_divisor : Cle P w K mg base 1 "common_divisor" ["one", "other"] [] g_common_divisor) :
 PSs (Cxb P w K mg base fn_made "made" (topS 7) f cdv A outer s H) (defBody (topS 7)) (tS K NW (denSs fn_made.body)) :=
 have B := G.b
 have hr := G.room
 have nd := sc_made.nd
 ss_cons (s_ife (t_cmp B (x_var rfl (vis rfl)) (x_int))
   (ss_cons (s_par2 B nd rfl rfl (by decide) rfl rfl (a_cons (x_neg (x_var rfl (vis rfl))) (a_cons (x_neg (x_var rfl (vis rfl))) a_nil)) rfl)
   (ss_nil)) (ss_nil))
   (ss_cons (s_asg (x_call c_common_divisor hr (by decide) B (gl rfl) (a_cons (x_var rfl (vis rfl)) (a_cons (x_var rfl (vis rfl)) (a_nil)))) (g_nm nd rfl (loc rfl) (.inl rfl)))
   (ss_cons (s_ret (x_tup (a_cons (x_bin (x_var rfl (vis rfl)) (x_var rfl (vis rfl))) (a_cons (x_bin (x_var rfl (vis rfl)) (x_var rfl (vis rfl))) (a_nil)))))
   (ss_nil)))
theorem ok_made {P : Program} {w : World} {K : PySem.W.Frag} {mg : Str → Option Value} {base : Heap} {f : Addr} {fd : FuncData} (F : Fun K "made" "made" (topS 7) f fd) (c_common_divisor : Cle P w K mg base 1 "common_divisor" ["one", "other"] [] g_common_divisor) : GOk P w K mg base 2 f fd ["above", "below"] g_made := body_ok (F := fn_made) F sc_made fun A outer s H cdv G => b_made G c_common_divisor
theorem cl_made {P : Program} {w : World} {K : PySem.W.Frag} {mg : Str → Option Value} {base : Heap} {f : Addr} {fd : FuncData} (F : Fun K "made" "made" (topS 7) f fd) (hm : mg "made" = some (.ref f)) (c_common_divisor : Cle P w K mg base 1 "common_divisor" ["one", "other"] [] g_common_divisor) : Cle P w K mg base 2 "made" ["above", "below"] [] g_made := by
  refine ⟨⟨f, fd, ok_made F c_common_divisor, hm, F.kp, ?_, ?_⟩⟩
  all_goals (obtain ⟨oc, od, kV, doc, pm, an, cdv, ct, osl, rfl, lk, hcd⟩ := F.ex)
  · exact fun us hl => match us, hl with | [_, _], _ => rfl
  · exact List.forall_mem_nil _
/-! ### times -/
def fn_times : Fn := ⟨["one", "other"], ["one", "other"],
.cons (.ret (.call "made" ["above", "below"] g_made (.cons (.bin false .Mult (.idx (.var 0) (.cst (.int 0))) (.idx (.var 1) (.cst (.int 0)))) (.cons (.bin false .Mult (.idx (.var 0) (.cst (.int 1))) (.idx (.var 1) (.cst (.int 1)))) (.nil)))))
   (.nil)⟩
def g_times : G := runFn fn_times
theorem sc_times : FnScope fn_times.N fn_times.ps (defScope (topS 11)) := ⟨rfl, rfl, rfl, by decide +kernel, rfl, by decide +kernel, by decide +kernel⟩
theorem b_times {P : Program} {w : World} {K : PySem.W.Frag} {mg : Str → Option Value} {base : Heap} {f : Addr} {cdv : Value} {A : Around} {outer : List Env} {s : Shared} {H : Hp} (G : Good (Cxb P w K mg base fn_times "times" (topS 11) f cdv A outer s H) P w K mg base 2) (c_made : Cle P w K mg base 2 "made" ["above", "below"] [] g_made) :
 PSs (Cxb P w K mg base fn_times "times" (topS 11) f cdv A outer s H) (defBody (topS 11)) (tS K NW (denSs fn_times.body)) :=
 have B := G.b
 have hr := G.room
 have nd := sc_times.nd
 ss_cons (s_ret (x_call c_made hr (by decide) B (gl rfl) (a_cons (x_bin (x_idx (x_var rfl (vis rfl)) (x_int)) (x_idx (x_var rfl (vis rfl)) (x_int))) (a_cons (x_bin (x_idx (x_var rfl (vis rfl)) (x_int)) (x_idx (x_var rfl (vis rfl)) (x_int))) (a_nil)))))
   (ss_nil)
theorem ok_times {P : Program} {w : World} {K : PySem.W.Frag} {mg : Str → Option Value} {base : Heap} {f : Addr} {fd : FuncData} (F : Fun K "times" "times" (topS 11) f fd) (c_made : Cle P w K mg base 2 "made" ["above", "below"] [] g_made) : GOk P w K mg base 3 f fd ["one", "other"] g_times := body_ok (F := fn_times) F sc_times fun A outer s H cdv G => b_times G c_made
theorem cl_times {P : Program} {w : World} {K : PySem.W.Frag} {mg : Str → Option Value} {base : Heap} {f : Addr} {fd : FuncData} (F : Fun K "times" "times" (topS 11) f fd) (hm : mg "times" = some (.ref f)) (c_made : Cle P w K mg base 2 "made" ["above", "below"] [] g_made) : Cle P w K mg base 3 "times" ["one", "other"] [] g_times := by
  refine ⟨⟨f, fd, ok_times F c_made, hm, F.kp, ?_, ?_⟩⟩
  all_goals (obtain ⟨oc, od, kV, doc, pm, an, cdv, ct, osl, rfl, lk, hcd⟩ := F.ex)
  · exact fun us hl => match us, hl with | [_, _], _ => rfl
  · exact List.forall_mem_nil _
/-! ### plus -/
def fn_plus : Fn := ⟨["one", "other"], ["one", "other"],
.cons (.ife (.cmp2 .Eq .Eq (.idx (.var 0) (.cst (.int 1))) (.idx (.var 1) (.cst (.int 1))) (.cst (.int 1)))
   (.cons (.ret (.tup (.cons (.bin false .Add (.idx (.var 0) (.cst (.int 0))) (.idx (.var 1) (.cst (.int 0)))) (.cons (.cst (.int 1)) (.nil)))))
   (.nil)) (.nil))
   (.cons (.ret (.call "made" ["above", "below"] g_made (.cons (.bin false .Add (.bin false .Mult (.idx (.var 0) (.cst (.int 0))) (.idx (.var 1) (.cst (.int 1)))) (.bin false .Mult (.idx (.var 1) (.cst (.int 0))) (.idx (.var 0) (.cst (.int 1))))) (.cons (.bin false .Mult (.idx (.var 0) (.cst (.int 1))) (.idx (.var 1) (.cst (.int 1)))) (.nil)))))
   (.nil))⟩
def g_plus : G := runFn fn_plus
theorem sc_plus : FnScope fn_plus.N fn_plus.ps (defScope (topS 8)) := ⟨rfl, rfl, rfl, by decide +kernel, rfl, by decide +kernel, by decide +kernel⟩
theorem b_plus {P : Program} {w : World} {K : PySem.W.Frag} {mg : Str → Option Value} {base : Heap} {f : Addr} {cdv : Value} {A : Around} {outer : List Env} {s : Shared} {H : Hp} (G : Good (Cxb P w K mg base fn_plus "plus" (topS 8) f cdv A outer s H) P w K mg base 2) (c_made : Cle P w K mg base 2 "made" ["above", "below"] [] g_made) :
 PSs (Cxb P w K mg base fn_plus "plus" (topS 8) f cdv A outer s H) (defBody (topS 8)) (tS K NW (denSs fn_plus.body)) :=
 have B := G.b
 have hr := G.room
 have nd := sc_plus.nd
 ss_cons (s_ife (t_cmp2 B (x_idx (x_var rfl (vis rfl)) (x_int)) (x_idx (x_var rfl (vis rfl)) (x_int)) (x_int))
   (ss_cons (s_ret (x_tup (a_cons (x_bin (x_idx (x_var rfl (vis rfl)) (x_int)) (x_idx (x_var rfl (vis rfl)) (x_int))) (a_cons (x_int) (a_nil)))))
   (ss_nil)) (ss_nil))
   (ss_cons (s_ret (x_call c_made hr (by decide) B (gl rfl) (a_cons (x_bin (x_bin (x_idx (x_var rfl (vis rfl)) (x_int)) (x_idx (x_var rfl (vis rfl)) (x_int))) (x_bin (x_idx (x_var rfl (vis rfl)) (x_int)) (x_idx (x_var rfl (vis rfl)) (x_int)))) (a_cons (x_bin (x_idx (x_var rfl (vis rfl)) (x_int)) (x_idx (x_var rfl (vis rfl)) (x_int))) (a_nil)))))
   (ss_nil))
theorem ok_plus {P : Program} {w : World} {K : PySem.W.Frag} {mg : Str → Option Value} {base : Heap} {f : Addr} {fd : FuncData} (F : Fun K "plus" "plus" (topS 8) f fd) (c_made : Cle P w K mg base 2 "made" ["above", "below"] [] g_made) : GOk P w K mg base 3 f fd ["one", "other"] g_plus := body_ok (F := fn_plus) F sc_plus fun A outer s H cdv G => b_plus G c_made
theorem cl_plus {P : Program} {w : World} {K : PySem.W.Frag} {mg : Str → Option Value} {base : Heap} {f : Addr} {fd : FuncData} (F : Fun K "plus" "plus" (topS 8) f fd) (hm : mg "plus" = some (.ref f)) (c_made : Cle P w K mg base 2 "made" ["above", "below"] [] g_made) : Cle P w K mg base 3 "plus" ["one", "other"] [] g_plus := by
  refine ⟨⟨f, fd, ok_plus F c_made, hm, F.kp, ?_, ?_⟩⟩
  all_goals (obtain ⟨oc, od, kV, doc, pm, an, cdv, ct, osl, rfl, lk, hcd⟩ := F.ex)
  · exact fun us hl => match us, hl with | [_, _], _ => rfl
  · exact List.forall_mem_nil _
/-! ### is_below -/
def fn_is_below : Fn := ⟨["one", "other"], ["one", "other"],
.cons (.ret (.cmp .Lt (.bin false .Mult (.idx (.var 0) (.cst (.int 0))) (.idx (.var 1) (.cst (.int 1)))) (.bin false .Mult (.idx (.var 1) (.cst (.int 0))) (.idx (.var 0) (.cst (.int 1))))))
   (.nil)⟩
def g_is_below : G := runFn fn_is_below
theorem sc_is_below : FnScope fn_is_below.N fn_is_below.ps (defScope (topS 13)) := ⟨rfl, rfl, rfl, by decide +kernel, rfl, by decide +kernel, by decide +kernel⟩
theorem b_is_below {P : Program} {w : World} {K : PySem.W.Frag} {mg : Str → Option Value} {base : Heap} {f : Addr} {cdv : Value} {A : Around} {outer : List Env} {s : Shared} {H : Hp} (G : Good (Cxb P w K mg base fn_is_below "is_below" (topS 13) f cdv A outer s H) P w K mg base 0) :
 PSs (Cxb P w K mg base fn_is_below "is_below" (topS 13) f cdv A outer s H) (defBody (topS 13)) (tS K NW (denSs fn_is_below.body)) :=
 have B := G.b
 have hr := G.room
 have nd := sc_is_below.nd
 ss_cons (s_ret (x_cmp B (x_bin (x_idx (x_var rfl (vis rfl)) (x_int)) (x_idx (x_var rfl (vis rfl)) (x_int))) (x_bin (x_idx (x_var rfl (vis rfl)) (x_int)) (x_idx (x_var rfl (vis rfl)) (x_int)))))
   (ss_nil)
theorem ok_is_below {P : Program} {w : World} {K : PySem.W.Frag} {mg : Str → Option Value} {base : Heap} {f : Addr} {fd : FuncData} (F : Fun K "is_below" "is_below" (topS 13) f fd) : GOk P w K mg base 1 f fd ["one", "other"] g_is_below := body_ok (F := fn_is_below) F sc_is_below fun A outer s H cdv G => b_is_below G 
theorem cl_is_below {P : Program} {w : World} {K : PySem.W.Frag} {mg : Str → Option Value} {base : Heap} {f : Addr} {fd : FuncData} (F : Fun K "is_below" "is_below" (topS 13) f fd) (hm : mg "is_below" = some (.ref f)) : Cle P w K mg base 1 "is_below" ["one", "other"] [] g_is_below := by
  refine ⟨⟨f, fd, ok_is_below F , hm, F.kp, ?_, ?_⟩⟩
  all_goals (obtain ⟨oc, od, kV, doc, pm, an, cdv, ct, osl, rfl, lk, hcd⟩ := F.ex)
  · exact fun us hl => match us, hl with | [_, _], _ => rfl
  · exact List.forall_mem_nil _
/-! ### over -/
def fn_over : Fn := ⟨["one", "other"], ["one", "other"],
.cons (.ret (.call "made" ["above", "below"] g_made (.cons (.bin false .Mult (.idx (.var 0) (.cst (.int 0))) (.idx (.var 1) (.cst (.int 1)))) (.cons (.bin false .Mult (.idx (.var 0) (.cst (.int 1))) (.idx (.var 1) (.cst (.int 0)))) (.nil)))))
   (.nil)⟩
def g_over : G := runFn fn_over
theorem sc_over : FnScope fn_over.N fn_over.ps (defScope (topS 12)) := ⟨rfl, rfl, rfl, by decide +kernel, rfl, by decide +kernel, by decide +kernel⟩
theorem b_over {P : Program} {w : World} {K : PySem.W.Frag} {mg : Str → Option Value} {base : Heap} {f : Addr} {cdv : Value} {A : Around} {outer : List Env} {s : Shared} {H : Hp} (G : Good (Cxb P w K mg base fn_over "over" (topS 12) f cdv A outer s H) P w K mg base 2) (c_made : Cle P w K mg base 2 "made" ["above", "below"] [] g_made) :
 PSs (Cxb P w K mg base fn_over "over" (topS 12) f cdv A outer s H) (defBody (topS 12)) (tS K NW (denSs fn_over.body)) :=
 have B := G.b
 have hr := G.room
 have nd := sc_over.nd
 ss_cons (s_ret (x_call c_made hr (by decide) B (gl rfl) (a_cons (x_bin (x_idx (x_var rfl (vis rfl)) (x_int)) (x_idx (x_var rfl (vis rfl)) (x_int))) (a_cons (x_bin (x_idx (x_var rfl (vis rfl)) (x_int)) (x_idx (x_var rfl (vis rfl)) (x_int))) (a_nil)))))
   (ss_nil)
theorem ok_over {P : Program} {w : World} {K : PySem.W.Frag} {mg : Str → Option Value} {base : Heap} {f : Addr} {fd : FuncData} (F : Fun K "over" "over" (topS 12) f fd) (c_made : Cle P w K mg base 2 "made" ["above", "below"] [] g_made) : GOk P w K mg base 3 f fd ["one", "other"] g_over := body_ok (F := fn_over) F sc_over fun A outer s H cdv G => b_over G c_made
theorem cl_over {P : Program} {w : World} {K : PySem.W.Frag} {mg : Str → Option Value} {base : Heap} {f : Addr} {fd : FuncData} (F : Fun K "over" "over" (topS 12) f fd) (hm : mg "over" = some (.ref f)) (c_made : Cle P w K mg base 2 "made" ["above", "below"] [] g_made) : Cle P w K mg base 3 "over" ["one", "other"] [] g_over := by
  refine ⟨⟨f, fd, ok_over F c_made, hm, F.kp, ?_, ?_⟩⟩
  all_goals (obtain ⟨oc, od, kV, doc, pm, an, cdv, ct, osl, rfl, lk, hcd⟩ := F.ex)
  · exact fun us hl => match us, hl with | [_, _], _ => rfl
  · exact List.forall_mem_nil _
/-! ### opposite -/
def fn_opposite : Fn := ⟨["one"], ["one"],
.cons (.ret (.tup (.cons (.neg (.idx (.var 0) (.cst (.int 0)))) (.cons (.idx (.var 0) (.cst (.int 1))) (.nil)))))
   (.nil)⟩
def g_opposite : G := runFn fn_opposite
theorem sc_opposite : FnScope fn_opposite.N fn_opposite.ps (defScope (topS 9)) := ⟨rfl, rfl, rfl, by decide +kernel, rfl, by decide +kernel, by decide +kernel⟩
theorem b_opposite {P : Program} {w : World} {K : PySem.W.Frag} {mg : Str → Option Value} {base : Heap} {f : Addr} {cdv : Value} {A : Around} {outer : List Env} {s : Shared} {H : Hp} (G : Good (Cxb P w K mg base fn_opposite "opposite" (topS 9) f cdv A outer s H) P w K mg base 0) :
 PSs (Cxb P w K mg base fn_opposite "opposite" (topS 9) f cdv A outer s H) (defBody (topS 9)) (tS K NW (denSs fn_opposite.body)) :=
 have B := G.b
 have hr := G.room
 have nd := sc_opposite.nd
 ss_cons (s_ret (x_tup (a_cons (x_neg (x_idx (x_var rfl (vis rfl)) (x_int))) (a_cons (x_idx (x_var rfl (vis rfl)) (x_int)) (a_nil)))))
   (ss_nil)
theorem ok_opposite {P : Program} {w : World} {K : PySem.W.Frag} {mg : Str → Option Value} {base : Heap} {f : Addr} {fd : FuncData} (F : Fun K "opposite" "opposite" (topS 9) f fd) : GOk P w K mg base 1 f fd ["one"] g_opposite := body_ok (F := fn_opposite) F sc_opposite fun A outer s H cdv G => b_opposite G 
theorem cl_opposite {P : Program} {w : World} {K : PySem.W.Frag} {mg : Str → Option Value} {base : Heap} {f : Addr} {fd : FuncData} (F : Fun K "opposite" "opposite" (topS 9) f fd) (hm : mg "opposite" = some (.ref f)) : Cle P w K mg base 1 "opposite" ["one"] [] g_opposite := by
  refine ⟨⟨f, fd, ok_opposite F , hm, F.kp, ?_, ?_⟩⟩
  all_goals (obtain ⟨oc, od, kV, doc, pm, an, cdv, ct, osl, rfl, lk, hcd⟩ := F.ex)
  · exact fun us hl => match us, hl with | [_], _ => rfl
  · exact List.forall_mem_nil _
/-! ### minus -/
def fn_minus : Fn := ⟨["one", "other"], ["one", "other"],
.cons (.ret (.call "plus" ["one", "other"] g_plus (.cons (.var 0) (.cons (.call "opposite" ["one"] g_opposite (.cons (.var 1) (.nil))) (.nil)))))
   (.nil)⟩
def g_minus : G := runFn fn_minus
theorem sc_minus : FnScope fn_minus.N fn_minus.ps (defScope (topS 10)) := ⟨rfl, rfl, rfl, by decide +kernel, rfl, by decide +kernel, by decide +kernel⟩
theorem b_minus {P : Program} {w : World} {K : PySem.W.Frag} {mg : Str → Option Value} {base : Heap} {f : Addr} {cdv : Value} {A : Around} {outer : List Env} {s : Shared} {H : Hp} (G : Good (Cxb P w K mg base fn_minus "minus" (topS 10) f cdv A outer s H) P w K mg base 3) (c_plus : Cle P w K mg base 3 "plus" ["one", "other"] [] g_plus) (c_opposite : Cle P w K mg base 1 "opposite" ["one"] [] g_opposite) :
 PSs (Cxb P w K mg base fn_minus "minus" (topS 10) f cdv A outer s H) (defBody (topS 10)) (tS K NW (denSs fn_minus.body)) :=
 have B := G.b
 have hr := G.room
 have nd := sc_minus.nd
 ss_cons (s_ret (x_call c_plus hr (by decide) B (gl rfl) (a_cons (x_var rfl (vis rfl)) (a_cons (x_call c_opposite hr (by decide) B (gl rfl) (a_cons (x_var rfl (vis rfl)) (a_nil))) (a_nil)))))
   (ss_nil)
theorem ok_minus {P : Program} {w : World} {K : PySem.W.Frag} {mg : Str → Option Value} {base : Heap} {f : Addr} {fd : FuncData} (F : Fun K "minus" "minus" (topS 10) f fd) (c_plus : Cle P w K mg base 3 "plus" ["one", "other"] [] g_plus) (c_opposite : Cle P w K mg base 1 "opposite" ["one"] [] g_opposite) : GOk P w K mg base 4 f fd ["one", "other"] g_minus := body_ok (F := fn_minus) F sc_minus fun A outer s H cdv G => b_minus G c_plus c_opposite
theorem cl_minus {P : Program} {w : World} {K : PySem.W.Frag} {mg : Str → Option Value} {base : Heap} {f : Addr} {fd : FuncData} (F : Fun K "minus" "minus" (topS 10) f fd) (hm : mg "minus" = some (.ref f)) (c_plus : Cle P w K mg base 3 "plus" ["one", "other"] [] g_plus) (c_opposite : Cle P w K mg base 1 "opposite" ["one"] [] g_opposite) : Cle P w K mg base 4 "minus" ["one", "other"] [] g_minus := by
  refine ⟨⟨f, fd, ok_minus F c_plus c_opposite, hm, F.kp, ?_, ?_⟩⟩
  all_goals (obtain ⟨oc, od, kV, doc, pm, an, cdv, ct, osl, rfl, lk, hcd⟩ := F.ex)
  · exact fun us hl => match us, hl with | [_, _], _ => rfl
  · exact List.forall_mem_nil _
/-! ### weight_behind -/
def fn_weight_behind : Fn := ⟨["a", "b", "k"], ["a", "b", "k", "both", "four"],
.cons (.asg (.nm 3) (.call "times" ["one", "other"] g_times (.cons (.tup (.cons (.var 2) (.cons (.cst (.int 1)) (.nil)))) (.cons (.call "plus" ["one", "other"] g_plus (.cons (.var 0) (.cons (.var 1) (.nil)))) (.nil)))))
   (.cons (.asg (.nm 4) (.call "times" ["one", "other"] g_times (.cons (.tup (.cons (.cst (.int 4)) (.cons (.cst (.int 1)) (.nil)))) (.cons (.var 0) (.nil)))))
   (.cons (.ret (.ife (.call "is_below" ["one", "other"] g_is_below (.cons (.var 3) (.cons (.var 4) (.nil)))) (.call "over" ["one", "other"] g_over (.cons (.call "times" ["one", "other"] g_times (.cons (.var 1) (.cons (.var 3) (.nil)))) (.cons (.call "minus" ["one", "other"] g_minus (.cons (.var 4) (.cons (.var 3) (.nil)))) (.nil)))) (.cst .non)))
   (.nil)))⟩
def g_weight_behind : G := runFn fn_weight_behind
theorem sc_weight_behind : FnScope fn_weight_behind.N fn_weight_behind.ps (defScope (topS 17)) := ⟨rfl, rfl, rfl, by decide +kernel, rfl, by decide +kernel, by decide +kernel⟩
theorem b_weight_behind {P : Program} {w : World} {K : PySem.W.Frag} {mg : Str → Option Value} {base : Heap} {f : Addr} {cdv : Value} {A : Around} {outer : List Env} {s : Shared} {H : Hp} (G : Good (Cxb P w K mg base fn_weight_behind "weight_behind" (topS 17) f cdv A outer s H) P w K mg base 4) (c_times : Cle P w K mg base 3 "times" ["one", "other"] [] g_times) (c_plus : Cle P w K mg base 3 "plus" ["one", "other"] [] g_plus) (c_is_below : Cle P w K mg base 1 "is_below" ["one", "other"] [] g_is_below) (c_over : Cle P w K mg base 3 "over" ["one", "other"] [] g_over) (c_minus : Cle P w K mg base 4 "minus" ["one", "other"] [] g_minus) :
 PSs (Cxb P w K mg base fn_weight_behind "weight_behind" (topS 17) f cdv A outer s H) (defBody (topS 17)) (tS K NW (denSs fn_weight_behind.body)) :=
 have B := G.b
 have hr := G.room
 have nd := sc_weight_behind.nd
 ss_cons (s_asg (x_call c_times hr (by decide) B (gl rfl) (a_cons (x_tup (a_cons (x_var rfl (vis rfl)) (a_cons (x_int) (a_nil)))) (a_cons (x_call c_plus hr (by decide) B (gl rfl) (a_cons (x_var rfl (vis rfl)) (a_cons (x_var rfl (vis rfl)) (a_nil)))) (a_nil)))) (g_nm nd rfl (loc rfl) (.inl rfl)))
   (ss_cons (s_asg (x_call c_times hr (by decide) B (gl rfl) (a_cons (x_tup (a_cons (x_int) (a_cons (x_int) (a_nil)))) (a_cons (x_var rfl (vis rfl)) (a_nil)))) (g_nm nd rfl (loc rfl) (.inl rfl)))
   (ss_cons (s_ret (x_ife (t_plain (x_call c_is_below hr (by decide) B (gl rfl) (a_cons (x_var rfl (vis rfl)) (a_cons (x_var rfl (vis rfl)) (a_nil))))) (x_call c_over hr (by decide) B (gl rfl) (a_cons (x_call c_times hr (by decide) B (gl rfl) (a_cons (x_var rfl (vis rfl)) (a_cons (x_var rfl (vis rfl)) (a_nil)))) (a_cons (x_call c_minus hr (by decide) B (gl rfl) (a_cons (x_var rfl (vis rfl)) (a_cons (x_var rfl (vis rfl)) (a_nil)))) (a_nil)))) (x_non)))
   (ss_nil)))
theorem ok_weight_behind {P : Program} {w : World} {K : PySem.W.Frag} {mg : Str → Option Value} {base : Heap} {f : Addr} {fd : FuncData} (F : Fun K "weight_behind" "weight_behind" (topS 17) f fd) (c_times : Cle P w K mg base 3 "times" ["one", "other"] [] g_times) (c_plus : Cle P w K mg base 3 "plus" ["one", "other"] [] g_plus) (c_is_below : Cle P w K mg base 1 "is_below" ["one", "other"] [] g_is_below) (c_over : Cle P w K mg base 3 "over" ["one", "other"] [] g_over) (c_minus : Cle P w K mg base 4 "minus" ["one", "other"] [] g_minus) : GOk P w K mg base 5 f fd ["a", "b", "k"] g_weight_behind := body_ok (F := fn_weight_behind) F sc_weight_behind fun A outer s H cdv G => b_weight_behind G c_times c_plus c_is_below c_over c_minus
theorem cl_weight_behind {P : Program} {w : World} {K : PySem.W.Frag} {mg : Str → Option Value} {base : Heap} {f : Addr} {fd : FuncData} (F : Fun K "weight_behind" "weight_behind" (topS 17) f fd) (hm : mg "weight_behind" = some (.ref f)) (c_times : Cle P w K mg base 3 "times" ["one", "other"] [] g_times) (c_plus : Cle P w K mg base 3 "plus" ["one", "other"] [] g_plus) (c_is_below : Cle P w K mg base 1 "is_below" ["one", "other"] [] g_is_below) (c_over : Cle P w K mg base 3 "over" ["one", "other"] [] g_over) (c_minus : Cle P w K mg base 4 "minus" ["one", "other"] [] g_minus) : Cle P w K mg base 5 "weight_behind" ["a", "b", "k"] [] g_weight_behind := by
  refine ⟨⟨f, fd, ok_weight_behind F c_times c_plus c_is_below c_over c_minus, hm, F.kp, ?_, ?_⟩⟩
  all_goals (obtain ⟨oc, od, kV, doc, pm, an, cdv, ct, osl, rfl, lk, hcd⟩ := F.ex)
  · exact fun us hl => match us, hl with | [_, _, _], _ => rfl
  · exact List.forall_mem_nil _
/-! ### is_grown -/
def fn_is_grown : Fn := ⟨["one"], ["one"],
.cons (.ret (.or (.cmp .GtE (.blt .abs false (.cons (.idx (.var 0) (.cst (.int 0))) (.nil))) (.glo "BIG" (.int 10000000000000000000000000000000000000000000000000000000000000000000000000000000000000000000000000000000000000000000000000000000000000000000000000000000000000000000000000000000000000000000000000000000000000000000000000000000000000000000000000000000000000000000000000000000000000000000000000000000000000000000000000000000000000000000000000000000000000000000000000000000000000000000000000000000000000000000000000000000000000000000000000000000000000000000000000000000000000000000000000000000000000000000000000000000000000000000000000000000000000000000000000000000000000000000000000000000000000000000000000000000000000000000000000000000000000000000000000000000000000000000000000000000000000000000000000000000000000000000000000000000000000000000000000000000000000000000000000000000000000000000000000000000000000000000000000000000000000000000000000000000000000000000000000000000000000000000000000000000000000000000000000000000000000000000000000000000000000000000000000000000000000000000000000000000000000000))) (.cmp .GtE (.idx (.var 0) (.cst (.int 1))) (.glo "BIG" (.int 10000000000000000000000000000000000000000000000000000000000000000000000000000000000000000000000000000000000000000000000000000000000000000000000000000000000000000000000000000000000000000000000000000000000000000000000000000000000000000000000000000000000000000000000000000000000000000000000000000000000000000000000000000000000000000000000000000000000000000000000000000000000000000000000000000000000000000000000000000000000000000000000000000000000000000000000000000000000000000000000000000000000000000000000000000000000000000000000000000000000000000000000000000000000000000000000000000000000000000000000000000000000000000000000000000000000000000000000000000000000000000000000000000000000000000000000000000000000000000000000000000000000000000000000000000000000000000000000000000000000000000000000000000000000000000000000000000000000000000000000000000000000000000000000000000000000000000000000000000000000000000000000000000000000000000000000000000000000000000000000000000000000000000000000000000000000000000)))))
   (.nil)⟩
def g_is_grown : G := runFn fn_is_grown
theorem sc_is_grown : FnScope fn_is_grown.N fn_is_grown.ps (defScope (topS 14)) := ⟨rfl, rfl, rfl, by decide +kernel, rfl, by decide +kernel, by decide +kernel⟩
theorem b_is_grown {P : Program} {w : World} {K : PySem.W.Frag} {mg : Str → Option Value} {base : Heap} {f : Addr} {cdv : Value} {A : Around} {outer : List Env} {s : Shared} {H : Hp} (G : Good (Cxb P w K mg base fn_is_grown "is_grown" (topS 14) f cdv A outer s H) P w K mg base 0) (z_abs : mg "abs" = none) (m_BIG : GloIs K mg "BIG" (.int 10000000000000000000000000000000000000000000000000000000000000000000000000000000000000000000000000000000000000000000000000000000000000000000000000000000000000000000000000000000000000000000000000000000000000000000000000000000000000000000000000000000000000000000000000000000000000000000000000000000000000000000000000000000000000000000000000000000000000000000000000000000000000000000000000000000000000000000000000000000000000000000000000000000000000000000000000000000000000000000000000000000000000000000000000000000000000000000000000000000000000000000000000000000000000000000000000000000000000000000000000000000000000000000000000000000000000000000000000000000000000000000000000000000000000000000000000000000000000000000000000000000000000000000000000000000000000000000000000000000000000000000000000000000000000000000000000000000000000000000000000000000000000000000000000000000000000000000000000000000000000000000000000000000000000000000000000000000000000000000000000000000000000000000000000000000000000000)) :
 PSs (Cxb P w K mg base fn_is_grown "is_grown" (topS 14) f cdv A outer s H) (defBody (topS 14)) (tS K NW (denSs fn_is_grown.body)) :=
 have B := G.b
 have hr := G.room
 have nd := sc_is_grown.nd
 ss_cons (s_ret (x_or (x_cmp B (x_bltB B rfl (gl rfl) z_abs bo_abs (a_cons (x_idx (x_var rfl (vis rfl)) (x_int)) (a_nil))) (x_gloM (gl rfl) m_BIG)) (x_one (x_cmp B (x_idx (x_var rfl (vis rfl)) (x_int)) (x_gloM (gl rfl) m_BIG)))))
   (ss_nil)
theorem ok_is_grown {P : Program} {w : World} {K : PySem.W.Frag} {mg : Str → Option Value} {base : Heap} {f : Addr} {fd : FuncData} (F : Fun K "is_grown" "is_grown" (topS 14) f fd) (z_abs : mg "abs" = none) (m_BIG : GloIs K mg "BIG" (.int 10000000000000000000000000000000000000000000000000000000000000000000000000000000000000000000000000000000000000000000000000000000000000000000000000000000000000000000000000000000000000000000000000000000000000000000000000000000000000000000000000000000000000000000000000000000000000000000000000000000000000000000000000000000000000000000000000000000000000000000000000000000000000000000000000000000000000000000000000000000000000000000000000000000000000000000000000000000000000000000000000000000000000000000000000000000000000000000000000000000000000000000000000000000000000000000000000000000000000000000000000000000000000000000000000000000000000000000000000000000000000000000000000000000000000000000000000000000000000000000000000000000000000000000000000000000000000000000000000000000000000000000000000000000000000000000000000000000000000000000000000000000000000000000000000000000000000000000000000000000000000000000000000000000000000000000000000000000000000000000000000000000000000000000000000000000000000000)) : GOk P w K mg base 1 f fd ["one"] g_is_grown := body_ok (F := fn_is_grown) F sc_is_grown fun A outer s H cdv G => b_is_grown G z_abs m_BIG
theorem cl_is_grown {P : Program} {w : World} {K : PySem.W.Frag} {mg : Str → Option Value} {base : Heap} {f : Addr} {fd : FuncData} (F : Fun K "is_grown" "is_grown" (topS 14) f fd) (hm : mg "is_grown" = some (.ref f)) (z_abs : mg "abs" = none) (m_BIG : GloIs K mg "BIG" (.int 10000000000000000000000000000000000000000000000000000000000000000000000000000000000000000000000000000000000000000000000000000000000000000000000000000000000000000000000000000000000000000000000000000000000000000000000000000000000000000000000000000000000000000000000000000000000000000000000000000000000000000000000000000000000000000000000000000000000000000000000000000000000000000000000000000000000000000000000000000000000000000000000000000000000000000000000000000000000000000000000000000000000000000000000000000000000000000000000000000000000000000000000000000000000000000000000000000000000000000000000000000000000000000000000000000000000000000000000000000000000000000000000000000000000000000000000000000000000000000000000000000000000000000000000000000000000000000000000000000000000000000000000000000000000000000000000000000000000000000000000000000000000000000000000000000000000000000000000000000000000000000000000000000000000000000000000000000000000000000000000000000000000000000000000000000000000000000)) : Cle P w K mg base 1 "is_grown" ["one"] [] g_is_grown := by
  refine ⟨⟨f, fd, ok_is_grown F z_abs m_BIG, hm, F.kp, ?_, ?_⟩⟩
  all_goals (obtain ⟨oc, od, kV, doc, pm, an, cdv, ct, osl, rfl, lk, hcd⟩ := F.ex)
  · exact fun us hl => match us, hl with | [_], _ => rfl
  · exact List.forall_mem_nil _
/-! ### fit_fraction -/
def fn_fit_fraction : Fn := ⟨["one"], ["one"],
.cons (.ife (.call "is_grown" ["one"] g_is_grown (.cons (.var 0) (.nil)))
   (.cons (.dead)
   (.nil)) (.nil))
   (.cons (.ret (.var 0))
   (.nil))⟩
def g_fit_fraction : G := runFn fn_fit_fraction
theorem sc_fit_fraction : FnScope fn_fit_fraction.N fn_fit_fraction.ps (defScope (topS 15)) := ⟨rfl, rfl, rfl, by decide +kernel, rfl, by decide +kernel, by decide +kernel⟩
theorem b_fit_fraction {P : Program} {w : World} {K : PySem.W.Frag} {mg : Str → Option Value} {base : Heap} {f : Addr} {cdv : Value} {A : Around} {outer : List Env} {s : Shared} {H : Hp} (G : Good (Cxb P w K mg base fn_fit_fraction "fit_fraction" (topS 15) f cdv A outer s H) P w K mg base 1) (c_is_grown : Cle P w K mg base 1 "is_grown" ["one"] [] g_is_grown) :
 PSs (Cxb P w K mg base fn_fit_fraction "fit_fraction" (topS 15) f cdv A outer s H) (defBody (topS 15)) (tS K NW (denSs fn_fit_fraction.body)) :=
 have B := G.b
 have hr := G.room
 have nd := sc_fit_fraction.nd
 ss_cons (s_ife (t_plain (x_call c_is_grown hr (by decide) B (gl rfl) (a_cons (x_var rfl (vis rfl)) (a_nil))))
   (ss_cons (s_dead)
   (ss_nil)) (ss_nil))
   (ss_cons (s_ret (x_var rfl (vis rfl)))
   (ss_nil))
theorem ok_fit_fraction {P : Program} {w : World} {K : PySem.W.Frag} {mg : Str → Option Value} {base : Heap} {f : Addr} {fd : FuncData} (F : Fun K "fit_fraction" "fit_fraction" (topS 15) f fd) (c_is_grown : Cle P w K mg base 1 "is_grown" ["one"] [] g_is_grown) : GOk P w K mg base 2 f fd ["one"] g_fit_fraction := body_ok (F := fn_fit_fraction) F sc_fit_fraction fun A outer s H cdv G => b_fit_fraction G c_is_grown
theorem cl_fit_fraction {P : Program} {w : World} {K : PySem.W.Frag} {mg : Str → Option Value} {base : Heap} {f : Addr} {fd : FuncData} (F : Fun K "fit_fraction" "fit_fraction" (topS 15) f fd) (hm : mg "fit_fraction" = some (.ref f)) (c_is_grown : Cle P w K mg base 1 "is_grown" ["one"] [] g_is_grown) : Cle P w K mg base 2 "fit_fraction" ["one"] [] g_fit_fraction := by
  refine ⟨⟨f, fd, ok_fit_fraction F c_is_grown, hm, F.kp, ?_, ?_⟩⟩
  all_goals (obtain ⟨oc, od, kV, doc, pm, an, cdv, ct, osl, rfl, lk, hcd⟩ := F.ex)
  · exact fun us hl => match us, hl with | [_], _ => rfl
  · exact List.forall_mem_nil _
/-! ### next_weight -/
def fn_next_weight : Fn := ⟨["a", "b", "k"], ["a", "b", "k", "found"],
.cons (.asg (.nm 3) (.call "weight_behind" ["a", "b", "k"] g_weight_behind (.cons (.var 0) (.cons (.var 1) (.cons (.var 2) (.nil))))))
   (.cons (.ret (.ife (.cmp .IsNot (.var 3) (.cst .non)) (.call "fit_fraction" ["one"] g_fit_fraction (.cons (.var 3) (.nil))) (.cst .non)))
   (.nil))⟩
def g_next_weight : G := runFn fn_next_weight
theorem sc_next_weight : FnScope fn_next_weight.N fn_next_weight.ps (defScope (topS 18)) := ⟨rfl, rfl, rfl, by decide +kernel, rfl, by decide +kernel, by decide +kernel⟩
theorem b_next_weight {P : Program} {w : World} {K : PySem.W.Frag} {mg : Str → Option Value} {base : Heap} {f : Addr} {cdv : Value} {A : Around} {outer : List Env} {s : Shared} {H : Hp} (G : Good (Cxb P w K mg base fn_next_weight "next_weight" (topS 18) f cdv A outer s H) P w K mg base 5) (c_weight_behind : Cle P w K mg base 5 "weight_behind" ["a", "b", "k"] [] g_weight_behind) (c_fit_fraction : Cle P w K mg base 2 "fit_fraction" ["one"] [] g_fit_fraction) :
 PSs (Cxb P w K mg base fn_next_weight "next_weight" (topS 18) f cdv A outer s H) (defBody (topS 18)) (tS K NW (denSs fn_next_weight.body)) :=
 have B := G.b
 have hr := G.room
 have nd := sc_next_weight.nd
 ss_cons (s_asg (x_call c_weight_behind hr (by decide) B (gl rfl) (a_cons (x_var rfl (vis rfl)) (a_cons (x_var rfl (vis rfl)) (a_cons (x_var rfl (vis rfl)) (a_nil))))) (g_nm nd rfl (loc rfl) (.inl rfl)))
   (ss_cons (s_ret (x_ife (t_cmp B (x_var rfl (vis rfl)) (x_non)) (x_call c_fit_fraction hr (by decide) B (gl rfl) (a_cons (x_var rfl (vis rfl)) (a_nil))) (x_non)))
   (ss_nil))
theorem ok_next_weight {P : Program} {w : World} {K : PySem.W.Frag} {mg : Str → Option Value} {base : Heap} {f : Addr} {fd : FuncData} (F : Fun K "next_weight" "next_weight" (topS 18) f fd) (c_weight_behind : Cle P w K mg base 5 "weight_behind" ["a", "b", "k"] [] g_weight_behind) (c_fit_fraction : Cle P w K mg base 2 "fit_fraction" ["one"] [] g_fit_fraction) : GOk P w K mg base 6 f fd ["a", "b", "k"] g_next_weight := body_ok (F := fn_next_weight) F sc_next_weight fun A outer s H cdv G => b_next_weight G c_weight_behind c_fit_fraction
theorem cl_next_weight {P : Program} {w : World} {K : PySem.W.Frag} {mg : Str → Option Value} {base : Heap} {f : Addr} {fd : FuncData} (F : Fun K "next_weight" "next_weight" (topS 18) f fd) (hm : mg "next_weight" = some (.ref f)) (c_weight_behind : Cle P w K mg base 5 "weight_behind" ["a", "b", "k"] [] g_weight_behind) (c_fit_fraction : Cle P w K mg base 2 "fit_fraction" ["one"] [] g_fit_fraction) : Cle P w K mg base 6 "next_weight" ["a", "b", "k"] [(0, ["k", "b", "a"])] g_next_weight := by
  refine ⟨⟨f, fd, ok_next_weight F c_weight_behind c_fit_fraction, hm, F.kp, ?_, ?_⟩⟩
  all_goals (obtain ⟨oc, od, kV, doc, pm, an, cdv, ct, osl, rfl, lk, hcd⟩ := F.ex)
  · exact fun us hl => match us, hl with | [_, _, _], _ => rfl
  · refine List.forall_mem_cons.mpr ⟨(fun us ws us2 h1 h2 h => match us, ws, h1, h2, h with | [], [a2, a1, a0], _, _, h => by cases (show some [a0, a1, a2] = some us2 from h); rfl), List.forall_mem_nil _⟩
/-! ### _law_told -/
def fn_u_law_told : Fn := ⟨["a", "b", "k", "is_named"], ["a", "b", "k", "is_named"],
.cons (.ret (.ife (.var 3) (.callK "next_weight" ["a", "b", "k"] g_next_weight (.nil) ["k", "b", "a"] (.cons (.var 2) (.cons (.var 1) (.cons (.var 0) (.nil))))) (.call "next_weight" ["a", "b", "k"] g_next_weight (.cons (.var 0) (.cons (.var 1) (.cons (.var 2) (.nil)))))))
   (.nil)⟩
def g_u_law_told : G := runFn fn_u_law_told
theorem sc_u_law_told : FnScope fn_u_law_told.N fn_u_law_told.ps (defScope (topS 36)) := ⟨rfl, rfl, rfl, by decide +kernel, rfl, by decide +kernel, by decide +kernel⟩
theorem b_u_law_told {P : Program} {w : World} {K : PySem.W.Frag} {mg : Str → Option Value} {base : Heap} {f : Addr} {cdv : Value} {A : Around} {outer : List Env} {s : Shared} {H : Hp} (G : Good (Cxb P w K mg base fn_u_law_told "_law_told" (topS 36) f cdv A outer s H) P w K mg base 6) (c_next_weight : Cle P w K mg base 6 "next_weight" ["a", "b", "k"] [(0, ["k", "b", "a"])] g_next_weight) :
 PSs (Cxb P w K mg base fn_u_law_told "_law_told" (topS 36) f cdv A outer s H) (defBody (topS 36)) (tS K NW (denSs fn_u_law_told.body)) :=
 have B := G.b
 have hr := G.room
 have nd := sc_u_law_told.nd
 ss_cons (s_ret (x_ife (t_plain (x_var rfl (vis rfl))) (x_callK0 c_next_weight hr (by decide) B (gl rfl) (k_cons (x_var rfl (vis rfl)) (k_cons (x_var rfl (vis rfl)) (k_cons (x_var rfl (vis rfl)) (k_nil)))) (.head _)) (x_call c_next_weight hr (by decide) B (gl rfl) (a_cons (x_var rfl (vis rfl)) (a_cons (x_var rfl (vis rfl)) (a_cons (x_var rfl (vis rfl)) (a_nil)))))))
   (ss_nil)
theorem ok_u_law_told {P : Program} {w : World} {K : PySem.W.Frag} {mg : Str → Option Value} {base : Heap} {f : Addr} {fd : FuncData} (F : Fun K "_law_told" "_law_told" (topS 36) f fd) (c_next_weight : Cle P w K mg base 6 "next_weight" ["a", "b", "k"] [(0, ["k", "b", "a"])] g_next_weight) : GOk P w K mg base 7 f fd ["a", "b", "k", "is_named"] g_u_law_told := body_ok (F := fn_u_law_told) F sc_u_law_told fun A outer s H cdv G => b_u_law_told G c_next_weight
theorem cl_u_law_told {P : Program} {w : World} {K : PySem.W.Frag} {mg : Str → Option Value} {base : Heap} {f : Addr} {fd : FuncData} (F : Fun K "_law_told" "_law_told" (topS 36) f fd) (hm : mg "_law_told" = some (.ref f)) (c_next_weight : Cle P w K mg base 6 "next_weight" ["a", "b", "k"] [(0, ["k", "b", "a"])] g_next_weight) : Cle P w K mg base 7 "_law_told" ["a", "b", "k", "is_named"] [] g_u_law_told := by
  refine ⟨⟨f, fd, ok_u_law_told F c_next_weight, hm, F.kp, ?_, ?_⟩⟩
  all_goals (obtain ⟨oc, od, kV, doc, pm, an, cdv, ct, osl, rfl, lk, hcd⟩ := F.ex)
  · exact fun us hl => match us, hl with | [_, _, _, _], _ => rfl
  · exact List.forall_mem_nil _
/-! ### _law_is -/
def fn_u_law_is : Fn := ⟨["told", "due"], ["told", "due"],
.cons (.ret (.and (.cmp .Eq (.var 0) (.var 1)) (.cmp .Eq (.blt .repr false (.cons (.var 0) (.nil))) (.blt .repr false (.cons (.var 1) (.nil))))))
   (.nil)⟩
def g_u_law_is : G := runFn fn_u_law_is
theorem sc_u_law_is : FnScope fn_u_law_is.N fn_u_law_is.ps (defScope (topS 28)) := ⟨rfl, rfl, rfl, by decide +kernel, rfl, by decide +kernel, by decide +kernel⟩
theorem b_u_law_is {P : Program} {w : World} {K : PySem.W.Frag} {mg : Str → Option Value} {base : Heap} {f : Addr} {cdv : Value} {A : Around} {outer : List Env} {s : Shared} {H : Hp} (G : Good (Cxb P w K mg base fn_u_law_is "_law_is" (topS 28) f cdv A outer s H) P w K mg base 0) (z_repr : mg "repr" = none) :
 PSs (Cxb P w K mg base fn_u_law_is "_law_is" (topS 28) f cdv A outer s H) (defBody (topS 28)) (tS K NW (denSs fn_u_law_is.body)) :=
 have B := G.b
 have hr := G.room
 have nd := sc_u_law_is.nd
 ss_cons (s_ret (x_and (x_cmp B (x_var rfl (vis rfl)) (x_var rfl (vis rfl))) (x_one (x_cmp B (x_bltB B rfl (gl rfl) z_repr bo_repr (a_cons (x_var rfl (vis rfl)) (a_nil))) (x_bltB B rfl (gl rfl) z_repr bo_repr (a_cons (x_var rfl (vis rfl)) (a_nil)))))))
   (ss_nil)
theorem ok_u_law_is {P : Program} {w : World} {K : PySem.W.Frag} {mg : Str → Option Value} {base : Heap} {f : Addr} {fd : FuncData} (F : Fun K "_law_is" "_law_is" (topS 28) f fd) (z_repr : mg "repr" = none) : GOk P w K mg base 1 f fd ["told", "due"] g_u_law_is := body_ok (F := fn_u_law_is) F sc_u_law_is fun A outer s H cdv G => b_u_law_is G z_repr
theorem cl_u_law_is {P : Program} {w : World} {K : PySem.W.Frag} {mg : Str → Option Value} {base : Heap} {f : Addr} {fd : FuncData} (F : Fun K "_law_is" "_law_is" (topS 28) f fd) (hm : mg "_law_is" = some (.ref f)) (z_repr : mg "repr" = none) : Cle P w K mg base 1 "_law_is" ["told", "due"] [] g_u_law_is := by
  refine ⟨⟨f, fd, ok_u_law_is F z_repr, hm, F.kp, ?_, ?_⟩⟩
  all_goals (obtain ⟨oc, od, kV, doc, pm, an, cdv, ct, osl, rfl, lk, hcd⟩ := F.ex)
  · exact fun us hl => match us, hl with | [_, _], _ => rfl
  · exact List.forall_mem_nil _
/-! ### weight_by_wall -/
def fn_weight_by_wall : Fn := ⟨["b", "k"], ["b", "k"],
.cons (.ret (.call "times" ["one", "other"] g_times (.cons (.var 0) (.cons (.call "over" ["one", "other"] g_over (.cons (.tup (.cons (.var 1) (.cons (.cst (.int 1)) (.nil)))) (.cons (.tup (.cons (.bin false .Sub (.cst (.int 4)) (.var 1)) (.cons (.cst (.int 1)) (.nil)))) (.nil)))) (.nil)))))
   (.nil)⟩
def g_weight_by_wall : G := runFn fn_weight_by_wall
theorem sc_weight_by_wall : FnScope fn_weight_by_wall.N fn_weight_by_wall.ps (defScope (topS 19)) := ⟨rfl, rfl, rfl, by decide +kernel, rfl, by decide +kernel, by decide +kernel⟩
theorem b_weight_by_wall {P : Program} {w : World} {K : PySem.W.Frag} {mg : Str → Option Value} {base : Heap} {f : Addr} {cdv : Value} {A : Around} {outer : List Env} {s : Shared} {H : Hp} (G : Good (Cxb P w K mg base fn_weight_by_wall "weight_by_wall" (topS 19) f cdv A outer s H) P w K mg base 3) (c_times : Cle P w K mg base 3 "times" ["one", "other"] [] g_times) (c_over : Cle P w K mg base 3 "over" ["one", "other"] [] g_over) :
 PSs (Cxb P w K mg base fn_weight_by_wall "weight_by_wall" (topS 19) f cdv A outer s H) (defBody (topS 19)) (tS K NW (denSs fn_weight_by_wall.body)) :=
 have B := G.b
 have hr := G.room
 have nd := sc_weight_by_wall.nd
 ss_cons (s_ret (x_call c_times hr (by decide) B (gl rfl) (a_cons (x_var rfl (vis rfl)) (a_cons (x_call c_over hr (by decide) B (gl rfl) (a_cons (x_tup (a_cons (x_var rfl (vis rfl)) (a_cons (x_int) (a_nil)))) (a_cons (x_tup (a_cons (x_bin (x_int) (x_var rfl (vis rfl))) (a_cons (x_int) (a_nil)))) (a_nil)))) (a_nil)))))
   (ss_nil)
theorem ok_weight_by_wall {P : Program} {w : World} {K : PySem.W.Frag} {mg : Str → Option Value} {base : Heap} {f : Addr} {fd : FuncData} (F : Fun K "weight_by_wall" "weight_by_wall" (topS 19) f fd) (c_times : Cle P w K mg base 3 "times" ["one", "other"] [] g_times) (c_over : Cle P w K mg base 3 "over" ["one", "other"] [] g_over) : GOk P w K mg base 4 f fd ["b", "k"] g_weight_by_wall := body_ok (F := fn_weight_by_wall) F sc_weight_by_wall fun A outer s H cdv G => b_weight_by_wall G c_times c_over
theorem cl_weight_by_wall {P : Program} {w : World} {K : PySem.W.Frag} {mg : Str → Option Value} {base : Heap} {f : Addr} {fd : FuncData} (F : Fun K "weight_by_wall" "weight_by_wall" (topS 19) f fd) (hm : mg "weight_by_wall" = some (.ref f)) (c_times : Cle P w K mg base 3 "times" ["one", "other"] [] g_times) (c_over : Cle P w K mg base 3 "over" ["one", "other"] [] g_over) : Cle P w K mg base 4 "weight_by_wall" ["b", "k"] [] g_weight_by_wall := by
  refine ⟨⟨f, fd, ok_weight_by_wall F c_times c_over, hm, F.kp, ?_, ?_⟩⟩
  all_goals (obtain ⟨oc, od, kV, doc, pm, an, cdv, ct, osl, rfl, lk, hcd⟩ := F.ex)
  · exact fun us hl => match us, hl with | [_, _], _ => rfl
  · exact List.forall_mem_nil _
/-! ### wall_next -/
def fn_wall_next : Fn := ⟨["b", "k"], ["b", "k"],
.cons (.ret (.call "fit_fraction" ["one"] g_fit_fraction (.cons (.call "weight_by_wall" ["b", "k"] g_weight_by_wall (.cons (.var 0) (.cons (.var 1) (.nil)))) (.nil))))
   (.nil)⟩
def g_wall_next : G := runFn fn_wall_next
theorem sc_wall_next : FnScope fn_wall_next.N fn_wall_next.ps (defScope (topS 20)) := ⟨rfl, rfl, rfl, by decide +kernel, rfl, by decide +kernel, by decide +kernel⟩
theorem b_wall_next {P : Program} {w : World} {K : PySem.W.Frag} {mg : Str → Option Value} {base : Heap} {f : Addr} {cdv : Value} {A : Around} {outer : List Env} {s : Shared} {H : Hp} (G : Good (Cxb P w K mg base fn_wall_next "wall_next" (topS 20) f cdv A outer s H) P w K mg base 4) (c_fit_fraction : Cle P w K mg base 2 "fit_fraction" ["one"] [] g_fit_fraction) (c_weight_by_wall : Cle P w K mg base 4 "weight_by_wall" ["b", "k"] [] g_weight_by_wall) :
 PSs (Cxb P w K mg base fn_wall_next "wall_next" (topS 20) f cdv A outer s H) (defBody (topS 20)) (tS K NW (denSs fn_wall_next.body)) :=
 have B := G.b
 have hr := G.room
 have nd := sc_wall_next.nd
 ss_cons (s_ret (x_call c_fit_fraction hr (by decide) B (gl rfl) (a_cons (x_call c_weight_by_wall hr (by decide) B (gl rfl) (a_cons (x_var rfl (vis rfl)) (a_cons (x_var rfl (vis rfl)) (a_nil)))) (a_nil))))
   (ss_nil)
theorem ok_wall_next {P : Program} {w : World} {K : PySem.W.Frag} {mg : Str → Option Value} {base : Heap} {f : Addr} {fd : FuncData} (F : Fun K "wall_next" "wall_next" (topS 20) f fd) (c_fit_fraction : Cle P w K mg base 2 "fit_fraction" ["one"] [] g_fit_fraction) (c_weight_by_wall : Cle P w K mg base 4 "weight_by_wall" ["b", "k"] [] g_weight_by_wall) : GOk P w K mg base 5 f fd ["b", "k"] g_wall_next := body_ok (F := fn_wall_next) F sc_wall_next fun A outer s H cdv G => b_wall_next G c_fit_fraction c_weight_by_wall
theorem cl_wall_next {P : Program} {w : World} {K : PySem.W.Frag} {mg : Str → Option Value} {base : Heap} {f : Addr} {fd : FuncData} (F : Fun K "wall_next" "wall_next" (topS 20) f fd) (hm : mg "wall_next" = some (.ref f)) (c_fit_fraction : Cle P w K mg base 2 "fit_fraction" ["one"] [] g_fit_fraction) (c_weight_by_wall : Cle P w K mg base 4 "weight_by_wall" ["b", "k"] [] g_weight_by_wall) : Cle P w K mg base 5 "wall_next" ["b", "k"] [(0, ["k", "b"])] g_wall_next := by
  refine ⟨⟨f, fd, ok_wall_next F c_fit_fraction c_weight_by_wall, hm, F.kp, ?_, ?_⟩⟩
  all_goals (obtain ⟨oc, od, kV, doc, pm, an, cdv, ct, osl, rfl, lk, hcd⟩ := F.ex)
  · exact fun us hl => match us, hl with | [_, _], _ => rfl
  · refine List.forall_mem_cons.mpr ⟨(fun us ws us2 h1 h2 h => match us, ws, h1, h2, h with | [], [a1, a0], _, _, h => by cases (show some [a0, a1] = some us2 from h); rfl), List.forall_mem_nil _⟩
/-! ### wall_number -/
def fn_wall_number : Fn := ⟨["b", "c"], ["b", "c"],
.cons (.ret (.call "fit_fraction" ["one"] g_fit_fraction (.cons (.call "over" ["one", "other"] g_over (.cons (.call "times" ["one", "other"] g_times (.cons (.tup (.cons (.cst (.int 4)) (.cons (.cst (.int 1)) (.nil)))) (.cons (.var 1) (.nil)))) (.cons (.call "plus" ["one", "other"] g_plus (.cons (.var 0) (.cons (.var 1) (.nil)))) (.nil)))) (.nil))))
   (.nil)⟩
def g_wall_number : G := runFn fn_wall_number
theorem sc_wall_number : FnScope fn_wall_number.N fn_wall_number.ps (defScope (topS 23)) := ⟨rfl, rfl, rfl, by decide +kernel, rfl, by decide +kernel, by decide +kernel⟩
theorem b_wall_number {P : Program} {w : World} {K : PySem.W.Frag} {mg : Str → Option Value} {base : Heap} {f : Addr} {cdv : Value} {A : Around} {outer : List Env} {s : Shared} {H : Hp} (G : Good (Cxb P w K mg base fn_wall_number "wall_number" (topS 23) f cdv A outer s H) P w K mg base 3) (c_fit_fraction : Cle P w K mg base 2 "fit_fraction" ["one"] [] g_fit_fraction) (c_over : Cle P w K mg base 3 "over" ["one", "other"] [] g_over) (c_times : Cle P w K mg base 3 "times" ["one", "other"] [] g_times) (c_plus : Cle P w K mg base 3 "plus" ["one", "other"] [] g_plus) :
 PSs (Cxb P w K mg base fn_wall_number "wall_number" (topS 23) f cdv A outer s H) (defBody (topS 23)) (tS K NW (denSs fn_wall_number.body)) :=
 have B := G.b
 have hr := G.room
 have nd := sc_wall_number.nd
 ss_cons (s_ret (x_call c_fit_fraction hr (by decide) B (gl rfl) (a_cons (x_call c_over hr (by decide) B (gl rfl) (a_cons (x_call c_times hr (by decide) B (gl rfl) (a_cons (x_tup (a_cons (x_int) (a_cons (x_int) (a_nil)))) (a_cons (x_var rfl (vis rfl)) (a_nil)))) (a_cons (x_call c_plus hr (by decide) B (gl rfl) (a_cons (x_var rfl (vis rfl)) (a_cons (x_var rfl (vis rfl)) (a_nil)))) (a_nil)))) (a_nil))))
   (ss_nil)
theorem ok_wall_number {P : Program} {w : World} {K : PySem.W.Frag} {mg : Str → Option Value} {base : Heap} {f : Addr} {fd : FuncData} (F : Fun K "wall_number" "wall_number" (topS 23) f fd) (c_fit_fraction : Cle P w K mg base 2 "fit_fraction" ["one"] [] g_fit_fraction) (c_over : Cle P w K mg base 3 "over" ["one", "other"] [] g_over) (c_times : Cle P w K mg base 3 "times" ["one", "other"] [] g_times) (c_plus : Cle P w K mg base 3 "plus" ["one", "other"] [] g_plus) : GOk P w K mg base 4 f fd ["b", "c"] g_wall_number := body_ok (F := fn_wall_number) F sc_wall_number fun A outer s H cdv G => b_wall_number G c_fit_fraction c_over c_times c_plus
theorem cl_wall_number {P : Program} {w : World} {K : PySem.W.Frag} {mg : Str → Option Value} {base : Heap} {f : Addr} {fd : FuncData} (F : Fun K "wall_number" "wall_number" (topS 23) f fd) (hm : mg "wall_number" = some (.ref f)) (c_fit_fraction : Cle P w K mg base 2 "fit_fraction" ["one"] [] g_fit_fraction) (c_over : Cle P w K mg base 3 "over" ["one", "other"] [] g_over) (c_times : Cle P w K mg base 3 "times" ["one", "other"] [] g_times) (c_plus : Cle P w K mg base 3 "plus" ["one", "other"] [] g_plus) : Cle P w K mg base 4 "wall_number" ["b", "c"] [(0, ["c", "b"])] g_wall_number := by
  refine ⟨⟨f, fd, ok_wall_number F c_fit_fraction c_over c_times c_plus, hm, F.kp, ?_, ?_⟩⟩
  all_goals (obtain ⟨oc, od, kV, doc, pm, an, cdv, ct, osl, rfl, lk, hcd⟩ := F.ex)
  · exact fun us hl => match us, hl with | [_, _], _ => rfl
  · refine List.forall_mem_cons.mpr ⟨(fun us ws us2 h1 h2 h => match us, ws, h1, h2, h with | [], [a1, a0], _, _, h => by cases (show some [a0, a1] = some us2 from h); rfl), List.forall_mem_nil _⟩
/-! ### three_number -/
def fn_three_number : Fn := ⟨["a", "b", "c"], ["a", "b", "c"],
.cons (.ret (.call "fit_fraction" ["one"] g_fit_fraction (.cons (.call "over" ["one", "other"] g_over (.cons (.call "times" ["one", "other"] g_times (.cons (.tup (.cons (.cst (.int 4)) (.cons (.cst (.int 1)) (.nil)))) (.cons (.call "times" ["one", "other"] g_times (.cons (.var 0) (.cons (.var 2) (.nil)))) (.nil)))) (.cons (.call "times" ["one", "other"] g_times (.cons (.call "plus" ["one", "other"] g_plus (.cons (.var 0) (.cons (.var 1) (.nil)))) (.cons (.call "plus" ["one", "other"] g_plus (.cons (.var 1) (.cons (.var 2) (.nil)))) (.nil)))) (.nil)))) (.nil))))
   (.nil)⟩
def g_three_number : G := runFn fn_three_number
theorem sc_three_number : FnScope fn_three_number.N fn_three_number.ps (defScope (topS 22)) := ⟨rfl, rfl, rfl, by decide +kernel, rfl, by decide +kernel, by decide +kernel⟩
theorem b_three_number {P : Program} {w : World} {K : PySem.W.Frag} {mg : Str → Option Value} {base : Heap} {f : Addr} {cdv : Value} {A : Around} {outer : List Env} {s : Shared} {H : Hp} (G : Good (Cxb P w K mg base fn_three_number "three_number" (topS 22) f cdv A outer s H) P w K mg base 3) (c_fit_fraction : Cle P w K mg base 2 "fit_fraction" ["one"] [] g_fit_fraction) (c_over : Cle P w K mg base 3 "over" ["one", "other"] [] g_over) (c_times : Cle P w K mg base 3 "times" ["one", "other"] [] g_times) (c_plus : Cle P w K mg base 3 "plus" ["one", "other"] [] g_plus) :
 PSs (Cxb P w K mg base fn_three_number "three_number" (topS 22) f cdv A outer s H) (defBody (topS 22)) (tS K NW (denSs fn_three_number.body)) :=
 have B := G.b
 have hr := G.room
 have nd := sc_three_number.nd
 ss_cons (s_ret (x_call c_fit_fraction hr (by decide) B (gl rfl) (a_cons (x_call c_over hr (by decide) B (gl rfl) (a_cons (x_call c_times hr (by decide) B (gl rfl) (a_cons (x_tup (a_cons (x_int) (a_cons (x_int) (a_nil)))) (a_cons (x_call c_times hr (by decide) B (gl rfl) (a_cons (x_var rfl (vis rfl)) (a_cons (x_var rfl (vis rfl)) (a_nil)))) (a_nil)))) (a_cons (x_call c_times hr (by decide) B (gl rfl) (a_cons (x_call c_plus hr (by decide) B (gl rfl) (a_cons (x_var rfl (vis rfl)) (a_cons (x_var rfl (vis rfl)) (a_nil)))) (a_cons (x_call c_plus hr (by decide) B (gl rfl) (a_cons (x_var rfl (vis rfl)) (a_cons (x_var rfl (vis rfl)) (a_nil)))) (a_nil)))) (a_nil)))) (a_nil))))
   (ss_nil)
theorem ok_three_number {P : Program} {w : World} {K : PySem.W.Frag} {mg : Str → Option Value} {base : Heap} {f : Addr} {fd : FuncData} (F : Fun K "three_number" "three_number" (topS 22) f fd) (c_fit_fraction : Cle P w K mg base 2 "fit_fraction" ["one"] [] g_fit_fraction) (c_over : Cle P w K mg base 3 "over" ["one", "other"] [] g_over) (c_times : Cle P w K mg base 3 "times" ["one", "other"] [] g_times) (c_plus : Cle P w K mg base 3 "plus" ["one", "other"] [] g_plus) : GOk P w K mg base 4 f fd ["a", "b", "c"] g_three_number := body_ok (F := fn_three_number) F sc_three_number fun A outer s H cdv G => b_three_number G c_fit_fraction c_over c_times c_plus
theorem cl_three_number {P : Program} {w : World} {K : PySem.W.Frag} {mg : Str → Option Value} {base : Heap} {f : Addr} {fd : FuncData} (F : Fun K "three_number" "three_number" (topS 22) f fd) (hm : mg "three_number" = some (.ref f)) (c_fit_fraction : Cle P w K mg base 2 "fit_fraction" ["one"] [] g_fit_fraction) (c_over : Cle P w K mg base 3 "over" ["one", "other"] [] g_over) (c_times : Cle P w K mg base 3 "times" ["one", "other"] [] g_times) (c_plus : Cle P w K mg base 3 "plus" ["one", "other"] [] g_plus) : Cle P w K mg base 4 "three_number" ["a", "b", "c"] [(0, ["c", "b", "a"])] g_three_number := by
  refine ⟨⟨f, fd, ok_three_number F c_fit_fraction c_over c_times c_plus, hm, F.kp, ?_, ?_⟩⟩
  all_goals (obtain ⟨oc, od, kV, doc, pm, an, cdv, ct, osl, rfl, lk, hcd⟩ := F.ex)
  · exact fun us hl => match us, hl with | [_, _, _], _ => rfl
  · refine List.forall_mem_cons.mpr ⟨(fun us ws us2 h1 h2 h => match us, ws, h1, h2, h with | [], [a2, a1, a0], _, _, h => by cases (show some [a0, a1, a2] = some us2 from h); rfl), List.forall_mem_nil _⟩
/-! ### _law_pick -/
def fn_u_law_pick : Fn := ⟨["bag", "some"], ["bag", "some"],
.cons (.ret (.idx (.var 1) (.call "_law_draw" ["bag", "below"] g_u_law_draw (.cons (.var 0) (.cons (.blt .len false (.cons (.var 1) (.nil))) (.nil))))))
   (.nil)⟩
def g_u_law_pick : G := runFn fn_u_law_pick
theorem sc_u_law_pick : FnScope fn_u_law_pick.N fn_u_law_pick.ps (defScope (topS 27)) := ⟨rfl, rfl, rfl, by decide +kernel, rfl, by decide +kernel, by decide +kernel⟩
theorem b_u_law_pick {P : Program} {w : World} {K : PySem.W.Frag} {mg : Str → Option Value} {base : Heap} {f : Addr} {cdv : Value} {A : Around} {outer : List Env} {s : Shared} {H : Hp} (G : Good (Cxb P w K mg base fn_u_law_pick "_law_pick" (topS 27) f cdv A outer s H) P w K mg base 1) (c_u_law_draw : Cle P w K mg base 1 "_law_draw" ["bag", "below"] [] g_u_law_draw) (z_len : mg "len" = none) :
 PSs (Cxb P w K mg base fn_u_law_pick "_law_pick" (topS 27) f cdv A outer s H) (defBody (topS 27)) (tS K NW (denSs fn_u_law_pick.body)) :=
 have B := G.b
 have hr := G.room
 have nd := sc_u_law_pick.nd
 ss_cons (s_ret (x_idx (x_var rfl (vis rfl)) (x_call c_u_law_draw hr (by decide) B (gl rfl) (a_cons (x_var rfl (vis rfl)) (a_cons (x_bltB B rfl (gl rfl) z_len bo_len (a_cons (x_var rfl (vis rfl)) (a_nil))) (a_nil))))))
   (ss_nil)
theorem ok_u_law_pick {P : Program} {w : World} {K : PySem.W.Frag} {mg : Str → Option Value} {base : Heap} {f : Addr} {fd : FuncData} (F : Fun K "_law_pick" "_law_pick" (topS 27) f fd) (c_u_law_draw : Cle P w K mg base 1 "_law_draw" ["bag", "below"] [] g_u_law_draw) (z_len : mg "len" = none) : GOk P w K mg base 2 f fd ["bag", "some"] g_u_law_pick := body_ok (F := fn_u_law_pick) F sc_u_law_pick fun A outer s H cdv G => b_u_law_pick G c_u_law_draw z_len
theorem cl_u_law_pick {P : Program} {w : World} {K : PySem.W.Frag} {mg : Str → Option Value} {base : Heap} {f : Addr} {fd : FuncData} (F : Fun K "_law_pick" "_law_pick" (topS 27) f fd) (hm : mg "_law_pick" = some (.ref f)) (c_u_law_draw : Cle P w K mg base 1 "_law_draw" ["bag", "below"] [] g_u_law_draw) (z_len : mg "len" = none) : Cle P w K mg base 2 "_law_pick" ["bag", "some"] [] g_u_law_pick := by
  refine ⟨⟨f, fd, ok_u_law_pick F c_u_law_draw z_len, hm, F.kp, ?_, ?_⟩⟩
  all_goals (obtain ⟨oc, od, kV, doc, pm, an, cdv, ct, osl, rfl, lk, hcd⟩ := F.ex)
  · exact fun us hl => match us, hl with | [_, _], _ => rfl
  · exact List.forall_mem_nil _
/-! ### _law_is_weight_right -/
def fn_u_law_is_weight_right : Fn := ⟨["bag", "a", "b", "k", "is_named"], ["bag", "a", "b", "k", "is_named", "due", "kept", "told", "wall", "number", "f"],
.cons (.par2 5 6 (.call "_law_next_weight" ["a", "b", "k"] g_u_law_next_weight (.cons (.var 1) (.cons (.var 2) (.cons (.var 3) (.nil))))) (.blt .repr false (.cons (.lst false (.cons (.var 1) (.cons (.var 2) (.nil)))) (.nil))))
   (.cons (.asg (.nm 7) (.call "_law_told" ["a", "b", "k", "is_named"] g_u_law_told (.cons (.var 1) (.cons (.var 2) (.cons (.var 3) (.cons (.var 4) (.nil)))))))
   (.cons (.ife (.not (.call "_law_is" ["told", "due"] g_u_law_is (.cons (.var 7) (.cons (.var 5) (.nil)))))
   (.cons (.ret (.cst (.bl false)))
   (.nil)) (.nil))
   (.cons (.asg (.nm 8) (.ife (.var 4) (.callK "wall_next" ["b", "k"] g_wall_next (.nil) ["k", "b"] (.cons (.var 3) (.cons (.var 2) (.nil)))) (.call "wall_next" ["b", "k"] g_wall_next (.cons (.var 2) (.cons (.var 3) (.nil))))))
   (.cons (.ife (.not (.call "_law_is" ["told", "due"] g_u_law_is (.cons (.var 8) (.cons (.call "_law_frac" ["a", "b"] g_u_law_frac (.cons (.bin false .Mult (.var 3) (.idx (.var 2) (.cst (.int 0)))) (.cons (.bin false .Mult (.bin false .Sub (.cst (.int 4)) (.var 3)) (.idx (.var 2) (.cst (.int 1)))) (.nil)))) (.nil)))))
   (.cons (.ret (.cst (.bl false)))
   (.nil)) (.nil))
   (.cons (.asg (.nm 9) (.ife (.var 4) (.callK "wall_number" ["b", "c"] g_wall_number (.nil) ["c", "b"] (.cons (.var 8) (.cons (.var 2) (.nil)))) (.call "wall_number" ["b", "c"] g_wall_number (.cons (.var 2) (.cons (.var 8) (.nil))))))
   (.cons (.ife (.not (.call "_law_is" ["told", "due"] g_u_law_is (.cons (.var 9) (.cons (.tup (.cons (.var 3) (.cons (.cst (.int 1)) (.nil)))) (.nil)))))
   (.cons (.ret (.cst (.bl false)))
   (.nil)) (.nil))
   (.cons (.ife (.cmp .Is (.var 5) (.cst .non))
   (.cons (.ret (.cmp .Eq (.blt .repr false (.cons (.lst false (.cons (.var 1) (.cons (.var 2) (.nil)))) (.nil))) (.var 6)))
   (.nil)) (.nil))
   (.cons (.asg (.nm 9) (.ife (.var 4) (.callK "three_number" ["a", "b", "c"] g_three_number (.nil) ["c", "b", "a"] (.cons (.var 7) (.cons (.var 2) (.cons (.var 1) (.nil))))) (.call "three_number" ["a", "b", "c"] g_three_number (.cons (.var 1) (.cons (.var 2) (.cons (.var 7) (.nil)))))))
   (.cons (.ife (.or (.not (.call "_law_is" ["told", "due"] g_u_law_is (.cons (.var 9) (.cons (.tup (.cons (.var 3) (.cons (.cst (.int 1)) (.nil)))) (.nil))))) (.not (.call "_law_is" ["told", "due"] g_u_law_is (.cons (.call "_law_told" ["a", "b", "k", "is_named"] g_u_law_told (.cons (.var 7) (.cons (.var 2) (.cons (.var 3) (.cons (.not (.var 4)) (.nil)))))) (.cons (.var 1) (.nil))))))
   (.cons (.ret (.cst (.bl false)))
   (.nil)) (.nil))
   (.cons (.asg (.nm 10) (.call "_law_pick" ["bag", "some"] g_u_law_pick (.cons (.var 0) (.cons (.lst false (.cons (.tup (.cons (.cst (.int 2)) (.cons (.cst (.int 1)) (.nil)))) (.cons (.tup (.cons (.cst (.int 1)) (.cons (.cst (.int 3)) (.nil)))) (.cons (.tup (.cons (.cst (.int 5)) (.cons (.cst (.int 2)) (.nil)))) (.cons (.tup (.cons (.cst (.int 1)) (.cons (.cst (.int 1)) (.nil)))) (.nil)))))) (.nil)))))
   (.cons (.ife (.and (.cmp .Lt (.blt .max2 false (.cons (.idx (.var 1) (.cst (.int 0))) (.cons (.idx (.var 2) (.cst (.int 0))) (.nil)))) (.bin false .Pow (.cst (.int 10)) (.cst (.int 8)))) (.cmp .Lt (.blt .max2 false (.cons (.idx (.var 1) (.cst (.int 1))) (.cons (.idx (.var 2) (.cst (.int 1))) (.nil)))) (.bin false .Pow (.cst (.int 10)) (.cst (.int 5)))))
   (.cons (.ife (.not (.call "_law_is" ["told", "due"] g_u_law_is (.cons (.call "_law_told" ["a", "b", "k", "is_named"] g_u_law_told (.cons (.call "_law_times" ["x", "y"] g_u_law_times (.cons (.var 10) (.cons (.var 1) (.nil)))) (.cons (.call "_law_times" ["x", "y"] g_u_law_times (.cons (.var 10) (.cons (.var 2) (.nil)))) (.cons (.var 3) (.cons (.var 4) (.nil)))))) (.cons (.call "_law_times" ["x", "y"] g_u_law_times (.cons (.var 10) (.cons (.var 7) (.nil)))) (.nil)))))
   (.cons (.ret (.cst (.bl false)))
   (.nil)) (.nil))
   (.nil)) (.nil))
   (.cons (.ret (.cmp .Eq (.blt .repr false (.cons (.lst false (.cons (.var 1) (.cons (.var 2) (.nil)))) (.nil))) (.var 6)))
   (.nil)))))))))))))⟩
def g_u_law_is_weight_right : G := runFn fn_u_law_is_weight_right
theorem sc_u_law_is_weight_right : FnScope fn_u_law_is_weight_right.N fn_u_law_is_weight_right.ps (defScope (topS 37)) := ⟨rfl, rfl, rfl, by decide +kernel, rfl, by decide +kernel, by decide +kernel⟩
theorem b_u_law_is_weight_right {P : Program} {w : World} {K : PySem.W.Frag} {mg : Str → Option Value} {base : Heap} {f : Addr} {cdv : Value} {A : Around} {outer : List Env} {s : Shared} {H : Hp} (G : Good (Cxb P w K mg base fn_u_law_is_weight_right "_law_is_weight_right" (topS 37) f cdv A outer s H) P w K mg base 7) (c_u_law_next_weight : Cle P w K mg base 4 "_law_next_weight" ["a", "b", "k"] [] g_u_law_next_weight) (c_u_law_told : Cle P w K mg base 7 "_law_told" ["a", "b", "k", "is_named"] [] g_u_law_told) (c_u_law_is : Cle P w K mg base 1 "_law_is" ["told", "due"] [] g_u_law_is) (c_wall_next : Cle P w K mg base 5 "wall_next" ["b", "k"] [(0, ["k", "b"])] g_wall_next) (c_u_law_frac : Cle P w K mg base 2 "_law_frac" ["a", "b"] [] g_u_law_frac) (c_wall_number : Cle P w K mg base 4 "wall_number" ["b", "c"] [(0, ["c", "b"])] g_wall_number) (c_three_number : Cle P w K mg base 4 "three_number" ["a", "b", "c"] [(0, ["c", "b", "a"])] g_three_number) (c_u_law_pick : Cle P w K mg base 2 "_law_pick" ["bag", "some"] [] g_u_law_pick) (c_u_law_times : Cle P w K mg base 3 "_law_times" ["x", "y"] [] g_u_law_times) (z_repr : mg "repr" = none) (z_max : mg "max" = none) :
 PSs (Cxb P w K mg base fn_u_law_is_weight_right "_law_is_weight_right" (topS 37) f cdv A outer s H) (defBody (topS 37)) (tS K NW (denSs fn_u_law_is_weight_right.body)) :=
 have B := G.b
 have hr := G.room
 have nd := sc_u_law_is_weight_right.nd
 ss_cons (s_par2 B nd rfl rfl (by decide) rfl rfl (a_cons (x_call c_u_law_next_weight hr (by decide) B (gl rfl) (a_cons (x_var rfl (vis rfl)) (a_cons (x_var rfl (vis rfl)) (a_cons (x_var rfl (vis rfl)) (a_nil))))) (a_cons (x_bltB B rfl (gl rfl) z_repr bo_repr (a_cons (x_lst (a_cons (x_var rfl (vis rfl)) (a_cons (x_var rfl (vis rfl)) (a_nil)))) (a_nil))) a_nil)) rfl)
   (ss_cons (s_asg (x_call c_u_law_told hr (by decide) B (gl rfl) (a_cons (x_var rfl (vis rfl)) (a_cons (x_var rfl (vis rfl)) (a_cons (x_var rfl (vis rfl)) (a_cons (x_var rfl (vis rfl)) (a_nil)))))) (g_nm nd rfl (loc rfl) (.inl rfl)))
   (ss_cons (s_ife (t_not (t_plain (x_call c_u_law_is hr (by decide) B (gl rfl) (a_cons (x_var rfl (vis rfl)) (a_cons (x_var rfl (vis rfl)) (a_nil))))))
   (ss_cons (s_ret (x_bl))
   (ss_nil)) (ss_nil))
   (ss_cons (s_asg (x_ife (t_plain (x_var rfl (vis rfl))) (x_callK0 c_wall_next hr (by decide) B (gl rfl) (k_cons (x_var rfl (vis rfl)) (k_cons (x_var rfl (vis rfl)) (k_nil))) (.head _)) (x_call c_wall_next hr (by decide) B (gl rfl) (a_cons (x_var rfl (vis rfl)) (a_cons (x_var rfl (vis rfl)) (a_nil))))) (g_nm nd rfl (loc rfl) (.inl rfl)))
   (ss_cons (s_ife (t_not (t_plain (x_call c_u_law_is hr (by decide) B (gl rfl) (a_cons (x_var rfl (vis rfl)) (a_cons (x_call c_u_law_frac hr (by decide) B (gl rfl) (a_cons (x_bin (x_var rfl (vis rfl)) (x_idx (x_var rfl (vis rfl)) (x_int))) (a_cons (x_bin (x_bin (x_int) (x_var rfl (vis rfl))) (x_idx (x_var rfl (vis rfl)) (x_int))) (a_nil)))) (a_nil))))))
   (ss_cons (s_ret (x_bl))
   (ss_nil)) (ss_nil))
   (ss_cons (s_asg (x_ife (t_plain (x_var rfl (vis rfl))) (x_callK0 c_wall_number hr (by decide) B (gl rfl) (k_cons (x_var rfl (vis rfl)) (k_cons (x_var rfl (vis rfl)) (k_nil))) (.head _)) (x_call c_wall_number hr (by decide) B (gl rfl) (a_cons (x_var rfl (vis rfl)) (a_cons (x_var rfl (vis rfl)) (a_nil))))) (g_nm nd rfl (loc rfl) (.inl rfl)))
   (ss_cons (s_ife (t_not (t_plain (x_call c_u_law_is hr (by decide) B (gl rfl) (a_cons (x_var rfl (vis rfl)) (a_cons (x_tup (a_cons (x_var rfl (vis rfl)) (a_cons (x_int) (a_nil)))) (a_nil))))))
   (ss_cons (s_ret (x_bl))
   (ss_nil)) (ss_nil))
   (ss_cons (s_ife (t_cmp B (x_var rfl (vis rfl)) (x_non))
   (ss_cons (s_ret (x_cmp B (x_bltB B rfl (gl rfl) z_repr bo_repr (a_cons (x_lst (a_cons (x_var rfl (vis rfl)) (a_cons (x_var rfl (vis rfl)) (a_nil)))) (a_nil))) (x_var rfl (vis rfl))))
   (ss_nil)) (ss_nil))
   (ss_cons (s_asg (x_ife (t_plain (x_var rfl (vis rfl))) (x_callK0 c_three_number hr (by decide) B (gl rfl) (k_cons (x_var rfl (vis rfl)) (k_cons (x_var rfl (vis rfl)) (k_cons (x_var rfl (vis rfl)) (k_nil)))) (.head _)) (x_call c_three_number hr (by decide) B (gl rfl) (a_cons (x_var rfl (vis rfl)) (a_cons (x_var rfl (vis rfl)) (a_cons (x_var rfl (vis rfl)) (a_nil)))))) (g_nm nd rfl (loc rfl) (.inl rfl)))
   (ss_cons (s_ife (PW.pt (w_or (t_not (t_plain (x_call c_u_law_is hr (by decide) B (gl rfl) (a_cons (x_var rfl (vis rfl)) (a_cons (x_tup (a_cons (x_var rfl (vis rfl)) (a_cons (x_int) (a_nil)))) (a_nil)))))) (w_or1 (t_not (t_plain (x_call c_u_law_is hr (by decide) B (gl rfl) (a_cons (x_call c_u_law_told hr (by decide) B (gl rfl) (a_cons (x_var rfl (vis rfl)) (a_cons (x_var rfl (vis rfl)) (a_cons (x_var rfl (vis rfl)) (a_cons (x_not (x_var rfl (vis rfl))) (a_nil)))))) (a_cons (x_var rfl (vis rfl)) (a_nil)))))))))
   (ss_cons (s_ret (x_bl))
   (ss_nil)) (ss_nil))
   (ss_cons (s_asg (x_call c_u_law_pick hr (by decide) B (gl rfl) (a_cons (x_var rfl (vis rfl)) (a_cons (x_lst (a_cons (x_tup (a_cons (x_int) (a_cons (x_int) (a_nil)))) (a_cons (x_tup (a_cons (x_int) (a_cons (x_int) (a_nil)))) (a_cons (x_tup (a_cons (x_int) (a_cons (x_int) (a_nil)))) (a_cons (x_tup (a_cons (x_int) (a_cons (x_int) (a_nil)))) (a_nil)))))) (a_nil)))) (g_nm nd rfl (loc rfl) (.inl rfl)))
   (ss_cons (s_ife (PW.pt (w_and (t_cmp B (x_bltB B rfl (gl rfl) z_max bo_max (a_cons (x_idx (x_var rfl (vis rfl)) (x_int)) (a_cons (x_idx (x_var rfl (vis rfl)) (x_int)) (a_nil)))) (x_bin (x_int) (x_int))) (w_and1 (t_cmp B (x_bltB B rfl (gl rfl) z_max bo_max (a_cons (x_idx (x_var rfl (vis rfl)) (x_int)) (a_cons (x_idx (x_var rfl (vis rfl)) (x_int)) (a_nil)))) (x_bin (x_int) (x_int))))))
   (ss_cons (s_ife (t_not (t_plain (x_call c_u_law_is hr (by decide) B (gl rfl) (a_cons (x_call c_u_law_told hr (by decide) B (gl rfl) (a_cons (x_call c_u_law_times hr (by decide) B (gl rfl) (a_cons (x_var rfl (vis rfl)) (a_cons (x_var rfl (vis rfl)) (a_nil)))) (a_cons (x_call c_u_law_times hr (by decide) B (gl rfl) (a_cons (x_var rfl (vis rfl)) (a_cons (x_var rfl (vis rfl)) (a_nil)))) (a_cons (x_var rfl (vis rfl)) (a_cons (x_var rfl (vis rfl)) (a_nil)))))) (a_cons (x_call c_u_law_times hr (by decide) B (gl rfl) (a_cons (x_var rfl (vis rfl)) (a_cons (x_var rfl (vis rfl)) (a_nil)))) (a_nil))))))
   (ss_cons (s_ret (x_bl))
   (ss_nil)) (ss_nil))
   (ss_nil)) (ss_nil))
   (ss_cons (s_ret (x_cmp B (x_bltB B rfl (gl rfl) z_repr bo_repr (a_cons (x_lst (a_cons (x_var rfl (vis rfl)) (a_cons (x_var rfl (vis rfl)) (a_nil)))) (a_nil))) (x_var rfl (vis rfl))))
   (ss_nil)))))))))))))
theorem ok_u_law_is_weight_right {P : Program} {w : World} {K : PySem.W.Frag} {mg : Str → Option Value} {base : Heap} {f : Addr} {fd : FuncData} (F : Fun K "_law_is_weight_right" "_law_is_weight_right" (topS 37) f fd) (c_u_law_next_weight : Cle P w K mg base 4 "_law_next_weight" ["a", "b", "k"] [] g_u_law_next_weight) (c_u_law_told : Cle P w K mg base 7 "_law_told" ["a", "b", "k", "is_named"] [] g_u_law_told) (c_u_law_is : Cle P w K mg base 1 "_law_is" ["told", "due"] [] g_u_law_is) (c_wall_next : Cle P w K mg base 5 "wall_next" ["b", "k"] [(0, ["k", "b"])] g_wall_next) (c_u_law_frac : Cle P w K mg base 2 "_law_frac" ["a", "b"] [] g_u_law_frac) (c_wall_number : Cle P w K mg base 4 "wall_number" ["b", "c"] [(0, ["c", "b"])] g_wall_number) (c_three_number : Cle P w K mg base 4 "three_number" ["a", "b", "c"] [(0, ["c", "b", "a"])] g_three_number) (c_u_law_pick : Cle P w K mg base 2 "_law_pick" ["bag", "some"] [] g_u_law_pick) (c_u_law_times : Cle P w K mg base 3 "_law_times" ["x", "y"] [] g_u_law_times) (z_repr : mg "repr" = none) (z_max : mg "max" = none) : GOk P w K mg base 8 f fd ["bag", "a", "b", "k", "is_named"] g_u_law_is_weight_right := body_ok (F := fn_u_law_is_weight_right) F sc_u_law_is_weight_right fun A outer s H cdv G => b_u_law_is_weight_right G c_u_law_next_weight c_u_law_told c_u_law_is c_wall_next c_u_law_frac c_wall_number c_three_number c_u_law_pick c_u_law_times z_repr z_max
theorem cl_u_law_is_weight_right {P : Program} {w : World} {K : PySem.W.Frag} {mg : Str → Option Value} {base : Heap} {f : Addr} {fd : FuncData} (F : Fun K "_law_is_weight_right" "_law_is_weight_right" (topS 37) f fd) (hm : mg "_law_is_weight_right" = some (.ref f)) (c_u_law_next_weight : Cle P w K mg base 4 "_law_next_weight" ["a", "b", "k"] [] g_u_law_next_weight) (c_u_law_told : Cle P w K mg base 7 "_law_told" ["a", "b", "k", "is_named"] [] g_u_law_told) (c_u_law_is : Cle P w K mg base 1 "_law_is" ["told", "due"] [] g_u_law_is) (c_wall_next : Cle P w K mg base 5 "wall_next" ["b", "k"] [(0, ["k", "b"])] g_wall_next) (c_u_law_frac : Cle P w K mg base 2 "_law_frac" ["a", "b"] [] g_u_law_frac) (c_wall_number : Cle P w K mg base 4 "wall_number" ["b", "c"] [(0, ["c", "b"])] g_wall_number) (c_three_number : Cle P w K mg base 4 "three_number" ["a", "b", "c"] [(0, ["c", "b", "a"])] g_three_number) (c_u_law_pick : Cle P w K mg base 2 "_law_pick" ["bag", "some"] [] g_u_law_pick) (c_u_law_times : Cle P w K mg base 3 "_law_times" ["x", "y"] [] g_u_law_times) (z_repr : mg "repr" = none) (z_max : mg "max" = none) : Cle P w K mg base 8 "_law_is_weight_right" ["bag", "a", "b", "k", "is_named"] [] g_u_law_is_weight_right := by
  refine ⟨⟨f, fd, ok_u_law_is_weight_right F c_u_law_next_weight c_u_law_told c_u_law_is c_wall_next c_u_law_frac c_wall_number c_three_number c_u_law_pick c_u_law_times z_repr z_max, hm, F.kp, ?_, ?_⟩⟩
  all_goals (obtain ⟨oc, od, kV, doc, pm, an, cdv, ct, osl, rfl, lk, hcd⟩ := F.ex)
  · exact fun us hl => match us, hl with | [_, _, _, _, _], _ => rfl
  · exact List.forall_mem_nil _
/-! ### law -/
def fn_law : Fn := ⟨["script"], ["script", "bag", "is_named", "turn", "a", "b", "k", "told"],
.cons (.asg (.nm 1) (.call "_law_own_bag" ["script"] g_u_law_own_bag (.cons (.var 0) (.nil))))
   (.cons (.asg (.nm 2) (.cmp .Eq (.call "_law_draw" ["bag", "below"] g_u_law_draw (.cons (.var 1) (.cons (.cst (.int 2)) (.nil)))) (.cst (.int 0))))
   (.cons (.fore (.nm 3) (.rng1 (.cst (.int 6)))
   (.cons (.par3 4 5 6 (.call "_law_great_weight" ["bag"] g_u_law_great_weight (.cons (.var 1) (.nil))) (.call "_law_great_weight" ["bag"] g_u_law_great_weight (.cons (.var 1) (.nil))) (.bin false .Add (.cst (.int 1)) (.call "_law_draw" ["bag", "below"] g_u_law_draw (.cons (.var 1) (.cons (.cst (.int 3)) (.nil))))))
   (.cons (.ife (.cmp .Eq (.var 3) (.cst (.int 0)))
   (.cons (.asg (.nm 5) (.call "_law_frac" ["a", "b"] g_u_law_frac (.cons (.bin false .Mult (.bin false .Sub (.cst (.int 4)) (.var 6)) (.idx (.var 4) (.cst (.int 0)))) (.cons (.bin false .Mult (.var 6) (.idx (.var 4) (.cst (.int 1)))) (.nil)))))
   (.nil)) (.nil))
   (.cons (.ife (.cmp .Eq (.var 3) (.cst (.int 1)))
   (.cons (.asg (.nm 5) (.ife (.cmp .Gt (.bin false .Mult (.bin false .Sub (.cst (.int 4)) (.var 6)) (.idx (.var 4) (.cst (.int 0)))) (.cst (.int 1))) (.call "_law_frac" ["a", "b"] g_u_law_frac (.cons (.bin false .Sub (.bin false .Mult (.bin false .Sub (.cst (.int 4)) (.var 6)) (.idx (.var 4) (.cst (.int 0)))) (.cst (.int 1))) (.cons (.bin false .Mult (.var 6) (.idx (.var 4) (.cst (.int 1)))) (.nil)))) (.var 4)))
   (.nil)) (.nil))
   (.cons (.ife (.and (.cmp .Lt (.var 3) (.cst (.int 2))) (.or (.cmp .Gt (.idx (.var 5) (.cst (.int 0))) (.bin false .Pow (.cst (.int 10)) (.cst (.int 9)))) (.cmp .Gt (.idx (.var 5) (.cst (.int 1))) (.bin false .Pow (.cst (.int 10)) (.cst (.int 6))))))
   (.cons (.asg (.tup (.cons (.nm 4) (.cons (.nm 5) (.nil)))) (.tup (.cons (.tup (.cons (.cst (.int 2)) (.cons (.cst (.int 1)) (.nil)))) (.cons (.tup (.cons (.cst (.int 2)) (.cons (.cst (.int 1)) (.nil)))) (.nil)))))
   (.nil)) (.nil))
   (.cons (.ife (.not (.call "_law_is_weight_right" ["bag", "a", "b", "k", "is_named"] g_u_law_is_weight_right (.cons (.var 1) (.cons (.var 4) (.cons (.var 5) (.cons (.var 6) (.cons (.var 2) (.nil))))))))
   (.cons (.ret (.cst (.bl false)))
   (.nil)) (.nil))
   (.cons (.asg (.nm 2) (.not (.var 2)))
   (.nil))))))))
   (.cons (.asg (.nm 7) (.lst true (.cons (.call "next_weight" ["a", "b", "k"] g_next_weight (.cons (.tup (.cons (.cst (.int 1)) (.cons (.cst (.int 1)) (.nil)))) (.cons (.tup (.cons (.cst (.int 1)) (.cons (.cst (.int 1)) (.nil)))) (.cons (.cst (.int 1)) (.nil))))) (.cons (.call "next_weight" ["a", "b", "k"] g_next_weight (.cons (.tup (.cons (.cst (.int 1)) (.cons (.cst (.int 1)) (.nil)))) (.cons (.tup (.cons (.cst (.int 1)) (.cons (.cst (.int 1)) (.nil)))) (.cons (.cst (.int 2)) (.nil))))) (.cons (.call "next_weight" ["a", "b", "k"] g_next_weight (.cons (.tup (.cons (.cst (.int 3)) (.cons (.cst (.int 1)) (.nil)))) (.cons (.tup (.cons (.cst (.int 1)) (.cons (.cst (.int 1)) (.nil)))) (.cons (.cst (.int 2)) (.nil))))) (.nil))))))
   (.cons (.expr (.mth .extend (.var 7) (.cons (.lst false (.cons (.call "wall_next" ["b", "k"] g_wall_next (.cons (.tup (.cons (.cst (.int 1)) (.cons (.cst (.int 1)) (.nil)))) (.cons (.cst (.int 3)) (.nil)))) (.cons (.call "next_weight" ["a", "b", "k"] g_next_weight (.cons (.tup (.cons (.cst (.int 1)) (.cons (.cst (.int 1)) (.nil)))) (.cons (.tup (.cons (.cst (.int 4)) (.cons (.cst (.int 1)) (.nil)))) (.cons (.cst (.int 1)) (.nil))))) (.nil)))) (.nil))))
   (.cons (.ret (.call "_law_is" ["told", "due"] g_u_law_is (.cons (.var 7) (.cons (.lst false (.cons (.tup (.cons (.cst (.int 1)) (.cons (.cst (.int 1)) (.nil)))) (.cons (.cst .non) (.cons (.tup (.cons (.cst (.int 2)) (.cons (.cst (.int 1)) (.nil)))) (.cons (.tup (.cons (.cst (.int 3)) (.cons (.cst (.int 1)) (.nil)))) (.cons (.cst .non) (.nil))))))) (.nil)))))
   (.nil))))))⟩
def g_law : G := runFn fn_law
theorem sc_law : FnScope fn_law.N fn_law.ps (defScope (topS 38)) := ⟨rfl, rfl, rfl, by decide +kernel, rfl, by decide +kernel, by decide +kernel⟩
theorem b_law {P : Program} {w : World} {K : PySem.W.Frag} {mg : Str → Option Value} {base : Heap} {f : Addr} {cdv : Value} {A : Around} {outer : List Env} {s : Shared} {H : Hp} (G : Good (Cxb P w K mg base fn_law "law" (topS 38) f cdv A outer s H) P w K mg base 8) (c_u_law_own_bag : Cle P w K mg base 1 "_law_own_bag" ["script"] [] g_u_law_own_bag) (c_u_law_draw : Cle P w K mg base 1 "_law_draw" ["bag", "below"] [] g_u_law_draw) (c_u_law_great_weight : Cle P w K mg base 3 "_law_great_weight" ["bag"] [] g_u_law_great_weight) (c_u_law_frac : Cle P w K mg base 2 "_law_frac" ["a", "b"] [] g_u_law_frac) (c_u_law_is_weight_right : Cle P w K mg base 8 "_law_is_weight_right" ["bag", "a", "b", "k", "is_named"] [] g_u_law_is_weight_right) (c_next_weight : Cle P w K mg base 6 "next_weight" ["a", "b", "k"] [(0, ["k", "b", "a"])] g_next_weight) (c_wall_next : Cle P w K mg base 5 "wall_next" ["b", "k"] [(0, ["k", "b"])] g_wall_next) (c_u_law_is : Cle P w K mg base 1 "_law_is" ["told", "due"] [] g_u_law_is) (z_range : mg "range" = none) :
 PSs (Cxb P w K mg base fn_law "law" (topS 38) f cdv A outer s H) (defBody (topS 38)) (tS K NW (denSs fn_law.body)) :=
 have B := G.b
 have hr := G.room
 have nd := sc_law.nd
 ss_cons (s_asg (x_call c_u_law_own_bag hr (by decide) B (gl rfl) (a_cons (x_var rfl (vis rfl)) (a_nil))) (g_nm nd rfl (loc rfl) (.inl rfl)))
   (ss_cons (s_asg (x_cmp B (x_call c_u_law_draw hr (by decide) B (gl rfl) (a_cons (x_var rfl (vis rfl)) (a_cons (x_int) (a_nil)))) (x_int)) (g_nm nd rfl (loc rfl) (.inl rfl)))
   (ss_cons (s_for B PassesOwn.never (i_rng1 (gl rfl) z_range (x_int)) (g_nm nd rfl (loc rfl) (.inl rfl))
   (ss_cons (s_par3 B nd rfl rfl rfl (by decide) (by decide) (by decide) rfl rfl rfl (a_cons (x_call c_u_law_great_weight hr (by decide) B (gl rfl) (a_cons (x_var rfl (vis rfl)) (a_nil))) (a_cons (x_call c_u_law_great_weight hr (by decide) B (gl rfl) (a_cons (x_var rfl (vis rfl)) (a_nil))) (a_cons (x_bin (x_int) (x_call c_u_law_draw hr (by decide) B (gl rfl) (a_cons (x_var rfl (vis rfl)) (a_cons (x_int) (a_nil))))) a_nil))) rfl)
   (ss_cons (s_ife (t_cmp B (x_var rfl (vis rfl)) (x_int))
   (ss_cons (s_asg (x_call c_u_law_frac hr (by decide) B (gl rfl) (a_cons (x_bin (x_bin (x_int) (x_var rfl (vis rfl))) (x_idx (x_var rfl (vis rfl)) (x_int))) (a_cons (x_bin (x_var rfl (vis rfl)) (x_idx (x_var rfl (vis rfl)) (x_int))) (a_nil)))) (g_nm nd rfl (loc rfl) (.inl rfl)))
   (ss_nil)) (ss_nil))
   (ss_cons (s_ife (t_cmp B (x_var rfl (vis rfl)) (x_int))
   (ss_cons (s_asg (x_ife (t_cmp B (x_bin (x_bin (x_int) (x_var rfl (vis rfl))) (x_idx (x_var rfl (vis rfl)) (x_int))) (x_int)) (x_call c_u_law_frac hr (by decide) B (gl rfl) (a_cons (x_bin (x_bin (x_bin (x_int) (x_var rfl (vis rfl))) (x_idx (x_var rfl (vis rfl)) (x_int))) (x_int)) (a_cons (x_bin (x_var rfl (vis rfl)) (x_idx (x_var rfl (vis rfl)) (x_int))) (a_nil)))) (x_var rfl (vis rfl))) (g_nm nd rfl (loc rfl) (.inl rfl)))
   (ss_nil)) (ss_nil))
   (ss_cons (s_ife (PW.pt (w_and (t_cmp B (x_var rfl (vis rfl)) (x_int)) (w_and1 (PW.pt (w_or (t_cmp B (x_idx (x_var rfl (vis rfl)) (x_int)) (x_bin (x_int) (x_int))) (w_or1 (t_cmp B (x_idx (x_var rfl (vis rfl)) (x_int)) (x_bin (x_int) (x_int)))))))))
   (ss_cons (s_asg (x_tup (a_cons (x_tup (a_cons (x_int) (a_cons (x_int) (a_nil)))) (a_cons (x_tup (a_cons (x_int) (a_cons (x_int) (a_nil)))) (a_nil)))) (g_tup rfl (gs_cons (g_nm nd rfl (loc rfl) (.inl rfl)) (gs_cons (g_nm nd rfl (loc rfl) (.inl rfl)) (gs_nil)))))
   (ss_nil)) (ss_nil))
   (ss_cons (s_ife (t_not (t_plain (x_call c_u_law_is_weight_right hr (by decide) B (gl rfl) (a_cons (x_var rfl (vis rfl)) (a_cons (x_var rfl (vis rfl)) (a_cons (x_var rfl (vis rfl)) (a_cons (x_var rfl (vis rfl)) (a_cons (x_var rfl (vis rfl)) (a_nil)))))))))
   (ss_cons (s_ret (x_bl))
   (ss_nil)) (ss_nil))
   (ss_cons (s_asg (x_not (x_var rfl (vis rfl))) (g_nm nd rfl (loc rfl) (.inl rfl)))
   (ss_nil))))))))
   (ss_cons (s_asg (x_lst (a_cons (x_call c_next_weight hr (by decide) B (gl rfl) (a_cons (x_tup (a_cons (x_int) (a_cons (x_int) (a_nil)))) (a_cons (x_tup (a_cons (x_int) (a_cons (x_int) (a_nil)))) (a_cons (x_int) (a_nil))))) (a_cons (x_call c_next_weight hr (by decide) B (gl rfl) (a_cons (x_tup (a_cons (x_int) (a_cons (x_int) (a_nil)))) (a_cons (x_tup (a_cons (x_int) (a_cons (x_int) (a_nil)))) (a_cons (x_int) (a_nil))))) (a_cons (x_call c_next_weight hr (by decide) B (gl rfl) (a_cons (x_tup (a_cons (x_int) (a_cons (x_int) (a_nil)))) (a_cons (x_tup (a_cons (x_int) (a_cons (x_int) (a_nil)))) (a_cons (x_int) (a_nil))))) (a_nil))))) (g_nm nd rfl (loc rfl) (.inl rfl)))
   (ss_cons (s_expr (x_mth (by rfl) PySem.F.slot_list_extend PySem.F.type_list_extend (x_var rfl (vis rfl)) (a_cons (x_lst (a_cons (x_call c_wall_next hr (by decide) B (gl rfl) (a_cons (x_tup (a_cons (x_int) (a_cons (x_int) (a_nil)))) (a_cons (x_int) (a_nil)))) (a_cons (x_call c_next_weight hr (by decide) B (gl rfl) (a_cons (x_tup (a_cons (x_int) (a_cons (x_int) (a_nil)))) (a_cons (x_tup (a_cons (x_int) (a_cons (x_int) (a_nil)))) (a_cons (x_int) (a_nil))))) (a_nil)))) (a_nil))))
   (ss_cons (s_ret (x_call c_u_law_is hr (by decide) B (gl rfl) (a_cons (x_var rfl (vis rfl)) (a_cons (x_lst (a_cons (x_tup (a_cons (x_int) (a_cons (x_int) (a_nil)))) (a_cons (x_non) (a_cons (x_tup (a_cons (x_int) (a_cons (x_int) (a_nil)))) (a_cons (x_tup (a_cons (x_int) (a_cons (x_int) (a_nil)))) (a_cons (x_non) (a_nil))))))) (a_nil)))))
   (ss_nil))))))
theorem ok_law {P : Program} {w : World} {K : PySem.W.Frag} {mg : Str → Option Value} {base : Heap} {f : Addr} {fd : FuncData} (F : Fun K "law" "law" (topS 38) f fd) (c_u_law_own_bag : Cle P w K mg base 1 "_law_own_bag" ["script"] [] g_u_law_own_bag) (c_u_law_draw : Cle P w K mg base 1 "_law_draw" ["bag", "below"] [] g_u_law_draw) (c_u_law_great_weight : Cle P w K mg base 3 "_law_great_weight" ["bag"] [] g_u_law_great_weight) (c_u_law_frac : Cle P w K mg base 2 "_law_frac" ["a", "b"] [] g_u_law_frac) (c_u_law_is_weight_right : Cle P w K mg base 8 "_law_is_weight_right" ["bag", "a", "b", "k", "is_named"] [] g_u_law_is_weight_right) (c_next_weight : Cle P w K mg base 6 "next_weight" ["a", "b", "k"] [(0, ["k", "b", "a"])] g_next_weight) (c_wall_next : Cle P w K mg base 5 "wall_next" ["b", "k"] [(0, ["k", "b"])] g_wall_next) (c_u_law_is : Cle P w K mg base 1 "_law_is" ["told", "due"] [] g_u_law_is) (z_range : mg "range" = none) : GOk P w K mg base 9 f fd ["script"] g_law := body_ok (F := fn_law) F sc_law fun A outer s H cdv G => b_law G c_u_law_own_bag c_u_law_draw c_u_law_great_weight c_u_law_frac c_u_law_is_weight_right c_next_weight c_wall_next c_u_law_is z_range
theorem cl_law {P : Program} {w : World} {K : PySem.W.Frag} {mg : Str → Option Value} {base : Heap} {f : Addr} {fd : FuncData} (F : Fun K "law" "law" (topS 38) f fd) (hm : mg "law" = some (.ref f)) (c_u_law_own_bag : Cle P w K mg base 1 "_law_own_bag" ["script"] [] g_u_law_own_bag) (c_u_law_draw : Cle P w K mg base 1 "_law_draw" ["bag", "below"] [] g_u_law_draw) (c_u_law_great_weight : Cle P w K mg base 3 "_law_great_weight" ["bag"] [] g_u_law_great_weight) (c_u_law_frac : Cle P w K mg base 2 "_law_frac" ["a", "b"] [] g_u_law_frac) (c_u_law_is_weight_right : Cle P w K mg base 8 "_law_is_weight_right" ["bag", "a", "b", "k", "is_named"] [] g_u_law_is_weight_right) (c_next_weight : Cle P w K mg base 6 "next_weight" ["a", "b", "k"] [(0, ["k", "b", "a"])] g_next_weight) (c_wall_next : Cle P w K mg base 5 "wall_next" ["b", "k"] [(0, ["k", "b"])] g_wall_next) (c_u_law_is : Cle P w K mg base 1 "_law_is" ["told", "due"] [] g_u_law_is) (z_range : mg "range" = none) : Cle P w K mg base 9 "law" ["script"] [] g_law := by
  refine ⟨⟨f, fd, ok_law F c_u_law_own_bag c_u_law_draw c_u_law_great_weight c_u_law_frac c_u_law_is_weight_right c_next_weight c_wall_next c_u_law_is z_range, hm, F.kp, ?_, ?_⟩⟩
  all_goals (obtain ⟨oc, od, kV, doc, pm, an, cdv, ct, osl, rfl, lk, hcd⟩ := F.ex)
  · exact fun us hl => match us, hl with | [_], _ => rfl
  · exact List.forall_mem_nil _
theorem all_mk {l : PySem.W.OpenLaw} {w : World} {K : PySem.W.Frag} {h : Heap} {mg : Str → Option Value} {fa : Addr} (X : K.In h) (G : h.Ns mainGlobals mg) (hfa : mg "law" = some (.ref fa))
  {f0 : Addr} {od0 an0 : Option Addr} {sl0 : Array (Option Value)} {oc0 kV0 dc0 pm0 cd0 ct0 : Value}
  (a0 : PySem.W.nsIn K mainGlobals "_law_own_bag" = some (some (.ref f0))) (l0 : K.lookup f0 = some ⟨oc0, od0, .func (PySem.W.fnOf "_law_own_bag" "_law_own_bag" (defArgs (topS 25)) (defBody (topS 25)) (defScope (topS 25)) .none kV0 dc0 pm0 an0 cd0 ct0), sl0⟩) (c0 : PySem.W.codeIn K cd0 "_law_own_bag" = true) (k0 : PySem.W.keepIn K (.ref f0) = true)
  {f1 : Addr} {od1 an1 : Option Addr} {sl1 : Array (Option Value)} {oc1 kV1 dc1 pm1 cd1 ct1 : Value}
  (a1 : PySem.W.nsIn K mainGlobals "_law_draw" = some (some (.ref f1))) (l1 : K.lookup f1 = some ⟨oc1, od1, .func (PySem.W.fnOf "_law_draw" "_law_draw" (defArgs (topS 26)) (defBody (topS 26)) (defScope (topS 26)) .none kV1 dc1 pm1 an1 cd1 ct1), sl1⟩) (c1 : PySem.W.codeIn K cd1 "_law_draw" = true) (k1 : PySem.W.keepIn K (.ref f1) = true)
  {f2 : Addr} {od2 an2 : Option Addr} {sl2 : Array (Option Value)} {oc2 kV2 dc2 pm2 cd2 ct2 : Value}
  (a2 : PySem.W.nsIn K mainGlobals "_law_gcd" = some (some (.ref f2))) (l2 : K.lookup f2 = some ⟨oc2, od2, .func (PySem.W.fnOf "_law_gcd" "_law_gcd" (defArgs (topS 29)) (defBody (topS 29)) (defScope (topS 29)) .none kV2 dc2 pm2 an2 cd2 ct2), sl2⟩) (c2 : PySem.W.codeIn K cd2 "_law_gcd" = true) (k2 : PySem.W.keepIn K (.ref f2) = true)
  {f3 : Addr} {od3 an3 : Option Addr} {sl3 : Array (Option Value)} {oc3 kV3 dc3 pm3 cd3 ct3 : Value}
  (a3 : PySem.W.nsIn K mainGlobals "_law_frac" = some (some (.ref f3))) (l3 : K.lookup f3 = some ⟨oc3, od3, .func (PySem.W.fnOf "_law_frac" "_law_frac" (defArgs (topS 30)) (defBody (topS 30)) (defScope (topS 30)) .none kV3 dc3 pm3 an3 cd3 ct3), sl3⟩) (c3 : PySem.W.codeIn K cd3 "_law_frac" = true) (k3 : PySem.W.keepIn K (.ref f3) = true)
  {f4 : Addr} {od4 an4 : Option Addr} {sl4 : Array (Option Value)} {oc4 kV4 dc4 pm4 cd4 ct4 : Value}
  (a4 : PySem.W.nsIn K mainGlobals "_law_great_weight" = some (some (.ref f4))) (l4 : K.lookup f4 = some ⟨oc4, od4, .func (PySem.W.fnOf "_law_great_weight" "_law_great_weight" (defArgs (topS 35)) (defBody (topS 35)) (defScope (topS 35)) .none kV4 dc4 pm4 an4 cd4 ct4), sl4⟩) (c4 : PySem.W.codeIn K cd4 "_law_great_weight" = true) (k4 : PySem.W.keepIn K (.ref f4) = true)
  {f5 : Addr} {od5 an5 : Option Addr} {sl5 : Array (Option Value)} {oc5 kV5 dc5 pm5 cd5 ct5 : Value}
  (a5 : PySem.W.nsIn K mainGlobals "_law_plus" = some (some (.ref f5))) (l5 : K.lookup f5 = some ⟨oc5, od5, .func (PySem.W.fnOf "_law_plus" "_law_plus" (defArgs (topS 31)) (defBody (topS 31)) (defScope (topS 31)) .none kV5 dc5 pm5 an5 cd5 ct5), sl5⟩) (c5 : PySem.W.codeIn K cd5 "_law_plus" = true) (k5 : PySem.W.keepIn K (.ref f5) = true)
  {f6 : Addr} {od6 an6 : Option Addr} {sl6 : Array (Option Value)} {oc6 kV6 dc6 pm6 cd6 ct6 : Value}
  (a6 : PySem.W.nsIn K mainGlobals "_law_times" = some (some (.ref f6))) (l6 : K.lookup f6 = some ⟨oc6, od6, .func (PySem.W.fnOf "_law_times" "_law_times" (defArgs (topS 32)) (defBody (topS 32)) (defScope (topS 32)) .none kV6 dc6 pm6 an6 cd6 ct6), sl6⟩) (c6 : PySem.W.codeIn K cd6 "_law_times" = true) (k6 : PySem.W.keepIn K (.ref f6) = true)
  {f7 : Addr} {od7 an7 : Option Addr} {sl7 : Array (Option Value)} {oc7 kV7 dc7 pm7 cd7 ct7 : Value}
  (a7 : PySem.W.nsIn K mainGlobals "_law_minus" = some (some (.ref f7))) (l7 : K.lookup f7 = some ⟨oc7, od7, .func (PySem.W.fnOf "_law_minus" "_law_minus" (defArgs (topS 33)) (defBody (topS 33)) (defScope (topS 33)) .none kV7 dc7 pm7 an7 cd7 ct7), sl7⟩) (c7 : PySem.W.codeIn K cd7 "_law_minus" = true) (k7 : PySem.W.keepIn K (.ref f7) = true)
  {f8 : Addr} {od8 an8 : Option Addr} {sl8 : Array (Option Value)} {oc8 kV8 dc8 pm8 cd8 ct8 : Value}
  (a8 : PySem.W.nsIn K mainGlobals "_law_next_weight" = some (some (.ref f8))) (l8 : K.lookup f8 = some ⟨oc8, od8, .func (PySem.W.fnOf "_law_next_weight" "_law_next_weight" (defArgs (topS 34)) (defBody (topS 34)) (defScope (topS 34)) .none kV8 dc8 pm8 an8 cd8 ct8), sl8⟩) (c8 : PySem.W.codeIn K cd8 "_law_next_weight" = true) (k8 : PySem.W.keepIn K (.ref f8) = true)
  {f9 : Addr} {od9 an9 : Option Addr} {sl9 : Array (Option Value)} {oc9 kV9 dc9 pm9 cd9 ct9 : Value}
  (a9 : PySem.W.nsIn K mainGlobals "common_divisor" = some (some (.ref f9))) (l9 : K.lookup f9 = some ⟨oc9, od9, .func (PySem.W.fnOf "common_divisor" "common_divisor" (defArgs (topS 6)) (defBody (topS 6)) (defScope (topS 6)) .none kV9 dc9 pm9 an9 cd9 ct9), sl9⟩) (c9 : PySem.W.codeIn K cd9 "common_divisor" = true) (k9 : PySem.W.keepIn K (.ref f9) = true)
  {f10 : Addr} {od10 an10 : Option Addr} {sl10 : Array (Option Value)} {oc10 kV10 dc10 pm10 cd10 ct10 : Value}
  (a10 : PySem.W.nsIn K mainGlobals "made" = some (some (.ref f10))) (l10 : K.lookup f10 = some ⟨oc10, od10, .func (PySem.W.fnOf "made" "made" (defArgs (topS 7)) (defBody (topS 7)) (defScope (topS 7)) .none kV10 dc10 pm10 an10 cd10 ct10), sl10⟩) (c10 : PySem.W.codeIn K cd10 "made" = true) (k10 : PySem.W.keepIn K (.ref f10) = true)
  {f11 : Addr} {od11 an11 : Option Addr} {sl11 : Array (Option Value)} {oc11 kV11 dc11 pm11 cd11 ct11 : Value}
  (a11 : PySem.W.nsIn K mainGlobals "times" = some (some (.ref f11))) (l11 : K.lookup f11 = some ⟨oc11, od11, .func (PySem.W.fnOf "times" "times" (defArgs (topS 11)) (defBody (topS 11)) (defScope (topS 11)) .none kV11 dc11 pm11 an11 cd11 ct11), sl11⟩) (c11 : PySem.W.codeIn K cd11 "times" = true) (k11 : PySem.W.keepIn K (.ref f11) = true)
  {f12 : Addr} {od12 an12 : Option Addr} {sl12 : Array (Option Value)} {oc12 kV12 dc12 pm12 cd12 ct12 : Value}
  (a12 : PySem.W.nsIn K mainGlobals "plus" = some (some (.ref f12))) (l12 : K.lookup f12 = some ⟨oc12, od12, .func (PySem.W.fnOf "plus" "plus" (defArgs (topS 8)) (defBody (topS 8)) (defScope (topS 8)) .none kV12 dc12 pm12 an12 cd12 ct12), sl12⟩) (c12 : PySem.W.codeIn K cd12 "plus" = true) (k12 : PySem.W.keepIn K (.ref f12) = true)
  {f13 : Addr} {od13 an13 : Option Addr} {sl13 : Array (Option Value)} {oc13 kV13 dc13 pm13 cd13 ct13 : Value}
  (a13 : PySem.W.nsIn K mainGlobals "is_below" = some (some (.ref f13))) (l13 : K.lookup f13 = some ⟨oc13, od13, .func (PySem.W.fnOf "is_below" "is_below" (defArgs (topS 13)) (defBody (topS 13)) (defScope (topS 13)) .none kV13 dc13 pm13 an13 cd13 ct13), sl13⟩) (c13 : PySem.W.codeIn K cd13 "is_below" = true) (k13 : PySem.W.keepIn K (.ref f13) = true)
  {f14 : Addr} {od14 an14 : Option Addr} {sl14 : Array (Option Value)} {oc14 kV14 dc14 pm14 cd14 ct14 : Value}
  (a14 : PySem.W.nsIn K mainGlobals "over" = some (some (.ref f14))) (l14 : K.lookup f14 = some ⟨oc14, od14, .func (PySem.W.fnOf "over" "over" (defArgs (topS 12)) (defBody (topS 12)) (defScope (topS 12)) .none kV14 dc14 pm14 an14 cd14 ct14), sl14⟩) (c14 : PySem.W.codeIn K cd14 "over" = true) (k14 : PySem.W.keepIn K (.ref f14) = true)
  {f15 : Addr} {od15 an15 : Option Addr} {sl15 : Array (Option Value)} {oc15 kV15 dc15 pm15 cd15 ct15 : Value}
  (a15 : PySem.W.nsIn K mainGlobals "opposite" = some (some (.ref f15))) (l15 : K.lookup f15 = some ⟨oc15, od15, .func (PySem.W.fnOf "opposite" "opposite" (defArgs (topS 9)) (defBody (topS 9)) (defScope (topS 9)) .none kV15 dc15 pm15 an15 cd15 ct15), sl15⟩) (c15 : PySem.W.codeIn K cd15 "opposite" = true) (k15 : PySem.W.keepIn K (.ref f15) = true)
  {f16 : Addr} {od16 an16 : Option Addr} {sl16 : Array (Option Value)} {oc16 kV16 dc16 pm16 cd16 ct16 : Value}
  (a16 : PySem.W.nsIn K mainGlobals "minus" = some (some (.ref f16))) (l16 : K.lookup f16 = some ⟨oc16, od16, .func (PySem.W.fnOf "minus" "minus" (defArgs (topS 10)) (defBody (topS 10)) (defScope (topS 10)) .none kV16 dc16 pm16 an16 cd16 ct16), sl16⟩) (c16 : PySem.W.codeIn K cd16 "minus" = true) (k16 : PySem.W.keepIn K (.ref f16) = true)
  {f17 : Addr} {od17 an17 : Option Addr} {sl17 : Array (Option Value)} {oc17 kV17 dc17 pm17 cd17 ct17 : Value}
  (a17 : PySem.W.nsIn K mainGlobals "weight_behind" = some (some (.ref f17))) (l17 : K.lookup f17 = some ⟨oc17, od17, .func (PySem.W.fnOf "weight_behind" "weight_behind" (defArgs (topS 17)) (defBody (topS 17)) (defScope (topS 17)) .none kV17 dc17 pm17 an17 cd17 ct17), sl17⟩) (c17 : PySem.W.codeIn K cd17 "weight_behind" = true) (k17 : PySem.W.keepIn K (.ref f17) = true)
  {f18 : Addr} {od18 an18 : Option Addr} {sl18 : Array (Option Value)} {oc18 kV18 dc18 pm18 cd18 ct18 : Value}
  (a18 : PySem.W.nsIn K mainGlobals "is_grown" = some (some (.ref f18))) (l18 : K.lookup f18 = some ⟨oc18, od18, .func (PySem.W.fnOf "is_grown" "is_grown" (defArgs (topS 14)) (defBody (topS 14)) (defScope (topS 14)) .none kV18 dc18 pm18 an18 cd18 ct18), sl18⟩) (c18 : PySem.W.codeIn K cd18 "is_grown" = true) (k18 : PySem.W.keepIn K (.ref f18) = true)
  {f19 : Addr} {od19 an19 : Option Addr} {sl19 : Array (Option Value)} {oc19 kV19 dc19 pm19 cd19 ct19 : Value}
  (a19 : PySem.W.nsIn K mainGlobals "fit_fraction" = some (some (.ref f19))) (l19 : K.lookup f19 = some ⟨oc19, od19, .func (PySem.W.fnOf "fit_fraction" "fit_fraction" (defArgs (topS 15)) (defBody (topS 15)) (defScope (topS 15)) .none kV19 dc19 pm19 an19 cd19 ct19), sl19⟩) (c19 : PySem.W.codeIn K cd19 "fit_fraction" = true) (k19 : PySem.W.keepIn K (.ref f19) = true)
  {f20 : Addr} {od20 an20 : Option Addr} {sl20 : Array (Option Value)} {oc20 kV20 dc20 pm20 cd20 ct20 : Value}
  (a20 : PySem.W.nsIn K mainGlobals "next_weight" = some (some (.ref f20))) (l20 : K.lookup f20 = some ⟨oc20, od20, .func (PySem.W.fnOf "next_weight" "next_weight" (defArgs (topS 18)) (defBody (topS 18)) (defScope (topS 18)) .none kV20 dc20 pm20 an20 cd20 ct20), sl20⟩) (c20 : PySem.W.codeIn K cd20 "next_weight" = true) (k20 : PySem.W.keepIn K (.ref f20) = true)
  {f21 : Addr} {od21 an21 : Option Addr} {sl21 : Array (Option Value)} {oc21 kV21 dc21 pm21 cd21 ct21 : Value}
  (a21 : PySem.W.nsIn K mainGlobals "_law_told" = some (some (.ref f21))) (l21 : K.lookup f21 = some ⟨oc21, od21, .func (PySem.W.fnOf "_law_told" "_law_told" (defArgs (topS 36)) (defBody (topS 36)) (defScope (topS 36)) .none kV21 dc21 pm21 an21 cd21 ct21), sl21⟩) (c21 : PySem.W.codeIn K cd21 "_law_told" = true) (k21 : PySem.W.keepIn K (.ref f21) = true)
  {f22 : Addr} {od22 an22 : Option Addr} {sl22 : Array (Option Value)} {oc22 kV22 dc22 pm22 cd22 ct22 : Value}
  (a22 : PySem.W.nsIn K mainGlobals "_law_is" = some (some (.ref f22))) (l22 : K.lookup f22 = some ⟨oc22, od22, .func (PySem.W.fnOf "_law_is" "_law_is" (defArgs (topS 28)) (defBody (topS 28)) (defScope (topS 28)) .none kV22 dc22 pm22 an22 cd22 ct22), sl22⟩) (c22 : PySem.W.codeIn K cd22 "_law_is" = true) (k22 : PySem.W.keepIn K (.ref f22) = true)
  {f23 : Addr} {od23 an23 : Option Addr} {sl23 : Array (Option Value)} {oc23 kV23 dc23 pm23 cd23 ct23 : Value}
  (a23 : PySem.W.nsIn K mainGlobals "weight_by_wall" = some (some (.ref f23))) (l23 : K.lookup f23 = some ⟨oc23, od23, .func (PySem.W.fnOf "weight_by_wall" "weight_by_wall" (defArgs (topS 19)) (defBody (topS 19)) (defScope (topS 19)) .none kV23 dc23 pm23 an23 cd23 ct23), sl23⟩) (c23 : PySem.W.codeIn K cd23 "weight_by_wall" = true) (k23 : PySem.W.keepIn K (.ref f23) = true)
  {f24 : Addr} {od24 an24 : Option Addr} {sl24 : Array (Option Value)} {oc24 kV24 dc24 pm24 cd24 ct24 : Value}
  (a24 : PySem.W.nsIn K mainGlobals "wall_next" = some (some (.ref f24))) (l24 : K.lookup f24 = some ⟨oc24, od24, .func (PySem.W.fnOf "wall_next" "wall_next" (defArgs (topS 20)) (defBody (topS 20)) (defScope (topS 20)) .none kV24 dc24 pm24 an24 cd24 ct24), sl24⟩) (c24 : PySem.W.codeIn K cd24 "wall_next" = true) (k24 : PySem.W.keepIn K (.ref f24) = true)
  {f25 : Addr} {od25 an25 : Option Addr} {sl25 : Array (Option Value)} {oc25 kV25 dc25 pm25 cd25 ct25 : Value}
  (a25 : PySem.W.nsIn K mainGlobals "wall_number" = some (some (.ref f25))) (l25 : K.lookup f25 = some ⟨oc25, od25, .func (PySem.W.fnOf "wall_number" "wall_number" (defArgs (topS 23)) (defBody (topS 23)) (defScope (topS 23)) .none kV25 dc25 pm25 an25 cd25 ct25), sl25⟩) (c25 : PySem.W.codeIn K cd25 "wall_number" = true) (k25 : PySem.W.keepIn K (.ref f25) = true)
  {f26 : Addr} {od26 an26 : Option Addr} {sl26 : Array (Option Value)} {oc26 kV26 dc26 pm26 cd26 ct26 : Value}
  (a26 : PySem.W.nsIn K mainGlobals "three_number" = some (some (.ref f26))) (l26 : K.lookup f26 = some ⟨oc26, od26, .func (PySem.W.fnOf "three_number" "three_number" (defArgs (topS 22)) (defBody (topS 22)) (defScope (topS 22)) .none kV26 dc26 pm26 an26 cd26 ct26), sl26⟩) (c26 : PySem.W.codeIn K cd26 "three_number" = true) (k26 : PySem.W.keepIn K (.ref f26) = true)
  {f27 : Addr} {od27 an27 : Option Addr} {sl27 : Array (Option Value)} {oc27 kV27 dc27 pm27 cd27 ct27 : Value}
  (a27 : PySem.W.nsIn K mainGlobals "_law_pick" = some (some (.ref f27))) (l27 : K.lookup f27 = some ⟨oc27, od27, .func (PySem.W.fnOf "_law_pick" "_law_pick" (defArgs (topS 27)) (defBody (topS 27)) (defScope (topS 27)) .none kV27 dc27 pm27 an27 cd27 ct27), sl27⟩) (c27 : PySem.W.codeIn K cd27 "_law_pick" = true) (k27 : PySem.W.keepIn K (.ref f27) = true)
  {f28 : Addr} {od28 an28 : Option Addr} {sl28 : Array (Option Value)} {oc28 kV28 dc28 pm28 cd28 ct28 : Value}
  (a28 : PySem.W.nsIn K mainGlobals "_law_is_weight_right" = some (some (.ref f28))) (l28 : K.lookup f28 = some ⟨oc28, od28, .func (PySem.W.fnOf "_law_is_weight_right" "_law_is_weight_right" (defArgs (topS 37)) (defBody (topS 37)) (defScope (topS 37)) .none kV28 dc28 pm28 an28 cd28 ct28), sl28⟩) (c28 : PySem.W.codeIn K cd28 "_law_is_weight_right" = true) (k28 : PySem.W.keepIn K (.ref f28) = true)
  {f29 : Addr} {od29 an29 : Option Addr} {sl29 : Array (Option Value)} {oc29 kV29 dc29 pm29 cd29 ct29 : Value}
  (a29 : PySem.W.nsIn K mainGlobals "law" = some (some (.ref f29))) (l29 : K.lookup f29 = some ⟨oc29, od29, .func (PySem.W.fnOf "law" "law" (defArgs (topS 38)) (defBody (topS 38)) (defScope (topS 38)) .none kV29 dc29 pm29 an29 cd29 ct29), sl29⟩) (c29 : PySem.W.codeIn K cd29 "law" = true) (k29 : PySem.W.keepIn K (.ref f29) = true)
  (y_abs : PySem.W.nsIn K mainGlobals "abs" = some none)
  (y_len : PySem.W.nsIn K mainGlobals "len" = some none)
  (y_int : PySem.W.nsIn K mainGlobals "int" = some none)
  (y_list : PySem.W.nsIn K mainGlobals "list" = some none)
  (y_reversed : PySem.W.nsIn K mainGlobals "reversed" = some none)
  (y_repr : PySem.W.nsIn K mainGlobals "repr" = some none)
  (y_max : PySem.W.nsIn K mainGlobals "max" = some none)
  (y_range : PySem.W.nsIn K mainGlobals "range" = some none)
  {tk_BIG : Tok} (gv_BIG : PySem.W.nsIn K mainGlobals "BIG" = some (some (.int 10000000000000000000000000000000000000000000000000000000000000000000000000000000000000000000000000000000000000000000000000000000000000000000000000000000000000000000000000000000000000000000000000000000000000000000000000000000000000000000000000000000000000000000000000000000000000000000000000000000000000000000000000000000000000000000000000000000000000000000000000000000000000000000000000000000000000000000000000000000000000000000000000000000000000000000000000000000000000000000000000000000000000000000000000000000000000000000000000000000000000000000000000000000000000000000000000000000000000000000000000000000000000000000000000000000000000000000000000000000000000000000000000000000000000000000000000000000000000000000000000000000000000000000000000000000000000000000000000000000000000000000000000000000000000000000000000000000000000000000000000000000000000000000000000000000000000000000000000000000000000000000000000000000000000000000000000000000000000000000000000000000000000000000000000000000000000000 tk_BIG)))
  : ∃ fd : FuncData, (∀ (s : Shared) (v : Value), BindsTo s fd ⟨[v], []⟩ [("script", v)]) ∧ ∀ base : Heap, GOk l.prog w K mg base 9 fa fd ["script"] g_law := by
  cases hfa.symm.trans (PySem.W.mg_of X G a29)
  have z_abs := PySem.W.mg_none_of X G y_abs
  have z_len := PySem.W.mg_none_of X G y_len
  have z_int := PySem.W.mg_none_of X G y_int
  have z_list := PySem.W.mg_none_of X G y_list
  have z_reversed := PySem.W.mg_none_of X G y_reversed
  have z_repr := PySem.W.mg_none_of X G y_repr
  have z_max := PySem.W.mg_none_of X G y_max
  have z_range := PySem.W.mg_none_of X G y_range
  have m_BIG : GloIs K mg "BIG" (.int 10000000000000000000000000000000000000000000000000000000000000000000000000000000000000000000000000000000000000000000000000000000000000000000000000000000000000000000000000000000000000000000000000000000000000000000000000000000000000000000000000000000000000000000000000000000000000000000000000000000000000000000000000000000000000000000000000000000000000000000000000000000000000000000000000000000000000000000000000000000000000000000000000000000000000000000000000000000000000000000000000000000000000000000000000000000000000000000000000000000000000000000000000000000000000000000000000000000000000000000000000000000000000000000000000000000000000000000000000000000000000000000000000000000000000000000000000000000000000000000000000000000000000000000000000000000000000000000000000000000000000000000000000000000000000000000000000000000000000000000000000000000000000000000000000000000000000000000000000000000000000000000000000000000000000000000000000000000000000000000000000000000000000000000000000000000000000000) := glo_int (PySem.W.mg_of X G gv_BIG)
  refine ⟨PySem.W.fnOf "law" "law" (defArgs (topS 38)) (defBody (topS 38)) (defScope (topS 38)) .none kV29 dc29 pm29 an29 cd29 ct29, fun s v => .of_eq rfl, fun base => ?_⟩
  have c_u_law_own_bag := cl_u_law_own_bag (P := l.prog) (w := w) (base := base) (fun_mk (st := topS 25) l0 c0 k0) (PySem.W.mg_of X G a0) z_abs z_len z_int z_list z_reversed
  have c_u_law_draw := cl_u_law_draw (P := l.prog) (w := w) (base := base) (fun_mk (st := topS 26) l1 c1 k1) (PySem.W.mg_of X G a1) z_int
  have c_u_law_gcd := cl_u_law_gcd (P := l.prog) (w := w) (base := base) (fun_mk (st := topS 29) l2 c2 k2) (PySem.W.mg_of X G a2) z_abs z_int
  have c_u_law_frac := cl_u_law_frac (P := l.prog) (w := w) (base := base) (fun_mk (st := topS 30) l3 c3 k3) (PySem.W.mg_of X G a3) c_u_law_gcd
  have c_u_law_great_weight := cl_u_law_great_weight (P := l.prog) (w := w) (base := base) (fun_mk (st := topS 35) l4 c4 k4) (PySem.W.mg_of X G a4) c_u_law_draw c_u_law_frac
  have c_u_law_plus := cl_u_law_plus (P := l.prog) (w := w) (base := base) (fun_mk (st := topS 31) l5 c5 k5) (PySem.W.mg_of X G a5) c_u_law_frac
  have c_u_law_times := cl_u_law_times (P := l.prog) (w := w) (base := base) (fun_mk (st := topS 32) l6 c6 k6) (PySem.W.mg_of X G a6) c_u_law_frac
  have c_u_law_minus := cl_u_law_minus (P := l.prog) (w := w) (base := base) (fun_mk (st := topS 33) l7 c7 k7) (PySem.W.mg_of X G a7) 
  have c_u_law_next_weight := cl_u_law_next_weight (P := l.prog) (w := w) (base := base) (fun_mk (st := topS 34) l8 c8 k8) (PySem.W.mg_of X G a8) c_u_law_plus c_u_law_times c_u_law_minus c_u_law_frac
  have c_common_divisor := cl_common_divisor (P := l.prog) (w := w) (base := base) (fun_mk (st := topS 6) l9 c9 k9) (PySem.W.mg_of X G a9) z_abs
  have c_made := cl_made (P := l.prog) (w := w) (base := base) (fun_mk (st := topS 7) l10 c10 k10) (PySem.W.mg_of X G a10) c_common_divisor
  have c_times := cl_times (P := l.prog) (w := w) (base := base) (fun_mk (st := topS 11) l11 c11 k11) (PySem.W.mg_of X G a11) c_made
  have c_plus := cl_plus (P := l.prog) (w := w) (base := base) (fun_mk (st := topS 8) l12 c12 k12) (PySem.W.mg_of X G a12) c_made
  have c_is_below := cl_is_below (P := l.prog) (w := w) (base := base) (fun_mk (st := topS 13) l13 c13 k13) (PySem.W.mg_of X G a13) 
  have c_over := cl_over (P := l.prog) (w := w) (base := base) (fun_mk (st := topS 12) l14 c14 k14) (PySem.W.mg_of X G a14) c_made
  have c_opposite := cl_opposite (P := l.prog) (w := w) (base := base) (fun_mk (st := topS 9) l15 c15 k15) (PySem.W.mg_of X G a15) 
  have c_minus := cl_minus (P := l.prog) (w := w) (base := base) (fun_mk (st := topS 10) l16 c16 k16) (PySem.W.mg_of X G a16) c_plus c_opposite
  have c_weight_behind := cl_weight_behind (P := l.prog) (w := w) (base := base) (fun_mk (st := topS 17) l17 c17 k17) (PySem.W.mg_of X G a17) c_times c_plus c_is_below c_over c_minus
  have c_is_grown := cl_is_grown (P := l.prog) (w := w) (base := base) (fun_mk (st := topS 14) l18 c18 k18) (PySem.W.mg_of X G a18) z_abs m_BIG
  have c_fit_fraction := cl_fit_fraction (P := l.prog) (w := w) (base := base) (fun_mk (st := topS 15) l19 c19 k19) (PySem.W.mg_of X G a19) c_is_grown
  have c_next_weight := cl_next_weight (P := l.prog) (w := w) (base := base) (fun_mk (st := topS 18) l20 c20 k20) (PySem.W.mg_of X G a20) c_weight_behind c_fit_fraction
  have c_u_law_told := cl_u_law_told (P := l.prog) (w := w) (base := base) (fun_mk (st := topS 36) l21 c21 k21) (PySem.W.mg_of X G a21) c_next_weight
  have c_u_law_is := cl_u_law_is (P := l.prog) (w := w) (base := base) (fun_mk (st := topS 28) l22 c22 k22) (PySem.W.mg_of X G a22) z_repr
  have c_weight_by_wall := cl_weight_by_wall (P := l.prog) (w := w) (base := base) (fun_mk (st := topS 19) l23 c23 k23) (PySem.W.mg_of X G a23) c_times c_over
  have c_wall_next := cl_wall_next (P := l.prog) (w := w) (base := base) (fun_mk (st := topS 20) l24 c24 k24) (PySem.W.mg_of X G a24) c_fit_fraction c_weight_by_wall
  have c_wall_number := cl_wall_number (P := l.prog) (w := w) (base := base) (fun_mk (st := topS 23) l25 c25 k25) (PySem.W.mg_of X G a25) c_fit_fraction c_over c_times c_plus
  have c_three_number := cl_three_number (P := l.prog) (w := w) (base := base) (fun_mk (st := topS 22) l26 c26 k26) (PySem.W.mg_of X G a26) c_fit_fraction c_over c_times c_plus
  have c_u_law_pick := cl_u_law_pick (P := l.prog) (w := w) (base := base) (fun_mk (st := topS 27) l27 c27 k27) (PySem.W.mg_of X G a27) c_u_law_draw z_len
  have c_u_law_is_weight_right := cl_u_law_is_weight_right (P := l.prog) (w := w) (base := base) (fun_mk (st := topS 37) l28 c28 k28) (PySem.W.mg_of X G a28) c_u_law_next_weight c_u_law_told c_u_law_is c_wall_next c_u_law_frac c_wall_number c_three_number c_u_law_pick c_u_law_times z_repr z_max
  exact ok_law (fun_mk (st := topS 38) l29 c29 k29) c_u_law_own_bag c_u_law_draw c_u_law_great_weight c_u_law_frac c_u_law_is_weight_right c_next_weight c_wall_next c_u_law_is z_range
end K56

set_option maxRecDepth 100000
set_option maxHeartbeats 4000000
namespace K56
open PySem PV
theorem i1 : g_common_divisor = runFn FnGcd := rfl
theorem i2 : g_made = runFn FnMade := rfl
theorem i3 : g_plus = runFn FnPlus := rfl
theorem i4 : g_opposite = runFn FnOpposite := rfl
theorem i5 : g_minus = runFn FnMinus := rfl
theorem i6 : g_times = runFn FnTimes := rfl
theorem i7 : g_over = runFn FnOver := rfl
theorem i8 : g_is_below = runFn FnBelow := rfl
theorem i9 : g_u_law_own_bag = runFn (FnBagW 21639056) := rfl
theorem i10 : g_u_law_draw = runFn (FnDrawW dwDivI) := rfl
theorem i11 : g_u_law_is = runFn FnIs := rfl
theorem i12 : g_u_law_gcd = runFn FnLGcd := rfl
theorem i13 : g_u_law_frac = runFn FnLFrac := rfl
theorem i14 : g_u_law_plus = runFn FnLPlusA := rfl
theorem i15 : g_u_law_times = runFn FnLTimesA := rfl
theorem i16 : g_u_law_minus = runFn FnLMinus := rfl
theorem q_int (k : Int) : qD (k : Rat) = .tup [.int k, .int 1] := rfl
/-! ### sizes apart -/
theorem sz_mul2 {k l : Nat} {x y : Rat} (hx : Sz k x) (hy : Sz l y) : Sz (k + l) (x * y) := by rw [← mul_frac]; exact sz_div den_int_ne (hx.n.mul hy.n) (hx.d.mul hy.d)
theorem sz_add2 {k l : Nat} {x y : Rat} (hx : Sz k x) (hy : Sz l y) : Sz (k + l + 1) (x + y) := by
  rw [← add_frac]
  exact sz_div den_int_ne ((hx.n.mul hy.d).add ((hy.n.mul hx.d).up (by omega))) ((hx.d.mul hy.d).up (Nat.le_succ _))
theorem sz_sub2 {k l : Nat} {x y : Rat} (hx : Sz k x) (hy : Sz l y) : Sz (k + l + 1) (x - y) := by rw [Rat.sub_eq_add_neg]; exact sz_add2 hx hy.neg
theorem sz_div2 {k l : Nat} {x y : Rat} (h0 : y ≠ 0) (hx : Sz k x) (hy : Sz l y) : Sz (k + l) (x / y) := by
  have ne : ((x.den : Int) * y.num) ≠ 0 := by
    have h1 := x.den_nz
    have h2 := num_ne h0
    intro z
    rcases Int.mul_eq_zero.mp z with q | q <;> omega
  rw [← div_frac x h0]
  exact sz_div ne (hx.n.mul hy.d) (hx.d.mul hy.n)
theorem sz_int {k : Nat} {i : Int} (h : Fits k i) (hk : 1 ≤ k) : Sz k (i : Rat) := by
  refine ⟨by rw [Rat.num_intCast]; exact h, ?_⟩
  rw [Rat.den_intCast]
  show (1 : Nat) < 2 ^ k
  exact Nat.one_lt_two_pow (by omega)
theorem sz_k {k : Nat} (h : k ≤ 4) : Sz 3 ((k : Int) : Rat) := sz_int (by show ((k : Int)).natAbs < 2 ^ 3; omega) (by omega)
section
variable {x y : Rat} {μ : Mem}
theorem T_ok (hx : Sz 2000 x) (hy : Sz 2000 y) : g_times [qD x, qD y] μ = .ok (qD (x * y)) μ := (times_ok hx hy (by omega) (by omega)).1
theorem P_ok (hx : Sz 2000 x) (hy : Sz 2000 y) : g_plus [qD x, qD y] μ = .ok (qD (x + y)) μ := (plus_ok hx hy (by omega) (by omega)).1
theorem M_ok (hx : Sz 2000 x) (hy : Sz 2000 y) : g_minus [qD x, qD y] μ = .ok (qD (x - y)) μ := (minus_ok hx hy (by omega) (by omega)).1
theorem O_ok (h0 : y ≠ 0) (hx : Sz 2000 x) (hy : Sz 2000 y) : g_over [qD x, qD y] μ = .ok (qD (x / y)) μ := (over_ok h0 hx hy (by omega) (by omega)).1
theorem B_ok (hx : Sz 2000 x) (hy : Sz 2000 y) : g_is_below [qD x, qD y] μ = .ok (.bl (decide (x < y))) μ := below_ok hx hy (by omega) (by omega)
theorem LT_ok (hx : Sz 2000 x) (hy : Sz 2000 y) : g_u_law_times [qD x, qD y] μ = .ok (qD (x * y)) μ := ltimesA_ok hx hy (by omega) (by omega)
theorem LP_ok (hx : Sz 2000 x) (hy : Sz 2000 y) : g_u_law_plus [qD x, qD y] μ = .ok (qD (x + y)) μ := lplusA_ok hx hy (by omega) (by omega)
theorem LM_ok : g_u_law_minus [qD x] μ = .ok (qD (-x)) μ := lminus_ok
theorem fit_ok (h : Sz 3000 x) : g_fit_fraction [qD x] μ = .ok (qD x) μ := by
  have big : (2 : Nat) ^ 3000 < 10 ^ 1000 := by decide +kernel
  have v0 : denE (.var 0) [some (qD x)] μ = .ok (qD x) μ := dE_var rfl
  have hn : x.num.natAbs < 2 ^ 3000 := h.n
  have hd : ((x.den : Nat) : Int).natAbs < 2 ^ 3000 := h.d
  have gr : g_is_grown [qD x] μ = .ok (.bl false) μ := by
    refine run_ret rfl (ss_ret ?_)
    have c1 : ∀ i : Int, i < (10 : Int) ^ 1000 → cmpM .GtE (.int i) (.int ((10 : Int) ^ 1000)) μ = some false := fun i hi => by
      show some (decide ((10 : Int) ^ 1000 ≤ i)) = _
      rw [decide_eq_false (by omega)]
    have a1 : ((x.num.natAbs : Nat) : Int) < (10 : Int) ^ 1000 := by
      have : ((10 ^ 1000 : Nat) : Int) = (10 : Int) ^ 1000 := by rw [Int.natCast_pow]; rfl
      rw [← this]
      exact Int.ofNat_lt.mpr (Nat.lt_trans hn big)
    have a2 : ((x.den : Nat) : Int) < (10 : Int) ^ 1000 := by
      have : ((10 ^ 1000 : Nat) : Int) = (10 : Int) ^ 1000 := by rw [Int.natCast_pow]; rfl
      rw [← this]
      exact Int.ofNat_lt.mpr (Nat.lt_trans hd big)
    have e1 : denE (.blt .abs false (.cons (.idx (.var 0) (.cst (.int 0))) (.nil))) [some (qD x)] μ = .ok (.int (x.num.natAbs : Nat)) μ := by
      rw [dE_blt1 (nm v0) abs_int, abs_nat]
    have g : ∀ z : Str, denE (.glo z (.int ((10 : Int) ^ 1000))) [some (qD x)] μ = .ok (.int ((10 : Int) ^ 1000)) μ := fun z => by simp only [denE]
    have t := dE_cmp e1 (g "BIG") (c1 _ a1)
    have t2 := dE_cmp (dn v0) (g "BIG") (c1 _ a2)
    have key : denE (.or (.cmp .GtE (.blt .abs false (.cons (.idx (.var 0) (.cst (.int 0))) (.nil))) (.glo "BIG" (.int ((10 : Int) ^ 1000)))) (.cmp .GtE (.idx (.var 0) (.cst (.int 1))) (.glo "BIG" (.int ((10 : Int) ^ 1000))))) [some (qD x)] μ = .ok (.bl false) μ := by
      simp only [denE.eq_def (.or _ _), t, bind_ok, truM, t2]
    exact key
  refine run_ret rfl ?_
  show denSs fn_fit_fraction.body [some (qD x)] μ = _
  unfold fn_fit_fraction
  rw [ss_if (dB_val (dE_call (dEs_cons v0 dEs_nil) gr) (t := false) rfl), if_neg Bool.false_ne_true, ss_end, seq_nx, ss_ret v0]
end
def nextR (a b k : Rat) : Option Rat := if k * (a + b) < 4 * a then some (b * (k * (a + b)) / (4 * a - k * (a + b))) else none
def oD : Option Rat → D
  | some q => qD q
  | none => .non
end K56

set_option maxRecDepth 100000
set_option maxHeartbeats 4000000
namespace K56
open PySem PV
theorem nextR_sz {s t : Nat} {a b q : Rat} {k : Nat} (ha : Sz s a) (hb : Sz t b) (hk : k ≤ 4) (h : nextR a b ((k : Int) : Rat) = some q) : Sz (3 * s + 3 * t + 12) q := by
  unfold nextR at h
  have s1 := sz_add2 ha hb
  have s2 := sz_mul2 (sz_k hk) s1
  have s3 := sz_mul2 (sz_k (k := 4) (by omega)) ha
  have s4 := sz_mul2 hb s2
  have s5 := sz_sub2 s3 s2
  split at h
  · rename_i lt
    obtain rfl := Option.some.inj h
    refine (sz_div2 ?_ s4 s5).up (by omega)
    intro z
    have : (4 : Rat) = ((4 : Nat) : Int) := rfl
    rw [this] at lt
    grind
  · cases h
section
variable {a b : Rat} {k s t : Nat} {μ : Mem}
theorem k_tup {i : Nat} {env : EnvD} (h : denE (.var i) env μ = .ok (.int (k : Int)) μ) : denE (.tup (.cons (.var i) (.cons (.cst (.int 1)) (.nil)))) env μ = .ok (qD ((k : Int) : Rat)) μ := by
  simp only [denE.eq_def (.tup _), denEs, h, dE_cst, bind_ok]
  rfl
theorem c_tup {i : Int} {env : EnvD} : denE (.tup (.cons (.cst (.int i)) (.cons (.cst (.int 1)) (.nil)))) env μ = .ok (qD (i : Rat)) μ := by
  simp only [denE.eq_def (.tup _), denEs, dE_cst, bind_ok]
  rfl
theorem wb_ok (hs : s ≤ 300) (ht : t ≤ 300) (ha : Sz s a) (hb : Sz t b) (hk : k ≤ 4) : g_weight_behind [qD a, qD b, .int (k : Int)] μ = .ok (oD (nextR a b ((k : Int) : Rat))) μ := by
  have s1 := sz_add2 ha hb
  have s2 := sz_mul2 (sz_k hk) s1
  have s3 := sz_mul2 (sz_k (k := 4) (by omega)) ha
  have s4 := sz_mul2 hb s2
  have s5 := sz_sub2 s3 s2
  refine run_ret rfl ?_
  have e1 := dE_call (n := "times") (ps := ["one", "other"]) (dEs_cons (k_tup (k := k) (i := 2) (env := [some (qD a), some (qD b), some (.int (k : Int)), none, none]) (μ := μ) (dE_var rfl)) (dEs_cons (dE_call (n := "plus") (ps := ["one", "other"]) (dEs_cons (dE_var (i := 0) rfl) (dEs_cons (dE_var (i := 1) rfl) dEs_nil)) (P_ok (ha.up (by omega)) (hb.up (by omega)))) dEs_nil)) (T_ok ((sz_k hk).up (by omega)) (s1.up (by omega)))
  generalize hB : ((k : Int) : Rat) * (a + b) = B at *
  have e2 := dE_call (n := "times") (ps := ["one", "other"]) (dEs_cons (c_tup (i := 4) (env := [some (qD a), some (qD b), some (.int (k : Int)), some (qD B), none]) (μ := μ)) (dEs_cons (dE_var (i := 0) rfl) dEs_nil)) (T_ok ((sz_k (k := 4) (by omega)).up (by omega)) (ha.up (by omega)))
  show denSs fn_weight_behind.body [some (qD a), some (qD b), some (.int (k : Int)), none, none] μ = _
  unfold fn_weight_behind
  rw [ss_asg e1]
  simp only [List.set_cons_succ, List.set_cons_zero]
  rw [ss_asg e2]
  simp only [List.set_cons_succ, List.set_cons_zero]
  have h4 : (((4 : Nat) : Int) : Rat) = (4 : Rat) := rfl
  have h4' : ((4 : Int) : Rat) = (4 : Rat) := rfl
  rw [h4] at s3 s5
  rw [h4']
  generalize hF : (4 : Rat) * a = F at *
  refine ss_ret ?_
  have v1 : denE (.var 1) [some (qD a), some (qD b), some (.int (k : Int)), some (qD B), some (qD F)] μ = .ok (qD b) μ := dE_var rfl
  have v3 : denE (.var 3) [some (qD a), some (qD b), some (.int (k : Int)), some (qD B), some (qD F)] μ = .ok (qD B) μ := dE_var rfl
  have v4 : denE (.var 4) [some (qD a), some (qD b), some (.int (k : Int)), some (qD B), some (qD F)] μ = .ok (qD F) μ := dE_var rfl
  rw [dE_ife (dB_val (dE_call (dEs_cons v3 (dEs_cons v4 dEs_nil)) (B_ok (s2.up (by omega)) (s3.up (by omega)))) rfl)]
  unfold nextR
  rw [hB, hF]
  by_cases lt : B < F
  · rw [if_pos (decide_eq_true lt), if_pos lt]
    exact dE_call (dEs_cons (dE_call (dEs_cons v1 (dEs_cons v3 dEs_nil)) (T_ok (hb.up (by omega)) (s2.up (by omega)))) (dEs_cons (dE_call (dEs_cons v4 (dEs_cons v3 dEs_nil)) (M_ok (s3.up (by omega)) (s2.up (by omega)))) dEs_nil)) (O_ok (by grind) (s4.up (by omega)) (s5.up (by omega)))
  · rw [if_neg (by rw [decide_eq_false lt]; exact Bool.false_ne_true), if_neg lt]
    exact dE_cst
theorem nw_ok (hs : s ≤ 300) (ht : t ≤ 300) (ha : Sz s a) (hb : Sz t b) (hk : k ≤ 4) : g_next_weight [qD a, qD b, .int (k : Int)] μ = .ok (oD (nextR a b ((k : Int) : Rat))) μ := by
  refine run_ret rfl ?_
  show denSs fn_next_weight.body [some (qD a), some (qD b), some (.int (k : Int)), none] μ = _
  unfold fn_next_weight
  rw [ss_asg (dE_call (dEs_cons (dE_var rfl) (dEs_cons (dE_var rfl) (dEs_cons (dE_var rfl) dEs_nil))) (wb_ok hs ht ha hb hk))]
  simp only [List.set_cons_succ, List.set_cons_zero]
  refine ss_ret ?_
  generalize hq : nextR a b ((k : Int) : Rat) = q
  cases q with
  | none =>
    rw [dE_ife (t := false) (dB_cmp (dE_var rfl) (dE_cst (x := .non)) rfl), if_neg Bool.false_ne_true]
    exact dE_cst
  | some q =>
    rw [dE_ife (t := true) (dB_cmp (dE_var rfl) (dE_cst (x := .non)) rfl), if_pos rfl]
    exact dE_call (dEs_cons (dE_var rfl) dEs_nil) (fit_ok ((nextR_sz ha hb hk hq).up (by omega)))
theorem told_ok {n : Bool} (hs : s ≤ 300) (ht : t ≤ 300) (ha : Sz s a) (hb : Sz t b) (hk : k ≤ 4) : g_u_law_told [qD a, qD b, .int (k : Int), .bl n] μ = .ok (oD (nextR a b ((k : Int) : Rat))) μ := by
  refine run_ret rfl ?_
  show denSs fn_u_law_told.body [some (qD a), some (qD b), some (.int (k : Int)), some (.bl n)] μ = _
  unfold fn_u_law_told
  refine ss_ret ?_
  rw [dE_ife (t := n) (dB_val (dE_var rfl) rfl)]
  cases n with
  | false =>
    rw [if_neg Bool.false_ne_true]
    exact dE_call (dEs_cons (dE_var rfl) (dEs_cons (dE_var rfl) (dEs_cons (dE_var rfl) dEs_nil))) (nw_ok hs ht ha hb hk)
  | true =>
    rw [if_pos rfl]
    have v0 : denE (.var 0) [some (qD a), some (qD b), some (.int (k : Int)), some (.bl true)] μ = .ok (qD a) μ := dE_var rfl
    have v1 : denE (.var 1) [some (qD a), some (qD b), some (.int (k : Int)), some (.bl true)] μ = .ok (qD b) μ := dE_var rfl
    have v2 : denE (.var 2) [some (qD a), some (qD b), some (.int (k : Int)), some (.bl true)] μ = .ok (.int (k : Int)) μ := dE_var rfl
    have nw := nw_ok (μ := μ) hs ht ha hb hk
    simp only [denE.eq_def (.callK _ _ _ _ _ _), denEs, v0, v1, v2, bind_ok]
    exact nw
end
end K56

set_option maxRecDepth 100000
set_option maxHeartbeats 4000000
namespace K56
open PySem PV
section
variable {a b c : Rat} {k s t : Nat} {μ : Mem}
theorem num_pos {q : Rat} : 0 < q.num ↔ 0 < q := by
  have := lt_frac 0 q
  simpa using this
theorem lnw_ok (hs : s ≤ 300) (ht : t ≤ 300) (ha : Sz s a) (hb : Sz t b) (hk : k ≤ 4) : g_u_law_next_weight [qD a, qD b, .int (k : Int)] μ = .ok (oD (nextR a b ((k : Int) : Rat))) μ := by
  have h4 : (((4 : Nat) : Int) : Rat) = (4 : Rat) := rfl
  have h4' : ((4 : Int) : Rat) = (4 : Rat) := rfl
  have s1 := sz_add2 ha hb
  have s2 := sz_mul2 (sz_k hk) s1
  have s3 := sz_mul2 (sz_k (k := 4) (by omega)) ha
  rw [h4] at s3
  have s5 := sz_add2 s3 s2.neg
  have s6 := sz_mul2 (sz_k hk) hb
  have s7 := sz_mul2 s6 s1
  refine run_ret rfl ?_
  generalize hB : a + b = B at *
  have u0 : denE (.var 0) [some (qD a), some (qD b), some (.int (k : Int)), some (qD B), none, none] μ = .ok (qD a) μ := dE_var rfl
  have u1 : denE (.var 1) [some (qD a), some (qD b), some (.int (k : Int)), some (qD B), none, none] μ = .ok (qD b) μ := dE_var rfl
  have u2 : denE (.var 2) [some (qD a), some (qD b), some (.int (k : Int)), some (qD B), none, none] μ = .ok (.int (k : Int)) μ := dE_var rfl
  have u3 : denE (.var 3) [some (qD a), some (qD b), some (.int (k : Int)), some (qD B), none, none] μ = .ok (qD B) μ := dE_var rfl
  have e1 : denE (.call "_law_plus" ["x", "y"] g_u_law_plus (.cons (.var 0) (.cons (.var 1) (.nil)))) [some (qD a), some (qD b), some (.int (k : Int)), none, none, none] μ = .ok (qD B) μ := by
    rw [← hB]
    exact dE_call (dEs_cons (dE_var rfl) (dEs_cons (dE_var rfl) dEs_nil)) (LP_ok (ha.up (by omega)) (hb.up (by omega)))
  have e2a := dE_call (n := "_law_times") (ps := ["x", "y"]) (dEs_cons (c_tup (i := 4)) (dEs_cons u0 dEs_nil)) (LT_ok (by rw [h4', ← h4]; exact (sz_k (k := 4) (by omega)).up (by omega)) (ha.up (by omega)))
  have e2b := dE_call (n := "_law_times") (ps := ["x", "y"]) (dEs_cons (k_tup u2) (dEs_cons u3 dEs_nil)) (LT_ok ((sz_k hk).up (by omega)) (s1.up (by omega)))
  rw [h4'] at e2a
  have e2 := dE_call (n := "_law_plus") (ps := ["x", "y"]) (dEs_cons e2a (dEs_cons (dE_call (n := "_law_minus") (ps := ["x"]) (dEs_cons e2b dEs_nil) LM_ok) dEs_nil)) (LP_ok (s3.up (by omega)) (s2.neg.up (by omega)))
  have hL : (4 : Rat) * a + -(((k : Int) : Rat) * B) = 4 * a - ((k : Int) : Rat) * B := (Rat.sub_eq_add_neg _ _).symm
  have hres : nextR a b ((k : Int) : Rat) = if 0 < (4 : Rat) * a + -(((k : Int) : Rat) * B) then some (((k : Int) : Rat) * b * B / (4 * a + -(((k : Int) : Rat) * B))) else none := by
    rw [hL]
    unfold nextR
    rw [hB]
    have eq1 : b * (((k : Int) : Rat) * B) = ((k : Int) : Rat) * b * B := by grind
    rw [eq1]
    by_cases lt : ((k : Int) : Rat) * B < 4 * a
    · rw [if_pos lt, if_pos (by grind)]
    · rw [if_neg lt, if_neg (by grind)]
  rw [hres]
  generalize hl : (4 : Rat) * a + -(((k : Int) : Rat) * B) = L at *
  show denSs fn_u_law_next_weight.body [some (qD a), some (qD b), some (.int (k : Int)), none, none, none] μ = _
  unfold fn_u_law_next_weight
  rw [ss_asg e1]
  simp only [List.set_cons_succ, List.set_cons_zero]
  rw [ss_asg e2]
  simp only [List.set_cons_succ, List.set_cons_zero]
  have w1 : denE (.var 1) [some (qD a), some (qD b), some (.int (k : Int)), some (qD B), some (qD L), none] μ = .ok (qD b) μ := dE_var rfl
  have w2 : denE (.var 2) [some (qD a), some (qD b), some (.int (k : Int)), some (qD B), some (qD L), none] μ = .ok (.int (k : Int)) μ := dE_var rfl
  have w3 : denE (.var 3) [some (qD a), some (qD b), some (.int (k : Int)), some (qD B), some (qD L), none] μ = .ok (qD B) μ := dE_var rfl
  have w4 : denE (.var 4) [some (qD a), some (qD b), some (.int (k : Int)), some (qD B), some (qD L), none] μ = .ok (qD L) μ := dE_var rfl
  have le0 : cmpM .LtE (.int L.num) (.int 0) μ = some (decide (L.num ≤ 0)) := rfl
  rw [ss_ifR (dB_cmp (nm w4) (dE_cst (x := .int 0)) le0) fun _ => dE_cst]
  by_cases pos : 0 < L
  · have n0 : ¬ L.num ≤ 0 := by have := num_pos.mpr pos; omega
    rw [decide_eq_false n0, if_neg Bool.false_ne_true, if_pos pos]
    have e3 := dE_call (n := "_law_times") (ps := ["x", "y"]) (dEs_cons (dE_call (n := "_law_times") (ps := ["x", "y"]) (dEs_cons (k_tup w2) (dEs_cons w1 dEs_nil)) (LT_ok ((sz_k hk).up (by omega)) (hb.up (by omega)))) (dEs_cons w3 dEs_nil)) (LT_ok (s6.up (by omega)) (s1.up (by omega)))
    rw [ss_asg e3]
    simp only [List.set_cons_succ, List.set_cons_zero]
    generalize ((k : Int) : Rat) * b * B = T at *
    have z4 : denE (.var 4) [some (qD a), some (qD b), some (.int (k : Int)), some (qD B), some (qD L), some (qD T)] μ = .ok (qD L) μ := dE_var rfl
    have z5 : denE (.var 5) [some (qD a), some (qD b), some (.int (k : Int)), some (qD B), some (qD L), some (qD T)] μ = .ok (qD T) μ := dE_var rfl
    have hT : Sz 2000 T := s7.up (by omega)
    have hLs : Sz 2000 L := s5.up (by omega)
    have m1 := dE_bin (mu := false) (nm z5) (dn z4) (mul_int (small_mul hT.n hLs.d (by omega) (by omega) (by omega)))
    have m2 := dE_bin (mu := false) (dn z5) (nm z4) (mul_int (small_mul hT.d hLs.n (by omega) (by omega) (by omega)))
    have L0 : L ≠ 0 := by grind
    have ne : ((T.den : Int) * L.num) ≠ 0 := by
      have h1 := T.den_nz
      have h2 := num_ne L0
      intro z
      rcases Int.mul_eq_zero.mp z with q | q <;> omega
    refine ss_ret ?_
    show _ = Out.ok (qD (T / L)) μ
    rw [← div_frac T L0]
    exact dE_call (dEs_cons m1 (dEs_cons m2 dEs_nil)) (lfrac_ok ne (hT.n.mul hLs.d) (hT.d.mul hLs.n) (by omega) (by omega))
  · have n0 : L.num ≤ 0 := by have := mt num_pos.mp pos; omega
    rw [decide_eq_true n0, if_pos rfl, if_neg pos]
    rfl
theorem mul_back {x y : Rat} (hy : y ≠ 0) : x / y * y = x := by
  rw [Rat.div_def, Rat.mul_assoc, Rat.inv_mul_cancel _ hy, Rat.mul_one]
theorem div_pos' {x y : Rat} (hx : 0 < x) (hy : 0 < y) : 0 < x / y := by
  refine Rat.not_le.mp fun le => ?_
  have h := Rat.mul_le_mul_of_nonneg_left le (Rat.le_of_lt hy)
  have := mul_back (x := x) (Rat.ne_of_gt hy)
  grind
/-! ### walls and threes -/
abbrev kR (k : Nat) : Rat := ((k : Int) : Rat)
abbrev lR (k : Nat) : Rat := ((4 - (k : Int) : Int) : Rat)
theorem lR_eq : lR k = 4 - kR k := by
  show ((4 - (k : Int) : Int) : Rat) = 4 - ((k : Int) : Rat)
  rw [Rat.intCast_sub]
  rfl
theorem kR_pos (h : 1 ≤ k) : 0 < kR k := by
  show (0 : Rat) < ((k : Int) : Rat)
  have : ((0 : Int) : Rat) < ((k : Int) : Rat) := Rat.intCast_lt_intCast.mpr (by omega)
  exact this
theorem lR_pos (h : k ≤ 3) : 0 < lR k := by
  have : ((0 : Int) : Rat) < ((4 - (k : Int) : Int) : Rat) := Rat.intCast_lt_intCast.mpr (by omega)
  exact this
theorem lR_sz (h1 : 1 ≤ k) (h3 : k ≤ 3) : Sz 3 (lR k) := sz_int (by show ((4 - (k : Int))).natAbs < 2 ^ 3; omega) (by omega)
abbrev wallR (b : Rat) (k : Nat) : Rat := b * (kR k / lR k)
theorem wall_sz (h1 : 1 ≤ k) (h3 : k ≤ 3) (hb : Sz t b) : Sz (t + 6) (wallR b k) :=
  sz_mul2 hb (sz_div2 (Rat.ne_of_gt (lR_pos h3)) (sz_k (by omega)) (lR_sz h1 h3))
theorem wn_ok (h1 : 1 ≤ k) (h3 : k ≤ 3) (ht : t ≤ 300) (hb : Sz t b) : g_wall_next [qD b, .int (k : Int)] μ = .ok (qD (wallR b k)) μ := by
  have w : g_weight_by_wall [qD b, .int (k : Int)] μ = .ok (qD (wallR b k)) μ := by
    refine run_ret rfl (ss_ret ?_)
    have v0 : denE (.var 0) [some (qD b), some (.int (k : Int))] μ = .ok (qD b) μ := dE_var rfl
    have v1 : denE (.var 1) [some (qD b), some (.int (k : Int))] μ = .ok (.int (k : Int)) μ := dE_var rfl
    have d : denE (.tup (.cons (.bin false .Sub (.cst (.int 4)) (.var 1)) (.cons (.cst (.int 1)) (.nil)))) [some (qD b), some (.int (k : Int))] μ = .ok (qD (lR k)) μ := by
      simp only [denE.eq_def (.tup _), denEs, dE_bin (mu := false) (dE_cst (x := .int 4)) v1 PV.sub_int, dE_cst, bind_ok]
      rfl
    exact dE_call (dEs_cons v0 (dEs_cons (dE_call (dEs_cons (k_tup v1) (dEs_cons d dEs_nil)) (O_ok (Rat.ne_of_gt (lR_pos h3)) ((sz_k (by omega)).up (by omega)) ((lR_sz h1 h3).up (by omega)))) dEs_nil)) (T_ok (hb.up (by omega)) ((sz_div2 (Rat.ne_of_gt (lR_pos h3)) (sz_k (k := k) (by omega)) (lR_sz h1 h3)).up (by omega)))
  refine run_ret rfl (ss_ret ?_)
  exact dE_call (dEs_cons (dE_call (dEs_cons (dE_var rfl) (dEs_cons (dE_var rfl) dEs_nil)) w) dEs_nil) (fit_ok ((wall_sz h1 h3 hb).up (by omega)))
theorem wnum_ok (hs : s ≤ 300) (ht : t ≤ 300) (hb : Sz s b) (hc : Sz t c) (h0 : b + c ≠ 0) : g_wall_number [qD b, qD c] μ = .ok (qD (4 * c / (b + c))) μ := by
  have s1 := sz_mul2 (sz_k (k := 4) (by omega)) hc
  have s2 := sz_add2 hb hc
  refine run_ret rfl (ss_ret ?_)
  have v0 : denE (.var 0) [some (qD b), some (qD c)] μ = .ok (qD b) μ := dE_var rfl
  have v1 : denE (.var 1) [some (qD b), some (qD c)] μ = .ok (qD c) μ := dE_var rfl
  exact dE_call (dEs_cons (dE_call (dEs_cons (dE_call (dEs_cons (c_tup (i := 4)) (dEs_cons v1 dEs_nil)) (T_ok ((sz_k (k := 4) (by omega)).up (by omega)) (hc.up (by omega)))) (dEs_cons (dE_call (dEs_cons v0 (dEs_cons v1 dEs_nil)) (P_ok (hb.up (by omega)) (hc.up (by omega)))) dEs_nil)) (O_ok h0 (s1.up (by omega)) (s2.up (by omega)))) dEs_nil) (fit_ok ((sz_div2 h0 s1 s2).up (by omega)))
theorem three_ok (ha : Sz 40 a) (hb : Sz 40 b) (hc : Sz 300 c) (h0 : (a + b) * (b + c) ≠ 0) : g_three_number [qD a, qD b, qD c] μ = .ok (qD (4 * (a * c) / ((a + b) * (b + c)))) μ := by
  have s0 := sz_mul2 ha hc
  have s1 := sz_mul2 (sz_k (k := 4) (by omega)) s0
  have s2 := sz_add2 ha hb
  have s3 := sz_add2 hb hc
  have s4 := sz_mul2 s2 s3
  refine run_ret rfl (ss_ret ?_)
  have v0 : denE (.var 0) [some (qD a), some (qD b), some (qD c)] μ = .ok (qD a) μ := dE_var rfl
  have v1 : denE (.var 1) [some (qD a), some (qD b), some (qD c)] μ = .ok (qD b) μ := dE_var rfl
  have v2 : denE (.var 2) [some (qD a), some (qD b), some (qD c)] μ = .ok (qD c) μ := dE_var rfl
  have e1 := dE_call (n := "times") (ps := ["one", "other"]) (dEs_cons (c_tup (i := 4)) (dEs_cons (dE_call (n := "times") (ps := ["one", "other"]) (dEs_cons v0 (dEs_cons v2 dEs_nil)) (T_ok (ha.up (by omega)) (hc.up (by omega)))) dEs_nil)) (T_ok ((sz_k (k := 4) (by omega)).up (by omega)) (s0.up (by omega)))
  have e2 := dE_call (n := "times") (ps := ["one", "other"]) (dEs_cons (dE_call (n := "plus") (ps := ["one", "other"]) (dEs_cons v0 (dEs_cons v1 dEs_nil)) (P_ok (ha.up (by omega)) (hb.up (by omega)))) (dEs_cons (dE_call (n := "plus") (ps := ["one", "other"]) (dEs_cons v1 (dEs_cons v2 dEs_nil)) (P_ok (hb.up (by omega)) (hc.up (by omega)))) dEs_nil)) (T_ok (s2.up (by omega)) (s3.up (by omega)))
  exact dE_call (dEs_cons (dE_call (dEs_cons e1 (dEs_cons e2 dEs_nil)) (O_ok h0 (s1.up (by omega)) (s4.up (by omega)))) dEs_nil) (fit_ok ((sz_div2 h0 s1 s4).up (by omega)))
/-! ### the plain law -/
theorem div_is {x y z : Rat} (hy : y ≠ 0) (h : x = z * y) : x / y = z := by
  rw [h, Rat.div_def, Rat.mul_assoc, Rat.mul_inv_cancel _ hy, Rat.mul_one]
theorem back_ok {a b c k : Rat} (ha : 0 < a) (hb : 0 < b) (hk : 0 < k) (h : nextR a b k = some c) : 0 < c ∧ (a + b) * (b + c) ≠ 0 ∧ 4 * (a * c) / ((a + b) * (b + c)) = k ∧ nextR c b k = some a := by
  unfold nextR at h
  split at h
  · rename_i lt
    obtain rfl := Option.some.inj h
    have p1 : 0 < a + b := by grind
    have p2 : 0 < k * (a + b) := Rat.mul_pos hk p1
    have p3 : 0 < b * (k * (a + b)) := Rat.mul_pos hb p2
    have p4 : 0 < 4 * a - k * (a + b) := by grind
    have p5 : 0 < b * (k * (a + b)) / (4 * a - k * (a + b)) := div_pos' p3 p4
    have hc := mul_back (x := b * (k * (a + b))) (Rat.ne_of_gt p4)
    generalize b * (k * (a + b)) / (4 * a - k * (a + b)) = c at *
    have p6 : 0 < b + c := by grind
    have p7 : 0 < (a + b) * (b + c) := Rat.mul_pos p1 p6
    have key : 4 * (a * c) = k * ((a + b) * (b + c)) := by grind
    have p8 : 0 < b * c := Rat.mul_pos hb p5
    have lt2 : k * (c + b) < 4 * c := by
      refine Rat.not_le.mp fun le => ?_
      have := Rat.mul_le_mul_of_nonneg_left le (Rat.le_of_lt p1)
      grind
    refine ⟨p5, Rat.ne_of_gt p7, div_is (Rat.ne_of_gt p7) key, ?_⟩
    unfold nextR
    rw [if_pos lt2, div_is (z := a) (by grind) (by grind)]
  · cases h
theorem scale_ok {a b k f : Rat} (hf : 0 < f) : nextR (f * a) (f * b) k = (nextR a b k).map (f * ·) := by
  unfold nextR
  have e1 : k * (f * a + f * b) = f * (k * (a + b)) := by grind
  have e2 : 4 * (f * a) = f * (4 * a) := by grind
  rw [e1, e2]
  by_cases lt : k * (a + b) < 4 * a
  · have lt2 : f * (k * (a + b)) < f * (4 * a) := (Rat.mul_lt_mul_left hf).mpr lt
    rw [if_pos lt, if_pos lt2]
    have L0 : 4 * a - k * (a + b) ≠ 0 := by grind
    have L1 : f * (4 * a) - f * (k * (a + b)) ≠ 0 := by grind
    have hc := mul_back (x := b * (k * (a + b))) L0
    simp only [Option.map_some]
    congr 1
    refine div_is L1 ?_
    grind
  · have lt2 : ¬ f * (k * (a + b)) < f * (4 * a) := fun h => lt ((Rat.mul_lt_mul_left hf).mp h)
    rw [if_neg lt, if_neg lt2]
    rfl
theorem wall_frac {b : Rat} (h1 : 1 ≤ k) (h3 : k ≤ 3) : (((k : Int) * b.num : Int) : Rat) / (((4 - (k : Int)) * (b.den : Int) : Int) : Rat) = wallR b k := by
  have l0 := Rat.ne_of_gt (lR_pos h3)
  have d0 := den_ne b
  have hb := rat_eq b
  have e : (b.num : Rat) = b * ((b.den : Int) : Rat) := by
    have := mul_back (x := (b.num : Rat)) d0
    rw [← hb] at this
    exact this.symm
  have ne : (((4 - (k : Int)) * (b.den : Int) : Int) : Rat) ≠ 0 := by
    rw [Rat.intCast_mul]
    intro z
    rcases Rat.mul_eq_zero.mp z with q | q
    · exact l0 q
    · exact d0 q
  refine div_is ne ?_
  rw [Rat.intCast_mul, Rat.intCast_mul, e]
  have hm := mul_back (x := kR k) l0
  show kR k * (b * ((b.den : Int) : Rat)) = b * (kR k / lR k) * (lR k * ((b.den : Int) : Rat))
  grind
theorem wall_back {b : Rat} (h1 : 1 ≤ k) (h3 : k ≤ 3) (hb : 0 < b) : b + wallR b k ≠ 0 ∧ 4 * wallR b k / (b + wallR b k) = kR k := by
  have l0 := lR_pos h3
  have q : 0 < kR k / lR k := div_pos' (kR_pos h1) l0
  have w : 0 < wallR b k := Rat.mul_pos hb q
  have hm := mul_back (x := kR k) (Rat.ne_of_gt l0)
  have hl : lR k = 4 - kR k := lR_eq
  have s : b + wallR b k ≠ 0 := by grind
  refine ⟨s, div_is s ?_⟩
  show 4 * (b * (kR k / lR k)) = kR k * (b + b * (kR k / lR k))
  rw [hl] at hm ⊢
  generalize kR k / (4 - kR k) = z at *
  grind
end
end K56

set_option maxRecDepth 100000
set_option maxHeartbeats 4000000
namespace K56
open PySem PV
theorem small_log {n : Int} (h : 0 < n) (g : n ≤ 1000000) : n.natAbs.log2 < 9000 := by
  have := log_lt (a := n) (by omega) (by omega)
  omega
abbrev drawE (a b : E) : E := .call "_law_draw" ["bag", "below"] g_u_law_draw (.cons a (.cons b .nil))
theorem draw_e {env : EnvD} {rest μ μ0 : Mem} {n : Int} {a b : E} (ha : denE a env μ0 = .ok (.ref 1) μ0) (hb : denE b env μ0 = .ok (.int n) μ) (h : BagW rest μ) (h0 : μ0 = μ) (h1 : 0 < n) (h2 : n ≤ 1000000) :
    ∃ v μ', denE (drawE a b) env μ0 = .ok (.int v) μ' ∧ 0 ≤ v ∧ v < n ∧ BagW rest μ' := by
  subst h0
  obtain ⟨v, μ', e, h3, h4, h5⟩ := drawW_ok (e := dwDivI) (.inl rfl) h h1 (small_log h1 h2)
  exact ⟨v, μ', dE_call (dEs_cons ha (dEs_cons hb dEs_nil)) e, h3, h4, h5⟩
theorem pick_ok {rest μ : Mem} {ds : List D} (h : BagW rest μ) (h0 : ds ≠ []) (h1 : ds.length ≤ 1000000) : ∃ d μ', g_u_law_pick [.ref 1, .lst ds] μ = .ok d μ' ∧ d ∈ ds ∧ BagW rest μ' := by
  have hp : 0 < ds.length := List.length_pos_iff.mpr h0
  have l : denE (.blt .len false (.cons (.var 1) (.nil))) [some (.ref 1), some (.lst ds)] μ = .ok (.int ds.length) μ := by simp [denE, denEs, bltD, lenM, asSeq, asList]
  obtain ⟨v, μ', e, h3, h4, h5⟩ := draw_e (env := [some (.ref 1), some (.lst ds)]) (a := .var 0) (dE_var rfl) l h rfl (by omega) (by omega)
  have hv : v.toNat < ds.length := by omega
  have at1 : L2.atI ds v = some ds[v.toNat] := by
    unfold L2.atI L2.ixN
    rw [if_pos h3, if_pos h4]
    simp [hv]
  refine ⟨ds[v.toNat], μ', ?_, List.getElem_mem hv, h5⟩
  refine (run_retM rfl (ss_ret (x := ds[v.toNat]) (μ1 := μ') ?_)).trans (finish_same (by rw [BagW.len h5, BagW.len h]))
  have v1 : denE (.var 1) [some (.ref 1), some (.lst ds)] μ = .ok (.lst ds) μ := dE_var rfl
  show denE (.idx (.var 1) _) [some (.ref 1), some (.lst ds)] μ = _
  simp only [denE.eq_def (.idx _ _), v1, bind_ok, e]
  simp only [getD, asSeq, asList, at1]
theorem pow_e {i j k : Int} {env : EnvD} {μ : Mem} (h : binD false .Pow (.int i) (.int j) μ = .ok (.int k) μ) : denE (.bin false .Pow (.cst (.int i)) (.cst (.int j))) env μ = .ok (.int k) μ := dE_bin (mu := false) dE_cst dE_cst h
/-- a weight: above nought, and not too long -/
def Wt (q : Rat) : Prop := 0 < q ∧ Sz 37 q
theorem int_pos {x : Int} (h : 0 < x) : (0 : Rat) < (x : Rat) := by
  have : ((0 : Int) : Rat) < (x : Rat) := Rat.intCast_lt_intCast.mpr h
  exact this
theorem wt_div {x y : Int} (hx : 0 < x) (hy : 0 < y) (fx : Fits 37 x) (fy : Fits 37 y) : Wt ((x : Rat) / (y : Rat)) :=
  ⟨div_pos' (Rat.intCast_lt_intCast.mpr hx) (Rat.intCast_lt_intCast.mpr hy), sz_div (by omega) fx fy⟩
theorem lfr {x y : Int} {μ : Mem} (hy : 0 < y) (fx : Fits 37 x) (fy : Fits 37 y) : g_u_law_frac [.int x, .int y] μ = .ok (qD ((x : Rat) / (y : Rat))) μ := lfrac_ok (by omega) fx fy (by omega) (by omega)
theorem fit37 {x : Int} (h : x.natAbs < 137438953472) : Fits 37 x := by show x.natAbs < 2 ^ 37; omega
def Wt34 (q : Rat) : Prop := 0 < q ∧ Sz 34 q
theorem wt34_div {x y : Int} (hx : 0 < x) (hy : 0 < y) (fx : Fits 34 x) (fy : Fits 34 y) : Wt34 ((x : Rat) / (y : Rat)) :=
  ⟨div_pos' (Rat.intCast_lt_intCast.mpr hx) (Rat.intCast_lt_intCast.mpr hy), sz_div (by omega) fx fy⟩
theorem lfr34 {x y : Int} {μ : Mem} (hy : 0 < y) (fx : Fits 34 x) (fy : Fits 34 y) : g_u_law_frac [.int x, .int y] μ = .ok (qD ((x : Rat) / (y : Rat))) μ := lfrac_ok (by omega) fx fy (by omega) (by omega)
theorem fit34 {x : Int} (h : x.natAbs < 17179869184) : Fits 34 x := by show x.natAbs < 2 ^ 34; omega
theorem great_ok {rest μ : Mem} (h : BagW rest μ) : ∃ q μ', g_u_law_great_weight [.ref 1] μ = .ok (qD q) μ' ∧ Wt34 q ∧ BagW rest μ' := by
  obtain ⟨w, μ1, e1, w0, w6, h1⟩ := draw_e (env := [some (.ref 1), none]) (a := .var 0) (b := .cst (.int 6)) (μ := μ) (dE_var rfl) dE_cst h rfl (by omega) (by omega)
  have start : ∀ {q : Rat} {μ' : Mem}, (∃ ss, fn_u_law_great_weight.body = .cons (.asg (.nm 1) (drawE (.var 0) (.cst (.int 6)))) ss ∧ denSs ss [some (.ref 1), some (.int w)] μ1 = .ok (.rt (qD q)) μ') → Wt34 q → BagW rest μ' → ∃ q μ', g_u_law_great_weight [.ref 1] μ = .ok (qD q) μ' ∧ Wt34 q ∧ BagW rest μ' := fun {q μ'} ⟨ss, hs, r⟩ hw hb => by
    refine ⟨q, μ', (run_retM rfl ?_).trans (finish_same (by rw [BagW.len hb, BagW.len h])), hw, hb⟩
    show denSs fn_u_law_great_weight.body [some (.ref 1), none] μ = _
    rw [hs, ss_asg e1]
    exact r
  have v0 : ∀ μ, denE (.var 0) [some (.ref 1), some (.int w)] μ = .ok (.ref 1) μ := fun μ => dE_var rfl
  have v1 : denE (.var 1) [some (.ref 1), some (.int w)] μ1 = .ok (.int w) μ1 := dE_var rfl
  have t0 := dB_cmp v1 (dE_cst (x := .int 0)) (eq0 (i := w))
  have t1 := dB_cmp (op := .Eq) v1 (dE_cst (x := .int 1)) (t := w == 1) rfl
  by_cases c0 : w = 0
  · obtain ⟨v, μ2, e2, p0, p1, h2⟩ := draw_e (b := .cst (.int 3)) (v0 μ1) dE_cst h1 rfl (by omega) (by omega)
    refine start (q := ((1000000000 - v : Int) : Rat)) (μ' := μ2) ⟨_, rfl, ?_⟩ ⟨int_pos (by omega), sz_int (fit34 (by omega)) (by omega)⟩ h2
    rw [ss_if t0, decide_eq_true c0, if_pos rfl, ss_ret (x := qD ((1000000000 - v : Int) : Rat)) (μ1 := μ2)]
    · rfl
    · simp only [denE.eq_def (.tup _), denEs, dE_bin (mu := false) (pow_e (i := 10) (j := 9) (k := 1000000000) (by simp [binD, powD])) e2 PV.sub_int, dE_cst, bind_ok]
      rfl
  · by_cases c1 : w = 1
    · obtain ⟨v, μ2, e2, p0, p1, h2⟩ := draw_e (b := .cst (.int 5)) (v0 μ1) dE_cst h1 rfl (by omega) (by omega)
      obtain ⟨u, μ3, e3, u0, u1, h3⟩ := draw_e (b := .cst (.int 3)) (v0 μ2) dE_cst h2 rfl (by omega) (by omega)
      refine start (q := ((1 + v : Int) : Rat) / ((1000000 - u : Int) : Rat)) (μ' := μ3) ⟨_, rfl, ?_⟩ (wt34_div (by omega) (by omega) (fit34 (by omega)) (fit34 (by omega))) h3
      rw [ss_if t0, decide_eq_false c0, if_neg Bool.false_ne_true, ss_end, seq_nx, ss_if t1, if_pos (by simp [c1]), ss_ret]
      · rfl
      · exact dE_call (dEs_cons (dE_bin (mu := false) dE_cst e2 PV.add_int) (dEs_cons (dE_bin (mu := false) (pow_e (i := 10) (j := 6) (k := 1000000) (by simp [binD, powD])) e3 PV.sub_int) dEs_nil)) (lfr34 (by omega) (fit34 (by omega)) (fit34 (by omega)))
    · obtain ⟨v, μ2, e2, p0, p1, h2⟩ := draw_e (b := .cst (.int 12)) (v0 μ1) dE_cst h1 rfl (by omega) (by omega)
      obtain ⟨u, μ3, e3, u0, u1, h3⟩ := draw_e (b := .cst (.int 4)) (v0 μ2) dE_cst h2 rfl (by omega) (by omega)
      refine start (q := ((1 + v : Int) : Rat) / ((1 + u / 2 : Int) : Rat)) (μ' := μ3) ⟨_, rfl, ?_⟩ (wt34_div (by omega) (by omega) (fit34 (by omega)) (fit34 (by omega))) h3
      rw [ss_if t0, decide_eq_false c0, if_neg Bool.false_ne_true, ss_end, seq_nx, ss_if t1, if_neg (by simp [c1]), ss_end, seq_nx, ss_ret]
      exact dE_call (dEs_cons (dE_bin (mu := false) dE_cst e2 PV.add_int) (dEs_cons (dE_bin (mu := false) dE_cst (dE_bin (mu := false) e3 dE_cst (div_int (by omega) (by decide))) PV.add_int) dEs_nil)) (lfr34 (by omega) (fit34 (by omega)) (fit34 (by omega)))
end K56

set_option maxRecDepth 100000
set_option maxHeartbeats 4000000
namespace K56
open PySem PV
theorem shows {B k n : Nat} {d : D} (h : ShB B k n d) (hB : 8 ≤ B) (hk : k ≤ 60) (hn : (B + 2) * n + B ≤ lim) : ∃ z : Str, ∀ μ, reprM d μ = some z := by
  obtain ⟨p, h1, h2, h3, h4, h5⟩ := h
  refine ⟨p.shown, fun μ => ?_⟩
  have e : toPD μ d = some p := h1 _ _ hk
  have hl : p.shown.length ≤ lim := Nat.le_trans (PyData.shown_le_bulk B hB p h3) (Nat.le_trans (Nat.add_le_add_right (Nat.mul_le_mul_left _ h4) _) hn)
  unfold reprM
  rw [e]
  simp [h2, hl]
theorem lim_ok : (2000 + 2) * 8 + 2000 ≤ lim := by decide
abbrev isE (x y : E) : E := .call "_law_is" ["told", "due"] g_u_law_is (.cons x (.cons y .nil))
theorem is_e {env : EnvD} {μ : Mem} {x y : E} {d : D} (sh : ShB 2000 3 8 d) (hx : denE x env μ = .ok d μ) (hy : denE y env μ = .ok d μ) : denE (isE x y) env μ = .ok (.bl true) μ :=
  dE_call (dEs_cons hx (dEs_cons hy dEs_nil)) (is_ok sh (by omega) (by omega) lim_ok)
theorem isnt_e {env : EnvD} {μ : Mem} {x y : E} {d : D} (sh : ShB 2000 3 8 d) (hx : denE x env μ = .ok d μ) (hy : denE y env μ = .ok d μ) : denB (.not (isE x y)) env μ = .ok false μ :=
  dB_not (t := true) (dB_val (is_e sh hx hy) rfl)
theorem sh_q8 {q : Rat} (h : Sz 1900 q) : ShB 2000 3 8 (qD q) := (sh_q (k := 2) h).up (by omega) (by omega)
theorem sh_o {o : Option Rat} (h : ∀ q, o = some q → Sz 1900 q) : ShB 2000 3 8 (oD o) := by
  cases o with
  | none => exact sh_non
  | some q => exact sh_q8 (h q rfl)
theorem both_e {env : EnvD} {μ : Mem} {n : Bool} {i : Nat} {x y : E} {o : Out D} (h : denE (.var i) env μ = .ok (.bl n) μ) (hx : denE x env μ = o) (hy : denE y env μ = o) : denE (.ife (.var i) x y) env μ = o := by
  rw [dE_ife (t := n) (dB_val h rfl), hx, hy]
  cases n <;> rfl
theorem callK_bk {env : EnvD} {μ : Mem} {x y : E} {d e : D} {o : Out D} {g : G} {nm : Str} (hx : denE x env μ = .ok d μ) (hy : denE y env μ = .ok e μ) (h : g [e, d] μ = o) : denE (.callK nm ["b", "k"] g (.nil) ["k", "b"] (.cons x (.cons y (.nil)))) env μ = o := by
  simp only [denE.eq_def (.callK _ _ _ _ _ _), denEs, hx, hy, bind_ok]
  exact h
theorem callK_bc {env : EnvD} {μ : Mem} {x y : E} {d e : D} {o : Out D} {g : G} {nm : Str} (hx : denE x env μ = .ok d μ) (hy : denE y env μ = .ok e μ) (h : g [e, d] μ = o) : denE (.callK nm ["b", "c"] g (.nil) ["c", "b"] (.cons x (.cons y (.nil)))) env μ = o := by
  simp only [denE.eq_def (.callK _ _ _ _ _ _), denEs, hx, hy, bind_ok]
  exact h
theorem callK_abc {env : EnvD} {μ : Mem} {x y z : E} {d e f : D} {o : Out D} {g : G} {nm : Str} (hx : denE x env μ = .ok d μ) (hy : denE y env μ = .ok e μ) (hz : denE z env μ = .ok f μ) (h : g [f, e, d] μ = o) : denE (.callK nm ["a", "b", "c"] g (.nil) ["c", "b", "a"] (.cons x (.cons y (.cons z (.nil))))) env μ = o := by
  simp only [denE.eq_def (.callK _ _ _ _ _ _), denEs, hx, hy, hz, bind_ok]
  exact h
theorem max_e {env : EnvD} {μ : Mem} {x y : E} {i j : Int} (hx : denE x env μ = .ok (.int i) μ) (hy : denE y env μ = .ok (.int j) μ) : denE (.blt .max2 false (.cons x (.cons y .nil))) env μ = .ok (.int (if j > i then j else i)) μ := by
  simp only [denE.eq_def (.blt _ _ _), dEs_cons hx (dEs_cons hy dEs_nil), bind_ok]
  rfl
abbrev kE : E := .blt .repr false (.cons (.lst false (.cons (.var 1) (.cons (.var 2) (.nil)))) (.nil))
abbrev e11 (a b : Rat) (k : Nat) (n : Bool) (o5 o6 o7 o8 o9 o10 : Option D) : EnvD := [some (.ref 1), some (qD a), some (qD b), some (.int (k : Int)), some (.bl n), o5, o6, o7, o8, o9, o10]
def f13 : Rat := ⟨1, 3, by decide, by decide⟩
def f52 : Rat := ⟨5, 2, by decide, by decide⟩
theorem right_ok {rest μ : Mem} {a b : Rat} {k : Nat} {n : Bool} (ha : Wt a) (hb : Wt b) (h1 : 1 ≤ k) (h3 : k ≤ 3) (h : BagW rest μ) : ∃ μ', g_u_law_is_weight_right [.ref 1, qD a, qD b, .int (k : Int), .bl n] μ = .ok (.bl true) μ' ∧ BagW rest μ' := by
  obtain ⟨a0, ha⟩ := ha
  obtain ⟨b0, hb⟩ := hb
  have sab : ShB 2000 3 8 (.lst [qD a, qD b]) := (sh_lst (k := 2) (shl_cons (sh_q (k := 1) (ha.up (by omega))) (shl_cons (sh_q (k := 1) (hb.up (by omega))) (shl_nil (n := 0))))).up (by omega) (by omega)
  obtain ⟨z, hz⟩ := shows sab (by omega) (by omega) lim_ok
  have ke : ∀ (o5 o6 o7 o8 o9 o10 : Option D) (μ : Mem), denE kE (e11 a b k n o5 o6 o7 o8 o9 o10) μ = .ok (.str z) μ := fun o5 o6 o7 o8 o9 o10 μ => by
    have l : denE (.lst false (.cons (.var 1) (.cons (.var 2) (.nil)))) (e11 a b k n o5 o6 o7 o8 o9 o10) μ = .ok (.lst [qD a, qD b]) μ := by
      simp only [denE.eq_def (.lst _ _), dEs_cons (dE_var (i := 1) (env := e11 a b k n o5 o6 o7 o8 o9 o10) (μ := μ) rfl) (dEs_cons (dE_var (i := 2) rfl) dEs_nil), bind_ok]
      rfl
    simp only [denE.eq_def (.blt _ _ _), dEs_cons l dEs_nil, bind_ok]
    show (match reprM (.lst [qD a, qD b]) μ with | some z => Out.ok (D.str z) μ | none => Out.bad) = _
    rw [hz]
  have zz : ∀ μ, cmpM .Eq (.str z) (.str z) μ = some true := fun μ => by simp [cmpM, eqM]
  have fin : ∀ (o5 o7 o8 o9 o10 : Option D) (μ : Mem), denE (.cmp .Eq kE (.var 6)) (e11 a b k n o5 (some (.str z)) o7 o8 o9 o10) μ = .ok (.bl true) μ := fun o5 o7 o8 o9 o10 μ => dE_cmp (ke _ _ _ _ _ _ _) (dE_var rfl) (zz μ)
  have k0 := kR_pos h1
  obtain ⟨wne, wnum⟩ := wall_back (b := b) h1 h3 b0
  have wsz := wall_sz h1 h3 hb
  have wfr := wall_frac (k := k) (b := b) h1 h3
  have nsz : ∀ q, nextR a b ((k : Int) : Rat) = some q → Sz 240 q := fun q hq => (nextR_sz ha hb (by omega) hq).up (by omega)
  generalize hN : nextR a b ((k : Int) : Rat) = N at *
  have lw := lnw_ok (μ := μ) (by omega) (by omega) ha hb (show k ≤ 4 by omega)
  have tl := told_ok (μ := μ) (n := n) (by omega) (by omega) ha hb (show k ≤ 4 by omega)
  rw [hN] at lw tl
  have st : ∀ {r : D} {μ' : Mem}, (∀ o8 o9 : Option D, True) → denSs fn_u_law_is_weight_right.body (e11 a b k n none none none none none none) μ = .ok (.rt r) μ' → BagW rest μ' → g_u_law_is_weight_right [.ref 1, qD a, qD b, .int (k : Int), .bl n] μ = .ok r μ' := fun {r μ'} _ q hb => (run_retM rfl q).trans (finish_same (by rw [BagW.len hb, BagW.len h]))
  have w4 : ∀ (o5 o6 o7 o8 o9 o10 : Option D) (μ : Mem), denE (.var 4) (e11 a b k n o5 o6 o7 o8 o9 o10) μ = .ok (.bl n) μ := fun _ _ _ _ _ _ _ => dE_var rfl
  have w3 : ∀ (o5 o6 o7 o8 o9 o10 : Option D) (μ : Mem), denE (.var 3) (e11 a b k n o5 o6 o7 o8 o9 o10) μ = .ok (.int (k : Int)) μ := fun _ _ _ _ _ _ _ => dE_var rfl
  have w2 : ∀ (o5 o6 o7 o8 o9 o10 : Option D) (μ : Mem), denE (.var 2) (e11 a b k n o5 o6 o7 o8 o9 o10) μ = .ok (qD b) μ := fun _ _ _ _ _ _ _ => dE_var rfl
  have w1 : ∀ (o5 o6 o7 o8 o9 o10 : Option D) (μ : Mem), denE (.var 1) (e11 a b k n o5 o6 o7 o8 o9 o10) μ = .ok (qD a) μ := fun _ _ _ _ _ _ _ => dE_var rfl
  have kfit : Fits 37 (k : Int) := fit37 (by omega)
  have lfit : Fits 37 (4 - (k : Int)) := fit37 (by omega)
  generalize hW : wallR b k = W at *
  have lne : (4 - (k : Int)) * (b.den : Int) ≠ 0 := by
    have h1 := b.den_nz
    intro z
    rcases Int.mul_eq_zero.mp z with q | q <;> omega
  have main : ∀ {r : OutS}, denSs (.cons (.ife (.cmp .Is (.var 5) (.cst .non))
   (.cons (.ret (.cmp .Eq kE (.var 6)))
   (.nil)) (.nil))
   (.cons (.asg (.nm 9) (.ife (.var 4) (.callK "three_number" ["a", "b", "c"] g_three_number (.nil) ["c", "b", "a"] (.cons (.var 7) (.cons (.var 2) (.cons (.var 1) (.nil))))) (.call "three_number" ["a", "b", "c"] g_three_number (.cons (.var 1) (.cons (.var 2) (.cons (.var 7) (.nil)))))))
   (.cons (.ife (.or (.not (isE (.var 9) (.tup (.cons (.var 3) (.cons (.cst (.int 1)) (.nil)))))) (.not (isE (.call "_law_told" ["a", "b", "k", "is_named"] g_u_law_told (.cons (.var 7) (.cons (.var 2) (.cons (.var 3) (.cons (.not (.var 4)) (.nil)))))) (.var 1))))
   (.cons (.ret (.cst (.bl false)))
   (.nil)) (.nil))
   (.cons (.asg (.nm 10) (.call "_law_pick" ["bag", "some"] g_u_law_pick (.cons (.var 0) (.cons (.lst false (.cons (.tup (.cons (.cst (.int 2)) (.cons (.cst (.int 1)) (.nil)))) (.cons (.tup (.cons (.cst (.int 1)) (.cons (.cst (.int 3)) (.nil)))) (.cons (.tup (.cons (.cst (.int 5)) (.cons (.cst (.int 2)) (.nil)))) (.cons (.tup (.cons (.cst (.int 1)) (.cons (.cst (.int 1)) (.nil)))) (.nil)))))) (.nil)))))
   (.cons (.ife (.and (.cmp .Lt (.blt .max2 false (.cons (.idx (.var 1) (.cst (.int 0))) (.cons (.idx (.var 2) (.cst (.int 0))) (.nil)))) (.bin false .Pow (.cst (.int 10)) (.cst (.int 8)))) (.cmp .Lt (.blt .max2 false (.cons (.idx (.var 1) (.cst (.int 1))) (.cons (.idx (.var 2) (.cst (.int 1))) (.nil)))) (.bin false .Pow (.cst (.int 10)) (.cst (.int 5)))))
   (.cons (.ife (.not (isE (.call "_law_told" ["a", "b", "k", "is_named"] g_u_law_told (.cons (.call "_law_times" ["x", "y"] g_u_law_times (.cons (.var 10) (.cons (.var 1) (.nil)))) (.cons (.call "_law_times" ["x", "y"] g_u_law_times (.cons (.var 10) (.cons (.var 2) (.nil)))) (.cons (.var 3) (.cons (.var 4) (.nil)))))) (.call "_law_times" ["x", "y"] g_u_law_times (.cons (.var 10) (.cons (.var 7) (.nil))))))
   (.cons (.ret (.cst (.bl false)))
   (.nil)) (.nil))
   (.nil)) (.nil))
   (.cons (.ret (.cmp .Eq kE (.var 6)))
   (.nil))))))) (e11 a b k n (some (oD N)) (some (.str z)) (some (oD N)) (some (qD W)) (some (qD ((k : Int) : Rat))) none) μ = r → denSs fn_u_law_is_weight_right.body (e11 a b k n none none none none none none) μ = r := fun {r} q => by
    unfold fn_u_law_is_weight_right
    rw [ss_par2 (dE_call (dEs_cons (w1 _ _ _ _ _ _ _) (dEs_cons (w2 _ _ _ _ _ _ _) (dEs_cons (w3 _ _ _ _ _ _ _) dEs_nil))) lw) (ke _ _ _ _ _ _ _)]
    simp only [e11, List.set_cons_succ, List.set_cons_zero]
    rw [ss_asg (dE_call (dEs_cons (w1 _ _ _ _ _ _ _) (dEs_cons (w2 _ _ _ _ _ _ _) (dEs_cons (w3 _ _ _ _ _ _ _) (dEs_cons (w4 _ _ _ _ _ _ _) dEs_nil)))) tl)]
    simp only [List.set_cons_succ, List.set_cons_zero]
    rw [ss_ifR (x := .non) (isnt_e (sh_o fun q hq => (nsz q hq).up (by omega)) (dE_var rfl) (dE_var rfl)) (fun q => by cases q), if_neg Bool.false_ne_true]
    have wn := wn_ok (μ := μ) h1 h3 (by omega) hb
    rw [hW] at wn
    rw [ss_asg (both_e (w4 _ _ _ _ _ _ _) (callK_bk (w3 _ _ _ _ _ _ _) (w2 _ _ _ _ _ _ _) wn) (dE_call (dEs_cons (w2 _ _ _ _ _ _ _) (dEs_cons (w3 _ _ _ _ _ _ _) dEs_nil)) wn))]
    simp only [List.set_cons_succ, List.set_cons_zero]
    have m1 := dE_bin (mu := false) (w3 (some (oD N)) (some (.str z)) (some (oD N)) (some (qD W)) none none μ) (nm (w2 (some (oD N)) (some (.str z)) (some (oD N)) (some (qD W)) none none μ)) (mul_int (small_mul kfit hb.n (by omega) (by omega) (by omega)))
    have m2 := dE_bin (mu := false) (dE_bin (mu := false) (dE_cst (x := .int 4)) (w3 (some (oD N)) (some (.str z)) (some (oD N)) (some (qD W)) none none μ) PV.sub_int) (dn (w2 (some (oD N)) (some (.str z)) (some (oD N)) (some (qD W)) none none μ)) (mul_int (small_mul lfit hb.d (by omega) (by omega) (by omega)))
    have fr : g_u_law_frac [.int ((k : Int) * b.num), .int ((4 - (k : Int)) * (b.den : Int))] μ = .ok (qD W) μ := by
      rw [← wfr]
      exact lfrac_ok lne (kfit.mul hb.n) (lfit.mul hb.d) (by omega) (by omega)
    rw [ss_ifR (x := .non) (isnt_e (sh_q8 (wsz.up (by omega))) (dE_var rfl) (dE_call (dEs_cons m1 (dEs_cons m2 dEs_nil)) fr)) (fun q => by cases q), if_neg Bool.false_ne_true]
    have wu := wnum_ok (μ := μ) (by omega) (by omega) hb wsz wne
    rw [wnum] at wu
    rw [ss_asg (both_e (w4 _ _ _ _ _ _ _) (callK_bc (dE_var rfl) (w2 _ _ _ _ _ _ _) wu) (dE_call (dEs_cons (w2 _ _ _ _ _ _ _) (dEs_cons (dE_var rfl) dEs_nil)) wu))]
    simp only [List.set_cons_succ, List.set_cons_zero]
    rw [ss_ifR (x := .non) (isnt_e (sh_q8 ((sz_k (k := k) (by omega)).up (by omega))) (dE_var rfl) (k_tup (w3 _ _ _ _ _ _ _))) (fun q => by cases q), if_neg Bool.false_ne_true]
    exact q
  cases N with
  | none =>
    refine ⟨μ, st (fun _ _ => trivial) (main ?_) h, h⟩
    rw [ss_ifR (t := true) (dB_cmp (dE_var rfl) (dE_cst (x := .non)) rfl) fun _ => fin _ _ _ _ _ _, if_pos rfl]
  | some c =>
    obtain ⟨c0, ne, th, bk⟩ := back_ok a0 b0 k0 hN
    have hc := nsz c rfl
    obtain ⟨d, μ2, e2, hd, h2⟩ := pick_ok (ds := [qD ((2 : Int) : Rat), qD f13, qD f52, qD ((1 : Int) : Rat)]) h (by simp) (by simp)
    obtain ⟨f, rfl, f0, fs⟩ : ∃ f : Rat, d = qD f ∧ 0 < f ∧ Sz 3 f := by
      simp only [List.mem_cons, List.not_mem_nil, or_false] at hd
      rcases hd with q | q | q | q
      · exact ⟨_, q, int_pos (by omega), sz_int (by show (2 : Int).natAbs < 2 ^ 3; decide) (by omega)⟩
      · exact ⟨_, q, num_pos.mp (by decide), ⟨by show (1 : Int).natAbs < 2 ^ 3; decide, by show (3 : Int).natAbs < 2 ^ 3; decide⟩⟩
      · exact ⟨_, q, num_pos.mp (by decide), ⟨by show (5 : Int).natAbs < 2 ^ 3; decide, by show (2 : Int).natAbs < 2 ^ 3; decide⟩⟩
      · exact ⟨_, q, int_pos (by omega), sz_int (by show (1 : Int).natAbs < 2 ^ 3; decide) (by omega)⟩
    refine ⟨μ2, st (fun _ _ => trivial) (main ?_) h2, h2⟩
    rw [ss_ifR (x := .non) (t := false) (dB_cmp (dE_var rfl) (dE_cst (x := .non)) rfl) (fun q => by cases q), if_neg Bool.false_ne_true]
    have t3 := three_ok (μ := μ) (ha.up (by omega)) (hb.up (by omega)) (hc.up (by omega)) ne
    rw [th] at t3
    rw [ss_asg (both_e (w4 _ _ _ _ _ _ _) (callK_abc (dE_var rfl) (w2 _ _ _ _ _ _ _) (w1 _ _ _ _ _ _ _) t3) (dE_call (dEs_cons (w1 _ _ _ _ _ _ _) (dEs_cons (w2 _ _ _ _ _ _ _) (dEs_cons (dE_var rfl) dEs_nil))) t3))]
    simp only [e11, List.set_cons_succ, List.set_cons_zero]
    have tb := told_ok (μ := μ) (n := !n) (by omega) (by omega) hc hb (show k ≤ 4 by omega)
    rw [bk] at tb
    have nn : denE (.not (.var 4)) (e11 a b k n (some (oD (some c))) (some (.str z)) (some (oD (some c))) (some (qD W)) (some (qD (kR k))) none) μ = .ok (.bl (!n)) μ := by
      simp [denE.eq_def (.not _), w4, truO, truM]
    have or1 := dB_or (isnt_e (sh_q8 ((sz_k (k := k) (by omega)).up (by omega))) (dE_var (i := 9) (env := e11 a b k n (some (oD (some c))) (some (.str z)) (some (oD (some c))) (some (qD W)) (some (qD (kR k))) none) rfl) (k_tup (w3 _ _ _ _ _ _ μ))) fun _ => isnt_e (sh_q8 (ha.up (by omega))) (dE_call (n := "_law_told") (ps := ["a", "b", "k", "is_named"]) (dEs_cons (dE_var (i := 7) rfl) (dEs_cons (w2 _ _ _ _ _ _ _) (dEs_cons (w3 _ _ _ _ _ _ _) (dEs_cons nn dEs_nil)))) tb) (w1 _ _ _ _ _ _ _)
    rw [ss_ifR (x := .non) or1 (fun q => by cases q)]
    show (if (false || false) = true then _ else _) = _
    rw [if_neg (by decide)]
    have pe : denE (.call "_law_pick" ["bag", "some"] g_u_law_pick (.cons (.var 0) (.cons (.lst false (.cons (.tup (.cons (.cst (.int 2)) (.cons (.cst (.int 1)) (.nil)))) (.cons (.tup (.cons (.cst (.int 1)) (.cons (.cst (.int 3)) (.nil)))) (.cons (.tup (.cons (.cst (.int 5)) (.cons (.cst (.int 2)) (.nil)))) (.cons (.tup (.cons (.cst (.int 1)) (.cons (.cst (.int 1)) (.nil)))) (.nil)))))) (.nil)))) (e11 a b k n (some (oD (some c))) (some (.str z)) (some (oD (some c))) (some (qD W)) (some (qD (kR k))) none) μ = .ok (qD f) μ2 := by
      refine dE_call (dEs_cons (dE_var rfl) (dEs_cons (x := .lst [qD ((2 : Int) : Rat), qD f13, qD f52, qD ((1 : Int) : Rat)]) (μ1 := μ) ?_ dEs_nil)) e2
      simp only [denE.eq_def (.lst _ _), denEs, denE.eq_def (.tup _), dE_cst, bind_ok]
      rfl
    rw [ss_asg pe]
    simp only [List.set_cons_succ, List.set_cons_zero]
    generalize he : ([some (.ref 1), some (qD a), some (qD b), some (.int (k : Int)), some (.bl n), some (oD (some c)), some (.str z), some (oD (some c)), some (qD W), some (qD (kR k)), some (qD f)] : EnvD) = env
    have y1 : denE (.var 1) env μ2 = .ok (qD a) μ2 := dE_var (by rw [← he]; rfl)
    have y2 : denE (.var 2) env μ2 = .ok (qD b) μ2 := dE_var (by rw [← he]; rfl)
    have y3 : denE (.var 3) env μ2 = .ok (.int (k : Int)) μ2 := dE_var (by rw [← he]; rfl)
    have y4 : denE (.var 4) env μ2 = .ok (.bl n) μ2 := dE_var (by rw [← he]; rfl)
    have y7 : denE (.var 7) env μ2 = .ok (qD c) μ2 := dE_var (by rw [← he]; rfl)
    have y10 : denE (.var 10) env μ2 = .ok (qD f) μ2 := dE_var (by rw [← he]; rfl)
    have fin2 : denE (.cmp .Eq kE (.var 6)) env μ2 = .ok (.bl true) μ2 := by rw [← he]; exact fin _ _ _ _ _ _
    have big := dB_and (dB_cmp (op := .Lt) (max_e (nm y1) (nm y2)) (pow_e (i := 10) (j := 8) (k := 100000000) (by simp [binD, powD])) (t := decide ((if b.num > a.num then b.num else a.num) < 100000000)) rfl) fun _ => dB_cmp (op := .Lt) (max_e (dn y1) (dn y2)) (pow_e (i := 10) (j := 5) (k := 100000) (by simp [binD, powD])) (t := decide ((if ((b.den : Nat) : Int) > ((a.den : Nat) : Int) then ((b.den : Nat) : Int) else ((a.den : Nat) : Int)) < 100000)) rfl
    have fa := sz_mul2 fs ha
    have fb := sz_mul2 fs hb
    have fc := sz_mul2 fs hc
    have tf := told_ok (μ := μ2) (n := n) (by omega) (by omega) fa fb (show k ≤ 4 by omega)
    rw [scale_ok f0, hN] at tf
    have i1 := dE_call (n := "_law_times") (ps := ["x", "y"]) (dEs_cons y10 (dEs_cons y1 dEs_nil)) (LT_ok (fs.up (by omega)) (ha.up (by omega)))
    have i2 := dE_call (n := "_law_times") (ps := ["x", "y"]) (dEs_cons y10 (dEs_cons y2 dEs_nil)) (LT_ok (fs.up (by omega)) (hb.up (by omega)))
    have i3 := dE_call (n := "_law_times") (ps := ["x", "y"]) (dEs_cons y10 (dEs_cons y7 dEs_nil)) (LT_ok (fs.up (by omega)) (hc.up (by omega)))
    have inner := isnt_e (sh_q8 (fc.up (by omega))) (dE_call (n := "_law_told") (ps := ["a", "b", "k", "is_named"]) (dEs_cons i1 (dEs_cons i2 (dEs_cons y3 (dEs_cons y4 dEs_nil)))) tf) i3
    rw [ss_if big]
    generalize (_ && _ : Bool) = t
    cases t with
    | false => rw [if_neg Bool.false_ne_true, ss_end, seq_nx, ss_ret fin2]
    | true => rw [if_pos rfl, ss_ifR (x := .non) inner (fun q => by cases q), if_neg Bool.false_ne_true, ss_end, seq_nx, ss_ret fin2]
end K56

set_option maxRecDepth 100000
set_option maxHeartbeats 4000000
namespace K56
open PySem PV
theorem ss_par3 {i j l : Nat} {a b c : E} {x y z : D} {env : EnvD} {μ μ1 μ2 μ3 : Mem} {ss : Ss} (ha : denE a env μ = .ok x μ1) (hb : denE b env μ1 = .ok y μ2) (hc : denE c env μ2 = .ok z μ3) : denSs (.cons (.par3 i j l a b c) ss) env μ = denSs ss (((env.set i (some x)).set j (some y)).set l (some z)) μ3 := by
  simp only [denSs, denS, ha, hb, hc, bind_ok, toS_ok, seqD]
abbrev e8 (S : D) (n : Bool) (o3 o4 o5 o6 : Option D) : EnvD := [some S, some (.ref 1), some (.bl n), o3, o4, o5, o6, none]
abbrev sA : S := (.ife (.cmp .Eq (.var 3) (.cst (.int 0)))
   (.cons (.asg (.nm 5) (.call "_law_frac" ["a", "b"] g_u_law_frac (.cons (.bin false .Mult (.bin false .Sub (.cst (.int 4)) (.var 6)) (.idx (.var 4) (.cst (.int 0)))) (.cons (.bin false .Mult (.var 6) (.idx (.var 4) (.cst (.int 1)))) (.nil)))))
   (.nil)) (.nil))
abbrev sB : S := (.ife (.cmp .Eq (.var 3) (.cst (.int 1)))
   (.cons (.asg (.nm 5) (.ife (.cmp .Gt (.bin false .Mult (.bin false .Sub (.cst (.int 4)) (.var 6)) (.idx (.var 4) (.cst (.int 0)))) (.cst (.int 1))) (.call "_law_frac" ["a", "b"] g_u_law_frac (.cons (.bin false .Sub (.bin false .Mult (.bin false .Sub (.cst (.int 4)) (.var 6)) (.idx (.var 4) (.cst (.int 0)))) (.cst (.int 1))) (.cons (.bin false .Mult (.var 6) (.idx (.var 4) (.cst (.int 1)))) (.nil)))) (.var 4)))
   (.nil)) (.nil))
abbrev sC : S := (.ife (.and (.cmp .Lt (.var 3) (.cst (.int 2))) (.or (.cmp .Gt (.idx (.var 5) (.cst (.int 0))) (.bin false .Pow (.cst (.int 10)) (.cst (.int 9)))) (.cmp .Gt (.idx (.var 5) (.cst (.int 1))) (.bin false .Pow (.cst (.int 10)) (.cst (.int 6))))))
   (.cons (.asg (.tup (.cons (.nm 4) (.cons (.nm 5) (.nil)))) (.tup (.cons (.tup (.cons (.cst (.int 2)) (.cons (.cst (.int 1)) (.nil)))) (.cons (.tup (.cons (.cst (.int 2)) (.cons (.cst (.int 1)) (.nil)))) (.nil)))))
   (.nil)) (.nil))
section
variable {S : D} {n : Bool} {i : Int} {a b : Rat} {k : Nat} {μ : Mem}
theorem num_p {q : Rat} (h : 0 < q) : 0 < q.num := num_pos.mpr h
theorem den_p {q : Rat} : (0 : Int) < (q.den : Int) := by have := q.den_pos; omega
theorem up34 {q : Rat} (h : Wt34 q) : Wt q := ⟨h.1, h.2.up (by omega)⟩
section
variable (ha : Wt34 a) (h1 : 1 ≤ k) (h3 : k ≤ 3)
include ha h1 h3
theorem top_e {env : EnvD} (v4 : denE (.var 4) env μ = .ok (qD a) μ) (v6 : denE (.var 6) env μ = .ok (.int (k : Int)) μ) : denE (.bin false .Mult (.bin false .Sub (.cst (.int 4)) (.var 6)) (.idx (.var 4) (.cst (.int 0)))) env μ = .ok (.int ((4 - (k : Int)) * a.num)) μ ∧ 0 < (4 - (k : Int)) * a.num ∧ Fits 36 ((4 - (k : Int)) * a.num) := by
  have f : Fits 2 (4 - (k : Int)) := by show (4 - (k : Int)).natAbs < 2 ^ 2; omega
  exact ⟨dE_bin (mu := false) (dE_bin (mu := false) dE_cst v6 PV.sub_int) (nm v4) (mul_int (small_mul f ha.2.n (by omega) (by omega) (by omega))), Int.mul_pos (by omega) (num_p ha.1), f.mul ha.2.n⟩
theorem bot_e {env : EnvD} (v4 : denE (.var 4) env μ = .ok (qD a) μ) (v6 : denE (.var 6) env μ = .ok (.int (k : Int)) μ) : denE (.bin false .Mult (.var 6) (.idx (.var 4) (.cst (.int 1)))) env μ = .ok (.int ((k : Int) * (a.den : Int))) μ ∧ 0 < (k : Int) * (a.den : Int) ∧ Fits 36 ((k : Int) * (a.den : Int)) := by
  have f : Fits 2 (k : Int) := by show ((k : Int)).natAbs < 2 ^ 2; omega
  exact ⟨dE_bin (mu := false) v6 (dn v4) (mul_int (small_mul f ha.2.d (by omega) (by omega) (by omega))), Int.mul_pos (by omega) den_p, f.mul ha.2.d⟩
theorem sA_ok (hb : Wt b) : ∃ b', denS sA (e8 S n (some (.int i)) (some (qD a)) (some (qD b)) (some (.int (k : Int)))) μ = .ok (.nx (e8 S n (some (.int i)) (some (qD a)) (some (qD b')) (some (.int (k : Int))))) μ ∧ Wt b' := by
  have v3 : denE (.var 3) (e8 S n (some (.int i)) (some (qD a)) (some (qD b)) (some (.int (k : Int)))) μ = .ok (.int i) μ := dE_var rfl
  have t := dB_cmp v3 (dE_cst (x := .int 0)) (eq0 (i := i))
  obtain ⟨x, x0, xf⟩ := top_e (μ := μ) ha h1 h3 (env := e8 S n (some (.int i)) (some (qD a)) (some (qD b)) (some (.int (k : Int)))) (dE_var rfl) (dE_var rfl)
  obtain ⟨y, y0, yf⟩ := bot_e (μ := μ) ha h1 h3 (env := e8 S n (some (.int i)) (some (qD a)) (some (qD b)) (some (.int (k : Int)))) (dE_var rfl) (dE_var rfl)
  have e := dE_call (n := "_law_frac") (ps := ["a", "b"]) (dEs_cons x (dEs_cons y dEs_nil)) (lfr y0 (xf.up (by omega)) (yf.up (by omega)))
  by_cases c : i = 0
  · refine ⟨_, ?_, wt_div x0 y0 (xf.up (by omega)) (yf.up (by omega))⟩
    simp only [denS.eq_def (.ife _ _ _), t, decide_eq_true c]
    show denSs _ _ _ = _
    rw [ss_asg e, ss_end]
    rfl
  · refine ⟨b, ?_, hb⟩
    simp only [denS.eq_def (.ife _ _ _), t, decide_eq_false c]
    exact ss_end
theorem sB_ok (hb : Wt b) : ∃ b', denS sB (e8 S n (some (.int i)) (some (qD a)) (some (qD b)) (some (.int (k : Int)))) μ = .ok (.nx (e8 S n (some (.int i)) (some (qD a)) (some (qD b')) (some (.int (k : Int))))) μ ∧ Wt b' := by
  have v3 : denE (.var 3) (e8 S n (some (.int i)) (some (qD a)) (some (qD b)) (some (.int (k : Int)))) μ = .ok (.int i) μ := dE_var rfl
  have t := dB_cmp (op := .Eq) v3 (dE_cst (x := .int 1)) (t := i == 1) rfl
  obtain ⟨x, x0, xf⟩ := top_e (μ := μ) ha h1 h3 (env := e8 S n (some (.int i)) (some (qD a)) (some (qD b)) (some (.int (k : Int)))) (dE_var rfl) (dE_var rfl)
  obtain ⟨y, y0, yf⟩ := bot_e (μ := μ) ha h1 h3 (env := e8 S n (some (.int i)) (some (qD a)) (some (qD b)) (some (.int (k : Int)))) (dE_var rfl) (dE_var rfl)
  generalize hX : (4 - (k : Int)) * a.num = X at *
  cases c : i == 1 with
  | false =>
    rw [c] at t
    refine ⟨b, ?_, hb⟩
    simp only [denS.eq_def (.ife _ _ _), t]
    exact ss_end
  | true =>
    rw [c] at t
    have g := dB_cmp (op := .Gt) x (dE_cst (x := .int 1)) (t := decide (X > 1)) rfl
    by_cases big : X > 1
    · have yf' : Fits 37 (X - 1) := by
        have : X.natAbs < 2 ^ 36 := xf
        show (X - 1).natAbs < 2 ^ 37
        omega
      have e := dE_call (n := "_law_frac") (ps := ["a", "b"]) (dEs_cons (dE_bin (mu := false) x (dE_cst (x := .int 1)) PV.sub_int) (dEs_cons y dEs_nil)) (lfr y0 yf' (yf.up (by omega)))
      refine ⟨_, ?_, wt_div (x := X - 1) (by omega) y0 yf' (yf.up (by omega))⟩
      simp only [denS.eq_def (.ife _ _ _), t]
      show denSs _ _ _ = _
      rw [ss_asg ((dE_ife g).trans ((if_pos (decide_eq_true big)).trans e)), ss_end]
      rfl
    · refine ⟨a, ?_, up34 ha⟩
      simp only [denS.eq_def (.ife _ _ _), t]
      show denSs _ _ _ = _
      rw [ss_asg (x := qD a) (μ1 := μ), ss_end]
      · rfl
      · rw [dE_ife g, if_neg (by simp [big])]
        exact dE_var rfl
end
theorem two_wt : Wt ((2 : Int) : Rat) := ⟨int_pos (by omega), sz_int (fit37 (by omega)) (by omega)⟩
theorem sC_ok (ha : Wt a) (hb : Wt b) : ∃ a' b', denS sC (e8 S n (some (.int i)) (some (qD a)) (some (qD b)) (some (.int (k : Int)))) μ = .ok (.nx (e8 S n (some (.int i)) (some (qD a')) (some (qD b')) (some (.int (k : Int))))) μ ∧ Wt a' ∧ Wt b' := by
  have v3 : denE (.var 3) (e8 S n (some (.int i)) (some (qD a)) (some (qD b)) (some (.int (k : Int)))) μ = .ok (.int i) μ := dE_var rfl
  have v5 : denE (.var 5) (e8 S n (some (.int i)) (some (qD a)) (some (qD b)) (some (.int (k : Int)))) μ = .ok (qD b) μ := dE_var rfl
  have t := dB_and (dB_cmp (op := .Lt) v3 (dE_cst (x := .int 2)) (t := decide (i < 2)) rfl) fun _ => dB_or (dB_cmp (op := .Gt) (nm v5) (pow_e (i := 10) (j := 9) (k := 1000000000) (by simp [binD, powD])) (t := decide (b.num > 1000000000)) rfl) fun _ => dB_cmp (op := .Gt) (dn v5) (pow_e (i := 10) (j := 6) (k := 1000000) (by simp [binD, powD])) (t := decide (((b.den : Nat) : Int) > 1000000)) rfl
  generalize (_ && _ : Bool) = c at t
  cases c with
  | false =>
    refine ⟨a, b, ?_, ha, hb⟩
    simp only [denS.eq_def (.ife _ _ _), t]
    exact ss_end
  | true =>
    refine ⟨_, _, ?_, two_wt, two_wt⟩
    simp only [denS.eq_def (.ife _ _ _), t]
    show denSs _ _ _ = _
    simp [denSs, denS, denE, denEs, denTg, asgD, seqD, toS_ok]
    rfl
end
end K56

set_option maxRecDepth 100000
set_option maxHeartbeats 4000000
namespace K56
open PySem PV
abbrev bodyS : Ss := (.cons (.par3 4 5 6 (.call "_law_great_weight" ["bag"] g_u_law_great_weight (.cons (.var 1) (.nil))) (.call "_law_great_weight" ["bag"] g_u_law_great_weight (.cons (.var 1) (.nil))) (.bin false .Add (.cst (.int 1)) (drawE (.var 1) (.cst (.int 3)))))
   (.cons sA (.cons sB (.cons sC
   (.cons (.ife (.not (.call "_law_is_weight_right" ["bag", "a", "b", "k", "is_named"] g_u_law_is_weight_right (.cons (.var 1) (.cons (.var 4) (.cons (.var 5) (.cons (.var 6) (.cons (.var 2) (.nil))))))))
   (.cons (.ret (.cst (.bl false)))
   (.nil)) (.nil))
   (.cons (.asg (.nm 2) (.not (.var 2)))
   (.nil)))))))
theorem body_ok' {S : D} {n : Bool} {i : Int} {o4 o5 o6 : Option D} {rest μ : Mem} (h : BagW rest μ) : ∃ env' μ', denSs bodyS (e8 S n (some (.int i)) o4 o5 o6) μ = .ok (.nx env') μ' ∧ BagW rest μ' ∧ ∃ n o3 o4 o5 o6, env' = e8 S n o3 o4 o5 o6 := by
  obtain ⟨a, μ1, ea, wa, h1⟩ := great_ok h
  obtain ⟨b, μ2, eb, wb, h2⟩ := great_ok h1
  obtain ⟨v, μ3, ev, v0, v3, h3⟩ := draw_e (env := e8 S n (some (.int i)) o4 o5 o6) (a := .var 1) (b := .cst (.int 3)) (dE_var rfl) dE_cst h2 rfl (by omega) (by omega)
  obtain ⟨k, hk, k1, k3⟩ : ∃ k : Nat, 1 + v = (k : Int) ∧ 1 ≤ k ∧ k ≤ 3 := ⟨(1 + v).toNat, by omega, by omega, by omega⟩
  have ek := dE_bin (mu := false) (dE_cst (x := .int 1)) ev PV.add_int
  rw [hk] at ek
  obtain ⟨b1, q1, wb1⟩ := sA_ok (S := S) (n := n) (i := i) (μ := μ3) wa k1 k3 (up34 wb)
  obtain ⟨b2, q2, wb2⟩ := sB_ok (S := S) (n := n) (i := i) (μ := μ3) wa k1 k3 wb1
  obtain ⟨a3, b3, q3, wa3, wb3⟩ := sC_ok (S := S) (n := n) (i := i) (k := k) (μ := μ3) (up34 wa) wb2
  obtain ⟨μ4, q4, h4⟩ := right_ok (n := n) wa3 wb3 k1 k3 h3
  refine ⟨e8 S (!n) (some (.int i)) (some (qD a3)) (some (qD b3)) (some (.int (k : Int))), μ4, ?_, h4, _, _, _, _, _, rfl⟩
  rw [ss_par3 (dE_call (dEs_cons (dE_var rfl) dEs_nil) ea) (dE_call (dEs_cons (dE_var rfl) dEs_nil) eb) ek]
  simp only [List.set_cons_succ, List.set_cons_zero]
  refine ss_nx q1 (ss_nx q2 (ss_nx q3 ?_))
  have r := dE_call (n := "_law_is_weight_right") (ps := ["bag", "a", "b", "k", "is_named"]) (dEs_cons (dE_var (i := 1) (env := e8 S n (some (.int i)) (some (qD a3)) (some (qD b3)) (some (.int (k : Int)))) rfl) (dEs_cons (dE_var (i := 4) rfl) (dEs_cons (dE_var (i := 5) rfl) (dEs_cons (dE_var (i := 6) rfl) (dEs_cons (dE_var (i := 2) rfl) dEs_nil))))) q4
  have t : denB (.not (.call "_law_is_weight_right" ["bag", "a", "b", "k", "is_named"] g_u_law_is_weight_right (.cons (.var 1) (.cons (.var 4) (.cons (.var 5) (.cons (.var 6) (.cons (.var 2) (.nil)))))))) (e8 S n (some (.int i)) (some (qD a3)) (some (qD b3)) (some (.int (k : Int)))) μ3 = .ok false μ4 := by
    simp only [denB, denE.eq_def (.not _), r, bind_ok, truO, truM]
    rfl
  rw [ss_ifR (x := .non) t (fun q => by cases q), if_neg Bool.false_ne_true, ss_asg (x := .bl (!n)) (μ1 := μ4), ss_end]
  · rfl
  · have v : denE (.var 2) (e8 S n (some (.int i)) (some (qD a3)) (some (qD b3)) (some (.int (k : Int)))) μ4 = .ok (.bl n) μ4 := dE_var rfl
    simp [denE.eq_def (.not _), v, truO, truM]
theorem nwl {x y j : Int} {k : Nat} {q : Option Rat} {env : EnvD} {μ : Mem} (hx : x.natAbs < 8) (hy : y.natAbs < 8) (hj : j = (k : Int)) (hk : k ≤ 4) (h : nextR (x : Rat) (y : Rat) ((k : Int) : Rat) = q) : denE (.call "next_weight" ["a", "b", "k"] g_next_weight (.cons (.tup (.cons (.cst (.int x)) (.cons (.cst (.int 1)) (.nil)))) (.cons (.tup (.cons (.cst (.int y)) (.cons (.cst (.int 1)) (.nil)))) (.cons (.cst (.int j)) (.nil))))) env μ = .ok (oD q) μ := by
  subst hj
  rw [← h]
  exact dE_call (dEs_cons c_tup (dEs_cons c_tup (dEs_cons dE_cst dEs_nil))) (nw_ok (s := 3) (t := 3) (by omega) (by omega) (sz_int (by show x.natAbs < 2 ^ 3; omega) (by omega)) (sz_int (by show y.natAbs < 2 ^ 3; omega) (by omega)) hk)
theorem n1 : nextR ((1 : Int) : Rat) ((1 : Int) : Rat) (((1 : Nat) : Int) : Rat) = some 1 := by decide +kernel
theorem n2 : nextR ((1 : Int) : Rat) ((1 : Int) : Rat) (((2 : Nat) : Int) : Rat) = none := by decide +kernel
theorem n3 : nextR ((3 : Int) : Rat) ((1 : Int) : Rat) (((2 : Nat) : Int) : Rat) = some 2 := by decide +kernel
theorem n4 : nextR ((1 : Int) : Rat) ((4 : Int) : Rat) (((1 : Nat) : Int) : Rat) = none := by decide +kernel
theorem n5 : wallR ((1 : Int) : Rat) 3 = 3 := by decide +kernel
end K56

set_option maxRecDepth 100000
set_option maxHeartbeats 4000000
namespace K56
open PySem PV
abbrev ds5 : List D := [.tup [.int 1, .int 1], .non, .tup [.int 2, .int 1], .tup [.int 3, .int 1], .non]
def P5 : PyData := .list [.tuple [.int 1, .int 1], .none, .tuple [.int 2, .int 1], .tuple [.int 3, .int 1], .none]
theorem last_is {cs : List Int} {b m : Int} : g_u_law_is [.ref 2, .lst ds5] (Bag cs b m [.lst ds5]) = .ok (.bl true) (Bag cs b m [.lst ds5]) := by
  have e1 : toPD (Bag cs b m [.lst ds5]) (.ref 2) = some P5 := by simp [toPD, toPDw, pdF, toPDwL, P5]
  have e2 : toPD (Bag cs b m [.lst ds5]) (.lst ds5) = some P5 := by simp [toPD, toPDw, toPDwL, P5]
  have pe : PyData.eqv P5 P5 = true := by decide +kernel
  have e : eqM (.ref 2) (.lst ds5) (Bag cs b m [.lst ds5]) = some true := by
    simp only [eqM, e1, e2, pe]
  have f : ∀ x : Int, x.natAbs < 8 → ShB 2000 2 2 (.tup [.int x, .int 1]) := fun x hx => by
    have q := sh_q (k := 1) (q := (x : Rat)) (sz_int (k := 3) (by show x.natAbs < 2 ^ 3; omega) (by omega) |>.up (by omega))
    rwa [q_int] at q
  have sh : ShB 2000 3 20 (.lst ds5) := (sh_lst (k := 2) (shl_cons (f 1 (by decide)) (shl_cons (sh_non (n := 0)) (shl_cons (f 2 (by decide)) (shl_cons (f 3 (by decide)) (shl_cons (sh_non (n := 0)) (shl_nil (n := 0)))))))).up (by omega) (by omega)
  obtain ⟨z, hz⟩ := shows sh (by omega) (by omega) (by decide)
  have r2 := hz (Bag cs b m [.lst ds5])
  have r1 : reprM (.ref 2) (Bag cs b m [.lst ds5]) = some z := by
    rw [← r2]
    unfold reprM
    rw [e1, e2]
  generalize Bag cs b m [.lst ds5] = M at *
  refine run_ret rfl (ss_ret ?_)
  have v0 : denE (.var 0) [some (.ref 2), some (.lst ds5)] M = .ok (.ref 2) M := dE_var rfl
  have v1 : denE (.var 1) [some (.ref 2), some (.lst ds5)] M = .ok (.lst ds5) M := dE_var rfl
  have zz : cmpM .Eq (.str z) (.str z) M = some true := by simp [cmpM, eqM]
  have b0 : denE (.blt .repr false (.cons (.var 0) .nil)) [some (.ref 2), some (.lst ds5)] M = .ok (.str z) M := dE_blt1 v0 (by
    show (match reprM (.ref 2) M with | some z => Out.ok (D.str z) M | none => Out.bad) = _
    rw [r1])
  have b1 : denE (.blt .repr false (.cons (.var 1) .nil)) [some (.ref 2), some (.lst ds5)] M = .ok (.str z) M := dE_blt1 v1 (by
    show (match reprM (.lst ds5) M with | some z => Out.ok (D.str z) M | none => Out.bad) = _
    rw [r2])
  show denE (.and _ _) [some (.ref 2), some (.lst ds5)] M = _
  simp only [denE.eq_def (.and _ _), dE_cmp (op := .Eq) v0 v1 e, bind_ok, truM]
  exact dE_cmp b0 b1 zz
theorem law_holds (ns : List Int) (hl : ns.length ≤ 63) : ∃ μ1, g_law [.scr (ns.map D.int)] [] = .ok (.bl true) μ1 := by
  generalize hS : D.scr (ns.map D.int) = S
  obtain ⟨μ1, e1, h1⟩ := bagW_ok (c := 21639056) hl ⟨by omega, by omega⟩
  rw [hS] at e1
  have e1 : g_u_law_own_bag [S] [] = .ok (.ref 1) μ1 := e1
  have s1 := dE_call (n := "_law_own_bag") (ps := ["script"]) (dEs_cons (dE_var (i := 0) (env := [some S, none, none, none, none, none, none, none]) (μ := []) rfl) dEs_nil) e1
  obtain ⟨v, μ2, e2, v0, v2, h2⟩ := draw_e (env := [some S, some (.ref 1), none, none, none, none, none, none]) (a := .var 1) (b := .cst (.int 2)) (dE_var rfl) dE_cst h1 rfl (by omega) (by omega)
  have s2 : denE (.cmp .Eq (drawE (.var 1) (.cst (.int 2))) (.cst (.int 0))) [some S, some (.ref 1), none, none, none, none, none, none] μ1 = .ok (.bl (decide (v = 0))) μ2 := by
    have q : cmpM .Eq (.int v) (.int 0) μ2 = some (decide (v = 0)) := eq0
    simp only [denE.eq_def (.cmp _ _ _), e2, dE_cst, bind_ok]
    show ofOpt _ _ = _
    rw [q]
    rfl
  have it : denIt (.rng1 (.cst (.int 6))) (e8 S (decide (v = 0)) none none none none) μ2 = .ok ((List.range 6).map (fun (k : Nat) => D.int (0 + k * 1)), []) μ2 := it_rng1 (n := 6) dE_cst (by omega)
  have loop := forL_inv (g := []) (e := fun (k : Nat) => D.int (0 + k * 1)) (xs := List.range 6) (f := fun x env μ => stepD (denTg (.nm 3) x env μ) (denSs bodyS))
    (P := fun _ env μ => BagW [] μ ∧ ∃ n o3 o4 o5 o6, env = e8 S n o3 o4 o5 o6) (env := e8 S (decide (v = 0)) none none none none) (μ := μ2) (fun _ _ _ _ => rfl) ⟨h2, _, _, _, _, _, rfl⟩ (fun a as env μ ⟨hb, n, o3, o4, o5, o6, he⟩ => by
      subst he
      obtain ⟨env', μ', q, hb', hE⟩ := body_ok' (S := S) (n := n) (i := 0 + (a : Nat) * 1) (o4 := o4) (o5 := o5) (o6 := o6) hb
      refine ⟨env', μ', ?_, hb', hE⟩
      simp only [denTg, stepD, e8, List.set_cons_succ, List.set_cons_zero]
      exact q)
  obtain ⟨env3, μ3, e3, ⟨cs, b, m, rfl, _, _⟩, n, o3, o4, o5, o6, rfl⟩ := loop
  have t1 : denE (.lst true (.cons (.call "next_weight" ["a", "b", "k"] g_next_weight (.cons (.tup (.cons (.cst (.int 1)) (.cons (.cst (.int 1)) (.nil)))) (.cons (.tup (.cons (.cst (.int 1)) (.cons (.cst (.int 1)) (.nil)))) (.cons (.cst (.int 1)) (.nil))))) (.cons (.call "next_weight" ["a", "b", "k"] g_next_weight (.cons (.tup (.cons (.cst (.int 1)) (.cons (.cst (.int 1)) (.nil)))) (.cons (.tup (.cons (.cst (.int 1)) (.cons (.cst (.int 1)) (.nil)))) (.cons (.cst (.int 2)) (.nil))))) (.cons (.call "next_weight" ["a", "b", "k"] g_next_weight (.cons (.tup (.cons (.cst (.int 3)) (.cons (.cst (.int 1)) (.nil)))) (.cons (.tup (.cons (.cst (.int 1)) (.cons (.cst (.int 1)) (.nil)))) (.cons (.cst (.int 2)) (.nil))))) (.nil))))) (e8 S n o3 o4 o5 o6) (Bag cs b m []) = .ok (.ref 2) (Bag cs b m [.lst [.tup [.int 1, .int 1], .non, .tup [.int 2, .int 1]]]) := by
    simp only [denE.eq_def (.lst _ _), dEs_cons (nwl (x := 1) (y := 1) (k := 1) (by decide) (by decide) rfl (by omega) n1) (dEs_cons (nwl (x := 1) (y := 1) (k := 2) (by decide) (by decide) rfl (by omega) n2) (dEs_cons (nwl (x := 3) (y := 1) (k := 2) (by decide) (by decide) rfl (by omega) n3) dEs_nil)), bind_ok]
    rfl
  have wl := wn_ok (b := ((1 : Int) : Rat)) (k := 3) (t := 3) (μ := Bag cs b m [.lst [.tup [.int 1, .int 1], .non, .tup [.int 2, .int 1]]]) (by omega) (by omega) (by omega) (sz_int (by show (1 : Int).natAbs < 2 ^ 3; decide) (by omega))
  rw [n5] at wl
  let env7 : EnvD := [some S, some (.ref 1), some (.bl n), o3, o4, o5, o6, some (.ref 2)]
  have t2 : denE (.lst false (.cons (.call "wall_next" ["b", "k"] g_wall_next (.cons (.tup (.cons (.cst (.int 1)) (.cons (.cst (.int 1)) (.nil)))) (.cons (.cst (.int 3)) (.nil)))) (.cons (.call "next_weight" ["a", "b", "k"] g_next_weight (.cons (.tup (.cons (.cst (.int 1)) (.cons (.cst (.int 1)) (.nil)))) (.cons (.tup (.cons (.cst (.int 4)) (.cons (.cst (.int 1)) (.nil)))) (.cons (.cst (.int 1)) (.nil))))) (.nil)))) env7 (Bag cs b m [.lst [.tup [.int 1, .int 1], .non, .tup [.int 2, .int 1]]]) = .ok (.lst [.tup [.int 3, .int 1], .non]) (Bag cs b m [.lst [.tup [.int 1, .int 1], .non, .tup [.int 2, .int 1]]]) := by
    simp only [denE.eq_def (.lst _ _), dEs_cons (dE_call (n := "wall_next") (ps := ["b", "k"]) (dEs_cons c_tup (dEs_cons dE_cst dEs_nil)) wl) (dEs_cons (nwl (x := 1) (y := 4) (k := 1) (by decide) (by decide) rfl (by omega) n4) dEs_nil), bind_ok]
    rfl
  have v7 : ∀ μ, denE (.var 7) env7 μ = .ok (.ref 2) μ := fun μ => dE_var rfl
  have t3 : denS (.expr (.mth .extend (.var 7) (.cons (.lst false (.cons (.call "wall_next" ["b", "k"] g_wall_next (.cons (.tup (.cons (.cst (.int 1)) (.cons (.cst (.int 1)) (.nil)))) (.cons (.cst (.int 3)) (.nil)))) (.cons (.call "next_weight" ["a", "b", "k"] g_next_weight (.cons (.tup (.cons (.cst (.int 1)) (.cons (.cst (.int 1)) (.nil)))) (.cons (.tup (.cons (.cst (.int 4)) (.cons (.cst (.int 1)) (.nil)))) (.cons (.cst (.int 1)) (.nil))))) (.nil)))) (.nil)))) env7 (Bag cs b m [.lst [.tup [.int 1, .int 1], .non, .tup [.int 2, .int 1]]]) = .ok (.nx env7) (Bag cs b m [.lst ds5]) := by
    have mm : mthD .extend (.ref 2) [.lst [.tup [.int 3, .int 1], .non]] (Bag cs b m [.lst [.tup [.int 1, .int 1], .non, .tup [.int 2, .int 1]]]) = .ok .non (Bag cs b m [.lst ds5]) := by
      have lm : 5 ≤ lim := by decide
      simp [mthD, asList, lm]
    simp only [denS.eq_def (.expr _), denE.eq_def (.mth _ _ _), v7, dEs_cons t2 dEs_nil, bind_ok, mm, toS_ok]
    rfl
  have t4 : denE (.lst false (.cons (.tup (.cons (.cst (.int 1)) (.cons (.cst (.int 1)) (.nil)))) (.cons (.cst .non) (.cons (.tup (.cons (.cst (.int 2)) (.cons (.cst (.int 1)) (.nil)))) (.cons (.tup (.cons (.cst (.int 3)) (.cons (.cst (.int 1)) (.nil)))) (.cons (.cst .non) (.nil))))))) env7 (Bag cs b m [.lst ds5]) = .ok (.lst ds5) (Bag cs b m [.lst ds5]) := by
    simp [denE, denEs, PV.newList]
  obtain ⟨μ7, e7⟩ := finish_ok 0 (.bl true) (Bag cs b m [.lst ds5])
  refine ⟨μ7, (run_retM (d := .bl true) (μ1 := Bag cs b m [.lst ds5]) rfl ?_).trans e7⟩
  show denSs fn_law.body [some S, none, none, none, none, none, none, none] [] = _
  unfold fn_law
  rw [ss_asg s1]
  simp only [List.set_cons_succ, List.set_cons_zero]
  rw [ss_asg s2]
  simp only [List.set_cons_succ, List.set_cons_zero]
  refine ss_nx ((for_eq it).trans e3) ?_
  rw [ss_asg t1]
  simp only [e8, List.set_cons_succ, List.set_cons_zero]
  refine ss_nx t3 ?_
  exact ss_ret (dE_call (dEs_cons (v7 _) (dEs_cons t4 dEs_nil)) last_is)
end K56


open PySem PySem.W PyProof.Rows
set_option maxHeartbeats 0 in
theorem PySem.Challenge.cw_hitsalike_k56_whole_next_weights_holds : PySem.Challenge.rw_hitsalike_k56_whole_next_weights.Holds := by
  w_on; o_law; k_head; (case hw => w_witness2)
  k_fill
  refine PV.walk_g (l := PySem.Challenge.rw_hitsalike_k56_whole_next_weights) (n := 63) (k := 9) (x := "script") (g := K56.g_law) rfl (by decide) rfl ⟨rfl, by decide, by decide⟩ (fun w h Y => PySem.W.kIn_of Y) ?F K56.law_holds
  case F =>
    intro w mg fa h KX G hmg
    refine' K56.all_mk KX G hmg ?a0 ?l0 ?c0 ?k0 ?a1 ?l1 ?c1 ?k1 ?a2 ?l2 ?c2 ?k2 ?a3 ?l3 ?c3 ?k3 ?a4 ?l4 ?c4 ?k4 ?a5 ?l5 ?c5 ?k5 ?a6 ?l6 ?c6 ?k6 ?a7 ?l7 ?c7 ?k7 ?a8 ?l8 ?c8 ?k8 ?a9 ?l9 ?c9 ?k9 ?a10 ?l10 ?c10 ?k10 ?a11 ?l11 ?c11 ?k11 ?a12 ?l12 ?c12 ?k12 ?a13 ?l13 ?c13 ?k13 ?a14 ?l14 ?c14 ?k14 ?a15 ?l15 ?c15 ?k15 ?a16 ?l16 ?c16 ?k16 ?a17 ?l17 ?c17 ?k17 ?a18 ?l18 ?c18 ?k18 ?a19 ?l19 ?c19 ?k19 ?a20 ?l20 ?c20 ?k20 ?a21 ?l21 ?c21 ?k21 ?a22 ?l22 ?c22 ?k22 ?a23 ?l23 ?c23 ?k23 ?a24 ?l24 ?c24 ?k24 ?a25 ?l25 ?c25 ?k25 ?a26 ?l26 ?c26 ?k26 ?a27 ?l27 ?c27 ?k27 ?a28 ?l28 ?c28 ?k28 ?a29 ?l29 ?c29 ?k29 ?y_abs ?y_len ?y_int ?y_list ?y_reversed ?y_repr ?y_max ?y_range ?gv_BIG
    (case a0 => k_is); (case l0 => k_is); (case c0 => k_is); (case k0 => k_is); (case a1 => k_is); (case l1 => k_is); (case c1 => k_is); (case k1 => k_is); (case a2 => k_is); (case l2 => k_is); (case c2 => k_is); (case k2 => k_is); (case a3 => k_is); (case l3 => k_is); (case c3 => k_is); (case k3 => k_is); (case a4 => k_is); (case l4 => k_is); (case c4 => k_is); (case k4 => k_is); (case a5 => k_is); (case l5 => k_is); (case c5 => k_is); (case k5 => k_is); (case a6 => k_is); (case l6 => k_is); (case c6 => k_is); (case k6 => k_is); (case a7 => k_is); (case l7 => k_is); (case c7 => k_is); (case k7 => k_is); (case a8 => k_is); (case l8 => k_is); (case c8 => k_is); (case k8 => k_is); (case a9 => k_is); (case l9 => k_is); (case c9 => k_is); (case k9 => k_is); (case a10 => k_is); (case l10 => k_is); (case c10 => k_is); (case k10 => k_is); (case a11 => k_is); (case l11 => k_is); (case c11 => k_is); (case k11 => k_is); (case a12 => k_is); (case l12 => k_is); (case c12 => k_is); (case k12 => k_is); (case a13 => k_is); (case l13 => k_is); (case c13 => k_is); (case k13 => k_is); (case a14 => k_is); (case l14 => k_is); (case c14 => k_is); (case k14 => k_is); (case a15 => k_is); (case l15 => k_is); (case c15 => k_is); (case k15 => k_is); (case a16 => k_is); (case l16 => k_is); (case c16 => k_is); (case k16 => k_is); (case a17 => k_is); (case l17 => k_is); (case c17 => k_is); (case k17 => k_is); (case a18 => k_is); (case l18 => k_is); (case c18 => k_is); (case k18 => k_is); (case a19 => k_is); (case l19 => k_is); (case c19 => k_is); (case k19 => k_is); (case a20 => k_is); (case l20 => k_is); (case c20 => k_is); (case k20 => k_is); (case a21 => k_is); (case l21 => k_is); (case c21 => k_is); (case k21 => k_is); (case a22 => k_is); (case l22 => k_is); (case c22 => k_is); (case k22 => k_is); (case a23 => k_is); (case l23 => k_is); (case c23 => k_is); (case k23 => k_is); (case a24 => k_is); (case l24 => k_is); (case c24 => k_is); (case k24 => k_is); (case a25 => k_is); (case l25 => k_is); (case c25 => k_is); (case k25 => k_is); (case a26 => k_is); (case l26 => k_is); (case c26 => k_is); (case k26 => k_is); (case a27 => k_is); (case l27 => k_is); (case c27 => k_is); (case k27 => k_is); (case a28 => k_is); (case l28 => k_is); (case c28 => k_is); (case k28 => k_is); (case a29 => k_is); (case l29 => k_is); (case c29 => k_is); (case k29 => k_is); (case y_abs => k_is); (case y_len => k_is); (case y_int => k_is); (case y_list => k_is); (case y_reversed => k_is); (case y_repr => k_is); (case y_max => k_is); (case y_range => k_is); (case gv_BIG => k_is)
#print axioms PySem.Challenge.cw_hitsalike_k56_whole_next_weights_holds
