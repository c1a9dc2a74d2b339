import PyProof.Rows.All
import Wide.All
import OpenK.AllK
import Wide.FinOn
import HandS.ForMost
import HandS.Deep
import HandS.IsInst
import HandS.Style
import HandS.DictComp
import HandS.Strs
import HandS.Conv
import KE.SortData
import KE.DataMinMax
import KE.DataCmp
import HandS.SetFor
import HandS.Defaults
import HandS.Head0
import HandS.Head1
import HandS.Head2
import HandS.HeadEnd
import HandS.HeadHook1
import HandS.HeadHook2
import Lean
import PySem.Challenge.RW_uncrossed_k95_rings_through_all_points
set_option Elab.async false
set_option linter.all false
set_option maxRecDepth 100000
/-! PD: plain data. Values of the heap read as PyData; slots that own a list or a dict; a small code that is run over such slots; the code's run tells what the text does (PD2, PD3). -/
namespace PD
open PySem L2

abbrev D := PyData

/-! ### 1. data read over a heap part -/
def keyD : Key → D
  | .inl i => .int i
  | .inr s => .str s

mutual
inductive Rp (K : PySem.W.Frag) (B : Hp) : V → D → Prop
  | non : Rp K B .non .none
  | bl (b : Bool) : Rp K B (.bl b) (.bool b)
  | int (i : Int) : Rp K B (.int i) (.int i)
  | str (x : Str) : Rp K B (.str x) (.str x)
  | lst {a : Addr} {xs : List V} {ds : List D} : SqL K B a xs → RpAll K B xs ds → Rp K B (.ref a) (.list ds)
  | tup {a : Addr} {xs : List V} {ds : List D} : B a = some (.tup xs) → RpAll K B xs ds → Rp K B (.ref a) (.tuple ds)
  | dK {a : Addr} {kvs : List (Key × V)} {ds : List (D × D)} : B a = some (.dK kvs) → RpK K B kvs ds → Rp K B (.ref a) (.dict ds)
  | dT {a : Addr} {kvs : List (List Key × V)} {ds : List (D × D)} : B a = some (.dT kvs) → RpT K B kvs ds → Rp K B (.ref a) (.dict ds)
inductive RpAll (K : PySem.W.Frag) (B : Hp) : List V → List D → Prop
  | nil : RpAll K B [] []
  | cons {v : V} {vs : List V} {d : D} {ds : List D} : Rp K B v d → RpAll K B vs ds → RpAll K B (v :: vs) (d :: ds)
inductive RpK (K : PySem.W.Frag) (B : Hp) : List (Key × V) → List (D × D) → Prop
  | nil : RpK K B [] []
  | cons {k : Key} {v : V} {d : D} {r : List (Key × V)} {ds : List (D × D)} : Rp K B v d → RpK K B r ds → RpK K B ((k, v) :: r) ((keyD k, d) :: ds)
inductive RpT (K : PySem.W.Frag) (B : Hp) : List (List Key × V) → List (D × D) → Prop
  | nil : RpT K B [] []
  | cons {k : List Key} {v : V} {d : D} {r : List (List Key × V)} {ds : List (D × D)} : Rp K B v d → RpT K B r ds → RpT K B ((k, v) :: r) ((.tuple (k.map keyD), d) :: ds)
end

/-- what stands in an object that may be written -/
inductive HoR (K : PySem.W.Frag) (B : Hp) : HO → D → Prop
  | lst {xs : List V} {ds : List D} : RpAll K B xs ds → HoR K B (.lst xs) (.list ds)
  | dK {kvs : List (Key × V)} {ds : List (D × D)} : RpK K B kvs ds → HoR K B (.dK kvs) (.dict ds)
  | dT {kvs : List (List Key × V)} {ds : List (D × D)} : RpT K B kvs ds → HoR K B (.dT kvs) (.dict ds)

section
variable {K : PySem.W.Frag} {B B' : Hp}
mutual
theorem Rp.mono (h : Same B B') : ∀ {v : V} {d : D}, Rp K B v d → Rp K B' v d
  | _, _, .non => .non
  | _, _, .bl b => .bl b
  | _, _, .int i => .int i
  | _, _, .str x => .str x
  | _, _, .lst a r => .lst (h.seq a) (RpAll.mono h r)
  | _, _, .tup a r => .tup (h _ _ a) (RpAll.mono h r)
  | _, _, .dK a r => .dK (h _ _ a) (RpK.mono h r)
  | _, _, .dT a r => .dT (h _ _ a) (RpT.mono h r)
theorem RpAll.mono (h : Same B B') : ∀ {v : List V} {d : List D}, RpAll K B v d → RpAll K B' v d
  | _, _, .nil => .nil
  | _, _, .cons a r => .cons (Rp.mono h a) (RpAll.mono h r)
theorem RpK.mono (h : Same B B') : ∀ {v : List (Key × V)} {d : List (D × D)}, RpK K B v d → RpK K B' v d
  | _, _, .nil => .nil
  | _, _, .cons a r => .cons (Rp.mono h a) (RpK.mono h r)
theorem RpT.mono (h : Same B B') : ∀ {v : List (List Key × V)} {d : List (D × D)}, RpT K B v d → RpT K B' v d
  | _, _, .nil => .nil
  | _, _, .cons a r => .cons (Rp.mono h a) (RpT.mono h r)
end
theorem HoR.mono (h : Same B B') {o : HO} {d : D} (r : HoR K B o d) : HoR K B' o d := by
  cases r with
  | lst r => exact .lst (r.mono h)
  | dK r => exact .dK (r.mono h)
  | dT r => exact .dT (r.mono h)

theorem RpAll.length {xs : List V} {ds : List D} (r : RpAll K B xs ds) : xs.length = ds.length := by
  induction ds generalizing xs with
  | nil => cases r; rfl
  | cons d ds ih => cases r with | cons a r => simp [ih r]
theorem RpAll.get {xs : List V} {ds : List D} {i : Nat} {d : D} (r : RpAll K B xs ds) (e : ds[i]? = some d) : ∃ v, xs[i]? = some v ∧ Rp K B v d := by
  induction ds generalizing xs i with
  | nil => simp at e
  | cons d' ds ih =>
    cases r with
    | cons a r =>
      cases i with
      | zero => simp at e; subst e; exact ⟨_, rfl, a⟩
      | succ i =>
        obtain ⟨v, h1, h2⟩ := ih r (by simpa using e)
        exact ⟨v, by simpa using h1, h2⟩
theorem RpAll.append {xs ys : List V} {ds es : List D} (r : RpAll K B xs ds) (s : RpAll K B ys es) : RpAll K B (xs ++ ys) (ds ++ es) := by
  induction ds generalizing xs with
  | nil => cases r; exact s
  | cons d ds ih => cases r with | cons a r => exact .cons a (ih r)
theorem RpAll.reverse {xs : List V} {ds : List D} (r : RpAll K B xs ds) : RpAll K B xs.reverse ds.reverse := by
  induction ds generalizing xs with
  | nil => cases r; exact .nil
  | cons d ds ih =>
    cases r with
    | cons a r => rw [List.reverse_cons, List.reverse_cons]; exact (ih r).append (.cons a .nil)
theorem RpAll.drop {xs : List V} {ds : List D} (r : RpAll K B xs ds) : ∀ n, RpAll K B (xs.drop n) (ds.drop n) := by
  induction ds generalizing xs with
  | nil => cases r; intro n; simp; exact .nil
  | cons d ds ih =>
    cases r with
    | cons a r =>
      intro n
      cases n with
      | zero => exact .cons a r
      | succ n => simpa using ih r n
theorem RpAll.take {xs : List V} {ds : List D} (r : RpAll K B xs ds) : ∀ n, RpAll K B (xs.take n) (ds.take n) := by
  induction ds generalizing xs with
  | nil => cases r; intro n; simp; exact .nil
  | cons d ds ih =>
    cases r with
    | cons a r =>
      intro n
      cases n with
      | zero => exact .nil
      | succ n => exact .cons a (ih r n)
theorem RpAll.set {xs : List V} {ds : List D} {v : V} {d : D} (r : RpAll K B xs ds) (a : Rp K B v d) : ∀ i, RpAll K B (xs.set i v) (ds.set i d) := by
  induction ds generalizing xs with
  | nil => cases r; intro i; exact .nil
  | cons d' ds ih =>
    cases r with
    | cons b r =>
      intro i
      cases i with
      | zero => exact .cons a r
      | succ i => exact .cons b (ih r i)
theorem RpAll.eraseIdx {xs : List V} {ds : List D} (r : RpAll K B xs ds) : ∀ i, RpAll K B (xs.eraseIdx i) (ds.eraseIdx i) := by
  induction ds generalizing xs with
  | nil => cases r; intro i; exact .nil
  | cons d' ds ih =>
    cases r with
    | cons b r =>
      intro i
      cases i with
      | zero => exact r
      | succ i => exact .cons b (ih r i)
end

/-! ### 2. slots -/
inductive SV where
  | val (d : D) | own (d : D) | par (d : D) | lck (d : D)
abbrev Stt : Type := List (Option SV)
def SV.d : SV → D
  | .val d | .own d | .par d | .lck d => d
def SV.ptr : SV → Bool
  | .val _ => false
  | _ => true
def SV.mt : SV → Bool
  | .own _ | .par _ => true
  | _ => false
def SV.fix : SV → Bool
  | .par _ | .lck _ => true
  | _ => false
/-- what a fixed slot may become -/
def SV.kin : SV → SV → Prop
  | .par _, .par _ => True
  | .lck d, .lck e => d = e
  | _, _ => False

def SvR (K : PySem.W.Frag) (H B : Hp) (v : V) : SV → Prop
  | .val d => Rp K B v d
  | .own d | .par d | .lck d => ∃ p o, v = .ref p ∧ B p = none ∧ H p = some o ∧ HoR K B o d

theorem SvR.of_ptr {K : PySem.W.Frag} {H B : Hp} {v : V} {sv : SV} (h : sv.ptr = true) : SvR K H B v sv ↔ ∃ p o, v = .ref p ∧ B p = none ∧ H p = some o ∧ HoR K B o sv.d := by
  cases sv <;> first | exact Iff.rfl | (simp [SV.ptr] at h)

structure StR (K : PySem.W.Frag) (st : Stt) (σ : St) (H B : Hp) : Prop where
  sub : Same B H
  len : st.length = σ.length
  at_ : ∀ (i : Nat) (sv : SV), st[i]? = some (some sv) → ∃ v, σ[i]? = some (some v) ∧ SvR K H B v sv
  sep : ∀ (i j : Nat) (sv sw : SV) (p : Addr), i ≠ j → st[i]? = some (some sv) → sv.ptr = true → st[j]? = some (some sw) → sw.ptr = true → σ[i]? = some (some (.ref p)) → σ[j]? = some (some (.ref p)) → False

def OwnA (st : Stt) (σ : St) (a : Addr) : Prop := ∃ (i : Nat) (sv : SV), st[i]? = some (some sv) ∧ sv.mt = true ∧ σ[i]? = some (some (V.ref a))
def PtrA (st : Stt) (σ : St) (a : Addr) : Prop := ∃ (i : Nat) (sv : SV), st[i]? = some (some sv) ∧ sv.ptr = true ∧ σ[i]? = some (some (V.ref a))
theorem SV.ptr_of_mt {sv : SV} (h : sv.mt = true) : sv.ptr = true := by cases sv <;> simp_all [SV.mt, SV.ptr]
theorem OwnA.ptr {st : Stt} {σ : St} {a : Addr} (h : OwnA st σ a) : PtrA st σ a := by
  obtain ⟨i, sv, h1, h2, h3⟩ := h
  exact ⟨i, sv, h1, SV.ptr_of_mt h2, h3⟩

structure Ext (K : PySem.W.Frag) (st : Stt) (σ : St) (H B : Hp) (st' : Stt) (σ' : St) (H' B' : Hp) : Prop where
  rel : StR K st' σ' H' B'
  bsub : Same B B'
  frame : ∀ (a : Addr) (o : HO), H a = some o → B a = none → ¬ OwnA st σ a → H' a = some o ∧ B' a = none
  owned : ∀ (a : Addr) (o : HO), H a = some o → PtrA st' σ' a → PtrA st σ a ∧ (OwnA st' σ' a → OwnA st σ a)
  fix : ∀ (i : Nat) (sv : SV), st[i]? = some (some sv) → sv.fix = true → σ'[i]? = σ[i]? ∧ ∃ sv', st'[i]? = some (some sv') ∧ sv.kin sv'
  len : σ'.length = σ.length
  there : ∀ (a : Addr) (o : HO), H a = some o → ∃ o', H' a = some o'

section
variable {K : PySem.W.Frag} {st st' st1 st2 : Stt} {σ σ' σ1 σ2 : St} {H H' H1 H2 B B' B1 B2 : Hp}
theorem SV.kin_refl {sv : SV} (h : sv.fix = true) : sv.kin sv := by cases sv <;> simp_all [SV.fix, SV.kin]
theorem SV.kin_trans {a b c : SV} (h : a.kin b) (h' : b.kin c) : a.kin c := by cases a <;> cases b <;> cases c <;> simp_all [SV.kin]
theorem SV.kin_fix {a b : SV} (h : a.kin b) : b.fix = true := by cases a <;> cases b <;> simp_all [SV.kin, SV.fix]
theorem Ext.refl (r : StR K st σ H B) : Ext K st σ H B st σ H B :=
  ⟨r, Same.refl _, fun _ _ h b _ => ⟨h, b⟩, fun _ _ _ h => ⟨h, id⟩, fun i sv h f => ⟨rfl, sv, h, SV.kin_refl f⟩, rfl, fun _ o h => ⟨o, h⟩⟩
theorem Ext.trans (a : Ext K st σ H B st1 σ1 H1 B1) (b : Ext K st1 σ1 H1 B1 st2 σ2 H2 B2) : Ext K st σ H B st2 σ2 H2 B2 where
  rel := b.rel
  bsub := a.bsub.trans b.bsub
  frame := fun x o h1 h2 h3 => by
    obtain ⟨e1, e2⟩ := a.frame x o h1 h2 h3
    exact b.frame x o e1 e2 fun z => h3 ((a.owned x o h1 z.ptr).2 z)
  owned := fun x o h z => by
    by_cases hb : B x = none
    · by_cases ho : OwnA st σ x
      · exact ⟨ho.ptr, fun _ => ho⟩
      · obtain ⟨e1, _⟩ := a.frame x o h hb ho
        obtain ⟨p, q⟩ := b.owned x o e1 z
        obtain ⟨p', q'⟩ := a.owned x o h p
        exact ⟨p', fun y => q' (q y)⟩
    · obtain ⟨ob, hb'⟩ := Option.ne_none_iff_exists'.mp hb
      have e1 := a.bsub _ _ hb'
      obtain ⟨i, sv, h1, h2, h3⟩ := z
      obtain ⟨v, hv, r⟩ := b.rel.at_ i sv h1
      rw [SvR.of_ptr h2] at r
      obtain ⟨p, o', rfl, hp, _⟩ := r
      rw [hv] at h3
      cases h3
      rw [b.bsub _ _ e1] at hp
      cases hp
  fix := fun i sv h f => by
    obtain ⟨e1, sv1, h1, k1⟩ := a.fix i sv h f
    obtain ⟨e2, sv2, h2, k2⟩ := b.fix i sv1 h1 (SV.kin_fix k1)
    exact ⟨e2.trans e1, sv2, h2, SV.kin_trans k1 k2⟩
  len := b.len.trans a.len
  there := fun x o h => by
    obtain ⟨o1, h1⟩ := a.there x o h
    exact b.there x o1 h1
end

/-! ### 3. allocation alone -/
structure Grow (H B H' B' : Hp) : Prop where
  bsub : Same B B'
  sub : Same B' H'
  keep : ∀ a o, H a = some o → H' a = some o ∧ (B a = none → B' a = none)
theorem Grow.refl {H B : Hp} (h : Same B H) : Grow H B H B := ⟨Same.refl _, h, fun _ _ e => ⟨e, id⟩⟩
theorem Grow.same {H B H' B' : Hp} (g : Grow H B H' B') : Same H H' := fun a o e => (g.keep a o e).1
/-- a new object, at once part of what stands still -/
theorem Grow.new {H B : Hp} {p : Addr} {o : HO} (h : Same B H) (hp : H p = none) : Grow H B (upd H p o) (upd B p o) := by
  have bp : B p = none := by
    cases e : B p with
    | none => rfl
    | some u => rw [h _ _ e] at hp; cases hp
  refine ⟨fun a u e => ?_, fun a u e => ?_, fun a u e => ⟨?_, fun z => ?_⟩⟩
  · rw [upd_ne (ne_of_none e bp)]; exact e
  · by_cases ha : a = p
    · subst ha; rw [upd_same] at e ⊢; exact e
    · rw [upd_ne ha] at e ⊢; exact h _ _ e
  · rw [upd_ne (ne_of_none e hp)]; exact e
  · rw [upd_ne (ne_of_none e hp)]; exact z
/-- a new object that may still be written -/
theorem Grow.new' {H B : Hp} {p : Addr} {o : HO} (h : Same B H) (hp : H p = none) : Grow H B (upd H p o) B :=
  ⟨Same.refl _, fun a u e => by rw [upd_ne (ne_of_none (h _ _ e) hp)]; exact h _ _ e, fun a u e => ⟨by rw [upd_ne (ne_of_none e hp)]; exact e, id⟩⟩
theorem Same.none_of {B H : Hp} (h : Same B H) {p : Addr} (hp : H p = none) : B p = none := h.free hp

section
variable {K : PySem.W.Frag} {st : Stt} {σ : St} {H H' B B' : Hp}
theorem StR.ptr_tracked (r : StR K st σ H B) {a : Addr} (h : PtrA st σ a) : B a = none ∧ ∃ o, H a = some o := by
  obtain ⟨i, sv, h1, h2, h3⟩ := h
  obtain ⟨v, hv, q⟩ := r.at_ i sv h1
  rw [SvR.of_ptr h2] at q
  obtain ⟨p, o, rfl, b, e, _⟩ := q
  rw [hv] at h3; cases h3
  exact ⟨b, o, e⟩
theorem SvR.mono {v : V} {sv : SV} (hb : Same B B') (k : sv.ptr = true → ∀ p o, B p = none → H p = some o → v = .ref p → H' p = some o ∧ B' p = none) (q : SvR K H B v sv) : SvR K H' B' v sv := by
  cases sv with
  | val d => exact Rp.mono hb q
  | own d => obtain ⟨p, o, e, b, h, r⟩ := q; obtain ⟨h', b'⟩ := k rfl p o b h e; exact ⟨p, o, e, b', h', r.mono hb⟩
  | par d => obtain ⟨p, o, e, b, h, r⟩ := q; obtain ⟨h', b'⟩ := k rfl p o b h e; exact ⟨p, o, e, b', h', r.mono hb⟩
  | lck d => obtain ⟨p, o, e, b, h, r⟩ := q; obtain ⟨h', b'⟩ := k rfl p o b h e; exact ⟨p, o, e, b', h', r.mono hb⟩
theorem StR.grow (r : StR K st σ H B) (g : Grow H B H' B') : StR K st σ H' B' :=
  ⟨g.sub, r.len, fun i sv h => by
    obtain ⟨v, hv, q⟩ := r.at_ i sv h
    exact ⟨v, hv, q.mono g.bsub fun _ p o b e _ => ⟨(g.keep p o e).1, (g.keep p o e).2 b⟩⟩, r.sep⟩
theorem Grow.ext (r : StR K st σ H B) (g : Grow H B H' B') : Ext K st σ H B st σ H' B' :=
  ⟨r.grow g, g.bsub, fun a o e b _ => ⟨(g.keep a o e).1, (g.keep a o e).2 b⟩, fun _ _ _ h => ⟨h, id⟩, fun i sv h f => ⟨rfl, sv, h, SV.kin_refl f⟩, rfl, fun a o e => ⟨o, g.same a o e⟩⟩
end

/-! ### 4. operands -/
inductive Op where
  | d (x : D) | fr (x : D) | sl (i : Nat)

def cont (st : Stt) (i : Nat) : Option D := (st[i]?).bind fun o => o.map SV.d
def rdO : Op → Stt → Option D
  | .d x, _ => some x
  | .fr x, _ => some x
  | .sl i, st => cont st i
def fzO : Op → Op
  | .fr x => .d x
  | o => o
def fz : Op → Stt → Option (D × Stt)
  | .d x, st => some (x, st)
  | .fr x, st => some (x, st)
  | .sl i, st => match st[i]? with
    | some (some (.own x)) => some (x, st.set i (some (.val x)))
    | _ => none

/-- H0: the heap ahead of the reckoning -/
def OpV (K : PySem.W.Frag) (v : V) (H0 : Hp) (st : Stt) (σ : St) (H B : Hp) : Op → Prop
  | .d x => Rp K B v x
  | .fr x => ∃ p o, v = .ref p ∧ H0 p = none ∧ B p = none ∧ H p = some o ∧ HoR K B o x ∧ ¬ PtrA st σ p
  | .sl i => ∃ p sv, v = .ref p ∧ σ[i]? = some (some (.ref p)) ∧ st[i]? = some (some sv) ∧ sv.ptr = true

/-- what is read at a value, tracked or standing still -/
def Cr (K : PySem.W.Frag) (H B : Hp) (v : V) (d : D) : Prop := Rp K B v d ∨ ∃ p o, v = .ref p ∧ H p = some o ∧ HoR K B o d

/-- behind an operation that makes new objects at most -/
inductive Alloc (K : PySem.W.Frag) (H B : Hp) : Op → V → Hp → Hp → Prop
  | d {x : D} {v : V} {H' B' : Hp} : Grow H B H' B' → Rp K B' v x → Alloc K H B (.d x) v H' B'
  | fr {x : D} {p : Addr} {o : HO} {H' B' : Hp} : Grow H B H' B' → H p = none → B' p = none → H' p = some o → HoR K B' o x → Alloc K H B (.fr x) (.ref p) H' B'

section
variable {K : PySem.W.Frag} {st st0 st1 st2 : Stt} {σ : St} {H H' H0 H1 H2 B B' B0 B1 B2 : Hp} {v : V} {x : D} {op : Op}
theorem HoR.rp {p : Addr} {o : HO} (h : H p = some o) (r : HoR K H o x) : Rp K H (.ref p) x := by
  cases r with
  | lst r => exact .lst (SqL.of h) r
  | dK r => exact .dK h r
  | dT r => exact .dT h r
theorem Cr.rp (hs : Same B H) (c : Cr K H B v x) : Rp K H v x := by
  rcases c with c | ⟨p, o, rfl, h, r⟩
  · exact c.mono hs
  · exact (r.mono hs).rp h
theorem Alloc.grow (a : Alloc K H B op v H' B') : Grow H B H' B' := by
  cases a <;> assumption
theorem Alloc.opv (r : StR K st σ H B) (a : Alloc K H B op v H' B') : OpV K v H st σ H' B' op := by
  cases a with
  | d g q => exact q
  | fr g h1 h2 h3 h4 =>
    refine ⟨_, _, rfl, h1, h2, h3, h4, fun z => ?_⟩
    obtain ⟨_, o, e⟩ := r.ptr_tracked z
    rw [h1] at e; cases e
theorem cont_some {i : Nat} (h : cont st i = some x) : ∃ sv, st[i]? = some (some sv) ∧ sv.d = x := by
  unfold cont at h
  cases e : st[i]? with
  | none => rw [e] at h; cases h
  | some o =>
    cases o with
    | none => rw [e] at h; cases h
    | some sv => rw [e] at h; exact ⟨sv, rfl, Option.some.inj h⟩
/-- an operand read later -/
theorem OpV.read (h : OpV K v H0 st1 σ H1 B1 op) (nf : fzO op = op) (e : Ext K st1 σ H1 B1 st2 σ H2 B2) (r : rdO op st2 = some x) : Cr K H2 B2 v x := by
  cases op with
  | d y =>
    cases r
    exact .inl (Rp.mono e.bsub h)
  | fr y => cases nf
  | sl i =>
    obtain ⟨p, sv, rfl, hp, _⟩ := h
    obtain ⟨sv', hs, rfl⟩ := cont_some r
    obtain ⟨w, hw, q⟩ := e.rel.at_ i sv' hs
    rw [hp] at hw; cases hw
    cases sv' with
    | val d => exact .inl q
    | own d => obtain ⟨p', o, z, _, h', r'⟩ := q; cases z; exact .inr ⟨_, _, rfl, h', r'⟩
    | par d => obtain ⟨p', o, z, _, h', r'⟩ := q; cases z; exact .inr ⟨_, _, rfl, h', r'⟩
    | lck d => obtain ⟨p', o, z, _, h', r'⟩ := q; cases z; exact .inr ⟨_, _, rfl, h', r'⟩

theorem OpV.lift {H00 : Hp} (h : OpV K v H0 st σ H B op) (t : ∀ a o, H00 a = some o → ∃ o', H0 a = some o') : OpV K v H00 st σ H B op := by
  cases op with
  | d y => exact h
  | sl i => exact h
  | fr y =>
    obtain ⟨p, o, e, h0, q⟩ := h
    refine ⟨p, o, e, ?_, q⟩
    cases z : H00 p with
    | none => rfl
    | some u =>
      obtain ⟨o', w⟩ := t p u z
      rw [h0] at w; cases w
/-- a tracked object joins what stands still -/
theorem StR.still {p : Addr} {o : HO} (r : StR K st σ H B) (hp : H p = some o) (hb : B p = none) (np : ¬ PtrA st σ p) : StR K st σ H (upd B p o) := by
  have bs : Same B (upd B p o) := fun a u e => by rw [upd_ne (ne_of_none e hb)]; exact e
  refine ⟨fun a u e => ?_, r.len, fun i sv h => ?_, r.sep⟩
  · by_cases ha : a = p
    · subst ha; rw [upd_same] at e; rw [hp]; exact e
    · rw [upd_ne ha] at e; exact r.sub _ _ e
  · obtain ⟨w, hw, q⟩ := r.at_ i sv h
    refine ⟨w, hw, ?_⟩
    by_cases hs : sv.ptr = true
    · rw [SvR.of_ptr hs] at q ⊢
      obtain ⟨p', o', rfl, b', e', r'⟩ := q
      refine ⟨p', o', rfl, ?_, e', r'.mono bs⟩
      rw [upd_ne fun z => np ⟨i, sv, h, hs, by rw [← z]; exact hw⟩]
      exact b'
    · cases sv with
      | val d => exact Rp.mono bs q
      | own d => exact absurd rfl hs
      | par d => exact absurd rfl hs
      | lck d => exact absurd rfl hs

/-- what was new stands still from now on -/
theorem OpV.fzO (e : Ext K st0 σ H0 B0 st1 σ H1 B1) (h : OpV K v H0 st1 σ H1 B1 op) : ∃ B2, Ext K st0 σ H0 B0 st1 σ H1 B2 ∧ Same B1 B2 ∧ OpV K v H0 st1 σ H1 B2 (PD.fzO op) := by
  cases op with
  | d y => exact ⟨B1, e, Same.refl _, h⟩
  | sl i => exact ⟨B1, e, Same.refl _, h⟩
  | fr y =>
    obtain ⟨p, o, rfl, h0, hb, hp, r, np⟩ := h
    have bs : Same B1 (upd B1 p o) := fun a u q => by rw [upd_ne (ne_of_none q hb)]; exact q
    refine ⟨upd B1 p o, ⟨e.rel.still hp hb np, e.bsub.trans bs, fun a u a1 a2 a3 => ?_, e.owned, e.fix, e.len, e.there⟩, bs, ?_⟩
    · obtain ⟨e1, e2⟩ := e.frame a u a1 a2 a3
      exact ⟨e1, by rw [upd_ne (ne_of_none a1 h0)]; exact e2⟩
    · show Rp K (upd B1 p o) (.ref p) y
      exact HoR.rp upd_same (r.mono bs)

theorem get_set {α : Type} {l : List α} {i j : Nat} {a b : α} (h : (l.set i a)[j]? = some b) : (i = j ∧ b = a) ∨ (i ≠ j ∧ l[j]? = some b) := by
  by_cases e : i = j
  · subst e
    by_cases hl : i < l.length
    · rw [List.getElem?_set_self hl] at h; exact .inl ⟨rfl, (Option.some.inj h).symm⟩
    · rw [List.getElem?_eq_none (by simpa using hl)] at h; cases h
  · rw [List.getElem?_set_ne e] at h; exact .inr ⟨e, h⟩

/-- frozen: a value for good -/
theorem OpV.fz (e : Ext K st0 σ H0 B0 st1 σ H1 B1) (h : OpV K v H0 st1 σ H1 B1 op) (z : PD.fz op st1 = some (x, st2)) : ∃ B2, Ext K st0 σ H0 B0 st2 σ H1 B2 ∧ Same B1 B2 ∧ Rp K B2 v x := by
  cases op with
  | d y => cases z; exact ⟨B1, e, Same.refl _, h⟩
  | fr y =>
    cases z
    obtain ⟨B2, e2, bs, r⟩ := h.fzO e
    exact ⟨B2, e2, bs, r⟩
  | sl i =>
    obtain ⟨p, sv, rfl, hp, hsv, hptr⟩ := h
    simp only [PD.fz] at z
    rw [hsv] at z
    cases sv with
    | val y => simp [SV.ptr] at hptr
    | par y => simp at z
    | lck y => simp at z
    | own y =>
      simp only [Option.some.injEq, Prod.mk.injEq] at z
      obtain ⟨rfl, rfl⟩ := z
      obtain ⟨w, hw, p', o, rfl, hb, ho, r⟩ := e.rel.at_ i _ hsv
      rw [hp] at hw; cases hw
      have bs : Same B1 (upd B1 p o) := fun a u q => by rw [upd_ne (ne_of_none q hb)]; exact q
      have own1 : OwnA st1 σ p := ⟨i, _, hsv, rfl, hp⟩
      have less : ∀ a, PtrA (st1.set i (some (.val y))) σ a → PtrA st1 σ a ∧ a ≠ p := fun a ⟨j, sw, h1, h2, h3⟩ => by
        rcases get_set h1 with ⟨rfl, q⟩ | ⟨ne, q⟩
        · cases q; simp [SV.ptr] at h2
        · refine ⟨⟨j, sw, q, h2, h3⟩, ?_⟩
          rintro rfl
          exact e.rel.sep i j _ _ _ ne hsv rfl q h2 hp h3
      refine ⟨upd B1 p o, ⟨⟨fun a u q => ?_, by simpa using e.rel.len, fun j sw q => ?_, fun j k sw sx a n h1 h2 h3 h4 h5 h6 => ?_⟩, e.bsub.trans bs, fun a u a1 a2 a3 => ?_, fun a u a1 a2 => ?_, fun j sw a1 a2 => ?_, e.len, e.there⟩, bs, HoR.rp upd_same (r.mono bs)⟩
      · by_cases ha : a = p
        · subst ha; rw [upd_same] at q; rw [ho]; exact q
        · rw [upd_ne ha] at q; exact e.rel.sub _ _ q
      · rcases get_set q with ⟨rfl, q'⟩ | ⟨ne, q⟩
        · cases q'
          exact ⟨_, hp, HoR.rp upd_same (r.mono bs)⟩
        · obtain ⟨w, hw, q2⟩ := e.rel.at_ j sw q
          refine ⟨w, hw, q2.mono bs fun hs p' o' b' h' e' => ⟨h', ?_⟩⟩
          subst e'
          rw [upd_ne]
          · exact b'
          · rintro rfl
            exact e.rel.sep i j _ _ _ ne hsv rfl q hs hp hw
      · rcases get_set h1 with ⟨rfl, q⟩ | ⟨ne, q⟩
        · cases q; simp [SV.ptr] at h2
        · rcases get_set h3 with ⟨rfl, q'⟩ | ⟨ne', q'⟩
          · cases q'; simp [SV.ptr] at h4
          · exact e.rel.sep j k _ _ _ n q h2 q' h4 h5 h6
      · obtain ⟨e1, e2⟩ := e.frame a u a1 a2 a3
        refine ⟨e1, ?_⟩
        rw [upd_ne]
        · exact e2
        · rintro rfl
          exact a3 ((e.owned _ _ a1 own1.ptr).2 own1)
      · obtain ⟨l1, l2⟩ := less a a2
        obtain ⟨o1, o2⟩ := e.owned a u a1 l1
        refine ⟨o1, fun ⟨j, sw, h1, h2, h3⟩ => o2 ?_⟩
        rcases get_set h1 with ⟨rfl, q⟩ | ⟨ne, q⟩
        · cases q; simp [SV.mt] at h2
        · exact ⟨j, sw, q, h2, h3⟩
      · obtain ⟨e1, sw', e2, k⟩ := e.fix j sw a1 a2
        refine ⟨e1, sw', ?_, k⟩
        have ne : i ≠ j := by
          rintro rfl
          rw [hsv] at e2; cases e2
          have := SV.kin_fix k
          simp [SV.fix] at this
        rw [List.getElem?_set_ne ne]; exact e2
end
end PD

set_option Elab.async false
set_option linter.all false
set_option maxRecDepth 100000
/-! PD2: the small code and its run. -/
namespace PD
open PySem L2

/-! ### 1. operations on data -/
def fkey : D → Option Key
  | .int i => some (.inl i)
  | .str s => some (.inr s)
  | _ => none
def fkeys : List D → Option (List Key)
  | [] => some []
  | d :: ds => (fkey d).bind fun k => (fkeys ds).map fun r => k :: r
/-- how a value keys a dict -/
def dkey : D → Option (Key ⊕ List Key)
  | .int i => some (.inl (.inl i))
  | .str s => some (.inl (.inr s))
  | .tuple ds => (fkeys ds).map .inr
  | _ => none
def dlook (kvs : List (D × D)) (k : D) : Option D := (kvs.find? fun p => decide (dkey p.1 = dkey k)).map (·.2)
def dput (kvs : List (D × D)) (k v : D) : List (D × D) :=
  if (kvs.any fun p => decide (dkey p.1 = dkey k)) = true then kvs.map fun p => if dkey p.1 = dkey k then (p.1, v) else p else kvs ++ [(k, v)]
/-- of which kind the keys are: numbers and texts, or tuples -/
def dkind (kvs : List (D × D)) : Option Bool := match kvs with
  | [] => none
  | (.tuple _, _) :: _ => some true
  | _ => some false
def kkind : D → Option Bool
  | .int _ | .str _ => some false
  | .tuple ds => (fkeys ds).map fun _ => true
  | _ => none
def kindOk (kvs : List (D × D)) (k : D) : Bool := match dkind kvs, kkind k with
  | _, none => false
  | none, some _ => true
  | some a, some b => a == b

inductive Bop where | add | sub | mul | fdiv | mod | pow | xor | band | shl | shr
  deriving DecidableEq
inductive Cop where | eq | ne | lt | le | gt | ge | in_ | nin | isN | notN
  deriving DecidableEq
inductive Ty where | int | bool | str | list | tuple | dict
  deriving DecidableEq
inductive B1 where | len | sorted | sortedSet | min | max | sum | any | all | list | tuple | int | listRange
  deriving DecidableEq
inductive B2 where | max2 | min2
  deriving DecidableEq

def small64 (i : Int) : Bool := decide (-(2 ^ 64) < i ∧ i < 2 ^ 64)
def binop : Bop → D → D → Option Op
  | .add, .int i, .int j => some (.d (.int (i + j)))
  | .add, .list xs, .list ys => if xs.length + ys.length ≤ sizeLine then some (.fr (.list (xs ++ ys))) else none
  | .add, .tuple xs, .tuple ys => if xs ≠ [] ∧ xs.length + ys.length ≤ sizeLine then some (.d (.tuple (xs ++ ys))) else none
  | .sub, .int i, .int j => some (.d (.int (i - j)))
  | .mul, .int i, .int j => if small64 i || small64 j then some (.d (.int (i * j))) else none
  | .fdiv, .int i, .int j => if j ≠ 0 ∧ j.natAbs < 1073741824 then some (.d (.int (i.fdiv j))) else none
  | .mod, .int i, .int j => if j ≠ 0 then some (.d (.int (i.fmod j))) else none
  | .pow, .int i, .int j => if 0 ≤ j ∧ j ≤ 1000000 ∧ i.natAbs < 2 ^ 64 then some (.d (.int (i ^ j.toNat))) else none
  | .xor, .int i, .int j => some (.d (.int (Builtin.bitXor i j)))
  | .band, .int i, .int j => some (.d (.int (Builtin.bitAnd i j)))
  | .shl, .int i, .int j => if 0 ≤ j ∧ j ≤ 1000000 ∧ i.natAbs < 2 ^ 64 then some (.d (.int (i * 2 ^ j.toNat))) else none
  | .shr, .int i, .int j => if 0 ≤ j then some (.d (.int (i / 2 ^ j.toNat))) else none
  | _, _, _ => none

def isSeq : D → Option (List D)
  | .list xs => some xs
  | .tuple xs => some xs
  | _ => none
/-- data whose order is told -/
def ordOk (x y : D) : Bool := PySem.W.alike x y && SeqAt.shaped x && SeqAt.shaped y && (match x with | .none => false | _ => true)
def cmpop : Cop → D → D → Option Bool
  | .eq, x, y => if SeqAt.shaped x && SeqAt.shaped y then some (PyData.eqv x y) else none
  | .ne, x, y => if SeqAt.shaped x && SeqAt.shaped y then some (!PyData.eqv x y) else none
  | .lt, x, y => if ordOk x y then some (PySem.W.dataLt x y) else none
  | .gt, x, y => if ordOk x y then some (PySem.W.dataLt y x) else none
  | .le, x, y => if ordOk x y then some (!PySem.W.dataLt y x) else none
  | .ge, x, y => if ordOk x y then some (!PySem.W.dataLt x y) else none
  | .in_, x, .list ys => if SeqAt.shaped x && SeqAt.shaped (.list ys) then some (ys.any fun z => PyData.eqv z x) else none
  | .in_, x, .tuple ys => if SeqAt.shaped x && SeqAt.shaped (.tuple ys) then some (ys.any fun z => PyData.eqv z x) else none
  | .in_, x, .dict kvs => if kindOk kvs x then some (dlook kvs x).isSome else none
  | .nin, x, .list ys => if SeqAt.shaped x && SeqAt.shaped (.list ys) then some (!ys.any fun z => PyData.eqv z x) else none
  | .nin, x, .tuple ys => if SeqAt.shaped x && SeqAt.shaped (.tuple ys) then some (!ys.any fun z => PyData.eqv z x) else none
  | .nin, x, .dict kvs => if kindOk kvs x then some (!(dlook kvs x).isSome) else none
  | _, _, _ => none
def isNone : D → Bool
  | .none => true
  | _ => false
/-- what a comparison of the text tells -/
def cmpG (o : Cop) (x y : D) : Option Op := (match o with
  | .isN => if isNone y then some (isNone x) else none
  | .notN => if isNone y then some (!isNone x) else none
  | o => cmpop o x y).map fun z => .d (.bool z)

def ixD : D → D → Option D
  | .list xs, .int i => atI xs i
  | .tuple xs, .int i => atI xs i
  | .dict kvs, k => if kindOk kvs k then dlook kvs k else none
  | _, _ => none
def cutD (xs : List D) (lo hi : Option Int) : List D := (xs.drop (HT.sIx xs.length 0 lo)).take (HT.sIx xs.length xs.length hi - HT.sIx xs.length 0 lo)
def slD : D → Option Int → Option Int → Option Op
  | .list xs, lo, hi => some (.fr (.list (cutD xs lo hi)))
  | .tuple xs, lo, hi => if ¬ (HT.sIx xs.length 0 lo = 0 ∧ HT.sIx xs.length xs.length hi = xs.length) then some (.d (.tuple (cutD xs lo hi))) else none
  | _, _, _ => none
def revD : D → Option Op
  | .list xs => some (.fr (.list xs.reverse))
  | _ => none
def tyD : D → Option Ty
  | .int _ => some .int
  | .bool _ => some .bool
  | .str _ => some .str
  | .list _ => some .list
  | .tuple _ => some .tuple
  | .dict _ => some .dict
  | _ => none
/-- isinstance: a bool is an int -/
def isiD (x : D) (t : Ty) : Bool := match tyD x, t with
  | some .bool, .int => true
  | some a, b => a == b
  | none, _ => false
def boolsD : List D → Option (List Bool)
  | [] => some []
  | .bool b :: r => (boolsD r).map fun s => b :: s
  | _ => none
def intsD : List D → Option (List Int)
  | [] => some []
  | .int i :: r => (intsD r).map fun s => i :: s
  | _ => none
def allAlike (xs : List D) : Bool := xs.all fun x => xs.all fun y => PySem.W.alike x y
def sortable (xs : List D) : Bool := (xs.all fun x => match x with | .tuple (_ :: _) => true | _ => false) || (xs.all fun x => match x with | .none => false | .tuple _ => false | _ => true)
def depthOk (xs : List D) : Bool := xs.all SeqAt.shaped
def sortD (xs : List D) : List D := xs.mergeSort (PySem.W.dataLe false id)
def dedup : List Int → List Int
  | [] => []
  | x :: xs => x :: (dedup xs).filter (· ≠ x)
def b1op : B1 → D → Option Op
  | .len, .list xs => some (.d (.int xs.length))
  | .len, .tuple xs => some (.d (.int xs.length))
  | .len, .dict kvs => if dkind kvs = some true then none else some (.d (.int kvs.length))
  | .len, _ => none
  | .sorted, x => (isSeq x).bind fun xs => if allAlike xs && sortable xs && depthOk xs && decide (xs.length ≤ sizeLine) then some (.fr (.list (sortD xs))) else none
  | .sortedSet, .list xs => (intsD xs).bind fun ns => if ns.length < 50 then some (.fr (.list (((dedup ns).mergeSort (fun a b => decide (a ≤ b))).map PyData.int))) else none
  | .sortedSet, _ => none
  | .min, .list (x :: xs) => if allAlike (x :: xs) && depthOk (x :: xs) && (x :: xs).all (fun y => !isNone y) then some (.d (PySem.W.minD x xs)) else none
  | .min, .tuple (x :: xs) => if allAlike (x :: xs) && depthOk (x :: xs) && (x :: xs).all (fun y => !isNone y) then some (.d (PySem.W.minD x xs)) else none
  | .min, _ => none
  | .max, .list (x :: xs) => if allAlike (x :: xs) && depthOk (x :: xs) && (x :: xs).all (fun y => !isNone y) then some (.d (PySem.W.maxD x xs)) else none
  | .max, .tuple (x :: xs) => if allAlike (x :: xs) && depthOk (x :: xs) && (x :: xs).all (fun y => !isNone y) then some (.d (PySem.W.maxD x xs)) else none
  | .max, _ => none
  | .sum, .list xs => (intsD xs).map fun ns => .d (.int ns.sum)
  | .sum, _ => none
  | .any, .list xs => (boolsD xs).map fun bs => .d (.bool (bs.any id))
  | .any, _ => none
  | .all, .list xs => (boolsD xs).map fun bs => .d (.bool (bs.all id))
  | .all, _ => none
  | .list, x => (isSeq x).map fun xs => .fr (.list xs)
  | .tuple, .list xs => some (.d (.tuple xs))
  | .tuple, .tuple xs => some (.d (.tuple xs))
  | .tuple, _ => none
  | .int, .int i => some (.d (.int i))
  | .int, .bool b => some (.d (.int (if b then 1 else 0)))
  | .int, _ => none
  | .listRange, .int n => if 0 ≤ n ∧ n ≤ 16777216 then some (.fr (.list ((List.range n.toNat).map fun (i : Nat) => PyData.int (i : Nat)))) else none
  | .listRange, _ => none
def b2op : B2 → D → D → Option Op
  | .max2, .int i, .int j => some (.d (.int (if j > i then j else i)))
  | .min2, .int i, .int j => some (.d (.int (if j < i then j else i)))
  | _, _, _ => none
/-- the place of the first item that is equal -/
def indexD (xs : List D) (x : D) : Option Nat := if SeqAt.shaped x && SeqAt.shaped (.list xs) then xs.findIdx? fun z => PyData.eqv z x else none

/-! ### 2. the code -/
/-! a target: a slot, or several -/
mutual
inductive Ct where
  | nm (i : Nat)
  | tp (ts : Cts)
inductive Cts where
  | nil | cons (t : Ct) (r : Cts)
end
mutual
inductive Ce where
  | var (i : Nat)
  | con (d : D)
  | tup (es : Ces)
  | lst (es : Ces)
  | dict0
  | bin (o : Bop) (a b : Ce)
  | neg (a : Ce)
  | cmp (o : Cop) (a b : Ce)
  | chain (o o' : Cop) (a b c : Ce)
  | and_ (a b : Ce)
  | or_ (a b : Ce)
  | not_ (a : Ce)
  | ite (c a b : Ce)
  | ix (a b : Ce)
  | slc (a : Ce) (lo hi : Co)
  | rev (a : Ce)
  | b1 (f : B1) (a : Ce)
  | b2 (f : B2) (a b : Ce)
  | isi (a : Ce) (ts : List Ty)
  | call (f : Str) (es : Ces)
  | callM (f : Str) (i : Nat) (es : Ces)
  | callF (f : Str) (es : Ces)
  | popAt (i : Nat) (e : Ce)
  | index (a e : Ce)
  | count (a e : Ce)
  | comp (own : List Nat) (t : Ct) (it : Ci) (c : Co) (e : Ce)
  | comp2 (own : List Nat) (t : Ct) (it : Ci) (own1 : List Nat) (t1 : Ct) (it1 : Ci) (c1 : Co) (e : Ce)
  | dcomp (own : List Nat) (t : Ct) (it : Ci) (k v : Ce)
inductive Ces where
  | nil | cons (e : Ce) (r : Ces)
inductive Co where
  | no | so (e : Ce)
inductive Ci where
  | seq (e : Ce)
  | rng (e : Ce)
  | rng2 (a b : Ce)
  | enum (e : Ce)
end
mutual
inductive Cs where
  | set (i : Nat) (e : Ce)
  | unp (t : Ct) (e : Ce)
  | par2 (i j : Nat) (a b : Ce)
  | sset (i : Nat) (k e : Ce)
  | augI (i : Nat) (o : Bop) (e : Ce)
  | app (i : Nat) (e : Ce)
  | expr (e : Ce)
  | ife (c : Ce) (a b : Css)
  | for_ (t : Ct) (it : Ci) (b : Css)
  | whl (c : Ce) (b : Css)
  | ret (e : Ce)
  | retN
  | brk
  | cnt
  | pass
inductive Css where
  | nil | cons (s : Cs) (r : Css)
end

/-! ### 3. its run -/
/-- a slot is stored to, if it may be -/
def put (i : Nat) (sv : SV) (st : Stt) : Option Stt :=
  match st[i]? with
  | some none => some (st.set i (some sv))
  | some (some o) => if o.fix then none else some (st.set i (some sv))
  | none => none
def setO (i : Nat) (op : Op) (st : Stt) : Option Stt :=
  match op with
  | .d x => put i (.val x) st
  | .fr x => put i (.own x) st
  | .sl j => (fz (.sl j) st).bind fun r => put i (.val r.1) r.2
mutual
def asg : Ct → D → Stt → Option Stt
  | .nm i, x, st => put i (.val x) st
  | .tp ts, x, st => (isTup x).bind fun xs => asgs ts xs st
def asgs : Cts → List D → Stt → Option Stt
  | .nil, [], st => some st
  | .cons t r, x :: xs, st => (asg t x st).bind fun st1 => asgs r xs st1
  | _, _, _ => none
def isTup : D → Option (List D)
  | .tuple xs => some xs
  | .list xs => some xs
  | _ => none
end
/-- the owned content of a slot changes -/
def upC (i : Nat) (x : D) (st : Stt) : Option Stt :=
  match st[i]? with
  | some (some (.own _)) => some (st.set i (some (.own x)))
  | some (some (.par _)) => some (st.set i (some (.par x)))
  | _ => none
/-- what a slot owns -/
def ownC (i : Nat) (st : Stt) : Option D :=
  match st[i]? with
  | some (some (.own x)) => some x
  | some (some (.par x)) => some x
  | _ => none
/-- what is walked: its items, and the slot that is locked meanwhile -/
structure Src where
  xs : List D
  lk : Option (Nat × SV)
def lock (st : Stt) : Op → Option (List D × Option (Nat × SV) × Stt)
  | .d x => (isSeq x).map fun xs => (xs, none, st)
  | .fr x => (isSeq x).map fun xs => (xs, none, st)
  | .sl i => match st[i]? with
    | some (some sv) => (isSeq sv.d).map fun xs => (xs, some (i, sv), st.set i (some (.lck sv.d)))
    | _ => none
def unlock (lk : Option (Nat × SV)) (st : Stt) : Stt :=
  match lk with
  | none => st
  | some (i, sv) => st.set i (some sv)
def intOf : D → Option Int
  | .int i => some i
  | _ => none
def boolOf : D → Option Bool
  | .bool b => some b
  | _ => none
def wipeS (st : Stt) : List Nat → Stt
  | [] => st
  | v :: vs => (wipeS st vs).set v none
/-- the slots of a block's own names as they were -/
def backS (old st : Stt) : List Nat → Stt
  | [] => st
  | v :: vs => (backS old st vs).set v (old[v]?.getD none)

def isL : D → Option (List D)
  | .list xs => some xs
  | _ => none
/-- the turns of a list that is made: each gives an item or none -/
def compL (f : D → Stt → Option (Option D × Stt)) : List D → List D → Stt → Option (List D × Stt)
  | [], acc, st => some (acc, st)
  | x :: xs, acc, st => (f x st).bind fun r => match r.1 with
    | none => compL f xs acc r.2
    | some y => if acc.length < sizeLine then compL f xs (acc ++ [y]) r.2 else none
/-- .. each gives some items -/
def compL2 (f : D → List D → Stt → Option (List D × Stt)) : List D → List D → Stt → Option (List D × Stt)
  | [], acc, st => some (acc, st)
  | x :: xs, acc, st => (f x acc st).bind fun r => compL2 f xs r.1 r.2
def dcompL (f : D → Stt → Option ((D × D) × Stt)) : List D → List (D × D) → Stt → Option (List (D × D) × Stt)
  | [], acc, st => some (acc, st)
  | x :: xs, acc, st => (f x st).bind fun r => if kindOk acc r.1.1 && decide (acc.length < sizeLine) then dcompL f xs (dput acc r.1.1 r.1.2) r.2 else none

inductive Fl where
  | nx | bk | ct | rt (d : D)
def forL (f : D → Stt → Option (Fl × Stt)) : List D → Stt → Option (Fl × Stt)
  | [], st => some (.nx, st)
  | x :: xs, st => (f x st).bind fun r => match r.1 with
    | .nx => forL f xs r.2
    | .ct => forL f xs r.2
    | .bk => some (.nx, r.2)
    | .rt d => some (.rt d, r.2)
def whileL (c : Stt → Option (Bool × Stt)) (f : Stt → Option (Fl × Stt)) : Nat → Stt → Option (Fl × Stt)
  | 0, _ => none
  | n + 1, st => (c st).bind fun b => match b.1 with
    | false => some (.nx, b.2)
    | true => (f b.2).bind fun r => match r.1 with
      | .nx => whileL c f n r.2
      | .ct => whileL c f n r.2
      | .bk => some (.nx, r.2)
      | .rt d => some (.rt d, r.2)

/-- the defs: arguments to the result and to what the first argument holds behind the call -/
abbrev Tab := Str → List D → Option (D × D)
def nmk (r : Option (Op × Stt)) : Option (D × Stt) := r.bind fun r => fz r.1 r.2
def opr (r : Option (Op × Stt)) : Option (Op × Stt) := r.map fun r => (fzO r.1, r.2)
def tst (r : Option (Op × Stt)) : Option (Bool × Stt) := r.bind fun r => match r.1 with
  | .d (.bool b) => some (b, r.2)
  | _ => none

section
variable (Φ : Tab)
mutual
def evE : Ce → Stt → Option (Op × Stt)
  | .var i, st => match st[i]? with
    | some (some (.val x)) => some (.d x, st)
    | some (some _) => some (.sl i, st)
    | _ => none
  | .con d, st => some (.d d, st)
  | .tup es, st => (evEs es st).bind fun r => if r.1.length ≤ sizeLine then some (.d (.tuple r.1), r.2) else none
  | .lst es, st => (evEs es st).bind fun r => if r.1.length ≤ sizeLine then some (.fr (.list r.1), r.2) else none
  | .dict0, st => some (.fr (.dict []), st)
  | .bin o a b, st => (opr (evE a st)).bind fun r => (opr (evE b r.2)).bind fun s => (rdO r.1 s.2).bind fun x => (rdO s.1 s.2).bind fun y => (binop o x y).map fun z => (z, s.2)
  | .neg a, st => (nmk (evE a st)).bind fun r => (intOf r.1).map fun i => (.d (.int (-i)), r.2)
  | .cmp o a b, st => (opr (evE a st)).bind fun r => (opr (evE b r.2)).bind fun s => (rdO r.1 s.2).bind fun x => (rdO s.1 s.2).bind fun y => (cmpG o x y).map fun z => (z, s.2)
  | .chain o o' a b c, st => (opr (evE a st)).bind fun r => (opr (evE b r.2)).bind fun s => (rdO r.1 s.2).bind fun x => (rdO s.1 s.2).bind fun y => (cmpop o x y).bind fun z => match z with
      | false => some (.d (.bool false), s.2)
      | true => (opr (evE c s.2)).bind fun u => (rdO s.1 u.2).bind fun y => (rdO u.1 u.2).bind fun z => (cmpop o' y z).map fun k => (.d (.bool k), u.2)
  | .and_ a b, st => (tst (evE a st)).bind fun r => match r.1 with
      | false => some (.d (.bool false), r.2)
      | true => evE b r.2
  | .or_ a b, st => (tst (evE a st)).bind fun r => match r.1 with
      | true => some (.d (.bool true), r.2)
      | false => evE b r.2
  | .not_ a, st => (tst (evE a st)).map fun r => (.d (.bool !r.1), r.2)
  | .ite c a b, st => (tst (evE c st)).bind fun r => match r.1 with
      | true => evE a r.2
      | false => evE b r.2
  | .ix a b, st => (opr (evE a st)).bind fun r => (nmk (evE b r.2)).bind fun s => (rdO r.1 s.2).bind fun x => (ixD x s.1).map fun z => (.d z, s.2)
  | .slc a lo hi, st => (opr (evE a st)).bind fun r => (evO lo r.2).bind fun s => (evO hi s.2).bind fun u => (rdO r.1 u.2).bind fun x => (slD x s.1 u.1).map fun z => (z, u.2)
  | .rev a, st => (opr (evE a st)).bind fun r => (rdO r.1 r.2).bind fun x => (revD x).map fun z => (z, r.2)
  | .b1 f a, st => (opr (evE a st)).bind fun r => (rdO r.1 r.2).bind fun x => (b1op f x).map fun z => (z, r.2)
  | .b2 f a b, st => (opr (evE a st)).bind fun r => (opr (evE b r.2)).bind fun s => (rdO r.1 s.2).bind fun x => (rdO s.1 s.2).bind fun y => (b2op f x y).map fun z => (z, s.2)
  | .isi a ts, st => (opr (evE a st)).bind fun r => (rdO r.1 r.2).map fun x => (.d (.bool (ts.any fun t => isiD x t)), r.2)
  | .call f es, st => (evEs es st).bind fun r => (Φ f r.1).map fun z => (.d z.1, r.2)
  | .callF f es, st => (evEs es st).bind fun r => (Φ f r.1).map fun z => (.fr z.1, r.2)
  | .callM f i es, st => (ownC i st).bind fun _ => (evEs es st).bind fun r => (ownC i r.2).bind fun x => (Φ f (x :: r.1)).bind fun z => (upC i z.2 r.2).map fun st2 => (.d z.1, st2)
  | .popAt i e, st => ((ownC i st).bind isL).bind fun _ => (nmk (evE e st)).bind fun r => (intOf r.1).bind fun j => ((ownC i r.2).bind isL).bind fun xs =>
      if -(2 ^ 63) ≤ j ∧ j < 2 ^ 63 then (seqIndex? j xs.length).bind fun k => (xs[k]?).bind fun y => (upC i (.list (xs.eraseIdx k)) r.2).map fun st2 => (.d y, st2) else none
  | .index a e, st => (opr (evE a st)).bind fun r => ((rdO r.1 r.2).bind isL).bind fun _ => (opr (evE e r.2)).bind fun s => ((rdO r.1 s.2).bind isL).bind fun xs => (rdO s.1 s.2).bind fun y => (indexD xs y).map fun j => (.d (.int (j : Nat)), s.2)
  | .count a e, st => (opr (evE a st)).bind fun r => ((rdO r.1 r.2).bind isL).bind fun _ => (nmk (evE e r.2)).bind fun s => ((rdO r.1 s.2).bind isL).bind fun xs => (intOf s.1).bind fun k => (intsD xs).map fun ns => (.d (.int (ns.count k : Nat)), s.2)
  | .comp own t it c e, st => (evI it st).bind fun r =>
      (compL (fun x st1 => (asg t x st1).bind fun st2 => (evC c st2).bind fun b => match b.1 with
        | false => some (none, wipeS b.2 own)
        | true => (nmk (evE e b.2)).map fun y => (some y.1, wipeS y.2 own)) r.1 [] (wipeS r.2.2 own)).map fun u => (.fr (.list u.1), unlock r.2.1 (backS r.2.2 u.2 own))
  | .comp2 own t it own1 t1 it1 c e, st => (evI it st).bind fun r =>
      (compL2 (fun x acc st1 => (asg t x st1).bind fun st2 => (evI it1 st2).bind fun r1 =>
        (compL (fun x1 st3 => (asg t1 x1 st3).bind fun st4 => (evC c st4).bind fun b => match b.1 with
          | false => some (none, wipeS b.2 own1)
          | true => (nmk (evE e b.2)).map fun y => (some y.1, wipeS y.2 own1)) r1.1 acc (wipeS r1.2.2 own1)).map fun u => (u.1, wipeS (unlock r1.2.1 u.2) own)) r.1 [] (wipeS r.2.2 own)).map fun u => (.fr (.list u.1), unlock r.2.1 (backS r.2.2 u.2 own))
  | .dcomp own t it k v, st => (evI it st).bind fun r =>
      (dcompL (fun x st1 => (asg t x st1).bind fun st2 => (nmk (evE k st2)).bind fun y => (nmk (evE v y.2)).map fun z => ((y.1, z.1), wipeS z.2 own)) r.1 [] (wipeS r.2.2 own)).map fun u => (.fr (.dict u.1), unlock r.2.1 (backS r.2.2 u.2 own))
def evEs : Ces → Stt → Option (List D × Stt)
  | .nil, st => some ([], st)
  | .cons e r, st => (nmk (evE e st)).bind fun x => (evEs r x.2).map fun y => (x.1 :: y.1, y.2)
/-- a part of a slice -/
def evO : Co → Stt → Option (Option Int × Stt)
  | .no, st => some (none, st)
  | .so e, st => (nmk (evE e st)).bind fun r => (intOf r.1).map fun i => (some i, r.2)
/-- a comprehension's test -/
def evC : Co → Stt → Option (Bool × Stt)
  | .no, st => some (true, st)
  | .so e, st => tst (evE e st)
/-- what is walked: items, lock, state -/
def evI : Ci → Stt → Option (List D × Option (Nat × SV) × Stt)
  | .seq e, st => (opr (evE e st)).bind fun r => lock r.2 r.1
  | .rng e, st => (nmk (evE e st)).bind fun r => (intOf r.1).bind fun n => if -(2 ^ 62) ≤ n ∧ n < 2 ^ 62 then some ((List.range n.toNat).map (fun i => .int (0 + (i : Nat))), none, r.2) else none
  | .rng2 a b, st => (nmk (evE a st)).bind fun r => (nmk (evE b r.2)).bind fun s => (intOf r.1).bind fun i => (intOf s.1).bind fun j =>
      if -(2 ^ 62) ≤ i ∧ i < 2 ^ 62 ∧ -(2 ^ 62) ≤ j ∧ j < 2 ^ 62 then some ((List.range (j - i).toNat).map (fun k => .int (i + (k : Nat))), none, s.2) else none
  | .enum e, st => (nmk (evE e st)).bind fun r => match r.1 with
      | .list xs => some ((List.range xs.length).map (fun i => .tuple [.int (i : Nat), xs.getD i .none]), none, r.2)
      | _ => none
end
variable (W : Nat)
mutual
def evS : Cs → Stt → Option (Fl × Stt)
  | .set i e, st => (evE Φ e st).bind fun r => (setO i r.1 r.2).map fun st2 => (.nx, st2)
  | .unp t e, st => (nmk (evE Φ e st)).bind fun r => (asg t r.1 r.2).map fun st2 => (.nx, st2)
  | .par2 i j a b, st => (nmk (evE Φ a st)).bind fun r => (nmk (evE Φ b r.2)).bind fun s => (put i (.val r.1) s.2).bind fun st2 => (put j (.val s.1) st2).map fun st3 => (.nx, st3)
  | .sset i k e, st => (nmk (evE Φ e st)).bind fun r => (ownC i r.2).bind fun _ => (nmk (evE Φ k r.2)).bind fun s => (ownC i s.2).bind fun x => match x with
      | .list xs => (intOf s.1).bind fun j => (ixN xs.length j).bind fun m => (upC i (.list (xs.set m r.1)) s.2).map fun st2 => (.nx, st2)
      | .dict kvs => if kindOk kvs s.1 && decide (kvs.length < sizeLine) then (upC i (.dict (dput kvs s.1 r.1)) s.2).map fun st2 => (.nx, st2) else none
      | _ => none
  | .augI i o e, st => (st[i]?).bind fun q => match q with
      | some (.val (.int x)) => (nmk (evE Φ e st)).bind fun r => (intOf r.1).bind fun y => (match o with | .add => some (x + y) | .sub => some (x - y) | _ => none).bind fun z => (put i (.val (.int z)) r.2).map fun st2 => (.nx, st2)
      | _ => none
  | .app i e, st => ((ownC i st).bind isL).bind fun _ => (nmk (evE Φ e st)).bind fun r => ((ownC i r.2).bind isL).bind fun xs =>
      if xs.length < sizeLine then (upC i (.list (xs ++ [r.1])) r.2).map fun st2 => (.nx, st2) else none
  | .expr e, st => (nmk (evE Φ e st)).map fun r => (.nx, r.2)
  | .ife c a b, st => (tst (evE Φ c st)).bind fun r => match r.1 with
      | true => evSs a r.2
      | false => evSs b r.2
  | .for_ t it b, st => (evI Φ it st).bind fun r => (forL (fun x st1 => (asg t x st1).bind fun st2 => evSs b st2) r.1 r.2.2).map fun u => (u.1, unlock r.2.1 u.2)
  | .whl c b, st => whileL (fun st => tst (evE Φ c st)) (fun st => evSs b st) W st
  | .ret e, st => (nmk (evE Φ e st)).map fun r => (.rt r.1, r.2)
  | .retN, st => some (.rt .none, st)
  | .brk, st => some (.bk, st)
  | .cnt, st => some (.ct, st)
  | .pass, st => some (.nx, st)
def evSs : Css → Stt → Option (Fl × Stt)
  | .nil, st => some (.nx, st)
  | .cons s r, st => (evS s st).bind fun u => match u.1 with
      | .nx => evSs r u.2
      | f => some (f, u.2)
end
/-- a def: n names, whether its first parameter is written -/
structure Fn where
  n : Nat
  io : Bool
  code : Css
def start0 (io : Bool) (n : Nat) (ds : List D) : Stt :=
  (match io, ds with
    | true, d :: r => some (.par d) :: r.map fun d => some (SV.val d)
    | _, ds => ds.map fun d => some (SV.val d)) ++ List.replicate (n - ds.length) none
def runF (f : Fn) (ds : List D) : Option (D × D) :=
  (evSs Φ W f.code (start0 f.io f.n ds)).bind fun u =>
    (match u.1 with | .rt d => some d | .nx => some .none | _ => none).map fun d => (d, match f.io with | true => (cont u.2 0).getD .none | false => .none)
end
end PD

set_option Elab.async false
set_option linter.all false
set_option maxRecDepth 100000
/-! PD3: expressions of the text and the run of their code. -/
namespace PD
open PySem L2 PySem.Spec

/-! ### 1. readings that a run gives -/
section
variable (K : PySem.W.Frag)
def tG (f : Stt → Option (Op × Stt)) : TE := fun σ H Q => ∃ st B op st', StR K st σ H B ∧ f st = some (op, st') ∧ ∀ v H' B', Ext K st σ H B st' σ H' B' → OpV K v H st' σ H' B' op → Q v H'
def tV (f : Stt → Option (D × Stt)) : TE := fun σ H Q => ∃ st B x st', StR K st σ H B ∧ f st = some (x, st') ∧ ∀ v H' B', Ext K st σ H B st' σ H' B' → Rp K B' v x → Q v H'
def tT (f : Stt → Option (Bool × Stt)) : TT := fun σ H Q => ∃ st B b st', StR K st σ H B ∧ f st = some (b, st') ∧ ∀ H' B', Ext K st σ H B st' σ H' B' → Q b H'
def tA (f : Stt → Option (List D × Stt)) : TA := fun σ H Q => ∃ st B xs st', StR K st σ H B ∧ f st = some (xs, st') ∧ ∀ vs H' B', Ext K st σ H B st' σ H' B' → RpAll K B' vs xs → Q vs H'
def rG (g : D → D → Option Op) : R2 := fun x y H Q => ∃ B dx dy op, Same B H ∧ Cr K H B x dx ∧ Cr K H B y dy ∧ g dx dy = some op ∧ ∀ v H' B', Alloc K H B op v H' B' → Q v H'
def rG1 (g : D → Option Op) : V → Hp → VK → Prop := fun x H Q => ∃ B dx op, Same B H ∧ Cr K H B x dx ∧ g dx = some op ∧ ∀ v H' B', Alloc K H B op v H' B' → Q v H'
end
abbrev tE (K : PySem.W.Frag) (Φ : Tab) (c : Ce) : TE := tG K (evE Φ c)
abbrev tO (K : PySem.W.Frag) (Φ : Tab) (c : Ce) : TE := tG K fun st => opr (evE Φ c st)
abbrev tN (K : PySem.W.Frag) (Φ : Tab) (c : Ce) : TE := tV K fun st => nmk (evE Φ c st)
abbrev tB (K : PySem.W.Frag) (Φ : Tab) (c : Ce) : TT := tT K fun st => tst (evE Φ c st)
abbrev tEs (K : PySem.W.Frag) (Φ : Tab) (c : Ces) : TA := tA K (evEs Φ c)

section
variable {X : Cx} {e : Expr} {t t' : TE} {f : Stt → Option (Op × Stt)} {Φ : Tab} {c : Ce}
theorem pe_mono (h : PE X e t) (k : ∀ σ H Q, t' σ H Q → t σ H Q) : PE X e t' := ⟨fun pins s σ H Q I q => h.run pins s σ H Q I (k σ H Q q)⟩
theorem pt_mono {t t' : TT} (h : PT X e t) (k : ∀ σ H Q, t' σ H Q → t σ H Q) : PT X e t' := ⟨fun pins s σ H Q I q => h.run pins s σ H Q I (k σ H Q q)⟩
theorem opr_some {r : Option (Op × Stt)} {op : Op} {st : Stt} (h : opr r = some (op, st)) : ∃ op', r = some (op', st) ∧ op = fzO op' ∧ fzO op = op := by
  unfold opr at h
  cases r with
  | none => cases h
  | some r =>
    obtain ⟨a, b⟩ := r
    simp only [Option.map_some, Option.some.injEq, Prod.mk.injEq] at h
    obtain ⟨rfl, rfl⟩ := h
    exact ⟨a, rfl, rfl, by cases a <;> rfl⟩
theorem nmk_some {r : Option (Op × Stt)} {x : D} {st : Stt} (h : nmk r = some (x, st)) : ∃ op st1, r = some (op, st1) ∧ fz op st1 = some (x, st) := by
  unfold nmk at h
  cases r with
  | none => cases h
  | some r => obtain ⟨a, b⟩ := r; exact ⟨a, b, rfl, h⟩
theorem tst_some {r : Option (Op × Stt)} {b : Bool} {st : Stt} (h : tst r = some (b, st)) : r = some (.d (.bool b), st) := by
  unfold tst at h
  cases r with
  | none => cases h
  | some r =>
    obtain ⟨a, c⟩ := r
    cases a with
    | d x =>
      cases x <;> simp at h
      obtain ⟨rfl, rfl⟩ := h
      rfl
    | fr x => simp at h
    | sl i => simp at h
/-- an operand -/
theorem pe_o (h : PE X e (tG X.K f)) : PE X e (tG X.K fun st => opr (f st)) := pe_mono h fun σ H Q ⟨st, B, op, st', r, ev, k⟩ => by
  obtain ⟨op', e1, rfl, _⟩ := opr_some ev
  refine ⟨st, B, op', st', r, e1, fun v H' B' x o => ?_⟩
  obtain ⟨B2, x2, _, o2⟩ := o.fzO x
  exact k v H' B2 x2 o2
/-- a value -/
theorem pe_v (h : PE X e (tG X.K f)) : PE X e (tV X.K fun st => nmk (f st)) := pe_mono h fun σ H Q ⟨st, B, x, st', r, ev, k⟩ => by
  obtain ⟨op, st1, e1, z⟩ := nmk_some ev
  refine ⟨st, B, op, st1, r, e1, fun v H' B' x o => ?_⟩
  obtain ⟨B2, x2, _, o2⟩ := o.fz x z
  exact k v H' B2 x2 o2
theorem rp_bl {K : PySem.W.Frag} {B : Hp} {v : V} {b : Bool} (h : Rp K B v (.bool b)) : v = .bl b := by cases h; rfl
theorem rp_int {K : PySem.W.Frag} {B : Hp} {v : V} {b : Int} (h : Rp K B v (.int b)) : v = .int b := by cases h; rfl
theorem rp_str {K : PySem.W.Frag} {B : Hp} {v : V} {b : Str} (h : Rp K B v (.str b)) : v = .str b := by cases h; rfl
theorem rp_non {K : PySem.W.Frag} {B : Hp} {v : V} (h : Rp K B v .none) : v = .non := by cases h; rfl
/-- a value that is told as a bool, as a test -/
theorem tb_of (σ : St) (H : Hp) (Q : Bool → Hp → Prop) (h : tT X.K (fun st => tst (f st)) σ H Q) : L2.tB (tG X.K f) σ H Q := by
  obtain ⟨st, B, b, st', r, ev, k⟩ := h
  exact ⟨st, B, _, st', r, tst_some ev, fun v H' B' x o => ⟨b, rp_bl o, k H' B' x⟩⟩
theorem pt_v (h : PE X e (tG X.K f)) (he : ∀ whole, isTrue e X.env whole = (do let v ← whole; standAt e.pos; holding [v] (truthy v)) := by intro _; rfl) : PT X e (tT X.K fun st => tst (f st)) :=
  pt_mono (pt_val h he) tb_of
end

/-! ### 2. two operands -/
section
variable {K : PySem.W.Frag} {Φ : Tab} {st st1 st2 : Stt} {σ : St} {H B : Hp} {oa ob : Op} {fa fb : Stt → Option (Op × Stt)}
theorem two {R : V → V → Hp → Prop} (r : StR K st σ H B) (ha : fa st = some (oa, st1)) (hf : fzO oa = oa) (hb : fb st1 = some (ob, st2)) (hg : fzO ob = ob)
    (k : ∀ v w H2 B2, Ext K st σ H B st2 σ H2 B2 → (∀ x, rdO oa st2 = some x → Cr K H2 B2 v x) → (∀ y, rdO ob st2 = some y → Cr K H2 B2 w y) → R v w H2) :
    tG K fa σ H fun x H1 => tG K fb σ H1 fun y H2 => R x y H2 := by
  refine ⟨st, B, oa, st1, r, ha, fun v H1 B1 x1 o1 => ⟨st1, B1, ob, st2, x1.rel, hb, fun w H2 B2 x2 o2 => ?_⟩⟩
  exact k v w H2 B2 (x1.trans x2) (fun x e => o1.read hf x2 e) fun y e => o2.read hg (Ext.refl x2.rel) e
/-- the end of an operation that may make objects -/
theorem fin {op : Op} {v : V} {H2 B2 H' B' : Hp} {Q : VK} (x : Ext K st σ H B st2 σ H2 B2) (al : Alloc K H2 B2 op v H' B')
    (k : ∀ v H' B', Ext K st σ H B st2 σ H' B' → OpV K v H st2 σ H' B' op → Q v H') : Q v H' :=
  k v H' B' (x.trans (al.grow.ext x.rel)) ((al.opv x.rel).lift x.there)
end

section
variable {X : Cx} {a b c : Expr} {Φ : Tab} {ca cb cc : Ce} {pos : Pos}
theorem rG_of {g : D → D → Option Op} {σ : St} {H : Hp} {Q : VK} {fa fb : Stt → Option (Op × Stt)} {st st1 st2 : Stt} {B : Hp} {oa ob op : Op} {x y : D}
    (r : StR X.K st σ H B) (ha : opr (fa st) = some (oa, st1)) (hb : opr (fb st1) = some (ob, st2)) (hx : rdO oa st2 = some x) (hy : rdO ob st2 = some y) (hg : g x y = some op)
    (k : ∀ v H' B', Ext X.K st σ H B st2 σ H' B' → OpV X.K v H st2 σ H' B' op → Q v H') :
    tOp (rG X.K g) (tG X.K fun st => opr (fa st)) (tG X.K fun st => opr (fb st)) σ H Q := by
  obtain ⟨_, _, _, f1⟩ := opr_some ha
  obtain ⟨_, _, _, f2⟩ := opr_some hb
  exact two (K := X.K) r ha f1 hb f2 fun v w H2 B2 x2 c1 c2 => ⟨B2, x, y, op, x2.rel.sub, c1 x hx, c2 y hy, hg, fun v' H' B' al => fin x2 al k⟩
/-- the pieces of a run of two operands -/
theorem ev2 {α β : Type} {r : Option (Op × Stt)} {f : Stt → Option (Op × Stt)} {g : D → D → Option α} {k : α → Stt → β} {st2 : Stt} {z : β}
    (h : (opr r).bind (fun r => (opr (f r.2)).bind fun s => (rdO r.1 s.2).bind fun x => (rdO s.1 s.2).bind fun y => (g x y).map fun z => k z s.2) = some z) :
    ∃ oa st1 ob st2 x y w, opr r = some (oa, st1) ∧ opr (f st1) = some (ob, st2) ∧ rdO oa st2 = some x ∧ rdO ob st2 = some y ∧ g x y = some w ∧ z = k w st2 := by
  cases e1 : opr r with
  | none => rw [e1] at h; cases h
  | some p =>
    obtain ⟨oa, st1⟩ := p
    rw [e1] at h
    simp only [Option.bind_some] at h
    cases e2 : opr (f st1) with
    | none => rw [e2] at h; cases h
    | some q =>
      obtain ⟨ob, st2⟩ := q
      rw [e2] at h
      simp only [Option.bind_some] at h
      cases e3 : rdO oa st2 with
      | none => rw [e3] at h; cases h
      | some x =>
        cases e4 : rdO ob st2 with
        | none => rw [e3, e4] at h; cases h
        | some y =>
          rw [e3, e4] at h
          simp only [Option.bind_some] at h
          cases e5 : g x y with
          | none => rw [e5] at h; cases h
          | some w =>
            rw [e5] at h
            exact ⟨oa, st1, ob, st2, x, y, w, rfl, e2, e3, e4, e5, (Option.some.inj h).symm⟩
theorem cE_bin {op : Operator} {o : Bop} (ho : OpR X (binaryOp op) (rG X.K (binop o))) (ha : PE X a (tE X.K Φ ca)) (hb : PE X b (tE X.K Φ cb)) : PE X (.BinOp a op b pos) (tE X.K Φ (.bin o ca cb)) :=
  pe_mono (pe_op ho (pe_o ha) (pe_o hb)) fun σ H Q ⟨st, B, op, st', r, ev, k⟩ => by
    simp only [evE] at ev
    obtain ⟨oa, st1, ob, st2, x, y, w, h1, h2, h3, h4, h5, h6⟩ := ev2 (k := fun (z : Op) st => (z, st)) (st2 := st') ev
    cases h6
    exact rG_of r h1 h2 h3 h4 h5 k
theorem cE_cmp {op : CmpOp} {o : Cop} (ho : OpR X (compareOp op) (rG X.K (cmpG o))) (ha : PE X a (tE X.K Φ ca)) (hb : PE X b (tE X.K Φ cb)) (hm : behindInMarks op b = false) : PE X (.Compare a [op] [b] pos) (tE X.K Φ (.cmp o ca cb)) :=
  pe_mono (pe_cmpR ho (pe_o ha) (pe_o hb) hm) fun σ H Q ⟨st, B, op, st', r, ev, k⟩ => by
    simp only [evE] at ev
    obtain ⟨oa, st1, ob, st2, x, y, w, h1, h2, h3, h4, h5, h6⟩ := ev2 (k := fun (z : Op) st => (z, st)) (st2 := st') ev
    cases h6
    exact rG_of r h1 h2 h3 h4 h5 k
theorem cT_cmp {op : CmpOp} {o : Cop} (ho : OpR X (compareOp op) (rG X.K (cmpG o))) (ha : PE X a (tE X.K Φ ca)) (hb : PE X b (tE X.K Φ cb)) (hm : behindInMarks op b = false) : PT X (.Compare a [op] [b] pos) (tB X.K Φ (.cmp o ca cb)) :=
  pt_mono (pt_cmpR ho (pe_o ha) (pe_o hb) hm) fun σ H Q ⟨st, B, b, st', r, ev, k⟩ => by
    have ev := tst_some ev
    simp only [evE] at ev
    obtain ⟨oa, st1, ob, st2, x, y, w, h1, h2, h3, h4, h5, h6⟩ := ev2 (k := fun (z : Op) st => (z, st)) (st2 := st') ev
    cases h6
    exact rG_of r h1 h2 h3 h4 h5 fun v H' B' x o => ⟨b, rp_bl o, k H' B' x⟩
end

/-! ### 3. names, constants, displays -/
section
variable {X : Cx} {Φ : Tab} {pos : Pos}
theorem cE_var (i : Nat) {x : Str} (hN : X.N[i]? = some x := by rfl) (hv : Vis X.env.scope x := by first | exact Or.inl rfl | exact Or.inr (Or.inl rfl) | exact Or.inr (Or.inr rfl)) (hd : (x == ("__debug__" : Str)) = false := by decide)
    (hcd : (x == ("__classdict__" : Str)) = false := by decide) : PE X (.Name x pos) (tE X.K Φ (.var i)) :=
  pe_mono (pe_var hN hv hd hcd) fun σ H Q ⟨st, B, op, st', r, ev, k⟩ => by
    simp only [evE] at ev
    cases e : st[i]? with
    | none => rw [e] at ev; cases ev
    | some o =>
      cases o with
      | none => rw [e] at ev; cases ev
      | some sv =>
        rw [e] at ev
        obtain ⟨v, hv, q⟩ := r.at_ i sv e
        refine ⟨v, hv, ?_⟩
        have sl : sv.ptr = true → op = .sl i → st' = st → Q v H := fun hp e1 e2 => by
          subst e1 e2
          refine k v H B (Ext.refl r) ?_
          have q' := (SvR.of_ptr hp).mp q
          obtain ⟨p, o, e1, _, _, _⟩ := q'
          exact ⟨p, sv, e1, by rw [hv, e1], e, hp⟩
        cases sv with
        | val d =>
          simp only [Option.some.injEq, Prod.mk.injEq] at ev
          obtain ⟨rfl, rfl⟩ := ev
          exact k v H B (Ext.refl r) q
        | own d => simp only [Option.some.injEq, Prod.mk.injEq] at ev; exact sl rfl ev.1.symm ev.2.symm
        | par d => simp only [Option.some.injEq, Prod.mk.injEq] at ev; exact sl rfl ev.1.symm ev.2.symm
        | lck d => simp only [Option.some.injEq, Prod.mk.injEq] at ev; exact sl rfl ev.1.symm ev.2.symm
theorem cE_con {e : Expr} {v : V} {d : D} (h : PE X e (tC v)) (hr : ∀ B, Rp X.K B v d) : PE X e (tE X.K Φ (.con d)) :=
  pe_mono h fun σ H Q ⟨st, B, op, st', r, ev, k⟩ => by
    simp only [evE, Option.some.injEq, Prod.mk.injEq] at ev
    obtain ⟨rfl, rfl⟩ := ev
    exact k v H B (Ext.refl r) (hr B)
theorem cE_int {i : Int} {j : Nat} : PE X (.Constant (.int i) j pos) (tE X.K Φ (.con (.int i))) := cE_con pe_int fun _ => .int i
theorem cE_bl {i : Bool} {j : Nat} : PE X (.Constant (.bool i) j pos) (tE X.K Φ (.con (.bool i))) := cE_con pe_bl fun _ => .bl i
theorem cE_str {i : Str} {j : Nat} : PE X (.Constant (.str i) j pos) (tE X.K Φ (.con (.str i))) := cE_con pe_str fun _ => .str i
theorem cE_non {j : Nat} : PE X (.Constant .none j pos) (tE X.K Φ (.con .none)) := cE_con pe_non fun _ => .non

theorem pa_mono {es : List Expr} {t t' : TA} (h : PA X es t) (k : ∀ σ H Q, t' σ H Q → t σ H Q) : PA X es t' := ⟨fun pos pins s σ H Q I q => h.run pos pins s σ H Q I (k σ H Q q)⟩
theorem cA_nil : PA X [] (tEs X.K Φ .nil) := pa_mono pa_nil fun σ H Q ⟨st, B, xs, st', r, ev, k⟩ => by
  simp only [evEs, Option.some.injEq, Prod.mk.injEq] at ev
  obtain ⟨rfl, rfl⟩ := ev
  exact k [] H B (Ext.refl r) .nil
theorem cA_cons {e : Expr} {es : List Expr} {c : Ce} {cs : Ces} (ha : PE X e (tE X.K Φ c)) (hr : PA X es (tEs X.K Φ cs)) (hs : starEach (e :: es) X.env = (false, eval e X.env) :: starEach es X.env := by rfl) : PA X (e :: es) (tEs X.K Φ (.cons c cs)) :=
  pa_mono (pa_cons (pe_v ha) hr hs) fun σ H Q ⟨st, B, xs, st', r, ev, k⟩ => by
    simp only [evEs] at ev
    cases e1 : nmk (evE Φ c st) with
    | none => rw [e1] at ev; cases ev
    | some p =>
      obtain ⟨x, st1⟩ := p
      rw [e1] at ev
      simp only [Option.bind_some] at ev
      cases e2 : evEs Φ cs st1 with
      | none => rw [e2] at ev; cases ev
      | some q =>
        obtain ⟨ys, st2⟩ := q
        rw [e2] at ev
        simp only [Option.map_some, Option.some.injEq, Prod.mk.injEq] at ev
        obtain ⟨rfl, rfl⟩ := ev
        exact ⟨st, B, x, st1, r, e1, fun v H1 B1 x1 r1 => ⟨st1, B1, ys, st2, x1.rel, e2, fun vs H2 B2 x2 r2 => k _ H2 B2 (x1.trans x2) (.cons (r1.mono x2.bsub) r2)⟩⟩
theorem Alloc.tup {K : PySem.W.Frag} {H B : Hp} {p : Addr} {xs : List V} {ds : List D} (h : Same B H) (hp : H p = none) (r : RpAll K B xs ds) : Alloc K H B (.d (.tuple ds)) (.ref p) (upd H p (.tup xs)) (upd B p (.tup xs)) := by
  have g : Grow H B (upd H p (.tup xs)) (upd B p (.tup xs)) := Grow.new h hp
  exact .d g (.tup upd_same (r.mono g.bsub))
theorem Alloc.lst {K : PySem.W.Frag} {H B : Hp} {p : Addr} {xs : List V} {ds : List D} (h : Same B H) (hp : H p = none) (r : RpAll K B xs ds) : Alloc K H B (.fr (.list ds)) (.ref p) (upd H p (.lst xs)) B :=
  .fr (Grow.new' h hp) hp (h.free hp) upd_same (.lst r)
theorem Alloc.here {K : PySem.W.Frag} {H B : Hp} {v : V} {x : D} (h : Same B H) (r : Rp K B v x) : Alloc K H B (.d x) v H B := .d (Grow.refl h) r
theorem cE_tup {es : List Expr} {cs : Ces} {k : Nat} (h : PA X es (tEs X.K Φ cs)) : PE X (.Tuple es k pos) (tE X.K Φ (.tup cs)) :=
  pe_mono (pe_tup h) fun σ H Q ⟨st, B, op, st', r, ev, kk⟩ => by
    simp only [evE] at ev
    cases e1 : evEs Φ cs st with
    | none => rw [e1] at ev; cases ev
    | some p =>
      obtain ⟨xs, st1⟩ := p
      rw [e1] at ev
      simp only [Option.bind_some] at ev
      split at ev
      · rename_i hz
        simp only [Option.some.injEq, Prod.mk.injEq] at ev
        obtain ⟨rfl, rfl⟩ := ev
        exact ⟨st, B, xs, st1, r, e1, fun vs H1 B1 x1 r1 => ⟨by rw [r1.length]; exact hz, fun p hp => fin x1 (Alloc.tup x1.rel.sub hp r1) kk⟩⟩
      · cases ev
theorem cE_lst {es : List Expr} {cs : Ces} (h : PA X es (tEs X.K Φ cs)) : PE X (.List es pos) (tE X.K Φ (.lst cs)) :=
  pe_mono (pe_lst h) fun σ H Q ⟨st, B, op, st', r, ev, kk⟩ => by
    simp only [evE] at ev
    cases e1 : evEs Φ cs st with
    | none => rw [e1] at ev; cases ev
    | some p =>
      obtain ⟨xs, st1⟩ := p
      rw [e1] at ev
      simp only [Option.bind_some] at ev
      split at ev
      · rename_i hz
        simp only [Option.some.injEq, Prod.mk.injEq] at ev
        obtain ⟨rfl, rfl⟩ := ev
        exact ⟨st, B, xs, st1, r, e1, fun vs H1 B1 x1 r1 => ⟨by rw [r1.length]; exact hz, fun p hp => fin x1 (Alloc.lst x1.rel.sub hp r1) kk⟩⟩
      · cases ev
theorem cE_dict0 : PE X (.Dict [] [] pos) (tE X.K Φ .dict0) :=
  pe_mono pe_dnewK fun σ H Q ⟨st, B, op, st', r, ev, kk⟩ => by
    simp only [evE, Option.some.injEq, Prod.mk.injEq] at ev
    obtain ⟨rfl, rfl⟩ := ev
    exact fun p hp => fin (Ext.refl r) (.fr (Grow.new' r.sub hp) hp (r.sub.free hp) upd_same (.dK .nil)) kk
end

/-! ### 4. and, or, not, if else, minus -/
section
variable {X : Cx} {a b c : Expr} {Φ : Tab} {ca cb cc : Ce} {pos : Pos} {rest : List Expr}
theorem cT_v (h : PE X a (tE X.K Φ ca)) (he : ∀ whole, isTrue a X.env whole = (do let v ← whole; standAt a.pos; holding [v] (truthy v)) := by intro _; rfl) : PT X a (tB X.K Φ ca) := pt_v h he
theorem bindT {α : Type} {r : Option (Bool × Stt)} {k : Bool × Stt → Option α} {z : α} (h : r.bind k = some z) : ∃ b st1, r = some (b, st1) ∧ k (b, st1) = some z := by
  cases e : r with
  | none => rw [e] at h; cases h
  | some p => obtain ⟨b, st1⟩ := p; rw [e] at h; exact ⟨b, st1, rfl, h⟩
theorem pw_mono {t t' : TT} {e : Expr} (h : PW X e t) (k : ∀ σ H Q, t' σ H Q → t σ H Q) : PW X e t' := ⟨fun wh pins s σ H Q I q => h.run wh pins s σ H Q I (k σ H Q q)⟩
theorem cW_and (ha : PT X a (tB X.K Φ ca)) (hb : PW X (.BoolOp .And (b :: rest) pos) (tB X.K Φ cb)) : PW X (.BoolOp .And (a :: b :: rest) pos) (tB X.K Φ (.and_ ca cb)) :=
  pw_mono (pw_and ha hb) fun σ H Q ⟨st, B, z, st', r, ev, k⟩ => by
    have ev := tst_some ev
    simp only [evE] at ev
    obtain ⟨k1, st1, e1, ev⟩ := bindT ev
    refine ⟨st, B, k1, st1, r, e1, fun H1 B1 x1 => ?_⟩
    cases k1 with
    | false =>
      simp only [Option.some.injEq, Prod.mk.injEq, Op.d.injEq, PyData.bool.injEq] at ev
      obtain ⟨rfl, rfl⟩ := ev
      exact iteF (k H1 B1 x1)
    | true => exact iteT ⟨st1, B1, z, st', x1.rel, congrArg tst ev, fun H2 B2 x2 => k H2 B2 (x1.trans x2)⟩
theorem cW_or (ha : PT X a (tB X.K Φ ca)) (hb : PW X (.BoolOp .Or (b :: rest) pos) (tB X.K Φ cb)) : PW X (.BoolOp .Or (a :: b :: rest) pos) (tB X.K Φ (.or_ ca cb)) :=
  pw_mono (pw_or ha hb) fun σ H Q ⟨st, B, z, st', r, ev, k⟩ => by
    have ev := tst_some ev
    simp only [evE] at ev
    obtain ⟨k1, st1, e1, ev⟩ := bindT ev
    refine ⟨st, B, k1, st1, r, e1, fun H1 B1 x1 => ?_⟩
    cases k1 with
    | true =>
      simp only [Option.some.injEq, Prod.mk.injEq, Op.d.injEq, PyData.bool.injEq] at ev
      obtain ⟨rfl, rfl⟩ := ev
      exact iteT (k H1 B1 x1)
    | false => exact iteF ⟨st1, B1, z, st', x1.rel, congrArg tst ev, fun H2 B2 x2 => k H2 B2 (x1.trans x2)⟩
theorem cW_and1 (ha : PT X a (tB X.K Φ ca)) : PW X (.BoolOp .And [a] pos) (tB X.K Φ ca) := pw_and1 ha
theorem cW_or1 (ha : PT X a (tB X.K Φ ca)) : PW X (.BoolOp .Or [a] pos) (tB X.K Φ ca) := pw_or1 ha
theorem cT_not (ha : PT X a (tB X.K Φ ca)) : PT X (.UnaryOp .Not a pos) (tB X.K Φ (.not_ ca)) :=
  pt_mono (pt_not ha) fun σ H Q ⟨st, B, z, st', r, ev, k⟩ => by
    have ev := tst_some ev
    simp only [evE] at ev
    cases e1 : tst (evE Φ ca st) with
    | none => rw [e1] at ev; cases ev
    | some p =>
      obtain ⟨b, st1⟩ := p
      rw [e1] at ev
      simp only [Option.map_some, Option.some.injEq, Prod.mk.injEq, Op.d.injEq, PyData.bool.injEq] at ev
      obtain ⟨rfl, rfl⟩ := ev
      exact ⟨st, B, b, st1, r, e1, k⟩
theorem tbv (σ : St) (H : Hp) (Q : VK) {f : Stt → Option (Op × Stt)} {R : Bool → Hp → Prop} (h : tT X.K (fun st => tst (f st)) σ H R) : tG X.K f σ H fun x H1 => ∃ c, x = .bl c ∧ R c H1 := by
  obtain ⟨st, B, b, st', r, ev, k⟩ := h
  exact ⟨st, B, _, st', r, tst_some ev, fun v H' B' x o => ⟨b, rp_bl o, k H' B' x⟩⟩
/-- as values -/
theorem cE_not (ha : PE X a (tE X.K Φ ca)) : PE X (.UnaryOp .Not a pos) (tE X.K Φ (.not_ ca)) :=
  pe_mono (pe_not ha) fun σ H Q ⟨st, B, op, st', r, ev, k⟩ => by
    simp only [evE] at ev
    cases e1 : tst (evE Φ ca st) with
    | none => rw [e1] at ev; cases ev
    | some p =>
      obtain ⟨b, st1⟩ := p
      rw [e1] at ev
      simp only [Option.map_some, Option.some.injEq, Prod.mk.injEq] at ev
      obtain ⟨rfl, rfl⟩ := ev
      exact tbv (X := X) σ H Q ⟨st, B, b, st1, r, e1, fun H1 B1 x1 => k _ H1 B1 x1 (.bl _)⟩
theorem cE_and (ha : PE X a (tE X.K Φ ca)) (hb : PE X (.BoolOp .And (b :: rest) pos) (tE X.K Φ cb)) : PE X (.BoolOp .And (a :: b :: rest) pos) (tE X.K Φ (.and_ ca cb)) :=
  pe_mono (pe_and ha hb) fun σ H Q ⟨st, B, op, st', r, ev, k⟩ => by
    simp only [evE] at ev
    obtain ⟨k1, st1, e1, ev⟩ := bindT ev
    refine tbv (X := X) σ H Q ⟨st, B, k1, st1, r, e1, fun H1 B1 x1 => ?_⟩
    cases k1 with
    | false =>
      simp only [Option.some.injEq, Prod.mk.injEq] at ev
      obtain ⟨rfl, rfl⟩ := ev
      exact iteF (k _ H1 B1 x1 (.bl _))
    | true => exact iteT ⟨st1, B1, op, st', x1.rel, ev, fun v H2 B2 x2 o => k v H2 B2 (x1.trans x2) (o.lift x1.there)⟩
theorem cE_or (ha : PE X a (tE X.K Φ ca)) (hb : PE X (.BoolOp .Or (b :: rest) pos) (tE X.K Φ cb)) : PE X (.BoolOp .Or (a :: b :: rest) pos) (tE X.K Φ (.or_ ca cb)) :=
  pe_mono (pe_or ha hb) fun σ H Q ⟨st, B, op, st', r, ev, k⟩ => by
    simp only [evE] at ev
    obtain ⟨k1, st1, e1, ev⟩ := bindT ev
    refine tbv (X := X) σ H Q ⟨st, B, k1, st1, r, e1, fun H1 B1 x1 => ?_⟩
    cases k1 with
    | true =>
      simp only [Option.some.injEq, Prod.mk.injEq] at ev
      obtain ⟨rfl, rfl⟩ := ev
      exact iteT (k _ H1 B1 x1 (.bl _))
    | false => exact iteF ⟨st1, B1, op, st', x1.rel, ev, fun v H2 B2 x2 o => k v H2 B2 (x1.trans x2) (o.lift x1.there)⟩
theorem cE_one {op : BoolOp} (ha : PE X a (tE X.K Φ ca)) : PE X (.BoolOp op [a] pos) (tE X.K Φ ca) := pe_one ha
theorem cE_ite (hc : PT X c (tB X.K Φ cc)) (ha : PE X a (tE X.K Φ ca)) (hb : PE X b (tE X.K Φ cb)) : PE X (.IfExp c a b pos) (tE X.K Φ (.ite cc ca cb)) :=
  pe_mono (pe_ifExp hc ha hb) fun σ H Q ⟨st, B, op, st', r, ev, k⟩ => by
    simp only [evE] at ev
    obtain ⟨k1, st1, e1, ev⟩ := bindT ev
    refine ⟨st, B, k1, st1, r, e1, fun H1 B1 x1 => ?_⟩
    cases k1 with
    | true => exact iteT ⟨st1, B1, op, st', x1.rel, ev, fun v H2 B2 x2 o => k v H2 B2 (x1.trans x2) (o.lift x1.there)⟩
    | false => exact iteF ⟨st1, B1, op, st', x1.rel, ev, fun v H2 B2 x2 o => k v H2 B2 (x1.trans x2) (o.lift x1.there)⟩
theorem intOf_some {x : D} {i : Int} (h : intOf x = some i) : x = .int i := by
  cases x <;> simp [intOf] at h
  rw [h]
theorem cE_neg (ha : PE X a (tE X.K Φ ca)) : PE X (.UnaryOp .USub a pos) (tE X.K Φ (.neg ca)) :=
  pe_mono (pe_un un_neg (pe_v ha)) fun σ H Q ⟨st, B, op, st', r, ev, k⟩ => by
    simp only [evE] at ev
    cases e1 : nmk (evE Φ ca st) with
    | none => rw [e1] at ev; cases ev
    | some p =>
      obtain ⟨x, st1⟩ := p
      rw [e1] at ev
      simp only [Option.bind_some] at ev
      cases e2 : intOf x with
      | none => rw [e2] at ev; cases ev
      | some i =>
        rw [e2] at ev
        obtain rfl := intOf_some e2
        simp only [Option.map_some, Option.some.injEq, Prod.mk.injEq] at ev
        obtain ⟨rfl, rfl⟩ := ev
        exact ⟨st, B, _, st1, r, e1, fun v H1 B1 x1 o => ⟨i, rp_int o, k _ H1 B1 x1 (.int _)⟩⟩
end
end PD

set_option Elab.async false
set_option linter.all false
set_option maxRecDepth 100000
/-! PD4: the operations of the text do what the code's operations tell. -/
namespace PD
open PySem L2 PySem.Spec

/-! ### 1. data that read off the machine's heap -/
def noDict : D → Bool := PyData.canLay0
section
variable {X : Cx} {pins : List (Addr × Obj)} {σ : L2.St} {H B : Hp} {s : Shared}
mutual
theorem Rp.reads (I : Inv X pins σ H s) (hs : Same B H) : ∀ (d : D) (v : V) (u : Value), Rp X.K B v d → RelV v u → (∀ kvs, d ≠ .dict kvs) → (∀ xs, (d = .list xs ∨ d = .tuple xs) → PyData.canLayAll0 xs = true) → ∃ as, Reads s.heap u d as
  | .none, _, _, h, r, _, _ => by cases h; cases r; exact ⟨_, Reads.none⟩
  | .bool b, _, _, h, r, _, _ => by cases h; cases r; exact ⟨_, Reads.bool b⟩
  | .int i, _, _, h, r, _, _ => by cases h; obtain ⟨t, rfl⟩ := r; exact ⟨_, Reads.int i t⟩
  | .str x, _, _, h, r, _, _ => by cases h; obtain ⟨t, rfl⟩ := r; exact ⟨_, Reads.str x t⟩
  | .list ds, _, _, h, r, _, hc => by
    cases h with
    | lst hq ha =>
      cases r
      obtain ⟨its, rv, ⟨o, n, ho, hcl, _, hd⟩, _⟩ := I.list (hs.seq hq)
      obtain ⟨as, hr⟩ := RpAll.reads I hs ds _ its ha rv (hc ds (.inl rfl))
      exact ⟨_, Reads.list ho hcl hd hr⟩
  | .tuple ds, _, _, h, r, _, hc => by
    cases h with
    | tup hq ha =>
      cases r
      obtain ⟨its, rv, ⟨o, ho, hcl, n, hd⟩, _⟩ := I.tuple (SqT.of (hs _ _ hq))
      obtain ⟨as, hr⟩ := RpAll.reads I hs ds _ its ha rv (hc ds (.inr rfl))
      exact ⟨_, Reads.tuple ho hcl hd hr⟩
  | .dict kvs, _, _, _, _, nd, _ => absurd rfl (nd kvs)
theorem RpAll.reads (I : Inv X pins σ H s) (hs : Same B H) : ∀ (ds : List D) (vs : List V) (us : List Value), RpAll X.K B vs ds → Vals vs us → PyData.canLayAll0 ds = true → ∃ as, ReadsAll s.heap us ds as
  | [], _, _, h, r, _ => by cases h; cases r; exact ⟨_, ReadsAll.nil⟩
  | d :: ds, _, _, h, r, hc => by
    have hc' : PyData.canLay0 d = true ∧ PyData.canLayAll0 ds = true := by
      rw [PyData.canLayAll0, Bool.and_eq_true] at hc; exact hc
    cases h with
    | cons h1 h2 =>
      cases r with
      | cons r1 r2 =>
        obtain ⟨as, q1⟩ := Rp.reads I hs d _ _ h1 r1 (fun kvs e => by subst e; have := hc'.1; simp [PyData.canLay0] at this) (fun xs e => by
          have := hc'.1
          rcases e with rfl | rfl <;> simpa [PyData.canLay0] using this)
        obtain ⟨bs, q2⟩ := RpAll.reads I hs ds _ _ h2 r2 hc'.2
        exact ⟨_, ReadsAll.cons q1 q2⟩
end
theorem Rp.reads0 (I : Inv X pins σ H s) (hs : Same B H) {d : D} {v : V} {u : Value} (h : Rp X.K B v d) (r : RelV v u) (c : d.canLay0 = true) : ∃ as, Reads s.heap u d as :=
  Rp.reads I hs d v u h r (fun kvs e => by subst e; simp [PyData.canLay0] at c) (fun xs e => by rcases e with rfl | rfl <;> simpa [PyData.canLay0] using c)
theorem Cr.reads (I : Inv X pins σ H s) (hs : Same B H) {d : D} {v : V} {u : Value} (h : Cr X.K H B v d) (r : RelV v u) (c : d.canLay0 = true) : ∃ as, Reads s.heap u d as :=
  Rp.reads0 I (Same.refl H) (h.rp hs) r c
theorem shaped_lay {d : D} (h : SeqAt.shaped d = true) : d.canLay0 = true := by
  unfold SeqAt.shaped at h
  rw [Bool.and_eq_true] at h
  exact h.1
mutual
theorem alike_nodict : ∀ d : D, PySem.W.alike d d = true → ∀ kvs, d ≠ .dict kvs
  | .dict kvs, h, _ => by simp [PySem.W.alike] at h
  | .none, _, _ => nofun
  | .bool _, _, _ => nofun
  | .int _, _, _ => nofun
  | .str _, _, _ => nofun
  | .list _, _, _ => nofun
  | .tuple _, _, _ => nofun
end
end

/-! ### 2. what stands at a value -/
section
variable {K : PySem.W.Frag} {H B : Hp} {v : V}
theorem Cr.list {xs : List D} (hs : Same B H) (h : Cr K H B v (.list xs)) : ∃ a vs, v = .ref a ∧ SqL K H a vs ∧ RpAll K B vs xs := by
  rcases h with h | ⟨p, o, rfl, hp, r⟩
  · cases h with | lst a r => exact ⟨_, _, rfl, hs.seq a, r⟩
  · cases r with | lst r => exact ⟨p, _, rfl, SqL.of hp, r⟩
theorem Cr.tuple {xs : List D} (hs : Same B H) (h : Cr K H B v (.tuple xs)) : ∃ a vs, v = .ref a ∧ B a = some (.tup vs) ∧ H a = some (.tup vs) ∧ RpAll K B vs xs := by
  rcases h with h | ⟨p, o, rfl, hp, r⟩
  · cases h with | tup a r => exact ⟨_, _, rfl, a, hs _ _ a, r⟩
  · cases r
theorem Cr.int {i : Int} (h : Cr K H B v (.int i)) : v = .int i := by
  rcases h with h | ⟨p, o, rfl, hp, r⟩
  · exact rp_int h
  · cases r
theorem Cr.bool {i : Bool} (h : Cr K H B v (.bool i)) : v = .bl i := by
  rcases h with h | ⟨p, o, rfl, hp, r⟩
  · exact rp_bl h
  · cases r
theorem Cr.str {i : Str} (h : Cr K H B v (.str i)) : v = .str i := by
  rcases h with h | ⟨p, o, rfl, hp, r⟩
  · exact rp_str h
  · cases r
theorem Cr.none' (h : Cr K H B v .none) : v = .non := by
  rcases h with h | ⟨p, o, rfl, hp, r⟩
  · exact rp_non h
  · cases r
theorem Cr.non_iff {d : D} (h : Cr K H B v d) : decide (v = .non) = isNone d := by
  rcases h with h | ⟨p, o, rfl, hp, r⟩
  · cases h <;> simp [isNone]
  · cases r <;> simp [isNone]
theorem Cr.dict {kvs : List (D × D)} (hs : Same B H) (h : Cr K H B v (.dict kvs)) : ∃ a, v = .ref a ∧ ((∃ ks, H a = some (.dK ks) ∧ RpK K B ks kvs) ∨ ∃ ks, H a = some (.dT ks) ∧ RpT K B ks kvs) := by
  rcases h with h | ⟨p, o, rfl, hp, r⟩
  · cases h with
    | dK a r => exact ⟨_, rfl, .inl ⟨_, hs _ _ a, r⟩⟩
    | dT a r => exact ⟨_, rfl, .inr ⟨_, hs _ _ a, r⟩⟩
  · cases r with
    | dK r => exact ⟨p, rfl, .inl ⟨_, hp, r⟩⟩
    | dT r => exact ⟨p, rfl, .inr ⟨_, hp, r⟩⟩
end

/-! ### 3. two-place operators -/
section
variable {X : Cx}
theorem opR_rG {f : Value → Value → Sem Value} {g : D → D → Option Op}
    (h : ∀ (pins : List (Addr × Obj)) (s : Shared) (σ : L2.St) (H B : Hp) (x y : V) (v u : Value) (Q : VK) (dx dy : D) (op : Op), Inv X pins σ H s → RelV x v → RelV y u → Same B H → Cr X.K H B x dx → Cr X.K H B y dy → g dx dy = some op →
      (∀ v H' B', Alloc X.K H B op v H' B' → Q v H') → wpAny (model X.prog X.w) X.A (f v u) (EP X pins σ Q) X.xe s) : OpR X f (rG X.K g) := by
  rintro pins s σ H x y v u Q I rx ry ⟨B, dx, dy, op, hs, cx, cy, e, k⟩
  exact h pins s σ H B x y v u Q dx dy op I rx ry hs cx cy e k
/-- two numbers -/
theorem intI {f : Value → Value → Sem Value} {o : Bop} {C : Int → Int → Prop} {g : Int → Int → Int} (h : OpR X f (rI C fun i j => .int (g i j)))
    (hb : ∀ dx dy op, binop o dx dy = some op → ∃ i j, dx = .int i ∧ dy = .int j ∧ C i j ∧ op = .d (.int (g i j))) : OpR X f (rG X.K (binop o)) :=
  opR_rG fun pins s σ H B x y v u Q dx dy op I rx ry hs cx cy e k => by
    obtain ⟨i, j, rfl, rfl, c, rfl⟩ := hb dx dy op e
    exact h pins s σ H x y v u Q I rx ry ⟨i, j, cx.int, cy.int, c, k _ H B (Alloc.here hs (.int _))⟩
theorem intI0 {f : Value → Value → Sem Value} {o : Bop} {g : Int → Int → Int} (h : OpR X f (rI0 fun i j => .int (g i j)))
    (hb : ∀ dx dy op, binop o dx dy = some op → ∃ i j, dx = .int i ∧ dy = .int j ∧ op = .d (.int (g i j))) : OpR X f (rG X.K (binop o)) :=
  opR_rG fun pins s σ H B x y v u Q dx dy op I rx ry hs cx cy e k => by
    obtain ⟨i, j, rfl, rfl, rfl⟩ := hb dx dy op e
    exact h pins s σ H x y v u Q I rx ry ⟨i, j, cx.int, cy.int, k _ H B (Alloc.here hs (.int _))⟩
theorem o_sub : OpR X (binaryOp .Sub) (rG X.K (binop .sub)) := intI0 op_sub fun dx dy op e => by
  unfold binop at e; split at e <;> simp_all
theorem o_xor : OpR X (binaryOp .BitXor) (rG X.K (binop .xor)) := intI0 op_xor fun dx dy op e => by
  unfold binop at e; split at e <;> simp_all
theorem o_band : OpR X (binaryOp .BitAnd) (rG X.K (binop .band)) := intI0 op_and fun dx dy op e => by
  unfold binop at e; split at e <;> simp_all
theorem o_mul : OpR X (binaryOp .Mult) (rG X.K (binop .mul)) := intI op_mul fun dx dy op e => by
  unfold binop at e
  split at e <;> simp_all [small64, CMul]
theorem o_fdiv : OpR X (binaryOp .FloorDiv) (rG X.K (binop .fdiv)) := intI op_fdivN fun dx dy op e => by
  unfold binop at e
  split at e <;> simp_all [CDivN]
theorem o_mod : OpR X (binaryOp .Mod) (rG X.K (binop .mod)) := intI op_modN fun dx dy op e => by
  unfold binop at e
  split at e <;> simp_all
theorem o_pow : OpR X (binaryOp .Pow) (rG X.K (binop .pow)) := intI op_pow fun dx dy op e => by
  unfold binop at e
  split at e <;> simp_all [CPow]
theorem o_shl : OpR X (binaryOp .LShift) (rG X.K (binop .shl)) := intI op_shl fun dx dy op e => by
  unfold binop at e
  split at e <;> simp_all [CPow]
theorem o_shr : OpR X (binaryOp .RShift) (rG X.K (binop .shr)) := intI op_shr fun dx dy op e => by
  unfold binop at e
  split at e <;> simp_all
theorem binop_add {dx dy : D} {op : Op} (e : binop .add dx dy = some op) :
    (∃ i j, dx = .int i ∧ dy = .int j ∧ op = .d (.int (i + j))) ∨ (∃ xs ys, dx = .list xs ∧ dy = .list ys ∧ xs.length + ys.length ≤ sizeLine ∧ op = .fr (.list (xs ++ ys))) ∨
    ∃ xs ys, dx = .tuple xs ∧ dy = .tuple ys ∧ xs ≠ [] ∧ xs.length + ys.length ≤ sizeLine ∧ op = .d (.tuple (xs ++ ys)) := by
  unfold binop at e
  split at e <;> simp_all
/-- + of numbers, lists, tuples -/
theorem o_add : OpR X (binaryOp .Add) (rG X.K (binop .add)) := opR_rG fun pins s σ H B x y v u Q dx dy op I rx ry hs cx cy e k => by
  rcases binop_add e with ⟨i, j, rfl, rfl, rfl⟩ | ⟨xs, ys, rfl, rfl, hz, rfl⟩ | ⟨xs, ys, rfl, rfl, hne, hz, rfl⟩
  · exact op_add pins s σ H x y v u Q I rx ry ⟨i, j, cx.int, cy.int, k _ H B (Alloc.here hs (.int _))⟩
  · obtain ⟨a, vs, rfl, qa, ra⟩ := cx.list hs
    obtain ⟨b, ws, rfl, qb, rb⟩ := cy.list hs
    cases rx
    cases ry
    obtain ⟨its, r1, ⟨⟨c1, d1, t1, l1⟩, n1, g1, e1, _, f1⟩, _⟩ := I.list qa
    obtain ⟨it2, r2, ⟨⟨c2, d2, t2, l2⟩, n2, g2, e2, _, f2⟩, _⟩ := I.list qb
    simp only at e1 f1 e2 f2
    subst e1 f1 e2 f2
    have hz' : its.length + it2.length ≤ sizeLine := by
      rw [← r1.length, ← r2.length, ra.length, rb.length]; exact hz
    refine concat_meets ⟨_, g1, rfl⟩ ⟨_, g2, rfl⟩ noFill_list_add seq_list_add PySem.F.slot_list_add PySem.F.entry_list_add (PySem.F.args_list_add_2 _ _)
      (PyProof.Rows.list_addW a b its.toArray it2.toArray n1 n2 d1 d2 l1 l2 (by simpa using hz')) ⟨g1, g2, ?_⟩
    have ea : its.toArray ++ it2.toArray = (its ++ it2).toArray := by simp
    rw [ea]
    exact ⟨.ref _, _, I.lnew (t' := s.toks) (r1.append r2) (by rw [List.length_append, ra.length, rb.length]; exact hz), rfl, k _ _ _ (Alloc.lst hs I.fresh (ra.append rb))⟩
  · obtain ⟨a, vs, rfl, qa', qa, ra⟩ := cx.tuple hs
    obtain ⟨b, ws, rfl, _, qb, rb⟩ := cy.tuple hs
    refine op_catT pins s σ H _ _ v u Q I rx ry ⟨a, b, vs, ws, rfl, rfl, SqT.of qa, SqT.of qb, ?_, ?_, fun z => ?_, fun z p hp => ?_⟩
    · rintro rfl; cases ra; exact hne rfl
    · rw [ra.length, rb.length]; exact hz
    · subst z
      cases rb
      rw [List.append_nil] at k
      exact k _ H B (Alloc.here hs (.tup qa' ra))
    · exact k _ _ _ (Alloc.tup hs hp (ra.append rb))
end

/-! ### 4. dicts -/
theorem dkey_keyD (k : Key) : dkey (keyD k) = some (.inl k) := by cases k <;> rfl
theorem fkeys_map : ∀ ks : List Key, fkeys (ks.map keyD) = some ks
  | [] => rfl
  | k :: ks => by
    show (fkey (keyD k)).bind _ = _
    have e : fkey (keyD k) = some k := by cases k <;> rfl
    rw [e, Option.bind_some, fkeys_map ks]
    rfl
theorem dkey_tup (ks : List Key) : dkey (.tuple (ks.map keyD)) = some (.inr ks) := by
  show (fkeys (ks.map keyD)).map _ = _
  rw [fkeys_map]; rfl
theorem fkey_some {d : D} {k : Key} (h : fkey d = some k) : d = keyD k := by
  cases d <;> simp [fkey] at h <;> subst h <;> rfl
theorem fkeys_some : ∀ {ds : List D} {ks : List Key}, fkeys ds = some ks → ds = ks.map keyD
  | [], ks, h => by simp [fkeys] at h; subst h; rfl
  | d :: ds, ks, h => by
    unfold fkeys at h
    cases e1 : fkey d with
    | none => rw [e1] at h; cases h
    | some k =>
      rw [e1, Option.bind_some] at h
      cases e2 : fkeys ds with
      | none => rw [e2] at h; cases h
      | some r =>
        rw [e2] at h
        simp only [Option.map_some, Option.some.injEq] at h
        subst h
        rw [fkey_some e1, fkeys_some e2]; rfl
theorem kkind_false {y : D} (h : kkind y = some false) : ∃ k, y = keyD k := by
  cases y <;> simp [kkind] at h
  · exact ⟨.inl _, rfl⟩
  · exact ⟨.inr _, rfl⟩
theorem kkind_true {y : D} (h : kkind y = some true) : ∃ ks, y = .tuple (List.map keyD ks) := by
  cases y <;> simp [kkind] at h
  rename_i ds
  obtain ⟨ks, e⟩ := h
  exact ⟨ks, by rw [fkeys_some e]⟩
section
variable {K : PySem.W.Frag} {B H : Hp}
theorem rp_key {v : V} {k : Key} (h : Rp K B v (keyD k)) : v = kV k := by
  cases k
  · exact rp_int h
  · exact rp_str h
theorem key_rp (k : Key) : Rp K B (kV k) (keyD k) := by
  cases k
  · exact .int _
  · exact .str _
theorem rpAll_keys : ∀ {xs : List V} {ks : List Key}, RpAll K B xs (ks.map keyD) → xs = ks.map kV
  | _, [], h => by cases h; rfl
  | _, k :: ks, h => by
    cases h with
    | cons a r => rw [rp_key a, rpAll_keys r]; rfl
theorem rp_tupkey {v : V} {ks : List Key} (h : Rp K B v (.tuple (ks.map keyD))) : ∃ b, v = .ref b ∧ B b = some (.tup (ks.map kV)) := by
  cases h with
  | tup a r => rw [rpAll_keys r] at a; exact ⟨_, rfl, a⟩
theorem dlook_nil (y : D) : dlook [] y = none := rfl
theorem dlook_cons (p : D × D) (r : List (D × D)) (y : D) : dlook (p :: r) y = if dkey p.1 = dkey y then some p.2 else dlook r y := by
  unfold dlook
  rw [List.find?_cons]
  by_cases h : dkey p.1 = dkey y
  · simp [h]
  · simp [h]
/-- what is looked up on both sides -/
def LookR (K : PySem.W.Frag) (B : Hp) : Option V → Option D → Prop
  | some v, some d => Rp K B v d
  | none, none => True
  | _, _ => False
theorem LookR.isSome {o : Option V} {d : Option D} (h : LookR K B o d) : o.isSome = d.isSome := by
  cases o <;> cases d <;> simp_all [LookR]
theorem RpK.look : ∀ {ks : List (Key × V)} {kvs : List (D × D)} (k : Key), RpK K B ks kvs → LookR K B (valV ks k) (dlook kvs (keyD k))
  | _, _, k, .nil => trivial
  | (k', v) :: r, (_, d) :: ds, k, .cons a r' => by
    rw [dlook_cons, dkey_keyD, dkey_keyD]
    by_cases e : k' = k
    · subst e; rw [if_pos rfl, valV_pos rfl]; exact a
    · rw [if_neg (fun z => e (by injection z with z; injection z)), valV_neg e]; exact RpK.look k r'
theorem RpT.look : ∀ {ks : List (List Key × V)} {kvs : List (D × D)} (k : List Key), RpT K B ks kvs → LookR K B (valV ks k) (dlook kvs (.tuple (k.map keyD)))
  | _, _, k, .nil => trivial
  | (k', v) :: r, (_, d) :: ds, k, .cons a r' => by
    rw [dlook_cons, dkey_tup, dkey_tup]
    by_cases e : k' = k
    · subst e; rw [if_pos rfl, valV_pos rfl]; exact a
    · rw [if_neg (fun z => e (by injection z with z; injection z)), valV_neg e]; exact RpT.look k r'
theorem RpK.any : ∀ {ks : List (Key × V)} {kvs : List (D × D)} (k : Key), RpK K B ks kvs → (kvs.any fun p => decide (dkey p.1 = dkey (keyD k))) = ks.any fun kv => decide (kv.1 = k)
  | _, _, k, .nil => rfl
  | (k', v) :: r, (_, d) :: ds, k, .cons a r' => by
    rw [List.any_cons, List.any_cons, RpK.any k r', dkey_keyD, dkey_keyD]
    congr 1
    by_cases e : k' = k <;> simp [e]
theorem RpT.any : ∀ {ks : List (List Key × V)} {kvs : List (D × D)} (k : List Key), RpT K B ks kvs → (kvs.any fun p => decide (dkey p.1 = dkey (.tuple (k.map keyD)))) = ks.any fun kv => decide (kv.1 = k)
  | _, _, k, .nil => rfl
  | (k', v) :: r, (_, d) :: ds, k, .cons a r' => by
    rw [List.any_cons, List.any_cons, RpT.any k r', dkey_tup, dkey_tup]
    congr 1
    by_cases e : k' = k <;> simp [e]
theorem RpK.repl {v : V} {d : D} (a : Rp K B v d) (k : Key) : ∀ {ks : List (Key × V)} {kvs : List (D × D)}, RpK K B ks kvs →
    RpK K B (ks.map fun kv => if kv.1 = k then (kv.1, v) else kv) (kvs.map fun p => if dkey p.1 = dkey (keyD k) then (p.1, d) else p)
  | _, _, .nil => .nil
  | (k', v') :: r, (_, d') :: ds, .cons a' r' => by
    rw [List.map_cons, List.map_cons]
    by_cases e : k' = k
    · subst e; rw [if_pos rfl, if_pos rfl]; exact .cons a (RpK.repl a k' r')
    · rw [if_neg e, if_neg (fun z => e (by rw [dkey_keyD, dkey_keyD] at z; injection z with z; injection z))]; exact .cons a' (RpK.repl a k r')
theorem RpT.repl {v : V} {d : D} (a : Rp K B v d) (k : List Key) : ∀ {ks : List (List Key × V)} {kvs : List (D × D)}, RpT K B ks kvs →
    RpT K B (ks.map fun kv => if kv.1 = k then (kv.1, v) else kv) (kvs.map fun p => if dkey p.1 = dkey (.tuple (k.map keyD)) then (p.1, d) else p)
  | _, _, .nil => .nil
  | (k', v') :: r, (_, d') :: ds, .cons a' r' => by
    rw [List.map_cons, List.map_cons]
    by_cases e : k' = k
    · subst e; rw [if_pos rfl, if_pos rfl]; exact .cons a (RpT.repl a k' r')
    · rw [if_neg e, if_neg (fun z => e (by rw [dkey_tup, dkey_tup] at z; injection z with z; injection z))]; exact .cons a' (RpT.repl a k r')
theorem RpK.append : ∀ {ks ls : List (Key × V)} {kvs lvs : List (D × D)}, RpK K B ks kvs → RpK K B ls lvs → RpK K B (ks ++ ls) (kvs ++ lvs)
  | _, _, _, _, .nil, s => s
  | _, _, _, _, .cons a r, s => .cons a (RpK.append r s)
theorem RpT.append : ∀ {ks ls : List (List Key × V)} {kvs lvs : List (D × D)}, RpT K B ks kvs → RpT K B ls lvs → RpT K B (ks ++ ls) (kvs ++ lvs)
  | _, _, _, _, .nil, s => s
  | _, _, _, _, .cons a r, s => .cons a (RpT.append r s)
theorem RpK.put {v : V} {d : D} {ks : List (Key × V)} {kvs : List (D × D)} (r : RpK K B ks kvs) (k : Key) (a : Rp K B v d) : RpK K B (putK ks k v) (dput kvs (keyD k) d) := by
  unfold putK dput
  rw [r.any k]
  split
  · exact r.repl a k
  · exact r.append (.cons a .nil)
theorem RpT.put {v : V} {d : D} {ks : List (List Key × V)} {kvs : List (D × D)} (r : RpT K B ks kvs) (k : List Key) (a : Rp K B v d) : RpT K B (putK ks k v) (dput kvs (.tuple (k.map keyD)) d) := by
  unfold putK dput
  rw [r.any k]
  split
  · exact r.repl a k
  · exact r.append (.cons a .nil)
theorem RpK.length : ∀ {ks : List (Key × V)} {kvs : List (D × D)}, RpK K B ks kvs → ks.length = kvs.length
  | _, _, .nil => rfl
  | _, _, .cons _ r => by simp [RpK.length r]
theorem RpT.length : ∀ {ks : List (List Key × V)} {kvs : List (D × D)}, RpT K B ks kvs → ks.length = kvs.length
  | _, _, .nil => rfl
  | _, _, .cons _ r => by simp [RpT.length r]
theorem RpK.kind {ks : List (Key × V)} {kvs : List (D × D)} (r : RpK K B ks kvs) : ks = [] ∧ kvs = [] ∨ dkind kvs = some false := by
  cases r with
  | nil => exact .inl ⟨rfl, rfl⟩
  | cons a r => rename_i k _ _ _ _; exact .inr (by cases k <;> rfl)
theorem RpT.kind {ks : List (List Key × V)} {kvs : List (D × D)} (r : RpT K B ks kvs) : ks = [] ∧ kvs = [] ∨ dkind kvs = some true := by
  cases r with
  | nil => exact .inl ⟨rfl, rfl⟩
  | cons a r => exact .inr rfl
end
section
variable {X : Cx} {pins : List (Addr × Obj)} {σ : L2.St} {H B : Hp} {s : Shared} {a : Addr}
/-- an empty dict is of either kind -/
theorem retypeT (I : Inv X pins σ H s) (h : H a = some (.dK [])) : Inv X pins σ (upd H a (.dT [])) s := by
  obtain ⟨_, h2, vs, h3, o, es, ep, h4, h5, h6, _, h8, _⟩ := I.hok a _ h
  cases h3
  have h9 : es.toList = [] := by
    generalize es.toList = l at h8
    cases h8
    rfl
  exact I.write (x := a) (e := a) (t' := s.toks) (by rw [h]; trivial) (.inl rfl) (fun _ _ _ q => q) ⟨o, h4⟩ ⟨Nat.zero_le _, h2, [], .nil, o, es, ep, h4, h5, h6, h9, List.nodup_nil⟩
theorem retypeK (I : Inv X pins σ H s) (h : H a = some (.dT [])) : Inv X pins σ (upd H a (.dK [])) s := by
  obtain ⟨_, h2, xs, h3, o, es, ep, h4, h5, h6, h7, _⟩ := I.hok a _ h
  cases h3
  have h9 : es = #[] := by cases es; simpa using h7
  subst h9
  refine I.write (x := a) (e := a) (t' := s.toks) (by rw [h]; trivial) (.inl rfl) (fun _ _ _ q => q) ⟨o, h4⟩ ⟨Nat.zero_le _, h2, [], .nil, o, #[], ep, h4, h5, h6, ?_, ?_, List.nodup_nil⟩
  · intro e he
    simp at he
  · exact .nil
/-- for a while of the other kind -/
theorem Inv.swap (I : Inv X pins σ H s) {ks : List (D × D)} (h : (∃ ks', H a = some (.dK ks') ∧ RpK X.K B ks' ks) ∨ ∃ ks', H a = some (.dT ks') ∧ RpT X.K B ks' ks) {y : D} {yv : V} (ry : Rp X.K H yv y) (ok : kindOk ks y = true) :
    ∃ H', Inv X pins σ H' s ∧ (∃ o, DGet H' a yv o ∧ LookR X.K B o (dlook ks y)) ∧ (∀ s', Inv X pins σ H' s' → Inv X pins σ H s') ∧
      (H' = H ∨ ((H a = some (.dK []) ∨ H a = some (.dT [])) ∧ (H' = upd H a (.dK []) ∨ H' = upd H a (.dT [])))) := by
  have keep : ∀ {u : HO} {b : Addr} {xs : List V}, (H a = some (.dK []) ∨ H a = some (.dT [])) → H b = some (.tup xs) → upd H a u b = some (.tup xs) := fun {u b xs} ha hb => by
    rw [upd_ne]
    · exact hb
    · rintro rfl
      rcases ha with e | e <;> (rw [hb] at e; cases e)
  have back : ∀ {u u' : HO}, H a = some u → upd (upd H a u') a u = H := fun {u u'} e => by
    rw [upd_upd]
    funext b
    by_cases hb : b = a
    · subst hb; rw [upd_same, e]
    · rw [upd_ne hb]
  rcases h with ⟨ks', hk, r⟩ | ⟨ks', hk, r⟩
  · cases hy : kkind y with
    | none => unfold kindOk at ok; rw [hy] at ok; cases h : dkind ks <;> rw [h] at ok <;> cases ok
    | some b =>
      cases b with
      | false =>
        obtain ⟨k, rfl⟩ := kkind_false hy
        obtain rfl := rp_key ry
        exact ⟨H, I, ⟨_, DGet.k hk, r.look k⟩, fun _ z => z, .inl rfl⟩
      | true =>
        obtain ⟨k, rfl⟩ := kkind_true hy
        obtain ⟨c, rfl, hc⟩ := rp_tupkey ry
        rcases r.kind with ⟨rfl, rfl⟩ | e
        · refine ⟨_, retypeT I hk, ⟨_, DGet.t upd_same (keep (.inl hk) hc), trivial⟩, fun s' z => ?_, .inr ⟨.inl hk, .inr rfl⟩⟩
          have := retypeK z upd_same
          rwa [back hk] at this
        · unfold kindOk at ok; rw [hy, e] at ok; cases ok
  · cases hy : kkind y with
    | none => unfold kindOk at ok; rw [hy] at ok; cases h : dkind ks <;> rw [h] at ok <;> cases ok
    | some b =>
      cases b with
      | true =>
        obtain ⟨k, rfl⟩ := kkind_true hy
        obtain ⟨c, rfl, hc⟩ := rp_tupkey ry
        exact ⟨H, I, ⟨_, DGet.t hk hc, r.look k⟩, fun _ z => z, .inl rfl⟩
      | false =>
        obtain ⟨k, rfl⟩ := kkind_false hy
        obtain rfl := rp_key ry
        rcases r.kind with ⟨rfl, rfl⟩ | e
        · refine ⟨_, retypeK I hk, ⟨_, DGet.k upd_same, trivial⟩, fun s' z => ?_, .inr ⟨.inr hk, .inl rfl⟩⟩
          have := retypeT z upd_same
          rwa [back hk] at this
        · unfold kindOk at ok; rw [hy, e] at ok; cases ok
end
end PD

set_option Elab.async false
set_option linter.all false
set_option maxRecDepth 100000
/-! PD5: comparisons, subscripts, slices. -/
namespace PD
open PySem L2 PySem.Spec
section
variable {X : Cx}
theorem cmp_alloc {K : PySem.W.Frag} {H B : Hp} {b : Bool} (hs : Same B H) : Alloc K H B (.d (.bool b)) (.bl b) H B := Alloc.here hs (.bl b)
theorem cmpR {op : CmpOp} {o : Cop} (h : ∀ (pins : List (Addr × Obj)) (s : Shared) (σ : L2.St) (H B : Hp) (x y : V) (v u : Value) (dx dy : D) (b : Bool) (Q : Value → Shared → Prop), Inv X pins σ H s → RelV x v → RelV y u → Same B H → Cr X.K H B x dx → Cr X.K H B y dy →
      cmpG o dx dy = some (.d (.bool b)) → (∀ s', Inv X pins σ H s' → Q (.bool b) s') → wpAny (model X.prog X.w) X.A (compareOp op v u) Q X.xe s) : OpR X (compareOp op) (rG X.K (cmpG o)) :=
  opR_rG fun pins s σ H B x y v u Q dx dy op I rx ry hs cx cy e k => by
    have e' := e
    unfold cmpG at e'
    obtain ⟨b, _, rfl⟩ := Option.map_eq_some_iff.mp e'
    exact h pins s σ H B x y v u dx dy b _ I rx ry hs cx cy e fun s' I' => ⟨.bl b, H, I', rfl, k _ H B (cmp_alloc hs)⟩
def _root_.PD.Cop.real : Cop → Bool
  | .isN | .notN => false
  | _ => true
theorem cmpG_real {o : Cop} (h1 : o.real = true) (x y : D) : cmpG o x y = (cmpop o x y).map fun z => .d (.bool z) := by
  cases o <;> first | rfl | cases h1
theorem cmpG_of {o : Cop} (h1 : o.real = true) {x y : D} {b : Bool} (h : cmpG o x y = some (.d (.bool b))) : cmpop o x y = some b := by
  rw [cmpG_real h1] at h
  obtain ⟨c, h', e⟩ := Option.map_eq_some_iff.mp h
  injection e with e; injection e with e; subst e
  exact h'
theorem o_eq (hu : X.A.units + 65 < cLine) : OpR X (compareOp .Eq) (rG X.K (cmpG .eq)) := cmpR fun pins s σ H B x y v u dx dy b Q I rx ry hs cx cy e k => by
  have e := cmpG_of rfl e
  unfold cmpop at e
  simp only at e
  split at e
  · rename_i hh
    rw [Bool.and_eq_true] at hh
    obtain rfl := Option.some.inj e
    obtain ⟨as, r1⟩ := cx.reads I hs rx (shaped_lay hh.1)
    obtain ⟨bs, r2⟩ := cy.reads I hs ry (shaped_lay hh.2)
    exact SeqAt.compareEq_shaped r1 r2 hh.1 hh.2 (by omega) (k s I)
  · cases e
theorem o_ne (hu : X.A.units + 65 < cLine) : OpR X (compareOp .NotEq) (rG X.K (cmpG .ne)) := cmpR fun pins s σ H B x y v u dx dy b Q I rx ry hs cx cy e k => by
  have e := cmpG_of rfl e
  unfold cmpop at e
  simp only at e
  split at e
  · rename_i hh
    rw [Bool.and_eq_true] at hh
    obtain rfl := Option.some.inj e
    obtain ⟨as, r1⟩ := cx.reads I hs rx (shaped_lay hh.1)
    obtain ⟨bs, r2⟩ := cy.reads I hs ry (shaped_lay hh.2)
    exact SeqAt.compareNe_shaped r1 r2 hh.1 hh.2 (by omega) (k s I)
  · cases e
theorem ordOk_iff {x y : D} (h : ordOk x y = true) : PySem.W.alike x y = true ∧ SeqAt.shaped x = true ∧ SeqAt.shaped y = true ∧ x ≠ .none := by
  unfold ordOk at h
  simp only [Bool.and_eq_true] at h
  obtain ⟨⟨⟨h1, h2⟩, h3⟩, h4⟩ := h
  exact ⟨h1, h2, h3, by rintro rfl; simp at h4⟩
theorem shaped_depth {x : D} (h : SeqAt.shaped x = true) : x.depth ≤ 64 := by
  unfold SeqAt.shaped at h
  rw [Bool.and_eq_true] at h
  exact of_decide_eq_true h.2
theorem o_ord {op : CmpOp} {o : Cop} (f : D → D → Bool) (ho : ∀ x y b, cmpG o x y = some (.d (.bool b)) → ordOk x y = true ∧ b = f x y)
    (hd : ∀ (s : Shared) (a b : Value) (da db : D) (as bs : List Addr) (Q : Value → Shared → Prop), Reads s.heap a da as → Reads s.heap b db bs → PySem.W.alike da db = true → da ≠ .none → X.A.units + min da.depth db.depth < cLine → Q (.bool (f da db)) s → wpAny (model X.prog X.w) X.A (compareOp op a b) Q X.xe s)
    (hu : X.A.units + 65 < cLine) : OpR X (compareOp op) (rG X.K (cmpG o)) := cmpR fun pins s σ H B x y v u dx dy b Q I rx ry hs cx cy e k => by
  obtain ⟨hh, rfl⟩ := ho _ _ _ e
  obtain ⟨h1, h2, h3, h4⟩ := ordOk_iff hh
  obtain ⟨as, r1⟩ := cx.reads I hs rx (shaped_lay h2)
  obtain ⟨bs, r2⟩ := cy.reads I hs ry (shaped_lay h3)
  refine hd s _ _ _ _ as bs _ r1 r2 h1 h4 ?_ (k s I)
  have := shaped_depth h2
  have : min dx.depth dy.depth ≤ dx.depth := Nat.min_le_left _ _
  omega
theorem ord_of {o : Cop} {f : D → D → Bool} (h1 : o.real = true) (hf : ∀ x y, cmpop o x y = if ordOk x y then some (f x y) else none) : ∀ x y b, cmpG o x y = some (.d (.bool b)) → ordOk x y = true ∧ b = f x y := fun x y b h => by
  have e := cmpG_of h1 h
  rw [hf] at e
  split at e
  · rename_i hh; exact ⟨hh, (Option.some.inj e).symm⟩
  · cases e
theorem o_lt (hu : X.A.units + 65 < cLine) : OpR X (compareOp .Lt) (rG X.K (cmpG .lt)) := o_ord (fun x y => PySem.W.dataLt x y) (ord_of rfl fun x y => rfl) (fun s a b da db as bs Q r1 r2 h1 h2 h3 h4 => PySem.W.lt_data r1 r2 h1 h2 h3 h4) hu
theorem o_gt (hu : X.A.units + 65 < cLine) : OpR X (compareOp .Gt) (rG X.K (cmpG .gt)) := o_ord (fun x y => PySem.W.dataLt y x) (ord_of rfl fun x y => rfl) (fun s a b da db as bs Q r1 r2 h1 h2 h3 h4 => PySem.W.gt_data r1 r2 h1 h2 h3 h4) hu
theorem o_le (hu : X.A.units + 65 < cLine) : OpR X (compareOp .LtE) (rG X.K (cmpG .le)) := o_ord (fun x y => !PySem.W.dataLt y x) (ord_of rfl fun x y => rfl) (fun s a b da db as bs Q r1 r2 h1 h2 h3 h4 => PySem.W.le_data r1 r2 h1 h2 h3 h4) hu
theorem o_ge (hu : X.A.units + 65 < cLine) : OpR X (compareOp .GtE) (rG X.K (cmpG .ge)) := o_ord (fun x y => !PySem.W.dataLt x y) (ord_of rfl fun x y => rfl) (fun s a b da db as bs Q r1 r2 h1 h2 h3 h4 => PySem.W.ge_data r1 r2 h1 h2 h3 h4) hu
theorem o_isN : OpR X (compareOp .Is) (rG X.K (cmpG .isN)) := cmpR fun pins s σ H B x y v u dx dy b Q I rx ry hs cx cy e k => by
  unfold cmpG at e
  simp only at e
  split at e
  · rename_i hn
    have hy : dy = .none := by cases dy <;> simp [isNone] at hn; rfl
    subst hy
    obtain rfl := cy.none'
    simp only [Option.map_some, Option.some.injEq, Op.d.injEq, PyData.bool.injEq] at e
    refine wpAny_mono (op_isN pins s σ H x .non v u (fun w H' => w = .bl b ∧ H' = H) I rx ry ⟨rfl, ?_, rfl⟩) (fun r s' ⟨w, H', I', rw', e1, e2⟩ => ?_) fun _ _ z => z
    · rw [cx.non_iff, e]
    · subst e1 e2; cases rw'; exact k s' I'
  · cases e
theorem o_notN : OpR X (compareOp .IsNot) (rG X.K (cmpG .notN)) := cmpR fun pins s σ H B x y v u dx dy b Q I rx ry hs cx cy e k => by
  unfold cmpG at e
  simp only at e
  split at e
  · rename_i hn
    have hy : dy = .none := by cases dy <;> simp [isNone] at hn; rfl
    subst hy
    obtain rfl := cy.none'
    simp only [Option.map_some, Option.some.injEq, Op.d.injEq, PyData.bool.injEq] at e
    refine wpAny_mono (op_notN pins s σ H x .non v u (fun w H' => w = .bl b ∧ H' = H) I rx ry ⟨rfl, ?_, rfl⟩) (fun r s' ⟨w, H', I', rw', e1, e2⟩ => ?_) fun _ _ z => z
    · rw [cx.non_iff, e]
    · subst e1 e2; cases rw'; exact k s' I'
  · cases e
theorem in_cases {x y : D} {b : Bool} (e : cmpop .in_ x y = some b) : (∃ ys, y = .list ys ∧ SeqAt.shaped x = true ∧ SeqAt.shaped (.list ys) = true ∧ b = ys.any fun z => PyData.eqv z x) ∨
    (∃ ys, y = .tuple ys ∧ SeqAt.shaped x = true ∧ SeqAt.shaped (.tuple ys) = true ∧ b = ys.any fun z => PyData.eqv z x) ∨ ∃ kvs, y = .dict kvs ∧ kindOk kvs x = true ∧ b = (dlook kvs x).isSome := by
  unfold cmpop at e
  split at e <;> first | cases e; done | skip
  all_goals first | (rename_i h; cases h; done) | skip
  · rename_i ys
    split at e
    · rename_i hh; rw [Bool.and_eq_true] at hh; exact .inl ⟨_, rfl, hh.1, hh.2, (Option.some.inj e).symm⟩
    · cases e
  · rename_i ys
    split at e
    · rename_i hh; rw [Bool.and_eq_true] at hh; exact .inr (.inl ⟨_, rfl, hh.1, hh.2, (Option.some.inj e).symm⟩)
    · cases e
  · rename_i kvs
    split at e
    · rename_i hh; exact .inr (.inr ⟨_, rfl, hh, (Option.some.inj e).symm⟩)
    · cases e
theorem nin_cases {x y : D} {b : Bool} (e : cmpop .nin x y = some b) : cmpop .in_ x y = some (!b) := by
  cases y <;> simp only [cmpop] at e ⊢ <;> first | (cases e; done) | (split at e <;> first | (cases e; done) | (rename_i hh; rw [if_pos hh]; cases e; simp))
theorem room_in_shaped0 {A : Around} {xs : List PyData} {d : PyData} (hd : SeqAt.shaped d = true) (hu : A.units + 65 < cLine) : A.units + 1 + min (PyData.depthAll xs) d.depth < cLine := by
  have h1 := shaped_depth hd
  have h2 : min (PyData.depthAll xs) d.depth ≤ d.depth := Nat.min_le_right _ _
  omega
theorem o_in (hu : X.A.units + 65 < cLine) : OpR X (compareOp .In) (rG X.K (cmpG .in_)) := cmpR fun pins s σ H B x y v u dx dy b Q I rx ry hs cx cy e k => by
  rcases in_cases (cmpG_of rfl e) with ⟨ys, rfl, h1, h2, rfl⟩ | ⟨ys, rfl, h1, h2, rfl⟩ | ⟨kvs, rfl, h1, rfl⟩
  · obtain ⟨as, r1⟩ := cx.reads I hs rx (shaped_lay h1)
    obtain ⟨bs, r2⟩ := cy.reads I hs ry (shaped_lay h2)
    exact SeqAt.in_list_reads r2 r1 (SeqAt.canLay_of_shaped h2) (SeqAt.canLay_of_shaped h1) (room_in_shaped0 h1 hu) (k s I)
  · obtain ⟨as, r1⟩ := cx.reads I hs rx (shaped_lay h1)
    obtain ⟨bs, r2⟩ := cy.reads I hs ry (shaped_lay h2)
    exact SeqAt.in_tuple_reads r2 r1 (SeqAt.canLay_of_shaped h2) (SeqAt.canLay_of_shaped h1) (room_in_shaped0 h1 hu) (k s I)
  · obtain ⟨a, rfl, q⟩ := cy.dict hs
    cases ry
    have q' : (∃ ks', H a = some (.dK ks') ∧ RpK X.K H ks' kvs) ∨ ∃ ks', H a = some (.dT ks') ∧ RpT X.K H ks' kvs := by
      rcases q with ⟨ks, e1, e2⟩ | ⟨ks, e1, e2⟩
      · exact .inl ⟨ks, e1, e2.mono hs⟩
      · exact .inr ⟨ks, e1, e2.mono hs⟩
    obtain ⟨H', I', ⟨o, g, l⟩, back, _⟩ := Inv.swap I q' (cx.rp hs) h1
    refine d_in (by omega) I' g rx fun s' I2 => ?_
    rw [l.isSome]
    exact k s' (back s' I2)
theorem o_nin (hu : X.A.units + 65 < cLine) : OpR X (compareOp .NotIn) (rG X.K (cmpG .nin)) := cmpR fun pins s σ H B x y v u dx dy b Q I rx ry hs cx cy e k => by
  have fl : ∀ c, (!b) = c → b = !c := fun c z => by rw [← z, Bool.not_not]
  rcases in_cases (nin_cases (cmpG_of rfl e)) with ⟨ys, rfl, h1, h2, z⟩ | ⟨ys, rfl, h1, h2, z⟩ | ⟨kvs, rfl, h1, z⟩
  · obtain ⟨as, r1⟩ := cx.reads I hs rx (shaped_lay h1)
    obtain ⟨bs, r2⟩ := cy.reads I hs ry (shaped_lay h2)
    exact SeqAt.notIn_list_reads r2 r1 (SeqAt.canLay_of_shaped h2) (SeqAt.canLay_of_shaped h1) (room_in_shaped0 h1 hu) (by rw [← fl _ z]; exact k s I)
  · obtain ⟨as, r1⟩ := cx.reads I hs rx (shaped_lay h1)
    obtain ⟨bs, r2⟩ := cy.reads I hs ry (shaped_lay h2)
    exact SeqAt.notIn_tuple_reads r2 r1 (SeqAt.canLay_of_shaped h2) (SeqAt.canLay_of_shaped h1) (room_in_shaped0 h1 hu) (by rw [← fl _ z]; exact k s I)
  · obtain ⟨a, rfl, q⟩ := cy.dict hs
    cases ry
    have q' : (∃ ks', H a = some (.dK ks') ∧ RpK X.K H ks' kvs) ∨ ∃ ks', H a = some (.dT ks') ∧ RpT X.K H ks' kvs := by
      rcases q with ⟨ks, e1, e2⟩ | ⟨ks, e1, e2⟩
      · exact .inl ⟨ks, e1, e2.mono hs⟩
      · exact .inr ⟨ks, e1, e2.mono hs⟩
    obtain ⟨H', I', ⟨o, g, l⟩, back, _⟩ := Inv.swap I q' (cx.rp hs) h1
    refine d_notIn (by omega) I' g rx fun s' I2 => ?_
    rw [l.isSome, ← fl _ z]
    exact k s' (back s' I2)
end

/-! ### chains of comparisons -/
section
variable {X : Cx} {a b c : Expr} {Φ : Tab} {ca cb cc : Ce} {pos : Pos}
theorem cmpG_d {o : Cop} {x y : D} {z : Bool} (h1 : o.real = true) (h : cmpop o x y = some z) : cmpG o x y = some (.d (.bool z)) := by
  rw [cmpG_real h1, h]; rfl
theorem bindOpr {α : Type} {r : Option (Op × Stt)} {k : Op × Stt → Option α} {z : α} (h : (opr r).bind k = some z) : ∃ op st1, opr r = some (op, st1) ∧ k (op, st1) = some z := by
  cases e : opr r with
  | none => rw [e] at h; cases h
  | some p => obtain ⟨b, st1⟩ := p; rw [e] at h; exact ⟨b, st1, rfl, h⟩
theorem bindSome {α β : Type} {r : Option α} {k : α → Option β} {z : β} (h : r.bind k = some z) : ∃ x, r = some x ∧ k x = some z := by
  cases e : r with
  | none => rw [e] at h; cases h
  | some p => rw [e] at h; exact ⟨p, rfl, h⟩
theorem bindNmk {α : Type} {r : Option (Op × Stt)} {k : D × Stt → Option α} {z : α} (h : (nmk r).bind k = some z) : ∃ x st1, nmk r = some (x, st1) ∧ k (x, st1) = some z := by
  cases e : nmk r with
  | none => rw [e] at h; cases h
  | some p => obtain ⟨b, st1⟩ := p; rw [e] at h; exact ⟨b, st1, rfl, h⟩
theorem chain_rd {o o' : Cop} (n1 : o.real = true) (n3 : o'.real = true) {σ : L2.St} {H : Hp} {Q : VK} {st st' : Stt} {B : Hp} {w : Op} (r : StR X.K st σ H B)
    (ev : evE Φ (.chain o o' ca cb cc) st = some (w, st')) (k : ∀ v H' B', Ext X.K st σ H B st' σ H' B' → OpV X.K v H st' σ H' B' w → Q v H') :
    tChain (rG X.K (cmpG o)) (rG X.K (cmpG o')) (tO X.K Φ ca) (tO X.K Φ cb) (tO X.K Φ cc) σ H Q := by
  simp only [evE] at ev
  obtain ⟨oa, st1, h1, ev⟩ := bindOpr ev
  obtain ⟨ob, st2, h2, ev⟩ := bindOpr ev
  obtain ⟨x, h3, ev⟩ := bindSome ev
  obtain ⟨y, h4, ev⟩ := bindSome ev
  obtain ⟨z, h5, ev⟩ := bindSome ev
  obtain ⟨_, _, _, f1⟩ := opr_some h1
  obtain ⟨_, _, _, f2⟩ := opr_some h2
  refine ⟨st, B, oa, st1, r, h1, fun v1 H1 B1 x1 o1 => ⟨st1, B1, ob, st2, x1.rel, h2, fun v2 H2 B2 x2 o2 => ?_⟩⟩
  refine ⟨B2, x, y, _, x2.rel.sub, o1.read f1 x2 h3, o2.read f2 (Ext.refl x2.rel) h4, cmpG_d n1 h5, fun v3 H3 B3 al => ?_⟩
  have x3 := al.grow.ext x2.rel
  cases al with
  | d g rb =>
    refine ⟨z, rp_bl rb, ?_⟩
    cases z with
    | false =>
      simp only [Option.some.injEq, Prod.mk.injEq] at ev
      obtain ⟨rfl, rfl⟩ := ev
      rw [if_neg Bool.false_ne_true]
      exact k _ H3 B3 ((x1.trans x2).trans x3) (.bl _)
    | true =>
      rw [if_pos rfl]
      obtain ⟨oc, st3, h6, ev⟩ := bindOpr ev
      obtain ⟨y', h7, ev⟩ := bindSome ev
      obtain ⟨zz, h8, ev⟩ := bindSome ev
      obtain ⟨kk, h9, ev⟩ := Option.map_eq_some_iff.mp ev
      simp only [Prod.mk.injEq] at ev
      obtain ⟨rfl, rfl⟩ := ev
      obtain ⟨_, _, _, f3⟩ := opr_some h6
      refine ⟨st2, B3, oc, st3, x3.rel, h6, fun v4 H4 B4 x4 o4 => ?_⟩
      have o2' : OpV X.K v2 H1 st2 σ H3 B3 ob := by
        cases ob with
        | d q => exact Rp.mono x3.bsub o2
        | fr q => cases f2
        | sl i => exact o2
      exact ⟨B4, y', zz, _, x4.rel.sub, o2'.read f2 x4 h7, o4.read f3 (Ext.refl x4.rel) h8, cmpG_d n3 h9, fun v5 H5 B5 al5 => fin (((x1.trans x2).trans x3).trans x4) al5 k⟩
theorem cE_chain {op op' : CmpOp} {o o' : Cop} (n1 : o.real = true) (n3 : o'.real = true) (ho : OpR X (compareOp op) (rG X.K (cmpG o))) (ho' : OpR X (compareOp op') (rG X.K (cmpG o'))) (ha : PE X a (tE X.K Φ ca)) (hb : PE X b (tE X.K Φ cb)) (hc : PE X c (tE X.K Φ cc))
    (hm : lastMarks [op, op'] [b, c] = false := by with_unfolding_all rfl) : PE X (.Compare a [op, op'] [b, c] pos) (tE X.K Φ (.chain o o' ca cb cc)) :=
  pe_mono (pe_chain ho ho' (pe_o ha) (pe_o hb) (pe_o hc) hm) fun σ H Q ⟨st, B, op, st', r, ev, k⟩ => chain_rd n1 n3 r ev k
theorem cT_chain {op op' : CmpOp} {o o' : Cop} (n1 : o.real = true) (n3 : o'.real = true) (ho : OpR X (compareOp op) (rG X.K (cmpG o))) (ho' : OpR X (compareOp op') (rG X.K (cmpG o'))) (ha : PE X a (tE X.K Φ ca)) (hb : PE X b (tE X.K Φ cb)) (hc : PE X c (tE X.K Φ cc))
    (hm : lastMarks [op, op'] [b, c] = false := by with_unfolding_all rfl) : PT X (.Compare a [op, op'] [b, c] pos) (tB X.K Φ (.chain o o' ca cb cc)) :=
  pt_mono (pt_chain ho ho' (pe_o ha) (pe_o hb) (pe_o hc) hm) fun σ H Q ⟨st, B, b, st', r, ev, k⟩ => chain_rd n1 n3 r (tst_some ev) fun v H' B' x o => ⟨b, rp_bl o, k H' B' x⟩
end
end PD

set_option Elab.async false
set_option linter.all false
set_option maxRecDepth 100000
/-! PD6: subscripts, slices, built-ins. -/
namespace PD
open PySem L2 PySem.Spec

/-! ### 1. subscripts and slices -/
section
variable {K : PySem.W.Frag} {B H : Hp}
theorem RpAll.atI {vs : List V} {ds : List D} {i : Int} {d : D} (r : RpAll K B vs ds) (h : L2.atI ds i = some d) : ∃ v, L2.atI vs i = some v ∧ Rp K B v d := by
  unfold L2.atI at h ⊢
  rw [r.length]
  cases e : ixN ds.length i with
  | none => rw [e] at h; cases h
  | some j =>
    rw [e] at h
    exact r.get h
theorem RpAll.cut {vs : List V} {ds : List D} (r : RpAll K B vs ds) (lo hi : Option Int) : RpAll K B (cutV vs lo hi) (cutD ds lo hi) := by
  unfold cutV cutD
  rw [r.length]
  exact (r.drop _).take _
end
section
variable {X : Cx} {a b : Expr} {Φ : Tab} {ca cb : Ce} {pos : Pos}
/-- an operand and a value behind it -/
theorem oneV {R : V → V → Hp → Prop} {σ : L2.St} {H B : Hp} {st st1 st2 : Stt} {oa : Op} {x : D} {fa fb : Stt → Option (Op × Stt)} (r : StR X.K st σ H B) (ha : opr (fa st) = some (oa, st1)) (hb : nmk (fb st1) = some (x, st2))
    (k : ∀ v w H2 B2, Ext X.K st σ H B st2 σ H2 B2 → (∀ y, rdO oa st2 = some y → Cr X.K H2 B2 v y) → Rp X.K B2 w x → R v w H2) :
    tG X.K (fun st => opr (fa st)) σ H fun v H1 => tV X.K (fun st => nmk (fb st)) σ H1 fun w H2 => R v w H2 := by
  obtain ⟨_, _, _, f1⟩ := opr_some ha
  exact ⟨st, B, oa, st1, r, ha, fun v H1 B1 x1 o1 => ⟨st1, B1, x, st2, x1.rel, hb, fun w H2 B2 x2 r2 => k v w H2 B2 (x1.trans x2) (fun y e => o1.read f1 x2 e) r2⟩⟩
theorem cE_ix (ha : PE X a (tE X.K Φ ca)) (hb : PE X b (tE X.K Φ cb)) (hu : X.A.units + 65 < cLine) (hs : PlainIx b := by intro _ _; rfl) : PE X (.Subscript a b pos) (tE X.K Φ (.ix ca cb)) := by
  refine ⟨fun pins s σ H Q I ⟨st, B, op, st', r, ev, k⟩ => ?_⟩
  simp only [evE] at ev
  obtain ⟨oa, st1, h1, ev⟩ := bindOpr ev
  obtain ⟨y, st2, h2, ev⟩ := bindNmk ev
  obtain ⟨x, h3, ev⟩ := bindSome ev
  obtain ⟨z, h4, ev⟩ := Option.map_eq_some_iff.mp ev
  simp only [Prod.mk.injEq] at ev
  obtain ⟨rfl, rfl⟩ := ev
  cases x with
  | list xs =>
    simp only [ixD] at h4
    cases y with
    | int i =>
      refine (pe_ix ix_list (pe_o ha) (pe_v hb) hs).run pins s σ H Q I (oneV (X := X) r h1 h2 fun v w H2 B2 x2 c1 rw' => ?_)
      obtain ⟨p, vs, rfl, hq, ra⟩ := (c1 _ h3).list x2.rel.sub
      obtain ⟨u, hu, ru⟩ := ra.atI h4
      exact ⟨p, vs, i, u, rfl, rp_int rw', hq, hu, fin x2 (Alloc.here x2.rel.sub ru) k⟩
    | _ => cases h4
  | tuple xs =>
    simp only [ixD] at h4
    cases y with
    | int i =>
      refine (pe_ix ix_tup (pe_o ha) (pe_v hb) hs).run pins s σ H Q I (oneV (X := X) r h1 h2 fun v w H2 B2 x2 c1 rw' => ?_)
      obtain ⟨p, vs, rfl, _, hq, ra⟩ := (c1 _ h3).tuple x2.rel.sub
      obtain ⟨u, hu, ru⟩ := ra.atI h4
      exact ⟨p, vs, i, u, rfl, rp_int rw', SqT.of hq, hu, fin x2 (Alloc.here x2.rel.sub ru) k⟩
    | _ => cases h4
  | dict kvs =>
    simp only [ixD] at h4
    split at h4
    · rename_i hk
      refine (pe_dget (by omega) (pe_o ha) (pe_v hb) hs).run pins s σ H Q I (oneV (X := X) r h1 h2 fun v w H2 B2 x2 c1 rw' => ?_)
      obtain ⟨p, rfl, q⟩ := (c1 _ h3).dict x2.rel.sub
      have fin' : ∀ o, LookR X.K B2 o (dlook kvs y) → ∃ v, o = some v ∧ Q v H2 := fun o l => by
        rw [h4] at l
        cases o with
        | none => exact l.elim
        | some v => exact ⟨v, rfl, fin x2 (Alloc.here x2.rel.sub l) k⟩
      rcases q with ⟨ks, e1, e2⟩ | ⟨ks, e1, e2⟩
      · rcases e2.kind with ⟨rfl, rfl⟩ | e3
        · cases h4
        · unfold kindOk at hk
          rw [e3] at hk
          cases hy : kkind y with
          | none => rw [hy] at hk; cases hk
          | some b =>
            cases b with
            | true => rw [hy] at hk; cases hk
            | false =>
              obtain ⟨kk, rfl⟩ := kkind_false hy
              obtain rfl := rp_key rw'
              obtain ⟨v, e4, q⟩ := fin' _ (e2.look kk)
              exact ⟨p, v, rfl, by rw [← e4]; exact DGet.k e1, q⟩
      · rcases e2.kind with ⟨rfl, rfl⟩ | e3
        · cases h4
        · unfold kindOk at hk
          rw [e3] at hk
          cases hy : kkind y with
          | none => rw [hy] at hk; cases hk
          | some b =>
            cases b with
            | false => rw [hy] at hk; cases hk
            | true =>
              obtain ⟨kk, rfl⟩ := kkind_true hy
              obtain ⟨c, rfl, hc⟩ := rp_tupkey rw'
              obtain ⟨v, e4, q⟩ := fin' _ (e2.look kk)
              exact ⟨p, v, rfl, by rw [← e4]; exact DGet.t e1 (x2.rel.sub _ _ hc), q⟩
    · cases h4
  | _ => cases h4

def tPO (K : PySem.W.Frag) (f : Stt → Option (Option Int × Stt)) : L2.TO := fun σ H Q => ∃ st B x st', StR K st σ H B ∧ f st = some (x, st') ∧ ∀ H' B', Ext K st σ H B st' σ H' B' → Q x H'
theorem po_mono {e : Option Expr} {t t' : L2.TO} (h : PO X e t) (k : ∀ σ H Q, t' σ H Q → t σ H Q) : PO X e t' := ⟨fun pins s σ H Q I q => h.run pins s σ H Q I (k σ H Q q)⟩
theorem cO_no : PO X none (tPO X.K (evO Φ .no)) := po_mono po_none fun σ H Q ⟨st, B, x, st', r, ev, k⟩ => by
  simp only [evO, Option.some.injEq, Prod.mk.injEq] at ev
  obtain ⟨rfl, rfl⟩ := ev
  exact k H B (Ext.refl r)
theorem cO_so {e : Expr} {c : Ce} (h : PE X e (tE X.K Φ c)) : PO X (some e) (tPO X.K (evO Φ (.so c))) := po_mono (po_some (pe_v h)) fun σ H Q ⟨st, B, x, st', r, ev, k⟩ => by
  simp only [evO] at ev
  obtain ⟨y, st1, h1, ev⟩ := bindNmk ev
  obtain ⟨i, h2, ev⟩ := Option.map_eq_some_iff.mp ev
  simp only [Prod.mk.injEq] at ev
  obtain ⟨rfl, rfl⟩ := ev
  obtain rfl := intOf_some h2
  exact ⟨st, B, _, _, r, h1, fun v H1 B1 x1 r1 => ⟨i, rp_int r1, k H1 B1 x1⟩⟩
theorem cE_slc {lo hi : Option Expr} {cl ch : Co} {p2 : Pos} (ha : PE X a (tE X.K Φ ca)) (hl : PO X lo (tPO X.K (evO Φ cl))) (hh : PO X hi (tPO X.K (evO Φ ch))) : PE X (.Subscript a (.Slice lo hi none p2) pos) (tE X.K Φ (.slc ca cl ch)) := by
  refine ⟨fun pins s σ H Q I ⟨st, B, op, st', r, ev, k⟩ => ?_⟩
  simp only [evE] at ev
  obtain ⟨oa, st1, h1, ev⟩ := bindOpr ev
  obtain ⟨⟨i, st2⟩, h2, ev⟩ := bindSome ev
  obtain ⟨⟨j, st3⟩, h3, ev⟩ := bindSome ev
  obtain ⟨x, h4, ev⟩ := bindSome ev
  obtain ⟨z, h5, ev⟩ := Option.map_eq_some_iff.mp ev
  simp only [Prod.mk.injEq] at ev
  obtain ⟨rfl, rfl⟩ := ev
  obtain ⟨_, _, _, f1⟩ := opr_some h1
  have go : ∀ {R : V → Option Int → Option Int → Hp → VK → Prop}, (∀ v H3 B3, Ext X.K st σ H B st3 σ H3 B3 → Cr X.K H3 B3 v x → R v i j H3 Q) → tSl R (tO X.K Φ ca) (tPO X.K (evO Φ cl)) (tPO X.K (evO Φ ch)) σ H Q := fun hR =>
    ⟨st, B, oa, st1, r, h1, fun v H1 B1 x1 o1 => ⟨st1, B1, i, st2, x1.rel, h2, fun H2 B2 x2 => ⟨st2, B2, j, st3, x2.rel, h3, fun H3 B3 x3 =>
      hR v H3 B3 ((x1.trans x2).trans x3) (o1.read f1 (x2.trans x3) h4)⟩⟩⟩
  cases x with
  | list xs =>
    simp only [slD, Option.some.injEq] at h5
    subst h5
    refine (pe_slice sl_list (pe_o ha) hl hh).run pins s σ H Q I (go fun v H3 B3 x3 c => ?_)
    obtain ⟨p, vs, rfl, hq, ra⟩ := c.list x3.rel.sub
    exact ⟨p, vs, rfl, hq, fun q hq' => fin x3 (Alloc.lst x3.rel.sub hq' (ra.cut i j)) k⟩
  | tuple xs =>
    simp only [slD] at h5
    split at h5
    · rename_i hne
      simp only [Option.some.injEq] at h5
      subst h5
      refine (pe_slice sl_tup (pe_o ha) hl hh).run pins s σ H Q I (go fun v H3 B3 x3 c => ?_)
      obtain ⟨p, vs, rfl, _, hq, ra⟩ := c.tuple x3.rel.sub
      have rc := ra.cut i j
      exact ⟨p, vs, rfl, SqT.of hq, by rw [ra.length]; exact hne, fun q hq' => fin x3 (Alloc.tup x3.rel.sub hq' rc) k⟩
    · cases h5
  | _ => cases h5
theorem cE_rev {k : Nat} {p1 p2 p3 : Pos} (ha : PE X a (tE X.K Φ ca)) : PE X (.Subscript a (.Slice none none (some (.UnaryOp .USub (.Constant (.int 1) k p1) p2)) p3) pos) (tE X.K Φ (.rev ca)) :=
  pe_mono (pe_revL (pe_o ha)) fun σ H Q ⟨st, B, op, st', r, ev, kk⟩ => by
    simp only [evE] at ev
    obtain ⟨oa, st1, h1, ev⟩ := bindOpr ev
    obtain ⟨x, h2, ev⟩ := bindSome ev
    obtain ⟨z, h3, ev⟩ := Option.map_eq_some_iff.mp ev
    simp only [Prod.mk.injEq] at ev
    obtain ⟨rfl, rfl⟩ := ev
    obtain ⟨_, _, _, f1⟩ := opr_some h1
    cases x <;> simp only [revD] at h3 <;> first | (cases h3; done) | skip
    simp only [Option.some.injEq] at h3
    subst h3
    refine ⟨st, B, oa, st1, r, h1, fun v H1 B1 x1 o1 => ?_⟩
    obtain ⟨p, vs, rfl, hq, ra⟩ := (o1.read f1 (Ext.refl x1.rel) h2).list x1.rel.sub
    exact ⟨p, vs, rfl, hq, fun q hq' => fin x1 (Alloc.lst x1.rel.sub hq' ra.reverse) kk⟩
end

/-! ### 2. calls of built-ins with one thing -/
section
variable {X : Cx}
def rC1 (K : PySem.W.Frag) (g : D → Option Op) : List V → Hp → VK → Prop := fun vs H Q => ∃ x, vs = [x] ∧ rG1 K g x H Q
def rC2 (K : PySem.W.Frag) (g : D → D → Option Op) : List V → Hp → VK → Prop := fun vs H Q => ∃ x y, vs = [x, y] ∧ rG K g x y H Q
theorem c1 {f : Value} {g : D → Option Op} (h : ∀ (pins : List (Addr × Obj)) (s : Shared) (σ : L2.St) (H B : Hp) (x : V) (v : Value) (Q : VK) (dx : D) (op : Op), Inv X pins σ H s → RelV x v → Same B H → Cr X.K H B x dx → g dx = some op →
      (∀ v H' B', Alloc X.K H B op v H' B' → Q v H') → wpAny (model X.prog X.w) X.A (call f [v]) (EP X pins σ Q) X.xe s) : CallR X f (rC1 X.K g) := by
  rintro pins s σ H xs us Q I r ⟨x, rfl, B, dx, op, hs, cx, e, k⟩
  obtain ⟨u, rfl, ru⟩ := vals1 r
  exact h pins s σ H B x u Q dx op I ru hs cx e k
theorem callR1 {f : Value} {r : List V → Hp → VK → Prop} (h : CallR X f r) {pins : List (Addr × Obj)} {s : Shared} {σ : L2.St} {H : Hp} {x : V} {v : Value} {Q : VK} (I : Inv X pins σ H s) (rx : RelV x v) (q : r [x] H Q) :
    wpAny (model X.prog X.w) X.A (call f [v]) (EP X pins σ Q) X.xe s := h pins s σ H [x] [v] Q I (.cons rx .nil) q
theorem k_len : CallR X (.builtin "len") (rC1 X.K (b1op .len)) := c1 fun pins s σ H B x v Q dx op I rx hs cx e k => by
  cases dx <;> simp only [b1op] at e <;> first | (cases e; done) | skip
  · rename_i xs
    obtain rfl := Option.some.inj e
    obtain ⟨p, vs, rfl, hq, ra⟩ := cx.list hs
    exact callR1 call_len_seq I rx ⟨p, vs, rfl, .inl hq, by rw [ra.length]; exact k _ _ _ (Alloc.here hs (.int _))⟩
  · rename_i xs
    obtain rfl := Option.some.inj e
    obtain ⟨p, vs, rfl, _, hq, ra⟩ := cx.tuple hs
    exact callR1 call_len_seq I rx ⟨p, vs, rfl, .inr (SqT.of hq), by rw [ra.length]; exact k _ _ _ (Alloc.here hs (.int _))⟩
  · rename_i kvs
    split at e
    · cases e
    · rename_i hk
      obtain rfl := Option.some.inj e
      obtain ⟨p, rfl, q⟩ := cx.dict hs
      cases rx
      rcases q with ⟨ks, e1, e2⟩ | ⟨ks, e1, e2⟩
      · refine d_len I (.inl e1) fun t s' I' => ⟨.int _, H, I', ⟨t, rfl⟩, ?_⟩
        rw [e2.length]
        exact k _ _ _ (Alloc.here hs (.int _))
      · rcases e2.kind with ⟨rfl, rfl⟩ | e3
        · refine d_len (retypeK I e1) (.inl upd_same) fun t s' I' => ⟨.int _, H, ?_, ⟨t, rfl⟩, k _ _ _ (Alloc.here hs (.int _))⟩
          have := retypeT I' upd_same
          rwa [upd_upd, show upd H p (.dT []) = H from by
            funext b
            by_cases hb : b = p
            · subst hb; rw [upd_same, e1]
            · rw [upd_ne hb]] at this
        · exact absurd e3 hk
theorem isSeq_some {x : D} {xs : List D} (h : isSeq x = some xs) : x = .list xs ∨ x = .tuple xs := by
  cases x <;> simp [isSeq] at h <;> subst h <;> simp
theorem k_list : CallR X (.type "list") (rC1 X.K (b1op .list)) := c1 fun pins s σ H B x v Q dx op I rx hs cx e k => by
  simp only [b1op] at e
  obtain ⟨xs, e1, rfl⟩ := Option.map_eq_some_iff.mp e
  rcases isSeq_some e1 with rfl | rfl
  · obtain ⟨p, vs, rfl, hq, ra⟩ := cx.list hs
    exact callR1 call_list_of I rx ⟨p, vs, rfl, .inl hq, fun l hl => k _ _ _ (Alloc.lst hs hl ra)⟩
  · obtain ⟨p, vs, rfl, _, hq, ra⟩ := cx.tuple hs
    exact callR1 call_list_of I rx ⟨p, vs, rfl, .inr (SqT.of hq), fun l hl => k _ _ _ (Alloc.lst hs hl ra)⟩
theorem k_tuple : CallR X (.type "tuple") (rC1 X.K (b1op .tuple)) := c1 fun pins s σ H B x v Q dx op I rx hs cx e k => by
  cases dx <;> simp only [b1op] at e <;> first | (cases e; done) | skip
  · obtain rfl := Option.some.inj e
    obtain ⟨p, vs, rfl, hq, ra⟩ := cx.list hs
    exact callR1 call_tuple_of I rx ⟨p, vs, rfl, .inl ⟨hq, fun l hl => k _ _ _ (Alloc.tup hs hl ra)⟩⟩
  · obtain rfl := Option.some.inj e
    obtain ⟨p, vs, rfl, hb, hq, ra⟩ := cx.tuple hs
    exact callR1 call_tuple_of I rx ⟨p, vs, rfl, .inr ⟨SqT.of hq, k _ _ _ (Alloc.here hs (.tup hb ra))⟩⟩
theorem k_int : CallR X (.type "int") (rC1 X.K (b1op .int)) := c1 fun pins s σ H B x v Q dx op I rx hs cx e k => by
  cases dx <;> simp only [b1op] at e <;> first | (cases e; done) | skip
  · obtain rfl := Option.some.inj e
    obtain rfl := cx.bool
    exact callR1 call_int1 I rx (.inr ⟨_, rfl, k _ _ _ (Alloc.here hs (.int _))⟩)
  · obtain rfl := Option.some.inj e
    obtain rfl := cx.int
    exact callR1 call_int1 I rx (.inl ⟨_, rfl, k _ _ _ (Alloc.here hs (.int _))⟩)
theorem intsD_some {K : PySem.W.Frag} {B : Hp} : ∀ {xs : List D} {ns : List Int} {vs : List V}, intsD xs = some ns → RpAll K B vs xs → vs = ns.map V.int
  | [], ns, vs, h, r => by cases r; cases h; rfl
  | x :: xs, ns, vs, h, r => by
    cases r with
    | cons a r =>
      cases x <;> simp only [intsD] at h <;> first | (cases h; done) | skip
      obtain ⟨ms, e, rfl⟩ := Option.map_eq_some_iff.mp h
      rw [rp_int a, intsD_some e r]
      rfl
theorem boolsD_some {K : PySem.W.Frag} {B : Hp} : ∀ {xs : List D} {ns : List Bool} {vs : List V}, boolsD xs = some ns → RpAll K B vs xs → vs = ns.map V.bl
  | [], ns, vs, h, r => by cases r; cases h; rfl
  | x :: xs, ns, vs, h, r => by
    cases r with
    | cons a r =>
      cases x <;> simp only [boolsD] at h <;> first | (cases h; done) | skip
      obtain ⟨ms, e, rfl⟩ := Option.map_eq_some_iff.mp h
      rw [rp_bl a, boolsD_some e r]
      rfl
theorem k_sum (hc : X.calm = true) : CallR X (.builtin "sum") (rC1 X.K (b1op .sum)) := c1 fun pins s σ H B x v Q dx op I rx hs cx e k => by
  cases dx <;> simp only [b1op] at e <;> first | (cases e; done) | skip
  obtain ⟨ns, e1, rfl⟩ := Option.map_eq_some_iff.mp e
  obtain ⟨p, vs, rfl, hq, ra⟩ := cx.list hs
  obtain rfl := intsD_some e1 ra
  exact callR1 (cr_sum hc) I rx ⟨p, ns, rfl, hq, k _ _ _ (Alloc.here hs (.int _))⟩
theorem k_any (hc : X.calm = true) : CallR X (.builtin "any") (rC1 X.K (b1op .any)) := c1 fun pins s σ H B x v Q dx op I rx hs cx e k => by
  cases dx <;> simp only [b1op] at e <;> first | (cases e; done) | skip
  obtain ⟨ns, e1, rfl⟩ := Option.map_eq_some_iff.mp e
  obtain ⟨p, vs, rfl, hq, ra⟩ := cx.list hs
  obtain rfl := boolsD_some e1 ra
  exact callR1 (cr_any hc) I rx ⟨p, ns, rfl, hq, k _ _ _ (Alloc.here hs (.bl _))⟩
theorem k_all (hc : X.calm = true) : CallR X (.builtin "all") (rC1 X.K (b1op .all)) := c1 fun pins s σ H B x v Q dx op I rx hs cx e k => by
  cases dx <;> simp only [b1op] at e <;> first | (cases e; done) | skip
  obtain ⟨ns, e1, rfl⟩ := Option.map_eq_some_iff.mp e
  obtain ⟨p, vs, rfl, hq, ra⟩ := cx.list hs
  obtain rfl := boolsD_some e1 ra
  exact callR1 (cr_all hc) I rx ⟨p, ns, rfl, hq, k _ _ _ (Alloc.here hs (.bl _))⟩
end

/-! ### 3. sorted, min, max of data -/
section
variable {X : Cx} {pins : List (Addr × Obj)} {σ : L2.St} {H B : Hp} {s : Shared}
/-- a value of the machine that stands for a datum -/
def Stands (K : PySem.W.Frag) (B : Hp) (u : Value) (d : D) : Prop := ∃ v, RelV v u ∧ Rp K B v d
theorem stands_of {K : PySem.W.Frag} : ∀ {ds : List D} {vs : List V} {us : List Value}, RpAll K B vs ds → Vals vs us → PySem.W.EachIs (Stands K B) us ds
  | [], _, _, h, r => by cases h; cases r; exact .nil
  | _ :: _, _, _, h, r => by
    cases h with
    | cons a h => cases r with | cons b r => exact .cons ⟨_, b, a⟩ (stands_of h r)
theorem of_stands {K : PySem.W.Frag} : ∀ {ds : List D} {us : List Value}, PySem.W.EachIs (Stands K B) us ds → ∃ vs, RpAll K B vs ds ∧ Vals vs us
  | _, _, .nil => ⟨[], .nil, .nil⟩
  | _, _, .cons ⟨v, a, b⟩ t => by
    obtain ⟨vs, h1, h2⟩ := of_stands t
    exact ⟨v :: vs, .cons b h1, .cons a h2⟩
theorem stands_reads (I : Inv X pins σ H s) (hs : Same B H) : ∀ {ds : List D} {us : List Value}, PySem.W.EachIs (Stands X.K B) us ds → (∀ d ∈ ds, d.canLay0 = true) → PySem.W.EachIs (fun v b => ∃ as, Reads s.heap v b as) us ds
  | _, _, .nil, _ => .nil
  | _, _, .cons ⟨v, a, b⟩ t, h => .cons (Rp.reads0 I hs b a (h _ List.mem_cons_self)) (stands_reads I hs t fun d hd => h d (List.mem_cons_of_mem _ hd))
theorem allAlike_of {xs : List D} (h : allAlike xs = true) : ∀ d ∈ xs, ∀ d' ∈ xs, PySem.W.alike d d' = true := by
  unfold allAlike at h
  rw [List.all_eq_true] at h
  intro d hd d' hd'
  exact List.all_eq_true.mp (h d hd) d' hd'
theorem sortable_of {xs : List D} (h : sortable xs = true) : PySem.W.Sortable xs := by
  unfold sortable at h
  rw [Bool.or_eq_true] at h
  rcases h with h | h
  · refine .inl fun d hd => ?_
    have := List.all_eq_true.mp h d hd
    cases d with
    | tuple ys =>
      cases ys with
      | nil => cases this
      | cons y ys => exact ⟨y, ys, rfl⟩
    | _ => cases this
  · refine .inr fun d hd => ?_
    have := List.all_eq_true.mp h d hd
    cases d <;> first | (cases this; done) | exact ⟨nofun, nofun⟩
/-- the items of a list or a tuple, collected anew -/
theorem collect_seq {prog : Program} {w : World} {A : Around} {E : Value → Shared → Prop} {s : Shared} {l : Addr} {vs : List Value} {o : Obj} {n : Nat} {T : String} {Q : List Value → Shared → Prop} (hT : T = "list" ∨ T = "tuple") (ho : s.heap.get? l = some o) (hc : o.cls = .type T) (hd : o.data = .seq vs.toArray n)
    (h : Q vs { s with heap := (s.heap.push (PyProof.Rows.seqObj "list" #[] 0)).update s.heap.objs.size (Obj.mapSeq (· ++ vs.toArray)) }) (hz : vs.length ≤ sizeLine) : wpAny (model prog w) A (collect (.ref l)) Q E s := by
  unfold collect
  refine wpAny_bind (wpAny_runValue (codeAny_builtin PyProof.Rows.entry_proto_collect' ?_)); show wpAny _ _ (do again (.builtin "list.__iadd__" ⟨[← newList [], .ref l], []⟩)) _ _ s
  refine wpAny_bind (wpAny_newList (wpAny_pure ⟨Code.quiet_builtin _ (by decide +kernel), codeAny_builtin PyProof.Rows.entry_list_iadd' ?_⟩))
  show wpAny (model prog w) _ (Builtin.List.listExtendWith (.ref s.heap.objs.size) (.ref l) (.ref s.heap.objs.size)) _ _ { s with heap := s.heap.push (PyProof.Rows.seqObj "list" #[] 0) }
  unfold Builtin.List.listExtendWith
  have old : (s.heap.push (PyProof.Rows.seqObj "list" #[] 0)).get? l = some o := Heap.get?_push_of_some _ ho
  have new : (s.heap.push (PyProof.Rows.seqObj "list" #[] 0)).get? s.heap.objs.size = some (PyProof.Rows.seqObj "list" #[] 0) := Heap.get?_push_size _ rfl
  refine wpAny_bind (wpAny_typeOf (T := T) ⟨o, old, hc⟩ ?_)
  have hb : (Value.type T == Value.type "list" || Value.type T == Value.type "tuple") = true := by
    rcases hT with rfl | rfl <;> rfl
  rw [if_pos (by rw [Bool.or_assoc, hb, Bool.or_true])]
  refine wpAny_bind (PyProof.Rows.listItems_at old hd (wpAny_bind (PyProof.Rows.listItems_at (xs := #[]) (n := 0) new rfl ?_)))
  rw [if_neg (by simp)]
  refine wpAny_bind (PyProof.Rows.listUpdate_at (xs := #[]) (n := 0) new rfl ?_ (Nat.zero_le _) (by show (#[] ++ vs.toArray).size ≤ sizeLine + 1; simp only [Array.size_append, List.size_toArray, List.length_nil]; omega))
  refine wpAny_pure ?_
  show wpAny (model prog w) A (do
    let oo ← load s.heap.objs.size
    match oo.data with
    | .seq ys _ => pure ys.toList
    | _ => unsupported "internal:collect") Q E { s with heap := (s.heap.push (PyProof.Rows.seqObj "list" #[] 0)).update s.heap.objs.size (Obj.mapSeq (· ++ vs.toArray)) }
  refine wpAny_bind (wpAny_load (PyProof.Rows.get?_update_seq new _) ?_)
  have ee : ((#[] : Array Value) ++ vs.toArray).toList = vs := by simp
  show wpAny (model prog w) A (pure ((#[] : Array Value) ++ vs.toArray).toList) Q E { s with heap := (s.heap.push (PyProof.Rows.seqObj "list" #[] 0)).update s.heap.objs.size (Obj.mapSeq (· ++ vs.toArray)) }
  rw [ee]
  exact wpAny_pure h
theorem sorted_seq {prog : Program} {w : World} {A : Around} {E : Value → Shared → Prop} {s : Shared} {l : Addr} {vs : List Value} {ds : List D} {R : Value → D → Prop} {o : Obj} {n : Nat} {T : String} {Q : Value → Shared → Prop} (hT : T = "list" ∨ T = "tuple") (ho : s.heap.get? l = some o) (hc : o.cls = .type T) (hd : o.data = .seq vs.toArray n)
    (e : PySem.W.EachIs R vs ds) (er : PySem.W.EachIs (fun v b => ∃ as, Reads s.heap v b as) vs ds) (al : PySem.W.AllAlike ds) (so : PySem.W.Sortable ds) (hz : ds.length ≤ sizeLine) (hu : ∀ d ∈ ds, A.units + 2 + d.depth < cLine)
    (h : ∀ out, out.length = ds.length → PySem.W.EachIs R out (sortD ds) → Q (.ref (s.heap.objs.size + 1)) { s with heap := PyProof.Rows.sortedAll s.heap vs (List.toArray out) }) : wpAny (model prog w) A (call (.builtin "sorted") [.ref l]) Q E s := by
  have hz' : vs.length ≤ sizeLine := by rw [e.length]; exact hz
  have mp : ds.map id = ds := List.map_id ds
  have er' : PySem.W.EachIs (fun v b => ∃ as, Reads (PySem.W.sortingHeap (PySem.W.copyHeap s.heap vs) (s.heap.objs.size + 1) vs) v b as) vs ds := er.mono fun _ _ ⟨as, r⟩ => ⟨as, PyProof.Rows.Reads.keeps (fun _ _ => PySem.W.sorting_copy_old) r⟩
  have S := PySem.W.SortsAt.data (prog := prog) (w := w) (A := A.in1.in1) (s := { s with heap := PySem.W.sortingHeap (PySem.W.copyHeap s.heap vs) (s.heap.objs.size + 1) vs }) er' al so (fun d hd => hu d hd)
  have done := h (PySem.W.sortVals (PySem.W.dataKind (PySem.W.sortingHeap (PySem.W.copyHeap s.heap vs) (s.heap.objs.size + 1) vs) ds) false vs vs) (by rw [PySem.W.sortVals_length false rfl]; exact e.length)
    (by have := PySem.W.sortVals_data (enc := id) false e er' (by rw [mp]; exact al); rw [mp] at this; exact this)
  refine Calls.call_function_entry PyProof.Rows.kind_sorted PyProof.Rows.plain_sorted PyProof.Rows.entry_sorted (PyProof.Rows.args_sorted1 _) ?_
  unfold Builtin.«sorted»; refine wpAny_bind (m := checkCount "sorted" 1 1 _) (wpAny_pure (wpAny_bind (collect_seq hT ho hc hd (wpAny_bind (wpAny_newList ?_ hz')) hz')))
  have sz : ((s.heap.push (PyProof.Rows.seqObj "list" #[] 0)).update s.heap.objs.size (Obj.mapSeq (· ++ vs.toArray))).objs.size = s.heap.objs.size + 1 := by rw [Heap.size_update, PyProof.Rows.size_push']
  show wpAny (model prog w) _ _ _ _ { s with heap := PySem.W.copyHeap s.heap vs }
  rw [sz]
  refine wpAny_bind (wpAny_holding (wpAny_call_entry PyProof.Rows.slot_list_sort ⟨_, PySem.W.copyHeap_at s.heap vs, rfl⟩ PyProof.Rows.entry_list_sort ?_ (PyProof.Rows.args_list_sort _)))
  refine wpAny_mono (PySem.W.list_sort_vals (E := fun _ _ => False) (P := fun f s' => f = .done (.ret .none) ∧ Q (.ref (s.heap.objs.size + 1)) s') (s := { s with heap := PySem.W.copyHeap s.heap vs }) (PySem.W.copyHeap_at s.heap vs) S hz' ⟨rfl, done⟩) (fun f s' hf => ?_) fun _ _ e => e.elim
  obtain ⟨rfl, hq⟩ := hf
  exact ⟨_, rfl, wpAny_pure ⟨_, rfl, hq⟩⟩
theorem k_sorted (hu : X.A.units + 100 < cLine) : CallR X (.builtin "sorted") (rC1 X.K (b1op .sorted)) := c1 fun pins s σ H B x v Q dx op I rx hs cx e k => by
  simp only [b1op] at e
  obtain ⟨xs, e1, e⟩ := bindSome e
  split at e
  · rename_i hh
    simp only [Bool.and_eq_true, decide_eq_true_eq] at hh
    obtain ⟨⟨⟨h1, h2⟩, h3⟩, h4⟩ := hh
    obtain rfl := Option.some.inj e
    have hl : ∀ d ∈ xs, SeqAt.shaped d = true := fun d hd => List.all_eq_true.mp h3 d hd
    have main : ∀ (p : Addr) (vs : List V) (us : List Value) (o : Obj) (n : Nat) (T : String), v = .ref p → T = "list" ∨ T = "tuple" → s.heap.get? p = some o → o.cls = .type T → o.data = .seq us.toArray n → RpAll X.K B vs xs → Vals vs us → wpAny (model X.prog X.w) X.A (call (.builtin "sorted") [v]) (EP X pins σ Q) X.xe s := by
      rintro p vs us o n T rfl hT ho hc hd ra rv
      refine sorted_seq hT ho hc hd (stands_of ra rv) (stands_reads I hs (stands_of ra rv) fun d hd => shaped_lay (hl d hd)) (allAlike_of h1) (sortable_of h2) h4 (fun d hd => ?_) fun out ho' hout => ?_
      · have := shaped_depth (hl d hd); omega
      · obtain ⟨ws, r1, r2⟩ := of_stands hout
        obtain ⟨ep, he'⟩ := PyProof.Rows.sortedAll_at s.heap us out.toArray
        have hlen : ws.length ≤ sizeLine := by
          have e1 := r2.length
          have : out.length = xs.length := ho'
          omega
        have hn : H (s.heap.objs.size + 1) = none := I.hok.fresh (Nat.le_succ _)
        exact ⟨.ref _, upd H (s.heap.objs.size + 1) (.lst ws), I.laid (t' := s.toks) (fun _ _ => PyProof.Rows.sortedAll_old) (Nat.le_succ _) ⟨hlen, out, ep, r2, he'⟩, rfl, k _ _ _ (Alloc.lst hs hn r1)⟩
    rcases isSeq_some e1 with rfl | rfl
    · obtain ⟨p, vs, rfl, hq, ra⟩ := cx.list hs
      cases rx
      obtain ⟨us, rv, ⟨o, n, ho, hc, _, hd⟩, _⟩ := I.list hq
      exact main p vs us o n "list" rfl (.inl rfl) ho hc hd ra rv
    · obtain ⟨p, vs, rfl, _, hq, ra⟩ := cx.tuple hs
      cases rx
      obtain ⟨us, rv, ⟨o, ho, hc, n, hd⟩, _⟩ := I.tuple (SqT.of hq)
      exact main p vs us o n "tuple" rfl (.inr rfl) ho hc hd ra rv
  · cases e
theorem depthAll_le {m : Nat} : ∀ {xs : List D}, (∀ d ∈ xs, d.depth ≤ m) → PyData.depthAll xs ≤ m
  | [], _ => by simp [PyData.depthAll]
  | x :: xs, h => by
    have h1 := h x List.mem_cons_self
    have h2 := depthAll_le fun d hd => h d (List.mem_cons_of_mem _ hd)
    simp only [PyData.depthAll]
    omega
theorem mm_cond {x : D} {xs : List D} (h : (allAlike (x :: xs) && depthOk (x :: xs) && (x :: xs).all (fun y => !isNone y)) = true) : PySem.W.AlikeAll (x :: xs) ∧ ∀ d ∈ x :: xs, SeqAt.shaped d = true := by
  simp only [Bool.and_eq_true] at h
  obtain ⟨⟨h1, h2⟩, h3⟩ := h
  refine ⟨⟨allAlike_of h1, fun d hd => ?_⟩, fun d hd => List.all_eq_true.mp h2 d hd⟩
  rintro rfl
  have := List.all_eq_true.mp h3 _ hd
  simp [isNone] at this
theorem foldl_mem {f : D → D → D} (hf : ∀ a b, f a b = a ∨ f a b = b) : ∀ (xs : List D) (x : D), xs.foldl f x ∈ x :: xs
  | [], x => by simp
  | y :: ys, x => by
    have h := foldl_mem hf ys (f x y)
    rw [List.foldl_cons]
    rcases List.mem_cons.mp h with h | h
    · rw [h]
      rcases hf x y with e | e <;> rw [e] <;> simp
    · simp [h]
theorem minD_mem (x : D) (xs : List D) : PySem.W.minD x xs ∈ x :: xs := foldl_mem (fun a b => by show (if _ then _ else _) = _ ∨ _; split <;> simp) xs x
theorem maxD_mem (x : D) (xs : List D) : PySem.W.maxD x xs ∈ x :: xs := foldl_mem (fun a b => by show (if _ then _ else _) = _ ∨ _; split <;> simp) xs x
/-- the item that was found -/
theorem found_item {vs : List V} {us : List Value} {ds : List D} {m : D} {i : Nat} {u : Value} {h' : Heap} {as : List Addr} (I : Inv X pins σ H s) (hs : Same B H) (ra : RpAll X.K B vs ds) (rv : Vals vs us) (hal : ∀ d ∈ ds, ∀ d' ∈ ds, PySem.W.alike d d' = true) (hl : ∀ d ∈ ds, SeqAt.shaped d = true) (hm : m ∈ ds)
    (hu : us[i]? = some u) (hr : Reads h' u m as) (keep : ∀ b o, s.heap.get? b = some o → h'.get? b = some o) : ∃ v, RelV v u ∧ Rp X.K B v m := by
  obtain ⟨hi, _⟩ := List.getElem?_eq_some_iff.mp hu
  have hi' : i < ds.length := by rw [← ra.length, rv.length]; exact hi
  have hd : ds[i]? = some ds[i] := List.getElem?_eq_getElem hi'
  obtain ⟨v, hv, rp⟩ := ra.get hd
  obtain ⟨u', hu', rv'⟩ := rv.get hv
  rw [hu] at hu'
  obtain rfl := Option.some.inj hu'
  have hmem : ds[i] ∈ ds := List.getElem_mem hi'
  obtain ⟨bs, hr'⟩ := Rp.reads0 I hs rp rv' (shaped_lay (hl _ hmem))
  have := PySem.W.alike_unique _ _ _ _ _ (hal _ hmem _ hm) (PyProof.Rows.Reads.keeps keep hr') hr
  exact ⟨v, rv', by rw [← this]; exact rp⟩
theorem k_mm {f : String} {b : B1} (m : D → List D → D) (hm : ∀ x xs, m x xs ∈ x :: xs)
    (hl : ∀ {A : Around} {E : Value → Shared → Prop} {s : Shared} {l : Addr} {vs : Array Value} {x : D} {xs : List D} {as : List Addr} {Q : Value → Shared → Prop}, A.handled = none → s.heap.IsList l vs → ReadsAll s.heap vs.toList (x :: xs) as → PySem.W.AlikeAll (x :: xs) → A.units + 1 + PyData.depthAll (x :: xs) < cLine →
      (∀ (i : Nat) (v : Value) (h' : Heap) (tk : Nat) (bs : List Addr), vs[i]? = some v → Reads h' v (m x xs) bs → (∀ b o, s.heap.get? b = some o → h'.get? b = some o) → Q v { s with heap := h', toks := tk }) → wpAny (model X.prog X.w) A (call (.builtin f) [.ref l]) Q E s)
    (ht : ∀ {A : Around} {E : Value → Shared → Prop} {s : Shared} {l : Addr} {vs : Array Value} {x : D} {xs : List D} {as : List Addr} {Q : Value → Shared → Prop}, A.handled = none → s.heap.IsTuple l vs → ReadsAll s.heap vs.toList (x :: xs) as → PySem.W.AlikeAll (x :: xs) → A.units + 1 + PyData.depthAll (x :: xs) < cLine →
      (∀ (i : Nat) (v : Value) (h' : Heap) (tk : Nat) (bs : List Addr), vs[i]? = some v → Reads h' v (m x xs) bs → (∀ b o, s.heap.get? b = some o → h'.get? b = some o) → Q v { s with heap := h', toks := tk }) → wpAny (model X.prog X.w) A (call (.builtin f) [.ref l]) Q E s)
    (hb : ∀ d op, b1op b d = some op → ∃ x xs, (d = .list (x :: xs) ∨ d = .tuple (x :: xs)) ∧ (allAlike (x :: xs) && depthOk (x :: xs) && (x :: xs).all (fun y => !isNone y)) = true ∧ op = .d (m x xs))
    (hc : X.calm = true) (hu : X.A.units + 100 < cLine) : CallR X (.builtin f) (rC1 X.K (b1op b)) := c1 fun pins s σ H B x v Q dx op I rx hs cx e k => by
  obtain ⟨y, ys, hd, cond, rfl⟩ := hb _ _ e
  obtain ⟨al, sh⟩ := mm_cond cond
  have hdep : X.A.units + 1 + PyData.depthAll (y :: ys) < cLine := by
    have := depthAll_le (m := 64) (xs := y :: ys) fun d hd => shaped_depth (sh d hd)
    omega
  have lay : PyData.canLayAll0 (y :: ys) = true := by
    have : ∀ zs : List D, (∀ d ∈ zs, d.canLay0 = true) → PyData.canLayAll0 zs = true := fun zs => by
      induction zs with
      | nil => intro _; simp [PyData.canLayAll0]
      | cons z zs ih => intro h; rw [PyData.canLayAll0, h z List.mem_cons_self, ih fun d hd => h d (List.mem_cons_of_mem _ hd)]; rfl
    exact this _ fun d hd => shaped_lay (sh d hd)
  have fin' : ∀ (vs : List V) (us : List Value) (i : Nat) (u : Value) (h' : Heap) (tk : Nat) (bs : List Addr), RpAll X.K B vs (y :: ys) → Vals vs us → us[i]? = some u → Reads h' u (m y ys) bs → (∀ b o, s.heap.get? b = some o → h'.get? b = some o) → EP X pins σ Q u { s with heap := h', toks := tk } := by
    intro vs us i u h' tk bs ra rv hu' hr keep
    obtain ⟨v', r1, r2⟩ := found_item I hs ra rv al.1 sh (hm y ys) hu' hr keep
    exact ⟨v', H, I.kept (t' := tk) keep, r1, k _ _ _ (Alloc.here hs r2)⟩
  rcases hd with rfl | rfl
  · obtain ⟨p, vs, rfl, hq, ra⟩ := cx.list hs
    cases rx
    obtain ⟨us, rv, pl, _⟩ := I.list hq
    obtain ⟨as, hr⟩ := RpAll.reads I hs _ _ us ra rv lay
    exact hl (I.ok.hd hc) pl.isList hr al hdep fun i u h' tk bs hu' hr' keep => fin' vs us i u h' tk bs ra rv (by simpa using hu') hr' keep
  · obtain ⟨p, vs, rfl, _, hq, ra⟩ := cx.tuple hs
    cases rx
    obtain ⟨us, rv, pl, _⟩ := I.tuple (SqT.of hq)
    obtain ⟨as, hr⟩ := RpAll.reads I hs _ _ us ra rv lay
    exact ht (I.ok.hd hc) (show s.heap.IsTuple p us.toArray from pl) hr al hdep fun i u h' tk bs hu' hr' keep => fin' vs us i u h' tk bs ra rv (by simpa using hu') hr' keep
theorem k_min (hc : X.calm = true) (hu : X.A.units + 100 < cLine) : CallR X (.builtin "min") (rC1 X.K (b1op .min)) :=
  k_mm PySem.W.minD minD_mem PySem.W.min_list_data PySem.W.min_tuple_data (fun d op e => by
    cases d <;> simp only [b1op] at e <;> first | (cases e; done) | skip
    all_goals (rename_i xs; cases xs <;> simp only [b1op] at e <;> first | (cases e; done) | (split at e <;> first | (cases e; done) | (rename_i hh; exact ⟨_, _, by simp, hh, (Option.some.inj e).symm⟩)))) hc hu
theorem k_max (hc : X.calm = true) (hu : X.A.units + 100 < cLine) : CallR X (.builtin "max") (rC1 X.K (b1op .max)) :=
  k_mm PySem.W.maxD maxD_mem PySem.W.max_list_data PySem.W.max_tuple_data (fun d op e => by
    cases d <;> simp only [b1op] at e <;> first | (cases e; done) | skip
    all_goals (rename_i xs; cases xs <;> simp only [b1op] at e <;> first | (cases e; done) | (split at e <;> first | (cases e; done) | (rename_i hh; exact ⟨_, _, by simp, hh, (Option.some.inj e).symm⟩)))) hc hu
theorem c2 {f : Value} {g : D → D → Option Op} (h : ∀ (pins : List (Addr × Obj)) (s : Shared) (σ : L2.St) (H B : Hp) (x y : V) (Q : VK) (us : List Value) (dx dy : D) (op : Op), Inv X pins σ H s → Vals [x, y] us → Same B H → Cr X.K H B x dx → Cr X.K H B y dy → g dx dy = some op →
      (∀ v H' B', Alloc X.K H B op v H' B' → Q v H') → wpAny (model X.prog X.w) X.A (call f us) (EP X pins σ Q) X.xe s) : CallR X f (rC2 X.K g) := by
  rintro pins s σ H xs us Q I r ⟨x, y, rfl, B, dx, dy, op, hs, cx, cy, e, k⟩
  exact h pins s σ H B x y Q us dx dy op I r hs cx cy e k
theorem k_max2 (hc : X.calm = true) : CallR X (.builtin "max") (rC2 X.K (b2op .max2)) := c2 fun pins s σ H B x y Q us dx dy op I r hs cx cy e k => by
  cases dx <;> cases dy <;> simp only [b2op] at e <;> first | (cases e; done) | skip
  obtain rfl := Option.some.inj e
  exact call_max2 hc pins s σ H _ us Q I r ⟨_, _, by rw [cx.int, cy.int], k _ _ _ (Alloc.here hs (.int _))⟩
theorem k_min2 (hc : X.calm = true) : CallR X (.builtin "min") (rC2 X.K (b2op .min2)) := c2 fun pins s σ H B x y Q us dx dy op I r hs cx cy e k => by
  cases dx <;> cases dy <;> simp only [b2op] at e <;> first | (cases e; done) | skip
  obtain rfl := Option.some.inj e
  exact call_min2 hc pins s σ H _ us Q I r ⟨_, _, by rw [cx.int, cy.int], k _ _ _ (Alloc.here hs (.int _))⟩
end
end PD

set_option Elab.async false
set_option linter.all false
set_option maxRecDepth 100000
/-! PD7: calls: built-ins, methods, defs. -/
namespace PD
open PySem L2 PySem.Spec

/-! ### 1. built-ins by name -/
section
variable {X : Cx} {a b : Expr} {Φ : Tab} {ca cb : Ce} {p pos : Pos} {x : Str} {id T : String}
theorem b1_rd {f : B1} {σ : L2.St} {H : Hp} {Q : VK} (h : tE X.K Φ (.b1 f ca) σ H Q) : tCB (rC1 X.K (b1op f)) (tCons (tO X.K Φ ca) tNil) σ H Q := by
  obtain ⟨st, B, op, st', r, ev, k⟩ := h
  simp only [evE] at ev
  obtain ⟨oa, st1, h1, ev⟩ := bindOpr ev
  obtain ⟨y, h2, ev⟩ := bindSome ev
  obtain ⟨z, h3, ev⟩ := Option.map_eq_some_iff.mp ev
  simp only [Prod.mk.injEq] at ev
  obtain ⟨rfl, rfl⟩ := ev
  obtain ⟨_, _, _, f1⟩ := opr_some h1
  exact ⟨st, B, oa, st1, r, h1, fun v H1 B1 x1 o1 => ⟨v, rfl, B1, y, z, x1.rel.sub, o1.read f1 (Ext.refl x1.rel) h2, h3, fun v' H' B' al => fin x1 al k⟩⟩
theorem cE_b1B {f : B1} (hc : CallR X (.builtin id) (rC1 X.K (b1op f))) (hg : Gl X x) (hm : X.mg x = none) (hv : bootBuiltins x = some (.builtin id)) (ha : PE X a (tE X.K Φ ca)) (hn : x ≠ "__name__" := by decide) (hdb : (x == ("__debug__" : Str)) = false := by decide)
    (hs : starEach [a] X.env = (false, eval a X.env) :: starEach [] X.env := by rfl) : PE X (.Call (.Name x p) [a] [] pos) (tE X.K Φ (.b1 f ca)) :=
  pe_mono (pe_callB hc hg hm hv (pa_cons (pe_o ha) pa_nil hs) hn hdb (he := hs)) fun σ H Q h => b1_rd h
theorem cE_b1T {f : B1} (hc : CallR X (.type T) (rC1 X.K (b1op f))) (hg : Gl X x) (hm : X.mg x = none) (hv : bootBuiltins x = some (.type T)) (ha : PE X a (tE X.K Φ ca)) (hn : x ≠ "__name__" := by decide) (hdb : (x == ("__debug__" : Str)) = false := by decide)
    (hs : starEach [a] X.env = (false, eval a X.env) :: starEach [] X.env := by rfl) : PE X (.Call (.Name x p) [a] [] pos) (tE X.K Φ (.b1 f ca)) :=
  pe_mono (pe_callTy hc hg hm hv (pa_cons (pe_o ha) pa_nil hs) hn hdb (he := hs)) fun σ H Q h => b1_rd h
theorem cE_b2B {f : B2} (hc : CallR X (.builtin id) (rC2 X.K (b2op f))) (hg : Gl X x) (hm : X.mg x = none) (hv : bootBuiltins x = some (.builtin id)) (ha : PE X a (tE X.K Φ ca)) (hb : PE X b (tE X.K Φ cb)) (hn : x ≠ "__name__" := by decide) (hdb : (x == ("__debug__" : Str)) = false := by decide)
    (hs : starEach [a, b] X.env = (false, eval a X.env) :: starEach [b] X.env := by rfl) (hs2 : starEach [b] X.env = (false, eval b X.env) :: starEach [] X.env := by rfl) (hpl : (backTo pos (starEach [b] X.env)).any (·.1) = false := by rfl) : PE X (.Call (.Name x p) [a, b] [] pos) (tE X.K Φ (.b2 f ca cb)) :=
  pe_mono (pe_callB hc hg hm hv (pa_cons (pe_o ha) (pa_cons (pe_o hb) pa_nil hs2) hs) hn hdb (he := hs) (hpl := hpl)) fun σ H Q ⟨st, B, op, st', r, ev, k⟩ => by
    simp only [evE] at ev
    obtain ⟨oa, st1, ob, st2, y, z, w, h1, h2, h3, h4, h5, h6⟩ := ev2 (k := fun (z : Op) st => (z, st)) (st2 := st') ev
    cases h6
    obtain ⟨_, _, _, f1⟩ := opr_some h1
    obtain ⟨_, _, _, f2⟩ := opr_some h2
    exact two (K := X.K) r h1 f1 h2 f2 fun v w H2 B2 x2 c1 c2 => ⟨v, w, rfl, B2, y, z, _, x2.rel.sub, c1 y h3, c2 z h4, h5, fun v' H' B' al => fin x2 al k⟩
/-- list(range(n)) -/
theorem cE_listRng {p2 pos2 : Pos} (hc : X.calm = true) (hg : Gl X "list") (hm : X.mg "list" = none) (hg2 : Gl X "range") (hm2 : X.mg "range" = none) (ha : PE X a (tE X.K Φ ca)) (na : starEach [a] X.env = (false, eval a X.env) :: starEach [] X.env := by rfl)
    (na2 : starEach [Expr.Call (.Name "range" p2) [a] [] pos2] X.env = (false, eval (.Call (.Name "range" p2) [a] [] pos2) X.env) :: starEach [] X.env := by rfl) :
    PE X (.Call (.Name "list" p) [.Call (.Name "range" p2) [a] [] pos2] [] pos) (tE X.K Φ (.b1 .listRange ca)) :=
  pe_mono (pe_listRg hc hg hm (prg_1 hg2 hm2 (pe_o ha) na) na2) fun σ H Q ⟨st, B, op, st', r, ev, k⟩ => by
    simp only [evE] at ev
    obtain ⟨oa, st1, h1, ev⟩ := bindOpr ev
    obtain ⟨y, h2, ev⟩ := bindSome ev
    obtain ⟨z, h3, ev⟩ := Option.map_eq_some_iff.mp ev
    simp only [Prod.mk.injEq] at ev
    obtain ⟨rfl, rfl⟩ := ev
    obtain ⟨_, _, _, f1⟩ := opr_some h1
    cases y <;> simp only [b1op] at h3 <;> first | (cases h3; done) | skip
    rename_i n
    split at h3
    · rename_i hn
      obtain rfl := Option.some.inj h3
      refine ⟨st, B, oa, st1, r, h1, fun v H1 B1 x1 o1 => ⟨n, (o1.read f1 (Ext.refl x1.rel) h2).int, RgOk.of_le (Int.le_refl 0) hn.2 (by omega) hn.1, fun q hq => ?_⟩⟩
      have rr : ∀ m : Nat, RpAll X.K B1 (rgV 0 (m : Int)) ((List.range m).map fun (i : Nat) => PyData.int (i : Nat)) := fun m => by
        unfold rgV
        have e1 : ((m : Int) - 0).toNat = m := by omega
        rw [e1]
        have : ∀ l : List Nat, RpAll X.K B1 (l.map fun (j : Nat) => V.int (0 + (j : Nat))) (l.map fun (i : Nat) => PyData.int (i : Nat)) := fun l => by
          induction l with
          | nil => exact .nil
          | cons y l ih =>
            refine .cons ?_ ih
            show Rp X.K B1 (V.int (0 + (y : Int))) (PyData.int (y : Int))
            rw [Int.zero_add]; exact .int _
        exact this _
      have e2 : rgV 0 n = rgV 0 ((n.toNat : Nat) : Int) := by rw [Int.toNat_of_nonneg hn.1]
      rw [e2]
      exact fin x1 (Alloc.lst x1.rel.sub hq (rr n.toNat)) k
    · cases h3
end

/-! ### 2. isinstance -/
def Ty.name : Ty → String
  | .int => "int" | .bool => "bool" | .str => "str" | .list => "list" | .tuple => "tuple" | .dict => "dict"
def tyN : D → String
  | .none => "NoneType" | .bool _ => "bool" | .int _ => "int" | .str _ => "str" | .list _ => "list" | .tuple _ => "tuple" | .dict _ => "dict"
theorem kit_all : ∀ (a : String) (t : Ty), a ∈ ["NoneType", "bool", "int", "str", "list", "tuple", "dict"] → kitB a t.name = some (a == t.name || (a == "bool" && t == .int)) := by
  intro a t h
  simp only [List.mem_cons, List.not_mem_nil, or_false] at h
  rcases h with rfl | rfl | rfl | rfl | rfl | rfl | rfl <;> cases t <;> decide +kernel
theorem isiD_eq (d : D) (t : Ty) : kitB (tyN d) t.name = some (isiD d t) := by
  rw [kit_all _ _ (by cases d <;> simp [tyN])]
  cases d <;> cases t <;> rfl
section
variable {X : Cx} {a : Expr} {Φ : Tab} {ca : Ce} {p pos : Pos} {H B : Hp}
theorem tyx_of {x : V} {d : D} (hs : Same B H) (c : Cr X.K H B x d) : TyX X.K H x (.type (tyN d)) := by
  cases d with
  | none => rw [c.none']; exact .base .non
  | bool b => rw [c.bool]; exact .base (.bl b)
  | int i => rw [c.int]; exact .base (.int i)
  | str s => rw [c.str]; exact .base (.str s)
  | list xs =>
    obtain ⟨a, vs, rfl, hq, _⟩ := c.list hs
    rcases hq with (h | ⟨o, h⟩) | ⟨o, its, n, h, hc, _⟩
    · exact .base (.lst h)
    · exact .base (.frz h)
    · exact .kList h hc
  | tuple xs =>
    obtain ⟨a, vs, rfl, _, h, _⟩ := c.tuple hs
    exact .base (.tup h)
  | dict kvs =>
    obtain ⟨a, rfl, q⟩ := c.dict hs
    rcases q with ⟨ks, h, _⟩ | ⟨ks, h, _⟩
    · exact .base (.dK h)
    · exact .base (.dT h)
def tysV (ts : List Ty) : List V := ts.map fun t => V.ty t.name
theorem kitAny_of {K : PySem.W.Frag} (d : D) : ∀ ts : List Ty, PySem.W.kitAny K (.type (tyN d)) (ts.map fun t => Value.type t.name) = some (ts.any fun t => isiD d t)
  | [] => kitAny_nil
  | t :: ts => by
    rw [List.map_cons, List.any_cons]
    exact kitAny_cons (r := isiD d t || ts.any fun t => isiD d t) (kit_ty (isiD_eq d t)) (fun e => by rw [e, Bool.false_or]; exact kitAny_of d ts) fun e => by rw [e, Bool.true_or]
theorem isi_ev {ts : List Ty} {st st' : Stt} {op : Op} (ev : evE Φ (.isi ca ts) st = some (op, st')) : ∃ oa x, opr (evE Φ ca st) = some (oa, st') ∧ rdO oa st' = some x ∧ op = .d (.bool (ts.any fun t => isiD x t)) := by
  simp only [evE] at ev
  obtain ⟨oa, st1, h1, ev⟩ := bindOpr ev
  obtain ⟨y, h2, ev⟩ := Option.map_eq_some_iff.mp ev
  simp only [Prod.mk.injEq] at ev
  obtain ⟨rfl, rfl⟩ := ev
  exact ⟨oa, y, h1, h2, rfl⟩
/-- isinstance(a, T) -/
theorem cE_isi1 {t : Ty} {y : Str} {p2 : Pos} (hg : Gl X "isinstance") (hm : X.mg "isinstance" = none) (hv : bootBuiltins "isinstance" = some (.builtin "isinstance")) (ha : PE X a (tE X.K Φ ca)) (ht : PE X (.Name y p2) (tC (.ty t.name)))
    (hs : starEach [a, .Name y p2] X.env = (false, eval a X.env) :: starEach [.Name y p2] X.env := by rfl) : PE X (.Call (.Name "isinstance" p) [a, .Name y p2] [] pos) (tE X.K Φ (.isi ca [t])) :=
  pe_mono (pe_callB call_isi hg hm hv (pa_cons (pe_o ha) (pa_cons ht pa_nil) hs) (he := hs)) fun σ H Q ⟨st, B, op, st', r, ev, k⟩ => by
    obtain ⟨oa, x, h1, h2, rfl⟩ := isi_ev ev
    obtain ⟨_, _, _, f1⟩ := opr_some h1
    refine ⟨st, B, oa, st', r, h1, fun v H1 B1 x1 o1 => ?_⟩
    have c := o1.read f1 (Ext.refl x1.rel) h2
    refine ⟨v, _, _, _, _, rfl, .ty _, tyx_of x1.rel.sub c, kit_ty (isiD_eq x t), fin x1 (Alloc.here x1.rel.sub ?_) k⟩
    rw [List.any_cons, List.any_nil, Bool.or_false]
    exact .bl _
/-- isinstance(a, (T, U)) -/
theorem cE_isi2 {t u : Ty} {y z : Str} {p2 p3 p4 : Pos} {kk : Nat} (hg : Gl X "isinstance") (hm : X.mg "isinstance" = none) (hv : bootBuiltins "isinstance" = some (.builtin "isinstance")) (ha : PE X a (tE X.K Φ ca)) (ht : PE X (.Name y p2) (tC (.ty t.name))) (hu : PE X (.Name z p3) (tC (.ty u.name)))
    (hs : starEach [a, .Tuple [.Name y p2, .Name z p3] kk p4] X.env = (false, eval a X.env) :: starEach [.Tuple [.Name y p2, .Name z p3] kk p4] X.env := by rfl) : PE X (.Call (.Name "isinstance" p) [a, .Tuple [.Name y p2, .Name z p3] kk p4] [] pos) (tE X.K Φ (.isi ca [t, u])) :=
  pe_mono (pe_callB call_isiT hg hm hv (pa_cons (pe_o ha) (pa_cons (pe_tup (pa_cons ht (pa_cons hu pa_nil))) pa_nil) hs) (he := hs)) fun σ H Q ⟨st, B, op, st', r, ev, k⟩ => by
    obtain ⟨oa, x, h1, h2, rfl⟩ := isi_ev ev
    obtain ⟨_, _, _, f1⟩ := opr_some h1
    refine ⟨st, B, oa, st', r, h1, fun v H1 B1 x1 o1 => ⟨by show 2 ≤ sizeLine; decide, fun q hq => ?_⟩⟩
    have c := o1.read f1 (Ext.refl x1.rel) h2
    have g : Grow H1 B1 (upd H1 q (.tup [.ty t.name, .ty u.name])) B1 := Grow.new' x1.rel.sub hq
    have c' : Cr X.K (upd H1 q (.tup [.ty t.name, .ty u.name])) B1 v x := by
      rcases c with c | ⟨p, o, rfl, hp, rr⟩
      · exact .inl c
      · exact .inr ⟨p, o, rfl, (g.keep p o hp).1, rr⟩
    refine ⟨v, q, _, _, [.type t.name, .type u.name], _, rfl, upd_same, .cons (.ty _) (.cons (.ty _) .nil), tyx_of g.sub c', kitAny_of x [t, u], ?_⟩
    exact fin (x1.trans (g.ext x1.rel)) (Alloc.here g.sub (.bl _)) k
end

/-! ### 3. methods -/
mutual
theorem Rp.dp {K : PySem.W.Frag} {H : Hp} : ∀ (d : D) (v : V), Rp K H v d → d.canLay0 = true → Dp K H v d
  | .none, _, h, _ => by cases h; exact .non
  | .bool b, _, h, _ => by cases h; exact .bl b
  | .int i, _, h, _ => by cases h; exact .int i
  | .str x, _, h, _ => by cases h; exact .str x
  | .list ds, _, h, c => by cases h with | lst a r => exact .lst a (RpAll.dp ds _ r (by simpa [PyData.canLay0] using c))
  | .tuple ds, _, h, c => by cases h with | tup a r => exact .tup (SqT.of a) (RpAll.dp ds _ r (by simpa [PyData.canLay0] using c))
  | .dict _, _, _, c => by simp [PyData.canLay0] at c
theorem RpAll.dp {K : PySem.W.Frag} {H : Hp} : ∀ (ds : List D) (vs : List V), RpAll K H vs ds → PyData.canLayAll0 ds = true → DpAll K H vs ds
  | [], _, h, _ => by cases h; exact .nil
  | d :: ds, _, h, c => by
    rw [PyData.canLayAll0, Bool.and_eq_true] at c
    cases h with | cons a r => exact .cons (Rp.dp d _ a c.1) (RpAll.dp ds _ r c.2)
end
theorem findIdx_spec {α : Type} (p : α → Bool) : ∀ {xs : List α} {j : Nat}, xs.findIdx? p = some j → ∃ z, xs[j]? = some z ∧ p z = true ∧ ∀ (m : Nat) (z' : α), m < j → xs[m]? = some z' → p z' = false
  | [], j, h => by simp at h
  | x :: xs, j, h => by
    rw [List.findIdx?_cons] at h
    by_cases hx : p x = true
    · rw [if_pos hx] at h
      cases h
      exact ⟨x, rfl, hx, fun m _ hm => absurd hm (Nat.not_lt_zero m)⟩
    · rw [if_neg hx] at h
      obtain ⟨i, hi, rfl⟩ := Option.map_eq_some_iff.mp h
      obtain ⟨z, h1, h2, h3⟩ := findIdx_spec p hi
      refine ⟨z, by simpa using h1, h2, fun m z' hm hz' => ?_⟩
      cases m with
      | zero => simp at hz'; subst hz'; simpa using hx
      | succ m => exact h3 m z' (by omega) (by simpa using hz')
section
variable {X : Cx} {a e : Expr} {Φ : Tab} {ca ce : Ce} {p pos apos cpos : Pos}
theorem isL_some {x : Option D} {xs : List D} (h : x.bind isL = some xs) : x = some (.list xs) := by
  cases x with
  | none => cases h
  | some x => cases x <;> simp [isL] at h; subst h; rfl
theorem OpV.tyL {K : PySem.W.Frag} {v : V} {H0 H B : Hp} {st : Stt} {σ : L2.St} {op : Op} {xs : List D} (o : OpV K v H0 st σ H B op) (f : PD.fzO op = op) (r : StR K st σ H B) (h : rdO op st = some (.list xs)) : tyV K "list" v H := by
  obtain ⟨q, vs, rfl, hq, _⟩ := (o.read f (Ext.refl r) h).list r.sub
  exact .inl ⟨rfl, vs, hq⟩
theorem cE_index (hu : X.A.units + 65 < cLine) (ha : PE X a (tE X.K Φ ca)) (he : PE X e (tE X.K Φ ce))
    (hbase : attributeBase a "index" X.env (eval a X.env) = eval a X.env := by rfl)
    (hfew : ((backTo cpos (starEach [e] X.env)).all (fun x => !x.1) && (backToKw cpos (keywordEach [] X.env)).all (fun x => x.1.isSome)
      && decide ([e].length + ([] : List Keyword).length + (if ([] : List Keyword).isEmpty then 0 else 1) < 30)) = true := by rfl)
    (hline : (apos.endLine == cpos.line) = true := by rfl) (hs : starEach [e] X.env = (false, eval e X.env) :: starEach [] X.env := by rfl) : PE X (.Call (.Attribute a "index" apos) [e] [] cpos) (tE X.K Φ (.index ca ce)) :=
  pe_mono (pe_bm PySem.F.plainAttrs_list PySem.F.slot_list_index PySem.F.type_list_index (mt_indexD hu) (pe_o ha) (pa_cons (pe_o he) pa_nil hs) hbase hfew hline hs) fun σ H Q ⟨st, B, op, st', r, ev, k⟩ => by
    simp only [evE] at ev
    obtain ⟨oa, st1, h1, ev⟩ := bindOpr ev
    obtain ⟨xs0, h0, ev⟩ := bindSome ev
    obtain ⟨ob, st2, h2, ev⟩ := bindOpr ev
    obtain ⟨xs, h3, ev⟩ := bindSome ev
    obtain ⟨y, h4, ev⟩ := bindSome ev
    obtain ⟨j, h5, ev⟩ := Option.map_eq_some_iff.mp ev
    simp only [Prod.mk.injEq] at ev
    obtain ⟨rfl, rfl⟩ := ev
    obtain ⟨_, _, _, f1⟩ := opr_some h1
    obtain ⟨_, _, _, f2⟩ := opr_some h2
    unfold indexD at h5
    split at h5
    · rename_i hh
      rw [Bool.and_eq_true] at hh
      obtain ⟨z, g1, g2, g3⟩ := findIdx_spec _ h5
      refine ⟨st, B, oa, st1, r, h1, fun v H1 B1 x1 o1 => ⟨o1.tyL f1 x1.rel (isL_some h0), st1, B1, ob, st2, x1.rel, h2, fun w H2 B2 x2 o2 => ?_⟩⟩
      have c := o1.read f1 x2 (isL_some h3)
      have c2 := o2.read f2 (Ext.refl x2.rel) h4
      obtain ⟨q, vs, rfl, hq, ra⟩ := c.list x2.rel.sub
      exact ⟨q, w, y, xs, j, z, rfl, rfl, Rp.dp _ _ (c.rp x2.rel.sub) (shaped_lay hh.2), Rp.dp _ _ (c2.rp x2.rel.sub) (shaped_lay hh.1), hh.2, hh.1, g1, g2, g3, fin (x1.trans x2) (Alloc.here x2.rel.sub (.int _)) k⟩
    · cases h5
theorem cE_count (ha : PE X a (tE X.K Φ ca)) (he : PE X e (tE X.K Φ ce))
    (hbase : attributeBase a "count" X.env (eval a X.env) = eval a X.env := by rfl)
    (hfew : ((backTo cpos (starEach [e] X.env)).all (fun x => !x.1) && (backToKw cpos (keywordEach [] X.env)).all (fun x => x.1.isSome)
      && decide ([e].length + ([] : List Keyword).length + (if ([] : List Keyword).isEmpty then 0 else 1) < 30)) = true := by rfl)
    (hline : (apos.endLine == cpos.line) = true := by rfl) (hs : starEach [e] X.env = (false, eval e X.env) :: starEach [] X.env := by rfl) : PE X (.Call (.Attribute a "count" apos) [e] [] cpos) (tE X.K Φ (.count ca ce)) :=
  pe_mono (pe_bm PySem.F.plainAttrs_list PySem.F.slot_list_count PySem.F.type_list_count mt_lcount (pe_o ha) (pa_cons (pe_v he) pa_nil hs) hbase hfew hline hs) fun σ H Q ⟨st, B, op, st', r, ev, k⟩ => by
    simp only [evE] at ev
    obtain ⟨oa, st1, h1, ev⟩ := bindOpr ev
    obtain ⟨xs0, h0, ev⟩ := bindSome ev
    obtain ⟨y, st2, h2, ev⟩ := bindNmk ev
    obtain ⟨xs, h3, ev⟩ := bindSome ev
    obtain ⟨i, h4, ev⟩ := bindSome ev
    obtain ⟨ns, h5, ev⟩ := Option.map_eq_some_iff.mp ev
    simp only [Prod.mk.injEq] at ev
    obtain ⟨rfl, rfl⟩ := ev
    obtain rfl := intOf_some h4
    obtain ⟨_, _, _, f1⟩ := opr_some h1
    refine ⟨st, B, oa, st1, r, h1, fun v H1 B1 x1 o1 => ⟨o1.tyL f1 x1.rel (isL_some h0), st1, B1, _, st2, x1.rel, h2, fun w H2 B2 x2 rw' => ?_⟩⟩
    obtain ⟨q, vs, rfl, hq, ra⟩ := (o1.read f1 x2 (isL_some h3)).list x2.rel.sub
    obtain rfl := intsD_some h5 ra
    exact ⟨q, ns, i, rfl, by rw [rp_int rw'], hq, fin (x1.trans x2) (Alloc.here x2.rel.sub (.int _)) k⟩
end

/-! ### 4. what a slot owns changes -/
section
variable {K : PySem.W.Frag} {st st2 : Stt} {σ : L2.St} {H B H' B' : Hp} {i : Nat} {x x' : D}
theorem ownC_some (h : ownC i st = some x) : ∃ sv, st[i]? = some (some sv) ∧ sv.mt = true ∧ sv.d = x := by
  unfold ownC at h
  split at h <;> first | (cases h; done) | skip
  · rename_i e; cases h; exact ⟨_, e, rfl, rfl⟩
  · rename_i e; cases h; exact ⟨_, e, rfl, rfl⟩
theorem StR.own (r : StR K st σ H B) (h : ownC i st = some x) : ∃ p o, σ[i]? = some (some (.ref p)) ∧ B p = none ∧ H p = some o ∧ HoR K B o x ∧ OwnA st σ p := by
  obtain ⟨sv, e, m, rfl⟩ := ownC_some h
  obtain ⟨v, hv, q⟩ := r.at_ i sv e
  rw [SvR.of_ptr (SV.ptr_of_mt m)] at q
  obtain ⟨p, o, rfl, h1, h2, h3⟩ := q
  exact ⟨p, o, hv, h1, h2, h3, i, sv, e, m, hv⟩
theorem upC_some (h : upC i x' st = some st2) : ∃ sv sv', st[i]? = some (some sv) ∧ sv.mt = true ∧ sv'.mt = true ∧ sv'.d = x' ∧ (sv.fix = true → sv.kin sv') ∧ st2 = st.set i (some sv') := by
  unfold upC at h
  split at h <;> first | (cases h; done) | skip
  · rename_i e; cases h; exact ⟨_, .own x', e, rfl, rfl, rfl, nofun, rfl⟩
  · rename_i e; cases h; exact ⟨_, .par x', e, rfl, rfl, rfl, fun _ => trivial, rfl⟩
theorem StR.up {p : Addr} {o' : HO} (r : StR K st σ H B) (hu : upC i x' st = some st2) (hp : σ[i]? = some (some (.ref p))) (bs : Same B B') (sub : Same B' H') (keep : ∀ a u, a ≠ p → H a = some u → H' a = some u ∧ (B a = none → B' a = none)) (hp' : H' p = some o') (bp : B' p = none) (ho : HoR K B' o' x') :
    Ext K st σ H B st2 σ H' B' := by
  obtain ⟨sv, sv', e, m, m', rfl, fx, rfl⟩ := upC_some hu
  have il : i < st.length := (List.getElem?_eq_some_iff.mp e).1
  have ptr : ∀ a, PtrA (st.set i (some sv')) σ a → PtrA st σ a := fun a ⟨j, sw, h1, h2, h3⟩ => by
    rcases get_set h1 with ⟨rfl, q⟩ | ⟨ne, q⟩
    · exact ⟨i, sv, e, SV.ptr_of_mt m, h3⟩
    · exact ⟨j, sw, q, h2, h3⟩
  have own : ∀ a, OwnA (st.set i (some sv')) σ a → OwnA st σ a := fun a ⟨j, sw, h1, h2, h3⟩ => by
    rcases get_set h1 with ⟨rfl, q⟩ | ⟨ne, q⟩
    · exact ⟨i, sv, e, m, h3⟩
    · exact ⟨j, sw, q, h2, h3⟩
  have ownp : OwnA st σ p := ⟨i, sv, e, m, hp⟩
  refine ⟨⟨sub, by simpa using r.len, fun j sw h => ?_, fun j k sw sx a n h1 h2 h3 h4 h5 h6 => ?_⟩, bs, fun a u h1 h2 h3 => ?_, fun a u h1 h2 => ⟨ptr a h2, own a⟩, fun j sw h f => ⟨rfl, ?_⟩, rfl, fun a u h => ?_⟩
  · rcases get_set h with ⟨rfl, q⟩ | ⟨ne, q⟩
    · cases q
      refine ⟨_, hp, ?_⟩
      rw [SvR.of_ptr (SV.ptr_of_mt m')]
      exact ⟨p, o', rfl, bp, hp', ho⟩
    · obtain ⟨v, hv, q2⟩ := r.at_ j sw q
      refine ⟨v, hv, q2.mono bs fun hs p' u b' h' e' => ?_⟩
      subst e'
      have np : p' ≠ p := by
        rintro rfl
        exact r.sep i j _ _ _ ne e (SV.ptr_of_mt m) q hs hp hv
      exact ⟨(keep p' u np h').1, (keep p' u np h').2 b'⟩
  · have old : ∀ (l : Nat) (sy : SV), (st.set i (some sv'))[l]? = some (some sy) → sy.ptr = true → ∃ sz, st[l]? = some (some sz) ∧ sz.ptr = true := fun l sy z1 z2 => by
      rcases get_set z1 with ⟨rfl, q⟩ | ⟨ne, q⟩
      · exact ⟨sv, e, SV.ptr_of_mt m⟩
      · exact ⟨sy, q, z2⟩
    obtain ⟨s1, a1, a2⟩ := old j sw h1 h2
    obtain ⟨s2, b1, b2⟩ := old k sx h3 h4
    exact r.sep j k s1 s2 a n a1 a2 b1 b2 h5 h6
  · have np : a ≠ p := by rintro rfl; exact h3 ownp
    exact ⟨(keep a u np h1).1, (keep a u np h1).2 h2⟩
  · by_cases ij : i = j
    · subst ij
      rw [e] at h
      cases h
      exact ⟨sv', by rw [List.getElem?_set_self il], fx f⟩
    · exact ⟨sw, by rw [List.getElem?_set_ne ij]; exact h, SV.kin_refl f⟩
  · by_cases ap : a = p
    · subst ap; exact ⟨o', hp'⟩
    · exact ⟨u, (keep a u ap h).1⟩
theorem StR.up1 {p : Addr} {o o' : HO} (r : StR K st σ H B) (hu : upC i x' st = some st2) (hp : σ[i]? = some (some (.ref p))) (h0 : H p = some o) (bp : B p = none) (ho : HoR K B o' x') : Ext K st σ H B st2 σ (upd H p o') B :=
  r.up hu hp (Same.refl _) (fun a u e => by rw [upd_ne (ne_of_none e bp)]; exact r.sub _ _ e) (fun a u ne e => ⟨by rw [upd_ne ne]; exact e, id⟩) upd_same bp ho
end
section
variable {X : Cx} {e : Expr} {Φ : Tab} {ce : Ce} {cs : Ces} {p pos apos cpos : Pos} {y : Str} {i : Nat}
/-- the slot's reference is read -/
theorem ref_rd {σ : L2.St} {H B : Hp} {st : Stt} {x : D} (r : StR X.K st σ H B) (h : ownC i st = some x) {R : V → Hp → Prop} (k : ∀ p o, σ[i]? = some (some (.ref p)) → B p = none → H p = some o → HoR X.K B o x → R (.ref p) H) : tVar i σ H R := by
  obtain ⟨q, o, h1, h2, h3, h4, _⟩ := r.own h
  exact ⟨_, h1, k q o h1 h2 h3 h4⟩
theorem tyV_own {K : PySem.W.Frag} {B H : Hp} {q : Addr} {o : HO} {xs : List D} (h : H q = some o) (r : HoR K B o (.list xs)) : tyV K "list" (.ref q) H := by
  cases r with | lst r => exact .inl ⟨rfl, _, SqL.of h⟩
/-- x.pop(e) -/
theorem cE_popAt (hv : PE X (.Name y p) (tVar i)) (he : PE X e (tE X.K Φ ce))
    (hbase : attributeBase (.Name y p) "pop" X.env (eval (.Name y p) X.env) = eval (.Name y p) X.env := by rfl)
    (hfew : ((backTo cpos (starEach [e] X.env)).all (fun x => !x.1) && (backToKw cpos (keywordEach [] X.env)).all (fun x => x.1.isSome)
      && decide ([e].length + ([] : List Keyword).length + (if ([] : List Keyword).isEmpty then 0 else 1) < 30)) = true := by rfl)
    (hline : (apos.endLine == cpos.line) = true := by rfl) (hs : starEach [e] X.env = (false, eval e X.env) :: starEach [] X.env := by rfl) : PE X (.Call (.Attribute (.Name y p) "pop" apos) [e] [] cpos) (tE X.K Φ (.popAt i ce)) :=
  pe_mono (pe_bm PySem.F.plainAttrs_list PySem.F.slot_list_pop PySem.F.type_list_pop mt_popAt hv (pa_cons (pe_v he) pa_nil hs) hbase hfew hline hs) fun σ H Q ⟨st, B, op, st', r, ev, k⟩ => by
    simp only [evE] at ev
    obtain ⟨xs0, h0, ev⟩ := bindSome ev
    obtain ⟨z, st1, h1, ev⟩ := bindNmk ev
    obtain ⟨j, h2, ev⟩ := bindSome ev
    obtain ⟨xs, h3, ev⟩ := bindSome ev
    split at ev
    · rename_i hj
      obtain ⟨m, h4, ev⟩ := bindSome ev
      obtain ⟨d, h5, ev⟩ := bindSome ev
      obtain ⟨st2, h6, ev⟩ := Option.map_eq_some_iff.mp ev
      simp only [Prod.mk.injEq] at ev
      obtain ⟨rfl, rfl⟩ := ev
      obtain rfl := intOf_some h2
      refine ref_rd r (isL_some h0) fun q o g1 g2 g3 g4 => ⟨tyV_own g3 g4, st, B, _, st1, r, h1, fun w H1 B1 x1 rw' => ?_⟩
      obtain ⟨q', o', e1, e2, e3, e4, _⟩ := x1.rel.own (isL_some h3)
      rw [g1] at e1
      cases e1
      cases e4 with
      | lst ra =>
        obtain ⟨v, hv, rv⟩ := ra.get h5
        refine ⟨q, _, j, m, v, rfl, by rw [rp_int rw'], e3, hj.1, hj.2, by rw [ra.length]; exact h4, hv, ?_⟩
        have x2 := x1.rel.up1 h6 g1 e3 e2 (.lst (ra.eraseIdx m))
        exact k v _ _ (x1.trans x2) rv
    · cases ev
end

/-! ### 5. defs -/
/-- a def that writes nothing that stood: by the table -/
def spP (K : PySem.W.Frag) (Φ : Tab) (f : Str) (n : Nat) : Sp := fun vs H Q _ => vs.length = n ∧ ∃ B ds r, Same B H ∧ RpAll K B vs ds ∧ Φ f ds = some r ∧ ∀ v H' B', Grow H B H' B' → Rp K B' v r.1 → Q v H'
/-- a def that writes its first argument -/
def spM (K : PySem.W.Frag) (Φ : Tab) (f : Str) (n : Nat) : Sp := fun vs H Q _ => vs.length = n ∧ ∃ B p o d0 ws ds r, vs = .ref p :: ws ∧ Same B H ∧ B p = none ∧ H p = some o ∧ HoR K B o d0 ∧ RpAll K B ws ds ∧ Φ f (d0 :: ds) = some r ∧
  ∀ v H' B' o', Same B B' → Same B' H' → (∀ a u, a ≠ p → H a = some u → H' a = some u ∧ (B a = none → B' a = none)) → H' p = some o' → B' p = none → HoR K B' o' r.2 → Rp K B' v r.1 → Q v H'
section
variable {X : Cx} {e : Expr} {es : List Expr} {Φ : Tab} {ce : Ce} {cs : Ces} {p pos pv : Pos} {x y : Str} {i n k : Nat} {f : Addr} {fd : FuncData} {ps : List Str}
def _root_.PD.Ces.len : Ces → Nat
  | .nil => 0
  | .cons _ r => r.len + 1
theorem evEs_len : ∀ {cs : Ces} {st st' : Stt} {ds : List D}, evEs Φ cs st = some (ds, st') → ds.length = cs.len
  | .nil, _, _, _, h => by
    simp only [evEs, Option.some.injEq, Prod.mk.injEq] at h
    obtain ⟨rfl, _⟩ := h
    rfl
  | .cons c r, _, _, _, h => by
    simp only [evEs] at h
    obtain ⟨x, st1, _, h⟩ := bindNmk h
    obtain ⟨⟨ys, st2⟩, h2, h⟩ := Option.map_eq_some_iff.mp h
    simp only [Prod.mk.injEq] at h
    obtain ⟨rfl, _⟩ := h
    simp [evEs_len h2, PD.Ces.len]
theorem cE_call (F : FnOk X.prog X.w X.K X.mg X.base CX0 k f fd ps (spP X.K Φ x n)) (hr : Room k X.A) (hg : Gl X x) (hm : X.mg x = some (.ref f)) (hk : PySem.W.keepIn X.K (.ref f) = true) (hb : Binds X.K fd ps []) (ha : PA X (e :: es) (tEs X.K Φ cs)) (hn : cs.len = n := by rfl)
    (hdb : (x == ("__debug__" : Str)) = false := by decide) (he : starEach (e :: es) X.env = (false, eval e X.env) :: starEach es X.env := by rfl) (hpl : (backTo pos (starEach es X.env)).any (·.1) = false := by rfl) : PE X (.Call (.Name x p) (e :: es) [] pos) (tE X.K Φ (.call x cs)) :=
  pe_mono (pe_call F hr hg hm hk hb .nil pass0 ha hdb he hpl) fun σ H Q ⟨st, B, op, st', r, ev, kk⟩ => by
    simp only [evE] at ev
    obtain ⟨⟨ds, st1⟩, h1, ev⟩ := bindSome ev
    obtain ⟨z, h2, ev⟩ := Option.map_eq_some_iff.mp ev
    simp only [Prod.mk.injEq] at ev
    obtain ⟨rfl, rfl⟩ := ev
    refine ⟨st, B, ds, st1, r, h1, fun vs H1 B1 x1 r1 => ?_⟩
    show spP X.K Φ x n (vs ++ []) H1 Q E0
    rw [List.append_nil]
    exact ⟨by rw [r1.length, evEs_len h1]; exact hn, B1, ds, z, x1.rel.sub, r1, h2, fun v H' B' g rv => kk v H' B' (x1.trans (g.ext x1.rel)) rv⟩
/-- a def that makes a new object and gives it -/
def spF (K : PySem.W.Frag) (Φ : Tab) (f : Str) (n : Nat) : Sp := fun vs H Q _ => vs.length = n ∧ ∃ B ds r, Same B H ∧ RpAll K B vs ds ∧ Φ f ds = some r ∧ ∀ v H' B', Alloc K H B (.fr r.1) v H' B' → Q v H'
theorem cE_callF (F : FnOk X.prog X.w X.K X.mg X.base CX0 k f fd ps (spF X.K Φ x n)) (hr : Room k X.A) (hg : Gl X x) (hm : X.mg x = some (.ref f)) (hk : PySem.W.keepIn X.K (.ref f) = true) (hb : Binds X.K fd ps []) (ha : PA X (e :: es) (tEs X.K Φ cs)) (hn : cs.len = n := by rfl)
    (hdb : (x == ("__debug__" : Str)) = false := by decide) (he : starEach (e :: es) X.env = (false, eval e X.env) :: starEach es X.env := by rfl) (hpl : (backTo pos (starEach es X.env)).any (·.1) = false := by rfl) : PE X (.Call (.Name x p) (e :: es) [] pos) (tE X.K Φ (.callF x cs)) :=
  pe_mono (pe_call F hr hg hm hk hb .nil pass0 ha hdb he hpl) fun σ H Q ⟨st, B, op, st', r, ev, kk⟩ => by
    simp only [evE] at ev
    obtain ⟨⟨ds, st1⟩, h1, ev⟩ := bindSome ev
    obtain ⟨z, h2, ev⟩ := Option.map_eq_some_iff.mp ev
    simp only [Prod.mk.injEq] at ev
    obtain ⟨rfl, rfl⟩ := ev
    refine ⟨st, B, ds, st1, r, h1, fun vs H1 B1 x1 r1 => ?_⟩
    show spF X.K Φ x n (vs ++ []) H1 Q E0
    rw [List.append_nil]
    exact ⟨by rw [r1.length, evEs_len h1]; exact hn, B1, ds, z, x1.rel.sub, r1, h2, fun v H' B' al => fin x1 al kk⟩
/-- f(x, ..), x written by f -/
theorem cE_callM (F : FnOk X.prog X.w X.K X.mg X.base CX0 k f fd ps (spM X.K Φ x n)) (hr : Room k X.A) (hg : Gl X x) (hm : X.mg x = some (.ref f)) (hk : PySem.W.keepIn X.K (.ref f) = true) (hb : Binds X.K fd ps []) (hv : PE X (.Name y pv) (tVar i)) (ha : PA X es (tEs X.K Φ cs)) (hn : cs.len + 1 = n := by rfl)
    (hdb : (x == ("__debug__" : Str)) = false := by decide) (he : starEach (.Name y pv :: es) X.env = (false, eval (.Name y pv) X.env) :: starEach es X.env := by rfl) (hpl : (backTo pos (starEach es X.env)).any (·.1) = false := by rfl) : PE X (.Call (.Name x p) (.Name y pv :: es) [] pos) (tE X.K Φ (.callM x i cs)) :=
  pe_mono (pe_call F hr hg hm hk hb .nil pass0 (pa_cons hv ha he) hdb he hpl) fun σ H Q ⟨st, B, op, st', r, ev, kk⟩ => by
    simp only [evE] at ev
    obtain ⟨x0, h0, ev⟩ := bindSome ev
    obtain ⟨⟨ds, st1⟩, h1, ev⟩ := bindSome ev
    obtain ⟨d0, h2, ev⟩ := bindSome ev
    obtain ⟨z, h3, ev⟩ := bindSome ev
    obtain ⟨st2, h4, ev⟩ := Option.map_eq_some_iff.mp ev
    simp only [Prod.mk.injEq] at ev
    obtain ⟨rfl, rfl⟩ := ev
    refine ref_rd (R := fun v H' => tEs X.K Φ cs σ H' fun vs H1 => spM X.K Φ x n ((v :: vs) ++ []) H1 Q E0) r h0 fun q o g1 g2 g3 g4 => ⟨st, B, ds, st1, r, h1, fun vs H1 B1 x1 r1 => ?_⟩
    obtain ⟨q', o', e1, e2, e3, e4, _⟩ := x1.rel.own h2
    rw [g1] at e1
    cases e1
    show spM X.K Φ x n (.ref q :: vs ++ []) H1 Q E0
    rw [List.append_nil]
    refine ⟨by rw [List.length_cons, r1.length, evEs_len h1]; exact hn, B1, q, o', d0, vs, ds, z, rfl, x1.rel.sub, e2, e3, e4, r1, h3, fun v H' B' o2 bs sub keep hp bp ho rv => ?_⟩
    exact kk v H' B' (x1.trans (x1.rel.up h4 g1 bs sub keep hp bp ho)) rv
end
end PD

set_option Elab.async false
set_option linter.all false
set_option maxRecDepth 100000
/-! PD8: statements. -/
namespace PD
open PySem L2 PySem.Spec

/-! ### 1. stores to slots -/
section
variable {K : PySem.W.Frag} {st0 st1 st2 : Stt} {σ0 σ1 : L2.St} {H0 B0 H1 B1 : Hp} {i : Nat} {sv : SV} {v : V} {x : D} {op : Op}
theorem put_some (h : put i sv st1 = some st2) : st2 = st1.set i (some sv) ∧ i < st1.length ∧ ∀ o, st1[i]? = some (some o) → o.fix = false := by
  unfold put at h
  split at h
  · rename_i e
    cases h
    exact ⟨rfl, (List.getElem?_eq_some_iff.mp e).1, fun o q => by rw [e] at q; cases q⟩
  · rename_i o e
    split at h
    · cases h
    · rename_i hf
      cases h
      refine ⟨rfl, (List.getElem?_eq_some_iff.mp e).1, fun o' q => ?_⟩
      rw [e] at q; cases q
      simpa using hf
  · cases h
theorem put_ext (e : Ext K st0 σ0 H0 B0 st1 σ1 H1 B1) (h : put i sv st1 = some st2) (r : SvR K H1 B1 v sv) (new : sv.ptr = true → ∃ p, v = .ref p ∧ H0 p = none ∧ ¬ PtrA st1 σ1 p) :
    Ext K st0 σ0 H0 B0 st2 (σ1.set i (some v)) H1 B1 := by
  obtain ⟨rfl, il, nf⟩ := put_some h
  have ilσ : i < σ1.length := by rw [← e.rel.len]; exact il
  have look : ∀ (j : Nat) (sw : SV), (st1.set i (some sv))[j]? = some (some sw) → (i = j ∧ sw = sv) ∨ (i ≠ j ∧ st1[j]? = some (some sw)) := fun j sw q => by
    rcases get_set q with ⟨a, b⟩ | q
    · exact .inl ⟨a, Option.some.inj b⟩
    · exact .inr q
  have σs : (σ1.set i (some v))[i]? = some (some v) := List.getElem?_set_self ilσ
  have σn : ∀ j, i ≠ j → (σ1.set i (some v))[j]? = σ1[j]? := fun j n => List.getElem?_set_ne n
  have ptr : ∀ a, PtrA (st1.set i (some sv)) (σ1.set i (some v)) a → PtrA st1 σ1 a ∨ (sv.ptr = true ∧ v = .ref a) := fun a ⟨j, sw, h1, h2, h3⟩ => by
    rcases look j sw h1 with ⟨rfl, rfl⟩ | ⟨ne, q⟩
    · rw [σs] at h3; cases h3; exact .inr ⟨h2, rfl⟩
    · rw [σn j ne] at h3; exact .inl ⟨j, sw, q, h2, h3⟩
  have own : ∀ a, OwnA (st1.set i (some sv)) (σ1.set i (some v)) a → OwnA st1 σ1 a ∨ (sv.ptr = true ∧ v = .ref a) := fun a ⟨j, sw, h1, h2, h3⟩ => by
    rcases look j sw h1 with ⟨rfl, rfl⟩ | ⟨ne, q⟩
    · rw [σs] at h3; cases h3; exact .inr ⟨SV.ptr_of_mt h2, rfl⟩
    · rw [σn j ne] at h3; exact .inl ⟨j, sw, q, h2, h3⟩
  have fresh : ∀ a o, H0 a = some o → ¬ (sv.ptr = true ∧ v = .ref a) := fun a o ha ⟨h1, h2⟩ => by
    obtain ⟨p, e1, e2, _⟩ := new h1
    rw [e1] at h2; cases h2
    rw [ha] at e2; cases e2
  refine ⟨⟨e.rel.sub, by simpa using e.rel.len, fun j sw h => ?_, fun j k sw sx a n h1 h2 h3 h4 h5 h6 => ?_⟩, e.bsub, e.frame, fun a o h1 h2 => ?_, fun j sw h1 h2 => ?_, by simpa using e.len, e.there⟩
  · rcases look j sw h with ⟨rfl, rfl⟩ | ⟨ne, q⟩
    · exact ⟨v, σs, r⟩
    · rw [σn j ne]; exact e.rel.at_ j sw q
  · rcases look j sw h1 with ⟨rfl, rfl⟩ | ⟨ne, q⟩
    · rcases look k sx h3 with ⟨rfl, rfl⟩ | ⟨ne', q'⟩
      · exact n rfl
      · rw [σs] at h5
        cases h5
        obtain ⟨p, e1, _, e3⟩ := new h2
        cases e1
        rw [σn k ne'] at h6
        exact e3 ⟨k, sx, q', h4, h6⟩
    · rcases look k sx h3 with ⟨rfl, rfl⟩ | ⟨ne', q'⟩
      · rw [σs] at h6
        cases h6
        obtain ⟨p, e1, _, e3⟩ := new h4
        cases e1
        rw [σn j ne] at h5
        exact e3 ⟨j, sw, q, h2, h5⟩
      · rw [σn j ne] at h5
        rw [σn k ne'] at h6
        exact e.rel.sep j k sw sx a n q h2 q' h4 h5 h6
  · have f := fresh a o h1
    have p := (ptr a h2).resolve_right f
    obtain ⟨e1, e2⟩ := e.owned a o h1 p
    exact ⟨e1, fun z => e2 ((own a z).resolve_right f)⟩
  · obtain ⟨e1, sw', e2, k⟩ := e.fix j sw h1 h2
    have ne : i ≠ j := by
      rintro rfl
      have := nf sw' e2
      rw [SV.kin_fix k] at this
      cases this
    exact ⟨by rw [σn j ne]; exact e1, sw', by rw [List.getElem?_set_ne ne]; exact e2, k⟩
theorem put_val (e : Ext K st0 σ0 H0 B0 st1 σ1 H1 B1) (h : put i (.val x) st1 = some st2) (r : Rp K B1 v x) : Ext K st0 σ0 H0 B0 st2 (σ1.set i (some v)) H1 B1 :=
  put_ext e h r nofun
theorem setO_ext {σ : L2.St} (e : Ext K st0 σ H0 B0 st1 σ H1 B1) (o : OpV K v H0 st1 σ H1 B1 op) (h : setO i op st1 = some st2) : ∃ B2, Ext K st0 σ H0 B0 st2 (σ.set i (some v)) H1 B2 := by
  cases op with
  | d x => exact ⟨B1, put_val e h o⟩
  | fr x =>
    obtain ⟨p, oo, rfl, h0, hb, hp, r, np⟩ := o
    exact ⟨B1, put_ext e h (show SvR K H1 B1 (.ref p) (.own x) from ⟨p, oo, rfl, hb, hp, r⟩) fun _ => ⟨p, rfl, h0, np⟩⟩
  | sl j =>
    obtain ⟨⟨y, st3⟩, h1, h2⟩ := bindSome h
    obtain ⟨B2, e2, _, r2⟩ := o.fz e h1
    exact ⟨B2, put_val e2 h2 r2⟩
end

/-! ### 2. targets -/
mutual
def Ct.slots : Ct → List Nat
  | .nm i => [i]
  | .tp ts => ts.slots
def Cts.slots : Cts → List Nat
  | .nil => []
  | .cons t r => t.slots ++ r.slots
end
def Cts.len : Cts → Nat
  | .nil => 0
  | .cons _ r => r.len + 1
def OnlyAt (l : List Nat) (σ σ' : L2.St) : Prop := ∀ j, j ∉ l → σ'[j]? = σ[j]?
section
variable (K : PySem.W.Frag)
def tTg (c : Ct) : TG := fun v σ H Q => ∃ st B x st', StR K st σ H B ∧ Rp K B v x ∧ asg c x st = some st' ∧ ∀ σ', Ext K st σ H B st' σ' H B → OnlyAt c.slots σ σ' → Q σ' H
def tTgs (c : Cts) : TGs := fun vs σ H Q => ∃ st B xs st', StR K st σ H B ∧ RpAll K B vs xs ∧ asgs c xs st = some st' ∧ ∀ σ', Ext K st σ H B st' σ' H B → OnlyAt c.slots σ σ' → Q σ' H
end
section
variable {X : Cx} {pos : Pos}
theorem pg_mono {e : Expr} {t t' : TG} (h : PG X e t) (k : ∀ v σ H Q, t' v σ H Q → t v σ H Q) : PG X e t' := ⟨fun pins s σ H v u Q I r q => h.run pins s σ H v u Q I r (k v σ H Q q)⟩
theorem pgs_mono {e : List Expr} {t t' : TGs} (h : PGs X e t) (k : ∀ v σ H Q, t' v σ H Q → t v σ H Q) : PGs X e t' := ⟨fun pins s σ H v u Q I r q => h.run pins s σ H v u Q I r (k v σ H Q q)⟩
theorem asgs_len : ∀ {c : Cts} {xs : List D} {st st' : Stt}, asgs c xs st = some st' → xs.length = c.len
  | .nil, [], _, _, _ => rfl
  | .nil, _ :: _, _, _, h => by simp [asgs] at h
  | .cons _ _, [], _, _, h => by simp [asgs] at h
  | .cons t r, x :: xs, st, _, h => by
    simp only [asgs] at h
    obtain ⟨st1, _, h2⟩ := bindSome h
    simp [Cts.len, asgs_len h2]
theorem cG_nm (i : Nat) {x : Str} (hN : X.N.Nodup) (hi : X.N[i]? = some x := by rfl) (hx : Loc X.env.scope x := by first | exact Or.inl rfl | exact Or.inr rfl) (hf : X.fn x = true ∨ X.env.scope.names.lookup x = some .local := by first | exact .inl rfl | exact .inr rfl | assumption) : PG X (.Name x pos) (tTg X.K (.nm i)) :=
  pg_mono (pg_name hN hi hx hf) fun v σ H Q ⟨st, B, y, st', r, rv, h, k⟩ => by
    simp only [asg] at h
    refine k _ (put_val (Ext.refl r) h rv) fun j hj => ?_
    rw [List.getElem?_set_ne]
    simpa [Ct.slots, eq_comm] using hj
theorem cGs_nil : PGs X [] (tTgs X.K .nil) := pgs_mono pgs_nil fun v σ H Q ⟨st, B, y, st', r, rv, h, k⟩ => by
  cases y with
  | nil =>
    cases rv
    simp only [asgs, Option.some.injEq] at h
    subst h
    exact ⟨rfl, k σ (Ext.refl r) fun _ _ => rfl⟩
  | cons _ _ => simp [asgs] at h
theorem cGs_cons {e : Expr} {es : List Expr} {t : Ct} {ts : Cts} (h1 : PG X e (tTg X.K t)) (h2 : PGs X es (tTgs X.K ts))
    (hs : (assignEach (e :: es) X.env).map (·.2) = assign e X.env :: (assignEach es X.env).map (·.2) := by rfl) : PGs X (e :: es) (tTgs X.K (.cons t ts)) :=
  pgs_mono (pgs_cons h1 h2 hs) fun v σ H Q ⟨st, B, y, st', r, rv, h, k⟩ => by
    cases y with
    | nil => simp [asgs] at h
    | cons y ys =>
      cases rv with
      | cons a b =>
        simp only [asgs] at h
        obtain ⟨st1, e1, e2⟩ := bindSome h
        refine ⟨_, _, rfl, st, B, y, st1, r, a, e1, fun σ1 x1 o1 => ⟨st1, B, ys, st', x1.rel, b, e2, fun σ2 x2 o2 => k σ2 (x1.trans x2) fun j hj => ?_⟩⟩
        simp only [Cts.slots, List.mem_append, not_or] at hj
        rw [o2 j hj.2, o1 j hj.1]
/-! a list that is told apart -/
section
variable {prog : Program} {w : World} {A : Around} {F : Value → Shared → Prop}
theorem draws_list {it l : Addr} {items : Array Value} (ne : l ≠ it) : ∀ (n i : Nat) (s : Shared) (Q : List Value → Shared → Prop), s.heap.IsListIter it l i → s.heap.IsList l items → i + n = items.size →
    (∀ h', h'.IsListIter it l items.size → Heap.SameBut it s.heap h' → Q (items.toList.drop i) { s with heap := h' }) → wpAny (model prog w) A (draw (.ref it) n) Q F s
  | 0, i, s, Q, hit, _, e, hQ => by
    have e : i = items.size := by omega
    subst e
    show wpAny _ _ (pure []) Q F s
    have q := hQ s.heap hit (Heap.SameBut.refl ..)
    rw [List.drop_of_length_le (by simp)] at q
    exact wpAny_pure q
  | n + 1, i, s, Q, hit, hl, e, hQ => by
    have lt : i < items.size := by omega
    show wpAny _ _ (pyNext (.ref it) >>= _) Q F s
    refine wpAny_bind (wpAny_pyNext_list_item hit hl (x := items[i]) (by simp [lt]) fun h1 hit1 sb1 => ?_)
    refine wpAny_bind (wpAny_holding (draws_list ne n (i + 1) _ _ hit1 (hl.extBut sb1.extBut ne) (by omega) fun h2 hit2 sb2 => ?_))
    have q := hQ h2 hit2 (sb1.trans sb2)
    rw [List.drop_eq_getElem_cons (by simpa using lt)] at q
    exact wpAny_pure q
theorem untie_list {s : Shared} {l : Addr} {items : Array Value} {elts : List Expr} {env : Env} {kk : Nat} {pos : Pos} {Q : Unit → Shared → Prop} (hh : A.handled = none) (hl : s.heap.IsList l items) (hn : (assignEach elts env).length = items.size) (hst : (assignEach elts env).findIdx? (·.1) = none)
    (h : ∀ h', Heap.ExtBut s.heap.objs.size s.heap h' → wpAny (model prog w) A (assignInOrder ((assignEach elts env).map (·.2)) items.toList) Q F { s with heap := h' }) : wpAny (model prog w) A (assign (.Tuple elts kk pos) env (.ref l)) Q F s := by
  have ne : l ≠ s.heap.objs.size := by obtain ⟨o, ho, _⟩ := hl; exact Nat.ne_of_lt (Heap.lt_size ho)
  rw [arm_assign_Tuple]
  refine wpAny_bind (wpAny_standAt ?_)
  unfold unpack
  rw [hn, hst]
  refine wpAny_bind (wpAny_holding ?_)
  unfold unpackItems notIterableAtAll
  refine wpAny_bind (wpAny_bind (wpAny_specialOf hl.typeIs slot_list_iter.lookup (wpAny_pure ?_)))
  rw [if_neg Bool.false_ne_true]
  refine wpAny_bind (wpAny_holding (wpAny_pyIter_list hl ?_))
  refine wpAny_bind (wpAny_holding (draws_list ne items.size 0 _ _ ⟨_, Heap.get?_push_size _ rfl, rfl, rfl⟩ (hl.push _) (by omega) fun h1 hit1 sb1 => ?_))
  rw [List.drop_zero, if_neg (by simp)]
  have hl1 : h1.IsList l items := (hl.push _).extBut sb1.extBut ne
  refine wpAny_bind (wpAny_holding (wpAny_pyNext_list_end hh hit1 hl1 (by simp) fun h2 xb => ?_))
  rw [show (none : Option Value).isSome = false from rfl, if_neg Bool.false_ne_true]
  exact wpAny_pure (h h2 fun b o hb e => xb b o hb (sb1.extBut b o hb (Heap.get?_push_of_some _ e)))
end
theorem cG_tup {es : List Expr} {kk : Nat} {ts : Cts} (hc : X.calm = true) (h : PGs X es (tTgs X.K ts)) (hl : ts.len = (assignEach es X.env).length := by rfl) (hst : (assignEach es X.env).findIdx? (·.1) = none := by rfl) : PG X (.Tuple es kk pos) (tTg X.K (.tp ts)) := by
  refine ⟨fun pins s σ H v u Q I rr ⟨st, B, y, st', r, rv, ha, k⟩ => ?_⟩
  simp only [asg] at ha
  obtain ⟨xs, e1, e2⟩ := bindSome ha
  cases y <;> simp only [isTup] at e1 <;> first | (cases e1; done) | skip
  · obtain rfl := Option.some.inj e1
    cases rv with
    | @lst a _ _ hq ra =>
      cases rr
      obtain ⟨its, vr, hp, _⟩ := I.list (r.sub.seq hq)
      have hp' : s.heap.IsList a its.toArray := by
        obtain ⟨o, n, z1, z2, _, z3⟩ := hp
        exact ⟨o, z1, z2, n, z3⟩
      refine untie_list (I.ok.hd hc) hp' (by rw [← hl, ← asgs_len e2, ← ra.length, vr.length, List.size_toArray]) hst fun h' hx => ?_
      have I1 : Inv X pins σ H { s with heap := h' } := I.kept (t' := s.toks) fun b o e => hx b o (Nat.ne_of_lt (Heap.lt_size e)) e
      exact h.run pins _ σ H _ _ Q I1 (by simpa using vr) ⟨st, B, _, st', r, ra, e2, k⟩
  · obtain rfl := Option.some.inj e1
    cases rv with
    | tup a ra => exact (pg_tup (n := ts.len) hc h hl.symm hst).run pins s σ H _ u Q I rr ⟨_, _, rfl, SqT.of (r.sub _ _ a), by rw [ra.length, asgs_len e2], st, B, _, st', r, ra, e2, k⟩
end

/-! ### 3. plain statements -/
def FinR (K : PySem.W.Frag) (fl : Fl) (D : Ends) (σ : L2.St) (H B : Hp) : Prop := match fl with
  | .nx => D.nx σ H
  | .bk => D.bk σ H
  | .ct => D.ct σ H
  | .rt d => ∀ v, Rp K B v d → D.rt v H
def tS (K : PySem.W.Frag) (f : Stt → Option (Fl × Stt)) : TS := fun D σ H => ∃ st B fl st', StR K st σ H B ∧ f st = some (fl, st') ∧ ∀ σ' H' B', Ext K st σ H B st' σ' H' B' → FinR K fl D σ' H' B'
section
variable {X : Cx} {Φ : Tab} {W : Nat} {c : Cs} {cs : Css} {s : Stmt} {ss : List Stmt} {pos pos' p : Pos} {e : Expr} {ce : Ce} {x : Str} {i : Nat}
theorem ps_mono {t t' : TS} (h : PS X s t) (k : ∀ D σ H, t' D σ H → t D σ H) : PS X s t' := ⟨fun pins s σ H D I q => h.run pins s σ H D I (k D σ H q)⟩
theorem pss_mono {t t' : TS} (h : PSs X ss t) (k : ∀ D σ H, t' D σ H → t D σ H) : PSs X ss t' := ⟨fun pins s σ H D I q => h.run pins s σ H D I (k D σ H q)⟩
abbrev tC1 (K : PySem.W.Frag) (Φ : Tab) (W : Nat) (c : Cs) : TS := tS K (evS Φ W c)
abbrev tCs (K : PySem.W.Frag) (Φ : Tab) (W : Nat) (c : Css) : TS := tS K (evSs Φ W c)
theorem bind2 {α β γ : Type} {r : Option (α × β)} {k : α × β → Option γ} {z : γ} (h : r.bind k = some z) : ∃ a b, r = some (a, b) ∧ k (a, b) = some z := by
  obtain ⟨⟨a, b⟩, h1, h2⟩ := bindSome h
  exact ⟨a, b, h1, h2⟩
theorem map2 {α β γ : Type} {r : Option (α × β)} {k : α × β → γ} {z : γ} (h : r.map k = some z) : ∃ a b, r = some (a, b) ∧ k (a, b) = z := by
  obtain ⟨⟨a, b⟩, h1, h2⟩ := Option.map_eq_some_iff.mp h
  exact ⟨a, b, h1, h2⟩
theorem cSs_nil : PSs X [] (tCs X.K Φ W .nil) := pss_mono pss_nil fun D σ H ⟨st, B, fl, st', r, ev, k⟩ => by
  simp only [evSs, Option.some.injEq, Prod.mk.injEq] at ev
  obtain ⟨rfl, rfl⟩ := ev
  exact k σ H B (Ext.refl r)
theorem cSs_cons (h1 : PS X s (tC1 X.K Φ W c)) (h2 : PSs X ss (tCs X.K Φ W cs)) : PSs X (s :: ss) (tCs X.K Φ W (.cons c cs)) := pss_mono (pss_cons h1 h2) fun D σ H ⟨st, B, fl, st', r, ev, k⟩ => by
  simp only [evSs] at ev
  obtain ⟨f1, st1, e1, ev⟩ := bind2 ev
  refine ⟨st, B, f1, st1, r, e1, fun σ1 H1 B1 x1 => ?_⟩
  cases f1 with
  | nx => exact ⟨st1, B1, fl, st', x1.rel, ev, fun σ2 H2 B2 x2 => k σ2 H2 B2 (x1.trans x2)⟩
  | bk =>
    simp only [Option.some.injEq, Prod.mk.injEq] at ev
    obtain ⟨rfl, rfl⟩ := ev
    exact k σ1 H1 B1 x1
  | ct =>
    simp only [Option.some.injEq, Prod.mk.injEq] at ev
    obtain ⟨rfl, rfl⟩ := ev
    exact k σ1 H1 B1 x1
  | rt d =>
    simp only [Option.some.injEq, Prod.mk.injEq] at ev
    obtain ⟨rfl, rfl⟩ := ev
    exact k σ1 H1 B1 x1
/-- name = e -/
theorem set_rd {f : Stt → Option (Op × Stt)} {D : Ends} {σ : L2.St} {H : Hp} {st B st' fl} (r : StR X.K st σ H B) (ev : ((f st).bind fun r => (setO i r.1 r.2).map fun st2 => (Fl.nx, st2)) = some (fl, st')) (k : ∀ σ' H' B', Ext X.K st σ H B st' σ' H' B' → FinR X.K fl D σ' H' B') :
    tAsg (tG X.K f) (gName i) D σ H := by
  obtain ⟨op, st1, e1, ev⟩ := bind2 ev
  obtain ⟨st2, e2, ev⟩ := Option.map_eq_some_iff.mp ev
  simp only [Prod.mk.injEq] at ev
  obtain ⟨rfl, rfl⟩ := ev
  refine ⟨st, B, op, st1, r, e1, fun v H1 B1 x1 o1 => ?_⟩
  obtain ⟨B2, x2⟩ := setO_ext x1 o1 e2
  exact k _ H1 B2 x2
theorem cS_set (i : Nat) (hN : X.N.Nodup) (he : PE X e (tE X.K Φ ce)) (hi : X.N[i]? = some x := by rfl) (hx : Loc X.env.scope x := by first | exact Or.inl rfl | exact Or.inr rfl) (hs : swapsWith e (some (.Name x pos')) pos.line X.env = pure false := by rfl)
    (hf : X.fn x = true ∨ X.env.scope.names.lookup x = some .local := by first | exact .inl rfl | exact .inr rfl | assumption) : PS X (.Assign [.Name x pos'] e pos) (tC1 X.K Φ W (.set i ce)) :=
  ps_mono (ps_set hN hi hx he hs hf) fun D σ H ⟨st, B, fl, st', r, ev, k⟩ => by
    simp only [evS] at ev
    exact set_rd r ev k
theorem cS_unp {tg : Expr} {t : Ct} (he : PE X e (tE X.K Φ ce)) (hg : PG X tg (tTg X.K t)) (hs : swapsWithSole [tg] e pos.line X.env = pure false := by rfl) (hw : swappedStores [tg] e X.env = pure none := by rfl)
    (h1 : (assignEach [tg] X.env).map (·.2) = [assign tg X.env] := by rfl) : PS X (.Assign [tg] e pos) (tC1 X.K Φ W (.unp t ce)) :=
  ps_mono (ps_asg (pe_v he) hg hs hw h1) fun D σ H ⟨st, B, fl, st', r, ev, k⟩ => by
    simp only [evS] at ev
    obtain ⟨y, st1, e1, ev⟩ := bind2 ev
    obtain ⟨st2, e2, ev⟩ := Option.map_eq_some_iff.mp ev
    simp only [Prod.mk.injEq] at ev
    obtain ⟨rfl, rfl⟩ := ev
    exact ⟨st, B, y, st1, r, e1, fun v H1 B1 x1 rv => ⟨st1, B1, y, _, x1.rel, rv, e2, fun σ2 x2 _ => k σ2 H1 B1 (x1.trans x2)⟩⟩
theorem cS_par2 (i j : Nat) {y : Str} {a b : Expr} {ca cb : Ce} {px py pt : Pos} {kt k2 pt2} (hc : X.calm = true) (hN : X.N.Nodup) (ha : PE X a (tE X.K Φ ca)) (hb : PE X b (tE X.K Φ cb)) (hi : X.N[i]? = some x := by rfl) (hj : X.N[j]? = some y := by rfl) (hij : i ≠ j := by decide)
    (hx : X.env.scope.names.lookup x = some .local := by rfl) (hy : X.env.scope.names.lookup y = some .local := by rfl)
    (hs1 : starEach [a, b] X.env = (false, eval a X.env) :: starEach [b] X.env := by rfl) (hs2 : starEach [b] X.env = (false, eval b X.env) :: starEach [] X.env := by rfl)
    (hw : swappedStores [.Tuple [.Name x px, .Name y py] kt pt] (.Tuple [a, b] k2 pt2) X.env = pure (some [x, y]) := by rfl)
    (hs : swapsWithSole [.Tuple [.Name x px, .Name y py] kt pt] (.Tuple [a, b] k2 pt2) pos.line X.env = pure false := by rfl) :
    PS X (.Assign [.Tuple [.Name x px, .Name y py] kt pt] (.Tuple [a, b] k2 pt2) pos) (tC1 X.K Φ W (.par2 i j ca cb)) :=
  ps_mono (ps_par hc hN hi hj hij hx hy (pa_cons (pe_v ha) (pa_cons (pe_v hb) pa_nil hs2) hs1) hw hs) fun D σ H ⟨st, B, fl, st', r, ev, k⟩ => by
    simp only [evS] at ev
    obtain ⟨y1, st1, e1, ev⟩ := bind2 ev
    obtain ⟨y2, st2, e2, ev⟩ := bind2 ev
    obtain ⟨st3, e3, ev⟩ := bindSome ev
    obtain ⟨st4, e4, ev⟩ := Option.map_eq_some_iff.mp ev
    simp only [Prod.mk.injEq] at ev
    obtain ⟨rfl, rfl⟩ := ev
    refine ⟨st, B, y1, st1, r, e1, fun v H1 B1 x1 r1 => ⟨st1, B1, y2, st2, x1.rel, e2, fun w H2 B2 x2 r2 => ⟨v, w, rfl, ?_⟩⟩⟩
    exact k _ H2 B2 (put_val (put_val (x1.trans x2) e3 (r1.mono x2.bsub)) e4 r2)
theorem cS_expr (he : PE X e (tE X.K Φ ce)) (hs : swapsWith e none pos.line X.env = pure false := by rfl) : PS X (.Expr e pos) (tC1 X.K Φ W (.expr ce)) :=
  ps_mono (ps_expr (pe_v he) hs) fun D σ H ⟨st, B, fl, st', r, ev, k⟩ => by
    simp only [evS] at ev
    obtain ⟨y, st1, e1, ev⟩ := map2 ev
    simp only [Prod.mk.injEq] at ev
    obtain ⟨rfl, rfl⟩ := ev
    exact ⟨st, B, y, _, r, e1, fun v H1 B1 x1 rv => k σ H1 B1 x1⟩
theorem cS_ret (he : PE X e (tE X.K Φ ce)) : PS X (.Return (some e) pos) (tC1 X.K Φ W (.ret ce)) :=
  ps_mono (ps_ret (pe_v he)) fun D σ H ⟨st, B, fl, st', r, ev, k⟩ => by
    simp only [evS] at ev
    obtain ⟨y, st1, e1, ev⟩ := map2 ev
    simp only [Prod.mk.injEq] at ev
    obtain ⟨rfl, rfl⟩ := ev
    exact ⟨st, B, y, _, r, e1, fun v H1 B1 x1 rv => k σ H1 B1 x1 v rv⟩
theorem cS_retN : PS X (.Return none pos) (tC1 X.K Φ W .retN) :=
  ps_mono ps_retN fun D σ H ⟨st, B, fl, st', r, ev, k⟩ => by
    simp only [evS, Option.some.injEq, Prod.mk.injEq] at ev
    obtain ⟨rfl, rfl⟩ := ev
    exact k σ H B (Ext.refl r) .non .non
theorem cS_brk : PS X (.Break pos) (tC1 X.K Φ W .brk) := ps_mono ps_break fun D σ H ⟨st, B, fl, st', r, ev, k⟩ => by
  simp only [evS, Option.some.injEq, Prod.mk.injEq] at ev
  obtain ⟨rfl, rfl⟩ := ev
  exact k σ H B (Ext.refl r)
theorem cS_cnt : PS X (.Continue pos) (tC1 X.K Φ W .cnt) := ps_mono ps_continue fun D σ H ⟨st, B, fl, st', r, ev, k⟩ => by
  simp only [evS, Option.some.injEq, Prod.mk.injEq] at ev
  obtain ⟨rfl, rfl⟩ := ev
  exact k σ H B (Ext.refl r)
theorem cS_pass : PS X (.Pass pos) (tC1 X.K Φ W .pass) := ps_mono ps_pass fun D σ H ⟨st, B, fl, st', r, ev, k⟩ => by
  simp only [evS, Option.some.injEq, Prod.mk.injEq] at ev
  obtain ⟨rfl, rfl⟩ := ev
  exact k σ H B (Ext.refl r)
theorem cS_if {t : Expr} {a b : List Stmt} {ct : Ce} {ca cb : Css} (ht : PT X t (tB X.K Φ ct)) (ha : PSs X a (tCs X.K Φ W ca)) (hb : PSs X b (tCs X.K Φ W cb)) : PS X (.If t a b pos) (tC1 X.K Φ W (.ife ct ca cb)) :=
  ps_mono (ps_if ht ha hb) fun D σ H ⟨st, B, fl, st', r, ev, k⟩ => by
    simp only [evS] at ev
    obtain ⟨b, st1, e1, ev⟩ := bind2 ev
    refine ⟨st, B, b, st1, r, e1, fun H1 B1 x1 => ?_⟩
    cases b with
    | true => exact iteT ⟨st1, B1, fl, st', x1.rel, ev, fun σ2 H2 B2 x2 => k σ2 H2 B2 (x1.trans x2)⟩
    | false => exact iteF ⟨st1, B1, fl, st', x1.rel, ev, fun σ2 H2 B2 x2 => k σ2 H2 B2 (x1.trans x2)⟩
/-- x.append(e) -/
theorem cS_app {q apos cpos : Pos} {y : Str} (hv : PE X (.Name y q) (tVar i)) (he : PE X e (tE X.K Φ ce))
    (hbase : attributeBase (.Name y q) "append" X.env (eval (.Name y q) X.env) = eval (.Name y q) X.env := by rfl)
    (hfew : ((backTo cpos (starEach [e] X.env)).all (fun x => !x.1) && (backToKw cpos (keywordEach [] X.env)).all (fun x => x.1.isSome)
      && decide ([e].length + ([] : List Keyword).length + (if ([] : List Keyword).isEmpty then 0 else 1) < 30)) = true := by rfl)
    (hline : (apos.endLine == cpos.line) = true := by rfl) (hst : starEach [e] X.env = (false, eval e X.env) :: starEach [] X.env := by rfl) (hs : swapsWith (.Call (.Attribute (.Name y q) "append" apos) [e] [] cpos) none pos.line X.env = pure false := by rfl) : PS X (.Expr (.Call (.Attribute (.Name y q) "append" apos) [e] [] cpos) pos) (tC1 X.K Φ W (.app i ce)) :=
  ps_mono (ps_expr (pe_bm PySem.F.plainAttrs_list PySem.F.slot_list_append PySem.F.type_list_append mt_append hv (pa_cons (pe_v he) pa_nil hst) hbase hfew hline hst) hs) fun D σ H ⟨st, B, fl, st', r, ev, k⟩ => by
    simp only [evS] at ev
    obtain ⟨xs0, h0, ev⟩ := bindSome ev
    obtain ⟨z, st1, h1, ev⟩ := bindNmk ev
    obtain ⟨xs, h3, ev⟩ := bindSome ev
    split at ev
    · rename_i hz
      obtain ⟨st2, h6, ev⟩ := Option.map_eq_some_iff.mp ev
      simp only [Prod.mk.injEq] at ev
      obtain ⟨rfl, rfl⟩ := ev
      show tBM X.K "list" rAppend (tVar i) _ σ H fun _ H1 => D.nx σ H1
      refine ref_rd r (isL_some h0) fun q o g1 g2 g3 g4 => ⟨tyV_own g3 g4, st, B, _, st1, r, h1, fun w H1 B1 x1 rw' => ?_⟩
      obtain ⟨q', o', e1, e2, e3, e4, _⟩ := x1.rel.own (isL_some h3)
      rw [g1] at e1
      cases e1
      cases e4 with
      | lst ra => exact ⟨q, _, w, rfl, rfl, e3, by rw [ra.length]; exact hz, k σ _ _ (x1.trans (x1.rel.up1 h6 g1 e3 e2 (.lst (ra.append (.cons rw' .nil)))))⟩
    · cases ev
/-- name += e, of numbers -/
theorem cS_augI {op : Operator} {o : Bop} {f : Int → Int → Int} (i : Nat) (hop : PIp X op (ipI f)) (hN : X.N.Nodup) (he : PE X e (tE X.K Φ ce)) (ho : ∀ a b z, (match o with | .add => some (a + b) | .sub => some (a - b) | _ => none) = some z → z = f a b) (hi : X.N[i]? = some x := by rfl) (hx : Loc X.env.scope x := by first | exact Or.inl rfl | exact Or.inr rfl)
    (hf : X.fn x = true ∨ X.env.scope.names.lookup x = some .local := by first | exact .inl rfl | exact .inr rfl | assumption) : PS X (.AugAssign (.Name x pos') op e pos) (tC1 X.K Φ W (.augI i o ce)) :=
  ps_mono (ps_aug hN hi hx (pe_v he) hop hf) fun D σ H ⟨st, B, fl, st', r, ev, k⟩ => by
    simp only [evS] at ev
    obtain ⟨q, h0, ev⟩ := bindSome ev
    cases q with
    | none => cases ev
    | some sv =>
      cases sv with
      | val d =>
        cases d <;> simp only at ev <;> first | (cases ev; done) | skip
        rename_i a
        obtain ⟨y, st1, e1, ev⟩ := bind2 ev
        obtain ⟨b, e2, ev⟩ := bindSome ev
        obtain ⟨z, e3, ev⟩ := bindSome ev
        obtain ⟨st2, e4, ev⟩ := Option.map_eq_some_iff.mp ev
        simp only [Prod.mk.injEq] at ev
        obtain ⟨rfl, rfl⟩ := ev
        obtain rfl := intOf_some e2
        obtain rfl := ho _ _ _ e3
        obtain ⟨v, hv, rv⟩ := r.at_ i _ h0
        obtain rfl := rp_int rv
        exact ⟨_, hv, st, B, _, st1, r, e1, fun w H1 B1 x1 rw' => ⟨a, b, rfl, rp_int rw', k _ H1 B1 (put_val x1 e4 (.int _))⟩⟩
      | own d => cases ev
      | par d => cases ev
      | lck d => cases ev
/-- d[k] = v, by values -/
def tDS (K : PySem.W.Frag) : TSet := fun o i v H Q => ∃ B p kvs y d ho, o = V.ref p ∧ Same B H ∧ B p = none ∧ H p = some ho ∧ HoR K B ho (.dict kvs) ∧ Rp K B i y ∧ Rp K B v d ∧ kindOk kvs y = true ∧ kvs.length < sizeLine ∧ ∀ ho', HoR K B ho' (.dict (dput kvs y d)) → Q (upd H p ho')
theorem set_dict (hu : X.A.units + 65 < cLine) : PSet X (tDS X.K) := by
  rintro pins s σ H o i v ov iv u Q I ro ri rv ⟨B, p, kvs, y, d, ho, rfl, hs, bp, hp, hr, ry, rd, ok, hz, k⟩
  cases ro
  have fin' : ∀ {H1 H2 : Hp} (I1 : Inv X pins σ H1 s) (g : DPut H1 p i v H2) (ho' : HO) (e : H2 = upd H p ho') (h : HoR X.K B ho' (.dict (dput kvs y d))), wpAny (model X.prog X.w) X.A (setItem (.ref p) iv u) (fun _ s' => ∃ H', Inv X pins σ H' s' ∧ Q H') X.xe s := fun {H1 H2} I1 g ho' e h => by
    subst e
    exact d_setItem (by omega) I1 g ri rv fun s' I' => ⟨_, I', k ho' h⟩
  have tupk : ∀ {H1 : Hp} {c : Addr} {xs : List V}, B c = some (.tup xs) → upd H p ho c = some (.tup xs) := fun {H1 c xs} e => by
    rw [upd_ne (ne_of_none e bp)]; exact hs _ _ e
  cases hy : kkind y with
  | none => unfold kindOk at ok; rw [hy] at ok; cases h : dkind kvs <;> rw [h] at ok <;> cases ok
  | some b =>
    cases b with
    | false =>
      obtain ⟨kk, rfl⟩ := kkind_false hy
      obtain rfl := rp_key ry
      cases hr with
      | dK r => exact fin' I (DPut.k hp (by rw [r.length]; exact hz)) _ rfl (.dK (r.put kk rd))
      | dT r =>
        rcases r.kind with ⟨rfl, rfl⟩ | e
        · refine fin' (retypeK I hp) (DPut.k upd_same (by show 0 < sizeLine; decide)) (.dK (putK [] kk v)) (by rw [upd_upd]) (.dK ?_)
          exact RpK.put .nil kk rd
        · unfold kindOk at ok; rw [hy, e] at ok; cases ok
    | true =>
      obtain ⟨kk, rfl⟩ := kkind_true hy
      obtain ⟨c, rfl, hc⟩ := rp_tupkey ry
      cases hr with
      | dT r => exact fin' I (DPut.t hp (hs _ _ hc) (by rw [r.length]; exact hz)) _ rfl (.dT (r.put kk rd))
      | dK r =>
        rcases r.kind with ⟨rfl, rfl⟩ | e
        · refine fin' (retypeT I hp) (DPut.t upd_same (by rw [upd_ne (ne_of_none hc bp)]; exact hs _ _ hc) (by show 0 < sizeLine; decide)) (.dT (putK [] kk v)) (by rw [upd_upd]) (.dT ?_)
          exact RpT.put .nil kk rd
        · unfold kindOk at ok; rw [hy, e] at ok; cases ok
/-- name[k] = e, a list or a dict that the name owns -/
theorem cS_sset {kx : Expr} {ck : Ce} {tpos : Pos} {y : Str} {q : Pos} (hv : PE X (.Name y q) (tVar i)) (hk : PE X kx (tE X.K Φ ck)) (he : PE X e (tE X.K Φ ce)) (hu : X.A.units + 65 < cLine)
    (ha : ∀ v, assign (.Subscript (.Name y q) kx tpos) X.env v = (do
      let ov ← holding [v] (eval (.Name y q) X.env)
      let iv ← holding [v, ov] (eval kx X.env)
      standAt tpos
      holding [v, ov, iv] (setItem ov iv v)
      release [v, ov, iv] []) := by intro _; rfl)
    (hs : swapsWith e (some (.Subscript (.Name y q) kx tpos)) pos.line X.env = pure false := by rfl) (hs2 : swapsWithSole [.Subscript (.Name y q) kx tpos] e pos.line X.env = pure false := by rfl) (hw : swappedStores [.Subscript (.Name y q) kx tpos] e X.env = pure none := by rfl)
    (h1 : (assignEach [.Subscript (.Name y q) kx tpos] X.env).map (·.2) = [assign (.Subscript (.Name y q) kx tpos) X.env] := by rfl) : PS X (.Assign [.Subscript (.Name y q) kx tpos] e pos) (tC1 X.K Φ W (.sset i ck ce)) := by
  refine ⟨fun pins s σ H D I ⟨st, B, fl, st', r, ev, k⟩ => ?_⟩
  simp only [evS] at ev
  obtain ⟨y1, st1, e1, ev⟩ := bind2 ev
  obtain ⟨z0, e0, ev⟩ := bindSome ev
  obtain ⟨y2, st2, e2, ev⟩ := bind2 ev
  obtain ⟨x3, e3, ev⟩ := bindSome ev
  -- the readings up to the store
  have go : ∀ {R : V → V → V → Hp → Prop}, (∀ v w p o H2 B2, Ext X.K st σ H B st2 σ H2 B2 → Rp X.K B2 v y1 → Rp X.K B2 w y2 → σ[i]? = some (some (.ref p)) → B2 p = none → H2 p = some o → HoR X.K B2 o x3 → R v (.ref p) w H2) →
      tV X.K (fun st => nmk (evE Φ ce st)) σ H fun v H1 => tVar i σ H1 fun u H2 => tV X.K (fun st => nmk (evE Φ ck st)) σ H2 fun w H3 => R v u w H3 := fun hR =>
    ⟨st, B, y1, st1, r, e1, fun v H1 B1 x1 r1 => ref_rd (R := fun u H2 => tV X.K (fun st => nmk (evE Φ ck st)) σ H2 fun w H3 => _) x1.rel e0 fun p o g1 g2 g3 g4 => ⟨st1, B1, y2, st2, x1.rel, e2, fun w H2 B2 x2 r2 => by
      obtain ⟨p', o', f1, f2, f3, f4, _⟩ := x2.rel.own e3
      rw [g1] at f1
      cases f1
      exact hR v w p o' H2 B2 (x1.trans x2) (r1.mono x2.bsub) r2 g1 f2 f3 f4⟩⟩
  cases x3 with
  | list xs =>
    simp only at ev
    obtain ⟨j, e4, ev⟩ := bindSome ev
    obtain ⟨m, e5, ev⟩ := bindSome ev
    obtain ⟨st3, e6, ev⟩ := Option.map_eq_some_iff.mp ev
    simp only [Prod.mk.injEq] at ev
    obtain ⟨rfl, rfl⟩ := ev
    obtain rfl := intOf_some e4
    refine (ps_asg (pe_v he) (pg_sub hv (pe_v hk) set_list ha) hs2 hw h1).run pins s σ H D I ?_
    refine go fun v w p o H2 B2 x2 r1 r2 g1 g2 g3 g4 => ?_
    cases g4 with
    | lst ra =>
      refine ⟨p, _, j, m, rfl, rp_int r2, g3, by rw [ra.length]; exact e5, ?_⟩
      exact k σ _ _ (x2.trans (x2.rel.up1 e6 g1 g3 g2 (.lst (ra.set r1 m))))
  | dict kvs =>
    simp only at ev
    split at ev
    · rename_i hh
      rw [Bool.and_eq_true, decide_eq_true_eq] at hh
      obtain ⟨st3, e6, ev⟩ := Option.map_eq_some_iff.mp ev
      simp only [Prod.mk.injEq] at ev
      obtain ⟨rfl, rfl⟩ := ev
      refine (ps_asg (pe_v he) (pg_sub hv (pe_v hk) (set_dict hu) ha) hs2 hw h1).run pins s σ H D I ?_
      refine go fun v w p o H2 B2 x2 r1 r2 g1 g2 g3 g4 => ⟨B2, p, kvs, y2, y1, o, rfl, x2.rel.sub, g2, g3, g4, r2, r1, hh.1, hh.2, fun ho' h' => ?_⟩
      exact k σ _ _ (x2.trans (x2.rel.up1 e6 g1 g3 g2 h'))
    · cases ev
  | _ => cases ev
end
end PD

set_option Elab.async false
set_option linter.all false
set_option maxRecDepth 100000
/-! PD9: what is walked; for and while. -/
namespace PD
open PySem L2 PySem.Spec

/-! ### 1. locks -/
section
variable {K : PySem.W.Frag} {st ste : Stt} {σ σe : L2.St} {H B He Be : Hp} {j : Nat} {sv : SV}
theorem lock_rel (r : StR K st σ H B) (h : st[j]? = some (some sv)) (hp : sv.ptr = true) : StR K (st.set j (some (.lck sv.d))) σ H B := by
  have look : ∀ (l : Nat) (sw : SV), (st.set j (some (.lck sv.d)))[l]? = some (some sw) → sw.ptr = true → ∃ sz, st[l]? = some (some sz) ∧ sz.ptr = true := fun l sw q p => by
    rcases get_set q with ⟨rfl, _⟩ | ⟨_, q⟩
    · exact ⟨sv, h, hp⟩
    · exact ⟨sw, q, p⟩
  refine ⟨r.sub, by simpa using r.len, fun i sw q => ?_, fun i k sw sx a n h1 h2 h3 h4 h5 h6 => ?_⟩
  · rcases get_set q with ⟨rfl, q'⟩ | ⟨ne, q⟩
    · cases q'
      obtain ⟨v, hv, z⟩ := r.at_ j sv h
      refine ⟨v, hv, ?_⟩
      rw [SvR.of_ptr hp] at z
      exact z
    · exact r.at_ i sw q
  · obtain ⟨s1, a1, a2⟩ := look i sw h1 h2
    obtain ⟨s2, b1, b2⟩ := look k sx h3 h4
    exact r.sep i k s1 s2 a n a1 a2 b1 b2 h5 h6
theorem lock_own {a : Addr} (h : st[j]? = some (some sv)) : OwnA (st.set j (some (.lck sv.d))) σ a → OwnA st σ a := fun ⟨i, sw, h1, h2, h3⟩ => by
  rcases get_set h1 with ⟨rfl, q⟩ | ⟨ne, q⟩
  · cases q; cases h2
  · exact ⟨i, sw, q, h2, h3⟩
theorem lock_ptr {a : Addr} (h : st[j]? = some (some sv)) (hp : sv.ptr = true) : PtrA (st.set j (some (.lck sv.d))) σ a → PtrA st σ a := fun ⟨i, sw, h1, h2, h3⟩ => by
  rcases get_set h1 with ⟨rfl, q⟩ | ⟨ne, q⟩
  · exact ⟨j, sv, h, hp, h3⟩
  · exact ⟨i, sw, q, h2, h3⟩
theorem lock_not {p : Addr} (r : StR K st σ H B) (h : st[j]? = some (some sv)) (hp : sv.ptr = true) (hσ : σ[j]? = some (some (.ref p))) : ¬ OwnA (st.set j (some (.lck sv.d))) σ p := fun ⟨i, sw, h1, h2, h3⟩ => by
  rcases get_set h1 with ⟨rfl, q⟩ | ⟨ne, q⟩
  · cases q; cases h2
  · exact r.sep j i sv sw p ne h hp q (SV.ptr_of_mt h2) hσ h3
theorem unlock_ext (r : StR K st σ H B) (h : st[j]? = some (some sv)) (hp : sv.ptr = true) (e : Ext K (st.set j (some (.lck sv.d))) σ H B ste σe He Be) : Ext K st σ H B (ste.set j (some sv)) σe He Be := by
  have jl : j < st.length := (List.getElem?_eq_some_iff.mp h).1
  obtain ⟨es, sw, ew, kin⟩ := e.fix j (.lck sv.d) (List.getElem?_set_self jl) rfl
  obtain ⟨d, rfl, rfl⟩ : ∃ d, sw = .lck d ∧ d = sv.d := by cases sw <;> first | exact kin.elim | exact ⟨_, rfl, kin.symm⟩
  have jle : j < ste.length := (List.getElem?_eq_some_iff.mp ew).1
  have look : ∀ (l : Nat) (sx : SV), (ste.set j (some sv))[l]? = some (some sx) → sx.ptr = true → ∃ sz, ste[l]? = some (some sz) ∧ sz.ptr = true := fun l sx q p => by
    rcases get_set q with ⟨rfl, _⟩ | ⟨_, q⟩
    · exact ⟨_, ew, rfl⟩
    · exact ⟨sx, q, p⟩
  have ptr : ∀ a, PtrA (ste.set j (some sv)) σe a → PtrA ste σe a := fun a ⟨i, sx, h1, h2, h3⟩ => by
    obtain ⟨sz, z1, z2⟩ := look i sx h1 h2
    exact ⟨i, sz, z1, z2, h3⟩
  refine ⟨⟨e.rel.sub, by simpa using e.rel.len, fun i sx q => ?_, fun i k s1 s2 a n h1 h2 h3 h4 h5 h6 => ?_⟩, e.bsub, fun a o h1 h2 h3 => e.frame a o h1 h2 fun z => h3 (lock_own h z), fun a o h1 h2 => ?_, fun k sx q f => ?_, e.len, e.there⟩
  · rcases get_set q with ⟨rfl, q'⟩ | ⟨ne, q⟩
    · cases q'
      obtain ⟨v, hv, z⟩ := e.rel.at_ j _ ew
      refine ⟨v, hv, ?_⟩
      rw [SvR.of_ptr hp]
      exact z
    · exact e.rel.at_ i sx q
  · obtain ⟨z1, a1, a2⟩ := look i s1 h1 h2
    obtain ⟨z2, b1, b2⟩ := look k s2 h3 h4
    exact e.rel.sep i k z1 z2 a n a1 a2 b1 b2 h5 h6
  · obtain ⟨o1, o2⟩ := e.owned a o h1 (ptr a h2)
    refine ⟨lock_ptr h hp o1, fun ⟨i, sx, q1, q2, q3⟩ => ?_⟩
    rcases get_set q1 with ⟨rfl, q⟩ | ⟨ne, q⟩
    · cases q
      exact ⟨j, sv, h, q2, by rw [← es]; exact q3⟩
    · exact lock_own h (o2 ⟨i, sx, q, q2, q3⟩)
  · by_cases jk : j = k
    · subst jk
      rw [h] at q
      cases q
      exact ⟨es, sv, List.getElem?_set_self jle, SV.kin_refl f⟩
    · obtain ⟨e1, sy, e2, k2⟩ := e.fix k sx (by rw [List.getElem?_set_ne jk]; exact q) f
      exact ⟨e1, sy, by rw [List.getElem?_set_ne jk]; exact e2, k2⟩
end

/-! ### 2. what is walked -/
/-- J walks the items xs while what stands still stands, and the objects at L too -/
def Walk (K : PySem.W.Frag) (J : It) (xs : List D) (L : List Addr) (H B : Hp) : Prop := ∀ (H2 B2 : Hp), Same B B2 → Same B2 H2 → (∀ p ∈ L, H2 p = H p) → ∀ i : Nat,
  (∀ x, xs[i]? = some x → J.go i H2 ∧ ∀ v H3, J.yld i H2 v H3 → ∃ B3, Grow H2 B2 H3 B3 ∧ Rp K B3 v x) ∧ (xs.length ≤ i → J.stop i H2)
/-- the source was reckoned from st to st1, locked if it is a slot's -/
structure Src1 (K : PySem.W.Frag) (J : It) (xs : List D) (lk : Option (Nat × SV)) (st : Stt) (σ : L2.St) (H B : Hp) (st1 : Stt) (H1 B1 : Hp) : Prop where
  ex : ∃ st', Ext K st σ H B st' σ H1 B1 ∧ match lk with
    | none => st1 = st' ∧ Walk K J xs [] H1 B1
    | some (j, sv) => st'[j]? = some (some sv) ∧ sv.ptr = true ∧ st1 = st'.set j (some (.lck sv.d)) ∧ ∃ p, σ[j]? = some (some (.ref p)) ∧ Walk K J xs [p] H1 B1
def tI (K : PySem.W.Frag) (f : Stt → Option (List D × Option (Nat × SV) × Stt)) : TI := fun σ H R => ∃ st B xs lk st1, StR K st σ H B ∧ f st = some (xs, lk, st1) ∧ ∀ J H1 B1, Src1 K J xs lk st σ H B st1 H1 B1 → R J H1
section
variable {K : PySem.W.Frag} {J : It} {xs : List D} {lk : Option (Nat × SV)} {st st1 ste : Stt} {σ σe : L2.St} {H B H1 B1 He Be : Hp}
theorem Src1.rel (s : Src1 K J xs lk st σ H B st1 H1 B1) : StR K st1 σ H1 B1 := by
  obtain ⟨st', x, q⟩ := s.ex
  cases lk with
  | none => obtain ⟨rfl, _⟩ := q; exact x.rel
  | some jv => obtain ⟨h1, h2, rfl, _⟩ := q; exact lock_rel x.rel h1 h2
/-- where the walk has come to -/
theorem Src1.walk (s : Src1 K J xs lk st σ H B st1 H1 B1) (e : Ext K st1 σ H1 B1 ste σe He Be) (i : Nat) :
    (∀ x, xs[i]? = some x → J.go i He ∧ ∀ v H3, J.yld i He v H3 → ∃ B3, Grow He Be H3 B3 ∧ Rp K B3 v x) ∧ (xs.length ≤ i → J.stop i He) := by
  obtain ⟨st', x, q⟩ := s.ex
  cases lk with
  | none => obtain ⟨rfl, w⟩ := q; exact w He Be e.bsub e.rel.sub (fun _ z => nomatch z) i
  | some jv =>
    obtain ⟨h1, h2, rfl, p, hp, w⟩ := q
    refine w He Be e.bsub e.rel.sub (fun a ha => ?_) i
    simp only [List.mem_singleton] at ha
    subst ha
    obtain ⟨b0, o, h0⟩ := x.rel.ptr_tracked ⟨_, _, h1, h2, hp⟩
    rw [(e.frame a o h0 b0 (lock_not x.rel h1 h2 hp)).1, h0]
theorem Src1.close (s : Src1 K J xs lk st σ H B st1 H1 B1) (e : Ext K st1 σ H1 B1 ste σe He Be) : Ext K st σ H B (unlock lk ste) σe He Be := by
  obtain ⟨st', x, q⟩ := s.ex
  cases lk with
  | none => obtain ⟨rfl, _⟩ := q; exact x.trans e
  | some jv =>
    obtain ⟨h1, h2, rfl, _⟩ := q
    exact x.trans (unlock_ext x.rel h1 h2 e)
end
section
variable {X : Cx} {tg e a b : Expr} {Φ : Tab} {c ca cb : Ce} {p pos : Pos}
theorem pi_mono {t t' : TI} (h : PI X tg e t) (k : ∀ σ H Q, t' σ H Q → t σ H Q) : PI X tg e t' := ⟨fun pins s σ H Q I q => h.run pins s σ H Q I (k σ H Q q)⟩
theorem walk_list {K : PySem.W.Frag} {q : Addr} {vs : List V} {xs : List D} {L : List Addr} {H B : Hp} (hq : ∀ H2 B2, Same B B2 → Same B2 H2 → (∀ p ∈ L, H2 p = H p) → SqL K H2 q vs) (ra : RpAll K B vs xs) : Walk K (Itl K q) xs L H B := fun H2 B2 b1 b2 hL i => by
  have h := hq H2 B2 b1 b2 hL
  refine ⟨fun x hx => ?_, fun hl => ⟨vs, h, by rw [ra.length]; exact hl⟩⟩
  obtain ⟨v, hv, rv⟩ := ra.get hx
  refine ⟨⟨vs, v, h, hv⟩, fun w H3 ⟨e, hy⟩ => ?_⟩
  subst e
  have := hy vs h
  rw [hv] at this
  cases this
  exact ⟨B2, Grow.refl b2, rv.mono b1⟩
theorem walk_tup {K : PySem.W.Frag} {q : Addr} {vs : List V} {xs : List D} {H B : Hp} (hq : B q = some (.tup vs)) (ra : RpAll K B vs xs) : Walk K (Itt K q) xs [] H B := fun H2 B2 b1 b2 _ i => by
  have h : SqT K H2 q vs := SqT.of (b2 _ _ (b1 _ _ hq))
  refine ⟨fun x hx => ?_, fun hl => ⟨vs, h, by rw [ra.length]; exact hl⟩⟩
  obtain ⟨v, hv, rv⟩ := ra.get hx
  refine ⟨⟨vs, v, h, hv⟩, fun w H3 ⟨e, hy⟩ => ?_⟩
  subst e
  have := hy vs h
  rw [hv] at this
  cases this
  exact ⟨B2, Grow.refl b2, rv.mono b1⟩
theorem cI_seq (he : PE X e (tE X.K Φ c)) : PI X tg e (tI X.K (evI Φ (.seq c))) := by
  refine ⟨fun pins s σ H R I ⟨st, B, xs, lk, st1, r, ev, k⟩ => ?_⟩
  simp only [evI] at ev
  obtain ⟨op, st', h1, ev⟩ := bindOpr ev
  obtain ⟨_, _, _, f1⟩ := opr_some h1
  cases op with
  | fr x => cases f1
  | d x =>
    simp only [lock] at ev
    obtain ⟨ys, e1, ev⟩ := Option.map_eq_some_iff.mp ev
    simp only [Prod.mk.injEq] at ev
    obtain ⟨rfl, rfl, rfl⟩ := ev
    rcases isSeq_some e1 with rfl | rfl
    · refine (pi_list (pe_o he)).run pins s σ H R I ⟨st, B, _, st', r, h1, fun v H1 B1 x1 o1 => ?_⟩
      cases (show Rp X.K B1 v (.list ys) from o1) with
      | lst a ra => exact ⟨_, rfl, ⟨_, x1.rel.sub.seq a⟩, k _ H1 B1 ⟨st', x1, rfl, walk_list (fun H2 B2 b1 b2 _ => b2.seq (b1.seq a)) ra⟩⟩
    · refine (pi_tup (pe_o he)).run pins s σ H R I ⟨st, B, _, st', r, h1, fun v H1 B1 x1 o1 => ?_⟩
      cases (show Rp X.K B1 v (.tuple ys) from o1) with
      | tup a ra => exact ⟨_, rfl, ⟨_, SqT.of (x1.rel.sub _ _ a)⟩, k _ H1 B1 ⟨st', x1, rfl, walk_tup a ra⟩⟩
  | sl j =>
    simp only [lock] at ev
    cases hj : st'[j]? with
    | none => rw [hj] at ev; cases ev
    | some o =>
      cases o with
      | none => rw [hj] at ev; cases ev
      | some sv =>
        rw [hj] at ev
        obtain ⟨ys, e1, ev⟩ := Option.map_eq_some_iff.mp ev
        simp only [Prod.mk.injEq] at ev
        obtain ⟨rfl, rfl, rfl⟩ := ev
        have main : ∀ v H1 B1, Ext X.K st σ H B st' σ H1 B1 → OpV X.K v H st' σ H1 B1 (.sl j) → ∃ q vs, v = .ref q ∧ SqL X.K H1 q vs ∧ R (Itl X.K q) H1 := fun v H1 B1 x1 ⟨q, sv', e2, e3, e4, e5⟩ => by
          rw [hj] at e4
          cases e4
          obtain ⟨w, hw, z⟩ := x1.rel.at_ j sv hj
          rw [e3] at hw
          cases hw
          rw [SvR.of_ptr e5] at z
          obtain ⟨q', o', e6, e7, e8, e9⟩ := z
          cases e6
          rcases isSeq_some e1 with ed | ed
          · rw [ed] at e9
            cases e9 with
            | lst ra =>
              refine ⟨q, _, e2, SqL.of e8, k _ H1 B1 ⟨st', x1, hj, e5, rfl, q, e3, walk_list (fun H2 B2 b1 b2 hL => SqL.of ((hL q (List.mem_singleton.mpr rfl)).trans e8)) ra⟩⟩
          · rw [ed] at e9; cases e9
        refine (pi_list (pe_o he)).run pins s σ H R I ⟨st, B, _, st', r, h1, fun v H1 B1 x1 o1 => ?_⟩
        obtain ⟨q, vs, e2, e3, e4⟩ := main v H1 B1 x1 o1
        exact ⟨q, e2, ⟨vs, e3⟩, e4⟩
theorem walk_rng {K : PySem.W.Frag} {lo : Int} {n : Nat} {H B : Hp} : Walk K (Itr lo n) ((List.range n).map fun (i : Nat) => PyData.int (lo + (i : Nat))) [] H B := fun H2 B2 b1 b2 _ i => by
  refine ⟨fun x hx => ?_, fun hl => ?_⟩
  · rw [List.getElem?_map] at hx
    obtain ⟨j, hj, rfl⟩ := Option.map_eq_some_iff.mp hx
    obtain ⟨hj1, hj2⟩ := List.getElem?_eq_some_iff.mp hj
    rw [List.getElem_range] at hj2
    subst hj2
    rw [List.length_range] at hj1
    refine ⟨hj1, fun w H3 ⟨e1, e2⟩ => ?_⟩
    subst e1 e2
    exact ⟨B2, Grow.refl b2, .int _⟩
  · rw [List.length_map, List.length_range] at hl; exact hl
theorem cI_rng (hg : Gl X "range") (hm : X.mg "range" = none) (ha : PE X a (tE X.K Φ ca)) (hs : starEach [a] X.env = [(false, eval a X.env)] := by rfl) : PI X tg (.Call (.Name "range" p) [a] [] pos) (tI X.K (evI Φ (.rng ca))) :=
  pi_mono (pi_range1 hg hm (pa_cons (pe_v ha) pa_nil hs) hs) fun σ H R ⟨st, B, xs, lk, st1, r, ev, k⟩ => by
    simp only [evI] at ev
    obtain ⟨y, st', h1, ev⟩ := bind2 ev
    obtain ⟨n, h2, ev⟩ := bindSome ev
    obtain rfl := intOf_some h2
    split at ev
    · rename_i hn
      simp only [Option.some.injEq, Prod.mk.injEq] at ev
      obtain ⟨rfl, rfl, rfl⟩ := ev
      exact ⟨st, B, _, st', r, h1, fun v H1 B1 x1 rv => ⟨n, by rw [rp_int rv], hn.1, hn.2, k _ H1 B1 ⟨st', x1, rfl, walk_rng⟩⟩⟩
    · cases ev
theorem cI_rng2 (hg : Gl X "range") (hm : X.mg "range" = none) (ha : PE X a (tE X.K Φ ca)) (hb : PE X b (tE X.K Φ cb)) (hs : starEach [a, b] X.env = [(false, eval a X.env), (false, eval b X.env)] := by rfl) (hs2 : starEach [b] X.env = [(false, eval b X.env)] := by rfl) : PI X tg (.Call (.Name "range" p) [a, b] [] pos) (tI X.K (evI Φ (.rng2 ca cb))) :=
  pi_mono (pi_range2 hg hm (pa_cons (pe_v ha) (pa_cons (pe_v hb) pa_nil hs2) (by rw [hs, hs2])) hs hs2) fun σ H R ⟨st, B, xs, lk, st1, r, ev, k⟩ => by
    simp only [evI] at ev
    obtain ⟨y, st', h1, ev⟩ := bind2 ev
    obtain ⟨z, st2, h3, ev⟩ := bind2 ev
    obtain ⟨n, h2, ev⟩ := bindSome ev
    obtain ⟨m, h4, ev⟩ := bindSome ev
    obtain rfl := intOf_some h2
    obtain rfl := intOf_some h4
    simp only [intOf, Option.bind_some] at ev
    split at ev
    · rename_i hn
      simp only [Option.some.injEq, Prod.mk.injEq] at ev
      obtain ⟨rfl, rfl, rfl⟩ := ev
      exact ⟨st, B, _, st', r, h1, fun v H1 B1 x1 rv => ⟨st', B1, _, st2, x1.rel, h3, fun w H2 B2 x2 rw' => ⟨n, m, by rw [rp_int rv, rp_int rw'], hn, k _ H2 B2 ⟨st2, x1.trans x2, rfl, walk_rng⟩⟩⟩⟩
    · cases ev
theorem walk_enum {K : PySem.W.Frag} {q : Addr} {vs : List V} {xs : List D} {H B : Hp} (hq : SqL K B q vs) (ra : RpAll K B vs xs) : Walk K (Ite K q) ((List.range xs.length).map fun (i : Nat) => PyData.tuple [.int (i : Nat), xs.getD i .none]) [] H B := fun H2 B2 b1 b2 _ i => by
  have h : SqL K H2 q vs := b2.seq (b1.seq hq)
  refine ⟨fun x hx => ?_, fun hl => ⟨vs, h, by rw [List.length_map, List.length_range] at hl; rw [ra.length]; exact hl⟩⟩
  rw [List.getElem?_map] at hx
  obtain ⟨j, hj, rfl⟩ := Option.map_eq_some_iff.mp hx
  obtain ⟨hj1, hj2⟩ := List.getElem?_eq_some_iff.mp hj
  rw [List.getElem_range] at hj2
  subst hj2
  rw [List.length_range] at hj1
  have hx' : xs[i]? = some xs[i] := List.getElem?_eq_getElem hj1
  have hd : xs.getD i .none = xs[i] := by rw [List.getD_eq_getElem?_getD, hx']; rfl
  obtain ⟨v, hv, rv⟩ := ra.get hx'
  refine ⟨⟨vs, v, h, hv⟩, fun w H3 ⟨T, z, e1, e2, e3, e4⟩ => ?_⟩
  have := e4 vs h
  rw [hv] at this
  cases this
  subst e1 e3
  have g : Grow H2 B2 (upd H2 T (.tup [.int (i : Nat), v])) (upd B2 T (.tup [.int (i : Nat), v])) := Grow.new b2 e2
  refine ⟨_, g, .tup upd_same (.cons (.int _) (.cons ?_ .nil))⟩
  rw [hd]
  exact (rv.mono b1).mono g.bsub
theorem cI_enum {elts : List Expr} {kk : Nat} {tpos : Pos} (hg : Gl X "enumerate") (hm : X.mg "enumerate" = none) (ha : PE X a (tE X.K Φ ca)) (hs : starEach [a] X.env = [(false, eval a X.env)] := by rfl) : PI X (.Tuple elts kk tpos) (.Call (.Name "enumerate" p) [a] [] pos) (tI X.K (evI Φ (.enum ca))) :=
  pi_mono (pi_enum hg hm (pa_cons (pe_v ha) pa_nil hs) hs) fun σ H R ⟨st, B, xs, lk, st1, r, ev, k⟩ => by
    simp only [evI] at ev
    obtain ⟨y, st', h1, ev⟩ := bind2 ev
    cases y <;> simp only at ev <;> first | (cases ev; done) | skip
    simp only [Option.some.injEq, Prod.mk.injEq] at ev
    obtain ⟨rfl, rfl, rfl⟩ := ev
    refine ⟨st, B, _, st', r, h1, fun v H1 B1 x1 rv => ?_⟩
    cases rv with
    | lst a ra => exact ⟨_, _, rfl, x1.rel.sub.seq a, k _ H1 B1 ⟨st', x1, rfl, walk_enum a ra⟩⟩
end

/-! ### 3. for and while -/
section
variable {X : Cx} {Φ : Tab} {W : Nat} {pos : Pos} {tg iter t : Expr} {body : List Stmt} {ct : Ct} {ci : Ci} {cb : Css} {cc : Ce}
theorem drop_cons {α : Type} {l : List α} {i : Nat} (h : i < l.length) : l.drop i = l[i] :: l.drop (i + 1) := List.drop_eq_getElem_cons h
theorem cS_for (hp : PassesOwn (model X.prog X.w) X.A X.env X.xe) (hc : X.calm = true) (hi : PI X tg iter (tI X.K (evI Φ ci))) (hg : PG X tg (tTg X.K ct)) (hb : PSs X body (tCs X.K Φ W cb)) (hs : ∀ x, foldedSetIterable iter X.env x = pure x := by intro _; rfl) :
    PS X (.For tg iter body [] pos) (tC1 X.K Φ W (.for_ ct ci cb)) :=
  ps_mono (ps_for hp hc hi hg hb hs) fun D σ H ⟨st, B, fl, st', r, ev, k⟩ => by
    simp only [evS] at ev
    obtain ⟨xs, q, h1, ev⟩ := bind2 ev
    obtain ⟨lk, st1⟩ := q
    obtain ⟨f1, ste, h2, ev⟩ := map2 ev
    simp only [Prod.mk.injEq] at ev
    obtain ⟨rfl, rfl⟩ := ev
    refine ⟨st, B, xs, lk, st1, r, h1, fun J H1 B1 s1 => ?_⟩
    dsimp only at h2
    generalize hf : (fun (x : PyData) (st1 : Stt) => (asg ct x st1).bind fun st2 => evSs Φ W cb st2) = f at h2
    refine ⟨fun i m σ2 H2 => m = xs.length - i ∧ i ≤ xs.length ∧ ∃ st2 B2, Ext X.K st1 σ H1 B1 st2 σ2 H2 B2 ∧ forL f (xs.drop i) st2 = some (f1, ste), ⟨xs.length, rfl, Nat.zero_le _, st1, B1, Ext.refl s1.rel, h2⟩, ?_⟩
    rintro i m σ2 H2 ⟨rfl, hi, st2, B2, x2, h3⟩
    obtain ⟨w1, w2⟩ := s1.walk x2 i
    by_cases hl : i < xs.length
    · obtain ⟨g1, g2⟩ := w1 xs[i] (List.getElem?_eq_getElem hl)
      refine .inr ⟨g1, fun σ' H' => i + 1 ≤ xs.length ∧ ∃ st3 B3, Ext X.K st1 σ H1 B1 st3 σ' H' B3 ∧ forL f (xs.drop (i + 1)) st3 = some (f1, ste), fun σ' H' ⟨a1, a2⟩ => ⟨xs.length - (i + 1), by omega, rfl, a1, a2⟩, fun v H3 y => ?_⟩
      obtain ⟨B3, gr, rv⟩ := g2 v H3 y
      rw [drop_cons hl] at h3
      simp only [forL] at h3
      obtain ⟨f2, st3, h4, h5⟩ := bind2 h3
      rw [← hf] at h4
      obtain ⟨st2a, h6, h7⟩ := bindSome h4
      have x3 := x2.trans (gr.ext x2.rel)
      refine ⟨st2, B3, xs[i], st2a, x3.rel, rv, h6, fun σ4 x4 _ => ⟨st2a, B3, f2, st3, x4.rel, h7, fun σ5 H5 B5 x5 => ?_⟩⟩
      have x6 := (x3.trans x4).trans x5
      cases f2 with
      | nx => exact ⟨hl, st3, B5, x6, h5⟩
      | ct => exact ⟨hl, st3, B5, x6, h5⟩
      | bk =>
        simp only [Option.some.injEq, Prod.mk.injEq] at h5
        obtain ⟨rfl, rfl⟩ := h5
        exact k σ5 H5 B5 (s1.close x6)
      | rt d =>
        simp only [Option.some.injEq, Prod.mk.injEq] at h5
        obtain ⟨rfl, rfl⟩ := h5
        exact k σ5 H5 B5 (s1.close x6)
    · have e : i = xs.length := by omega
      subst e
      rw [List.drop_length] at h3
      simp only [forL, Option.some.injEq, Prod.mk.injEq] at h3
      obtain ⟨rfl, rfl⟩ := h3
      exact .inl ⟨w2 (Nat.le_refl _), k σ2 H2 B2 (s1.close x2)⟩
theorem cS_while (hp : PassesOwn (model X.prog X.w) X.A X.env X.xe) (ht : PT X t (tB X.K Φ cc)) (hb : PSs X body (tCs X.K Φ W cb)) : PS X (.While t body [] pos) (tC1 X.K Φ W (.whl cc cb)) :=
  ps_mono (ps_while hp ht hb) fun D σ H ⟨st, B, fl, st', r, ev, k⟩ => by
    simp only [evS] at ev
    refine ⟨fun m σ2 H2 => ∃ st2 B2, Ext X.K st σ H B st2 σ2 H2 B2 ∧ whileL (fun st => tst (evE Φ cc st)) (fun st => evSs Φ W cb st) m st2 = some (fl, st'), ⟨W, st, B, Ext.refl r, ev⟩, ?_⟩
    rintro m σ2 H2 ⟨st2, B2, x2, h⟩
    cases m with
    | zero => cases h
    | succ n =>
      simp only [whileL] at h
      obtain ⟨b, st3, h1, h2⟩ := bind2 h
      refine ⟨st2, B2, b, st3, x2.rel, h1, fun H3 B3 x3 => ?_⟩
      cases b with
      | false =>
        simp only [Option.some.injEq, Prod.mk.injEq] at h2
        obtain ⟨rfl, rfl⟩ := h2
        exact iteF (k σ2 H3 B3 (x2.trans x3))
      | true =>
        obtain ⟨f2, st4, h3, h4⟩ := bind2 h2
        refine iteT ⟨fun σ' H' => ∃ st5 B5, Ext X.K st σ H B st5 σ' H' B5 ∧ whileL (fun st => tst (evE Φ cc st)) (fun st => evSs Φ W cb st) n st5 = some (fl, st'), fun σ' H' q => ⟨n, Nat.lt_succ_self n, q⟩, st3, B3, f2, st4, x3.rel, h3, fun σ5 H5 B5 x5 => ?_⟩
        have x6 := (x2.trans x3).trans x5
        cases f2 with
        | nx => exact ⟨st4, B5, x6, h4⟩
        | ct => exact ⟨st4, B5, x6, h4⟩
        | bk =>
          simp only [Option.some.injEq, Prod.mk.injEq] at h4
          obtain ⟨rfl, rfl⟩ := h4
          exact k σ5 H5 B5 x6
        | rt d =>
          simp only [Option.some.injEq, Prod.mk.injEq] at h4
          obtain ⟨rfl, rfl⟩ := h4
          exact k σ5 H5 B5 x6
end
end PD

set_option Elab.async false
set_option linter.all false
set_option maxRecDepth 100000
/-! PD10: comprehensions. -/
namespace PD
open PySem L2 PySem.Spec

/-! ### 1. a block's own names -/
section
variable {K : PySem.W.Frag} {st ste st' : Stt} {σ σ' : L2.St} {H B He Be H' B' : Hp} {vs : List Nat}
theorem wipe_get {α : Type} (l : List (Option α)) : ∀ (vs : List Nat) (f : List (Option α) → List Nat → List (Option α)), (∀ l, f l [] = l) → (∀ l v vs, f l (v :: vs) = (f l vs).set v none) → ∀ k, (f l vs)[k]? = if k ∈ vs ∧ k < l.length then some none else l[k]?
  | [], f, h0, h1, k => by rw [h0]; simp
  | v :: vs, f, h0, h1, k => by
    rw [h1]
    have ih := wipe_get l vs f h0 h1
    have hlen : ∀ vs, (f l vs).length = l.length := fun vs => by
      induction vs with
      | nil => rw [h0]
      | cons v vs ih => rw [h1, List.length_set, ih]
    by_cases hv : v = k
    · subst hv
      by_cases hl : v < l.length
      · rw [List.getElem?_set_self (by rw [hlen]; exact hl)]; simp [hl]
      · rw [List.getElem?_eq_none (by rw [List.length_set, hlen]; omega), List.getElem?_eq_none (by omega)]; simp [hl]
    · rw [List.getElem?_set_ne hv, ih k]
      simp [Ne.symm hv, eq_comm]
theorem wipeS_get (st : Stt) (vs : List Nat) (k : Nat) : (wipeS st vs)[k]? = if k ∈ vs ∧ k < st.length then some none else st[k]? := wipe_get st vs wipeS (fun _ => rfl) (fun _ _ _ => rfl) k
theorem wipeσ_get (σ : L2.St) (vs : List Nat) (k : Nat) : (wipe σ vs)[k]? = if k ∈ vs ∧ k < σ.length then some none else σ[k]? := wipe_get σ vs wipe (fun _ => rfl) (fun _ _ _ => rfl) k
theorem wipeS_len (st : Stt) : ∀ vs, (wipeS st vs).length = st.length
  | [] => rfl
  | v :: vs => by show ((wipeS st vs).set v none).length = _; rw [List.length_set, wipeS_len st vs]
theorem backS_len (old st : Stt) : ∀ vs, (backS old st vs).length = st.length
  | [] => rfl
  | v :: vs => by show ((backS old st vs).set v _).length = _; rw [List.length_set, backS_len old st vs]
theorem backS_get (old st : Stt) : ∀ (vs : List Nat) (k : Nat), (backS old st vs)[k]? = if k ∈ vs ∧ k < st.length then some (old[k]?.getD none) else st[k]?
  | [], k => by simp [backS]
  | v :: vs, k => by
    show ((backS old st vs).set v (old[v]?.getD none))[k]? = _
    by_cases hv : v = k
    · subst hv
      by_cases hl : v < st.length
      · rw [List.getElem?_set_self (by rw [backS_len]; exact hl)]; simp [hl]
      · have z1 : ((backS old st vs).set v (old[v]?.getD none))[v]? = none := List.getElem?_eq_none (by rw [List.length_set, backS_len]; omega)
        have z2 : st[v]? = none := List.getElem?_eq_none (by omega)
        rw [z1, z2, if_neg fun z => hl z.2]
    · rw [List.getElem?_set_ne hv, backS_get old st vs k]
      have : (k ∈ v :: vs) = (k ∈ vs) := by simp [show ¬ k = v from fun z => hv z.symm]
      simp only [this]
theorem wipeS_some {k : Nat} {sv : SV} (h : (wipeS st vs)[k]? = some (some sv)) : st[k]? = some (some sv) ∧ k ∉ vs := by
  rw [wipeS_get] at h
  split at h
  · cases h
  · rename_i hn
    refine ⟨h, fun z => hn ⟨z, (List.getElem?_eq_some_iff.mp h).1⟩⟩
theorem wipeσ_out {k : Nat} (h : k ∉ vs) : (wipe σ vs)[k]? = σ[k]? := by rw [wipeσ_get, if_neg fun z => h z.1]
theorem wipe_ptr {a : Addr} : PtrA (wipeS st vs) (wipe σ vs) a → PtrA st σ a := fun ⟨k, sv, h1, h2, h3⟩ => by
  obtain ⟨h4, h5⟩ := wipeS_some h1
  rw [wipeσ_out h5] at h3
  exact ⟨k, sv, h4, h2, h3⟩
theorem wipe_own {a : Addr} : OwnA (wipeS st vs) (wipe σ vs) a → OwnA st σ a := fun ⟨k, sv, h1, h2, h3⟩ => by
  obtain ⟨h4, h5⟩ := wipeS_some h1
  rw [wipeσ_out h5] at h3
  exact ⟨k, sv, h4, h2, h3⟩
theorem wipe_rel (r : StR K st σ H B) (vs : List Nat) : StR K (wipeS st vs) (wipe σ vs) H B :=
  ⟨r.sub, by rw [wipeS_len, wipe_length, r.len], fun k sv h => by
    obtain ⟨h4, h5⟩ := wipeS_some h
    rw [wipeσ_out h5]; exact r.at_ k sv h4, fun i j sv sw p n h1 h2 h3 h4 h5 h6 => by
    obtain ⟨a1, a2⟩ := wipeS_some h1
    obtain ⟨b1, b2⟩ := wipeS_some h3
    rw [wipeσ_out a2] at h5
    rw [wipeσ_out b2] at h6
    exact r.sep i j sv sw p n a1 h2 b1 h4 h5 h6⟩
theorem wipe_ext (e : Ext K st σ H B st' σ' H' B') (hf : ∀ k ∈ vs, ∀ sv, st[k]? = some (some sv) → sv.fix = false) : Ext K st σ H B (wipeS st' vs) (wipe σ' vs) H' B' :=
  ⟨wipe_rel e.rel vs, e.bsub, e.frame, fun a o h1 h2 => by
    obtain ⟨o1, o2⟩ := e.owned a o h1 (wipe_ptr h2)
    exact ⟨o1, fun z => o2 (wipe_own z)⟩, fun k sv h f => by
    obtain ⟨e1, sw, e2, k2⟩ := e.fix k sv h f
    have nk : k ∉ vs := fun z => by rw [hf k z sv h] at f; cases f
    exact ⟨by rw [wipeσ_out nk]; exact e1, sw, by rw [wipeS_get, if_neg fun z => nk z.1]; exact e2, k2⟩, by rw [wipe_length]; exact e.len, e.there⟩
theorem wiped_free {k : Nat} (hk : k ∈ vs) (sv : SV) (h : (wipeS st vs)[k]? = some (some sv)) : sv.fix = false := absurd hk (wipeS_some h).2
/-- the block is left -/
theorem back_ext (r : StR K st σ H B) (e : Ext K (wipeS st vs) (wipe σ vs) H B ste (wipe σ vs) He Be) : Ext K st σ H B (backS st ste vs) σ He Be := by
  have slen : ste.length = st.length := by
    rw [e.rel.len, wipe_length, ← r.len]
  have look : ∀ (k : Nat) (sv : SV), (backS st ste vs)[k]? = some (some sv) → (k ∈ vs ∧ st[k]? = some (some sv)) ∨ (k ∉ vs ∧ ste[k]? = some (some sv)) := fun k sv h => by
    rw [backS_get] at h
    split at h
    · rename_i hh
      refine .inl ⟨hh.1, ?_⟩
      have hl : k < st.length := by rw [← slen]; exact hh.2
      rw [List.getElem?_eq_getElem hl] at h ⊢
      simpa using h
    · rename_i hh
      refine .inr ⟨fun z => hh ⟨z, (List.getElem?_eq_some_iff.mp h).1⟩, h⟩
  -- an address that a hidden slot points to stands as it stood
  have hid : ∀ (k : Nat) (sv : SV) (p : Addr), k ∈ vs → st[k]? = some (some sv) → sv.ptr = true → σ[k]? = some (some (.ref p)) → ¬ PtrA (wipeS st vs) (wipe σ vs) p := fun k sv p hk h1 h2 h3 ⟨j, sw, g1, g2, g3⟩ => by
    obtain ⟨g4, g5⟩ := wipeS_some g1
    rw [wipeσ_out g5] at g3
    exact r.sep k j sv sw p (fun z => g5 (z ▸ hk)) h1 h2 g4 g2 h3 g3
  have wσ : ∀ (k : Nat), k ∉ vs → (wipe σ vs)[k]? = σ[k]? := fun k hk => wipeσ_out hk
  have ptrOut : ∀ (k : Nat) (sv : SV) (a : Addr), k ∉ vs → ste[k]? = some (some sv) → sv.ptr = true → σ[k]? = some (some (.ref a)) → PtrA ste (wipe σ vs) a := fun k sv a h1 h2 h3 h4 => ⟨k, sv, h2, h3, by rw [wσ k h1]; exact h4⟩
  refine ⟨⟨e.rel.sub, by rw [backS_len, slen, r.len], fun k sv h => ?_, fun i j sv sw p n h1 h2 h3 h4 h5 h6 => ?_⟩, e.bsub, fun a o h1 h2 h3 => e.frame a o h1 h2 fun z => h3 (wipe_own z), fun a o h1 ⟨k, sv, g1, g2, g3⟩ => ?_, fun k sv h f => ⟨rfl, ?_⟩, rfl, e.there⟩
  · rcases look k sv h with ⟨a1, a2⟩ | ⟨a1, a2⟩
    · obtain ⟨v, hv, q⟩ := r.at_ k sv a2
      refine ⟨v, hv, q.mono e.bsub fun hs p o b h' e' => ?_⟩
      subst e'
      exact e.frame p o h' b fun z => hid k sv p a1 a2 hs hv z.ptr
    · obtain ⟨v, hv, q⟩ := e.rel.at_ k sv a2
      rw [wσ k a1] at hv
      exact ⟨v, hv, q⟩
  · rcases look i sv h1 with ⟨a1, a2⟩ | ⟨a1, a2⟩
    · rcases look j sw h3 with ⟨b1, b2⟩ | ⟨b1, b2⟩
      · exact r.sep i j sv sw p n a2 h2 b2 h4 h5 h6
      · obtain ⟨_, o, ho⟩ := r.ptr_tracked ⟨i, sv, a2, h2, h5⟩
        exact hid i sv p a1 a2 h2 h5 (e.owned p o ho (ptrOut j sw p b1 b2 h4 h6)).1
    · rcases look j sw h3 with ⟨b1, b2⟩ | ⟨b1, b2⟩
      · obtain ⟨_, o, ho⟩ := r.ptr_tracked ⟨j, sw, b2, h4, h6⟩
        exact hid j sw p b1 b2 h4 h6 (e.owned p o ho (ptrOut i sv p a1 a2 h2 h5)).1
      · exact e.rel.sep i j sv sw p n a2 h2 b2 h4 (by rw [wσ i a1]; exact h5) (by rw [wσ j b1]; exact h6)
  · have own1 : ∀ (k : Nat) (sv : SV), (backS st ste vs)[k]? = some (some sv) → sv.ptr = true → σ[k]? = some (some (.ref a)) → PtrA st σ a ∧ (sv.mt = true → OwnA st σ a) := fun k sv g1 g2 g3 => by
      rcases look k sv g1 with ⟨a1, a2⟩ | ⟨a1, a2⟩
      · exact ⟨⟨k, sv, a2, g2, g3⟩, fun m => ⟨k, sv, a2, m, g3⟩⟩
      · obtain ⟨o1, o2⟩ := e.owned a o h1 (ptrOut k sv a a1 a2 g2 g3)
        exact ⟨wipe_ptr o1, fun m => wipe_own (o2 ⟨k, sv, a2, m, by rw [wσ k a1]; exact g3⟩)⟩
    exact ⟨(own1 k sv g1 g2 g3).1, fun ⟨k', sv', z1, z2, z3⟩ => (own1 k' sv' z1 (SV.ptr_of_mt z2) z3).2 z2⟩
  · by_cases hk : k ∈ vs
    · refine ⟨sv, ?_, SV.kin_refl f⟩
      have hl := (List.getElem?_eq_some_iff.mp h).1
      rw [backS_get, if_pos ⟨hk, by rw [slen]; exact hl⟩, h]
      rfl
    · obtain ⟨_, sw, e2, k2⟩ := e.fix k sv (by rw [wipeS_get, if_neg fun z => hk z.1]; exact h) f
      exact ⟨sw, by rw [backS_get, if_neg fun z => hk z.1]; exact e2, k2⟩
/-- the list that is made grows -/
theorem poke (e : Ext K st σ H B st' σ' H' B') {p : Addr} {o o' : HO} (h0 : H p = none) (hb : B' p = none) (hp : H' p = some o) (np : ¬ PtrA st' σ' p) : Ext K st σ H B st' σ' (upd H' p o') B' := by
  refine ⟨⟨fun a u z => ?_, e.rel.len, fun k sv h => ?_, e.rel.sep⟩, e.bsub, fun a u h1 h2 h3 => ?_, e.owned, e.fix, e.len, fun a u h => ?_⟩
  · rw [upd_ne (ne_of_none z hb)]; exact e.rel.sub _ _ z
  · obtain ⟨v, hv, q⟩ := e.rel.at_ k sv h
    refine ⟨v, hv, q.mono (Same.refl _) fun hs q' u b h' e' => ⟨?_, b⟩⟩
    subst e'
    rw [upd_ne fun z => np ⟨k, sv, h, hs, by rw [← z]; exact hv⟩]; exact h'
  · obtain ⟨e1, e2⟩ := e.frame a u h1 h2 h3
    exact ⟨by rw [upd_ne (ne_of_none h1 h0)]; exact e1, e2⟩
  · obtain ⟨u', h'⟩ := e.there a u h
    exact ⟨u', by rw [upd_ne (ne_of_none h h0)]; exact h'⟩
end

/-! ### 2. one clause -/
def tTC (K : PySem.W.Frag) (Φ : Tab) (c : Co) : TT := tT K (evC Φ c)
section
variable {X : Cx} {Φ : Tab}
theorem pts_mono {ifs : List Expr} {t t' : TT} (h : PTs X ifs t) (k : ∀ σ H Q, t' σ H Q → t σ H Q) : PTs X ifs t' := ⟨fun pins s σ H Q I q => h.run pins s σ H Q I (k σ H Q q)⟩
theorem cC_no : PTs X [] (tTC X.K Φ .no) := pts_mono pts_nil fun σ H Q ⟨st, B, b, st', r, ev, k⟩ => by
  simp only [evC, Option.some.injEq, Prod.mk.injEq] at ev
  obtain ⟨rfl, rfl⟩ := ev
  exact k H B (Ext.refl r)
theorem cC_so {c : Expr} {cc : Ce} (h : PT X c (tB X.K Φ cc)) : PTs X [c] (tTC X.K Φ (.so cc)) := pts_mono (pts_one h) fun σ H Q ⟨st, B, b, st', r, ev, k⟩ => by
  simp only [evC] at ev
  exact ⟨st, B, b, st', r, ev, k⟩
theorem onlyAt_wipe {l vs : List Nat} {σ σ' : L2.St} (h : OnlyAt l σ σ') (hl : σ'.length = σ.length) (sub : ∀ j ∈ l, j ∈ vs) : wipe σ' vs = wipe σ vs := by
  apply List.ext_getElem?
  intro k
  rw [wipeσ_get, wipeσ_get, hl]
  by_cases hk : k ∈ vs
  · by_cases hl' : k < σ.length
    · rw [if_pos ⟨hk, hl'⟩, if_pos ⟨hk, hl'⟩]
    · rw [if_neg fun z => hl' z.2, if_neg fun z => hl' z.2, List.getElem?_eq_none (by omega), List.getElem?_eq_none (by omega)]
  · rw [if_neg fun z => hk z.1, if_neg fun z => hk z.1]
    exact h k fun z => hk (sub k z)
theorem wipe_wipe (σ : L2.St) (vs : List Nat) : wipe (wipe σ vs) vs = wipe σ vs := by
  apply List.ext_getElem?
  intro k
  rw [wipeσ_get, wipeσ_get, wipe_length]
  split
  · rfl
  · rfl
/-- one turn of a comprehension's clause, on the code's side -/
def turn1 (Φ : Tab) (own : List Nat) (ct : Ct) (cc : Co) (ce : Ce) (x : D) (st1 : Stt) : Option (Option D × Stt) :=
  (asg ct x st1).bind fun st2 => (evC Φ cc st2).bind fun b => match b.1 with
        | false => some (none, wipeS b.2 own)
        | true => (nmk (evE Φ ce b.2)).map fun y => (some y.1, wipeS y.2 own)
/-- what a turn of a comprehension brings: the base is the heap ahead of the list at D -/
theorem turn_rd {K : PySem.W.Frag} {own : List Nat} {ct : Ct} {cc : Co} {ce : Ce} {st0 st2 st3 : Stt} {σ0 σ : L2.St} {H0 B0 H1 B1 H2 B2 : Hp} {D : Addr} {acc : List V} {accD : List PyData} {v : V} {x : PyData} {o : Option PyData}
    (e : Ext K st0 σ0 H0 B0 st2 (wipe σ own) H1 B1) (hf : ∀ k ∈ own, ∀ sv, st0[k]? = some (some sv) → sv.fix = false) (h0 : H0 D = none) (hD : H1 D = some (.lst acc)) (bD : B1 D = none) (nD : ¬ PtrA st2 (wipe σ own) D) (ra : RpAll K B1 acc accD)
    (g : Grow H1 B1 H2 B2) (rv : Rp K B2 v x) (ev : turn1 Φ own ct cc ce x st2 = some (o, st3)) (sub : ∀ j ∈ ct.slots, j ∈ own) (hz : o ≠ none → accD.length < sizeLine) {Nx : Hp → Prop}
    (k : ∀ H5 B5 acc', Ext K st0 σ0 H0 B0 st3 (wipe σ own) H5 B5 → H5 D = some (.lst acc') → B5 D = none → ¬ PtrA st3 (wipe σ own) D → RpAll K B5 acc' (match o with | none => accD | some y => accD ++ [y]) → Nx H5) :
    tTg K ct v (wipe σ own) H2 fun σ2 H3 => wipe σ2 own = wipe σ own ∧ tTC K Φ cc σ2 H3 fun b H4 =>
      if b = true then tN K Φ ce σ2 H4 fun y H5 => ∃ acc, H5 D = some (.lst acc) ∧ acc.length < sizeLine ∧ Nx (upd H5 D (.lst (acc ++ [y]))) else Nx H4 := by
  unfold turn1 at ev
  obtain ⟨st4, e1, ev⟩ := bindSome ev
  obtain ⟨b, st5, e2, ev⟩ := bind2 ev
  have x1 := e.trans (g.ext e.rel)
  have hD2 : H2 D = some (.lst acc) := (g.keep D _ hD).1
  have bD2 : B2 D = none := (g.keep D _ hD).2 bD
  refine ⟨st2, B2, x, st4, x1.rel, rv, e1, fun σ2 x2 o2 => ⟨?_, ?_⟩⟩
  · have := onlyAt_wipe (vs := own) o2 x2.len sub
    rw [wipe_wipe] at this
    exact this
  · have w2 : wipe σ2 own = wipe σ own := by
      have := onlyAt_wipe (vs := own) o2 x2.len sub
      rw [wipe_wipe] at this
      exact this
    -- what stays of the list at D
    have stay : ∀ {st' : Stt} {σ' : L2.St} {H' B' : Hp}, Ext K st2 (wipe σ own) H2 B2 st' σ' H' B' → H' D = some (.lst acc) ∧ B' D = none ∧ ¬ PtrA st' σ' D := fun {st' σ' H' B'} z => by
      obtain ⟨z1, z2⟩ := z.frame D _ hD2 bD2 fun q => nD q.ptr
      exact ⟨z1, z2, fun q => nD (z.owned D _ hD2 q).1⟩
    refine ⟨st4, B2, b, st5, x2.rel, e2, fun H3 B3 x3 => ?_⟩
    have x23 := x2.trans x3
    have x123 := x1.trans x23
    cases b with
    | false =>
      simp only [Option.some.injEq, Prod.mk.injEq] at ev
      obtain ⟨rfl, rfl⟩ := ev
      obtain ⟨s1, s2, s3⟩ := stay x23
      have w := wipe_ext (vs := own) x123 hf
      rw [w2] at w
      exact iteF (k H3 B3 acc w s1 s2 (fun q => s3 (wipe_ptr (vs := own) (by rw [w2]; exact q))) ((ra.mono g.bsub).mono x23.bsub))
    | true =>
      obtain ⟨y, st6, e3, ev⟩ := map2 ev
      simp only [Prod.mk.injEq] at ev
      obtain ⟨rfl, rfl⟩ := ev
      refine iteT ⟨st5, B3, y, st6, x3.rel, e3, fun u H4 B4 x4 ru => ?_⟩
      have x234 := x23.trans x4
      obtain ⟨s1, s2, s3⟩ := stay x234
      have rr := (ra.mono g.bsub).mono x234.bsub
      refine ⟨acc, s1, by rw [rr.length]; exact hz (by simp), ?_⟩
      have w := wipe_ext (vs := own) (poke (o' := .lst (acc ++ [u])) (x1.trans x234) h0 s2 s1 s3) hf
      rw [w2] at w
      exact k _ B4 _ w upd_same s2 (fun q => s3 (wipe_ptr (vs := own) (by rw [w2]; exact q))) (rr.append (.cons ru .nil))
theorem compL_len {f : D → Stt → Option (Option D × Stt)} : ∀ {xs acc ys : List D} {st st' : Stt}, compL f xs acc st = some (ys, st') → acc.length ≤ ys.length
  | [], acc, ys, st, st', h => by simp only [compL, Option.some.injEq, Prod.mk.injEq] at h; rw [h.1]; exact Nat.le_refl _
  | x :: xs, acc, ys, st, st', h => by
    simp only [compL] at h
    obtain ⟨o, st1, _, h⟩ := bind2 h
    cases o with
    | none => exact compL_len h
    | some y =>
      simp only at h
      split at h
      · have := compL_len h
        simp at this
        omega
      · cases h
/-- no slot points to the new list -/
theorem new_ptr {K : PySem.W.Frag} {J : It} {xs : List PyData} {lk : Option (Nat × SV)} {st st1 ste : Stt} {σ : L2.St} {H B H1 B1 : Hp} {own : List Nat} {D : Addr} (s : Src1 K J xs lk st σ H B st1 H1 B1) (hD : H1 D = none) (nD : ¬ PtrA ste (wipe σ own) D) (hl : ste.length = st1.length) : ¬ PtrA (unlock lk (backS st1 ste own)) σ D := by
  have base : ∀ (k : Nat) (sv : SV), (backS st1 ste own)[k]? = some (some sv) → sv.ptr = true → σ[k]? = some (some (.ref D)) → False := fun k sv h1 h2 h3 => by
    rw [backS_get] at h1
    split at h1
    · rename_i hh
      have hl' : k < st1.length := by rw [← hl]; exact hh.2
      rw [List.getElem?_eq_getElem hl'] at h1
      obtain ⟨_, o, e⟩ := s.rel.ptr_tracked ⟨k, sv, by rw [List.getElem?_eq_getElem hl']; simpa using h1, h2, h3⟩
      rw [hD] at e; cases e
    · rename_i hh
      have hk : k ∉ own := fun z => hh ⟨z, (List.getElem?_eq_some_iff.mp h1).1⟩
      exact nD ⟨k, sv, h1, h2, by rw [wipeσ_out hk]; exact h3⟩
  rintro ⟨k, sv, h1, h2, h3⟩
  obtain ⟨st', x, q⟩ := s.ex
  cases lk with
  | none => exact base k sv h1 h2 h3
  | some jv =>
    obtain ⟨j, sw⟩ := jv
    obtain ⟨q1, q2, _, p, q3, _⟩ := q
    rcases get_set (show ((backS st1 ste own).set j (some sw))[k]? = some (some sv) from h1) with ⟨rfl, _⟩ | ⟨_, q⟩
    · obtain ⟨_, o, e⟩ := x.rel.ptr_tracked ⟨j, sw, q1, q2, h3⟩
      rw [hD] at e; cases e
    · exact base k sv q h2 h3
/-- the turns of a clause over what is walked; the list at D grows from acc0 -/
theorem loop1 {K : PySem.W.Frag} {J : It} {own : List Nat} {ct : Ct} {cc : Co} {ce : Ce} {σ : L2.St} {H B H1 B1 : Hp} {st st1 ste : Stt} {xs ys : List PyData} {lk : Option (Nat × SV)} {D : Addr} {acc0 : List V} {accD0 : List PyData} {Fi : Hp → Prop}
    (s1 : Src1 K J xs lk st σ H B st1 H1 B1) (hD : H1 D = none) (ra0 : RpAll K B1 acc0 accD0) (h2 : compL (turn1 Φ own ct cc ce) xs accD0 (wipeS st1 own) = some (ys, ste)) (sub : ∀ j ∈ ct.slots, j ∈ own)
    (k : ∀ He Be acc, Ext K st σ H B (unlock lk (backS st1 ste own)) σ He Be → ste.length = st1.length → He D = some (.lst acc) → Be D = none → ¬ PtrA (unlock lk (backS st1 ste own)) σ D → RpAll K Be acc ys → Fi He) :
    ∃ W : Nat → Nat → Hp → Prop, (∃ m, W 0 m (upd H1 D (.lst acc0))) ∧ ∀ i m H, W i m H → (J.stop i H ∧ Fi H) ∨ (J.go i H ∧ ∃ Nx : Hp → Prop, (∀ H', Nx H' → ∃ m', m' < m ∧ W (i + 1) m' H') ∧ ∀ x H', J.yld i H x H' → tTg K ct x (wipe σ own) H' fun σ2 H2 => wipe σ2 own = wipe σ own ∧ tTC K Φ cc σ2 H2 fun b H3 =>
      if b = true then tN K Φ ce σ2 H3 fun y H4 => ∃ acc, H4 D = some (.lst acc) ∧ acc.length < sizeLine ∧ Nx (upd H4 D (.lst (acc ++ [y]))) else Nx H3) := by
  have r1 := s1.rel
  have bD : B1 D = none := r1.sub.free hD
  have g0 : Grow H1 B1 (upd H1 D (.lst acc0)) B1 := Grow.new' r1.sub hD
  have nD0 : ¬ PtrA (wipeS st1 own) (wipe σ own) D := fun z => by
    obtain ⟨_, o, e⟩ := r1.ptr_tracked (wipe_ptr z)
    rw [hD] at e; cases e
  have free0 : ∀ k ∈ own, ∀ sv, (wipeS st1 own)[k]? = some (some sv) → sv.fix = false := fun k hk sv z => wiped_free hk sv z
  refine ⟨fun i m H2 => m = xs.length - i ∧ i ≤ xs.length ∧ ∃ st2 B2 acc accD, Ext K (wipeS st1 own) (wipe σ own) H1 B1 st2 (wipe σ own) H2 B2 ∧ H2 D = some (.lst acc) ∧ B2 D = none ∧ ¬ PtrA st2 (wipe σ own) D ∧ RpAll K B2 acc accD ∧ compL (turn1 Φ own ct cc ce) (xs.drop i) accD st2 = some (ys, ste),
    ⟨xs.length, rfl, Nat.zero_le _, wipeS st1 own, B1, acc0, accD0, g0.ext (wipe_rel r1 own), upd_same, bD, nD0, ra0, h2⟩, ?_⟩
  rintro i m H2 ⟨rfl, hi, st2, B2, acc, accD, x2, d1, d2, d3, ra, h3⟩
  have xb := back_ext r1 x2
  obtain ⟨w1, w2⟩ := s1.walk xb i
  by_cases hl : i < xs.length
  · obtain ⟨g1, g2⟩ := w1 xs[i] (List.getElem?_eq_getElem hl)
    refine .inr ⟨g1, fun H' => i + 1 ≤ xs.length ∧ ∃ st3 B3 acc accD, Ext K (wipeS st1 own) (wipe σ own) H1 B1 st3 (wipe σ own) H' B3 ∧ H' D = some (.lst acc) ∧ B3 D = none ∧ ¬ PtrA st3 (wipe σ own) D ∧ RpAll K B3 acc accD ∧ compL (turn1 Φ own ct cc ce) (xs.drop (i + 1)) accD st3 = some (ys, ste),
      fun H' ⟨a1, a2⟩ => ⟨xs.length - (i + 1), by omega, rfl, a1, a2⟩, fun v H3 y => ?_⟩
    obtain ⟨B3, gr, rv⟩ := g2 v H3 y
    rw [drop_cons hl] at h3
    simp only [compL] at h3
    obtain ⟨o, st3, h4, h5⟩ := bind2 h3
    refine turn_rd x2 free0 hD d1 d2 d3 ra gr rv h4 sub (fun ho => ?_) fun H5 B5 acc' z1 z2 z3 z4 z5 => ⟨hl, ?_⟩
    · cases o with
      | none => exact absurd rfl ho
      | some y => simp only at h5; split at h5 <;> first | assumption | cases h5
    · cases o with
      | none => exact ⟨st3, B5, acc', accD, z1, z2, z3, z4, z5, h5⟩
      | some y =>
        simp only at h5
        split at h5
        · exact ⟨st3, B5, acc', accD ++ [y], z1, z2, z3, z4, z5, h5⟩
        · cases h5
  · have e : i = xs.length := by omega
    subst e
    rw [List.drop_length] at h3
    simp only [compL, Option.some.injEq, Prod.mk.injEq] at h3
    obtain ⟨rfl, rfl⟩ := h3
    have sl : st2.length = st1.length := by rw [x2.rel.len, wipe_length, ← r1.len]
    exact .inl ⟨w2 (Nat.le_refl _), k _ B2 acc (s1.close xb) sl d1 d2 (new_ptr s1 hD d3 sl) ra⟩
theorem Src1.fresh {K : PySem.W.Frag} {J : It} {xs : List PyData} {lk : Option (Nat × SV)} {st st1 : Stt} {σ : L2.St} {H B H1 B1 : Hp} {D : Addr} (s : Src1 K J xs lk st σ H B st1 H1 B1) (hD : H1 D = none) : H D = none := by
  cases z : H D with
  | none => rfl
  | some u =>
    exfalso
    obtain ⟨st', x', _⟩ := s.ex
    obtain ⟨u', h'⟩ := x'.there D u z
    rw [hD] at h'; cases h'
/-- the reading of a comprehension with one clause -/
theorem lc_rd {own : List Nat} {ct : Ct} {ci : Ci} {cc : Co} {ce : Ce} {σ : L2.St} {H : Hp} {Q : VK} {st st' : Stt} {B : Hp} {op : Op} (r : StR X.K st σ H B) (ev : evE Φ (.comp own ct ci cc ce) st = some (op, st')) (sub : ∀ j ∈ ct.slots, j ∈ own)
    (k : ∀ v H' B', Ext X.K st σ H B st' σ H' B' → OpV X.K v H st' σ H' B' op → Q v H') : tLc (tI X.K (evI Φ ci)) (tTg X.K ct) (tTC X.K Φ cc) (tN X.K Φ ce) own σ H Q := by
  simp only [evE] at ev
  obtain ⟨xs, q, h1, ev⟩ := bind2 ev
  obtain ⟨lk, st1⟩ := q
  obtain ⟨ys, ste, h2, ev⟩ := map2 ev
  simp only [Prod.mk.injEq] at ev
  obtain ⟨rfl, rfl⟩ := ev
  dsimp only at h2
  change compL (turn1 Φ own ct cc ce) xs [] (wipeS st1 own) = some (ys, ste) at h2
  refine ⟨st, B, xs, lk, st1, r, h1, fun J H1 B1 s1 D hD => ?_⟩
  exact loop1 s1 hD .nil h2 sub fun He Be acc xc _ d1 d2 d3 ra => k _ _ _ xc ⟨D, _, rfl, s1.fresh hD, d2, d1, .lst ra, d3⟩
section
variable {pos : Pos} {elt tg iter : Expr} {ifs : List Expr} {scope : Scope} {own : List (Str × Nat)} {ct : Ct} {ci : Ci} {cc : Co} {ce : Ce}
theorem cE_comp (hc : X.calm = true) (hN : X.N.Nodup) (hi : PI X tg iter (tI X.K (evI Φ ci))) (ok : BlkOk X.N X.env.scope scope own)
    (hg : ∀ (s : Shared) (H : Hp) (C : Addr) (cl : List (Str × Addr)) (fp : List Addr), PG (X.blk s H scope (compEnvC scope cl C X.env) fp) tg (tTg X.K ct)) (ht : ∀ (s : Shared) (H : Hp) (C : Addr) (cl : List (Str × Addr)) (fp : List Addr), PTs (X.blk s H scope (compEnvC scope cl C X.env) fp) ifs (tTC X.K Φ cc))
    (he : ∀ (s : Shared) (H : Hp) (C : Addr) (cl : List (Str × Addr)) (fp : List Addr), PE (X.blk s H scope (compEnvC scope cl C X.env) fp) elt (tE X.K Φ ce)) (sub : ∀ j ∈ ct.slots, j ∈ own.map (·.2) := by decide) (hs : ∀ x, foldedSetIterable iter X.env x = pure x := by intro _; rfl) :
    PE X (.ListComp elt [⟨tg, iter, ifs, 0⟩] scope pos) (tE X.K Φ (.comp (own.map (·.2)) ct ci cc ce)) :=
  pe_mono (pe_lc hc hN hi ok hg ht (fun s H C cl fp => pe_v (he s H C cl fp)) hs) fun σ H Q ⟨st, B, op, st', r, ev, k⟩ => lc_rd r ev sub k
/-- name = [..], the name a local -/
theorem cS_setComp {W : Nat} {i : Nat} {y : Str} {py spos : Pos} (hc : X.calm = true) (hN : X.N.Nodup) (hy : X.N[i]? = some y) (hyl : X.env.scope.names.lookup y = some .local)
    (hsw : swapsWith (.ListComp elt [⟨tg, iter, ifs, 0⟩] scope pos) (some (.Name y py)) spos.line X.env = pure true) (hi : PI X tg iter (tI X.K (evI Φ ci))) (ok : BlkOk X.N X.env.scope scope own)
    (hg : ∀ (s : Shared) (H : Hp) (C : Addr) (cl : List (Str × Addr)) (fp : List Addr), PG (X.blk s H scope (compEnvC scope cl C X.env) fp) tg (tTg X.K ct)) (ht : ∀ (s : Shared) (H : Hp) (C : Addr) (cl : List (Str × Addr)) (fp : List Addr), PTs (X.blk s H scope (compEnvC scope cl C X.env) fp) ifs (tTC X.K Φ cc))
    (he : ∀ (s : Shared) (H : Hp) (C : Addr) (cl : List (Str × Addr)) (fp : List Addr), PE (X.blk s H scope (compEnvC scope cl C X.env) fp) elt (tE X.K Φ ce)) (sub : ∀ j ∈ ct.slots, j ∈ own.map (·.2) := by decide) (hs : ∀ x, foldedSetIterable iter X.env x = pure x := by intro _; rfl) :
    PS X (.Assign [.Name y py] (.ListComp elt [⟨tg, iter, ifs, 0⟩] scope pos) spos) (tC1 X.K Φ W (.set i (.comp (own.map (·.2)) ct ci cc ce))) :=
  ps_mono (ps_setLc hc hN hy hyl hsw hi ok hg ht (fun s H C cl fp => pe_v (he s H C cl fp)) hs) fun D σ H ⟨st, B, fl, st', r, ev, k⟩ => by
    simp only [evS] at ev
    obtain ⟨op, st1, e1, ev⟩ := bind2 ev
    obtain ⟨st2, e2, ev⟩ := Option.map_eq_some_iff.mp ev
    simp only [Prod.mk.injEq] at ev
    obtain ⟨rfl, rfl⟩ := ev
    refine lc_rd r e1 sub fun v H1 B1 x1 o1 => ?_
    obtain ⟨B2, x2⟩ := setO_ext x1 o1 e2
    exact k _ H1 B2 x2
end
end

/-! ### 3. two clauses -/
def del (H : Hp) (D : Addr) : Hp := fun b => if b = D then none else H b
theorem del_same {H : Hp} {D : Addr} : del H D D = none := if_pos rfl
theorem del_ne {H : Hp} {D b : Addr} (h : b ≠ D) : del H D b = H b := if_neg h
theorem del_some {H : Hp} {D b : Addr} {o : HO} (h : del H D b = some o) : b ≠ D ∧ H b = some o := by
  by_cases e : b = D
  · subst e; rw [del_same] at h; cases h
  · rw [del_ne e] at h; exact ⟨e, h⟩
theorem del_upd {H : Hp} {D : Addr} {o : HO} (h : H D = some o) : upd (del H D) D o = H := by
  funext b
  by_cases e : b = D
  · subst e; rw [upd_same, h]
  · rw [upd_ne e, del_ne e]
section
variable {K : PySem.W.Frag} {st st' : Stt} {σ σ' : L2.St} {H B H' B' : Hp} {D : Addr} {o : HO}
theorem StR.del (r : StR K st σ H B) (hb : B D = none) (np : ¬ PtrA st σ D) : StR K st σ (del H D) B := by
  refine ⟨fun a u e => ?_, r.len, fun k sv h => ?_, r.sep⟩
  · rw [del_ne fun z => by rw [z, hb] at e; cases e]; exact r.sub _ _ e
  · obtain ⟨v, hv, q⟩ := r.at_ k sv h
    refine ⟨v, hv, q.mono (Same.refl _) fun hs p u b h' e' => ⟨?_, b⟩⟩
    subst e'
    rw [del_ne fun z => np ⟨k, sv, h, hs, by rw [← z]; exact hv⟩]; exact h'
theorem Ext.del (e : Ext K st σ H B st' σ' H' B') (h : H D = some o) (hb : B D = none) (np : ¬ PtrA st σ D) : Ext K st σ (del H D) B st' σ' (del H' D) B' :=
  ⟨e.rel.del (e.frame D o h hb fun z => np z.ptr).2 fun z => np (e.owned D o h z).1, e.bsub, fun a u h1 h2 h3 => by
    obtain ⟨n, h1⟩ := del_some h1
    obtain ⟨e1, e2⟩ := e.frame a u h1 h2 h3
    exact ⟨by rw [del_ne n]; exact e1, e2⟩, fun a u h1 h2 => e.owned a u (del_some h1).2 h2, e.fix, e.len, fun a u h1 => by
    obtain ⟨n, h1⟩ := del_some h1
    obtain ⟨u', h'⟩ := e.there a u h1
    exact ⟨u', by rw [del_ne n]; exact h'⟩⟩
/-- .. where the object came meanwhile -/
theorem Ext.delR (e : Ext K st σ H B st' σ' H' B') (h : H D = none) (hb : B' D = none) (np : ¬ PtrA st' σ' D) : Ext K st σ H B st' σ' (PD.del H' D) B' :=
  ⟨e.rel.del hb np, e.bsub, fun a u h1 h2 h3 => by
    obtain ⟨e1, e2⟩ := e.frame a u h1 h2 h3
    exact ⟨by rw [del_ne (ne_of_none h1 h)]; exact e1, e2⟩, e.owned, e.fix, e.len, fun a u h1 => by
    obtain ⟨u', h'⟩ := e.there a u h1
    exact ⟨u', by rw [del_ne (ne_of_none h1 h)]; exact h'⟩⟩
theorem Src1.del {J : It} {xs : List PyData} {lk : Option (Nat × SV)} {st1 : Stt} {H1 B1 : Hp} (s : Src1 K J xs lk st σ H B st1 H1 B1) (h : H D = some o) (hb : B D = none) (np : ¬ PtrA st σ D) : Src1 K J xs lk st σ (PD.del H D) B st1 (PD.del H1 D) B1 := by
  obtain ⟨st', x, q⟩ := s.ex
  refine ⟨st', x.del h hb np, ?_⟩
  cases lk with
  | none => exact ⟨q.1, fun H2 B2 b1 b2 _ i => q.2 H2 B2 b1 b2 (fun _ z => nomatch z) i⟩
  | some jv =>
    obtain ⟨q1, q2, q3, p, q4, q5⟩ := q
    refine ⟨q1, q2, q3, p, q4, fun H2 B2 b1 b2 hL i => q5 H2 B2 b1 b2 (fun a ha => ?_) i⟩
    rw [hL a ha, del_ne]
    rintro rfl
    simp only [List.mem_singleton] at ha
    subst ha
    exact np (x.owned _ o h ⟨_, _, q1, q2, q4⟩).1
end
section
variable {X : Cx} {Φ : Tab}
theorem wipeS_ext {a b : Stt} {vs : List Nat} (hl : a.length = b.length) (h : ∀ k, k ∉ vs → a[k]? = b[k]?) : wipeS a vs = wipeS b vs := by
  apply List.ext_getElem?
  intro k
  rw [wipeS_get, wipeS_get, hl]
  by_cases hk : k ∈ vs
  · by_cases hl' : k < b.length
    · rw [if_pos ⟨hk, hl'⟩, if_pos ⟨hk, hl'⟩]
    · rw [if_neg fun z => hl' z.2, if_neg fun z => hl' z.2, List.getElem?_eq_none (by omega), List.getElem?_eq_none (by omega)]
  · rw [if_neg fun z => hk z.1, if_neg fun z => hk z.1]
    exact h k hk
theorem unlock_len (lk : Option (Nat × SV)) (st : Stt) : (unlock lk st).length = st.length := by
  cases lk with
  | none => rfl
  | some jv => exact List.length_set
theorem unlock_get {lk : Option (Nat × SV)} {a b : Stt} (hl : a.length = b.length) {k : Nat} (h : a[k]? = b[k]?) : (unlock lk a)[k]? = (unlock lk b)[k]? := by
  cases lk with
  | none => exact h
  | some jv =>
    show (a.set jv.1 (some jv.2))[k]? = (b.set jv.1 (some jv.2))[k]?
    by_cases e : jv.1 = k
    · subst e
      by_cases hk : jv.1 < a.length
      · rw [List.getElem?_set_self hk, List.getElem?_set_self (by omega)]
      · rw [List.getElem?_eq_none (by rw [List.length_set]; omega), List.getElem?_eq_none (by rw [List.length_set]; omega)]
    · rw [List.getElem?_set_ne e, List.getElem?_set_ne e]; exact h
/-- one turn of the outer clause -/
def turn2 (Φ : Tab) (own : List Nat) (t : Ct) (own1 : List Nat) (t1 : Ct) (it1 : Ci) (c1 : Co) (e : Ce) (x : D) (acc : List D) (st1 : Stt) : Option (List D × Stt) :=
  (asg t x st1).bind fun st2 => (evI Φ it1 st2).bind fun r1 => (compL (turn1 Φ own1 t1 c1 e) r1.1 acc (wipeS r1.2.2 own1)).map fun u => (u.1, wipeS (unlock r1.2.1 u.2) own)
theorem lc2_rd {own own1 : List Nat} {ct ct1 : Ct} {ci ci1 : Ci} {cc : Co} {ce : Ce} {σ : L2.St} {H : Hp} {Q : VK} {st st' : Stt} {B : Hp} {op : Op} (r : StR X.K st σ H B) (ev : evE Φ (.comp2 own ct ci own1 ct1 ci1 cc ce) st = some (op, st')) (sub : ∀ j ∈ ct.slots, j ∈ own) (sub1 : ∀ j ∈ ct1.slots, j ∈ own1) (sub2 : ∀ j ∈ own1, j ∈ own)
    (k : ∀ v H' B', Ext X.K st σ H B st' σ H' B' → OpV X.K v H st' σ H' B' op → Q v H') : tLc2 (tI X.K (evI Φ ci)) (tTg X.K ct) tYes (tI X.K (evI Φ ci1)) (tTg X.K ct1) (tTC X.K Φ cc) (tN X.K Φ ce) own own1 σ H Q := by
  simp only [evE] at ev
  obtain ⟨xs, q, h1, ev⟩ := bind2 ev
  obtain ⟨lk, st1⟩ := q
  obtain ⟨ys, ste, h2, ev⟩ := map2 ev
  simp only [Prod.mk.injEq] at ev
  obtain ⟨rfl, rfl⟩ := ev
  dsimp only at h2
  change compL2 (turn2 Φ own ct own1 ct1 ci1 cc ce) xs [] (wipeS st1 own) = some (ys, ste) at h2
  refine ⟨st, B, xs, lk, st1, r, h1, fun J H1 B1 s1 D hD => ?_⟩
  have r1 := s1.rel
  have bD : B1 D = none := r1.sub.free hD
  have g0 : Grow H1 B1 (upd H1 D (.lst [])) B1 := Grow.new' r1.sub hD
  have nD0 : ¬ PtrA (wipeS st1 own) (wipe σ own) D := fun z => by
    obtain ⟨_, o, e⟩ := r1.ptr_tracked (wipe_ptr z)
    rw [hD] at e; cases e
  have free0 : ∀ k ∈ own, ∀ sv, (wipeS st1 own)[k]? = some (some sv) → sv.fix = false := fun k hk sv z => wiped_free hk sv z
  refine ⟨fun i m H2 => m = xs.length - i ∧ i ≤ xs.length ∧ ∃ st2 B2 acc accD, Ext X.K (wipeS st1 own) (wipe σ own) H1 B1 st2 (wipe σ own) H2 B2 ∧ H2 D = some (.lst acc) ∧ B2 D = none ∧ ¬ PtrA st2 (wipe σ own) D ∧ RpAll X.K B2 acc accD ∧ compL2 (turn2 Φ own ct own1 ct1 ci1 cc ce) (xs.drop i) accD st2 = some (ys, ste),
    ⟨xs.length, rfl, Nat.zero_le _, wipeS st1 own, B1, [], [], g0.ext (wipe_rel r1 own), upd_same, bD, nD0, .nil, h2⟩, ?_⟩
  rintro i m H2 ⟨rfl, hi, st2, B2, acc, accD, x2, d1, d2, d3, ra, h3⟩
  have xb := back_ext r1 x2
  obtain ⟨w1, w2⟩ := s1.walk xb i
  by_cases hl : i < xs.length
  · obtain ⟨g1, g2⟩ := w1 xs[i] (List.getElem?_eq_getElem hl)
    refine .inr ⟨g1, fun H' => i + 1 ≤ xs.length ∧ ∃ st3 B3 acc accD, Ext X.K (wipeS st1 own) (wipe σ own) H1 B1 st3 (wipe σ own) H' B3 ∧ H' D = some (.lst acc) ∧ B3 D = none ∧ ¬ PtrA st3 (wipe σ own) D ∧ RpAll X.K B3 acc accD ∧ compL2 (turn2 Φ own ct own1 ct1 ci1 cc ce) (xs.drop (i + 1)) accD st3 = some (ys, ste),
      fun H' ⟨a1, a2⟩ => ⟨xs.length - (i + 1), by omega, rfl, a1, a2⟩, fun v H3 y => ?_⟩
    obtain ⟨B3, gr, rv⟩ := g2 v H3 y
    rw [drop_cons hl] at h3
    simp only [compL2] at h3
    obtain ⟨ac1, st3, h4, h5⟩ := bind2 h3
    unfold turn2 at h4
    obtain ⟨sta, h6, h4⟩ := bindSome h4
    obtain ⟨xs1, q1, h7, h4⟩ := bind2 h4
    obtain ⟨lk1, stb⟩ := q1
    obtain ⟨zs, stc, h8, h4⟩ := map2 h4
    simp only [Prod.mk.injEq] at h4
    obtain ⟨rfl, rfl⟩ := h4
    dsimp only at h8 h5
    have x3 := x2.trans (gr.ext x2.rel)
    have t1 : H3 D = some (.lst acc) := (gr.keep D _ d1).1
    have t2 : B3 D = none := (gr.keep D _ d1).2 d2
    refine ⟨st2, B3, xs[i], sta, x3.rel, rv, h6, fun σ2 x4 o4 => ?_⟩
    have w4 : wipe σ2 own = wipe σ own := by
      have := onlyAt_wipe (vs := own) o4 x4.len sub
      rw [wipe_wipe] at this
      exact this
    refine ⟨w4, ?_⟩
    simp only [tYes, if_true]
    obtain ⟨u1, u2⟩ := x4.frame D _ t1 t2 fun z => d3 z.ptr
    have u3 : ¬ PtrA sta σ2 D := fun z => d3 (x4.owned D _ t1 z).1
    have x34 := x3.trans x4
    refine ⟨sta, B3, xs1, lk1, stb, x4.rel, h7, fun J1 H4 B4 s2 => ?_⟩
    obtain ⟨stx, xx, _⟩ := s2.ex
    obtain ⟨v1, v2⟩ := xx.frame D _ u1 u2 fun z => u3 z.ptr
    have s2' := s2.del u1 u2 u3
    have := loop1 (Φ := Φ) (Fi := fun H' => i + 1 ≤ xs.length ∧ ∃ st3 B3 acc accD, Ext X.K (wipeS st1 own) (wipe σ own) H1 B1 st3 (wipe σ own) H' B3 ∧ H' D = some (.lst acc) ∧ B3 D = none ∧ ¬ PtrA st3 (wipe σ own) D ∧ RpAll X.K B3 acc accD ∧ compL2 (turn2 Φ own ct own1 ct1 ci1 cc ce) (xs.drop (i + 1)) accD st3 = some (ys, ste))
      s2' del_same (((ra.mono gr.bsub).mono x4.bsub).mono xx.bsub) h8 sub1 fun He Be acc' xc sl e1 e2 e3 ra' => ?_
    · rw [del_upd v1] at this
      exact this
    · refine ⟨hl, _, Be, acc', zs, ?_, e1, e2, ?_, ra', h5⟩
      · have z1 := (x34.delR hD u2 u3).trans xc
        have z2 := wipe_ext (vs := own) z1 free0
        rw [w4] at z2
        have ee : wipeS (unlock lk1 stc) own = wipeS (unlock lk1 (backS stb stc own1)) own := by
          refine wipeS_ext (by rw [unlock_len, unlock_len, backS_len]) fun k hk => unlock_get (by rw [backS_len]) ?_
          rw [backS_get, if_neg fun z => hk (sub2 k z.1)]
        rw [ee]
        exact z2
      · have ee : wipeS (unlock lk1 stc) own = wipeS (unlock lk1 (backS stb stc own1)) own := by
          refine wipeS_ext (by rw [unlock_len, unlock_len, backS_len]) fun k hk => unlock_get (by rw [backS_len]) ?_
          rw [backS_get, if_neg fun z => hk (sub2 k z.1)]
        rw [ee]
        intro z
        rw [← w4] at z
        exact e3 (wipe_ptr z)
  · have e : i = xs.length := by omega
    subst e
    rw [List.drop_length] at h3
    simp only [compL2, Option.some.injEq, Prod.mk.injEq] at h3
    obtain ⟨rfl, rfl⟩ := h3
    have sl : st2.length = st1.length := by rw [x2.rel.len, wipe_length, ← r1.len]
    exact .inl ⟨w2 (Nat.le_refl _), k _ _ _ (s1.close xb) ⟨D, _, rfl, s1.fresh hD, d2, d1, .lst ra, new_ptr s1 hD d3 sl⟩⟩
section
variable {pos : Pos} {elt tg iter tg1 iter1 : Expr} {ifs1 : List Expr} {scope : Scope} {own : List (Str × Nat)} {vs1 : List Nat} {ct ct1 : Ct} {ci ci1 : Ci} {cc : Co} {ce : Ce}
theorem cE_comp2 (hc : X.calm = true) (hN : X.N.Nodup) (hi : PI X tg iter (tI X.K (evI Φ ci))) (ok : BlkOk X.N X.env.scope scope own)
    (hg : ∀ (s : Shared) (H : Hp) (C : Addr) (cl : List (Str × Addr)) (fp : List Addr), PG (X.blk s H scope (compEnvC scope cl C X.env) fp) tg (tTg X.K ct))
    (hi1 : ∀ (s : Shared) (H : Hp) (C : Addr) (cl : List (Str × Addr)) (fp : List Addr), PI (X.blk s H scope (compEnvC scope cl C X.env) fp) tg1 iter1 (tI X.K (evI Φ ci1)))
    (hg1 : ∀ (s : Shared) (H : Hp) (C : Addr) (cl : List (Str × Addr)) (fp : List Addr), PG (X.blk s H scope (compEnvC scope cl C X.env) fp) tg1 (tTg X.K ct1))
    (ht1 : ∀ (s : Shared) (H : Hp) (C : Addr) (cl : List (Str × Addr)) (fp : List Addr), PTs (X.blk s H scope (compEnvC scope cl C X.env) fp) ifs1 (tTC X.K Φ cc))
    (he : ∀ (s : Shared) (H : Hp) (C : Addr) (cl : List (Str × Addr)) (fp : List Addr), PE (X.blk s H scope (compEnvC scope cl C X.env) fp) elt (tE X.K Φ ce)) (sub : ∀ j ∈ ct.slots, j ∈ own.map (·.2) := by decide) (sub1 : ∀ j ∈ ct1.slots, j ∈ vs1 := by decide) (sub2 : ∀ j ∈ vs1, j ∈ own.map (·.2) := by decide)
    (hs : ∀ x, foldedSetIterable iter X.env x = pure x := by intro _; rfl) (hs1 : ∀ env x, foldedSetIterable iter1 env x = pure x := by intro _ _; rfl) :
    PE X (.ListComp elt [⟨tg, iter, [], 0⟩, ⟨tg1, iter1, ifs1, 0⟩] scope pos) (tE X.K Φ (.comp2 (own.map (·.2)) ct ci vs1 ct1 ci1 cc ce)) :=
  pe_mono (pe_lc2 hc hN hi ok sub2 hg (fun _ _ _ _ _ => pts_nil) hi1 hg1 ht1 (fun s H C cl fp => pe_v (he s H C cl fp)) hs hs1) fun σ H Q ⟨st, B, op, st', r, ev, k⟩ => lc2_rd r ev sub sub1 sub2 k
end
end
end PD

set_option Elab.async false
set_option linter.all false
set_option maxRecDepth 100000
set_option pp.maxSteps 200
/-! PD11: dicts made by a comprehension, keys of either kind. -/
namespace PD
open PySem L2 PySem.Spec PyProof.Rows
section
variable {X : Cx} {pins : List (Addr × Obj)} {σ : L2.St} {s : Shared}
/-- the new dict takes a pair -/
theorem dict_pair (hu : X.A.units + 65 < cLine) {H : Hp} {p : Addr} {y z : V} {u r : Value} {Q : Hp → Prop} {F : Value → Shared → Prop} (I : Inv X pins σ H s) (ry : RelV y u) (rz : RelV z r) (h : tDS X.K (.ref p) y z H Q) :
    wpAny (model X.prog X.w) X.A (dictSet p u r) (fun _ s' => ∃ H', Inv X pins σ H' s' ∧ Q H') F s := by
  obtain ⟨B, q, kvs, yd, zd, ho, e0, hs, bp, hp, hr, rk, rv, ok, hz, k⟩ := h
  cases e0
  have put : ∀ {H1 H2 : Hp}, Inv X pins σ H1 s → DPut H1 p y z H2 → Q H2 → wpAny (model X.prog X.w) X.A (dictSet p u r) (fun _ s' => ∃ H', Inv X pins σ H' s' ∧ Q H') F s := fun {H1 H2} I1 g hq => by
    rcases g with ⟨ks, kk, e, ey, l, eH⟩ | ⟨ks, kk, b, e, ey, eb, l, eH⟩
    · subst ey eH
      obtain ⟨_, hd, vs, rel, dd⟩ := dk_of I1.hok e
      have hl : (putK ks kk z).length ≤ sizeLine := Nat.le_trans (length_putK ks kk z) l
      have hv : vs.length ≤ sizeLine := by have := rel.length; omega
      refine wpAny_dictSet_pairs (hsz := hv) (kV_is ry) dd fun h' dd' hb => ⟨_, ?_, hq⟩
      obtain ⟨o, w1, w2, w3, w4⟩ := dd'
      exact d_write I1 (by rw [e]; exact True.intro) hb ⟨o, w3⟩ (dk_new hl hd (rel.put kk rz) ⟨o, w1, w2, w3, w4⟩)
    · subst ey eH
      cases (show u = Value.ref b from ry)
      obtain ⟨_, hd, xs, rel, dd⟩ := dt_of I1.hok e
      have hl : (putK ks kk z).length ≤ sizeLine := Nat.le_trans (length_putK ks kk z) l
      have hv : xs.length ≤ sizeLine := by have := Paired.length rel; omega
      refine wpAny_dictSet_heap (hsz := hv) (show X.A.units < cLine by omega) (key_of I1.hok eb) dd fun h' dd' hb => ⟨_, ?_, hq⟩
      obtain ⟨o, w1, w2, w3, w4, w5, w6, w7, w8⟩ := dd'
      refine d_write I1 (by rw [e]; exact True.intro) hb ⟨o, w3⟩ ⟨hl, hd, _, (rel.put kk eb rz).keeps fun c ys ec => ?_, o, w1, w2, w3, w4, w5, w6, w8⟩
      rw [upd_ne (ne_of ec e (fun z => nomatch z))]
      exact ec
  cases hy : kkind yd with
  | none => unfold kindOk at ok; rw [hy] at ok; cases h : dkind kvs <;> rw [h] at ok <;> cases ok
  | some b =>
    cases b with
    | false =>
      obtain ⟨kk, rfl⟩ := kkind_false hy
      obtain rfl := rp_key rk
      cases hr with
      | dK r => exact put I (DPut.k hp (by rw [r.length]; exact hz)) (k _ (.dK (r.put kk rv)))
      | dT r =>
        rcases r.kind with ⟨rfl, rfl⟩ | e
        · refine put (retypeK I hp) (DPut.k upd_same (by show 0 < sizeLine; decide)) ?_
          rw [upd_upd]
          exact k (.dK (putK [] kk z)) (.dK (RpK.put .nil kk rv))
        · unfold kindOk at ok; rw [hy, e] at ok; cases ok
    | true =>
      obtain ⟨kk, rfl⟩ := kkind_true hy
      obtain ⟨c, rfl, hc⟩ := rp_tupkey rk
      cases hr with
      | dT r => exact put I (DPut.t hp (hs _ _ hc) (by rw [r.length]; exact hz)) (k _ (.dT (r.put kk rv)))
      | dK r =>
        rcases r.kind with ⟨rfl, rfl⟩ | e
        · refine put (retypeT I hp) (DPut.t upd_same (by rw [upd_ne (ne_of_none hc bp)]; exact hs _ _ hc) (by show 0 < sizeLine; decide)) ?_
          rw [upd_upd]
          exact k (.dT (putK [] kk z)) (.dT (RpT.put .nil kk rv))
        · unfold kindOk at ok; rw [hy, e] at ok; cases ok
end
section
variable {X : Cx}
/-- {k: v for target in iter}: D the new dict -/
def tMp (wi : TI) (g : TG) (tk tv : TE) (vs : List Nat) : TE := fun σ H Q => wi σ H fun J H1 => ∀ D, H1 D = none → ∃ W : Nat → Nat → Hp → Prop, (∃ m, W 0 m (upd H1 D (.dK []))) ∧ ∀ i m H, W i m H →
  (J.stop i H ∧ Q (.ref D) H) ∨ (J.go i H ∧ ∃ Nx : Hp → Prop, (∀ H', Nx H' → ∃ m', m' < m ∧ W (i + 1) m' H') ∧ ∀ x H', J.yld i H x H' → g x (wipe σ vs) H' fun σ2 H2 => wipe σ2 vs = wipe σ vs ∧
    tk σ2 H2 fun y H3 => tv σ2 H3 fun z H4 => tDS X.K (.ref D) y z H4 Nx)
theorem pe_mp {kx vx tg iter : Expr} {scope : Scope} {own : List (Str × Nat)} {pos : Pos} {wi : TI} {g : TG} {tk tv : TE} (hc : X.calm = true) (hN : X.N.Nodup) (hu : X.A.units + 65 < cLine) (hi : PI X tg iter wi) (ok : BlkOk X.N X.env.scope scope own)
    (hg : ∀ (s : Shared) (H : Hp) (C : Addr) (cl : List (Str × Addr)) (fp : List Addr), PG (X.blk s H scope (compEnvC scope cl C X.env) fp) tg g)
    (hk : ∀ (s : Shared) (H : Hp) (C : Addr) (cl : List (Str × Addr)) (fp : List Addr), PE (X.blk s H scope (compEnvC scope cl C X.env) fp) kx tk)
    (he : ∀ (s : Shared) (H : Hp) (C : Addr) (cl : List (Str × Addr)) (fp : List Addr), PE (X.blk s H scope (compEnvC scope cl C X.env) fp) vx tv) (hs : ∀ x, foldedSetIterable iter X.env x = pure x) :
    PE X (.DictComp kx vx [⟨tg, iter, [], 0⟩] scope pos) (tMp (X := X) wi g tk tv (own.map (·.2))) := by
  refine ⟨fun pins s σ H Q I h => ?_⟩
  rw [arm_eval_DictComp]
  have closed : ∀ y ∈ scope.names, y.2 = .free → ∃ c, X.env.cells.lookup y.1 = some c := fun y hy e =>
    (ok.free y hy e).elim (fun k => I.ok.has _ (.inl k)) (fun k => I.ok.has _ (.inr k))
  refine wpAny_comprehension_free rfl hs (closure_ok closed) ok.kind (fun y hy e => by rw [ok.uniq y hy, e]) (thn (hi.run pins s σ H _ I h) fun xv s1 hx => thn hx fun itv s2 h2 => ?_)
  obtain ⟨it, fp, tn, J, H2, e, I2, T, st2, f2, q⟩ := h2
  subst e
  refine wpAny_newObj_type (newEnv_comp ?_)
  have lay : Inv X pins σ (upd H2 s2.heap.objs.size (.dK [])) { s2 with heap := s2.heap.push { cls := .type "dict", data := .dict #[] } } :=
    I2.laid (t' := s2.toks) (fun b o e => Heap.get?_push_of_some _ e) (Nat.le_refl _) (dk_empty s2.heap I2.big)
  have older : ∀ b ∈ fp, b < s2.heap.objs.size := fun b hb => (T.obj _ _ st2 b hb).elim fun o e => Heap.lt_size e.1
  have st3 : tn 0 (s2.heap.push { cls := .type "dict", data := .dict #[] }) := T.keep _ _ _ st2 fun b _ o e => Heap.get?_push_of_some _ e
  have nw : H2 s2.heap.objs.size = none := I2.hok.fresh (Nat.le_refl _)
  have f3 : ∀ b ∈ fp, FpOk X pins (upd H2 s2.heap.objs.size (.dK [])) b ∧ b < (s2.heap.push { cls := .type "dict", data := .dict #[] }).objs.size := fun b hb => by
    refine ⟨⟨?_, (f2 b hb).2⟩, by rw [Heap.size_push]; exact Nat.lt_succ_of_lt (older b hb)⟩
    rw [upd_ne (Nat.ne_of_lt (older b hb))]
    exact (f2 b hb).1
  obtain ⟨W, ⟨m0, w0⟩, turn⟩ := q _ nw
  generalize s2.heap.objs.size = D at *
  generalize upd H2 D (.dK []) = H3 at *
  generalize hs3 : ({ s2 with heap := s2.heap.push { cls := .type "dict", data := .dict #[] } } : Shared) = s3 at *
  have e3 : s2.heap.push { cls := .type "dict", data := .dict #[] } = s3.heap := by rw [← hs3]
  rw [e3] at f3 st3
  have I4 := block_start lay ok hN f3
  have pg := hg s3 H3 s3.heap.objs.size (cellsFrom (s3.heap.objs.size + 1) scope.names (cloFrom X.env.cells scope.names [])) fp
  have pk := hk s3 H3 s3.heap.objs.size (cellsFrom (s3.heap.objs.size + 1) scope.names (cloFrom X.env.cells scope.names [])) fp
  have pv := he s3 H3 s3.heap.objs.size (cellsFrom (s3.heap.objs.size + 1) scope.names (cloFrom X.env.cells scope.names [])) fp
  show codeAny _ _ (.compStart (.DictComp kx vx [⟨tg, iter, [], 0⟩] scope pos) 0 (.ref it) (.ref D) (compEnvC scope (cellsFrom (s3.heap.objs.size + 1) scope.names (cloFrom X.env.cells scope.names [])) s3.heap.objs.size X.env)) (compPost (model X.prog X.w) X.A X.xe _ _ (.ref D) s3.heap.objs.size) _
  generalize hce : compEnvC scope (cellsFrom (s3.heap.objs.size + 1) scope.names (cloFrom X.env.cells scope.names [])) s3.heap.objs.size X.env = ce at I4 pg pk pv ⊢
  have cL : ce.locals = s3.heap.objs.size := by rw [← hce]; rfl
  generalize hs4 : ({ s3 with heap := pushCells (s3.heap.push { cls := .type "dict", data := .dict #[] }) scope.names } : Shared) = s4
  have I4 : Inv (X.blk s3 H3 scope ce fp) [] (wipe σ (own.map (·.2))) H3 s4 := by
    rw [← hs4]; exact I4
  have st4 : tn 0 s4.heap := T.keep _ _ _ st3 fun b _ o e => by rw [← hs4]; exact pushCells_keeps _ _ _ _ (Heap.get?_push_of_some _ e)
  have stat : ∀ {σ' : L2.St} {H' : Hp} {s' : Shared}, Inv (X.blk s3 H3 scope ce fp) [] σ' H' s' → (∀ b ∈ fp, H' b = none) → ∀ b ∈ fp, FpOk (X.blk s3 H3 scope ce fp) [] H' b := fun {σ' H' s'} I' hn b hb =>
    ⟨hn b hb, (I'.ok.exf b hb).1, I'.ok.exfs b hb, .inl hb, fun x c e => (I'.ok.exf b hb).2 x c e, fun p hp => absurd (show p ∈ ([] : List (Addr × Obj)) ++ [] from hp) (by simp)⟩
  have loop : codeAny (model X.prog X.w) X.A (.compLoop (.DictComp kx vx [⟨tg, iter, [], 0⟩] scope pos) 0 (.ref it) (.ref D) ce) (compPost (model X.prog X.w) X.A X.xe none (fun u s' => ∃ v H', Inv X pins σ H' s' ∧ RelV v u ∧ Q v H') (.ref D) s3.heap.objs.size) s4 := by
    refine compLoop_anyD (fun n s' => ∃ i H', Inv (X.blk s3 H3 scope ce fp) [] (wipe σ (own.map (·.2))) H' s' ∧ tn i s'.heap ∧ (∀ b ∈ fp, H' b = none) ∧ W i n H') ?_ m0 ⟨0, H3, I4, st4, fun b hb => (f3 b hb).1.1, w0⟩
    rintro n s5 ⟨i, H5, I5, st5, n5, w5⟩
    rcases turn i n H5 w5 with ⟨stop, qq⟩ | ⟨go, Nx, hNx, step⟩
    · refine thnF (T.done (X.blk s3 H3 scope ce fp) rfl rfl rfl hc i [] s5 _ H5 (fun _ _ => False) I5 (stat I5 n5) st5 stop) fun r s6 ⟨hr, I6⟩ => ?_
      subst hr
      have I7 : Inv X pins σ H5 s6 := lay.call' (ch := fp) I6.os I6.base I6.hok I6.bare fun b hb => ⟨(f3 b hb).1.2.2.2.1, (f3 b hb).1.2.1, (f3 b hb).1.2.2.2.2.1, (f3 b hb).1.2.2.2.2.2⟩
      have nC : H5 s3.heap.objs.size = none := by rw [← cL]; exact I6.free
      obtain ⟨m, hn, _⟩ := I6.loc
      refine ⟨m, by rw [← cL]; exact hn, fun h'' sb => ?_⟩
      obtain ⟨g0, g1, g2, g3, g4, g5⟩ := lay.fpOk (Nat.le_refl _) nC
      exact ⟨.ref D, H5, I7.turned (t' := s6.toks) (fun b o hb e => (sb.2 b hb).trans e) g0 g1 g3 g4 g5, rfl, qq⟩
    · refine thnF (T.item (X.blk s3 H3 scope ce fp) rfl rfl rfl hc i [] s5 _ H5 (fun _ _ => False) I5 (stat I5 n5) st5 go) fun r s6 ⟨u, hr, h6⟩ => ?_
      subst hr
      refine thnF h6 fun _ s7 ⟨x, H7, I7, r7, y7, st7, n7⟩ => ?_
      refine thnF (pg.run _ s7 _ H7 x u _ (I7.pinned (stat I7 n7) (T.obj _ _ st7)) r7 (step x H7 y7)) fun _ s8 ⟨σ8, H8, I8, hw8, q8⟩ => ?_
      refine wpAny_tests_nil ?_
      rw [if_pos rfl]
      refine thnF (pk.run _ s8 σ8 H8 _ I8 q8) fun z s10 ⟨yk, H10, I10, r10, q10⟩ => ?_
      refine thnF (pv.run _ s10 σ8 H10 _ I10 q10) fun z2 s11 ⟨yv, H11, I11, r11, q11⟩ => ?_
      refine wpAny_mono (dict_pair (X := X.blk s3 H3 scope ce fp) (F := fun _ _ => False) hu I11 r10 r11 q11) (fun _ s12 ⟨H12, I12, nx⟩ => ?_) fun _ _ z => False.elim z
      obtain ⟨m', hm, w'⟩ := hNx H12 nx
      have pin' : ∀ b ∈ fp, ∀ o, s7.heap.get? b = some o → s12.heap.get? b = some o ∧ H12 b = none := fun b hb o e =>
        let z := I12.pin (b, o) (List.mem_append_right _ (List.mem_append_right _ (mem_pinsAt hb e)))
        ⟨z.1, z.2.1⟩
      refine ⟨m', hm, i + 1, H12, (I12.unpinned (pins := [])).weak (by rw [← hw8, wipe_length]) (fun j v e => ?_), T.keep _ _ _ st7 fun b hb o e => (pin' b hb o e).1, fun b hb => ?_, w'⟩
      · rw [← hw8] at e
        exact (wipe_some e).1
      · obtain ⟨o, e, _⟩ := T.obj _ _ st7 b hb
        exact (pin' b hb o e).2
  exact codeAny_compStart_dict loop (T.self X.A 0 _ _ _ st4 loop)
end
section
variable {X : Cx} {Φ : Tab}
/-- one turn -/
def turnD (Φ : Tab) (own : List Nat) (ct : Ct) (ck ce : Ce) (x : D) (st1 : Stt) : Option ((D × D) × Stt) :=
  (asg ct x st1).bind fun st2 => (nmk (evE Φ ck st2)).bind fun y => (nmk (evE Φ ce y.2)).map fun z => ((y.1, z.1), wipeS z.2 own)
theorem mp_rd {own : List Nat} {ct : Ct} {ci : Ci} {ck ce : Ce} {σ : L2.St} {H : Hp} {Q : VK} {st st' : Stt} {B : Hp} {op : Op} (r : StR X.K st σ H B) (ev : evE Φ (.dcomp own ct ci ck ce) st = some (op, st')) (sub : ∀ j ∈ ct.slots, j ∈ own)
    (k : ∀ v H' B', Ext X.K st σ H B st' σ H' B' → OpV X.K v H st' σ H' B' op → Q v H') : tMp (X := X) (tI X.K (evI Φ ci)) (tTg X.K ct) (tN X.K Φ ck) (tN X.K Φ ce) own σ H Q := by
  simp only [evE] at ev
  obtain ⟨xs, q, h1, ev⟩ := bind2 ev
  obtain ⟨lk, st1⟩ := q
  obtain ⟨ys, ste, h2, ev⟩ := map2 ev
  simp only [Prod.mk.injEq] at ev
  obtain ⟨rfl, rfl⟩ := ev
  dsimp only at h2
  change dcompL (turnD Φ own ct ck ce) xs [] (wipeS st1 own) = some (ys, ste) at h2
  refine ⟨st, B, xs, lk, st1, r, h1, fun J H1 B1 s1 D hD => ?_⟩
  have r1 := s1.rel
  have bD : B1 D = none := r1.sub.free hD
  have g0 : Grow H1 B1 (upd H1 D (.dK [])) B1 := Grow.new' r1.sub hD
  have nD0 : ¬ PtrA (wipeS st1 own) (wipe σ own) D := fun z => by
    obtain ⟨_, o, e⟩ := r1.ptr_tracked (wipe_ptr z)
    rw [hD] at e; cases e
  have free0 : ∀ k ∈ own, ∀ sv, (wipeS st1 own)[k]? = some (some sv) → sv.fix = false := fun k hk sv z => wiped_free hk sv z
  refine ⟨fun i m H2 => m = xs.length - i ∧ i ≤ xs.length ∧ ∃ st2 B2 ho kvs, Ext X.K (wipeS st1 own) (wipe σ own) H1 B1 st2 (wipe σ own) H2 B2 ∧ H2 D = some ho ∧ B2 D = none ∧ ¬ PtrA st2 (wipe σ own) D ∧ HoR X.K B2 ho (.dict kvs) ∧ dcompL (turnD Φ own ct ck ce) (xs.drop i) kvs st2 = some (ys, ste),
    ⟨xs.length, rfl, Nat.zero_le _, wipeS st1 own, B1, .dK [], [], g0.ext (wipe_rel r1 own), upd_same, bD, nD0, .dK .nil, h2⟩, ?_⟩
  rintro i m H2 ⟨rfl, hi, st2, B2, ho, kvs, x2, d1, d2, d3, ra, h3⟩
  have xb := back_ext r1 x2
  obtain ⟨w1, w2⟩ := s1.walk xb i
  by_cases hl : i < xs.length
  · obtain ⟨g1, g2⟩ := w1 xs[i] (List.getElem?_eq_getElem hl)
    refine .inr ⟨g1, fun H' => i + 1 ≤ xs.length ∧ ∃ st3 B3 ho kvs, Ext X.K (wipeS st1 own) (wipe σ own) H1 B1 st3 (wipe σ own) H' B3 ∧ H' D = some ho ∧ B3 D = none ∧ ¬ PtrA st3 (wipe σ own) D ∧ HoR X.K B3 ho (.dict kvs) ∧ dcompL (turnD Φ own ct ck ce) (xs.drop (i + 1)) kvs st3 = some (ys, ste),
      fun H' ⟨a1, a2⟩ => ⟨xs.length - (i + 1), by omega, rfl, a1, a2⟩, fun v H3 y => ?_⟩
    obtain ⟨B3, gr, rv⟩ := g2 v H3 y
    rw [drop_cons hl] at h3
    simp only [dcompL] at h3
    obtain ⟨kv, st3, h4, h5⟩ := bind2 h3
    unfold turnD at h4
    obtain ⟨sta, h6, h4⟩ := bindSome h4
    obtain ⟨yk, stb, h7, h4⟩ := bind2 h4
    obtain ⟨yv, stc, h8, h4⟩ := map2 h4
    simp only [Prod.mk.injEq] at h4
    obtain ⟨rfl, rfl⟩ := h4
    simp only at h5
    split at h5
    · rename_i hh
      rw [Bool.and_eq_true, decide_eq_true_eq] at hh
      have x3 := x2.trans (gr.ext x2.rel)
      have t1 : H3 D = some ho := (gr.keep D _ d1).1
      have t2 : B3 D = none := (gr.keep D _ d1).2 d2
      refine ⟨st2, B3, xs[i], sta, x3.rel, rv, h6, fun σ2 x4 o4 => ?_⟩
      have w4 : wipe σ2 own = wipe σ own := by
        have := onlyAt_wipe (vs := own) o4 x4.len sub
        rw [wipe_wipe] at this
        exact this
      refine ⟨w4, sta, B3, yk, stb, x4.rel, h7, fun y H4 B4 x5 ry => ⟨stb, B4, yv, stc, x5.rel, h8, fun z H5 B5 x6 rz => ?_⟩⟩
      have xx := (x4.trans x5).trans x6
      obtain ⟨z1, z2⟩ := xx.frame D _ t1 t2 fun q => d3 q.ptr
      have z3 : ¬ PtrA stc σ2 D := fun q => d3 (xx.owned D _ t1 q).1
      refine ⟨B5, D, kvs, yk, yv, ho, rfl, x6.rel.sub, z2, z1, (ra.mono gr.bsub).mono xx.bsub, ry.mono x6.bsub, rz, hh.1, hh.2, fun ho' hr' => ⟨hl, _, B5, ho', _, ?_, upd_same, z2, fun q => z3 (wipe_ptr (vs := own) (by rw [w4]; exact q)), hr', h5⟩⟩
      have w := wipe_ext (vs := own) (poke (o' := ho') (x3.trans xx) hD z2 z1 z3) free0
      rw [w4] at w
      exact w
    · cases h5
  · have e : i = xs.length := by omega
    subst e
    rw [List.drop_length] at h3
    simp only [dcompL, Option.some.injEq, Prod.mk.injEq] at h3
    obtain ⟨rfl, rfl⟩ := h3
    have sl : st2.length = st1.length := by rw [x2.rel.len, wipe_length, ← r1.len]
    exact .inl ⟨w2 (Nat.le_refl _), k _ _ _ (s1.close xb) ⟨D, _, rfl, s1.fresh hD, d2, d1, ra, new_ptr s1 hD d3 sl⟩⟩
section
variable {pos : Pos} {kx vx tg iter : Expr} {scope : Scope} {own : List (Str × Nat)} {ct : Ct} {ci : Ci} {ck ce : Ce}
theorem cE_dcomp (hc : X.calm = true) (hN : X.N.Nodup) (hu : X.A.units + 65 < cLine) (hi : PI X tg iter (tI X.K (evI Φ ci))) (ok : BlkOk X.N X.env.scope scope own)
    (hg : ∀ (s : Shared) (H : Hp) (C : Addr) (cl : List (Str × Addr)) (fp : List Addr), PG (X.blk s H scope (compEnvC scope cl C X.env) fp) tg (tTg X.K ct))
    (hk : ∀ (s : Shared) (H : Hp) (C : Addr) (cl : List (Str × Addr)) (fp : List Addr), PE (X.blk s H scope (compEnvC scope cl C X.env) fp) kx (tE X.K Φ ck))
    (he : ∀ (s : Shared) (H : Hp) (C : Addr) (cl : List (Str × Addr)) (fp : List Addr), PE (X.blk s H scope (compEnvC scope cl C X.env) fp) vx (tE X.K Φ ce)) (sub : ∀ j ∈ ct.slots, j ∈ own.map (·.2) := by decide) (hs : ∀ x, foldedSetIterable iter X.env x = pure x := by intro _; rfl) :
    PE X (.DictComp kx vx [⟨tg, iter, [], 0⟩] scope pos) (tE X.K Φ (.dcomp (own.map (·.2)) ct ci ck ce)) :=
  pe_mono (pe_mp hc hN hu hi ok hg (fun s H C cl fp => pe_v (hk s H C cl fp)) (fun s H C cl fp => pe_v (he s H C cl fp)) hs) fun σ H Q ⟨st, B, op, st', r, ev, k⟩ => mp_rd r ev sub k
end
end
end PD

set_option Elab.async false
set_option linter.all false
set_option maxRecDepth 100000
set_option pp.maxSteps 200
/-! PD12: defs. -/
namespace PD
open PySem L2 PySem.Spec PyProof.Rows
section
variable {K : PySem.W.Frag} {B H : Hp}
theorem start_vals {vs : List V} {ds : List PyData} (r : RpAll K B vs ds) (hs : Same B H) (m : Nat) : StR K (ds.map (fun d => some (SV.val d)) ++ List.replicate m none) (vs.map some ++ List.replicate m none) H B := by
  have base : ∀ (i : Nat) (sv : SV), (ds.map (fun d => some (SV.val d)) ++ List.replicate m none)[i]? = some (some sv) → ∃ d v, sv = .val d ∧ ds[i]? = some d ∧ vs[i]? = some v ∧ Rp K B v d := fun i sv h => by
    by_cases hi : i < ds.length
    · rw [List.getElem?_append_left (by simpa using hi), List.getElem?_map, List.getElem?_eq_getElem hi] at h
      simp only [Option.map_some, Option.some.injEq] at h
      obtain ⟨v, hv, rv⟩ := r.get (List.getElem?_eq_getElem hi)
      exact ⟨ds[i], v, h.symm, List.getElem?_eq_getElem hi, hv, rv⟩
    · rw [List.getElem?_append_right (by simpa using Nat.le_of_not_lt hi), List.getElem?_replicate] at h
      split at h <;> cases h
  refine ⟨hs, by simp [r.length], fun i sv h => ?_, fun i j sv sw p _ h1 h2 _ _ _ _ => ?_⟩
  · obtain ⟨d, v, rfl, _, hv, rv⟩ := base i sv h
    refine ⟨v, ?_, rv⟩
    have hi : i < vs.length := (List.getElem?_eq_some_iff.mp hv).1
    rw [List.getElem?_append_left (by simpa using hi), List.getElem?_map, hv]
    rfl
  · obtain ⟨d, v, rfl, _⟩ := base i sv h1
    cases h2
/-- the first one written -/
theorem start_par {vs : List V} {ds : List PyData} {d0 : PyData} {p : Addr} {o : HO} (r : RpAll K B vs ds) (hs : Same B H) (bp : B p = none) (hp : H p = some o) (ho : HoR K B o d0) (m : Nat) :
    StR K (some (.par d0) :: ds.map (fun d => some (SV.val d)) ++ List.replicate m none) (some (.ref p) :: vs.map some ++ List.replicate m none) H B := by
  have b := start_vals r hs m
  have nop : ∀ (i : Nat) (sv : SV), (ds.map (fun d => some (SV.val d)) ++ List.replicate m none)[i]? = some (some sv) → sv.ptr = false := fun i sv h => by
    by_cases hi : i < ds.length
    · rw [List.getElem?_append_left (by simpa using hi), List.getElem?_map, List.getElem?_eq_getElem hi] at h
      simp only [Option.map_some, Option.some.injEq] at h
      rw [← h]; rfl
    · rw [List.getElem?_append_right (by simpa using Nat.le_of_not_lt hi), List.getElem?_replicate] at h
      split at h <;> cases h
  refine ⟨hs, by simp [r.length], fun i sv h => ?_, fun i j sv sw q hij h1 h2 h3 h4 _ _ => ?_⟩
  · cases i with
    | zero =>
      simp only [List.cons_append, List.getElem?_cons_zero, Option.some.injEq] at h
      subst h
      exact ⟨_, rfl, p, o, rfl, bp, hp, ho⟩
    | succ i => exact b.at_ i sv (by simpa using h)
  · cases i with
    | zero =>
      cases j with
      | zero => exact hij rfl
      | succ j => have := nop j sw (by simpa using h3); rw [this] at h4; cases h4
    | succ i => have := nop i sv (by simpa using h1); rw [this] at h2; cases h2
theorem Ext.grow {st st' : Stt} {σ σ' : L2.St} {H' B' : Hp} (x : Ext K st σ H B st' σ' H' B') (h : ∀ a, ¬ OwnA st σ a) (hs : Same B H) : Grow H B H' B' := by
  refine ⟨x.bsub, x.rel.sub, fun a o e => ?_⟩
  cases hb : B a with
  | none => exact ⟨(x.frame a o e hb (h a)).1, fun _ => (x.frame a o e hb (h a)).2⟩
  | some u =>
    have := hs a u hb
    rw [e] at this
    cases this
    exact ⟨x.rel.sub _ _ (x.bsub _ _ hb), fun z => nomatch z⟩
end
section
variable {P : Program} {w : World} {K : PySem.W.Frag} {mg : Str → Option Value} {base : Heap} {x qual : Str} {params : Arguments} {body : List Stmt} {scope : Scope} {f : Addr} {fd : FuncData} {N ps : List Str} {k : Nat} {Φ Ψ : Tab} {W : Nat} {fn : Fn}
theorem fn_okP (F : FunD K x qual params body scope [] [] f fd) (S : FnScope N ps scope) (hn : fn.n = N.length) (hio : fn.io = false) (hΨ : ∀ ds, Ψ x ds = runF Φ W fn ds)
    (hb : ∀ (cdv : Value) (A : Around) (outer : List Env) (s : Shared) (H : Hp) (E : XK), Room k (A.deeper (envOfC qual scope s.heap.objs.size f cdv)) → PSs (cxOf CX0 P w K mg base N qual scope f cdv A outer s H E).nox body (tCs K Φ W fn.code)) :
    FnOk P w K mg base CX0 (k + 1) f fd ps (spP K Ψ x ps.length) := by
  refine F.ok S (fun vs H Q E h => h.1) (fun cdv A outer s H vs Q E hr h => ⟨_, PSs.nox (hb cdv A outer s H E hr), ?_⟩)
  obtain ⟨hl, B, ds, r, hs, ra, ev, kk⟩ := h
  rw [hΨ] at ev
  unfold runF at ev
  obtain ⟨fl, st', e1, ev⟩ := bind2 ev
  have e0 : start0 fn.io fn.n ds = ds.map (fun d => some (SV.val d)) ++ List.replicate (N.length - vs.length) none := by
    rw [hio, hn, ra.length]; unfold start0; cases ds <;> rfl
  refine ⟨_, B, fl, st', by rw [e0]; exact start_vals ra hs _, e1, fun σ' H' B' x1 => ?_⟩
  have g : Grow H B H' B' := x1.grow (by
    rintro a ⟨i, sv, h1, h2, _⟩
    rw [e0] at h1
    by_cases hi : i < ds.length
    · rw [List.getElem?_append_left (by simpa using hi), List.getElem?_map, List.getElem?_eq_getElem hi] at h1
      simp only [Option.map_some, Option.some.injEq] at h1
      rw [← h1] at h2; cases h2
    · rw [List.getElem?_append_right (by simpa using Nat.le_of_not_lt hi), List.getElem?_replicate] at h1
      split at h1 <;> cases h1) hs
  cases fl with
  | nx =>
    simp only [hio, Option.map_some, Option.some.injEq] at ev
    subst ev
    exact kk _ _ _ g .non
  | rt d =>
    simp only [hio, Option.map_some, Option.some.injEq] at ev
    subst ev
    exact fun v rv => kk _ _ _ g rv
  | bk => cases ev
  | ct => cases ev
theorem fn_okM (F : FunD K x qual params body scope [] [] f fd) (S : FnScope N ps scope) (hn : fn.n = N.length) (hio : fn.io = true) (hΨ : ∀ ds, Ψ x ds = runF Φ W fn ds)
    (hb : ∀ (cdv : Value) (A : Around) (outer : List Env) (s : Shared) (H : Hp) (E : XK), Room k (A.deeper (envOfC qual scope s.heap.objs.size f cdv)) → PSs (cxOf CX0 P w K mg base N qual scope f cdv A outer s H E).nox body (tCs K Φ W fn.code)) :
    FnOk P w K mg base CX0 (k + 1) f fd ps (spM K Ψ x ps.length) := by
  refine F.ok S (fun vs H Q E h => h.1) (fun cdv A outer s H vs Q E hr h => ⟨_, PSs.nox (hb cdv A outer s H E hr), ?_⟩)
  obtain ⟨hl, B, p, o, d0, ws, ds, r, rfl, hs, bp, hp, ho, ra, ev, kk⟩ := h
  rw [hΨ] at ev
  unfold runF at ev
  obtain ⟨fl, st', e1, ev⟩ := bind2 ev
  have e0 : start0 fn.io fn.n (d0 :: ds) = some (SV.par d0) :: ds.map (fun d => some (SV.val d)) ++ List.replicate (N.length - (V.ref p :: ws).length) none := by
    rw [hio, hn, List.length_cons, ra.length]; rfl
  have rel : StR K (start0 fn.io fn.n (d0 :: ds)) (start N (V.ref p :: ws)) H B := by rw [e0]; exact start_par ra hs bp hp ho _
  refine ⟨_, B, fl, st', rel, e1, fun σ' H' B' x1 => ?_⟩
  have own : ∀ a, OwnA (start0 fn.io fn.n (d0 :: ds)) (start N (V.ref p :: ws)) a → a = p := by
    rintro a ⟨i, sv, h1, h2, h3⟩
    rw [e0] at h1
    cases i with
    | zero =>
      have h3 : some (some (V.ref p)) = some (some (V.ref a)) := h3
      cases h3; rfl
    | succ i =>
      rw [List.cons_append, List.getElem?_cons_succ] at h1
      by_cases hi : i < ds.length
      · rw [List.getElem?_append_left (by simpa using hi), List.getElem?_map, List.getElem?_eq_getElem hi] at h1
        simp only [Option.map_some, Option.some.injEq] at h1
        rw [← h1] at h2; cases h2
      · rw [List.getElem?_append_right (by simpa using Nat.le_of_not_lt hi), List.getElem?_replicate] at h1
        split at h1 <;> cases h1
  have keep : ∀ a u, a ≠ p → H a = some u → H' a = some u ∧ (B a = none → B' a = none) := fun a u n e => by
    cases hb : B a with
    | none =>
      have := x1.frame a u e hb fun z => n (own a z)
      exact ⟨this.1, fun _ => this.2⟩
    | some u' =>
      have := hs a u' hb
      rw [e] at this
      cases this
      exact ⟨x1.rel.sub _ _ (x1.bsub _ _ hb), fun z => nomatch z⟩
  obtain ⟨f1, sv', f2, f3⟩ := x1.fix 0 (.par d0) (by rw [e0]; rfl) rfl
  obtain ⟨v0, f4, f5⟩ := x1.rel.at_ 0 sv' f2
  have f6 : v0 = .ref p := by
    rw [f1] at f4
    have f4 : some (some (V.ref p)) = some (some v0) := f4
    cases f4; rfl
  cases sv' with
  | par d1 =>
    obtain ⟨p', o', z1, z2, z3, z4⟩ := f5
    rw [f6] at z1
    cases z1
    have hc : (cont st' 0).getD .none = d1 := by unfold cont; rw [f2]; rfl
    cases fl with
    | nx =>
      simp only [hio, hc, Option.map_some, Option.some.injEq] at ev
      subst ev
      exact kk _ _ _ o' x1.bsub x1.rel.sub keep z3 z2 z4 .non
    | rt d =>
      simp only [hio, hc, Option.map_some, Option.some.injEq] at ev
      subst ev
      exact fun v rv => kk _ _ _ o' x1.bsub x1.rel.sub keep z3 z2 z4 rv
    | bk => cases ev
    | ct => cases ev
  | _ => exact f3.elim
/-- a def that gives a new object: its body is one return -/
theorem fn_okF {e : Expr} {pos : Pos} {ce : Ce} (F : FunD K x qual params [.Return (some e) pos] scope [] [] f fd) (S : FnScope N ps scope) (hn : fn.n = N.length) (hio : fn.io = false) (hc : fn.code = .cons (.ret ce) .nil) (hfr : ∀ Φ st op st', evE Φ ce st = some (op, st') → ∃ y, op = .fr y) (hΨ : ∀ ds, Ψ x ds = runF Φ W fn ds)
    (hb : ∀ (cdv : Value) (A : Around) (outer : List Env) (s : Shared) (H : Hp) (E : XK), Room k (A.deeper (envOfC qual scope s.heap.objs.size f cdv)) → PE (cxOf CX0 P w K mg base N qual scope f cdv A outer s H E).nox e (tE K Φ ce)) :
    FnOk P w K mg base CX0 (k + 1) f fd ps (spF K Ψ x ps.length) := by
  refine F.ok S (fun vs H Q E h => h.1) (fun cdv A outer s H vs Q E hr h => ⟨_, PSs.nox (pss_one (ps_ret (hb cdv A outer s H E hr))), ?_⟩)
  obtain ⟨hl, B, ds, r, hs, ra, ev, kk⟩ := h
  rw [hΨ] at ev
  unfold runF at ev
  rw [hc] at ev
  obtain ⟨fl, st', e1, ev⟩ := bind2 ev
  simp only [evSs, evS] at e1
  obtain ⟨f1, st1, e2, e3⟩ := bind2 e1
  obtain ⟨d, st2, e4, e5⟩ := map2 e2
  simp only [Prod.mk.injEq] at e5
  obtain ⟨rfl, rfl⟩ := e5
  simp only [Option.some.injEq, Prod.mk.injEq] at e3
  obtain ⟨rfl, rfl⟩ := e3
  obtain ⟨op, st3, e6, e7⟩ := bind2 e4
  obtain ⟨y, rfl⟩ := hfr _ _ _ _ e6
  simp only [fz, Option.some.injEq, Prod.mk.injEq] at e7
  obtain ⟨rfl, rfl⟩ := e7
  simp only [hio, Option.map_some, Option.some.injEq] at ev
  subst ev
  have e0 : start0 fn.io fn.n ds = ds.map (fun d => some (SV.val d)) ++ List.replicate (N.length - vs.length) none := by
    rw [hio, hn, ra.length]; unfold start0; cases ds <;> rfl
  refine ⟨_, B, .fr y, st3, by rw [e0]; exact start_vals ra hs _, e6, fun v H' B' x1 o1 => ?_⟩
  have g : Grow H B H' B' := x1.grow (by
    rintro a ⟨i, sv, h1, h2, _⟩
    rw [e0] at h1
    by_cases hi : i < ds.length
    · rw [List.getElem?_append_left (by simpa using hi), List.getElem?_map, List.getElem?_eq_getElem hi] at h1
      simp only [Option.map_some, Option.some.injEq] at h1
      rw [← h1] at h2; cases h2
    · rw [List.getElem?_append_right (by simpa using Nat.le_of_not_lt hi), List.getElem?_replicate] at h1
      split at h1 <;> cases h1) hs
  obtain ⟨p, o, rfl, q1, q2, q3, q4, _⟩ := o1
  exact kk _ _ _ (.fr g q1 q2 q3 q4)
theorem fresh_lst (es : Ces) : ∀ Φ st op st', evE Φ (.lst es) st = some (op, st') → ∃ y, op = .fr y := fun Φ st op st' h => by
  simp only [evE] at h
  obtain ⟨r, _, h⟩ := bindSome h
  split at h
  · cases h; exact ⟨_, rfl⟩
  · cases h
theorem ok0F {n : Nat} {ps : List Str} : FnOk P w K mg base CX0 0 f fd ps (spF K (fun _ _ => none) x n) :=
  ⟨fun vs H Q E h => (by obtain ⟨_, B, ds, r, _, _, ev, _⟩ := h; cases ev), fun A outer s H args us vs Q E _ _ _ _ h => (by obtain ⟨_, B, ds, r, _, _, ev, _⟩ := h; cases ev)⟩
/-- no call answers at the ground -/
theorem ok0P {n : Nat} {ps : List Str} : FnOk P w K mg base CX0 0 f fd ps (spP K (fun _ _ => none) x n) :=
  ⟨fun vs H Q E h => (by obtain ⟨_, B, ds, r, _, _, ev, _⟩ := h; cases ev), fun A outer s H args us vs Q E _ _ _ _ h => (by obtain ⟨_, B, ds, r, _, _, ev, _⟩ := h; cases ev)⟩
theorem ok0M {n : Nat} {ps : List Str} : FnOk P w K mg base CX0 0 f fd ps (spM K (fun _ _ => none) x n) :=
  ⟨fun vs H Q E h => (by obtain ⟨_, B, p, o, d0, ws, ds, r, _, _, _, _, _, _, ev, _⟩ := h; cases ev), fun A outer s H args us vs Q E _ _ _ _ h => (by obtain ⟨_, B, p, o, d0, ws, ds, r, _, _, _, _, _, _, ev, _⟩ := h; cases ev)⟩
end
/-! the table of defs, by levels -/
def tabOf (W : Nat) (prog : Str → Option Fn) : Nat → Tab
  | 0 => fun _ _ => none
  | n + 1 => fun x ds => (prog x).bind fun fn => runF (tabOf W prog n) W fn ds
theorem tabOf_succ {W : Nat} {prog : Str → Option Fn} {n : Nat} {x : Str} {fn : Fn} (h : prog x = some fn) (ds : List PyData) : tabOf W prog (n + 1) x ds = runF (tabOf W prog n) W fn ds := by
  show (prog x).bind _ = _
  rw [h]; rfl
end PD

set_option Elab.async false
set_option linter.all false
set_option maxRecDepth 100000
set_option pp.maxSteps 200
/-! PD13: what a printed walk takes. -/
namespace PD
open PySem L2 PySem.Spec PyProof.Rows
theorem bt_int : bootBuiltins "int" = some (.type "int") := by kernel_rfl
theorem bt_str : bootBuiltins "str" = some (.type "str") := by kernel_rfl
theorem bt_bool : bootBuiltins "bool" = some (.type "bool") := by kernel_rfl
theorem bt_list : bootBuiltins "list" = some (.type "list") := by kernel_rfl
theorem bt_tuple : bootBuiltins "tuple" = some (.type "tuple") := by kernel_rfl
theorem bt_dict : bootBuiltins "dict" = some (.type "dict") := by kernel_rfl
theorem bt_len : bootBuiltins "len" = some (.builtin "len") := by kernel_rfl
theorem bt_sum : bootBuiltins "sum" = some (.builtin "sum") := by kernel_rfl
theorem bt_any : bootBuiltins "any" = some (.builtin "any") := by kernel_rfl
theorem bt_all : bootBuiltins "all" = some (.builtin "all") := by kernel_rfl
theorem bt_min : bootBuiltins "min" = some (.builtin "min") := by kernel_rfl
theorem bt_max : bootBuiltins "max" = some (.builtin "max") := by kernel_rfl
theorem bt_sorted : bootBuiltins "sorted" = some (.builtin "sorted") := by kernel_rfl
theorem bt_isinstance : bootBuiltins "isinstance" = some (.builtin "isinstance") := by kernel_rfl
theorem _root_.L2.Room.u65 {k : Nat} {A : Around} (r : Room k A) : A.units + 65 < cLine := by have := r.un; omega
theorem _root_.L2.Room.u100 {k : Nat} {A : Around} (r : Room k A) : A.units + 100 < cLine := by have := r.un; omega
section
variable {X : Cx} {e : Expr} {es : List Expr} {Φ : Tab} {ce : Ce} {cs : Ces} {p pos pv : Pos} {x y : Str} {i n k : Nat}
/-- a def that is called by its name -/
structure CbP (P : Program) (w : World) (K : PySem.W.Frag) (mg : Str → Option Value) (base : Heap) (k : Nat) (x : Str) (sp : Sp) : Prop where
  ex : ∃ (f : Addr) (fd : FuncData) (ps : List Str), FnOk P w K mg base CX0 k f fd ps sp ∧ mg x = some (.ref f) ∧ PySem.W.keepIn K (.ref f) = true ∧ Binds K fd ps []
/-- a type's name -/
theorem cE_ty {T : String} (hg : Gl X x) (hm : X.mg x = none) (hv : bootBuiltins x = some (.type T)) (hn : x ≠ "__name__" := by decide) (hdb : (x == ("__debug__" : Str)) = false := by decide) : PE X (.Name x p) (tC (.ty T)) :=
  ⟨fun pins s σ H Q I h => ld_blt I hg hm hv ⟨.ty T, H, I, rfl, h⟩ hn hdb⟩
theorem cE_cal (c : CbP X.prog X.w X.K X.mg X.base k x (spP X.K Φ x n)) (hr : Room k X.A) (hg : Gl X x) (ha : PA X (e :: es) (tEs X.K Φ cs)) (hn : cs.len = n := by rfl)
    (hdb : (x == ("__debug__" : Str)) = false := by decide) (he : starEach (e :: es) X.env = (false, eval e X.env) :: starEach es X.env := by rfl) (hpl : (backTo pos (starEach es X.env)).any (·.1) = false := by rfl) : PE X (.Call (.Name x p) (e :: es) [] pos) (tE X.K Φ (.call x cs)) := by
  obtain ⟨f, fd, ps, F, m, kp, b⟩ := c.ex
  exact cE_call F hr hg m kp b ha hn hdb he hpl
theorem cE_calF (c : CbP X.prog X.w X.K X.mg X.base k x (spF X.K Φ x n)) (hr : Room k X.A) (hg : Gl X x) (ha : PA X (e :: es) (tEs X.K Φ cs)) (hn : cs.len = n := by rfl)
    (hdb : (x == ("__debug__" : Str)) = false := by decide) (he : starEach (e :: es) X.env = (false, eval e X.env) :: starEach es X.env := by rfl) (hpl : (backTo pos (starEach es X.env)).any (·.1) = false := by rfl) : PE X (.Call (.Name x p) (e :: es) [] pos) (tE X.K Φ (.callF x cs)) := by
  obtain ⟨f, fd, ps, F, m, kp, b⟩ := c.ex
  exact cE_callF F hr hg m kp b ha hn hdb he hpl
theorem cE_calM (i : Nat) (c : CbP X.prog X.w X.K X.mg X.base k x (spM X.K Φ x n)) (hr : Room k X.A) (hg : Gl X x) (hv : PE X (.Name y pv) (tVar i)) (ha : PA X es (tEs X.K Φ cs)) (hn : cs.len + 1 = n := by rfl)
    (hdb : (x == ("__debug__" : Str)) = false := by decide) (he : starEach (.Name y pv :: es) X.env = (false, eval (.Name y pv) X.env) :: starEach es X.env := by rfl) (hpl : (backTo pos (starEach es X.env)).any (·.1) = false := by rfl) : PE X (.Call (.Name x p) (.Name y pv :: es) [] pos) (tE X.K Φ (.callM x i cs)) := by
  obtain ⟨f, fd, ps, F, m, kp, b⟩ := c.ex
  exact cE_callM F hr hg m kp b hv ha hn hdb he hpl
end
/-- what is wanted of the law: a list of whole numbers, few enough -/
def spLaw (K : PySem.W.Frag) (m : Nat) : Sp := fun vs H Q _ => ∃ (a : Addr) (ns : List Int), vs = [.ref a] ∧ SqL K H a (ns.map V.int) ∧ ns.length ≤ m ∧ ∀ H', Q (.bl true) H'
theorem rpAll_ints {K : PySem.W.Frag} {B : Hp} : ∀ ns : List Int, RpAll K B (ns.map V.int) (ns.map PyData.int)
  | [] => .nil
  | n :: ns => .cons (.int n) (rpAll_ints ns)
theorem law_of {P : Program} {w : World} {K : PySem.W.Frag} {mg : Str → Option Value} {base : Heap} {k m : Nat} {f : Addr} {fd : FuncData} {ps : List Str} {Φ : Tab} {x : Str} (F : FnOk P w K mg base CX0 k f fd ps (spP K Φ x 1))
    (h : ∀ ns : List Int, ns.length ≤ m → ∃ d, Φ x [.list (ns.map PyData.int)] = some (.bool true, d)) : FnOk P w K mg base CX0 k f fd ps (spLaw K m) :=
  F.imp fun vs H Q E ⟨a, ns, e, hS, hl, hQ⟩ => by
    obtain ⟨d, hd⟩ := h ns hl
    subst e
    refine ⟨rfl, H, _, _, Same.refl H, .cons (.lst hS (rpAll_ints ns)) .nil, hd, fun v H' B' g rv => ?_⟩
    cases rv
    exact hQ H'
end PD

set_option Elab.async false
set_option linter.all false
set_option maxRecDepth 100000
/-! PD14: how code runs: rules for the plain side. -/
namespace PD
open PySem
section
variable {Φ : Tab} {W : Nat} {c : Cs} {cs a b : Css} {st st1 st2 st3 : Stt} {e k : Ce} {op : Op} {d : D} {i : Nat} {u : Option (Fl × Stt)}
theorem ss_nx (h : evS Φ W c st = some (.nx, st1)) (h2 : evSs Φ W cs st1 = u) : evSs Φ W (.cons c cs) st = u := by
  rw [evSs, h]; exact h2
theorem ss_rt (h : evS Φ W c st = some (.rt d, st1)) : evSs Φ W (.cons c cs) st = some (.rt d, st1) := by
  rw [evSs, h]; rfl
theorem ss_ct (h : evS Φ W c st = some (.ct, st1)) : evSs Φ W (.cons c cs) st = some (.ct, st1) := by
  rw [evSs, h]; rfl
theorem ss_nil : evSs Φ W .nil st = some (.nx, st) := by rw [evSs]
theorem s_set (h : evE Φ e st = some (op, st1)) (h2 : setO i op st1 = some st2) : evS Φ W (.set i e) st = some (.nx, st2) := by
  rw [evS, h]; show (setO i op st1).map _ = _; rw [h2]; rfl
theorem nmk_of {r : Option (Op × Stt)} (h : r = some (op, st1)) (h2 : fz op st1 = some (d, st2)) : nmk r = some (d, st2) := by
  rw [h]; exact h2
theorem s_ret (h : nmk (evE Φ e st) = some (d, st1)) : evS Φ W (.ret e) st = some (.rt d, st1) := by
  rw [evS, h]; rfl
theorem s_if (x : Bool) (h : tst (evE Φ e st) = some (x, st1)) (h2 : evSs Φ W (if x then a else b) st1 = u) : evS Φ W (.ife e a b) st = u := by
  rw [evS, h]; cases x <;> exact h2
theorem s_unp {t : Ct} (h : nmk (evE Φ e st) = some (d, st1)) (h2 : asg t d st1 = some st2) : evS Φ W (.unp t e) st = some (.nx, st2) := by
  rw [evS, h]; show (asg t d st1).map _ = _; rw [h2]; rfl
theorem s_par {j : Nat} {e' : Ce} {d' : D} (h : nmk (evE Φ e st) = some (d, st1)) (h2 : nmk (evE Φ e' st1) = some (d', st2)) (h3 : put i (.val d) st2 = some st3) {st4 : Stt} (h4 : put j (.val d') st3 = some st4) : evS Φ W (.par2 i j e e') st = some (.nx, st4) := by
  rw [evS, h]; show (nmk (evE Φ e' st1)).bind _ = _; rw [h2]; show (put i (.val d) st2).bind _ = _; rw [h3]; show (put j (.val d') st3).map _ = _; rw [h4]; rfl
theorem s_app {xs : List D} {x0 : List D} (h0 : (ownC i st).bind isL = some x0) (h : nmk (evE Φ e st) = some (d, st1)) (h1 : (ownC i st1).bind isL = some xs) (hl : xs.length < sizeLine) (h2 : upC i (.list (xs ++ [d])) st1 = some st2) : evS Φ W (.app i e) st = some (.nx, st2) := by
  rw [evS, h0]
  show (nmk (evE Φ e st)).bind _ = _
  rw [h]
  show ((ownC i st1).bind isL).bind _ = _
  rw [h1]
  show (if xs.length < sizeLine then _ else none) = _
  rw [if_pos hl]
  show (upC i (.list (xs ++ [d])) st1).map _ = _
  rw [h2]; rfl
theorem s_ssetD {kvs : List (D × D)} {x0 kd : D} (h : nmk (evE Φ e st) = some (d, st1)) (h0 : ownC i st1 = some x0) (hk : nmk (evE Φ k st1) = some (kd, st2)) (h1 : ownC i st2 = some (.dict kvs)) (ok : kindOk kvs kd = true) (hl : kvs.length < sizeLine) (h2 : upC i (.dict (dput kvs kd d)) st2 = some st3) :
    evS Φ W (.sset i k e) st = some (.nx, st3) := by
  rw [evS, h]
  show (ownC i st1).bind _ = _
  rw [h0]
  show (nmk (evE Φ k st1)).bind _ = _
  rw [hk]
  show (ownC i st2).bind _ = _
  rw [h1]
  show (if (kindOk kvs kd && decide (kvs.length < sizeLine)) = true then _ else none) = _
  rw [if_pos (by rw [ok, decide_eq_true hl]; rfl)]
  show (upC i _ st2).map _ = _
  rw [h2]; rfl
theorem s_ssetL {xs : List D} {x0 : D} {j : Int} {m : Nat} (h : nmk (evE Φ e st) = some (d, st1)) (h0 : ownC i st1 = some x0) (hk : nmk (evE Φ k st1) = some (.int j, st2)) (h1 : ownC i st2 = some (.list xs)) (hm : L2.ixN xs.length j = some m) (h2 : upC i (.list (xs.set m d)) st2 = some st3) :
    evS Φ W (.sset i k e) st = some (.nx, st3) := by
  rw [evS, h]
  show (ownC i st1).bind _ = _
  rw [h0]
  show (nmk (evE Φ k st1)).bind _ = _
  rw [hk]
  show (ownC i st2).bind _ = _
  rw [h1]
  show (L2.ixN xs.length j).bind _ = _
  rw [hm]
  show (upC i _ st2).map _ = _
  rw [h2]; rfl
theorem e_call {f : Str} {es : Ces} {ds : List D} {z : D × D} (h : evEs Φ es st = some (ds, st1)) (h2 : Φ f ds = some z) : evE Φ (.call f es) st = some (.d z.1, st1) := by
  rw [evE, h]; show (Φ f ds).map _ = _; rw [h2]; rfl
theorem e_callM {f : Str} {es : Ces} {ds : List D} {z : D × D} {x0 x : D} (h0 : ownC i st = some x0) (h : evEs Φ es st = some (ds, st1)) (h1 : ownC i st1 = some x) (h2 : Φ f (x :: ds) = some z) (h3 : upC i z.2 st1 = some st2) : evE Φ (.callM f i es) st = some (.d z.1, st2) := by
  rw [evE, h0]; show (evEs Φ es st).bind _ = _; rw [h]; show (ownC i st1).bind _ = _; rw [h1]; show (Φ f (x :: ds)).bind _ = _; rw [h2]; show (upC i z.2 st1).map _ = _; rw [h3]; rfl
theorem s_for {t : Ct} {it : Ci} {xs : List D} {lk : Option (Nat × SV)} {fl : Fl} (h : evI Φ it st = some (xs, lk, st1)) (h2 : forL (fun x st1 => (asg t x st1).bind fun st2 => evSs Φ W b st2) xs st1 = some (fl, st2)) (h3 : unlock lk st2 = st3) : evS Φ W (.for_ t it b) st = some (fl, st3) := by
  rw [evS, h]; show (forL _ xs st1).map _ = _; rw [h2, ← h3]; rfl
/-- a for loop that goes to its end; I: what holds ahead of the items that are left -/
theorem forL_inv {f : D → Stt → Option (Fl × Stt)} (I : List D → Stt → Prop) (hs : ∀ x xs st, I (x :: xs) st → ∃ st', (f x st = some (.nx, st') ∨ f x st = some (.ct, st')) ∧ I xs st') : ∀ {xs : List D} {st : Stt}, I xs st → ∃ st', forL f xs st = some (.nx, st') ∧ I [] st'
  | [], st, h => ⟨st, rfl, h⟩
  | x :: xs, st, h => by
    obtain ⟨st', e, h'⟩ := hs x xs st h
    obtain ⟨st2, e2, h2⟩ := forL_inv I hs h'
    refine ⟨st2, ?_, h2⟩
    rcases e with e | e <;> (rw [forL, e]; exact e2)
/-- .. over items that are drawn from typed ones -/
theorem forL_typed {α : Type} {f : D → Stt → Option (Fl × Stt)} (g : α → D) (I : List α → Stt → Prop) (hs : ∀ x xs st, I (x :: xs) st → ∃ st', (f (g x) st = some (.nx, st') ∨ f (g x) st = some (.ct, st')) ∧ I xs st') : ∀ {xs : List α} {st : Stt}, I xs st → ∃ st', forL f (xs.map g) st = some (.nx, st') ∧ I [] st'
  | [], st, h => ⟨st, rfl, h⟩
  | x :: xs, st, h => by
    obtain ⟨st', e, h'⟩ := hs x xs st h
    obtain ⟨st2, e2, h2⟩ := forL_typed g I hs h'
    refine ⟨st2, ?_, h2⟩
    rw [List.map_cons]
    rcases e with e | e <;> (rw [forL, e]; exact e2)
theorem whileL_inv {cf : Stt → Option (Bool × Stt)} {f : Stt → Option (Fl × Stt)} (I : Nat → Stt → Prop) (P : Stt → Prop)
    (hs : ∀ k st, I k st → (∃ st1, cf st = some (false, st1) ∧ P st1) ∨ ∃ st1 st2 k', cf st = some (true, st1) ∧ f st1 = some (.nx, st2) ∧ k' < k ∧ I k' st2) : ∀ {n k : Nat} {st : Stt}, k < n → I k st → ∃ st', whileL cf f n st = some (.nx, st') ∧ P st'
  | 0, _, _, h, _ => absurd h (Nat.not_lt_zero _)
  | n + 1, k, st, h, q => by
    rcases hs k st q with ⟨st1, e, p⟩ | ⟨st1, st2, k', e1, e2, lt, q'⟩
    · exact ⟨st1, by rw [whileL, e]; rfl, p⟩
    · obtain ⟨st', e3, p⟩ := whileL_inv I P hs (n := n) (show k' < n by omega) q'
      refine ⟨st', ?_, p⟩
      rw [whileL, e1]
      show (f st1).bind _ = _
      rw [e2]
      exact e3
theorem s_whl (h : whileL (fun st => tst (evE Φ e st)) (fun st => evSs Φ W b st) W st = some (.nx, st1)) : evS Φ W (.whl e b) st = some (.nx, st1) := by
  rw [evS]; exact h
/-- a comprehension that changes nothing -/
theorem compL_pure {f : D → Stt → Option (Option D × Stt)} {g : D → Option D} {st : Stt} : ∀ {xs acc : List D}, (∀ x ∈ xs, f x st = some (g x, st)) → acc.length + xs.length ≤ sizeLine → compL f xs acc st = some (acc ++ xs.filterMap g, st)
  | [], acc, _, _ => by simp [compL]
  | x :: xs, acc, h, hl => by
    rw [compL, h x (List.mem_cons_self ..)]
    have hl : acc.length + (xs.length + 1) ≤ sizeLine := hl
    cases e : g x with
    | none =>
      show compL f xs acc st = _
      rw [compL_pure (fun y hy => h y (List.mem_cons_of_mem _ hy)) (by omega), List.filterMap_cons_none e]
    | some y =>
      show (if acc.length < sizeLine then compL f xs (acc ++ [y]) st else none) = _
      rw [if_pos (by omega), compL_pure (fun y hy => h y (List.mem_cons_of_mem _ hy)) (by rw [List.length_append, List.length_singleton]; omega), List.filterMap_cons_some e, List.append_assoc]
      rfl
/-- a turn of a comprehension -/
def cTurn (Φ : Tab) (own : List Nat) (t : Ct) (c : Co) (e : Ce) (x : D) (st1 : Stt) : Option (Option D × Stt) :=
  (asg t x st1).bind fun st2 => (evC Φ c st2).bind fun b => match b.1 with
        | false => some (none, wipeS b.2 own)
        | true => (nmk (evE Φ e b.2)).map fun y => (some y.1, wipeS y.2 own)
theorem e_comp {own : List Nat} {t : Ct} {it : Ci} {c : Co} {xs ys : List D} {lk : Option (Nat × SV)} (h : evI Φ it st = some (xs, lk, st1)) (h2 : compL (cTurn Φ own t c e) xs [] (wipeS st1 own) = some (ys, st2)) (h3 : unlock lk (backS st1 st2 own) = st3) :
    evE Φ (.comp own t it c e) st = some (.fr (.list ys), st3) := by
  rw [evE, h]
  show (compL (cTurn Φ own t c e) xs [] (wipeS st1 own)).map _ = _
  rw [h2, ← h3]; rfl
theorem e_comp_pure {own : List Nat} {t : Ct} {it : Ci} {c : Co} {xs : List D} {lk : Option (Nat × SV)} (g : D → Option D) (h : evI Φ it st = some (xs, lk, st1)) (hl : xs.length ≤ sizeLine) (h2 : ∀ x ∈ xs, cTurn Φ own t c e x (wipeS st1 own) = some (g x, wipeS st1 own)) (h3 : unlock lk (backS st1 (wipeS st1 own) own) = st3) :
    evE Φ (.comp own t it c e) st = some (.fr (.list (xs.filterMap g)), st3) :=
  e_comp h (by have := compL_pure (acc := []) h2 (by simpa using hl); simpa using this) h3
theorem turn_no {own : List Nat} {t : Ct} {x y : D} (h : asg t x st = some st1) (h2 : nmk (evE Φ e st1) = some (y, st2)) (h3 : wipeS st2 own = st3) : cTurn Φ own t .no e x st = some (some y, st3) := by
  unfold cTurn
  rw [h, Option.bind_some, evC, Option.bind_some]
  show (nmk (evE Φ e st1)).map _ = _
  rw [h2, ← h3]; rfl
theorem turn_so {own : List Nat} {t : Ct} {x y : D} (b : Bool) (h : asg t x st = some st1) (hc : tst (evE Φ k st1) = some (b, st2)) (h2 : b = true → nmk (evE Φ e st2) = some (y, st3)) (h3 : b = true → wipeS st3 own = st) (h4 : wipeS st2 own = st) : cTurn Φ own t (.so k) e x st = some (if b then some y else none, st) := by
  unfold cTurn
  rw [h, Option.bind_some, evC, hc, Option.bind_some]
  cases b with
  | false => exact congrArg (fun z => some (none, z)) h4
  | true =>
    show (nmk (evE Φ e st2)).map _ = _
    rw [h2 rfl, ← h3 rfl]; rfl
theorem run_rt {f : Fn} {ds : List D} (h : evSs Φ W f.code (start0 f.io f.n ds) = some (.rt d, st)) : runF Φ W f ds = some (d, match f.io with | true => (cont st 0).getD .none | false => .none) := by
  unfold runF; rw [h]; rfl
end
/-! ### data that may be compared -/
def Sh (k : Nat) (d : D) : Prop := d.canLay0 = true ∧ d.depth ≤ k
theorem Sh.mono {j k : Nat} {d : D} (h : Sh j d) (l : j ≤ k) : Sh k d := ⟨h.1, Nat.le_trans h.2 l⟩
theorem Sh.ok {k : Nat} {d : D} (h : Sh k d) (l : k ≤ 64) : SeqAt.shaped d = true := by
  unfold SeqAt.shaped
  rw [h.1, decide_eq_true (Nat.le_trans h.2 l)]; rfl
theorem sh_int (i : Int) : Sh 0 (.int i) := ⟨rfl, Nat.le_refl _⟩
theorem sh_bool (i : Bool) : Sh 0 (.bool i) := ⟨rfl, Nat.le_refl _⟩
theorem sh_none : Sh 0 .none := ⟨rfl, Nat.le_refl _⟩
theorem sh_all {k : Nat} : ∀ {xs : List D}, (∀ x ∈ xs, Sh k x) → PyData.canLayAll0 xs = true ∧ PyData.depthAll xs ≤ k
  | [], _ => ⟨rfl, Nat.zero_le _⟩
  | x :: xs, h => by
    obtain ⟨h1, h2⟩ := h x (List.mem_cons_self ..)
    obtain ⟨h3, h4⟩ := sh_all fun y hy => h y (List.mem_cons_of_mem _ hy)
    exact ⟨by rw [PyData.canLayAll0, h1, h3]; rfl, by rw [PyData.depthAll]; exact Nat.max_le.mpr ⟨h2, h4⟩⟩
theorem sh_list {k : Nat} {xs : List D} (h : ∀ x ∈ xs, Sh k x) : Sh (k + 1) (.list xs) := by
  obtain ⟨h1, h2⟩ := sh_all h
  exact ⟨by rw [PyData.canLay0]; exact h1, by rw [PyData.depth]; omega⟩
theorem sh_tuple {k : Nat} {xs : List D} (h : ∀ x ∈ xs, Sh k x) : Sh (k + 1) (.tuple xs) := by
  obtain ⟨h1, h2⟩ := sh_all h
  exact ⟨by rw [PyData.canLay0]; exact h1, by rw [PyData.depth]; omega⟩
theorem eqv_int (i j : Int) : PyData.eqv (.int i) (.int j) = decide (i = j) := by
  rw [PyData.eqv]; by_cases h : i = j <;> simp [h]
theorem eqv_bool (i j : Bool) : PyData.eqv (.bool i) (.bool j) = decide (i = j) := by
  rw [PyData.eqv]; cases i <;> cases j <;> rfl
theorem eqvAll_map {α : Type} {f : α → D} : ∀ {xs ys : List α}, (∀ x ∈ xs, ∀ y ∈ ys, PyData.eqv (f x) (f y) = true ↔ x = y) → (PyData.eqvAll (xs.map f) (ys.map f) = true ↔ xs = ys)
  | [], [], _ => by simp [PyData.eqvAll]
  | [], _ :: _, _ => by simp [PyData.eqvAll]
  | _ :: _, [], _ => by simp [PyData.eqvAll]
  | x :: xs, y :: ys, h => by
    rw [List.map_cons, List.map_cons, PyData.eqvAll, Bool.and_eq_true, h x (List.mem_cons_self ..) y (List.mem_cons_self ..), eqvAll_map (xs := xs) (ys := ys) fun a ha b hb => h a (List.mem_cons_of_mem _ ha) b (List.mem_cons_of_mem _ hb), List.cons.injEq]
theorem eqv_list {α : Type} {f : α → D} {xs ys : List α} (h : ∀ x ∈ xs, ∀ y ∈ ys, PyData.eqv (f x) (f y) = true ↔ x = y) : (PyData.eqv (.list (xs.map f)) (.list (ys.map f)) = true ↔ xs = ys) := by
  rw [PyData.eqv]; exact eqvAll_map h
theorem in_list {α : Type} [DecidableEq α] {f : α → D} {xs : List α} {x : α} (h : ∀ y ∈ xs, PyData.eqv (f y) (f x) = true ↔ y = x) : ((xs.map f).any fun z => PyData.eqv z (f x)) = decide (x ∈ xs) := by
  rw [List.any_map]
  apply Bool.eq_iff_iff.mpr
  rw [List.any_eq_true, decide_eq_true_eq]
  constructor
  · rintro ⟨y, hy, e⟩
    rw [← (h y hy).mp e]; exact hy
  · exact fun hx => ⟨x, hx, (h x hx).mpr rfl⟩
end PD

set_option Elab.async false
set_option linter.all false
set_option maxRecDepth 100000
/-! PD15: how expressions run. -/
namespace PD
open PySem
section
variable {Φ : Tab} {W : Nat} {st st1 st2 st3 : Stt} {a b c e : Ce} {op oq : Op} {x y z d : D}
theorem n_d (h : evE Φ a st = some (.d x, st1)) : nmk (evE Φ a st) = some (x, st1) := by rw [h]; rfl
theorem n_fr (h : evE Φ a st = some (.fr x, st1)) : nmk (evE Φ a st) = some (x, st1) := by rw [h]; rfl
theorem t_of {v : Bool} (h : evE Φ a st = some (.d (.bool v), st1)) : tst (evE Φ a st) = some (v, st1) := by rw [h]; rfl
theorem o_of (h : evE Φ a st = some (op, st1)) : opr (evE Φ a st) = some (fzO op, st1) := by rw [h]; rfl
theorem e_ix (ha : evE Φ a st = some (op, st1)) (hb : nmk (evE Φ b st1) = some (y, st2)) (hr : rdO (fzO op) st2 = some x) (hx : ixD x y = some z) : evE Φ (.ix a b) st = some (.d z, st2) := by
  rw [evE, o_of ha, Option.bind_some, hb, Option.bind_some, hr, Option.bind_some, hx]; rfl
theorem e_bin {o : Bop} {r : Op} (ha : evE Φ a st = some (op, st1)) (hb : evE Φ b st1 = some (oq, st2)) (h1 : rdO (fzO op) st2 = some x) (h2 : rdO (fzO oq) st2 = some y) (hx : binop o x y = some r) : evE Φ (.bin o a b) st = some (r, st2) := by
  rw [evE, o_of ha, Option.bind_some, o_of hb, Option.bind_some, h1, Option.bind_some, h2, Option.bind_some, hx]; rfl
theorem e_callF {f : Str} {es : Ces} {ds : List D} {z : D × D} (h : evEs Φ es st = some (ds, st1)) (h2 : Φ f ds = some z) : evE Φ (.callF f es) st = some (.fr z.1, st1) := by
  rw [evE, h]; show (Φ f ds).map _ = _; rw [h2]; rfl
theorem e_cmp {o : Cop} {r : Op} (ha : evE Φ a st = some (op, st1)) (hb : evE Φ b st1 = some (oq, st2)) (h1 : rdO (fzO op) st2 = some x) (h2 : rdO (fzO oq) st2 = some y) (hx : cmpG o x y = some r) : evE Φ (.cmp o a b) st = some (r, st2) := by
  rw [evE, o_of ha, Option.bind_some, o_of hb, Option.bind_some, h1, Option.bind_some, h2, Option.bind_some, hx]; rfl
theorem e_b1 {f : B1} {r : Op} (ha : evE Φ a st = some (op, st1)) (h1 : rdO (fzO op) st1 = some x) (hx : b1op f x = some r) : evE Φ (.b1 f a) st = some (r, st1) := by
  rw [evE, o_of ha, Option.bind_some, h1, Option.bind_some, hx]; rfl
theorem e_index {xs : List D} {j : Nat} (ha : evE Φ a st = some (op, st1)) (h0 : rdO (fzO op) st1 = some (.list xs)) (he : evE Φ e st1 = some (oq, st2)) (h1 : rdO (fzO op) st2 = some (.list xs)) (h2 : rdO (fzO oq) st2 = some y) (hx : indexD xs y = some j) : evE Φ (.index a e) st = some (.d (.int j), st2) := by
  rw [evE, o_of ha, Option.bind_some, h0]
  show (opr (evE Φ e st1)).bind _ = _
  rw [o_of he, Option.bind_some, h1]
  show (rdO (fzO oq) st2).bind _ = _
  rw [h2, Option.bind_some, hx]; rfl
theorem e_slc {lo hi : Co} {l h : Option Int} {r : Op} (ha : evE Φ a st = some (op, st1)) (hl : evO Φ lo st1 = some (l, st2)) (hh : evO Φ hi st2 = some (h, st3)) (hr : rdO (fzO op) st3 = some x) (hx : slD x l h = some r) : evE Φ (.slc a lo hi) st = some (r, st3) := by
  rw [evE, o_of ha, Option.bind_some, hl, Option.bind_some, hh, Option.bind_some, hr, Option.bind_some, hx]; rfl
theorem v_so {i : Int} (h : nmk (evE Φ a st) = some (.int i, st1)) : evO Φ (.so a) st = some (some i, st1) := by
  rw [evO, h]; rfl
theorem v_no : evO Φ .no st = some (none, st) := by rw [evO]
theorem e_and {v u : Bool} (ha : tst (evE Φ a st) = some (v, st1)) (hb : v = true → evE Φ b st1 = some (.d (.bool u), st2)) (hs : v = false → st1 = st2) : evE Φ (.and_ a b) st = some (.d (.bool (v && u)), st2) := by
  rw [evE, ha, Option.bind_some]
  cases v with
  | true => exact hb rfl
  | false => rw [hs rfl]; rfl
theorem e_or {v u : Bool} (ha : tst (evE Φ a st) = some (v, st1)) (hb : v = false → evE Φ b st1 = some (.d (.bool u), st2)) (hs : v = true → st1 = st2) : evE Φ (.or_ a b) st = some (.d (.bool (v || u)), st2) := by
  rw [evE, ha, Option.bind_some]
  cases v with
  | false => exact hb rfl
  | true => rw [hs rfl]; rfl
theorem e_not {v : Bool} (ha : tst (evE Φ a st) = some (v, st1)) : evE Φ (.not_ a) st = some (.d (.bool !v), st1) := by
  rw [evE, ha]; rfl
theorem e_ite {r : Option (Op × Stt)} (v : Bool) (hc : tst (evE Φ c st) = some (v, st1)) (h : (if v then evE Φ a st1 else evE Φ b st1) = r) : evE Φ (.ite c a b) st = r := by
  rw [evE, hc, Option.bind_some]
  cases v <;> exact h
theorem es_nil : evEs Φ .nil st = some ([], st) := by rw [evEs]
theorem es_cons {cs : Ces} {ds : List D} (h : nmk (evE Φ a st) = some (x, st1)) (h2 : evEs Φ cs st1 = some (ds, st2)) : evEs Φ (.cons a cs) st = some (x :: ds, st2) := by
  rw [evEs, h, Option.bind_some, h2]; rfl
theorem e_tup {cs : Ces} {ds : List D} (h : evEs Φ cs st = some (ds, st1)) (hl : ds.length ≤ sizeLine) : evE Φ (.tup cs) st = some (.d (.tuple ds), st1) := by
  rw [evE, h, Option.bind_some, if_pos hl]
theorem e_lst {cs : Ces} {ds : List D} (h : evEs Φ cs st = some (ds, st1)) (hl : ds.length ≤ sizeLine) : evE Φ (.lst cs) st = some (.fr (.list ds), st1) := by
  rw [evE, h, Option.bind_some, if_pos hl]
theorem i_rng {n : Int} (h : nmk (evE Φ a st) = some (.int n, st1)) (hn : -(2 ^ 62) ≤ n ∧ n < 2 ^ 62) : evI Φ (.rng a) st = some ((List.range n.toNat).map (fun i => .int (0 + (i : Nat))), none, st1) := by
  rw [evI, h, Option.bind_some]
  show (if -(2 ^ 62) ≤ n ∧ n < 2 ^ 62 then _ else none) = _
  rw [if_pos hn]
theorem i_nat {n : Nat} (h : nmk (evE Φ a st) = some (.int (n : Int), st1)) (hn : n < 2 ^ 62) : evI Φ (.rng a) st = some ((List.range n).map (fun (i : Nat) => .int (i : Int)), none, st1) := by
  rw [i_rng h (by omega), Int.toNat_natCast]
  congr 2
  apply List.map_congr_left
  intro i _
  rw [Int.zero_add]
theorem i_seq {r : List D × Option (Nat × SV) × Stt} (h : evE Φ a st = some (op, st1)) (h2 : lock st1 (fzO op) = some r) : evI Φ (.seq a) st = some r := by
  rw [evI, o_of h, Option.bind_some]; exact h2
/-! slots -/
def Fr (o : Option SV) : Prop := ∀ sv, o = some sv → sv.fix = false
theorem fr_none : Fr none := fun _ h => by cases h
theorem fr_val (x : D) : Fr (some (.val x)) := fun _ h => by cases h; rfl
theorem fr_own (x : D) : Fr (some (.own x)) := fun _ h => by cases h; rfl
theorem put_ok {i : Nat} {sv : SV} {o : Option SV} (h : st[i]? = some o) (f : Fr o) : put i sv st = some (st.set i (some sv)) := by
  unfold put
  rw [h]
  cases o with
  | none => rfl
  | some o => show (if o.fix then none else _) = _; rw [f o rfl]; rfl
theorem asg_nm {i : Nat} {o : Option SV} (h : st[i]? = some o) (f : Fr o) : asg (.nm i) x st = some (st.set i (some (.val x))) := by
  rw [asg]; exact put_ok h f
end
/-! ### numbers and places -/
theorem ixN_nat {n k : Nat} (h : k < n) : L2.ixN n (k : Int) = some k := by
  unfold L2.ixN
  rw [if_pos (by omega), if_pos (by omega), Int.toNat_natCast]
theorem ixN_last {n : Nat} (h : 0 < n) : L2.ixN n (-1) = some (n - 1) := by
  unfold L2.ixN
  rw [if_neg (by omega), if_pos (by omega)]
  congr 1
  omega
theorem ix_list {xs : List D} {i : Int} {k : Nat} {x : D} (h : L2.ixN xs.length i = some k) (hx : xs[k]? = some x) : ixD (.list xs) (.int i) = some x := by
  show L2.atI xs i = _
  unfold L2.atI
  rw [h]; exact hx
theorem ix_map {α : Type} {f : α → D} {xs : List α} {k : Nat} (h : k < xs.length) : ixD (.list (xs.map f)) (.int (k : Int)) = some (f xs[k]) :=
  ix_list (by rw [List.length_map]; exact ixN_nat h) (by rw [List.getElem?_map, List.getElem?_eq_getElem h]; rfl)
theorem c_eqi (i j : Int) : cmpG .eq (.int i) (.int j) = some (.d (.bool (decide (i = j)))) := by
  show (if (SeqAt.shaped (.int i) && SeqAt.shaped (.int j)) = true then some (PyData.eqv (.int i) (.int j)) else none).map _ = _
  rw [(sh_int i).ok (by decide), (sh_int j).ok (by decide), eqv_int]; rfl
theorem c_nei (i j : Int) : cmpG .ne (.int i) (.int j) = some (.d (.bool (!decide (i = j)))) := by
  show (if (SeqAt.shaped (.int i) && SeqAt.shaped (.int j)) = true then some (!PyData.eqv (.int i) (.int j)) else none).map _ = _
  rw [(sh_int i).ok (by decide), (sh_int j).ok (by decide), eqv_int]; rfl
theorem ord_int (i j : Int) : ordOk (.int i) (.int j) = true := by
  show (PySem.W.alike (.int i) (.int j) && SeqAt.shaped (.int i) && SeqAt.shaped (.int j) && true) = true
  rw [(sh_int i).ok (by decide), (sh_int j).ok (by decide), PySem.W.alike]; rfl
theorem c_lti (i j : Int) : cmpG .lt (.int i) (.int j) = some (.d (.bool (decide (i < j)))) := by
  show (if ordOk (.int i) (.int j) = true then some (PySem.W.dataLt (.int i) (.int j)) else none).map _ = _
  rw [if_pos (ord_int i j), PySem.W.dataLt_int]; rfl
theorem c_gti (i j : Int) : cmpG .gt (.int i) (.int j) = some (.d (.bool (decide (j < i)))) := by
  show (if ordOk (.int i) (.int j) = true then some (PySem.W.dataLt (.int j) (.int i)) else none).map _ = _
  rw [if_pos (ord_int i j), PySem.W.dataLt_int]; rfl
theorem c_gei (i j : Int) : cmpG .ge (.int i) (.int j) = some (.d (.bool (!decide (i < j)))) := by
  show (if ordOk (.int i) (.int j) = true then some (!PySem.W.dataLt (.int i) (.int j)) else none).map _ = _
  rw [if_pos (ord_int i j), PySem.W.dataLt_int]; rfl
/-- x in ys -/
theorem c_in {k : Nat} {x : D} {ys : List D} (hk : k ≤ 63) (hx : Sh k x) (hy : ∀ y ∈ ys, Sh k y) : cmpG .in_ x (.list ys) = some (.d (.bool (ys.any fun z => PyData.eqv z x))) := by
  show (if (SeqAt.shaped x && SeqAt.shaped (.list ys)) = true then some (ys.any fun z => PyData.eqv z x) else none).map _ = _
  rw [hx.ok (by omega), (sh_list hy).ok (by omega)]; rfl
theorem c_inT {k : Nat} {x : D} {ys : List D} (hk : k ≤ 63) (hx : Sh k x) (hy : ∀ y ∈ ys, Sh k y) : cmpG .in_ x (.tuple ys) = some (.d (.bool (ys.any fun z => PyData.eqv z x))) := by
  show (if (SeqAt.shaped x && SeqAt.shaped (.tuple ys)) = true then some (ys.any fun z => PyData.eqv z x) else none).map _ = _
  rw [hx.ok (by omega), (sh_tuple hy).ok (by omega)]; rfl
theorem c_nin {k : Nat} {x : D} {ys : List D} (hk : k ≤ 63) (hx : Sh k x) (hy : ∀ y ∈ ys, Sh k y) : cmpG .nin x (.list ys) = some (.d (.bool (!ys.any fun z => PyData.eqv z x))) := by
  show (if (SeqAt.shaped x && SeqAt.shaped (.list ys)) = true then some (!ys.any fun z => PyData.eqv z x) else none).map _ = _
  rw [hx.ok (by omega), (sh_list hy).ok (by omega)]; rfl
theorem c_ninD {x : D} {kvs : List (D × D)} (h : kindOk kvs x = true) : cmpG .nin x (.dict kvs) = some (.d (.bool (!(dlook kvs x).isSome))) := by
  show (if kindOk kvs x = true then some (!(dlook kvs x).isSome) else none).map _ = _
  rw [if_pos h]; rfl
theorem ix_dict {x z : D} {kvs : List (D × D)} (h : kindOk kvs x = true) (hz : dlook kvs x = some z) : ixD (.dict kvs) x = some z := by
  show (if kindOk kvs x = true then dlook kvs x else none) = _
  rw [if_pos h]; exact hz
theorem nat_int_inj {f : Nat → D} (hf : f = fun (k : Nat) => PyData.int (k : Int)) (x y : Nat) : PyData.eqv (f y) (f x) = true ↔ y = x := by
  subst hf
  rw [eqv_int, decide_eq_true_eq]
  omega
section
variable {Φ : Tab} {st st1 st2 st3 : Stt} {e : Ce}
def cTurn2 (Φ : Tab) (own : List Nat) (t : Ct) (own1 : List Nat) (t1 : Ct) (it1 : Ci) (c : Co) (e : Ce) (x : D) (acc : List D) (st1 : Stt) : Option (List D × Stt) :=
  (asg t x st1).bind fun st2 => (evI Φ it1 st2).bind fun r1 => (compL (cTurn Φ own1 t1 c e) r1.1 acc (wipeS r1.2.2 own1)).map fun u => (u.1, wipeS (unlock r1.2.1 u.2) own)
theorem e_comp2 {own own1 : List Nat} {t t1 : Ct} {it it1 : Ci} {c : Co} {xs ys : List D} {lk : Option (Nat × SV)} (h : evI Φ it st = some (xs, lk, st1)) (h2 : compL2 (cTurn2 Φ own t own1 t1 it1 c e) xs [] (wipeS st1 own) = some (ys, st2)) (h3 : unlock lk (backS st1 st2 own) = st3) :
    evE Φ (.comp2 own t it own1 t1 it1 c e) st = some (.fr (.list ys), st3) := by
  rw [evE, h]
  show (compL2 (cTurn2 Φ own t own1 t1 it1 c e) xs [] (wipeS st1 own)).map _ = _
  rw [h2, ← h3]; rfl
theorem compL2_pure {α : Type} {f : D → List D → Stt → Option (List D × Stt)} {g : α → D} {gr : α → List D} {st : Stt} {B : Nat} : ∀ {xs : List α} {acc : List D}, (∀ x ∈ xs, ∀ acc', acc'.length + (gr x).length ≤ B → f (g x) acc' st = some (acc' ++ gr x, st)) → acc.length + (xs.flatMap gr).length ≤ B →
    compL2 f (xs.map g) acc st = some (acc ++ xs.flatMap gr, st)
  | [], acc, _, _ => by simp [compL2]
  | x :: xs, acc, h, hl => by
    rw [List.flatMap_cons, List.length_append] at hl
    rw [List.map_cons, compL2, h x (List.mem_cons_self ..) acc (by omega), Option.bind_some]
    show compL2 f (xs.map g) (acc ++ gr x) st = _
    rw [compL2_pure (fun y hy => h y (List.mem_cons_of_mem _ hy)) (by rw [List.length_append]; omega), List.flatMap_cons, List.append_assoc]
/-- a dict made by a comprehension -/
def dTurn (Φ : Tab) (own : List Nat) (t : Ct) (k v : Ce) (x : D) (st1 : Stt) : Option ((D × D) × Stt) :=
  (asg t x st1).bind fun st2 => (nmk (evE Φ k st2)).bind fun y => (nmk (evE Φ v y.2)).map fun z => ((y.1, z.1), wipeS z.2 own)
theorem e_dcomp {own : List Nat} {t : Ct} {it : Ci} {k v : Ce} {xs : List D} {kvs : List (D × D)} {lk : Option (Nat × SV)} (h : evI Φ it st = some (xs, lk, st1)) (h2 : dcompL (dTurn Φ own t k v) xs [] (wipeS st1 own) = some (kvs, st2)) (h3 : unlock lk (backS st1 st2 own) = st3) :
    evE Φ (.dcomp own t it k v) st = some (.fr (.dict kvs), st3) := by
  rw [evE, h]
  show (dcompL (dTurn Φ own t k v) xs [] (wipeS st1 own)).map _ = _
  rw [h2, ← h3]; rfl
theorem filterMap_map {α : Type} {f : α → D} {g : D → Option D} {p : α → Bool} {q : α → D} (h : ∀ x, g (f x) = if p x then some (q x) else none) : ∀ xs : List α, (xs.map f).filterMap g = (xs.filter p).map q
  | [] => rfl
  | x :: xs => by
    rw [List.map_cons]
    cases hp : p x with
    | true => rw [List.filterMap_cons_some (by rw [h, hp]; rfl), List.filter_cons_of_pos hp, List.map_cons, filterMap_map h xs]
    | false => rw [List.filterMap_cons_none (by rw [h, hp]; rfl), List.filter_cons_of_neg (by rw [hp]; decide), filterMap_map h xs]
/-- a comprehension over typed items that changes nothing: p the test, q the item -/
theorem e_comp_typed {α : Type} {own : List Nat} {t : Ct} {it : Ci} {c : Co} {xs : List α} {lk : Option (Nat × SV)} (f : α → D) (p : α → Bool) (q : α → D) (h : evI Φ it st = some (xs.map f, lk, st1)) (hl : xs.length ≤ sizeLine)
    (h2 : ∀ x ∈ xs, cTurn Φ own t c e (f x) (wipeS st1 own) = some (if p x then some (q x) else none, wipeS st1 own)) (h3 : unlock lk (backS st1 (wipeS st1 own) own) = st3) :
    evE Φ (.comp own t it c e) st = some (.fr (.list ((xs.filter p).map q)), st3) := by
  refine e_comp h ?_ h3
  have : ∀ (ys : List α) (acc : List D), (∀ x ∈ ys, cTurn Φ own t c e (f x) (wipeS st1 own) = some (if p x then some (q x) else none, wipeS st1 own)) → acc.length + ys.length ≤ sizeLine →
      compL (cTurn Φ own t c e) (ys.map f) acc (wipeS st1 own) = some (acc ++ (ys.filter p).map q, wipeS st1 own) := by
    intro ys
    induction ys with
    | nil => intro acc _ _; simp [compL]
    | cons y ys ih =>
      intro acc hy hl
      have hl : acc.length + (ys.length + 1) ≤ sizeLine := hl
      rw [List.map_cons, compL, hy y (List.mem_cons_self ..), Option.bind_some]
      cases hp : p y with
      | true =>
        show (if acc.length < sizeLine then compL _ (ys.map f) (acc ++ [q y]) _ else none) = _
        rw [if_pos (by omega), ih (acc ++ [q y]) (fun x hx => hy x (List.mem_cons_of_mem _ hx)) (by rw [List.length_append, List.length_singleton]; omega), List.filter_cons_of_pos hp, List.map_cons, List.append_assoc]; rfl
      | false =>
        show compL _ (ys.map f) acc _ = _
        rw [ih acc (fun x hx => hy x (List.mem_cons_of_mem _ hx)) (by omega), List.filter_cons_of_neg (by rw [hp]; decide)]
  have := this xs [] h2 (by simpa using hl)
  simpa using this
end
/-- a for loop by places -/
theorem forL_ix {α : Type} {f : D → Stt → Option (Fl × Stt)} (g : α → D) (I : Nat → Stt → Prop) : ∀ (xs : List α) (k : Nat) {st : Stt}, (∀ i (h : i < xs.length) st, I (k + i) st → ∃ st', (f (g xs[i]) st = some (.nx, st') ∨ f (g xs[i]) st = some (.ct, st')) ∧ I (k + i + 1) st') → I k st →
    ∃ st', forL f (xs.map g) st = some (.nx, st') ∧ I (k + xs.length) st'
  | [], k, st, _, h => ⟨st, rfl, h⟩
  | x :: xs, k, st, hs, h => by
    obtain ⟨st', e, h'⟩ := hs 0 (Nat.succ_pos _) st h
    obtain ⟨st2, e2, h2⟩ := forL_ix g I xs (k + 1) (st := st') (fun i hi st q => by
      have := hs (i + 1) (Nat.succ_lt_succ hi) st (by rw [show k + (i + 1) = k + 1 + i by omega]; exact q)
      rwa [show k + (i + 1) + 1 = k + 1 + i + 1 by omega] at this) h'
    refine ⟨st2, ?_, by rw [show k + (x :: xs).length = k + 1 + xs.length by simp; omega]; exact h2⟩
    rw [List.map_cons]
    have e : f (g x) st = some (.nx, st') ∨ f (g x) st = some (.ct, st') := e
    rcases e with e | e <;> (rw [forL, e]; exact e2)
theorem forL_list {α : Type} {f : D → Stt → Option (Fl × Stt)} {xs : List α} {st : Stt} (g : α → D) (I : Nat → Stt → Prop) (hs : ∀ i (h : i < xs.length) st, I i st → ∃ st', (f (g xs[i]) st = some (.nx, st') ∨ f (g xs[i]) st = some (.ct, st')) ∧ I (i + 1) st') (h : I 0 st) :
    ∃ st', forL f (xs.map g) st = some (.nx, st') ∧ I xs.length st' := by
  have := forL_ix g I xs 0 (st := st) (fun i hi st q => by rw [Nat.zero_add] at q ⊢; exact hs i hi st q) h
  rwa [Nat.zero_add] at this
theorem forL_range {f : D → Stt → Option (Fl × Stt)} {n : Nat} {st : Stt} (I : Nat → Stt → Prop) (hs : ∀ i, i < n → ∀ st, I i st → ∃ st', (f (.int (i : Int)) st = some (.nx, st') ∨ f (.int (i : Int)) st = some (.ct, st')) ∧ I (i + 1) st') (h : I 0 st) :
    ∃ st', forL f ((List.range n).map fun (i : Nat) => .int (i : Int)) st = some (.nx, st') ∧ I n st' := by
  have := forL_list (xs := List.range n) (f := f) (fun (i : Nat) => PyData.int (i : Int)) I (st := st) (fun i hi st q => by
    rw [List.length_range] at hi
    rw [List.getElem_range]; exact hs i hi st q) h
  rwa [List.length_range] at this
end PD

set_option Elab.async false
set_option linter.all false
set_option maxRecDepth 100000
namespace K95
open PySem L2 PySem.Spec PyProof.Rows PD
/-! ### the codes of the defs -/
abbrev code_all_halves : Css := .cons (.ret (.comp2 [1, 2] (.nm 1) (.rng (.b1 .len (.ix (.var 0) (.con (.int 2))))) [2] (.nm 2) (.seq (.tup (.cons (.con (.int 0)) (.cons (.con (.int 1)) (.nil))))) (.no) (.tup (.cons (.var 1) (.cons (.var 2) (.nil)))))) (.nil)
def fn_all_halves : Fn := ⟨3, false, code_all_halves⟩
abbrev code_other : Css := .cons (.ret (.tup (.cons (.ix (.var 0) (.con (.int 0))) (.cons (.bin .sub (.con (.int 1)) (.ix (.var 0) (.con (.int 1)))) (.nil))))) (.nil)
def fn_other : Fn := ⟨1, false, code_other⟩
abbrev code_nexts : Css := .cons (.set 2 (.dict0)) (.cons (.for_ (.nm 3) (.seq (.var 1)) (.cons (.for_ (.nm 4) (.rng (.b1 .len (.var 3))) (.cons (.sset 2 (.ix (.var 3) (.var 4)) (.ix (.var 3) (.ite (.cmp .lt (.bin .add (.var 4) (.con (.int 1))) (.b1 .len (.var 3))) (.bin .add (.var 4) (.con (.int 1))) (.con (.int 0))))) (.nil))) (.nil))) (.cons (.ret (.dcomp [5] (.nm 5) (.seq (.call "all_halves" (.cons (.var 0) (.nil)))) (.var 5) (.ix (.var 2) (.call "other" (.cons (.var 5) (.nil)))))) (.nil)))
def fn_nexts : Fn := ⟨6, false, code_nexts⟩
abbrev code_rims : Css := .cons (.set 2 (.call "nexts" (.cons (.var 0) (.cons (.var 1) (.nil))))) (.cons (.set 3 (.lst (.nil))) (.cons (.set 4 (.dict0)) (.cons (.for_ (.nm 5) (.seq (.call "all_halves" (.cons (.var 0) (.nil)))) (.cons (.ife (.cmp .nin (.var 5) (.var 4)) (.cons (.set 6 (.lst (.cons (.var 5) (.nil)))) (.cons (.whl (.cmp .ne (.ix (.var 2) (.ix (.var 6) (.neg (.con (.int 1))))) (.var 5)) (.cons (.app 6 (.ix (.var 2) (.ix (.var 6) (.neg (.con (.int 1)))))) (.nil))) (.cons (.for_ (.nm 7) (.seq (.var 6)) (.cons (.sset 4 (.var 7) (.con (.bool true))) (.nil))) (.cons (.app 3 (.var 6)) (.nil))))) (.nil)) (.nil))) (.cons (.ret (.var 3)) (.nil)))))
def fn_rims : Fn := ⟨8, false, code_rims⟩
abbrev code_sides_of : Css := .cons (.set 2 (.dict0)) (.cons (.set 3 (.call "rims" (.cons (.var 0) (.cons (.var 1) (.nil))))) (.cons (.for_ (.nm 4) (.rng (.b1 .len (.var 3))) (.cons (.for_ (.nm 5) (.seq (.ix (.var 3) (.var 4))) (.cons (.sset 2 (.var 5) (.var 4)) (.nil))) (.nil))) (.cons (.ret (.comp [6] (.nm 6) (.rng (.b1 .len (.ix (.var 0) (.con (.int 2))))) (.no) (.tup (.cons (.ix (.var 2) (.tup (.cons (.var 6) (.cons (.con (.int 0)) (.nil))))) (.cons (.ix (.var 2) (.tup (.cons (.var 6) (.cons (.con (.int 1)) (.nil))))) (.nil)))))) (.nil))))
def fn_sides_of : Fn := ⟨7, false, code_sides_of⟩
abbrev code_room_rule : Css := .cons (.set 3 (.comp [5, 6] (.tp (.cons (.nm 5) (.cons (.nm 6) (.nil)))) (.enum (.call "rims" (.cons (.var 0) (.cons (.var 1) (.nil))))) (.so (.cmp .in_ (.var 5) (.call "ring_rims" (.cons (.var 0) (.cons (.var 1) (.cons (.var 2) (.nil))))))) (.var 5))) (.cons (.set 4 (.con (.int 0))) (.cons (.for_ (.tp (.cons (.nm 5) (.cons (.nm 6) (.nil)))) (.enum (.call "rims" (.cons (.var 0) (.cons (.var 1) (.nil))))) (.cons (.augI 4 .add (.ite (.cmp .in_ (.var 5) (.var 3)) (.bin .sub (.b1 .len (.var 6)) (.con (.int 2))) (.bin .sub (.con (.int 2)) (.b1 .len (.var 6))))) (.nil))) (.cons (.ret (.var 4)) (.nil))))
def fn_room_rule : Fn := ⟨7, false, code_room_rule⟩
abbrev code_ring_rims : Css := .cons (.set 3 (.call "sides_of" (.cons (.var 0) (.cons (.var 1) (.nil))))) (.cons (.set 4 (.lst (.cons (.bin .sub (.b1 .len (.call "rims" (.cons (.var 0) (.cons (.var 1) (.nil))))) (.con (.int 1))) (.nil)))) (.cons (.set 5 (.con (.int 0))) (.cons (.whl (.cmp .lt (.var 5) (.b1 .len (.var 4))) (.cons (.for_ (.nm 6) (.rng (.b1 .len (.var 3))) (.cons (.ife (.and_ (.cmp .nin (.var 6) (.var 2)) (.cmp .in_ (.ix (.var 4) (.var 5)) (.ix (.var 3) (.var 6)))) (.cons (.set 4 (.bin .add (.var 4) (.comp [7] (.nm 7) (.seq (.ix (.var 3) (.var 6))) (.so (.cmp .nin (.var 7) (.var 4))) (.var 7)))) (.nil)) (.nil)) (.nil))) (.cons (.augI 5 .add (.con (.int 1))) (.nil)))) (.cons (.ret (.comp [7] (.nm 7) (.rng (.b1 .len (.call "rims" (.cons (.var 0) (.cons (.var 1) (.nil)))))) (.so (.cmp .nin (.var 7) (.var 4))) (.var 7))) (.nil)))))
def fn_ring_rims : Fn := ⟨8, false, code_ring_rims⟩
abbrev code__law_draws : Css := .cons (.ret (.lst (.cons (.b1 .list (.var 0)) (.cons (.con (.int 0)) (.cons (.con (.int 0)) (.cons (.con (.int 1)) (.nil))))))) (.nil)
def fn__law_draws : Fn := ⟨1, false, code__law_draws⟩
abbrev code__law_draw : Css := .cons (.ife (.and_ (.cmp .eq (.ix (.var 0) (.con (.int 2))) (.con (.int 0))) (.cmp .lt (.ix (.var 0) (.con (.int 1))) (.b1 .len (.ix (.var 0) (.con (.int 0)))))) (.cons (.set 2 (.ix (.ix (.var 0) (.con (.int 0))) (.ix (.var 0) (.con (.int 1))))) (.cons (.sset 0 (.con (.int 1)) (.bin .add (.ix (.var 0) (.con (.int 1))) (.con (.int 1)))) (.cons (.ife (.cmp .ge (.var 2) (.bin .pow (.con (.int 10)) (.con (.int 18)))) (.cons (.sset 0 (.con (.int 2)) (.var 2)) (.nil)) (.nil)) (.cons (.sset 0 (.con (.int 3)) (.bin .mod (.b1 .int (.bin .add (.bin .add (.bin .mul (.ix (.var 0) (.con (.int 3))) (.con (.int 48271))) (.var 2)) (.con (.int 13)))) (.con (.int 2147483647)))) (.nil))))) (.nil)) (.cons (.ife (.cmp .gt (.ix (.var 0) (.con (.int 2))) (.con (.int 0))) (.cons (.set 3 (.bin .mod (.b1 .int (.ix (.var 0) (.con (.int 2)))) (.var 1))) (.cons (.sset 0 (.con (.int 2)) (.bin .fdiv (.ix (.var 0) (.con (.int 2))) (.var 1))) (.cons (.ret (.var 3)) (.nil)))) (.nil)) (.cons (.sset 0 (.con (.int 3)) (.bin .mod (.b1 .int (.bin .add (.bin .mul (.ix (.var 0) (.con (.int 3))) (.con (.int 69621))) (.con (.int 7)))) (.con (.int 2147483629)))) (.cons (.ret (.bin .mod (.b1 .int (.bin .fdiv (.ix (.var 0) (.con (.int 3))) (.con (.int 11)))) (.var 1))) (.nil))))
def fn__law_draw : Fn := ⟨4, true, code__law_draw⟩
abbrev code__law_same : Css := .cons (.ife (.cmp .isN (.var 1) (.con .none)) (.cons (.ret (.cmp .isN (.var 0) (.con .none))) (.nil)) (.nil)) (.cons (.ife (.isi (.var 1) [.bool]) (.cons (.ret (.and_ (.isi (.var 0) [.bool]) (.cmp .eq (.var 0) (.var 1)))) (.nil)) (.nil)) (.cons (.ife (.isi (.var 1) [.int]) (.cons (.ret (.and_ (.isi (.var 0) [.int]) (.and_ (.not_ (.isi (.var 0) [.bool])) (.cmp .eq (.var 0) (.var 1))))) (.nil)) (.nil)) (.cons (.ife (.isi (.var 1) [.str]) (.cons (.ret (.and_ (.isi (.var 0) [.str]) (.cmp .eq (.var 0) (.var 1)))) (.nil)) (.nil)) (.cons (.ife (.isi (.var 1) [.dict]) (.cons (.ife (.or_ (.not_ (.isi (.var 0) [.dict])) (.or_ (.cmp .ne (.b1 .len (.var 0)) (.b1 .len (.var 1))) (.not_ (.b1 .all (.comp [3] (.nm 3) (.seq (.var 1)) (.no) (.cmp .in_ (.var 3) (.var 0))))))) (.cons (.ret (.con (.bool false))) (.nil)) (.nil)) (.cons (.ret (.b1 .all (.comp [3] (.nm 3) (.seq (.var 1)) (.no) (.call "_law_same" (.cons (.ix (.var 0) (.var 3)) (.cons (.ix (.var 1) (.var 3)) (.nil))))))) (.nil))) (.nil)) (.cons (.ife (.isi (.var 1) [.list]) (.cons (.set 2 (.isi (.var 0) [.list])) (.nil)) (.cons (.set 2 (.isi (.var 0) [.tuple])) (.nil))) (.cons (.ret (.and_ (.var 2) (.and_ (.cmp .eq (.b1 .len (.var 0)) (.b1 .len (.var 1))) (.b1 .all (.comp [4] (.nm 4) (.rng (.b1 .len (.var 1))) (.no) (.call "_law_same" (.cons (.ix (.var 0) (.var 4)) (.cons (.ix (.var 1) (.var 4)) (.nil))))))))) (.nil)))))))
def fn__law_same : Fn := ⟨5, false, code__law_same⟩
abbrev code__law_copy : Css := .cons (.ife (.isi (.var 0) [.list]) (.cons (.ret (.comp [3] (.nm 3) (.seq (.var 0)) (.no) (.call "_law_copy" (.cons (.var 3) (.nil))))) (.nil)) (.nil)) (.cons (.ife (.isi (.var 0) [.tuple]) (.cons (.ret (.b1 .tuple (.comp [3] (.nm 3) (.seq (.var 0)) (.no) (.call "_law_copy" (.cons (.var 3) (.nil)))))) (.nil)) (.nil)) (.cons (.ife (.isi (.var 0) [.dict]) (.cons (.set 1 (.dict0)) (.cons (.for_ (.nm 2) (.seq (.var 0)) (.cons (.sset 1 (.var 2) (.call "_law_copy" (.cons (.ix (.var 0) (.var 2)) (.nil)))) (.nil))) (.cons (.ret (.var 1)) (.nil)))) (.nil)) (.cons (.ret (.var 0)) (.nil))))
def fn__law_copy : Fn := ⟨4, false, code__law_copy⟩
abbrev code__law_halves : Css := .cons (.set 1 (.lst (.nil))) (.cons (.for_ (.nm 2) (.rng (.b1 .len (.ix (.var 0) (.con (.int 2))))) (.cons (.app 1 (.tup (.cons (.var 2) (.cons (.con (.int 0)) (.nil))))) (.cons (.app 1 (.tup (.cons (.var 2) (.cons (.con (.int 1)) (.nil))))) (.nil)))) (.cons (.ret (.var 1)) (.nil)))
def fn__law_halves : Fn := ⟨3, false, code__law_halves⟩
abbrev code__law_parts : Css := .cons (.set 3 (.lst (.nil))) (.cons (.for_ (.nm 4) (.rng (.ix (.var 0) (.con (.int 1)))) (.cons (.ife (.or_ (.cmp .in_ (.var 4) (.var 2)) (.b1 .any (.comp [5] (.nm 5) (.seq (.var 3)) (.no) (.cmp .in_ (.var 4) (.var 5))))) (.cons (.cnt) (.nil)) (.nil)) (.cons (.set 5 (.lst (.cons (.var 4) (.nil)))) (.cons (.set 6 (.con (.int 0))) (.cons (.whl (.cmp .lt (.var 6) (.b1 .len (.var 5))) (.cons (.for_ (.nm 7) (.rng (.b1 .len (.ix (.var 0) (.con (.int 2))))) (.cons (.ife (.and_ (.cmp .nin (.var 7) (.var 1)) (.cmp .in_ (.ix (.var 5) (.var 6)) (.ix (.ix (.var 0) (.con (.int 2))) (.var 7)))) (.cons (.for_ (.nm 8) (.seq (.ix (.ix (.var 0) (.con (.int 2))) (.var 7))) (.cons (.ife (.and_ (.cmp .nin (.var 8) (.var 5)) (.cmp .nin (.var 8) (.var 2))) (.cons (.app 5 (.var 8)) (.nil)) (.nil)) (.nil))) (.nil)) (.nil)) (.nil))) (.cons (.set 6 (.bin .add (.var 6) (.con (.int 1)))) (.nil)))) (.cons (.app 3 (.b1 .sorted (.var 5))) (.nil))))))) (.cons (.ret (.var 3)) (.nil)))
def fn__law_parts : Fn := ⟨9, false, code__law_parts⟩
abbrev code__law_least : Css := .cons (.ife (.cmp .eq (.b1 .len (.var 0)) (.con (.int 0))) (.cons (.ret (.lst (.nil))) (.nil)) (.nil)) (.cons (.set 1 (.index (.var 0) (.b1 .min (.var 0)))) (.cons (.ret (.bin .add (.slc (.var 0) (.so (.var 1)) (.no)) (.slc (.var 0) (.no) (.so (.var 1))))) (.nil)))
def fn__law_least : Fn := ⟨2, false, code__law_least⟩
abbrev code__law_rims : Css := .cons (.set 2 (.dict0)) (.cons (.for_ (.nm 3) (.seq (.var 1)) (.cons (.for_ (.nm 7) (.rng (.b1 .len (.var 3))) (.cons (.sset 2 (.ix (.var 3) (.bin .sub (.var 7) (.con (.int 1)))) (.ix (.var 3) (.var 7))) (.nil))) (.nil))) (.cons (.set 4 (.lst (.nil))) (.cons (.set 5 (.dict0)) (.cons (.for_ (.nm 6) (.seq (.call "_law_halves" (.cons (.var 0) (.nil)))) (.cons (.ife (.cmp .nin (.var 6) (.var 5)) (.cons (.set 3 (.lst (.cons (.var 6) (.nil)))) (.cons (.sset 5 (.var 6) (.con (.bool true))) (.cons (.set 8 (.ix (.var 2) (.tup (.cons (.ix (.var 6) (.con (.int 0))) (.cons (.bin .sub (.con (.int 1)) (.ix (.var 6) (.con (.int 1)))) (.nil)))))) (.cons (.whl (.cmp .ne (.var 8) (.var 6)) (.cons (.app 3 (.var 8)) (.cons (.sset 5 (.var 8) (.con (.bool true))) (.cons (.set 8 (.ix (.var 2) (.tup (.cons (.ix (.var 8) (.con (.int 0))) (.cons (.bin .sub (.con (.int 1)) (.ix (.var 8) (.con (.int 1)))) (.nil)))))) (.nil))))) (.cons (.app 4 (.call "_law_least" (.cons (.var 3) (.nil)))) (.nil)))))) (.nil)) (.nil))) (.cons (.ret (.b1 .sorted (.var 4))) (.nil))))))
def fn__law_rims : Fn := ⟨9, false, code__law_rims⟩
abbrev code__law_genus : Css := .cons (.set 2 (.call "_law_rims" (.cons (.var 0) (.cons (.var 1) (.nil))))) (.cons (.set 3 (.con (.int 0))) (.cons (.for_ (.nm 4) (.seq (.call "_law_parts" (.cons (.var 0) (.cons (.lst (.nil)) (.cons (.lst (.nil)) (.nil)))))) (.cons (.set 5 (.comp [7] (.nm 7) (.rng (.b1 .len (.ix (.var 0) (.con (.int 2))))) (.so (.cmp .in_ (.ix (.ix (.ix (.var 0) (.con (.int 2))) (.var 7)) (.con (.int 0))) (.var 4))) (.var 7))) (.cons (.ife (.cmp .gt (.b1 .len (.var 5)) (.con (.int 0))) (.cons (.set 6 (.comp [8] (.nm 8) (.seq (.var 2)) (.so (.cmp .in_ (.ix (.ix (.var 8) (.con (.int 0))) (.con (.int 0))) (.var 5))) (.var 8))) (.cons (.set 3 (.bin .add (.var 3) (.bin .fdiv (.bin .sub (.bin .add (.bin .sub (.con (.int 2)) (.b1 .len (.var 4))) (.b1 .len (.var 5))) (.b1 .len (.var 6))) (.con (.int 2))))) (.nil))) (.nil)) (.nil)))) (.cons (.ret (.var 3)) (.nil))))
def fn__law_genus : Fn := ⟨9, false, code__law_genus⟩
abbrev code__law_laid : Css := .cons (.set 6 (.comp [8] (.nm 8) (.seq (.var 0)) (.no) (.b1 .list (.var 8)))) (.cons (.set 7 (.ite (.cmp .isN (.var 5) (.con .none)) (.con (.int 0)) (.bin .add (.index (.ix (.var 6) (.var 3)) (.var 5)) (.con (.int 1))))) (.cons (.sset 6 (.var 3) (.bin .add (.bin .add (.slc (.ix (.var 6) (.var 3)) (.no) (.so (.var 7))) (.lst (.cons (.tup (.cons (.var 1) (.cons (.con (.int 1)) (.nil)))) (.nil)))) (.slc (.ix (.var 6) (.var 3)) (.so (.var 7)) (.no)))) (.cons (.set 7 (.ite (.cmp .isN (.var 4) (.con .none)) (.con (.int 0)) (.bin .add (.index (.ix (.var 6) (.var 2)) (.var 4)) (.con (.int 1))))) (.cons (.sset 6 (.var 2) (.bin .add (.bin .add (.slc (.ix (.var 6) (.var 2)) (.no) (.so (.var 7))) (.lst (.cons (.tup (.cons (.var 1) (.cons (.con (.int 0)) (.nil)))) (.nil)))) (.slc (.ix (.var 6) (.var 2)) (.so (.var 7)) (.no)))) (.cons (.ret (.var 6)) (.nil))))))
def fn__law_laid : Fn := ⟨9, false, code__law_laid⟩
abbrev code__law_ringed : Css := .cons (.set 1 (.bin .add (.con (.int 2)) (.callM "_law_draw" 0 (.cons (.con (.int 7)) (.nil))))) (.cons (.set 2 (.comp [4] (.nm 4) (.rng (.var 1)) (.no) (.tup (.cons (.var 4) (.cons (.bin .mod (.b1 .int (.bin .add (.var 4) (.con (.int 1)))) (.var 1)) (.nil)))))) (.cons (.set 3 (.comp [4] (.nm 4) (.rng (.var 1)) (.no) (.lst (.cons (.tup (.cons (.var 4) (.cons (.con (.int 0)) (.nil)))) (.cons (.tup (.cons (.bin .mod (.b1 .int (.bin .sub (.bin .add (.var 4) (.var 1)) (.con (.int 1)))) (.var 1)) (.cons (.con (.int 1)) (.nil)))) (.nil)))))) (.cons (.for_ (.nm 4) (.rng (.callM "_law_draw" 0 (.cons (.con (.int 9)) (.nil)))) (.cons (.par2 8 9 (.callM "_law_draw" 0 (.cons (.var 1) (.nil))) (.callM "_law_draw" 0 (.cons (.var 1) (.nil)))) (.cons (.set 5 (.tup (.cons (.con (.str "web")) (.cons (.var 1) (.cons (.bin .add (.var 2) (.lst (.cons (.tup (.cons (.var 8) (.cons (.var 9) (.nil)))) (.nil)))) (.nil)))))) (.cons (.set 6 (.lst (.nil))) (.cons (.for_ (.nm 7) (.seq (.ix (.var 3) (.var 8))) (.cons (.for_ (.nm 10) (.seq (.ix (.var 3) (.var 9))) (.cons (.set 11 (.call "_law_laid" (.cons (.var 3) (.cons (.b1 .len (.var 2)) (.cons (.var 8) (.cons (.var 9) (.cons (.var 7) (.cons (.var 10) (.nil))))))))) (.cons (.ife (.cmp .eq (.call "_law_genus" (.cons (.var 5) (.cons (.var 11) (.nil)))) (.con (.int 0))) (.cons (.app 6 (.var 11)) (.nil)) (.nil)) (.nil)))) (.nil))) (.cons (.ife (.cmp .gt (.b1 .len (.var 6)) (.con (.int 0))) (.cons (.set 2 (.ix (.var 5) (.con (.int 2)))) (.cons (.set 3 (.ix (.var 6) (.callM "_law_draw" 0 (.cons (.b1 .len (.var 6)) (.nil))))) (.nil))) (.nil)) (.nil))))))) (.cons (.ret (.tup (.cons (.tup (.cons (.con (.str "web")) (.cons (.var 1) (.cons (.var 2) (.nil))))) (.cons (.var 3) (.cons (.comp [4] (.nm 4) (.rng (.var 1)) (.no) (.var 4)) (.nil)))))) (.nil)))))
def fn__law_ringed : Fn := ⟨12, true, code__law_ringed⟩
abbrev code__law_due : Css := .cons (.set 3 (.call "_law_rims" (.cons (.var 0) (.cons (.var 1) (.nil))))) (.cons (.set 4 (.dict0)) (.cons (.for_ (.nm 5) (.rng (.b1 .len (.var 3))) (.cons (.for_ (.nm 8) (.seq (.ix (.var 3) (.var 5))) (.cons (.sset 4 (.var 8) (.var 5)) (.nil))) (.nil))) (.cons (.set 6 (.lst (.cons (.bin .sub (.b1 .len (.var 3)) (.con (.int 1))) (.nil)))) (.cons (.set 7 (.con (.int 0))) (.cons (.whl (.cmp .lt (.var 7) (.b1 .len (.var 6))) (.cons (.for_ (.nm 9) (.rng (.b1 .len (.ix (.var 0) (.con (.int 2))))) (.cons (.set 10 (.lst (.cons (.ix (.var 4) (.tup (.cons (.var 9) (.cons (.con (.int 0)) (.nil))))) (.cons (.ix (.var 4) (.tup (.cons (.var 9) (.cons (.con (.int 1)) (.nil))))) (.nil))))) (.cons (.ife (.and_ (.cmp .nin (.var 9) (.var 2)) (.cmp .in_ (.ix (.var 6) (.var 7)) (.var 10))) (.cons (.set 6 (.bin .add (.var 6) (.comp [11] (.nm 11) (.seq (.var 10)) (.so (.cmp .nin (.var 11) (.var 6))) (.var 11)))) (.nil)) (.nil)) (.nil)))) (.cons (.set 7 (.bin .add (.var 7) (.con (.int 1)))) (.nil)))) (.cons (.ret (.comp [5] (.nm 5) (.rng (.b1 .len (.var 3))) (.so (.cmp .nin (.var 5) (.var 6))) (.var 5))) (.nil)))))))
def fn__law_due : Fn := ⟨12, false, code__law_due⟩
abbrev code__law_shorter : Css := .cons (.set 2 (.lst (.nil))) (.cons (.for_ (.nm 3) (.rng2 (.b1 .len (.var 1)) (.b1 .len (.ix (.var 0) (.con (.int 2))))) (.cons (.unp (.tp (.cons (.nm 4) (.cons (.nm 5) (.nil)))) (.b1 .sorted (.ix (.ix (.var 0) (.con (.int 2))) (.var 3)))) (.cons (.app 2 (.bin .add (.comp [6] (.nm 6) (.rng2 (.var 4) (.var 5)) (.no) (.var 6)) (.lst (.cons (.var 3) (.nil))))) (.nil)))) (.cons (.ret (.var 2)) (.nil)))
def fn__law_shorter : Fn := ⟨7, false, code__law_shorter⟩
abbrev code__law_both : Css := .cons (.set 2 (.lst (.nil))) (.cons (.for_ (.nm 3) (.seq (.tup (.cons (.con (.int 0)) (.cons (.con (.int 1)) (.nil))))) (.cons (.set 2 (.bin .add (.var 2) (.comp [4] (.nm 4) (.rng (.b1 .len (.var 0))) (.so (.cmp .in_ (.tup (.cons (.var 1) (.cons (.var 3) (.nil)))) (.ix (.var 0) (.var 4)))) (.var 4)))) (.nil))) (.cons (.ret (.var 2)) (.nil)))
def fn__law_both : Fn := ⟨5, false, code__law_both⟩
abbrev code_law : Css := .cons (.set 1 (.callF "_law_draws" (.cons (.var 0) (.nil)))) (.cons (.for_ (.nm 2) (.rng (.con (.int 3))) (.cons (.unp (.tp (.cons (.nm 7) (.cons (.nm 8) (.cons (.nm 9) (.nil))))) (.callM "_law_ringed" 1 (.nil))) (.cons (.set 3 (.call "_law_copy" (.cons (.lst (.cons (.var 7) (.cons (.var 8) (.nil)))) (.nil)))) (.cons (.set 4 (.call "_law_rims" (.cons (.var 7) (.cons (.var 8) (.nil))))) (.cons (.set 5 (.bin .add (.lst (.cons (.var 9) (.nil))) (.call "_law_shorter" (.cons (.var 7) (.cons (.var 9) (.nil)))))) (.cons (.for_ (.nm 6) (.seq (.bin .add (.slc (.var 5) (.no) (.so (.con (.int 1)))) (.comp [15] (.nm 15) (.rng (.con (.int 2))) (.no) (.ix (.var 5) (.callM "_law_draw" 1 (.cons (.b1 .len (.var 5)) (.nil))))))) (.cons (.set 10 (.call "_law_due" (.cons (.var 7) (.cons (.var 8) (.cons (.var 6) (.nil)))))) (.cons (.set 11 (.b1 .sum (.comp [15] (.nm 15) (.rng (.b1 .len (.var 4))) (.no) (.bin .mul (.bin .sub (.b1 .len (.ix (.var 4) (.var 15))) (.con (.int 2))) (.ite (.cmp .in_ (.var 15) (.var 10)) (.con (.int 1)) (.neg (.con (.int 1)))))))) (.cons (.ife (.not_ (.call "_law_same" (.cons (.call "ring_rims" (.cons (.ix (.var 3) (.con (.int 0))) (.cons (.ix (.var 3) (.con (.int 1))) (.cons (.b1 .list (.var 6)) (.nil))))) (.cons (.var 10) (.nil))))) (.cons (.ret (.con (.bool false))) (.nil)) (.nil)) (.cons (.ife (.or_ (.not_ (.call "_law_same" (.cons (.call "room_rule" (.cons (.ix (.var 3) (.con (.int 0))) (.cons (.ix (.var 3) (.con (.int 1))) (.cons (.b1 .list (.var 6)) (.nil))))) (.cons (.var 11) (.nil))))) (.and_ (.cmp .eq (.var 6) (.var 9)) (.cmp .ne (.var 11) (.con (.int 0))))) (.cons (.ret (.con (.bool false))) (.nil)) (.nil)) (.cons (.set 12 (.lst (.nil))) (.cons (.for_ (.nm 13) (.rng (.b1 .len (.ix (.var 7) (.con (.int 2))))) (.cons (.set 14 (.call "_law_both" (.cons (.var 4) (.cons (.var 13) (.nil))))) (.cons (.ife (.cmp .ne (.cmp .in_ (.ix (.var 14) (.con (.int 0))) (.var 10)) (.cmp .in_ (.ix (.var 14) (.con (.int 1))) (.var 10))) (.cons (.app 12 (.var 13)) (.nil)) (.nil)) (.nil)))) (.cons (.ife (.cmp .ne (.var 12) (.b1 .sorted (.var 6))) (.cons (.ret (.con (.bool false))) (.nil)) (.nil)) (.nil))))))))) (.cons (.ife (.not_ (.call "_law_same" (.cons (.var 3) (.cons (.lst (.cons (.var 7) (.cons (.var 8) (.nil)))) (.nil))))) (.cons (.ret (.con (.bool false))) (.nil)) (.nil)) (.nil)))))))) (.cons (.ret (.con (.bool true))) (.nil)))
def fn_law : Fn := ⟨16, false, code_law⟩
def tbl : List (Str × Fn) := [("all_halves", fn_all_halves), ("other", fn_other), ("nexts", fn_nexts), ("rims", fn_rims), ("sides_of", fn_sides_of), ("room_rule", fn_room_rule), ("ring_rims", fn_ring_rims), ("_law_draws", fn__law_draws), ("_law_draw", fn__law_draw), ("_law_same", fn__law_same), ("_law_copy", fn__law_copy), ("_law_halves", fn__law_halves), ("_law_parts", fn__law_parts), ("_law_least", fn__law_least), ("_law_rims", fn__law_rims), ("_law_genus", fn__law_genus), ("_law_laid", fn__law_laid), ("_law_ringed", fn__law_ringed), ("_law_due", fn__law_due), ("_law_shorter", fn__law_shorter), ("_law_both", fn__law_both), ("law", fn_law)]
def prog (x : Str) : Option Fn := tbl.lookup x
abbrev tab (W n : Nat) : Tab := tabOf W prog n
theorem pr_all_halves : prog "all_halves" = some fn_all_halves := by rfl
theorem pr_other : prog "other" = some fn_other := by rfl
theorem pr_nexts : prog "nexts" = some fn_nexts := by rfl
theorem pr_rims : prog "rims" = some fn_rims := by rfl
theorem pr_sides_of : prog "sides_of" = some fn_sides_of := by rfl
theorem pr_room_rule : prog "room_rule" = some fn_room_rule := by rfl
theorem pr_ring_rims : prog "ring_rims" = some fn_ring_rims := by rfl
theorem pr__law_draws : prog "_law_draws" = some fn__law_draws := by rfl
theorem pr__law_draw : prog "_law_draw" = some fn__law_draw := by rfl
theorem pr__law_same : prog "_law_same" = some fn__law_same := by rfl
theorem pr__law_copy : prog "_law_copy" = some fn__law_copy := by rfl
theorem pr__law_halves : prog "_law_halves" = some fn__law_halves := by rfl
theorem pr__law_parts : prog "_law_parts" = some fn__law_parts := by rfl
theorem pr__law_least : prog "_law_least" = some fn__law_least := by rfl
theorem pr__law_rims : prog "_law_rims" = some fn__law_rims := by rfl
theorem pr__law_genus : prog "_law_genus" = some fn__law_genus := by rfl
theorem pr__law_laid : prog "_law_laid" = some fn__law_laid := by rfl
theorem pr__law_ringed : prog "_law_ringed" = some fn__law_ringed := by rfl
theorem pr__law_due : prog "_law_due" = some fn__law_due := by rfl
theorem pr__law_shorter : prog "_law_shorter" = some fn__law_shorter := by rfl
theorem pr__law_both : prog "_law_both" = some fn__law_both := by rfl
theorem pr_law : prog "law" = some fn_law := by rfl
theorem t_all_halves (W n : Nat) (ds : List D) : tab W (n + 1) "all_halves" ds = runF (tab W n) W fn_all_halves ds := tabOf_succ pr_all_halves ds
theorem t_other (W n : Nat) (ds : List D) : tab W (n + 1) "other" ds = runF (tab W n) W fn_other ds := tabOf_succ pr_other ds
theorem t_nexts (W n : Nat) (ds : List D) : tab W (n + 1) "nexts" ds = runF (tab W n) W fn_nexts ds := tabOf_succ pr_nexts ds
theorem t_rims (W n : Nat) (ds : List D) : tab W (n + 1) "rims" ds = runF (tab W n) W fn_rims ds := tabOf_succ pr_rims ds
theorem t_sides_of (W n : Nat) (ds : List D) : tab W (n + 1) "sides_of" ds = runF (tab W n) W fn_sides_of ds := tabOf_succ pr_sides_of ds
theorem t_room_rule (W n : Nat) (ds : List D) : tab W (n + 1) "room_rule" ds = runF (tab W n) W fn_room_rule ds := tabOf_succ pr_room_rule ds
theorem t_ring_rims (W n : Nat) (ds : List D) : tab W (n + 1) "ring_rims" ds = runF (tab W n) W fn_ring_rims ds := tabOf_succ pr_ring_rims ds
theorem t__law_draws (W n : Nat) (ds : List D) : tab W (n + 1) "_law_draws" ds = runF (tab W n) W fn__law_draws ds := tabOf_succ pr__law_draws ds
theorem t__law_draw (W n : Nat) (ds : List D) : tab W (n + 1) "_law_draw" ds = runF (tab W n) W fn__law_draw ds := tabOf_succ pr__law_draw ds
theorem t__law_same (W n : Nat) (ds : List D) : tab W (n + 1) "_law_same" ds = runF (tab W n) W fn__law_same ds := tabOf_succ pr__law_same ds
theorem t__law_copy (W n : Nat) (ds : List D) : tab W (n + 1) "_law_copy" ds = runF (tab W n) W fn__law_copy ds := tabOf_succ pr__law_copy ds
theorem t__law_halves (W n : Nat) (ds : List D) : tab W (n + 1) "_law_halves" ds = runF (tab W n) W fn__law_halves ds := tabOf_succ pr__law_halves ds
theorem t__law_parts (W n : Nat) (ds : List D) : tab W (n + 1) "_law_parts" ds = runF (tab W n) W fn__law_parts ds := tabOf_succ pr__law_parts ds
theorem t__law_least (W n : Nat) (ds : List D) : tab W (n + 1) "_law_least" ds = runF (tab W n) W fn__law_least ds := tabOf_succ pr__law_least ds
theorem t__law_rims (W n : Nat) (ds : List D) : tab W (n + 1) "_law_rims" ds = runF (tab W n) W fn__law_rims ds := tabOf_succ pr__law_rims ds
theorem t__law_genus (W n : Nat) (ds : List D) : tab W (n + 1) "_law_genus" ds = runF (tab W n) W fn__law_genus ds := tabOf_succ pr__law_genus ds
theorem t__law_laid (W n : Nat) (ds : List D) : tab W (n + 1) "_law_laid" ds = runF (tab W n) W fn__law_laid ds := tabOf_succ pr__law_laid ds
theorem t__law_ringed (W n : Nat) (ds : List D) : tab W (n + 1) "_law_ringed" ds = runF (tab W n) W fn__law_ringed ds := tabOf_succ pr__law_ringed ds
theorem t__law_due (W n : Nat) (ds : List D) : tab W (n + 1) "_law_due" ds = runF (tab W n) W fn__law_due ds := tabOf_succ pr__law_due ds
theorem t__law_shorter (W n : Nat) (ds : List D) : tab W (n + 1) "_law_shorter" ds = runF (tab W n) W fn__law_shorter ds := tabOf_succ pr__law_shorter ds
theorem t__law_both (W n : Nat) (ds : List D) : tab W (n + 1) "_law_both" ds = runF (tab W n) W fn__law_both ds := tabOf_succ pr__law_both ds
theorem t_law (W n : Nat) (ds : List D) : tab W (n + 1) "law" ds = runF (tab W n) W fn_law ds := tabOf_succ pr_law ds
end K95

set_option linter.all false
set_option Elab.async false
/-! K95M: rims, labellings, rings: no program in sight. -/
namespace K95
abbrev Hf := Nat × Nat
def oth (h : Hf) : Hf := (h.1, 1 - h.2)
def InH (m : Nat) (h : Hf) : Prop := h.1 < m ∧ h.2 ≤ 1
theorem oth_oth {m : Nat} {h : Hf} (hh : InH m h) : oth (oth h) = h := by
  obtain ⟨t, s⟩ := h
  have : s ≤ 1 := hh.2
  show (t, 1 - (1 - s)) = (t, s)
  rw [show 1 - (1 - s) = s by omega]
theorem oth_in {m : Nat} {h : Hf} (hh : InH m h) : InH m (oth h) := ⟨hh.1, Nat.sub_le 1 h.2⟩
theorem oth_inj {m : Nat} {g h : Hf} (hg : InH m g) (hh : InH m h) (e : oth g = oth h) : g = h := by
  rw [← oth_oth hg, ← oth_oth hh, e]
theorem half_cases {m : Nat} {h : Hf} (hh : InH m h) : h = (h.1, 0) ∨ h = (h.1, 1) := by
  obtain ⟨t, s⟩ := h
  have : s ≤ 1 := hh.2
  have : s = 0 ∨ s = 1 := by omega
  rcases this with rfl | rfl
  · exact .inl rfl
  · exact .inr rfl
/-! ### pigeons -/
theorem pig {α : Type} [DecidableEq α] : ∀ {l s : List α}, l.Nodup → (∀ x ∈ l, x ∈ s) → l.length ≤ s.length
  | [], _, _, _ => Nat.zero_le _
  | a :: l, s, nd, sub => by
    obtain ⟨na, nl⟩ := List.nodup_cons.mp nd
    have ha := sub a (List.mem_cons_self ..)
    have : l.length ≤ (s.erase a).length := pig nl fun x hx => (List.mem_erase_of_ne (by rintro rfl; exact na hx)).mpr (sub x (List.mem_cons_of_mem _ hx))
    rw [List.length_erase_of_mem ha] at this
    have : 0 < s.length := List.length_pos_of_mem ha
    show l.length + 1 ≤ _
    omega
theorem pig_all {α : Type} [DecidableEq α] {l s : List α} (nd : l.Nodup) (sub : ∀ x ∈ l, x ∈ s) (h : s.length ≤ l.length) {x : α} (hx : x ∈ s) : x ∈ l := by
  refine Classical.byContradiction fun n => ?_
  have := pig (l := x :: l) (s := s) (List.nodup_cons.mpr ⟨n, nd⟩) fun y hy => by
    rcases List.mem_cons.mp hy with rfl | hy
    · exact hx
    · exact sub y hy
  simp at this
  omega
/-! ### the next in a row -/
def nx1 (a0 : Hf) : List Hf → Hf → Option Hf
  | [], _ => none
  | [a], h => if h = a then some a0 else none
  | a :: b :: r, h => if h = a then some b else nx1 a0 (b :: r) h
def nxR : List Hf → Hf → Option Hf
  | [], _ => none
  | a :: r, h => nx1 a (a :: r) h
/-- z put behind u -/
def ins (row : List Hf) (u z : Hf) : List Hf := match row with
  | [] => []
  | a :: r => if a = u then a :: z :: r else a :: ins r u z
theorem nx1_mem {a0 : Hf} : ∀ {l : List Hf} {h g : Hf}, nx1 a0 l h = some g → h ∈ l ∧ (g = a0 ∨ g ∈ l)
  | [], _, _, e => by cases e
  | [a], h, g, e => by
    unfold nx1 at e
    split at e
    · rename_i q; subst q; cases e; exact ⟨List.mem_singleton.mpr rfl, .inl rfl⟩
    · cases e
  | a :: b :: r, h, g, e => by
    unfold nx1 at e
    split at e
    · rename_i q; subst q; cases e; exact ⟨List.mem_cons_self .., .inr (List.mem_cons_of_mem _ (List.mem_cons_self ..))⟩
    · obtain ⟨h1, h2⟩ := nx1_mem e
      exact ⟨List.mem_cons_of_mem _ h1, h2.imp id (List.mem_cons_of_mem _)⟩
theorem nxR_mem {row : List Hf} {h g : Hf} (e : nxR row h = some g) : h ∈ row ∧ g ∈ row := by
  cases row with
  | nil => cases e
  | cons a r =>
    obtain ⟨h1, h2⟩ := nx1_mem e
    refine ⟨h1, ?_⟩
    rcases h2 with rfl | h2
    · exact List.mem_cons_self ..
    · exact h2
theorem nx1_some {a0 : Hf} : ∀ {l : List Hf} {h : Hf}, h ∈ l → ∃ g, nx1 a0 l h = some g
  | [a], h, e => ⟨a0, by unfold nx1; rw [if_pos (List.mem_singleton.mp e)]⟩
  | a :: b :: r, h, e => by
    unfold nx1
    by_cases q : h = a
    · exact ⟨b, by rw [if_pos q]⟩
    · rw [if_neg q]
      exact nx1_some ((List.mem_cons.mp e).resolve_left q)
theorem nxR_some {row : List Hf} {h : Hf} (e : h ∈ row) : ∃ g, nxR row h = some g := by
  cases row with
  | nil => cases e
  | cons a r => exact nx1_some e
/-- in a row without doubles each has one before it -/
theorem nx1_inj {a0 : Hf} : ∀ {l : List Hf}, l.Nodup → (∀ b r, l = b :: r → a0 ∉ r) → ∀ {h h' g : Hf}, nx1 a0 l h = some g → nx1 a0 l h' = some g → h = h'
  | [], _, _, _, _, _, e, _ => by cases e
  | [a], _, _, h, h', g, e, e' => by
    unfold nx1 at e e'
    split at e <;> split at e' <;> first | (cases e; done) | (cases e'; done) | skip
    rename_i p q; rw [p, q]
  | a :: b :: r, nd, na, h, h', g, e, e' => by
    obtain ⟨n1, n2⟩ := List.nodup_cons.mp nd
    have na' : a0 ∉ b :: r := na a _ rfl
    have later : ∀ {k : Hf}, nx1 a0 (b :: r) k = some b → False := fun {k} q => by
      -- b comes first in what is left, and is not a0
      have : ∀ {l : List Hf} {k : Hf}, b ∉ l → b ≠ a0 → ∀ c, nx1 a0 (c :: l) k ≠ some b := by
        intro l
        induction l with
        | nil =>
          intro k _ hb c q
          unfold nx1 at q
          split at q
          · cases q; exact hb rfl
          · cases q
        | cons d l ih =>
          intro k hn hb c q
          unfold nx1 at q
          split at q
          · cases q; exact hn (List.mem_cons_self ..)
          · exact ih (fun z => hn (List.mem_cons_of_mem _ z)) hb d q
      exact this (List.nodup_cons.mp n2).1 (by rintro rfl; exact na' (List.mem_cons_self ..)) b q
    unfold nx1 at e e'
    split at e <;> split at e'
    · rename_i p q; rw [p, q]
    · cases e; exact (later e').elim
    · cases e'; exact (later e).elim
    · exact nx1_inj n2 (fun c s h z => by cases h; exact na' (List.mem_cons_of_mem _ z)) e e'
theorem nxR_inj {row : List Hf} (nd : row.Nodup) {h h' g : Hf} (e : nxR row h = some g) (e' : nxR row h' = some g) : h = h' := by
  cases row with
  | nil => cases e
  | cons a r => exact nx1_inj nd (fun b s h => by cases h; exact (List.nodup_cons.mp nd).1) e e'
theorem ins_ne {u z a : Hf} {r : List Hf} : ∃ r', ins (a :: r) u z = a :: r' := by
  unfold ins
  split
  · exact ⟨_, rfl⟩
  · exact ⟨_, rfl⟩
theorem nx1_ins {a0 u z : Hf} : ∀ {l : List Hf}, l.Nodup → z ∉ l → u ∈ l → (nx1 a0 (ins l u z) u = some z) ∧ (nx1 a0 (ins l u z) z = nx1 a0 l u) ∧ ∀ g, g ≠ u → g ≠ z → nx1 a0 (ins l u z) g = nx1 a0 l g
  | [a], _, nz, hu => by
    obtain rfl := List.mem_singleton.mp hu
    have nz : z ≠ u := fun e => nz (List.mem_singleton.mpr e)
    have e1 : ins [u] u z = [u, z] := by unfold ins; rw [if_pos rfl]
    rw [e1]
    refine ⟨by simp [nx1], by simp [nx1, nz], fun g h1 h2 => by simp [nx1, h1, h2]⟩
  | a :: b :: r, nd, nz, hu => by
    obtain ⟨n1, n2⟩ := List.nodup_cons.mp nd
    have nza : z ≠ a := fun e => nz (e ▸ List.mem_cons_self ..)
    by_cases q : a = u
    · subst q
      have e1 : ins (a :: b :: r) a z = a :: z :: b :: r := by rw [ins, if_pos rfl]
      rw [e1]
      refine ⟨by simp [nx1], by simp [nx1, nza], fun g h1 h2 => by simp [nx1, h1, h2]⟩
    · have hu' : u ∈ b :: r := (List.mem_cons.mp hu).resolve_left fun e => q e.symm
      obtain ⟨i1, i2, i3⟩ := nx1_ins (a0 := a0) n2 (fun h => nz (List.mem_cons_of_mem _ h)) hu'
      have e1 : ins (a :: b :: r) u z = a :: ins (b :: r) u z := by rw [ins, if_neg q]
      obtain ⟨r', e2⟩ := ins_ne (u := u) (z := z) (a := b) (r := r)
      rw [e2] at i1 i2 i3
      rw [e1, e2]
      refine ⟨?_, ?_, fun g h1 h2 => ?_⟩
      · rw [nx1, if_neg fun e => q e.symm]; exact i1
      · rw [nx1, if_neg nza, i2]
        conv => rhs; rw [nx1, if_neg fun e => q e.symm]
      · rw [nx1]
        conv => rhs; rw [nx1]
        by_cases qa : g = a
        · rw [if_pos qa, if_pos qa]
        · rw [if_neg qa, if_neg qa, i3 g h1 h2]
theorem nxR_ins {row : List Hf} {u z : Hf} (nd : row.Nodup) (nz : z ∉ row) (hu : u ∈ row) : nxR (ins row u z) u = some z ∧ nxR (ins row u z) z = nxR row u ∧ ∀ g, g ≠ u → g ≠ z → nxR (ins row u z) g = nxR row g := by
  cases row with
  | nil => cases hu
  | cons a r =>
    obtain ⟨r', e⟩ := ins_ne (u := u) (z := z) (a := a) (r := r)
    have := nx1_ins (a0 := a) nd nz hu
    rw [e] at this ⊢
    exact this
theorem mem_ins {u z g : Hf} : ∀ {row : List Hf}, u ∈ row → (g ∈ ins row u z ↔ g ∈ row ∨ g = z)
  | [], h => by cases h
  | a :: r, h => by
    rw [ins]
    by_cases q : a = u
    · rw [if_pos q]; simp only [List.mem_cons]
      constructor
      · rintro (h | h | h)
        · exact .inl (.inl h)
        · exact .inr h
        · exact .inl (.inr h)
      · rintro ((h | h) | h)
        · exact .inl h
        · exact .inr (.inr h)
        · exact .inr (.inl h)
    · rw [if_neg q, List.mem_cons, mem_ins ((List.mem_cons.mp h).resolve_left fun e => q e.symm), List.mem_cons, or_assoc]
theorem nodup_ins {u z : Hf} : ∀ {row : List Hf}, u ∈ row → row.Nodup → z ∉ row → (ins row u z).Nodup
  | [], h, _, _ => by cases h
  | a :: r, h, nd, nz => by
    obtain ⟨n1, n2⟩ := List.nodup_cons.mp nd
    rw [ins]
    by_cases q : a = u
    · rw [if_pos q]
      refine List.nodup_cons.mpr ⟨fun e => ?_, List.nodup_cons.mpr ⟨fun e => nz (List.mem_cons_of_mem _ e), n2⟩⟩
      rcases List.mem_cons.mp e with e | e
      · exact nz (e ▸ List.mem_cons_self ..)
      · exact n1 e
    · have hu := (List.mem_cons.mp h).resolve_left fun e => q e.symm
      rw [if_neg q]
      refine List.nodup_cons.mpr ⟨fun e => ?_, nodup_ins hu n2 fun e => nz (List.mem_cons_of_mem _ e)⟩
      rcases (mem_ins hu).mp e with e | e
      · exact n1 e
      · exact nz (e ▸ List.mem_cons_self ..)
/-! ### parity -/
def px (b : Hf → Bool) : List Hf → Bool
  | [] => false
  | g :: r => xor (b g) (px b r)
theorem px_none {b : Hf → Bool} : ∀ {row : List Hf}, (∀ g ∈ row, b g = false) → px b row = false
  | [], _ => rfl
  | g :: r, h => by rw [px, h g (List.mem_cons_self ..), px_none fun x hx => h x (List.mem_cons_of_mem _ hx)]; rfl
theorem px_one {b : Hf → Bool} {u : Hf} : ∀ {row : List Hf}, row.Nodup → u ∈ row → (∀ g ∈ row, g ≠ u → b g = false) → px b row = b u
  | [], _, h, _ => by cases h
  | g :: r, nd, hu, h => by
    obtain ⟨n1, n2⟩ := List.nodup_cons.mp nd
    rw [px]
    by_cases q : g = u
    · subst q
      rw [px_none fun x hx => h x (List.mem_cons_of_mem _ hx) (by rintro rfl; exact n1 hx), Bool.xor_false]
    · rw [h g (List.mem_cons_self ..) q, px_one n2 ((List.mem_cons.mp hu).resolve_left fun e => q e.symm) fun x hx => h x (List.mem_cons_of_mem _ hx), Bool.false_xor]
theorem px_two {b : Hf → Bool} {u v : Hf} (ne : u ≠ v) : ∀ {row : List Hf}, row.Nodup → u ∈ row → v ∈ row → (∀ g ∈ row, g ≠ u → g ≠ v → b g = false) → px b row = xor (b u) (b v)
  | [], _, h, _, _ => by cases h
  | g :: r, nd, hu, hv, h => by
    obtain ⟨n1, n2⟩ := List.nodup_cons.mp nd
    rw [px]
    by_cases q : g = u
    · subst q
      rw [px_one n2 ((List.mem_cons.mp hv).resolve_left fun e => ne e.symm) fun x hx hxv => h x (List.mem_cons_of_mem _ hx) (by rintro rfl; exact n1 hx) hxv]
    · by_cases q' : g = v
      · subst q'
        rw [px_one n2 ((List.mem_cons.mp hu).resolve_left ne) fun x hx hxu => h x (List.mem_cons_of_mem _ hx) hxu (by rintro rfl; exact n1 hx), Bool.xor_comm]
      · rw [h g (List.mem_cons_self ..) q q', px_two ne n2 ((List.mem_cons.mp hu).resolve_left fun e => q e.symm) ((List.mem_cons.mp hv).resolve_left fun e => q' e.symm) fun x hx => h x (List.mem_cons_of_mem _ hx), Bool.false_xor]
theorem px_xor {b c : Hf → Bool} : ∀ row : List Hf, px (fun g => xor (b g) (c g)) row = xor (px b row) (px c row)
  | [] => rfl
  | g :: r => by
    simp only [px]
    rw [px_xor r]
    cases b g <;> cases c g <;> cases px b r <;> cases px c r <;> rfl
/-- round a row -/
theorem px_round {L : Hf → Bool} {a0 : Hf} : ∀ {l : List Hf}, l.Nodup → (∀ h g, nx1 a0 l h = some g → L g = L (oth h)) → ∀ b r, l = b :: r → px (fun g => xor (L g) (L (oth g))) l = xor (L b) (L a0)
  | [a], _, h, b, r, e => by
    cases e
    have := h a a0 (by unfold nx1; rw [if_pos rfl])
    simp only [px]
    rw [this, Bool.xor_false]
  | a :: c :: s, nd, h, b, r, e => by
    cases e
    obtain ⟨n1, n2⟩ := List.nodup_cons.mp nd
    have e1 := h a c (by unfold nx1; rw [if_pos rfl])
    have ih := px_round n2 (L := L) (a0 := a0) (fun x g e => h x g (by
      rw [nx1, if_neg]
      · exact e
      · rintro rfl; exact n1 (nx1_mem e).1)) c s rfl
    rw [px, ih, e1]
    cases L a <;> cases L (oth a) <;> cases L a0 <;> rfl
theorem px_row {L : Hf → Bool} {row : List Hf} (nd : row.Nodup) (h : ∀ g g', nxR row g = some g' → L g' = L (oth g)) : px (fun g => xor (L g) (L (oth g))) row = false := by
  cases row with
  | nil => rfl
  | cons a r =>
    rw [px_round nd h a r rfl, Bool.xor_self]
end K95

set_option linter.all false
set_option Elab.async false
/-! K95N: the rims of a map of halves. -/
namespace K95
/-- each one is followed by its image -/
def Ch (f : Hf → Hf) : List Hf → Prop
  | a :: b :: r => f a = b ∧ Ch f (b :: r)
  | _ => True
theorem Ch.tail {f : Hf → Hf} {a : Hf} : ∀ {r : List Hf}, Ch f (a :: r) → Ch f r
  | [], _ => trivial
  | _ :: _, h => h.2
theorem Ch.pre {f : Hf → Hf} : ∀ {p q : List Hf}, Ch f (p ++ q) → Ch f p
  | [], _, _ => trivial
  | [_], _, _ => trivial
  | a :: b :: r, q, h => ⟨h.1, Ch.pre (p := b :: r) h.2⟩
theorem Ch.suf {f : Hf → Hf} : ∀ {p q : List Hf}, Ch f (p ++ q) → Ch f q
  | [], _, h => h
  | a :: p, q, h => Ch.suf (p := p) (Ch.tail (r := p ++ q) h)
theorem Ch.mid {f : Hf → Hf} {a b : Hf} {p q : List Hf} (h : Ch f (p ++ a :: b :: q)) : f a = b := (Ch.suf (p := p) h).1
theorem Ch.snoc {f : Hf → Hf} {c : Hf} : ∀ {p : List Hf} {a : Hf}, Ch f (p ++ [a]) → f a = c → Ch f (p ++ [a] ++ [c])
  | [], a, _, e => ⟨e, trivial⟩
  | [x], a, h, e => ⟨h.1, e, trivial⟩
  | x :: y :: p, a, h, e => ⟨h.1, Ch.snoc (p := y :: p) h.2 e⟩
structure Per (m : Nat) (f : Hf → Hf) : Prop where
  to : ∀ h, InH m h → InH m (f h)
  inj : ∀ g h, InH m g → InH m h → f g = f h → g = h
/-- a rim -/
structure Cyc (m : Nat) (f : Hf → Hf) (a : Hf) (r : List Hf) : Prop where
  ch : Ch f (a :: r)
  nd : (a :: r).Nodup
  cl : ∀ p z, a :: r = p ++ [z] → f z = a
  sub : ∀ g ∈ a :: r, InH m g
theorem last_ex {α : Type} (a : α) (r : List α) : ∃ p z, a :: r = p ++ [z] := ⟨(a :: r).dropLast, (a :: r).getLast (by simp), (List.dropLast_concat_getLast (by simp)).symm⟩
section
variable {m : Nat} {f : Hf → Hf}
/-- an element of a chain is the first or comes behind another -/
theorem before {a g : Hf} {r : List Hf} (h : g ∈ r) : ∃ p q x, a :: r = p ++ x :: g :: q := by
  obtain ⟨s, t, e⟩ := List.append_of_mem h
  obtain ⟨p, x, e2⟩ := last_ex a s
  exact ⟨p, t, x, by rw [e, ← List.cons_append, e2]; simp⟩
theorem Cyc.next {a : Hf} {r : List Hf} (c : Cyc m f a r) {g : Hf} (h : g ∈ a :: r) : f g ∈ a :: r := by
  obtain ⟨s, t, e⟩ := List.append_of_mem h
  cases t with
  | nil =>
    rw [c.cl s g e]
    exact List.mem_cons_self ..
  | cons b t =>
    have := c.ch
    rw [e] at this
    rw [this.mid, e]
    simp
theorem Cyc.prev {a : Hf} {r : List Hf} (P : Per m f) (c : Cyc m f a r) {g : Hf} (hg : InH m g) (h : f g ∈ a :: r) : g ∈ a :: r := by
  rcases List.mem_cons.mp h with e | h'
  · obtain ⟨p, z, e2⟩ := last_ex a r
    have hz : z ∈ a :: r := by rw [e2]; simp
    have := P.inj g z hg (c.sub z hz) (by rw [e, c.cl p z e2])
    rw [this]; exact hz
  · obtain ⟨p, q, x, e2⟩ := before (a := a) h'
    have hx : x ∈ a :: r := by rw [e2]; simp
    have hc := c.ch
    rw [e2] at hc
    have := P.inj g x hg (c.sub x hx) hc.mid.symm
    rw [this]; exact hx
/-- a labelling that goes with f is one on a rim -/
theorem ch_const {L : Hf → Bool} : ∀ {a : Hf} {r : List Hf}, Ch f (a :: r) → (∀ g ∈ a :: r, L (f g) = L g) → ∀ g ∈ a :: r, L g = L a
  | a, [], _, _, g, h => by rw [List.mem_singleton.mp h]
  | a, b :: r, c, hL, g, h => by
    rcases List.mem_cons.mp h with rfl | h
    · rfl
    · rw [ch_const c.2 (fun x hx => hL x (List.mem_cons_of_mem _ hx)) g h, ← c.1]
      exact hL a (List.mem_cons_self ..)
/-- .. but for one link -/
theorem cyc_cut {L : Hf → Bool} {a u : Hf} {r : List Hf} (c : Cyc m f a r) (hu : u ∈ a :: r) (hL : ∀ g ∈ a :: r, g ≠ u → L (f g) = L g) : L (f u) = L u := by
  obtain ⟨s, t, e⟩ := List.append_of_mem hu
  have nd := c.nd
  rw [e] at nd
  have hc := c.ch
  rw [e] at hc
  obtain ⟨n1, n2, n3⟩ := List.nodup_append.mp nd
  have nt : u ∉ t := (List.nodup_cons.mp n2).1
  have ns : u ∉ s := fun h => n3 u h u (List.mem_cons_self ..) rfl
  have mem : ∀ g, g ∈ s ∨ g ∈ t → g ∈ a :: r := fun g h => by rw [e]; simp; rcases h with h | h <;> simp [h]
  -- along s up to u
  have up : ∀ x s', s = x :: s' → L u = L x := fun x s' es => by
    subst es
    -- chain x :: s' ++ [u]
    have h1 : Ch f ((x :: s') ++ [u]) := Ch.pre (q := t) (by simpa using hc)
    have : ∀ (l : List Hf) (x : Hf), Ch f (x :: l ++ [u]) → (∀ g ∈ x :: l, L (f g) = L g) → L u = L x := by
      intro l
      induction l with
      | nil => intro x h hl; rw [← hl x (List.mem_cons_self ..)]; exact congrArg L h.1.symm
      | cons y l ih => intro x h hl; rw [ih y h.2 fun g hg => hl g (List.mem_cons_of_mem _ hg), ← hl x (List.mem_cons_self ..)]; exact congrArg L h.1.symm
    exact this s' x h1 fun g hg => hL g (mem g (.inl hg)) (by rintro rfl; exact ns hg)
  cases t with
  | nil =>
    have q := c.cl s u (by rw [e])
    rw [q]
    cases s with
    | nil => have : a = u := by simpa using (List.cons.inj e).1
             rw [this]
    | cons x s' =>
      have : a = x := (List.cons.inj e).1
      rw [this]; exact (up x s' rfl).symm
  | cons y t =>
    have e1 : f u = y := hc.mid
    rw [e1]
    -- along y :: t to the end, then to the front
    have h1 : Ch f (y :: t) := Ch.suf (p := s ++ [u]) (by simpa using hc)
    have h2 : ∀ g ∈ y :: t, L (f g) = L g := fun g hg => hL g (mem g (.inr hg)) (by rintro rfl; exact nt hg)
    obtain ⟨p, z, e2⟩ := last_ex y t
    have hz : z ∈ y :: t := by rw [e2]; simp
    have q1 := ch_const h1 h2 z hz
    have q2 := c.cl (s ++ u :: p) z (by rw [e, e2]; simp)
    have q3 := h2 z hz
    rw [q2, q1] at q3
    rw [← q3]
    cases s with
    | nil => have : a = u := by simpa using (List.cons.inj e).1
             rw [this]
    | cons x s' =>
      have : a = x := (List.cons.inj e).1
      rw [this]; exact (up x s' rfl).symm
/-- a stretch of a chain, from behind u to v, sets apart -/
theorem stretch (P : Per m f) {u v : Hf} {b : List Hf} (c : Ch f (u :: b ++ [v])) (nd : (u :: b ++ [v]).Nodup) (sub : ∀ g ∈ u :: b ++ [v], InH m g) :
    ∃ L : Hf → Bool, L v = true ∧ L u = false ∧ L (f u) = true ∧ L (f v) = false ∧ ∀ g, InH m g → g ≠ u → g ≠ v → L (f g) = L g := by
  have hv : v ∈ b ++ [v] := by simp
  obtain ⟨n1, n2⟩ := List.nodup_cons.mp (show (u :: (b ++ [v])).Nodup from nd)
  have nv : v ∉ u :: b := fun h => by
    have := (List.nodup_append.mp nd).2.2 v h v (List.mem_singleton.mpr rfl)
    exact this rfl
  -- who leads into the stretch
  have into : ∀ g, InH m g → f g ∈ b ++ [v] → g ∈ u :: b := fun g hg h => by
    obtain ⟨p, q, x, e⟩ := before (a := u) h
    have hx : x ∈ u :: (b ++ [v]) := by rw [e]; simp
    have c' : Ch f (p ++ x :: f g :: q) := by rw [← e]; exact c
    have e2 := P.inj g x hg (sub x hx) c'.mid.symm
    rw [e2]
    rcases List.mem_append.mp (show x ∈ (u :: b) ++ [v] from hx) with h1 | h1
    · exact h1
    · exfalso
      rw [List.mem_singleton] at h1
      subst h1
      -- v stands at the end, so nothing comes behind it
      obtain ⟨q', z, e3⟩ := last_ex (f g) q
      have e4 : (u :: b) ++ [x] = (p ++ x :: q') ++ [z] := by rw [show (u :: b) ++ [x] = u :: (b ++ [x]) from rfl, e, e3]; simp
      have e5 := (List.append_inj' e4 rfl).1
      exact nv (by rw [e5]; simp)
  have out : ∀ g ∈ u :: b, f g ∈ b ++ [v] := fun g h => by
    obtain ⟨s, t, e⟩ := List.append_of_mem h
    obtain ⟨y, t', e2⟩ : ∃ y t', t ++ [v] = y :: t' := by cases t with | nil => exact ⟨_, _, rfl⟩ | cons y t => exact ⟨_, _, rfl⟩
    have e3 : u :: b ++ [v] = s ++ g :: y :: t' := by rw [e, List.append_assoc, List.cons_append, e2]
    have c' : Ch f (s ++ g :: y :: t') := by rw [← e3]; exact c
    rw [c'.mid]
    have hy : y ∈ t ++ [v] := by rw [e2]; exact List.mem_cons_self ..
    cases s with
    | nil => cases e; exact hy
    | cons s0 s =>
      have : b = s ++ g :: t := (List.cons.inj e).2
      rw [this]
      simp only [List.mem_append, List.mem_cons] at hy ⊢
      rcases hy with hy | hy
      · exact .inl (.inr (.inr hy))
      · exact .inr hy
  refine ⟨fun g => decide (g ∈ b ++ [v]), decide_eq_true hv, decide_eq_false n1, decide_eq_true (out u (List.mem_cons_self ..)), decide_eq_false fun h => nv (into v (sub v (by simp)) h), fun g hg h1 h2 => ?_⟩
  refine decide_eq_decide.mpr ⟨fun h => ?_, fun h => ?_⟩
  · have := into g hg h
    exact List.mem_append_left _ ((List.mem_cons.mp this).resolve_left h1)
  · rcases List.mem_append.mp h with h | h
    · exact out g (List.mem_cons_of_mem _ h)
    · exact absurd (List.mem_singleton.mp h) h2
/-- two of one rim can be set apart, but for the two links -/
theorem cyc_split (P : Per m f) {a u v : Hf} {r : List Hf} (c : Cyc m f a r) (hu : u ∈ a :: r) (hv : v ∈ a :: r) (ne : u ≠ v) :
    ∃ L : Hf → Bool, L u ≠ L v ∧ L (f u) = L v ∧ L (f v) = L u ∧ ∀ g, InH m g → g ≠ u → g ≠ v → L (f g) = L g := by
  have two : ∀ {u v : Hf} {s t : List Hf}, a :: r = s ++ u :: t → v ∈ t → ∃ L : Hf → Bool, L v = true ∧ L u = false ∧ L (f u) = true ∧ L (f v) = false ∧ ∀ g, InH m g → g ≠ u → g ≠ v → L (f g) = L g := fun {u v s t} e h => by
    obtain ⟨b, q, e2⟩ := List.append_of_mem h
    have e3 : a :: r = s ++ (u :: b ++ [v]) ++ q := by rw [e, e2]; simp
    have nd := c.nd
    have ch := c.ch
    rw [e3] at nd ch
    exact stretch P ch.pre.suf (List.nodup_append.mp (List.nodup_append.mp nd).1).2.1 fun g hg => c.sub g (by rw [e3]; simp only [List.mem_append]; exact .inl (.inr (by simpa [or_assoc] using hg)))
  obtain ⟨s, t, e⟩ := List.append_of_mem hu
  have hv' := hv
  rw [e] at hv'
  rcases List.mem_append.mp hv' with h | h
  · obtain ⟨s1, s2, e1⟩ := List.append_of_mem h
    obtain ⟨L, h1, h2, h3, h4, h5⟩ := two (u := v) (v := u) (s := s1) (t := s2 ++ u :: t) (by rw [e, e1]; simp) (by simp)
    exact ⟨L, by rw [h1, h2]; decide, by rw [h4, h2], by rw [h3, h1], fun g hg z1 z2 => h5 g hg z2 z1⟩
  · have h := (List.mem_cons.mp h).resolve_left fun e => ne e.symm
    obtain ⟨L, h1, h2, h3, h4, h5⟩ := two e h
    exact ⟨L, by rw [h1, h2]; decide, by rw [h3, h1], by rw [h4, h2], h5⟩
/-! ### the rim of a half -/
/-- from c on, until the next is h0 -/
def orb (f : Hf → Hf) (h0 : Hf) : Nat → Hf → List Hf
  | 0, c => [c]
  | k + 1, c => if f c = h0 then [c] else c :: orb f h0 k (f c)
theorem orb_cyc (P : Per m f) {hs : List Hf} (hh : ∀ h, InH m h → h ∈ hs) {h0 : Hf} : ∀ {k : Nat} {c : Hf} {p : List Hf}, (∀ x l, p ++ [c] = x :: l → x = h0) → Ch f (p ++ [c]) → (p ++ [c]).Nodup → (∀ g ∈ p ++ [c], InH m g) → hs.length ≤ p.length + 1 + k →
    Ch f (p ++ orb f h0 k c) ∧ (p ++ orb f h0 k c).Nodup ∧ (∀ g ∈ p ++ orb f h0 k c, InH m g) ∧ (∀ q z, p ++ orb f h0 k c = q ++ [z] → f z = h0) := by
  intro k
  induction k with
  | zero =>
    intro c p hd ch nd sub hl
    have e0 : orb f h0 0 c = [c] := rfl
    rw [e0]
    refine ⟨ch, nd, sub, fun q z e => ?_⟩
    have ez : c = z := by simpa using (List.append_inj' e rfl).2
    subst ez
    -- all halves stand here, so the image of the last stands here too
    have hc : InH m c := sub c (by simp)
    have sub' : ∀ g ∈ p ++ [c], g ∈ hs := fun g hg => hh g (sub g hg)
    have hm := pig_all nd sub' (by rw [List.length_append]; exact hl) (hh _ (P.to c hc))
    cases ep : p ++ [c] with
    | nil => simp at ep
    | cons x l =>
      rw [ep] at hm ch nd sub
      rcases List.mem_cons.mp hm with e1 | h1
      · rw [e1]; exact hd x l ep
      · exfalso
        obtain ⟨p1, q1, y, e2⟩ := before (a := x) h1
        rw [e2] at ch
        have := P.inj c y hc (sub y (by rw [e2]; simp)) ch.mid.symm
        subst this
        -- c stands last
        obtain ⟨q2, z2, e3⟩ := last_ex (f c) q1
        have e4 : p ++ [c] = (p1 ++ c :: q2) ++ [z2] := by rw [ep, e2, e3]; simp
        obtain ⟨e5, e6⟩ := List.append_inj' e4 rfl
        have nd' : (p ++ [c]).Nodup := by rw [ep]; exact nd
        exact (List.nodup_append.mp nd').2.2 c (by rw [e5]; simp) c (by simp) rfl
  | succ k ih =>
    intro c p hd ch nd sub hl
    by_cases q : f c = h0
    · have e0 : orb f h0 (k + 1) c = [c] := by rw [orb, if_pos q]
      rw [e0]
      refine ⟨ch, nd, sub, fun s z e => ?_⟩
      have ez : c = z := by simpa using (List.append_inj' e rfl).2
      rw [← ez]; exact q
    · have e0 : orb f h0 (k + 1) c = c :: orb f h0 k (f c) := by rw [orb, if_neg q]
      have hc : InH m c := sub c (by simp)
      have nin : f c ∉ p ++ [c] := fun hm => by
        cases ep : p ++ [c] with
        | nil => simp at ep
        | cons x l =>
          rw [ep] at hm
          rcases List.mem_cons.mp hm with e1 | h1
          · exact q (by rw [e1]; exact hd x l ep)
          · obtain ⟨p1, q1, y, e2⟩ := before (a := x) h1
            have ch' := ch
            rw [ep, e2] at ch'
            have := P.inj c y hc (sub y (by rw [ep, e2]; simp)) ch'.mid.symm
            subst this
            obtain ⟨q2, z2, e3⟩ := last_ex (f c) q1
            have e4 : p ++ [c] = (p1 ++ c :: q2) ++ [z2] := by rw [ep, e2, e3]; simp
            obtain ⟨e5, e6⟩ := List.append_inj' e4 rfl
            exact (List.nodup_append.mp nd).2.2 c (by rw [e5]; simp) c (by simp) rfl
      have := ih (c := f c) (p := p ++ [c]) (fun x l e => by
        obtain ⟨y, l', e'⟩ : ∃ y l', p ++ [c] = y :: l' := by cases p with | nil => exact ⟨_, _, rfl⟩ | cons y p => exact ⟨_, _, rfl⟩
        rw [e'] at e
        have : y = x := (List.cons.inj e).1
        rw [← this]; exact hd y l' e') (Ch.snoc ch rfl) (by
          refine List.nodup_append.mpr ⟨nd, by simp, fun x hx y hy => ?_⟩
          rw [List.mem_singleton.mp hy]; rintro rfl; exact nin hx) (fun g hg => by
            rcases List.mem_append.mp hg with h | h
            · exact sub g h
            · rw [List.mem_singleton.mp h]; exact P.to c hc) (by rw [List.length_append, List.length_singleton]; omega)
      rw [e0]
      simpa using this
theorem orb_head {h0 c : Hf} {k : Nat} : ∃ r, orb f h0 k c = c :: r := by
  cases k with
  | zero => exact ⟨_, rfl⟩
  | succ k =>
    rw [orb]
    split
    · exact ⟨_, rfl⟩
    · exact ⟨_, rfl⟩
theorem rim_cyc (P : Per m f) {hs : List Hf} (hh : ∀ h, InH m h → h ∈ hs) {h : Hf} (hi : InH m h) : ∃ r, orb f h hs.length h = h :: r ∧ Cyc m f h r := by
  obtain ⟨r, e⟩ := orb_head (f := f) (h0 := h) (c := h) (k := hs.length)
  have := orb_cyc P hh (h0 := h) (k := hs.length) (c := h) (p := []) (fun x l e => (List.cons.inj e).1.symm) trivial (by simp) (fun g hg => by rw [show g = h by simpa using hg]; exact hi) (by simp)
  rw [e] at this
  exact ⟨r, e, this.1, this.2.1, fun p z e => this.2.2.2 p z e, this.2.2.1⟩
end
end K95

set_option linter.all false
set_option Elab.async false
/-! K95O: all rims; a tie put in. -/
namespace K95
def ltH (g h : Hf) : Prop := g.1 < h.1 ∨ (g.1 = h.1 ∧ g.2 < h.2)
def addRim (f : Hf → Hf) (k : Nat) (found : List (List Hf)) (h : Hf) : List (List Hf) := if found.any (fun r => decide (h ∈ r)) then found else found ++ [orb f h k h]
def rimsF (f : Hf → Hf) (hs : List Hf) : List (List Hf) := hs.foldl (addRim f hs.length) []
def hd (r : List Hf) : Hf := r.headD (0, 0)
/-- a labelling of the rims -/
def FL (m : Nat) (f : Hf → Hf) (L : Hf → Bool) : Prop := ∀ h, InH m h → L (f h) = L h
def Sep (m : Nat) (f : Hf → Hf) (g h : Hf) : Prop := ∃ L, FL m f L ∧ L g ≠ L h
structure Rims (m : Nat) (f : Hf → Hf) (rows : List (List Hf)) (done : List Hf) : Prop where
  cyc : ∀ row ∈ rows, ∃ a r, row = a :: r ∧ Cyc m f a r
  cov : ∀ h ∈ done, ∃ row ∈ rows, h ∈ row
  dis : rows.Pairwise fun r s => ∀ g, g ∈ r → g ∉ s
  low : ∀ row ∈ rows, ∀ a r, row = a :: r → a ∈ done ∧ ∀ g ∈ r, ltH a g
  inc : rows.Pairwise fun r s => ltH (hd r) (hd s)
section
variable {m : Nat} {f : Hf → Hf}
theorem FL.on {L : Hf → Bool} (h : FL m f L) {a : Hf} {r : List Hf} (c : Cyc m f a r) {g : Hf} (hg : g ∈ a :: r) : L g = L a := ch_const c.ch (fun x hx => h x (c.sub x hx)) g hg
theorem Cyc.ind (P : Per m f) {a : Hf} {r : List Hf} (c : Cyc m f a r) : FL m f fun g => decide (g ∈ a :: r) := fun h hh =>
  decide_eq_decide.mpr ⟨fun q => c.prev P hh q, fun q => c.next q⟩
theorem Cyc.sep (P : Per m f) {a : Hf} {r : List Hf} (c : Cyc m f a r) {g h : Hf} (hg : g ∈ a :: r) (hh : h ∉ a :: r) : Sep m f g h := ⟨_, c.ind P, by
  rw [decide_eq_true hg, decide_eq_false hh]; decide⟩
theorem Cyc.sep' (P : Per m f) {a : Hf} {r : List Hf} (c : Cyc m f a r) {g h : Hf} (hg : g ∉ a :: r) (hh : h ∈ a :: r) : Sep m f g h := by
  obtain ⟨L, l, n⟩ := c.sep P hh hg
  exact ⟨L, l, n.symm⟩
/-- the rims are found -/
theorem rims_fold (P : Per m f) {hs : List Hf} (hin : ∀ h, h ∈ hs ↔ InH m h) (srt : hs.Pairwise ltH) : ∀ (rest done : List Hf) (rows : List (List Hf)), hs = done ++ rest → Rims m f rows done → Rims m f (rest.foldl (addRim f hs.length) rows) hs
  | [], done, rows, e, R => by rw [List.append_nil] at e; rw [e]; exact R
  | h :: rest, done, rows, e, R => by
    rw [List.foldl_cons]
    refine rims_fold P hin srt rest (done ++ [h]) _ (by rw [e]; simp) ?_
    have hh : InH m h := (hin h).mp (by rw [e]; simp)
    unfold addRim
    by_cases q : (rows.any fun r => decide (h ∈ r)) = true
    · rw [if_pos q]
      obtain ⟨row, h1, h2⟩ := List.any_eq_true.mp q
      refine ⟨R.cyc, fun g hg => ?_, R.dis, fun row hr a r e => ⟨List.mem_append_left _ (R.low row hr a r e).1, (R.low row hr a r e).2⟩, R.inc⟩
      rcases List.mem_append.mp hg with hg | hg
      · exact R.cov g hg
      · rw [List.mem_singleton.mp hg]; exact ⟨row, h1, of_decide_eq_true h2⟩
    · rw [if_neg q]
      obtain ⟨r, e1, c⟩ := rim_cyc P (hs := hs) (fun g hg => (hin g).mpr hg) hh
      rw [e1]
      have nin : ∀ row ∈ rows, h ∉ row := fun row hr hm => q (List.any_eq_true.mpr ⟨row, hr, decide_eq_true hm⟩)
      -- none of the new rim stands in an old one
      have new : ∀ row ∈ rows, ∀ g ∈ h :: r, g ∉ row := fun row hr g hg hm => by
        obtain ⟨a, s, e2, c2⟩ := R.cyc row hr
        subst e2
        have := (c2.ind P).on c hg
        rw [decide_eq_true hm] at this
        exact nin _ hr (of_decide_eq_true this.symm)
      refine ⟨fun row hr => ?_, fun g hg => ?_, ?_, fun row hr a s e2 => ?_, ?_⟩
      · rcases List.mem_append.mp hr with hr | hr
        · exact R.cyc row hr
        · rw [List.mem_singleton.mp hr]; exact ⟨h, r, rfl, c⟩
      · rcases List.mem_append.mp hg with hg | hg
        · obtain ⟨row, h1, h2⟩ := R.cov g hg
          exact ⟨row, List.mem_append_left _ h1, h2⟩
        · rw [List.mem_singleton.mp hg]; exact ⟨h :: r, by simp, List.mem_cons_self ..⟩
      · refine List.pairwise_append.mpr ⟨R.dis, by simp, fun a ha b hb g hg hg' => ?_⟩
        rw [List.mem_singleton.mp hb] at hg'
        exact new a ha g hg' hg
      · rcases List.mem_append.mp hr with hr | hr
        · exact ⟨List.mem_append_left _ (R.low row hr a s e2).1, (R.low row hr a s e2).2⟩
        · rw [List.mem_singleton.mp hr] at e2
          cases e2
          refine ⟨by simp, fun g hg => ?_⟩
          -- g comes behind h
          have hg' : g ∈ hs := (hin g).mpr (c.sub g (List.mem_cons_of_mem _ hg))
          rw [e] at hg' srt
          rcases List.mem_append.mp hg' with hd | ht
          · obtain ⟨row, h1, h2⟩ := R.cov g hd
            exact absurd h2 (new row h1 g (List.mem_cons_of_mem _ hg))
          · rcases List.mem_cons.mp ht with rfl | ht
            · exact absurd hg (List.nodup_cons.mp c.nd).1
            · exact (List.pairwise_cons.mp (List.pairwise_append.mp srt).2.1).1 g ht
      · refine List.pairwise_append.mpr ⟨R.inc, by simp, fun a ha b hb => ?_⟩
        rw [List.mem_singleton.mp hb]
        obtain ⟨x, s, e2, c2⟩ := R.cyc a ha
        have hx := (R.low a ha x s e2).1
        rw [e2]
        rw [e] at srt
        exact (List.pairwise_append.mp srt).2.2 x hx h (List.mem_cons_self ..)
theorem rims_ok (P : Per m f) {hs : List Hf} (hin : ∀ h, h ∈ hs ↔ InH m h) (srt : hs.Pairwise ltH) : Rims m f (rimsF f hs) hs :=
  rims_fold P hin srt hs [] [] rfl ⟨fun _ h => (List.not_mem_nil h).elim, fun _ h => (List.not_mem_nil h).elim, .nil, fun _ h => (List.not_mem_nil h).elim, .nil⟩
/-- those that are apart by twos are no more than the rims they stand in -/
theorem apart_le {rows : List (List Hf)} (cyc : ∀ row ∈ rows, ∃ a r, row = a :: r ∧ Cyc m f a r) {M : List Hf} (hM : ∀ g ∈ M, ∃ row ∈ rows, g ∈ row) (ap : M.Pairwise (Sep m f)) : M.length ≤ rows.length := by
  let ix : Hf → Nat := fun g => rows.findIdx fun r => decide (g ∈ r)
  have hix : ∀ g ∈ M, ∃ h : ix g < rows.length, g ∈ rows[ix g] := fun g hg => by
    obtain ⟨row, h1, h2⟩ := hM g hg
    have lt : ix g < rows.length := List.findIdx_lt_length_of_exists ⟨row, h1, decide_eq_true h2⟩
    exact ⟨lt, of_decide_eq_true (List.findIdx_getElem (p := fun r => decide (g ∈ r)) (w := lt))⟩
  have nd : (M.map ix).Nodup := by
    refine List.pairwise_map.mpr (List.Pairwise.imp_of_mem ?_ ap)
    intro g h hg hh ⟨L, l, ne⟩ e
    obtain ⟨l1, m1⟩ := hix g hg
    obtain ⟨l2, m2⟩ := hix h hh
    obtain ⟨a, r, e2, c⟩ := cyc rows[ix g] (List.getElem_mem l1)
    have m2' : h ∈ rows[ix g] := by simpa only [e] using m2
    rw [e2] at m1 m2'
    exact ne ((l.on c m1).trans (l.on c m2').symm)
  have := pig (l := M.map ix) (s := List.range rows.length) nd fun x hx => by
    obtain ⟨g, hg, rfl⟩ := List.mem_map.mp hx
    exact List.mem_range.mpr (hix g hg).1
  rwa [List.length_map, List.length_range] at this
/-! ### a tie put in -/
/-- f' follows f, the tie m put between the links of h1 and h2 -/
structure Ins (m : Nat) (f f' : Hf → Hf) (h1 h2 : Hf) : Prop where
  a : f' h1 = (m, 0)
  b : f' (m, 0) = (if h1 = h2 then f h1 else f h2)
  c : h1 ≠ h2 → f' h2 = (m, 1) ∧ f' (m, 1) = f h1
  d : h1 = h2 → f' (m, 1) = (m, 1)
  e : ∀ g, InH m g → g ≠ h1 → g ≠ h2 → f' g = f g
theorem in_succ {g : Hf} (h : InH (m + 1) g) : InH m g ∨ g = (m, 0) ∨ g = (m, 1) := by
  obtain ⟨t, s⟩ := g
  have h1 : t < m + 1 := h.1
  by_cases q : t < m
  · exact .inl ⟨q, h.2⟩
  · have e : t = m := by omega
    subst e
    rcases half_cases h with e | e <;> rw [e] <;> simp
theorem not_z {g : Hf} (h : InH m g) (s : Nat) : g ≠ (m, s) := by
  rintro rfl
  exact Nat.lt_irrefl _ h.1
variable {f' : Hf → Hf} {h1 h2 : Hf}
theorem Ins.extend (i : Ins m f f' h1 h2) (P : Per m f) (i1 : InH m h1) (i2 : InH m h2) {L : Hf → Bool} (l : FL m f L) (e : L h1 = L h2) :
    ∃ L', FL (m + 1) f' L' ∧ (∀ g, InH m g → L' g = L g) ∧ L' (m, 0) = L h1 ∧ L' (m, 1) = L h1 := by
  let L' : Hf → Bool := fun g => if g.1 = m then L h1 else L g
  have old : ∀ g, InH m g → L' g = L g := fun g hg => if_neg (Nat.ne_of_lt hg.1)
  have new : ∀ s, L' (m, s) = L h1 := fun s => if_pos rfl
  refine ⟨L', fun g hg => ?_, old, new 0, new 1⟩
  rcases in_succ hg with hg | rfl | rfl
  · by_cases q1 : g = h1
    · subst q1; rw [i.a, new, old _ i1]
    · by_cases q2 : g = h2
      · subst q2
        rw [(i.c fun z => q1 z.symm).1, new, old _ i2, e]
      · rw [i.e g hg q1 q2, old _ (P.to g hg), old _ hg]; exact l g hg
  · rw [i.b, new]
    by_cases q : h1 = h2
    · rw [if_pos q, old _ (P.to _ i1)]; exact l h1 i1
    · rw [if_neg q, old _ (P.to _ i2), e]; exact l h2 i2
  · by_cases q : h1 = h2
    · rw [i.d q]
    · rw [(i.c q).2, old _ (P.to _ i1), new]; exact l h1 i1
theorem Ins.restrict (i : Ins m f f' h1 h2) (i1 : InH m h1) (i2 : InH m h2) {L : Hf → Bool} (l : FL (m + 1) f' L) (e : L (m, 0) = L (m, 1)) : FL m f L ∧ L h1 = L h2 ∧ L (m, 0) = L h1 := by
  have up : ∀ {g}, InH m g → InH (m + 1) g := fun h => ⟨Nat.lt_succ_of_lt h.1, h.2⟩
  have z0 : InH (m + 1) (m, 0) := ⟨Nat.lt_succ_self m, Nat.zero_le _⟩
  have z1 : InH (m + 1) (m, 1) := ⟨Nat.lt_succ_self m, Nat.le_refl _⟩
  have e1 : L (m, 0) = L h1 := by rw [← i.a]; exact l h1 (up i1)
  have e2 : L h1 = L h2 := by
    by_cases q : h1 = h2
    · rw [q]
    · rw [← e1, e, ← (i.c q).1]; exact l h2 (up i2)
  refine ⟨fun g hg => ?_, e2, e1⟩
  by_cases q1 : g = h1
  · subst q1
    by_cases q : g = h2
    · have := l _ z0
      rw [i.b, if_pos q, e1] at this
      exact this
    · have := l _ z1
      rw [(i.c q).2, ← e, e1] at this
      exact this
  · by_cases q2 : g = h2
    · subst q2
      have := l _ z0
      rw [i.b, if_neg fun z => q1 z.symm, e1, e2] at this
      exact this
    · rw [← i.e g hg q1 q2]; exact l g (up hg)
/-- of one rim two are made -/
theorem Ins.split (i : Ins m f f' h1 h2) (P : Per m f) {a : Hf} {r : List Hf} (c : Cyc m f a r) (i1 : h1 ∈ a :: r) (i2 : h2 ∈ a :: r) : ∃ L, FL (m + 1) f' L ∧ L (m, 0) ≠ L (m, 1) := by
  have j1 := c.sub _ i1
  have j2 := c.sub _ i2
  by_cases q : h1 = h2
  · refine ⟨fun g => decide (g = (m, 1)), fun g hg => ?_, by simp⟩
    rcases in_succ hg with hg | rfl | rfl
    · have n1 : g ≠ (m, 1) := not_z hg 1
      by_cases q1 : g = h1
      · subst q1; rw [i.a]; simp [n1]
      · rw [i.e g hg q1 (q ▸ q1)]
        simp [n1, not_z (P.to g hg) 1]
    · rw [i.b, if_pos q]; simp [not_z (P.to _ j1) 1]
    · rw [i.d q]
  · obtain ⟨L, l1, l2, l3, l4⟩ := cyc_split P c i1 i2 q
    let L' : Hf → Bool := fun g => if g = (m, 0) then L h1 else if g = (m, 1) then L h2 else L g
    have old : ∀ g, InH m g → L' g = L g := fun g hg => by show (if _ then _ else _) = _; rw [if_neg (not_z hg 0), if_neg (not_z hg 1)]
    have e0 : L' (m, 0) = L h1 := if_pos rfl
    have e1 : L' (m, 1) = L h2 := by show (if _ then _ else _) = _; rw [if_neg (by simp), if_pos rfl]
    refine ⟨L', fun g hg => ?_, by rw [e0, e1]; exact l1⟩
    rcases in_succ hg with hg | rfl | rfl
    · by_cases q1 : g = h1
      · subst q1; rw [i.a, e0, old _ j1]
      · by_cases q2 : g = h2
        · subst q2; rw [(i.c q).1, e1, old _ j2]
        · rw [i.e g hg q1 q2, old _ (P.to g hg), old _ hg]; exact l4 g hg q1 q2
    · rw [i.b, if_neg q, e0, old _ (P.to _ j2)]; exact l3
    · rw [(i.c q).2, e1, old _ (P.to _ j1)]; exact l2
/-- where two rims become one, no labelling sets the new halves apart -/
theorem Ins.joined (i : Ins m f f' h1 h2) (P : Per m f) {a : Hf} {r : List Hf} (c : Cyc m f a r) (i1 : h1 ∈ a :: r) (n2 : h2 ∉ a :: r) {L : Hf → Bool} (l : FL (m + 1) f' L) : L (m, 0) = L (m, 1) := by
  have up : ∀ {g}, InH m g → InH (m + 1) g := fun h => ⟨Nat.lt_succ_of_lt h.1, h.2⟩
  have q : h1 ≠ h2 := by rintro rfl; exact n2 i1
  have j1 := c.sub _ i1
  have := cyc_cut (L := L) c i1 fun g hg ne => by
    rw [← i.e g (c.sub g hg) ne (by rintro rfl; exact n2 hg)]
    exact l g (up (c.sub g hg))
  have e0 : L (m, 0) = L h1 := by rw [← i.a]; exact l h1 (up j1)
  have e1 : L (f h1) = L (m, 1) := by rw [← (i.c q).2]; exact l _ ⟨Nat.lt_succ_self m, Nat.le_refl _⟩
  rw [e0, ← this, e1]
/-! ### how many rims -/
variable {rows rows' : List (List Hf)} {hs hs' : List Hf}
theorem Rims.sepRows (R : Rims m f rows hs) (P : Per m f) : rows.Pairwise fun r s => Sep m f (hd r) (hd s) := by
  refine List.Pairwise.imp_of_mem ?_ R.dis
  intro r s hr hs d
  obtain ⟨a, r', rfl, c⟩ := R.cyc r hr
  obtain ⟨b, s', rfl, c'⟩ := R.cyc s hs
  exact c.sep P (List.mem_cons_self ..) fun z => d b z (List.mem_cons_self ..)
theorem Rims.hd_mem (R : Rims m f rows hs) {r : List Hf} (h : r ∈ rows) : hd r ∈ r := by
  obtain ⟨a, r', rfl, _⟩ := R.cyc r h
  exact List.mem_cons_self ..
theorem Rims.hd_in (R : Rims m f rows hs) {r : List Hf} (h : r ∈ rows) : InH m (hd r) := by
  obtain ⟨a, r', rfl, c⟩ := R.cyc r h
  exact c.sub _ (List.mem_cons_self ..)
/-- two rims that become one: there is one rim less -/
theorem Ins.fewer (i : Ins m f f' h1 h2) (P : Per m f) (P' : Per (m + 1) f') (R : Rims m f rows hs) (R' : Rims (m + 1) f' rows' hs') (hin : ∀ h, InH m h → h ∈ hs) {a : Hf} {r : List Hf} (c : Cyc m f a r) (i1 : h1 ∈ a :: r) (n2 : h2 ∉ a :: r) (j2 : InH m h2) : rows'.length + 1 ≤ rows.length := by
  have up : ∀ {g}, InH m g → InH (m + 1) g := fun h => ⟨Nat.lt_succ_of_lt h.1, h.2⟩
  have j1 := c.sub _ i1
  have eqz : ∀ L, FL (m + 1) f' L → L (m, 0) = L (m, 1) := fun L l => i.joined P c i1 n2 l
  -- each new rim by an old half
  let g : List Hf → Hf := fun row => if h1 ∈ row then h1 else hd row
  have inC : ∀ row ∈ rows', ((m, 0) ∈ row ∨ (m, 1) ∈ row ∨ h2 ∈ row) → h1 ∈ row := fun row hr h => by
    obtain ⟨b, s, rfl, c'⟩ := R'.cyc row hr
    have l := c'.ind P'
    obtain ⟨_, q2, q3⟩ := i.restrict j1 j2 l (eqz _ l)
    have q4 := eqz _ l
    refine of_decide_eq_true ?_
    rcases h with h | h | h
    · rw [← q3]; exact decide_eq_true h
    · rw [← q3, q4]; exact decide_eq_true h
    · rw [q2]; exact decide_eq_true h
  have gin : ∀ row ∈ rows', InH m (g row) ∧ g row ∈ row := fun row hr => by
    show InH m (if h1 ∈ row then h1 else hd row) ∧ (if h1 ∈ row then h1 else hd row) ∈ row
    by_cases q : h1 ∈ row
    · rw [if_pos q]; exact ⟨j1, q⟩
    · rw [if_neg q]
      refine ⟨?_, R'.hd_mem hr⟩
      rcases in_succ (R'.hd_in hr) with h | h | h
      · exact h
      · exact absurd (inC row hr (.inl (h ▸ R'.hd_mem hr))) q
      · exact absurd (inC row hr (.inr (.inl (h ▸ R'.hd_mem hr)))) q
  have sepOld : ∀ row ∈ rows', ∀ x y, x ∈ row → y ∉ row → Sep m f x y := fun row hr x y hx hy => by
    obtain ⟨b, s, rfl, c'⟩ := R'.cyc row hr
    have l := c'.ind P'
    refine ⟨_, (i.restrict j1 j2 l (eqz _ l)).1, ?_⟩
    rw [decide_eq_true hx, decide_eq_false hy]; decide
  have := apart_le R.cyc (M := h2 :: rows'.map g) (fun x hx => by
    rcases List.mem_cons.mp hx with rfl | hx
    · exact R.cov _ (hin _ j2)
    · obtain ⟨row, hr, rfl⟩ := List.mem_map.mp hx
      exact R.cov _ (hin _ (gin row hr).1)) (by
    refine List.pairwise_cons.mpr ⟨fun x hx => ?_, List.pairwise_map.mpr (List.Pairwise.imp_of_mem ?_ R'.dis)⟩
    · obtain ⟨row, hr, rfl⟩ := List.mem_map.mp hx
      show Sep m f h2 (if h1 ∈ row then h1 else hd row)
      by_cases q : h1 ∈ row
      · rw [if_pos q]; exact c.sep' P n2 i1
      · rw [if_neg q]
        have : h2 ∉ row := fun z => q (inC row hr (.inr (.inr z)))
        obtain ⟨L, l, ne⟩ := sepOld row hr (hd row) h2 (R'.hd_mem hr) this
        exact ⟨L, l, ne.symm⟩
    · intro r s hr hs d
      exact sepOld r hr _ _ (gin r hr).2 fun z => d _ z (gin s hs).2)
  simpa using this
/-- one rim cut in two: there is one rim more, also of its colour -/
theorem Ins.more (i : Ins m f f' h1 h2) (P : Per m f) (P' : Per (m + 1) f') (R : Rims m f rows hs) (R' : Rims (m + 1) f' rows' hs') (hin : ∀ h, InH (m + 1) h → h ∈ hs') {row : List Hf} (hr : row ∈ rows) (i1 : h1 ∈ row) (i2 : h2 ∈ row)
    {C C' : Hf → Bool} (l : FL m f C) (l' : FL (m + 1) f' C') (ext : ∀ g, InH m g → C' g = C g) (e0 : C' (m, 0) = C h1) (e1 : C' (m, 1) = C h1) (x : Bool) :
    (rows.filter fun r => C (hd r) == x).length + (if C h1 = x then 1 else 0) ≤ (rows'.filter fun r => C' (hd r) == x).length := by
  have up : ∀ {g}, InH m g → InH (m + 1) g := fun h => ⟨Nat.lt_succ_of_lt h.1, h.2⟩
  obtain ⟨a, r0, rfl, c⟩ := R.cyc row hr
  have j1 := c.sub _ i1
  have j2 := c.sub _ i2
  obtain ⟨L, lL, nL⟩ := i.split P c i1 i2
  -- old labellings go over
  have over : ∀ {L : Hf → Bool}, FL m f L → ∃ L', FL (m + 1) f' L' ∧ (∀ g, InH m g → L' g = L g) ∧ L' (m, 0) = L h1 ∧ L' (m, 1) = L h1 := fun {L} lf =>
    i.extend P j1 j2 lf ((lf.on c i1).trans (lf.on c i2).symm)
  have sepOver : ∀ {g h}, InH m g → InH m h → Sep m f g h → Sep (m + 1) f' g h := fun {g h} hg hh ⟨K, lk, nk⟩ => by
    obtain ⟨K', lk', ek, _, _⟩ := over lk
    exact ⟨K', lk', by rw [ek g hg, ek h hh]; exact nk⟩
  have z0 : InH (m + 1) (m, 0) := ⟨Nat.lt_succ_self m, Nat.zero_le _⟩
  have z1 : InH (m + 1) (m, 1) := ⟨Nat.lt_succ_self m, Nat.le_refl _⟩
  -- where a new half of the colour stands
  have place : ∀ g, InH (m + 1) g → C' g = x → ∃ row ∈ rows'.filter (fun r => C' (hd r) == x), g ∈ row := fun g hg e => by
    obtain ⟨row, h1, h2⟩ := R'.cov g (hin g hg)
    refine ⟨row, List.mem_filter.mpr ⟨h1, ?_⟩, h2⟩
    obtain ⟨b, s, rfl, c'⟩ := R'.cyc row h1
    have : C' g = C' b := l'.on c' h2
    show (C' b == x) = true
    rw [← this, e]; simp
  have cyc' : ∀ row ∈ rows'.filter (fun r => C' (hd r) == x), ∃ a r, row = a :: r ∧ Cyc (m + 1) f' a r := fun row h => R'.cyc row (List.mem_filter.mp h).1
  have sepF : (rows.filter fun r => C (hd r) == x).Pairwise fun r s => Sep (m + 1) f' (hd r) (hd s) := by
    refine List.Pairwise.imp_of_mem ?_ ((R.sepRows P).filter _)
    intro r s hr hs d
    exact sepOver (R.hd_in (List.mem_filter.mp hr).1) (R.hd_in (List.mem_filter.mp hs).1) d
  have colF : ∀ r ∈ rows.filter (fun r => C (hd r) == x), C' (hd r) = x ∧ InH m (hd r) := fun r h => by
    obtain ⟨q1, q2⟩ := List.mem_filter.mp h
    have := R.hd_in q1
    exact ⟨by rw [ext _ this]; simpa using q2, this⟩
  by_cases q : C h1 = x
  · rw [if_pos q]
    -- the cut rim stands among them
    have hc : C a = x := by rw [← q]; exact (l.on c i1).symm
    have hrow : a :: r0 ∈ rows.filter fun r => C (hd r) == x := List.mem_filter.mpr ⟨hr, by show (C a == x) = true; rw [hc]; simp⟩
    obtain ⟨s, t, es⟩ := List.append_of_mem hrow
    rw [es] at sepF colF ⊢
    obtain ⟨p1, p2, p3⟩ := List.pairwise_append.mp sepF
    obtain ⟨p4, p5⟩ := List.pairwise_cons.mp p2
    -- the others are apart from the new halves
    have far : ∀ r, r ∈ s ∨ r ∈ t → ∀ k, (k = 0 ∨ k = 1) → Sep (m + 1) f' (m, k) (hd r) := fun r hr' k hk => by
      have mr : r ∈ rows := (List.mem_filter.mp (show r ∈ rows.filter (fun r => C (hd r) == x) by rw [es]; simp; rcases hr' with h | h <;> simp [h])).1
      have sd : Sep m f (hd r) a ∨ Sep m f a (hd r) := by
        have hd' := R.sepRows P
        have : (rows.filter fun r => C (hd r) == x).Pairwise fun r s => Sep m f (hd r) (hd s) := hd'.filter _
        rw [es] at this
        rcases hr' with h | h
        · exact .inl ((List.pairwise_append.mp this).2.2 r h _ (List.mem_cons_self ..))
        · exact .inr ((List.pairwise_cons.mp (List.pairwise_append.mp this).2.1).1 r h)
      obtain ⟨K, lk, nk⟩ : ∃ K, FL m f K ∧ K a ≠ K (hd r) := by
        rcases sd with ⟨K, lk, nk⟩ | ⟨K, lk, nk⟩
        · exact ⟨K, lk, nk.symm⟩
        · exact ⟨K, lk, nk⟩
      obtain ⟨K', lk', ek, k0, k1⟩ := over lk
      have e : K' (m, k) = K h1 := by rcases hk with rfl | rfl <;> assumption
      exact ⟨K', lk', by rw [e, ek _ (R.hd_in mr), lk.on c i1]; exact nk⟩
    have hM : ((m, 0) :: (m, 1) :: (s ++ t).map hd).Pairwise (Sep (m + 1) f') := by
      refine List.pairwise_cons.mpr ⟨fun y hy => ?_, List.pairwise_cons.mpr ⟨fun y hy => ?_, List.pairwise_map.mpr (List.pairwise_append.mpr ⟨p1, p5, fun u hu v hv => p3 u hu v (List.mem_cons_of_mem _ hv)⟩)⟩⟩
      · rcases List.mem_cons.mp hy with rfl | hy
        · exact ⟨L, lL, nL⟩
        · obtain ⟨r, hr', rfl⟩ := List.mem_map.mp hy
          exact far r (List.mem_append.mp hr') 0 (.inl rfl)
      · obtain ⟨r, hr', rfl⟩ := List.mem_map.mp hy
        exact far r (List.mem_append.mp hr') 1 (.inr rfl)
    have := apart_le cyc' (M := (m, 0) :: (m, 1) :: (s ++ t).map hd) (fun y hy => by
      rcases List.mem_cons.mp hy with rfl | hy
      · exact place _ z0 (e0.trans q)
      · rcases List.mem_cons.mp hy with rfl | hy
        · exact place _ z1 (e1.trans q)
        · obtain ⟨r, hr', rfl⟩ := List.mem_map.mp hy
          obtain ⟨q1, q2⟩ := colF r (by rcases List.mem_append.mp hr' with h | h <;> simp [h])
          exact place _ (up q2) q1) hM
    simp at this ⊢
    omega
  · rw [if_neg q]
    have := apart_le cyc' (M := (rows.filter fun r => C (hd r) == x).map hd) (fun y hy => by
      obtain ⟨r, hr', rfl⟩ := List.mem_map.mp hy
      obtain ⟨q1, q2⟩ := colF r hr'
      exact place _ (up q2) q1) (List.pairwise_map.mpr sepF)
    simpa using this
end
end K95

set_option linter.all false
set_option Elab.async false
/-! K95P: maps of points, ties and turns; what a ring sets apart. -/
namespace K95
def halvesL : Nat → List Hf
  | 0 => []
  | m + 1 => halvesL m ++ [(m, 0), (m, 1)]
theorem mem_halves {m : Nat} {h : Hf} : h ∈ halvesL m ↔ InH m h := by
  induction m with
  | zero => exact ⟨fun z => (List.not_mem_nil z).elim, fun z => absurd z.1 (Nat.not_lt_zero _)⟩
  | succ m ih =>
    rw [halvesL, List.mem_append, ih]
    constructor
    · rintro (h | h)
      · exact ⟨Nat.lt_succ_of_lt h.1, h.2⟩
      · simp at h
        rcases h with rfl | rfl
        · exact ⟨Nat.lt_succ_self m, Nat.zero_le _⟩
        · exact ⟨Nat.lt_succ_self m, Nat.le_refl _⟩
    · intro h
      rcases in_succ h with h | rfl | rfl
      · exact .inl h
      · exact .inr (by simp)
      · exact .inr (by simp)
theorem halves_sorted (m : Nat) : (halvesL m).Pairwise ltH := by
  induction m with
  | zero => exact .nil
  | succ m ih =>
    refine List.pairwise_append.mpr ⟨ih, ?_, fun a ha b hb => ?_⟩
    · refine List.pairwise_cons.mpr ⟨fun y hy => ?_, List.pairwise_singleton _ _⟩
      rw [List.mem_singleton.mp hy]
      exact .inr ⟨rfl, Nat.zero_lt_one⟩
    · have := (mem_halves.mp ha).1
      simp at hb
      rcases hb with rfl | rfl <;> exact .inl this
theorem halves_len (m : Nat) : (halvesL m).length = 2 * m := by
  induction m with
  | zero => rfl
  | succ m ih => rw [halvesL, List.length_append, ih]; simp; omega
/-- where a half stands -/
def ep (ties : List (Nat × Nat)) (h : Hf) : Nat := if h.2 = 0 then (ties.getD h.1 (0, 0)).1 else (ties.getD h.1 (0, 0)).2
def rowAt (turns : List (List Hf)) (p : Nat) : List Hf := turns.getD p []
def sg (e : Hf → Nat) (turns : List (List Hf)) (h : Hf) : Hf := (nxR (rowAt turns (e h)) h).getD h
def ph (e : Hf → Nat) (turns : List (List Hf)) (h : Hf) : Hf := sg e turns (oth h)
structure Mp (n m : Nat) (e : Hf → Nat) (turns : List (List Hf)) : Prop where
  len : turns.length = n
  row : ∀ p, p < n → ∀ h, h ∈ rowAt turns p ↔ InH m h ∧ e h = p
  nd : ∀ p, p < n → (rowAt turns p).Nodup
  en : ∀ h, InH m h → e h < n
section
variable {n m : Nat} {e : Hf → Nat} {turns : List (List Hf)}
theorem Mp.nx (M : Mp n m e turns) {h : Hf} (hh : InH m h) : nxR (rowAt turns (e h)) h = some (sg e turns h) := by
  obtain ⟨g, hg⟩ := nxR_some ((M.row _ (M.en h hh) h).mpr ⟨hh, rfl⟩)
  rw [sg, hg]; rfl
theorem Mp.sgP (M : Mp n m e turns) : Per m (sg e turns) := by
  refine ⟨fun h hh => ?_, fun g h hg hh q => ?_⟩
  · exact ((M.row _ (M.en h hh) _).mp (nxR_mem (M.nx hh)).2).1
  · have e1 := M.nx hg
    have e2 := M.nx hh
    have q1 := ((M.row _ (M.en g hg) _).mp (nxR_mem e1).2).2
    have q2 := ((M.row _ (M.en h hh) _).mp (nxR_mem e2).2).2
    rw [q] at q1 e1
    rw [← q1, q2] at e1
    exact nxR_inj (M.nd _ (M.en h hh)) e1 e2
theorem Mp.phP (M : Mp n m e turns) : Per m (ph e turns) :=
  ⟨fun h hh => M.sgP.to _ (oth_in hh), fun g h hg hh q => oth_inj hg hh (M.sgP.inj _ _ (oth_in hg) (oth_in hh) q)⟩
theorem px_congr {b c : Hf → Bool} : ∀ {row : List Hf}, (∀ g ∈ row, b g = c g) → px b row = px c row
  | [], _ => rfl
  | g :: r, h => by rw [px, px, h g (List.mem_cons_self ..), px_congr fun x hx => h x (List.mem_cons_of_mem _ hx)]
def bd (L : Hf → Bool) (t : Nat) : Bool := xor (L (t, 0)) (L (t, 1))
theorem bd_half (L : Hf → Bool) {g : Hf} (h : InH m g) : bd L g.1 = xor (L g) (L (oth g)) := by
  rcases half_cases h with q | q
  · rw [q]; rfl
  · rw [q]; show xor _ _ = xor (L (g.1, 1)) (L (g.1, 0)); rw [Bool.xor_comm]
def Ev (n : Nat) (turns : List (List Hf)) (S : Nat → Bool) : Prop := ∀ p, p < n → px (fun g => S g.1) (rowAt turns p) = false
/-- what a labelling of rims sets apart is even -/
theorem Mp.even (M : Mp n m e turns) {L : Hf → Bool} (l : FL m (ph e turns) L) : Ev n turns (bd L) := fun p hp => by
  rw [px_congr (c := fun g => xor (L g) (L (oth g))) fun g hg => bd_half L ((M.row p hp g).mp hg).1]
  refine px_row (M.nd p hp) fun g g' q => ?_
  obtain ⟨hg, e1⟩ := (M.row p hp g).mp (nxR_mem q).1
  have := M.nx hg
  rw [e1, q] at this
  have : g' = sg e turns g := Option.some.inj this
  rw [this]
  have := l (oth g) (oth_in hg)
  rw [ph, oth_oth hg] at this
  exact this
theorem Ev.xor {S T : Nat → Bool} (h : Ev n turns S) (k : Ev n turns T) : Ev n turns fun t => S t ^^ T t := fun p hp => by
  rw [px_xor, h p hp, k p hp]; rfl
theorem FL.xor {f : Hf → Hf} {L K : Hf → Bool} (h : FL m f L) (k : FL m f K) : FL m f fun g => L g ^^ K g := fun g hg => by
  show (L (f g) ^^ K (f g)) = (L g ^^ K g)
  rw [h g hg, k g hg]
theorem px_ins {b : Hf → Bool} {u z : Hf} : ∀ {row : List Hf}, u ∈ row → px b (ins row u z) = (b z ^^ px b row)
  | [], h => by cases h
  | a :: r, h => by
    rw [ins]
    by_cases q : a = u
    · rw [if_pos q]
      simp only [px]
      cases b a <;> cases b z <;> cases px b r <;> rfl
    · rw [if_neg q]
      simp only [px]
      rw [px_ins ((List.mem_cons.mp h).resolve_left fun e => q e.symm)]
      cases b a <;> cases b z <;> cases px b r <;> rfl
/-! ### a tie is laid -/
theorem rowAt_set {T : List (List Hf)} {p q : Nat} {row : List Hf} (hp : p < T.length) : rowAt (T.set p row) q = if q = p then row else rowAt T q := by
  unfold rowAt
  by_cases h : q = p
  · subst h
    rw [if_pos rfl, List.getD_eq_getElem?_getD, List.getElem?_set_self hp]; rfl
  · rw [if_neg h, List.getD_eq_getElem?_getD, List.getElem?_set_ne fun z => h z.symm, ← List.getD_eq_getElem?_getD]
theorem sg_one {T : List (List Hf)} {p : Nat} {u z : Hf} (hp : p < T.length) (nd : (rowAt T p).Nodup) (nz : z ∉ rowAt T p) (hu : u ∈ rowAt T p) (eu : e u = p) (ez : e z = p) :
    sg e (T.set p (ins (rowAt T p) u z)) u = z ∧ sg e (T.set p (ins (rowAt T p) u z)) z = sg e T u ∧ ∀ g, g ≠ u → g ≠ z → sg e (T.set p (ins (rowAt T p) u z)) g = sg e T g := by
  obtain ⟨i1, i2, i3⟩ := nxR_ins nd nz hu
  refine ⟨?_, ?_, fun g h1 h2 => ?_⟩
  · rw [sg, rowAt_set hp, eu, if_pos rfl, i1]; rfl
  · obtain ⟨x, hx⟩ := nxR_some hu
    rw [sg, rowAt_set hp, ez, if_pos rfl, i2, sg, eu, hx]; rfl
  · rw [sg, rowAt_set hp]
    by_cases q : e g = p
    · rw [if_pos q, i3 g h1 h2, sg, q]
    · rw [if_neg q, sg]
def lay (turns : List (List Hf)) (m a b : Nat) (one two : Hf) : List (List Hf) :=
  let T := turns.set b (ins (rowAt turns b) two (m, 1))
  T.set a (ins (rowAt T a) one (m, 0))
/-- what is asked of the web behind a tie (a, b) laid at the corners behind one and two -/
structure Lay (n m : Nat) (e e' : Hf → Nat) (turns : List (List Hf)) (a b : Nat) (one two : Hf) : Prop where
  M : Mp n m e turns
  an : a < n
  bn : b < n
  ha : one ∈ rowAt turns a
  hb : two ∈ rowAt turns b
  old : ∀ h, InH m h → e' h = e h
  z0 : e' (m, 0) = a
  z1 : e' (m, 1) = b
variable {e' : Hf → Nat} {a b : Nat} {one two : Hf}
theorem Lay.rowAt (y : Lay n m e e' turns a b one two) (p : Nat) (b' : Hf → Bool) : px b' (rowAt (lay turns m a b one two) p) = ((if p = a then b' (m, 0) else false) ^^ (if p = b then b' (m, 1) else false) ^^ px b' (K95.rowAt turns p)) := by
  have la : a < (turns.set b (ins (K95.rowAt turns b) two (m, 1))).length := by rw [List.length_set, y.M.len]; exact y.an
  have lb : b < turns.length := by rw [y.M.len]; exact y.bn
  have ha' : one ∈ K95.rowAt (turns.set b (ins (K95.rowAt turns b) two (m, 1))) a := by
    rw [rowAt_set lb]; split
    · rename_i q; subst q; exact (mem_ins y.hb).mpr (.inl y.ha)
    · exact y.ha
  unfold lay
  simp only
  rw [rowAt_set la]
  by_cases qa : p = a
  · rw [if_pos qa, if_pos qa, px_ins ha', rowAt_set lb]
    by_cases qb : a = b
    · rw [if_pos qb, if_pos (qa.trans qb), px_ins y.hb, qa.trans qb, Bool.xor_assoc]
    · rw [if_neg qb, if_neg (qa ▸ qb), qa]
      cases b' (m, 0) <;> rfl
  · rw [if_neg qa, if_neg qa, rowAt_set lb]
    by_cases qb : p = b
    · rw [if_pos qb, if_pos qb, px_ins y.hb, qb]
      cases b' (m, 1) <;> rfl
    · rw [if_neg qb, if_neg qb]; simp
theorem Lay.map (y : Lay n m e e' turns a b one two) : Mp n (m + 1) e' (lay turns m a b one two) := by
  have la : a < (turns.set b (ins (K95.rowAt turns b) two (m, 1))).length := by rw [List.length_set, y.M.len]; exact y.an
  have lb : b < turns.length := by rw [y.M.len]; exact y.bn
  have mem1 : ∀ p g, g ∈ K95.rowAt (turns.set b (ins (K95.rowAt turns b) two (m, 1))) p ↔ g ∈ K95.rowAt turns p ∨ (p = b ∧ g = (m, 1)) := fun p g => by
    rw [rowAt_set lb]
    by_cases q : p = b
    · subst q; rw [if_pos rfl, mem_ins y.hb]; simp
    · rw [if_neg q]; simp [q]
  have ha' : one ∈ K95.rowAt (turns.set b (ins (K95.rowAt turns b) two (m, 1))) a := (mem1 a one).mpr (.inl y.ha)
  have mem2 : ∀ p g, g ∈ K95.rowAt (lay turns m a b one two) p ↔ g ∈ K95.rowAt turns p ∨ (p = b ∧ g = (m, 1)) ∨ (p = a ∧ g = (m, 0)) := fun p g => by
    unfold lay
    simp only
    rw [rowAt_set la]
    by_cases q : p = a
    · subst q; rw [if_pos rfl, mem_ins ha', mem1]; simp [or_assoc]
    · rw [if_neg q, mem1]; simp [q]
  have old : ∀ p, p < n → ∀ s, (m, s) ∉ K95.rowAt turns p := fun p hp s h => not_z ((y.M.row p hp _).mp h).1 s rfl
  have nd1 : ∀ p, p < n → (K95.rowAt (turns.set b (ins (K95.rowAt turns b) two (m, 1))) p).Nodup := fun p hp => by
    rw [rowAt_set lb]
    split
    · rename_i q; subst q; exact nodup_ins y.hb (y.M.nd _ hp) (old _ hp 1)
    · exact y.M.nd p hp
  refine ⟨by unfold lay; simp [y.M.len], fun p hp h => ?_, fun p hp => ?_, fun h hh => ?_⟩
  · rw [mem2, y.M.row p hp]
    constructor
    · rintro (⟨h1, h2⟩ | ⟨rfl, rfl⟩ | ⟨rfl, rfl⟩)
      · exact ⟨⟨Nat.lt_succ_of_lt h1.1, h1.2⟩, by rw [y.old h h1]; exact h2⟩
      · exact ⟨⟨Nat.lt_succ_self m, Nat.le_refl _⟩, y.z1⟩
      · exact ⟨⟨Nat.lt_succ_self m, Nat.zero_le _⟩, y.z0⟩
    · rintro ⟨h1, h2⟩
      rcases in_succ h1 with h | rfl | rfl
      · exact .inl ⟨h, by rw [← y.old _ h]; exact h2⟩
      · exact .inr (.inr ⟨by rw [← h2, y.z0], rfl⟩)
      · exact .inr (.inl ⟨by rw [← h2, y.z1], rfl⟩)
  · unfold lay
    simp only
    rw [rowAt_set la]
    split
    · rename_i q; subst q
      refine nodup_ins ha' (nd1 _ hp) fun h => ?_
      rcases (mem1 _ _).mp h with h | ⟨_, h⟩
      · exact old _ hp 0 h
      · simp at h
    · exact nd1 p hp
  · rcases in_succ hh with h | rfl | rfl
    · rw [y.old _ h]; exact y.M.en _ h
    · rw [y.z0]; exact y.an
    · rw [y.z1]; exact y.bn
theorem sg_old (old : ∀ h, InH m h → e' h = e h) {g : Hf} (hg : InH m g) : sg e' turns g = sg e turns g := by rw [sg, sg, old g hg]
theorem Lay.ins (y : Lay n m e e' turns a b one two) : Ins m (ph e turns) (ph e' (lay turns m a b one two)) (oth one) (oth two) := by
  have la : a < (turns.set b (K95.ins (K95.rowAt turns b) two (m, 1))).length := by rw [List.length_set, y.M.len]; exact y.an
  have lb : b < turns.length := by rw [y.M.len]; exact y.bn
  obtain ⟨i1, e1⟩ := (y.M.row a y.an one).mp y.ha
  obtain ⟨i2, e2⟩ := (y.M.row b y.bn two).mp y.hb
  have old : ∀ p, p < n → ∀ s, (m, s) ∉ K95.rowAt turns p := fun p hp s h => not_z ((y.M.row p hp _).mp h).1 s rfl
  obtain ⟨s1, s2, s3⟩ := sg_one (e := e') lb (y.M.nd b y.bn) (old b y.bn 1) y.hb (by rw [y.old two i2]; exact e2) y.z1
  have ha' : one ∈ K95.rowAt (turns.set b (K95.ins (K95.rowAt turns b) two (m, 1))) a := by
    rw [rowAt_set lb]; split
    · rename_i q; subst q; exact (mem_ins y.hb).mpr (.inl y.ha)
    · exact y.ha
  have nz : (m, 0) ∉ K95.rowAt (turns.set b (K95.ins (K95.rowAt turns b) two (m, 1))) a := by
    rw [rowAt_set lb]; split
    · intro h
      rcases (mem_ins y.hb).mp h with h | h
      · exact old b y.bn 0 h
      · simp at h
    · exact old a y.an 0
  have nd1 : (K95.rowAt (turns.set b (K95.ins (K95.rowAt turns b) two (m, 1))) a).Nodup := by
    rw [rowAt_set lb]; split
    · exact nodup_ins y.hb (y.M.nd _ y.bn) (old _ y.bn 1)
    · exact y.M.nd a y.an
  obtain ⟨t1, t2, t3⟩ := sg_one (e := e') la nd1 nz ha' (by rw [y.old one i1]; exact e1) y.z0
  change sg e' (lay turns m a b one two) one = (m, 0) at t1
  change sg e' (lay turns m a b one two) (m, 0) = _ at t2
  change ∀ g, g ≠ one → g ≠ (m, 0) → sg e' (lay turns m a b one two) g = _ at t3
  have n10 : ((m, 1) : Hf) ≠ (m, 0) := by simp
  have z1one : ((m, 1) : Hf) ≠ one := fun h => not_z i1 1 h.symm
  have o1 : oth (oth one) = one := oth_oth i1
  have o2 : oth (oth two) = two := oth_oth i2
  have sgt : sg e' turns two = sg e turns two := sg_old y.old i2
  have sgo : sg e' turns one = sg e turns one := sg_old y.old i1
  refine ⟨?_, ?_, fun q => ⟨?_, ?_⟩, fun q => ?_, fun g hg h1 h2 => ?_⟩
  · rw [ph, o1]; exact t1
  · have : ph e' (lay turns m a b one two) (m, 0) = ph e turns (oth two) := by
      show sg e' (lay turns m a b one two) (m, 1) = _
      rw [t3 _ z1one n10, s2, ph, o2, sgt]
    rw [this]
    split
    · rename_i q; rw [q]
    · rfl
  · have q' : two ≠ one := fun z => q (by rw [z])
    rw [ph, o2, t3 two q' (not_z i2 0), s1]
  · have q' : one ≠ two := fun z => q (by rw [z])
    show sg e' (lay turns m a b one two) (m, 0) = _
    rw [t2, s3 one q' (not_z i1 1), ph, o1, sgo]
  · have q' : one = two := oth_inj i1 i2 q
    show sg e' (lay turns m a b one two) (m, 0) = _
    rw [t2, q', s1]
  · have g1 : oth g ≠ one := fun z => h1 (by rw [← z, oth_oth hg])
    have g2 : oth g ≠ two := fun z => h2 (by rw [← z, oth_oth hg])
    have og := oth_in hg
    rw [ph, t3 _ g1 (not_z og 0), s3 _ g2 (not_z og 1), ph, sg_old y.old og]
end
end K95

set_option linter.all false
set_option Elab.async false
/-! K95Q: good webs: made of a ring by ties that cut a rim in two. -/
namespace K95
def rimsW (ties : List (Nat × Nat)) (turns : List (List Hf)) : List (List Hf) := rimsF (ph (ep ties) turns) (halvesL ties.length)
structure Good (n : Nat) (ties : List (Nat × Nat)) (turns : List (List Hf)) : Prop where
  n2 : 2 ≤ n
  nm : n ≤ ties.length
  ring : ∀ k, k < n → ties.getD k (0, 0) = (k, (k + 1) % n)
  M : Mp n ties.length (ep ties) turns
  bdy : ∀ S, Ev n turns S → ∃ L, FL ties.length (ph (ep ties) turns) L ∧ ∀ t, t < ties.length → S t = bd L t
  con : ∀ L, FL ties.length (ph (ep ties) turns) L → (∀ t, t < ties.length → bd L t = false) → ∀ g h, InH ties.length g → InH ties.length h → L g = L h
  cnt : (rimsW ties turns).length + n = ties.length + 2
  room : ∃ C, FL ties.length (ph (ep ties) turns) C ∧ (∀ t, t < ties.length → bd C t = decide (t < n)) ∧ ∀ x : Bool, (halvesL ties.length).countP (fun h => C h == x) + 2 = n + 2 * ((rimsW ties turns).filter fun r => C (hd r) == x).length
theorem rimsW_ok {n : Nat} {ties : List (Nat × Nat)} {turns : List (List Hf)} (M : Mp n ties.length (ep ties) turns) : Rims ties.length (ph (ep ties) turns) (rimsW ties turns) (halvesL ties.length) :=
  rims_ok M.phP (fun _ => mem_halves) (halves_sorted _)
theorem filter_two {α : Type} (p : α → Bool) : ∀ l : List α, (l.filter fun a => p a == true).length + (l.filter fun a => p a == false).length = l.length
  | [] => rfl
  | a :: l => by
    have := filter_two p l
    cases h : p a <;> simp [h] at this ⊢ <;> omega
section
variable {n : Nat} {ties : List (Nat × Nat)} {turns : List (List Hf)}
theorem ep_snoc {p : Nat × Nat} {h : Hf} (hh : InH ties.length h) : ep (ties ++ [p]) h = ep ties h := by
  unfold ep
  rw [List.getD_eq_getElem?_getD, List.getElem?_append_left hh.1, ← List.getD_eq_getElem?_getD]
theorem ep_new {a b s : Nat} : ep (ties ++ [(a, b)]) (ties.length, s) = if s = 0 then a else b := by
  unfold ep
  rw [List.getD_eq_getElem?_getD, List.getElem?_append_right (Nat.le_refl _)]
  simp
theorem Good.lay (G : Good n ties turns) {a b : Nat} {one two : Hf} (an : a < n) (bn : b < n) (ha : one ∈ rowAt turns a) (hb : two ∈ rowAt turns b) : Lay n ties.length (ep ties) (ep (ties ++ [(a, b)])) turns a b one two :=
  ⟨G.M, an, bn, ha, hb, fun h hh => ep_snoc hh, by rw [ep_new]; rfl, by rw [ep_new]; rfl⟩
theorem bd_ext {L L' : Hf → Bool} {m : Nat} (h : ∀ g, InH m g → L' g = L g) {t : Nat} (ht : t < m) : bd L' t = bd L t := by
  unfold bd
  rw [h (t, 0) ⟨ht, Nat.zero_le _⟩, h (t, 1) ⟨ht, Nat.le_refl _⟩]
/-- the test of the count: the web stays good -/
theorem Good.step (G : Good n ties turns) {a b : Nat} {one two : Hf} (an : a < n) (bn : b < n) (ha : one ∈ rowAt turns a) (hb : two ∈ rowAt turns b)
    (lo : (rimsW ties turns).length ≤ (rimsW (ties ++ [(a, b)]) (K95.lay turns ties.length a b one two)).length) (hi : (rimsW (ties ++ [(a, b)]) (K95.lay turns ties.length a b one two)).length ≤ (rimsW ties turns).length + 1) :
    Good n (ties ++ [(a, b)]) (K95.lay turns ties.length a b one two) := by
  have y := G.lay an bn ha hb
  have len : (ties ++ [(a, b)]).length = ties.length + 1 := by simp
  have M' : Mp n (ties.length + 1) (ep (ties ++ [(a, b)])) (K95.lay turns ties.length a b one two) := y.map
  have i := y.ins
  have P := G.M.phP
  have P' := M'.phP
  have R := rimsW_ok G.M
  have R' : Rims (ties.length + 1) (ph (ep (ties ++ [(a, b)])) (K95.lay turns ties.length a b one two)) (rimsW (ties ++ [(a, b)]) (K95.lay turns ties.length a b one two)) (halvesL (ties.length + 1)) := by
    have := rimsW_ok (ties := ties ++ [(a, b)]) (turns := K95.lay turns ties.length a b one two) (n := n) (by rw [len]; exact M')
    rw [len] at this
    exact this
  have up : ∀ {g}, InH ties.length g → InH (ties.length + 1) g := fun h => ⟨Nat.lt_succ_of_lt h.1, h.2⟩
  have j1 : InH ties.length (oth one) := oth_in ((G.M.row a an one).mp ha).1
  have j2 : InH ties.length (oth two) := oth_in ((G.M.row b bn two).mp hb).1
  obtain ⟨row, hr, k1⟩ := R.cov _ (mem_halves.mpr j1)
  obtain ⟨r0, r1, er, c⟩ := R.cyc row hr
  -- the two corners lie in one rim
  have k2 : oth two ∈ row := Classical.byContradiction fun z => by
    have := i.fewer P P' R R' (fun h hh => mem_halves.mpr hh) c (er ▸ k1) (er ▸ z) j2
    omega
  have same : ∀ {L}, FL ties.length (ph (ep ties) turns) L → L (oth one) = L (oth two) := fun {L} l => (l.on c (er ▸ k1)).trans (l.on c (er ▸ k2)).symm
  obtain ⟨C, cl, cb, cr⟩ := G.room
  obtain ⟨C', cl', ce, c0, c1⟩ := i.extend P j1 j2 cl (same cl)
  have more := i.more P P' R R' (fun h hh => mem_halves.mpr hh) hr k1 k2 cl cl' ce c0 c1
  have t1 := filter_two (fun r => C (hd r)) (rimsW ties turns)
  have t2 := filter_two (fun r => C' (hd r)) (rimsW (ties ++ [(a, b)]) (K95.lay turns ties.length a b one two))
  have mt := more true
  have mf := more false
  have cnt' : (rimsW (ties ++ [(a, b)]) (K95.lay turns ties.length a b one two)).length = (rimsW ties turns).length + 1 := by
    cases h : C (oth one) with
    | true =>
      rw [if_pos h] at mt
      rw [if_neg (by rw [h]; decide)] at mf
      omega
    | false =>
      rw [if_neg (by rw [h]; decide)] at mt
      rw [if_pos h] at mf
      omega
  obtain ⟨L1, l1, n1⟩ := i.split P c (er ▸ k1) (er ▸ k2)
  have b1 : bd L1 ties.length = true := by
    unfold bd
    cases h : L1 (ties.length, 0) <;> cases h' : L1 (ties.length, 1) <;> first | rfl | (rw [h, h'] at n1; exact absurd rfl n1)
  -- even sets that the new tie is not in
  have easy : ∀ S, Ev n (K95.lay turns ties.length a b one two) S → S ties.length = false → ∃ L, FL (ties.length + 1) (ph (ep (ties ++ [(a, b)])) (K95.lay turns ties.length a b one two)) L ∧ ∀ t, t < ties.length + 1 → S t = bd L t := fun S hS h0 => by
    obtain ⟨L, l, hL⟩ := G.bdy S fun p hp => by
      have := hS p hp
      rw [y.rowAt] at this
      simpa [h0] using this
    obtain ⟨L', l', e', z0, z1⟩ := i.extend P j1 j2 l (same l)
    refine ⟨L', l', fun t ht => ?_⟩
    by_cases q : t < ties.length
    · rw [bd_ext e' q]; exact hL t q
    · have : t = ties.length := by omega
      subst this
      unfold bd
      rw [h0, z0, z1, Bool.xor_self]
  refine ⟨G.n2, by rw [len]; exact Nat.le_succ_of_le G.nm, fun k hk => ?_, by rw [len]; exact M', fun S hS => ?_, fun L l hb g h hg hh => ?_, by rw [cnt', len]; have := G.cnt; omega, ?_⟩
  · rw [List.getD_eq_getElem?_getD, List.getElem?_append_left (Nat.lt_of_lt_of_le hk G.nm), ← List.getD_eq_getElem?_getD]
    exact G.ring k hk
  · rw [len]
    cases h0 : S ties.length with
    | false => exact easy S hS h0
    | true =>
      obtain ⟨L2, l2, e2⟩ := easy (fun t => S t ^^ bd L1 t) (hS.xor (M'.even l1)) (by rw [h0, b1]; rfl)
      refine ⟨fun g => L2 g ^^ L1 g, l2.xor l1, fun t ht => ?_⟩
      have := e2 t ht
      have e3 : bd (fun g => L2 g ^^ L1 g) t = (bd L2 t ^^ bd L1 t) := by
        show ((L2 (t, 0) ^^ L1 (t, 0)) ^^ (L2 (t, 1) ^^ L1 (t, 1))) = ((L2 (t, 0) ^^ L2 (t, 1)) ^^ (L1 (t, 0) ^^ L1 (t, 1)))
        cases L2 (t, 0) <;> cases L2 (t, 1) <;> cases L1 (t, 0) <;> cases L1 (t, 1) <;> rfl
      rw [e3, ← this]
      cases S t <;> cases bd L1 t <;> rfl
  · rw [len] at l hb hg hh
    have e0 : L (ties.length, 0) = L (ties.length, 1) := by
      have := hb ties.length (Nat.lt_succ_self _)
      unfold bd at this
      cases q : L (ties.length, 0) <;> cases q' : L (ties.length, 1) <;> first | rfl | (rw [q, q'] at this; cases this)
    obtain ⟨q1, q2, q3⟩ := i.restrict j1 j2 l e0
    have base := G.con L q1 fun t ht => hb t (Nat.lt_succ_of_lt ht)
    have toOld : ∀ g, InH (ties.length + 1) g → L g = L (oth one) := fun g hg => by
      rcases in_succ hg with h | rfl | rfl
      · exact base g _ h j1
      · exact q3
      · rw [← e0]; exact q3
    rw [toOld g hg, toOld h hh]
  · rw [len]
    refine ⟨C', cl', fun t ht => ?_, fun x => ?_⟩
    · by_cases q : t < ties.length
      · rw [bd_ext ce q]; exact cb t q
      · have : t = ties.length := by omega
        subst this
        unfold bd
        rw [c0, c1, Bool.xor_self, decide_eq_false (Nat.not_lt.mpr G.nm)]
    · rw [halvesL, List.countP_append]
      have e1 : (halvesL ties.length).countP (fun h => C' h == x) = (halvesL ties.length).countP (fun h => C h == x) := by
        apply List.countP_congr
        intro h hh
        rw [ce h (mem_halves.mp hh)]
      have e2 : [((ties.length, 0) : Hf), (ties.length, 1)].countP (fun h => C' h == x) = if C (oth one) = x then 2 else 0 := by
        rw [List.countP_cons, List.countP_cons, List.countP_nil, c0, c1]
        by_cases q : C (oth one) = x
        · simp [q]
        · simp [q]
      have e3 : ((rimsW (ties ++ [(a, b)]) (K95.lay turns ties.length a b one two)).filter fun r => C' (hd r) == x).length = ((rimsW ties turns).filter fun r => C (hd r) == x).length + if C (oth one) = x then 1 else 0 := by
        cases h : C (oth one) with
        | true =>
          rw [if_pos h] at mt
          rw [if_neg (by rw [h]; decide)] at mf
          cases x with
          | true => rw [if_pos rfl]; omega
          | false => rw [if_neg (by decide)]; omega
        | false =>
          rw [if_neg (by rw [h]; decide)] at mt
          rw [if_pos h] at mf
          cases x with
          | true => rw [if_neg (by decide)]; omega
          | false => rw [if_pos rfl]; omega
      rw [e1, e2, e3]
      have := cr x
      split <;> omega
/-! ### what a ring sets apart -/
/-- D goes with the rims, its boundary lies in S; S is minimal among the even sets, and a rim of each kind is there -/
theorem Good.apart (G : Good n ties turns) {S : Nat → Bool} (ev : Ev n turns S) (mn : ∀ T, Ev n turns T → (∀ t, t < ties.length → T t = true → S t = true) → (∀ t, t < ties.length → T t = false) ∨ ∀ t, t < ties.length → T t = S t)
    {D : Hf → Bool} (d : FL ties.length (ph (ep ties) turns) D) (hb : ∀ t, t < ties.length → bd D t = true → S t = true)
    (least : ∀ L, FL ties.length (ph (ep ties) turns) L → (∀ t, t < ties.length → S t = false → bd L t = false) → ∀ g h, InH ties.length g → InH ties.length h → D g = true → D h = true → L g = L h)
    (some1 : ∃ g, InH ties.length g ∧ D g = true) {u : Nat} (hu : u < ties.length) (su : S u = true) : ∀ t, t < ties.length → bd D t = S t := by
  rcases mn (bd D) (G.M.even d) hb with h | h
  · exfalso
    obtain ⟨L, l, hL⟩ := G.bdy S ev
    obtain ⟨g, hg, dg⟩ := some1
    have all : ∀ h', InH ties.length h' → D h' = true := fun h' hh => by
      rw [G.con D d h h' g hh hg]; exact dg
    have z0 : InH ties.length (u, 0) := ⟨hu, Nat.zero_le _⟩
    have z1 : InH ties.length (u, 1) := ⟨hu, Nat.le_refl _⟩
    have := least L l (fun t ht hs => by rw [← hL t ht]; exact hs) _ _ z0 z1 (all _ z0) (all _ z1)
    have q := hL u hu
    unfold bd at q
    rw [su, this, Bool.xor_self] at q
    cases q
  · exact h
end
end K95

set_option linter.all false
set_option Elab.async false
/-! K95R: the bare ring is good. -/
namespace K95
def ties0 (n : Nat) : List (Nat × Nat) := (List.range n).map fun k => (k, (k + 1) % n)
def turns0 (n : Nat) : List (List Hf) := (List.range n).map fun k => [(k, 0), ((k + n - 1) % n, 1)]
section
variable {n : Nat}
theorem ties0_len : (ties0 n).length = n := by simp [ties0]
theorem ties0_get {k : Nat} (h : k < n) : (ties0 n).getD k (0, 0) = (k, (k + 1) % n) := by
  rw [List.getD_eq_getElem?_getD, ties0, List.getElem?_map, List.getElem?_range h]; rfl
theorem row0 {k : Nat} (h : k < n) : rowAt (turns0 n) k = [(k, 0), ((k + n - 1) % n, 1)] := by
  rw [rowAt, List.getD_eq_getElem?_getD, turns0, List.getElem?_map, List.getElem?_range h]; rfl
theorem ep0 {k s : Nat} (h : k < n) : ep (ties0 n) (k, s) = if s = 0 then k else (k + 1) % n := by
  unfold ep
  rw [ties0_get h]
theorem back_on {k : Nat} (h : k < n) : ((k + 1) % n + n - 1) % n = k := by
  by_cases q : k + 1 = n
  · rw [q, Nat.mod_self, Nat.zero_add, Nat.mod_eq_of_lt (by omega)]; omega
  · rw [Nat.mod_eq_of_lt (show k + 1 < n by omega), show k + 1 + n - 1 = k + n by omega, Nat.add_mod_right, Nat.mod_eq_of_lt h]
theorem on_back {k : Nat} (h : k < n) : ((k + n - 1) % n + 1) % n = k := by
  by_cases q : k = 0
  · subst q
    rw [Nat.zero_add, Nat.mod_eq_of_lt (show n - 1 < n by omega), show n - 1 + 1 = n by omega, Nat.mod_self]
  · rw [show k + n - 1 = k - 1 + n by omega, Nat.add_mod_right, Nat.mod_eq_of_lt (show k - 1 < n by omega), show k - 1 + 1 = k by omega, Nat.mod_eq_of_lt h]
theorem M0 (n2 : 2 ≤ n) : Mp n n (ep (ties0 n)) (turns0 n) := by
  refine ⟨by simp [turns0], fun p hp h => ?_, fun p hp => ?_, fun h hh => ?_⟩
  · rw [row0 hp]
    constructor
    · intro q
      simp at q
      rcases q with rfl | rfl
      · exact ⟨⟨hp, Nat.zero_le _⟩, by rw [ep0 hp]; rfl⟩
      · have lt : (p + n - 1) % n < n := Nat.mod_lt _ (by omega)
        exact ⟨⟨lt, Nat.le_refl _⟩, by rw [ep0 lt, if_neg (by decide)]; exact on_back hp⟩
    · rintro ⟨h1, h2⟩
      obtain ⟨t, s⟩ := h
      have ht : t < n := h1.1
      rw [ep0 ht] at h2
      rcases half_cases h1 with q | q
      · obtain ⟨_, rfl⟩ := Prod.mk.inj q
        rw [if_pos rfl] at h2
        subst h2; simp
      · obtain ⟨_, rfl⟩ := Prod.mk.inj q
        rw [if_neg (by decide)] at h2
        rw [← h2, back_on ht]; simp
  · rw [row0 hp]; simp
  · obtain ⟨t, s⟩ := h
    rw [ep0 hh.1]
    split
    · exact hh.1
    · exact Nat.mod_lt _ (by omega)
theorem ph00 (n2 : 2 ≤ n) {k : Nat} (h : k < n) : ph (ep (ties0 n)) (turns0 n) (k, 0) = ((k + 1) % n, 0) := by
  have lt : (k + 1) % n < n := Nat.mod_lt _ (by omega)
  show sg _ _ (k, 1) = _
  rw [sg, ep0 h, if_neg (by decide), row0 lt, back_on h]
  simp [nxR, nx1]
theorem ph01 (n2 : 2 ≤ n) {k : Nat} (h : k < n) : ph (ep (ties0 n)) (turns0 n) ((k + 1) % n, 1) = (k, 1) := by
  have lt : (k + 1) % n < n := Nat.mod_lt _ (by omega)
  show sg _ _ ((k + 1) % n, 0) = _
  rw [sg, ep0 lt, if_pos rfl, row0 lt, back_on h]
  simp [nxR, nx1]
theorem FL0 (n2 : 2 ≤ n) {L : Hf → Bool} (l : FL n (ph (ep (ties0 n)) (turns0 n)) L) {s : Nat} (hs : s ≤ 1) : ∀ {k : Nat}, k < n → L (k, s) = L (0, s) := by
  intro k
  induction k with
  | zero => intro _; rfl
  | succ k ih =>
    intro h
    have hk : k < n := by omega
    have e : (k + 1) % n = k + 1 := Nat.mod_eq_of_lt h
    have : s = 0 ∨ s = 1 := by omega
    rcases this with rfl | rfl
    · have := l (k, 0) ⟨hk, Nat.zero_le _⟩
      rw [ph00 n2 hk, e] at this
      rw [this]; exact ih hk
    · have := l (k + 1, 1) ⟨h, Nat.le_refl _⟩
      have q := ph01 n2 hk
      rw [e] at q
      rw [q] at this
      rw [← this]; exact ih hk
theorem L0 (n2 : 2 ≤ n) (x y : Bool) : FL n (ph (ep (ties0 n)) (turns0 n)) fun g => if g.2 = 0 then x else y := fun h hh => by
  obtain ⟨t, s⟩ := h
  have ht : t < n := hh.1
  rcases half_cases hh with q | q
  · obtain ⟨_, rfl⟩ := Prod.mk.inj q
    rw [ph00 n2 ht]
  · obtain ⟨_, rfl⟩ := Prod.mk.inj q
    have lt : (t + n - 1) % n < n := Nat.mod_lt _ (by omega)
    have := ph01 n2 lt
    rw [on_back ht] at this
    rw [this]
theorem nodup_le_two {l : List Nat} (nd : l.Nodup) (h : ∀ x ∈ l, x ≤ 1) : l.length ≤ 2 := pig (s := [0, 1]) nd fun x hx => by
  have := h x hx
  have : x = 0 ∨ x = 1 := by omega
  rcases this with rfl | rfl <;> simp
theorem rims0 (n2 : 2 ≤ n) : (rimsW (ties0 n) (turns0 n)).length = 2 ∧ ∀ x y : Bool, x ≠ y → ∀ z, ((rimsW (ties0 n) (turns0 n)).filter fun r => (if (hd r).2 = 0 then x else y) == z).length = 1 := by
  have M : Mp n (ties0 n).length (ep (ties0 n)) (turns0 n) := by rw [ties0_len]; exact M0 n2
  have R := rimsW_ok M
  rw [ties0_len] at R
  have z0 : InH n (0, 0) := ⟨by omega, Nat.zero_le _⟩
  have z1 : InH n (0, 1) := ⟨by omega, Nat.le_refl _⟩
  have lo : 2 ≤ (rimsW (ties0 n) (turns0 n)).length := by
    have := apart_le R.cyc (M := [(0, 0), (0, 1)]) (fun g hg => R.cov g (mem_halves.mpr (by simp at hg; rcases hg with rfl | rfl <;> assumption))) (by
      refine List.pairwise_cons.mpr ⟨fun y hy => ?_, List.pairwise_singleton _ _⟩
      rw [List.mem_singleton.mp hy]
      exact ⟨_, L0 n2 true false, by simp⟩)
    simpa using this
  -- heads that are apart lie on different sides
  have two : ∀ rows : List (List Hf), rows.Pairwise (fun r s => Sep n (ph (ep (ties0 n)) (turns0 n)) (hd r) (hd s)) → (∀ r ∈ rows, InH n (hd r)) → (rows.map fun r => (hd r).2).Nodup := fun rows hp hin => by
    refine List.pairwise_map.mpr (List.Pairwise.imp_of_mem ?_ hp)
    intro r s hr hs ⟨L, l, ne⟩ e
    have h1 := hin r hr
    have h2 := hin s hs
    refine ne ?_
    have a1 := FL0 n2 l h1.2 h1.1
    have a2 := FL0 n2 l h2.2 h2.1
    rw [← e] at a2
    calc L (hd r) = L (0, (hd r).2) := a1
      _ = L ((hd s).1, (hd r).2) := a2.symm
      _ = L (hd s) := by rw [e]
  have hi : (rimsW (ties0 n) (turns0 n)).length ≤ 2 := by
    have := nodup_le_two (two _ (R.sepRows (M0 n2).phP) fun r h => R.hd_in h) fun x hx => by
      obtain ⟨r, hr, rfl⟩ := List.mem_map.mp hx
      exact (R.hd_in hr).2
    rwa [List.length_map] at this
  have e2 : (rimsW (ties0 n) (turns0 n)).length = 2 := by omega
  refine ⟨e2, fun x y ne => ?_⟩
  have one : ∀ z, ((rimsW (ties0 n) (turns0 n)).filter fun r => (if (hd r).2 = 0 then x else y) == z).length ≤ 1 := fun z => by
    have nd := two _ ((R.sepRows (M0 n2).phP).filter fun r => (if (hd r).2 = 0 then x else y) == z) fun r h => R.hd_in (List.mem_filter.mp h).1
    have := pig (s := [if x = z then 0 else 1]) nd fun k hk => by
      obtain ⟨r, hr, rfl⟩ := List.mem_map.mp hk
      obtain ⟨q1, q2⟩ := List.mem_filter.mp hr
      have q3 := (R.hd_in q1).2
      have : (hd r).2 = 0 ∨ (hd r).2 = 1 := by omega
      rcases this with q | q
      · rw [q] at q2 ⊢
        have : x = z := by simpa using q2
        simp [this]
      · rw [q] at q2 ⊢
        have : y = z := by simpa using q2
        have : x ≠ z := by rw [← this]; exact ne
        simp [this]
    simpa using this
  have s := filter_two (fun r => if (hd r).2 = 0 then x else y) (rimsW (ties0 n) (turns0 n))
  have h1 := one true
  have h2 := one false
  intro z
  cases z <;> omega
theorem count0 (x y : Bool) (ne : x ≠ y) (z : Bool) : ∀ n, (halvesL n).countP (fun h => (if h.2 = 0 then x else y) == z) = n
  | 0 => rfl
  | n + 1 => by
    rw [halvesL, List.countP_append, count0 x y ne z n]
    cases x <;> cases y <;> cases z <;> first | rfl | exact absurd rfl ne
theorem good0 (n2 : 2 ≤ n) : Good n (ties0 n) (turns0 n) := by
  have M := M0 n2
  obtain ⟨c, cf⟩ := rims0 n2
  refine ⟨n2, by rw [ties0_len]; exact Nat.le_refl _, fun k hk => ties0_get hk, by rw [ties0_len]; exact M, fun S hS => ?_, fun L l hb g h hg hh => ?_, by rw [c, ties0_len]; omega, ?_⟩
  · rw [ties0_len]
    refine ⟨_, L0 n2 false (S 0), fun t ht => ?_⟩
    show S t = (false ^^ S 0)
    rw [Bool.false_xor]
    have : ∀ k, k < n → S k = S 0 := by
      intro k
      induction k with
      | zero => intro _; rfl
      | succ k ih =>
        intro h
        have q := hS (k + 1) h
        rw [row0 h] at q
        have e : (k + 1 + n - 1) % n = k := by rw [show k + 1 + n - 1 = k + n by omega, Nat.add_mod_right, Nat.mod_eq_of_lt (by omega)]
        simp only [px, e, Bool.xor_false] at q
        rw [← ih (by omega)]
        cases a : S (k + 1) <;> cases b : S k <;> rw [a, b] at q <;> first | rfl | cases q
    exact this t ht
  · rw [ties0_len] at l hb hg hh
    have e : L (0, 0) = L (0, 1) := by
      have := hb 0 (by omega)
      unfold bd at this
      cases q : L (0, 0) <;> cases q' : L (0, 1) <;> first | rfl | (rw [q, q'] at this; cases this)
    have all : ∀ g, InH n g → L g = L (0, 0) := fun g hg => by
      have a := FL0 n2 l hg.2 hg.1
      rcases half_cases hg with q | q
      · rw [q]; exact FL0 n2 l (Nat.zero_le _) hg.1
      · rw [q, e]; exact FL0 n2 l (Nat.le_refl _) hg.1
    rw [all g hg, all h hh]
  · rw [ties0_len]
    refine ⟨_, L0 n2 false true, fun t ht => ?_, fun x => ?_⟩
    · rw [decide_eq_true ht]; rfl
    · rw [count0 false true (by decide) x n, cf false true (by decide) x]
end
end K95

set_option linter.all false
set_option Elab.async false
/-! K95S: what is reached over other ties; rings; the room. -/
namespace K95
/-- in which rim -/
def wh (rows : List (List Hf)) (h : Hf) : Nat := rows.findIdx fun r => decide (h ∈ r)
/-- F: the rims that are reached from the last one over ties that the ring has not -/
structure Bfs (m r : Nat) (w : Hf → Nat) (ring F : List Nat) : Prop where
  last : r - 1 ∈ F
  lt : ∀ k ∈ F, k < r
  closed : ∀ t, t < m → t ∉ ring → (w (t, 0) ∈ F ↔ w (t, 1) ∈ F)
  least : ∀ Q : Nat → Prop, Q (r - 1) → (∀ t, t < m → t ∉ ring → (Q (w (t, 0)) ↔ Q (w (t, 1)))) → ∀ k ∈ F, Q k
theorem Bfs.unique {m r : Nat} {w : Hf → Nat} {ring F F' : List Nat} (h : Bfs m r w ring F) (h' : Bfs m r w ring F') (k : Nat) : k ∈ F ↔ k ∈ F' :=
  ⟨h.least (fun k => k ∈ F') h'.last h'.closed k, h'.least (fun k => k ∈ F) h.last h.closed k⟩
section
variable {m n : Nat} {f : Hf → Hf} {rows : List (List Hf)} {hs : List Hf}
theorem Rims.wh (R : Rims m f rows hs) {h : Hf} (hh : h ∈ hs) : ∃ lt : K95.wh rows h < rows.length, h ∈ rows[K95.wh rows h] := by
  obtain ⟨row, h1, h2⟩ := R.cov h hh
  have lt : K95.wh rows h < rows.length := List.findIdx_lt_length_of_exists ⟨row, h1, decide_eq_true h2⟩
  exact ⟨lt, of_decide_eq_true (List.findIdx_getElem (p := fun r => decide (h ∈ r)) (w := lt))⟩
theorem Rims.only (R : Rims m f rows hs) {h : Hf} {i j : Nat} (hi : i < rows.length) (hj : j < rows.length) (h1 : h ∈ rows[i]) (h2 : h ∈ rows[j]) : i = j := by
  have d := List.pairwise_iff_getElem.mp R.dis
  rcases Nat.lt_trichotomy i j with q | q | q
  · exact absurd h2 (d i j hi hj q h h1)
  · exact q
  · exact absurd h1 (d j i hj hi q h h2)
theorem Rims.wh_of (R : Rims m f rows hs) {h : Hf} (hh : h ∈ hs) {i : Nat} (hi : i < rows.length) (h1 : h ∈ rows[i]) : K95.wh rows h = i := by
  obtain ⟨lt, q⟩ := R.wh hh
  exact R.only lt hi q h1
theorem Rims.wh_next (R : Rims m f rows hs) (P : Per m f) (hin : ∀ h, h ∈ hs ↔ InH m h) {h : Hf} (hh : InH m h) : K95.wh rows (f h) = K95.wh rows h := by
  obtain ⟨lt, q⟩ := R.wh ((hin h).mpr hh)
  refine R.wh_of ((hin _).mpr (P.to h hh)) lt ?_
  obtain ⟨a, r, e, c⟩ := R.cyc _ (List.getElem_mem lt)
  rw [e] at q ⊢
  exact c.next q
/-- a labelling on the rim of a half -/
theorem Rims.lab (R : Rims m f rows hs) {L : Hf → Bool} (l : FL m f L) {h : Hf} {i : Nat} (hi : i < rows.length) (h1 : h ∈ rows[i]) : L h = L (hd rows[i]) := by
  obtain ⟨a, r, e, c⟩ := R.cyc _ (List.getElem_mem hi)
  rw [e] at h1 ⊢
  exact l.on c h1
end
section
variable {n : Nat} {ties : List (Nat × Nat)} {turns : List (List Hf)}
def inW (rows : List (List Hf)) (F : List Nat) (h : Hf) : Bool := decide (wh rows h ∈ F)
theorem inW_FL (M : Mp n ties.length (ep ties) turns) (F : List Nat) : FL ties.length (ph (ep ties) turns) (inW (rimsW ties turns) F) := fun h hh => by
  unfold inW
  rw [(rimsW_ok M).wh_next M.phP (fun _ => mem_halves) hh]
/-- the ties with the reached rims on one side only are those of the ring -/
theorem Good.sides (G : Good n ties turns) {ring F : List Nat} (B : Bfs ties.length (rimsW ties turns).length (wh (rimsW ties turns)) ring F) (ev : Ev n turns fun t => decide (t ∈ ring))
    (mn : ∀ T, Ev n turns T → (∀ t, t < ties.length → T t = true → t ∈ ring) → (∀ t, t < ties.length → T t = false) ∨ ∀ t, t < ties.length → t ∈ ring → T t = true)
    {u : Nat} (hu : u < ties.length) (su : u ∈ ring) : ∀ t, t < ties.length → bd (inW (rimsW ties turns) F) t = decide (t ∈ ring) := by
  have R := rimsW_ok G.M
  have P := G.M.phP
  have pos : (rimsW ties turns).length - 1 < (rimsW ties turns).length := by have := G.cnt; have := G.nm; omega
  have side : ∀ t, t < ties.length → bd (inW (rimsW ties turns) F) t = true → t ∈ ring := fun t ht h => Classical.byContradiction fun z => by
    have q := B.closed t ht z
    unfold bd inW at h
    rw [decide_eq_decide.mpr q, Bool.xor_self] at h
    cases h
  refine G.apart ev (fun T hT hs => ?_) (inW_FL G.M F) (fun t ht h => decide_eq_true (side t ht h)) (fun L l hL g h hg hh dg dh => ?_) ?_ hu (decide_eq_true su)
  · rcases mn T hT fun t ht q => of_decide_eq_true (hs t ht q) with h | h
    · exact .inl h
    · refine .inr fun t ht => ?_
      by_cases q : t ∈ ring
      · rw [h t ht q, decide_eq_true q]
      · rw [decide_eq_false q]
        cases z : T t with
        | false => rfl
        | true => exact absurd (of_decide_eq_true (hs t ht z)) q
  · -- a labelling that the other ties do not part is one on F
    have one : ∀ k ∈ F, ∀ hk : k < (rimsW ties turns).length, L (hd (rimsW ties turns)[k]) = L (hd (rimsW ties turns)[(rimsW ties turns).length - 1]) := by
      refine B.least (fun k => ∀ hk : k < (rimsW ties turns).length, L (hd (rimsW ties turns)[k]) = L (hd (rimsW ties turns)[(rimsW ties turns).length - 1])) (fun _ => rfl) fun t ht hr => ?_
      have z0 : InH ties.length (t, 0) := ⟨ht, Nat.zero_le _⟩
      have z1 : InH ties.length (t, 1) := ⟨ht, Nat.le_refl _⟩
      obtain ⟨l0, m0⟩ := R.wh (mem_halves.mpr z0)
      obtain ⟨l1, m1⟩ := R.wh (mem_halves.mpr z1)
      have e0 := R.lab l l0 m0
      have e1 := R.lab l l1 m1
      have b := hL t ht (decide_eq_false hr)
      have e : L (t, 0) = L (t, 1) := by
        unfold bd at b
        cases q : L (t, 0) <;> cases q' : L (t, 1) <;> first | rfl | (rw [q, q'] at b; cases b)
      constructor
      · intro q _; rw [← e1, ← e, e0]; exact q l0
      · intro q _; rw [← e0, e, e1]; exact q l1
    obtain ⟨l0, m0⟩ := R.wh (mem_halves.mpr hg)
    obtain ⟨l1, m1⟩ := R.wh (mem_halves.mpr hh)
    rw [R.lab l l0 m0, R.lab l l1 m1, one _ (of_decide_eq_true dg) l0, one _ (of_decide_eq_true dh) l1]
  · have hm := List.getElem_mem pos
    refine ⟨hd (rimsW ties turns)[(rimsW ties turns).length - 1], R.hd_in hm, ?_⟩
    unfold inW
    rw [R.wh_of (mem_halves.mpr (R.hd_in hm)) pos (R.hd_mem hm)]
    exact decide_eq_true B.last
/-! ### the rings -/
theorem mem_row (M : Mp n ties.length (ep ties) turns) {p : Nat} (hp : p < n) {t s : Nat} : (t, s) ∈ rowAt turns p ↔ t < ties.length ∧ s ≤ 1 ∧ ep ties (t, s) = p := by
  rw [M.row p hp]; unfold InH; simp [and_assoc]
/-- what ring ties stand at a point -/
theorem Good.at (G : Good n ties turns) {p : Nat} (hp : p < n) : (p, 0) ∈ rowAt turns p ∧ ((p + n - 1) % n, 1) ∈ rowAt turns p ∧ ∀ t s, t < n → (t, s) ∈ rowAt turns p → (t, s) = (p, 0) ∨ (t, s) = ((p + n - 1) % n, 1) := by
  have n2 := G.n2
  have nm := G.nm
  have lt : (p + n - 1) % n < n := Nat.mod_lt _ (by omega)
  have e : ∀ t s, t < n → ep ties (t, s) = if s = 0 then t else (t + 1) % n := fun t s ht => by unfold ep; rw [G.ring t ht]
  refine ⟨(mem_row G.M hp).mpr ⟨by omega, by omega, by rw [e p 0 hp]; rfl⟩, (mem_row G.M hp).mpr ⟨by omega, by omega, by rw [e _ 1 lt, if_neg (by decide)]; exact on_back hp⟩, fun t s ht h => ?_⟩
  obtain ⟨_, h2, h3⟩ := (mem_row G.M hp).mp h
  rw [e t s ht] at h3
  have : s = 0 ∨ s = 1 := by omega
  rcases this with rfl | rfl
  · rw [if_pos rfl] at h3; exact .inl (by rw [h3])
  · rw [if_neg (by decide)] at h3; exact .inr (by rw [← h3, back_on ht])
theorem px_at (G : Good n ties turns) {p : Nat} (hp : p < n) {S : Nat → Bool} (h : ∀ t, t < ties.length → n ≤ t → S t = false) : px (fun g => S g.1) (rowAt turns p) = (S p ^^ S ((p + n - 1) % n)) := by
  obtain ⟨h1, h2, h3⟩ := G.at hp
  refine px_two (u := (p, 0)) (v := ((p + n - 1) % n, 1)) (by simp) (G.M.nd p hp) h1 h2 fun g hg n1 n2 => ?_
  have lt := ((mem_row G.M hp).mp hg).1
  by_cases q : g.1 < n
  · rcases h3 g.1 g.2 q hg with z | z
    · exact absurd z n1
    · exact absurd z n2
  · exact h g.1 lt (by omega)
/-- the ring through all points -/
theorem Good.whole (G : Good n ties turns) : Ev n turns (fun t => decide (t ∈ List.range n)) ∧ ∀ T, Ev n turns T → (∀ t, t < ties.length → T t = true → t ∈ List.range n) → (∀ t, t < ties.length → T t = false) ∨ ∀ t, t < ties.length → t ∈ List.range n → T t = true := by
  have n2 := G.n2
  refine ⟨fun p hp => ?_, fun T hT hs => ?_⟩
  · have lt : (p + n - 1) % n < n := Nat.mod_lt _ (by omega)
    rw [px_at G hp (S := fun t => decide (t ∈ List.range n)) fun t _ h => decide_eq_false fun z => by have := List.mem_range.mp z; omega]
    rw [decide_eq_true (List.mem_range.mpr hp), decide_eq_true (List.mem_range.mpr lt)]; rfl
  · have out : ∀ t, t < ties.length → n ≤ t → T t = false := fun t ht h => by
      cases q : T t with
      | false => rfl
      | true => have := List.mem_range.mp (hs t ht q); omega
    have same : ∀ k, k < n → T k = T 0 := by
      intro k
      induction k with
      | zero => intro _; rfl
      | succ k ih =>
        intro h
        have q := hT (k + 1) h
        have e : (k + 1 + n - 1) % n = k := by rw [show k + 1 + n - 1 = k + n by omega, Nat.add_mod_right, Nat.mod_eq_of_lt (by omega)]
        rw [px_at G h out, e] at q
        rw [← ih (by omega)]
        cases a : T (k + 1) <;> cases b : T k <;> rw [a, b] at q <;> first | rfl | cases q
    cases z : T 0 with
    | false =>
      refine .inl fun t ht => ?_
      by_cases q : t < n
      · rw [same t q, z]
      · exact out t ht (by omega)
    | true => exact .inr fun t ht h => by rw [same t (List.mem_range.mp h), z]
/-- a shorter ring: the ties from a to b, and the tie u over them -/
theorem Good.short (G : Good n ties turns) {a b u : Nat} (ab : a ≤ b) (bn : b < n) (hu : u < ties.length) (un : n ≤ u) (hpr : ties.getD u (0, 0) = (a, b) ∨ ties.getD u (0, 0) = (b, a)) :
    Ev n turns (fun t => decide ((a ≤ t ∧ t < b) ∨ t = u)) ∧ ∀ T, Ev n turns T → (∀ t, t < ties.length → T t = true → (a ≤ t ∧ t < b) ∨ t = u) → (∀ t, t < ties.length → T t = false) ∨ ∀ t, t < ties.length → ((a ≤ t ∧ t < b) ∨ t = u) → T t = true := by
  have n2 := G.n2
  -- the halves of u: at a and at b
  obtain ⟨sa, sb, hab, ea, eb, ha1, hb1⟩ : ∃ sa sb, sa ≠ sb ∧ ep ties (u, sa) = a ∧ ep ties (u, sb) = b ∧ sa ≤ 1 ∧ sb ≤ 1 := by
    rcases hpr with h | h
    · exact ⟨0, 1, by decide, by unfold ep; rw [h]; rfl, by unfold ep; rw [h]; rfl, by decide, by decide⟩
    · exact ⟨1, 0, by decide, by unfold ep; rw [h]; rfl, by unfold ep; rw [h]; rfl, by decide, by decide⟩
  have onu : ∀ s, s ≤ 1 → s = sa ∨ s = sb := fun s hs => by omega
  have an : a < n := by omega
  have nm := G.nm
  -- what stands at p, of a set within the ring
  have at_ : ∀ T : Nat → Bool, (∀ t, t < ties.length → T t = true → (a ≤ t ∧ t < b) ∨ t = u) → ∀ p, p < n → px (fun g => T g.1) (rowAt turns p) =
      (if a < p ∧ p < b then T p ^^ T (p - 1) else if a = b then false else if p = a then T a ^^ T u else if p = b then T (b - 1) ^^ T u else false) := fun T hT p hp => by
    obtain ⟨h1, h2, h3⟩ := G.at hp
    have off : ∀ t, t < ties.length → ¬ ((a ≤ t ∧ t < b) ∨ t = u) → T t = false := fun t ht z => by
      cases q : T t with
      | false => rfl
      | true => exact absurd (hT t ht q) z
    have prev : 0 < p → (p + n - 1) % n = p - 1 := fun h => by rw [show p + n - 1 = p - 1 + n by omega, Nat.add_mod_right, Nat.mod_eq_of_lt (by omega)]
    -- a half at p whose tie lies in the ring
    have who : ∀ g, g ∈ rowAt turns p → ((a ≤ g.1 ∧ g.1 < b) ∨ g.1 = u) → (g = (p, 0) ∧ a ≤ p ∧ p < b) ∨ (g = (p - 1, 1) ∧ a < p ∧ p ≤ b) ∨ (g = (u, sa) ∧ p = a) ∨ (g = (u, sb) ∧ p = b) := fun g hg hw => by
      obtain ⟨t, s⟩ := g
      obtain ⟨q1, q2, q3⟩ := (mem_row G.M hp).mp hg
      rcases hw with ⟨w1, w2⟩ | w
      · have w1 : a ≤ t := w1
        have w2 : t < b := w2
        rcases h3 t s (by omega) hg with z | z
        · obtain ⟨rfl, rfl⟩ := Prod.mk.inj z
          exact .inl ⟨rfl, w1, w2⟩
        · obtain ⟨z1, rfl⟩ := Prod.mk.inj z
          have : 0 < p := by
            rcases Nat.eq_zero_or_pos p with z0 | z0
            · subst z0
              rw [Nat.zero_add, Nat.mod_eq_of_lt (by omega)] at z1
              omega
            · exact z0
          rw [prev this] at z1
          exact .inr (.inl ⟨by rw [z1], by omega, by omega⟩)
      · have w : t = u := w
        subst w
        rcases onu s q2 with rfl | rfl
        · exact .inr (.inr (.inl ⟨rfl, by rw [← q3, ea]⟩))
        · exact .inr (.inr (.inr ⟨rfl, by rw [← q3, eb]⟩))
    have rest : ∀ g, g ∈ rowAt turns p → ¬ ((a ≤ g.1 ∧ g.1 < b) ∨ g.1 = u) → T g.1 = false := fun g hg z => off g.1 ((mem_row G.M hp).mp hg).1 z
    have ua : p = a → (u, sa) ∈ rowAt turns p := fun h => (mem_row G.M hp).mpr ⟨hu, ha1, by rw [ea, h]⟩
    have ub : p = b → (u, sb) ∈ rowAt turns p := fun h => (mem_row G.M hp).mpr ⟨hu, hb1, by rw [eb, h]⟩
    have pr : 0 < p → (p - 1, 1) ∈ rowAt turns p := fun h => by rw [← prev h]; exact h2
    by_cases c1 : a < p ∧ p < b
    · rw [if_pos c1]
      refine px_two (u := (p, 0)) (v := (p - 1, 1)) (by simp) (G.M.nd p hp) h1 (pr (by omega)) fun g hg n1 n2 => rest g hg fun w => ?_
      rcases who g hg w with ⟨z, _⟩ | ⟨z, _⟩ | ⟨_, z⟩ | ⟨_, z⟩
      · exact n1 z
      · exact n2 z
      · omega
      · omega
    · rw [if_neg c1]
      by_cases c2 : a = b
      · rw [if_pos c2]
        by_cases c3 : p = a
        · have := px_two (b := fun g : Hf => T g.1) (u := (u, sa)) (v := (u, sb)) (by simp [hab]) (G.M.nd p hp) (ua c3) (ub (c3.trans c2)) fun g hg n1 n2 => rest g hg fun w => by
            rcases who g hg w with ⟨_, z1, z2⟩ | ⟨_, z1, z2⟩ | ⟨z, _⟩ | ⟨z, _⟩
            · omega
            · omega
            · exact n1 z
            · exact n2 z
          rw [this, Bool.xor_self]
        · refine px_none fun g hg => rest g hg fun w => ?_
          rcases who g hg w with ⟨_, z1, z2⟩ | ⟨_, z1, z2⟩ | ⟨_, z⟩ | ⟨_, z⟩ <;> omega
      · rw [if_neg c2]
        by_cases c3 : p = a
        · rw [if_pos c3]
          subst c3
          refine px_two (u := (p, 0)) (v := (u, sa)) (by simp; omega) (G.M.nd p hp) h1 (ua rfl) fun g hg n1 n2 => rest g hg fun w => ?_
          rcases who g hg w with ⟨z, _⟩ | ⟨_, z1, z2⟩ | ⟨z, _⟩ | ⟨_, z⟩
          · exact n1 z
          · omega
          · exact n2 z
          · omega
        · rw [if_neg c3]
          by_cases c4 : p = b
          · rw [if_pos c4]
            subst c4
            refine px_two (u := (p - 1, 1)) (v := (u, sb)) (by simp; omega) (G.M.nd p hp) (pr (by omega)) (ub rfl) fun g hg n1 n2 => rest g hg fun w => ?_
            rcases who g hg w with ⟨_, z1, z2⟩ | ⟨z, _⟩ | ⟨_, z⟩ | ⟨z, _⟩
            · omega
            · exact n1 z
            · omega
            · exact n2 z
          · rw [if_neg c4]
            refine px_none fun g hg => rest g hg fun w => ?_
            rcases who g hg w with ⟨_, z1, z2⟩ | ⟨_, z1, z2⟩ | ⟨_, z⟩ | ⟨_, z⟩ <;> omega
  refine ⟨fun p hp => ?_, fun T hT hs => ?_⟩
  · rw [at_ (fun t => decide ((a ≤ t ∧ t < b) ∨ t = u)) (fun t _ h => of_decide_eq_true h) p hp]
    have yes : ∀ t, ((a ≤ t ∧ t < b) ∨ t = u) → decide ((a ≤ t ∧ t < b) ∨ t = u) = true := fun t h => decide_eq_true h
    split
    · rename_i c; rw [yes p (by omega), yes (p - 1) (by omega)]; rfl
    · split
      · rfl
      · rename_i c2
        split
        · rw [yes a (by omega), yes u (by omega)]; rfl
        · split
          · rw [yes (b - 1) (by omega), yes u (by omega)]; rfl
          · rfl
  · by_cases c2 : a = b
    · -- the tie alone
      cases z : T u with
      | false =>
        refine .inl fun t ht => ?_
        cases q : T t with
        | false => rfl
        | true =>
          rcases hs t ht q with h | h
          · omega
          · subst h; rw [z] at q; cases q
      | true =>
        refine .inr fun t ht h => ?_
        rcases h with h | h
        · omega
        · rw [h]; exact z
    · have ha := hT a an
      rw [at_ T hs a an, if_neg (by omega), if_neg c2, if_pos rfl] at ha
      have sa : T a = T u := by cases q : T a <;> cases q' : T u <;> rw [q, q'] at ha <;> first | rfl | cases ha
      have same : ∀ k, a + k < b → T (a + k) = T u := by
        intro k
        induction k with
        | zero => intro _; exact sa
        | succ k ih =>
          intro h
          have q := hT (a + (k + 1)) (by omega)
          rw [at_ T hs _ (by omega), if_pos (by omega), show a + (k + 1) - 1 = a + k by omega, ih (by omega)] at q
          cases x : T (a + (k + 1)) <;> cases y : T u <;> rw [x, y] at q <;> first | rfl | cases q
      have same' : ∀ t, a ≤ t → t < b → T t = T u := fun t h1 h2 => by
        have := same (t - a) (by omega)
        rwa [show a + (t - a) = t by omega] at this
      cases z : T u with
      | false =>
        refine .inl fun t ht => ?_
        cases q : T t with
        | false => rfl
        | true =>
          rcases hs t ht q with h | h
          · rw [same' t h.1 h.2, z] at q; cases q
          · subst h; rw [z] at q; cases q
      | true =>
        refine .inr fun t ht h => ?_
        rcases h with h | h
        · rw [same' t h.1 h.2, z]
        · rw [h]; exact z
end
end K95

set_option linter.all false
set_option Elab.async false
/-! K95T: the room of the ring through all points is 0. -/
namespace K95
section
variable {m : Nat} {f : Hf → Hf} {rows : List (List Hf)}
theorem halves_nodup (m : Nat) : (halvesL m).Nodup := (halves_sorted m).imp fun {a b} h e => by
  subst e
  rcases h with h | ⟨_, h⟩ <;> exact absurd h (Nat.lt_irrefl _)
theorem sum_len (R : Rims m f rows (halvesL m)) {D : Hf → Bool} (d : FL m f D) (x : Bool) : ((rows.filter fun r => D (hd r) == x).map List.length).sum = (halvesL m).countP fun h => D h == x := by
  rw [← List.length_flatten, List.countP_eq_length_filter]
  have nd : ((rows.filter fun r => D (hd r) == x).flatten).Nodup := by
    refine List.pairwise_flatten.mpr ⟨fun r hr => ?_, List.Pairwise.imp ?_ (R.dis.filter _)⟩
    · obtain ⟨a, s, e, c⟩ := R.cyc r (List.mem_filter.mp hr).1
      rw [e]; exact c.nd
    · intro r s h a ha b hb e
      subst e
      exact h a ha hb
  have mem : ∀ h, h ∈ (rows.filter fun r => D (hd r) == x).flatten ↔ h ∈ (halvesL m).filter fun h => D h == x := fun h => by
    rw [List.mem_flatten, List.mem_filter]
    constructor
    · rintro ⟨r, hr, hh⟩
      obtain ⟨q1, q2⟩ := List.mem_filter.mp hr
      obtain ⟨a, s, e, c⟩ := R.cyc r q1
      subst e
      refine ⟨mem_halves.mpr (c.sub h hh), ?_⟩
      rw [d.on c hh]; exact q2
    · rintro ⟨h1, h2⟩
      obtain ⟨r, hr, hh⟩ := R.cov h h1
      refine ⟨r, List.mem_filter.mpr ⟨hr, ?_⟩, hh⟩
      obtain ⟨a, s, e, c⟩ := R.cyc r hr
      subst e
      have : D h = D (hd (a :: s)) := d.on c hh
      rw [← this]; exact h2
  have l1 := pig nd fun h hh => (mem h).mp hh
  have l2 := pig ((halves_nodup m).filter _) fun h hh => (mem h).mpr hh
  omega
end
theorem sum_split (D : Hf → Bool) : ∀ rows : List (List Hf), (rows.map fun r => ((r.length : Int) - 2) * (if D (hd r) = true then (-1) else 1)).sum =
    ((((rows.filter fun r => D (hd r) == false).map List.length).sum : Int) - 2 * ((rows.filter fun r => D (hd r) == false).length : Int)) - ((((rows.filter fun r => D (hd r) == true).map List.length).sum : Int) - 2 * ((rows.filter fun r => D (hd r) == true).length : Int))
  | [] => rfl
  | r :: rows => by
    have ih := sum_split D rows
    rw [List.map_cons, List.sum_cons, ih]
    cases h : D (hd r)
    · rw [List.filter_cons_of_pos (by rw [h]; rfl), List.filter_cons_of_neg (by rw [h]; decide)]
      simp only [List.map_cons, List.sum_cons, List.length_cons]
      rw [if_neg (by decide)]
      omega
    · rw [List.filter_cons_of_neg (by rw [h]; decide), List.filter_cons_of_pos (by rw [h]; rfl)]
      simp only [List.map_cons, List.sum_cons, List.length_cons]
      rw [if_pos trivial]
      omega
section
variable {n : Nat} {ties : List (Nat × Nat)} {turns : List (List Hf)}
theorem range_map {α β : Type} (l : List α) (g : α → β) (d : α) : (List.range l.length).map (fun k => g (l.getD k d)) = l.map g := by
  apply List.ext_getElem
  · simp
  · intro i h1 h2
    simp at h1 h2
    simp [h1]
theorem Good.room0 (G : Good n ties turns) {F : List Nat} (B : Bfs ties.length (rimsW ties turns).length (wh (rimsW ties turns)) (List.range n) F) :
    ((List.range (rimsW ties turns).length).map fun k => ((((rimsW ties turns).getD k []).length : Int) - 2) * (if k ∈ F then (-1) else 1)).sum = 0 := by
  have R := rimsW_ok G.M
  obtain ⟨ev, mn⟩ := G.whole
  have n2 := G.n2
  have nm := G.nm
  have sd := G.sides B ev mn (u := 0) (by omega) (List.mem_range.mpr (by omega))
  have d := inW_FL G.M F
  obtain ⟨C, cl, cb, cr⟩ := G.room
  -- D is C, or its opposite
  have z00 : InH ties.length (0, 0) := ⟨by omega, Nat.zero_le _⟩
  have cst := G.con (fun h => inW (rimsW ties turns) F h ^^ C h) (d.xor cl) fun t ht => by
    have e1 := sd t ht
    have e2 := cb t ht
    have : decide (t ∈ List.range n) = decide (t < n) := decide_eq_decide.mpr List.mem_range
    rw [this] at e1
    show ((inW (rimsW ties turns) F (t, 0) ^^ C (t, 0)) ^^ (inW (rimsW ties turns) F (t, 1) ^^ C (t, 1))) = false
    have e3 : bd (inW (rimsW ties turns) F) t = bd C t := by rw [e1, e2]
    unfold bd at e3
    cases q1 : inW (rimsW ties turns) F (t, 0) <;> cases q2 : inW (rimsW ties turns) F (t, 1) <;> cases q3 : C (t, 0) <;> cases q4 : C (t, 1) <;> rw [q1, q2, q3, q4] at e3 <;> first | rfl | cases e3
  have key : ∀ x : Bool, ((halvesL ties.length).countP fun h => inW (rimsW ties turns) F h == x) + 2 = n + 2 * ((rimsW ties turns).filter fun r => inW (rimsW ties turns) F (hd r) == x).length := fun x => by
    have e : ∀ h, InH ties.length h → inW (rimsW ties turns) F h = (C h ^^ (inW (rimsW ties turns) F (0, 0) ^^ C (0, 0))) := fun h hh => by
      have := cst h (0, 0) hh z00
      rw [← this]
      cases inW (rimsW ties turns) F h <;> cases C h <;> rfl
    have b : ∀ h, InH ties.length h → (inW (rimsW ties turns) F h == x) = (C h == (x ^^ (inW (rimsW ties turns) F (0, 0) ^^ C (0, 0)))) := fun h hh => by
      rw [e h hh]
      cases C h <;> cases x <;> cases (inW (rimsW ties turns) F (0, 0) ^^ C (0, 0)) <;> rfl
    rw [List.countP_congr fun h hh => by rw [b h (mem_halves.mp hh)], List.filter_congr fun r hr => b (hd r) (R.hd_in hr)]
    exact cr _
  have toRows : ((List.range (rimsW ties turns).length).map fun k => ((((rimsW ties turns).getD k []).length : Int) - 2) * (if k ∈ F then (-1) else 1)) = (rimsW ties turns).map fun r => ((r.length : Int) - 2) * (if inW (rimsW ties turns) F (hd r) = true then (-1) else 1) := by
    rw [← range_map (rimsW ties turns) (fun r => ((r.length : Int) - 2) * (if inW (rimsW ties turns) F (hd r) = true then (-1) else 1)) []]
    apply List.map_congr_left
    intro k hk
    have lt := List.mem_range.mp hk
    have e : (rimsW ties turns).getD k [] = (rimsW ties turns)[k] := by simp [lt]
    have hm := List.getElem_mem lt
    have w : wh (rimsW ties turns) (hd (rimsW ties turns)[k]) = k := R.wh_of (mem_halves.mpr (R.hd_in hm)) lt (R.hd_mem hm)
    rw [e]
    unfold inW
    rw [w]
    by_cases q : k ∈ F
    · rw [if_pos q, if_pos (decide_eq_true q)]
    · rw [if_neg q, if_neg (by rw [decide_eq_false q]; decide)]
  rw [toRows, sum_split, sum_len R d, sum_len R d]
  have k1 := key true
  have k2 := key false
  omega
end
end K95

set_option Elab.async false
set_option linter.all false
set_option maxRecDepth 100000
/-! K95E: what the defs of k95 reckon. -/
namespace K95
open PySem PD
def nI (k : Nat) : D := .int (k : Int)
def encH (h : Hf) : D := .tuple [.int (h.1 : Int), .int (h.2 : Int)]
def encR (r : List Hf) : D := .list (r.map encH)
def encT (T : List (List Hf)) : D := .list (T.map encR)
def encW (n : Nat) (ties : List (Nat × Nat)) : D := .tuple [.str "web", nI n, .list (ties.map encH)]
theorem sh_H (h : Hf) : Sh 1 (encH h) := sh_tuple fun x hx => by
  simp at hx
  rcases hx with rfl | rfl <;> exact sh_int _
theorem sh_n (k : Nat) : Sh 0 (nI k) := sh_int _
theorem eqv_H (g h : Hf) : PyData.eqv (encH g) (encH h) = true ↔ g = h := by
  unfold encH
  rw [PyData.eqv, PyData.eqvAll, PyData.eqvAll, PyData.eqvAll, eqv_int, eqv_int, Bool.and_true, Bool.and_eq_true, decide_eq_true_eq, decide_eq_true_eq]
  obtain ⟨a, b⟩ := g
  obtain ⟨c, d⟩ := h
  simp only [Prod.mk.injEq]
  omega
theorem eqv_n (j k : Nat) : PyData.eqv (nI j) (nI k) = true ↔ j = k := by
  unfold nI
  rw [eqv_int, decide_eq_true_eq]; omega
/-! ### dicts over halves -/
theorem dkey_H (h : Hf) : dkey (encH h) = some (.inr [.inl (h.1 : Int), .inl (h.2 : Int)]) := rfl
theorem dkey_inj {g h : Hf} (e : dkey (encH g) = dkey (encH h)) : g = h := by
  rw [dkey_H, dkey_H] at e
  simp at e
  obtain ⟨e1, e2⟩ := e
  exact Prod.ext (by omega) (by omega)
theorem look_no {k y g : D} {l : List (D × D)} (h : ¬ dkey k = dkey g) : dlook ((k, y) :: l) g = dlook l g := by
  unfold dlook
  rw [List.find?_cons, show decide (dkey (k, y).1 = dkey g) = false from decide_eq_false h]
theorem look_yes {k y g : D} {l : List (D × D)} (h : dkey k = dkey g) : dlook ((k, y) :: l) g = some y := by
  unfold dlook
  rw [List.find?_cons, show decide (dkey (k, y).1 = dkey g) = true from decide_eq_true h]; rfl
/-- kvs holds v h at each half h -/
structure Dc (kvs : List (D × D)) (v : Hf → Option D) : Prop where
  look : ∀ h, dlook kvs (encH h) = v h
  keys : ∀ p ∈ kvs, ∃ h, p.1 = encH h
theorem Dc.kind {kvs : List (D × D)} {v : Hf → Option D} (d : Dc kvs v) (h : Hf) : kindOk kvs (encH h) = true := by
  cases kvs with
  | nil => rfl
  | cons p r =>
    obtain ⟨k, x⟩ := p
    obtain ⟨g, e⟩ := d.keys _ (List.mem_cons_self ..)
    have e : k = encH g := e
    subst e
    rfl
theorem Dc.nil : Dc [] fun _ => none := ⟨fun _ => rfl, fun _ h => (List.not_mem_nil h).elim⟩
theorem dput_len (kvs : List (D × D)) (k v : D) : (dput kvs k v).length ≤ kvs.length + 1 := by
  unfold dput
  split
  · rw [List.length_map]; omega
  · rw [List.length_append]; exact Nat.le_refl _
theorem Dc.put {kvs : List (D × D)} {v : Hf → Option D} (d : Dc kvs v) (h : Hf) (x : D) : Dc (dput kvs (encH h) x) fun g => if g = h then some x else v g := by
  have kk : ∀ g, decide (dkey (encH h) = dkey (encH g)) = decide (h = g) := fun g => decide_eq_decide.mpr ⟨dkey_inj, fun e => by rw [e]⟩
  refine ⟨fun g => ?_, fun p hp => ?_⟩
  · rw [← d.look g]
    unfold dput
    split
    · rename_i hq
      -- the key stands
      obtain ⟨p, hp, ep⟩ := List.any_eq_true.mp hq
      clear hq
      have all : ∀ l : List (D × D), (∀ p ∈ l, ∃ h, p.1 = encH h) → dlook (l.map fun p => if dkey p.1 = dkey (encH h) then (p.1, x) else p) (encH g) = if g = h then (dlook l (encH h)).map (fun _ => x) else dlook l (encH g) := by
        intro l
        induction l with
        | nil => intro _; unfold dlook; simp
        | cons q l ih =>
          intro hk
          obtain ⟨k, y⟩ := q
          obtain ⟨u, eu⟩ := hk _ (List.mem_cons_self ..)
          have eu : k = encH u := eu
          subst eu
          have ih := ih fun p hp => hk p (List.mem_cons_of_mem _ hp)
          rw [List.map_cons]
          by_cases q1 : u = h
          · subst q1
            rw [if_pos rfl]
            by_cases q2 : g = u
            · subst q2; rw [look_yes rfl, look_yes rfl, if_pos rfl]; rfl
            · have n1 : ¬ dkey (encH u) = dkey (encH g) := fun e => q2 (dkey_inj e).symm
              rw [look_no n1, look_no n1, ih, if_neg q2, if_neg q2]
          · have n0 : ¬ dkey (encH u) = dkey (encH h) := fun e => q1 (dkey_inj e)
            rw [if_neg n0]
            by_cases q2 : g = u
            · subst q2
              rw [if_neg q1, look_yes rfl, look_yes rfl]
            · have n1 : ¬ dkey (encH u) = dkey (encH g) := fun e => q2 (dkey_inj e).symm
              rw [look_no n1, ih]
              by_cases q3 : g = h
              · rw [if_pos q3, if_pos q3, look_no n0]
              · rw [if_neg q3, if_neg q3, look_no n1]
      rw [all kvs d.keys]
      by_cases q : g = h
      · rw [if_pos q, if_pos q]
        have : (dlook kvs (encH h)).isSome = true := by
          unfold dlook
          rw [Option.isSome_map, List.find?_isSome]
          exact ⟨p, hp, ep⟩
        obtain ⟨y, hy⟩ := Option.isSome_iff_exists.mp this
        rw [hy]; rfl
      · rw [if_neg q, if_neg q]
    · rename_i hq
      have none : ∀ p ∈ kvs, decide (dkey p.1 = dkey (encH h)) = false := fun p hp => by
        cases q : decide (dkey p.1 = dkey (encH h)) with
        | false => rfl
        | true => exact absurd (List.any_eq_true.mpr ⟨p, hp, q⟩) hq
      unfold dlook
      rw [List.find?_append]
      by_cases q : g = h
      · subst q
        rw [if_pos rfl, List.find?_eq_none.mpr fun p hp => by rw [none p hp]; decide]
        simp
      · rw [if_neg q]
        cases z : List.find? (fun p => decide (dkey p.1 = dkey (encH g))) kvs with
        | some y => rfl
        | none =>
          have n1 : ¬ dkey (encH h) = dkey (encH g) := fun e => q (dkey_inj e).symm
          simp [n1]
  · unfold dput at hp
    split at hp
    · obtain ⟨q, hq, rfl⟩ := List.mem_map.mp hp
      obtain ⟨u, eu⟩ := d.keys q hq
      split
      · exact ⟨u, eu⟩
      · exact ⟨u, eu⟩
    · rcases List.mem_append.mp hp with hp | hp
      · exact d.keys p hp
      · rw [List.mem_singleton.mp hp]; exact ⟨h, rfl⟩
theorem Dc.congr {kvs : List (D × D)} {v w : Hf → Option D} (d : Dc kvs v) (h : ∀ g, v g = w g) : Dc kvs w := ⟨fun g => (d.look g).trans (h g), d.keys⟩
/-! ### halves -/
theorem halves_flat (m : Nat) : (halvesL m).map encH = (List.range m).flatMap fun t => [encH (t, 0), encH (t, 1)] := by
  induction m with
  | zero => rfl
  | succ m ih => rw [halvesL, List.map_append, ih, List.range_succ, List.flatMap_append]; rfl
section
variable {W k n : Nat} {ties : List (Nat × Nat)}
theorem len_ties (w : D) {st : Stt} {i : Nat} {Φ : Tab} (h : st[i]? = some (some (.val (encW n ties)))) : evE Φ (.b1 .len (.ix (.var i) (.con (.int 2)))) st = some (.d (.int (ties.length : Int)), st) := by
  refine e_b1 (x := .list (ties.map encH)) (e_ix (x := encW n ties) (y := .int 2) (by rw [evE, h]) rfl rfl rfl) rfl ?_
  show some (Op.d (.int ((ties.map encH).length : Int))) = _
  rw [List.length_map]
theorem s_all_halves (hm : ties.length ≤ 1000) : tab W (k + 1) "all_halves" [encW n ties] = some (.list ((halvesL ties.length).map encH), .none) := by
  rw [t_all_halves]
  refine run_rt (st := [some (.val (encW n ties)), none, none]) (ss_rt (s_ret (n_fr ?_)))
  refine e_comp2 (st1 := [some (.val (encW n ties)), none, none]) (st2 := [some (.val (encW n ties)), none, none]) (i_nat (n := ties.length) (n_d (len_ties .none rfl)) (by omega)) ?_ rfl
  have := compL2_pure (B := sizeLine) (g := fun (i : Nat) => PyData.int (i : Int)) (gr := fun t => [encH (t, 0), encH (t, 1)]) (st := [some (.val (encW n ties)), none, none]) (xs := List.range ties.length) (acc := [])
    (f := cTurn2 (tab W k) [1, 2] (.nm 1) [2] (.nm 2) (.seq (.tup (.cons (.con (.int 0)) (.cons (.con (.int 1)) .nil)))) .no (.tup (.cons (.var 1) (.cons (.var 2) .nil)))) (fun t _ acc hl => ?_) ?_
  · rw [halves_flat]; exact this
  · show (compL (cTurn (tab W k) [2] (.nm 2) .no (.tup (.cons (.var 1) (.cons (.var 2) .nil)))) [.int 0, .int 1] acc [some (.val (encW n ties)), some (.val (.int t)), none]).map _ = _
    rw [compL_pure (xs := [.int 0, .int 1]) (g := fun x => some (.tuple [.int t, x])) (fun x _ => rfl) hl]
    rfl
  · rw [← halves_flat, List.length_map, halves_len]
    show 0 + 2 * ties.length ≤ 16777216
    omega
theorem s_other (h : Hf) (hs : h.2 ≤ 1) : tab W (k + 1) "other" [encH h] = some (encH (oth h), .none) := by
  rw [t_other]
  have e : (1 : Int) - (h.2 : Int) = ((1 - h.2 : Nat) : Int) := by omega
  show some (PyData.tuple [.int (h.1 : Int), .int (1 - (h.2 : Int))], PyData.none) = _
  rw [e]; rfl
end
end K95

set_option Elab.async false
set_option linter.all false
set_option maxRecDepth 100000
/-! K95F: what comes next. -/
namespace K95
open PySem PD
theorem nodup_at {α : Type} {l : List α} (nd : l.Nodup) {i j : Nat} (hi : i < l.length) (hj : j < l.length) (e : l[i] = l[j]) : i = j := by
  have d := List.pairwise_iff_getElem.mp nd
  rcases Nat.lt_trichotomy i j with q | q | q
  · exact absurd e (d i j hi hj q)
  · exact q
  · exact absurd e.symm (d j i hj hi q)
/-- the place behind j -/
theorem nx1_at {a0 : Hf} : ∀ {l : List Hf}, l.Nodup → ∀ {j : Nat} (h : j < l.length), nx1 a0 l l[j] = some (if q : j + 1 < l.length then l[j + 1] else a0)
  | [a], _, 0, _ => by simp [nx1]
  | a :: b :: r, nd, 0, _ => by simp [nx1]
  | a :: b :: r, nd, j + 1, h => by
    obtain ⟨n1, n2⟩ := List.nodup_cons.mp nd
    have hj : j < (b :: r).length := Nat.lt_of_succ_lt_succ h
    have : (b :: r)[j] ≠ a := fun e => n1 (e ▸ List.getElem_mem hj)
    have ih := nx1_at (a0 := a0) n2 hj
    show nx1 a0 (a :: b :: r) ((b :: r)[j]) = _
    rw [nx1, if_neg this, ih]
    simp
theorem nxR_at {row : List Hf} (nd : row.Nodup) {j : Nat} (h : j < row.length) : nxR row row[j] = some (row[if j + 1 < row.length then j + 1 else 0]'(by split <;> omega)) := by
  cases row with
  | nil => exact absurd h (Nat.not_lt_zero _)
  | cons a r =>
    show nx1 a (a :: r) _ = _
    rw [nx1_at nd h]
    split
    · rename_i q; simp [q]
    · rename_i q; simp [q]
section
variable {n m : Nat} {e : Hf → Nat} {turns : List (List Hf)}
theorem Mp.row_of (M : Mp n m e turns) {row : List Hf} (h : row ∈ turns) : ∃ p, p < n ∧ row = rowAt turns p := by
  obtain ⟨p, hp, rfl⟩ := List.getElem_of_mem h
  exact ⟨p, by rw [← M.len]; exact hp, by unfold rowAt; simp [hp]⟩
theorem Mp.at_mem (M : Mp n m e turns) {p : Nat} (h : p < n) : rowAt turns p ∈ turns := by
  have : p < turns.length := by rw [M.len]; exact h
  unfold rowAt; simp [this]
theorem Mp.flat (M : Mp n m e turns) : turns.flatten.Nodup ∧ (∀ h, h ∈ turns.flatten ↔ InH m h) ∧ turns.flatten.length = 2 * m := by
  have nd : turns.flatten.Nodup := by
    refine List.pairwise_flatten.mpr ⟨fun row hr => ?_, List.pairwise_iff_getElem.mpr fun i j hi hj lt x hx y hy => ?_⟩
    · obtain ⟨p, hp, rfl⟩ := M.row_of hr
      exact M.nd p hp
    · rintro rfl
      have hi' : i < n := by rw [← M.len]; exact hi
      have hj' : j < n := by rw [← M.len]; exact hj
      have e1 : turns[i] = rowAt turns i := by unfold rowAt; simp [hi]
      have e2 : turns[j] = rowAt turns j := by unfold rowAt; simp [hj]
      rw [e1] at hx
      rw [e2] at hy
      have := ((M.row i hi' x).mp hx).2
      have := ((M.row j hj' x).mp hy).2
      omega
  have mem : ∀ h, h ∈ turns.flatten ↔ InH m h := fun h => by
    rw [List.mem_flatten]
    constructor
    · rintro ⟨row, hr, hh⟩
      obtain ⟨p, hp, rfl⟩ := M.row_of hr
      exact ((M.row p hp h).mp hh).1
    · intro hh
      exact ⟨_, M.at_mem (M.en h hh), (M.row _ (M.en h hh) h).mpr ⟨hh, rfl⟩⟩
  refine ⟨nd, mem, ?_⟩
  have l1 := pig nd (s := halvesL m) fun h hh => mem_halves.mpr ((mem h).mp hh)
  have l2 := pig (halves_nodup m) (s := turns.flatten) fun h hh => (mem h).mpr (mem_halves.mp hh)
  rw [halves_len] at l1 l2
  omega
/-- v tells the next of each half of these rows -/
def Tells (v : Hf → Option D) (rows : List (List Hf)) : Prop := ∀ row ∈ rows, ∀ j (h : j < row.length), v row[j] = (nxR row row[j]).map encH
theorem Mp.tells (M : Mp n m e turns) {v : Hf → Option D} (t : Tells v turns) {h : Hf} (hh : InH m h) : v h = some (encH (sg e turns h)) := by
  have hm := (M.row _ (M.en h hh) h).mpr ⟨hh, rfl⟩
  obtain ⟨j, hj, e1⟩ := List.getElem_of_mem hm
  have := t _ (M.at_mem (M.en h hh)) j hj
  rw [e1, M.nx hh] at this
  exact this
end
section
variable {W k n : Nat} {ties : List (Nat × Nat)} {turns : List (List Hf)}
theorem flat_le {α : Type} {done rest : List (List α)} : done.flatten.length ≤ (done ++ rest).flatten.length := by
  rw [List.flatten_append, List.length_append]; omega
theorem s_nexts (M : Mp n ties.length (ep ties) turns) (hm : ties.length ≤ 1000) : ∃ kvs v, tab W (k + 2) "nexts" [encW n ties, encT turns] = some (.dict kvs, .none) ∧ Dc kvs v ∧ ∀ h, InH ties.length h → v h = some (encH (ph (ep ties) turns h)) := by
  obtain ⟨fnd, fmem, flen⟩ := M.flat
  -- the rows are gone through
  obtain ⟨st1, r1, kvs1, v1, o3, o4, e1, d1, t1⟩ : ∃ st1, evS (tab W (k + 1)) W (.for_ (.nm 3) (.seq (.var 1)) (.cons (.for_ (.nm 4) (.rng (.b1 .len (.var 3))) (.cons (.sset 2 (.ix (.var 3) (.var 4)) (.ix (.var 3) (.ite (.cmp .lt (.bin .add (.var 4) (.con (.int 1))) (.b1 .len (.var 3))) (.bin .add (.var 4) (.con (.int 1))) (.con (.int 0))))) (.nil))) (.nil)))
      [some (.val (encW n ties)), some (.val (encT turns)), some (.own (.dict [])), none, none, none] = some (.nx, st1) ∧ ∃ kvs v o3 o4, st1 = [some (.val (encW n ties)), some (.val (encT turns)), some (.own (.dict kvs)), o3, o4, none] ∧ Dc kvs v ∧ Tells v turns := by
    let I : Nat → Stt → Prop := fun i st => ∃ kvs v o3 o4, Fr o3 ∧ Fr o4 ∧ st = [some (.val (encW n ties)), some (.val (encT turns)), some (.own (.dict kvs)), o3, o4, none] ∧ Dc kvs v ∧ kvs.length ≤ (turns.take i).flatten.length ∧ Tells v (turns.take i)
    obtain ⟨st', e, kvs, v, o3, o4, _, _, est, d, _, t⟩ := forL_list (xs := turns) (st := [some (.val (encW n ties)), some (.val (encT turns)), some (.own (.dict [])), none, none, none]) (f := fun x st1 => (asg (.nm 3) x st1).bind fun st2 => evSs (tab W (k + 1)) W (.cons (.for_ (.nm 4) (.rng (.b1 .len (.var 3))) (.cons (.sset 2 (.ix (.var 3) (.var 4)) (.ix (.var 3) (.ite (.cmp .lt (.bin .add (.var 4) (.con (.int 1))) (.b1 .len (.var 3))) (.bin .add (.var 4) (.con (.int 1))) (.con (.int 0))))) (.nil))) (.nil)) st2) encR I
      (fun i hi st q => by
        obtain ⟨kvs, v, o3, o4, f3, f4, rfl, d, hl, t⟩ := q
        have hrow : turns[i] ∈ turns := List.getElem_mem hi
        have tk : turns.take (i + 1) = turns.take i ++ [turns[i]] := by rw [List.take_succ, List.getElem?_eq_getElem hi]; rfl
        have spl : turns.flatten = (turns.take i).flatten ++ (turns[i] ++ (turns.drop (i + 1)).flatten) := by
          conv => lhs; rw [← List.take_append_drop i turns, List.drop_eq_getElem_cons hi]
          rw [List.flatten_append, List.flatten_cons]
        have nd2 := fnd
        rw [spl] at nd2
        obtain ⟨_, n2, n3⟩ := List.nodup_append.mp nd2
        have rnd : (turns[i]).Nodup := (List.nodup_append.mp n2).1
        have lens : (turns.take i).flatten.length + (turns[i]).length ≤ 2 * ties.length := by
          rw [← flen, spl, List.length_append, List.length_append]; omega
        let J : Nat → Stt → Prop := fun j st => ∃ kvs v o4, Fr o4 ∧ st = [some (.val (encW n ties)), some (.val (encT turns)), some (.own (.dict kvs)), some (.val (encR turns[i])), o4, none] ∧ Dc kvs v ∧ kvs.length ≤ (turns.take i).flatten.length + j ∧ Tells v (turns.take i) ∧ ∀ x (h : x < (turns[i]).length), x < j → v (turns[i])[x] = (nxR turns[i] (turns[i])[x]).map encH
        obtain ⟨st', e, kvs', v', o4', f4', rfl, d', hl', t', u'⟩ := forL_range (n := (turns[i]).length) (st := [some (.val (encW n ties)), some (.val (encT turns)), some (.own (.dict kvs)), some (.val (encR turns[i])), o4, none]) (f := fun x st1 => (asg (.nm 4) x st1).bind fun st2 => evSs (tab W (k + 1)) W (.cons (.sset 2 (.ix (.var 3) (.var 4)) (.ix (.var 3) (.ite (.cmp .lt (.bin .add (.var 4) (.con (.int 1))) (.b1 .len (.var 3))) (.bin .add (.var 4) (.con (.int 1))) (.con (.int 0))))) (.nil)) st2) J
          (fun j hj st q => by
            obtain ⟨kvs, v, o4, f4, rfl, d, hl, t, u⟩ := q
            have h2 : (if j + 1 < (turns[i]).length then j + 1 else 0) < (turns[i]).length := by split <;> omega
            have lenR : ∀ st : Stt, st[3]? = some (some (.val (encR turns[i]))) → evE (tab W (k + 1)) (.b1 .len (.var 3)) st = some (.d (.int ((turns[i]).length : Int)), st) := fun st hs => by
              refine e_b1 (x := encR turns[i]) (by rw [evE, hs]) rfl ?_
              show some (Op.d (.int (((turns[i]).map encH).length : Int))) = _
              rw [List.length_map]
            refine ⟨_, .inl (by
              rw [asg_nm (o := o4) rfl f4, Option.bind_some]
              refine ss_nx (s_ssetD (d := encH (turns[i])[if j + 1 < (turns[i]).length then j + 1 else 0]) (kd := encH (turns[i])[j]) (st1 := [some (.val (encW n ties)), some (.val (encT turns)), some (.own (.dict kvs)), some (.val (encR turns[i])), some (.val (.int (j : Int))), none]) (n_d (e_ix (x := encR turns[i]) (y := .int ((if j + 1 < (turns[i]).length then j + 1 else 0 : Nat) : Int)) rfl (?_) rfl (ix_map h2))) rfl (n_d (e_ix (x := encR turns[i]) (y := .int (j : Int)) rfl rfl rfl (ix_map hj))) rfl (d.kind _) ?_ rfl) ss_nil
              · by_cases q : j + 1 < (turns[i]).length
                · have c1 : decide ((j : Int) + 1 < ((turns[i]).length : Int)) = true := decide_eq_true (by omega)
                  rw [if_pos q]
                  refine n_d (e_ite true (t_of (e_cmp (x := .int ((j : Int) + 1)) (y := .int ((turns[i]).length : Int)) (e_bin (x := .int (j : Int)) (y := .int 1) rfl rfl rfl rfl rfl) (lenR _ rfl) rfl rfl (by rw [c_lti, c1]))) rfl)
                · have c1 : decide ((j : Int) + 1 < ((turns[i]).length : Int)) = false := decide_eq_false (by omega)
                  rw [if_neg q]
                  refine n_d (e_ite false (t_of (e_cmp (x := .int ((j : Int) + 1)) (y := .int ((turns[i]).length : Int)) (e_bin (x := .int (j : Int)) (y := .int 1) rfl rfl rfl rfl rfl) (lenR _ rfl) rfl rfl (by rw [c_lti, c1]))) rfl)
              · show kvs.length < 16777216
                omega), _, _, _, fr_val _, rfl, d.put _ _, ?_, fun row hr x hx => ?_, fun x hx lt => ?_⟩
            · have := dput_len kvs (encH (turns[i])[j]) (encH (turns[i])[if j + 1 < (turns[i]).length then j + 1 else 0])
              omega
            · show (if row[x] = (turns[i])[j] then _ else v row[x]) = _
              rw [if_neg]
              · exact t row hr x hx
              · intro e
                exact n3 row[x] (List.mem_flatten.mpr ⟨row, hr, List.getElem_mem hx⟩) _ (List.mem_append_left _ (List.getElem_mem hj)) e
            · show (if (turns[i])[x] = (turns[i])[j] then _ else v (turns[i])[x]) = _
              by_cases q : x = j
              · subst q
                rw [if_pos rfl, nxR_at rnd hx]; rfl
              · rw [if_neg fun e => q (nodup_at rnd hx hj e)]
                exact u x hx (by omega)) ⟨kvs, v, o4, f4, rfl, d, by omega, t, fun x h lt => absurd lt (Nat.not_lt_zero _)⟩
        refine ⟨_, .inl (by
          rw [asg_nm (o := o3) rfl f3, Option.bind_some]
          refine ss_nx (s_for (i_nat (n := (turns[i]).length) (n_d (st1 := [some (.val (encW n ties)), some (.val (encT turns)), some (.own (.dict kvs)), some (.val (encR turns[i])), o4, none]) (e_b1 (x := encR turns[i]) rfl rfl (by show some (Op.d (.int (((turns[i]).map encH).length : Int))) = _; rw [List.length_map]))) (by omega)) e rfl) ss_nil), _, _, _, _, fr_val _, f4', rfl, d', ?_, ?_⟩
        · rw [tk, List.flatten_append, List.length_append, List.flatten_cons, List.flatten_nil, List.append_nil]; exact hl'
        · rw [tk]
          intro row hr x hx
          rcases List.mem_append.mp hr with hr | hr
          · exact t' row hr x hx
          · have := List.mem_singleton.mp hr
            subst this
            exact u' x hx hx) ⟨[], _, none, none, fr_none, fr_none, rfl, Dc.nil, Nat.zero_le _, fun row hr => by rw [List.take_zero] at hr; exact (List.not_mem_nil hr).elim⟩
    rw [List.take_length] at t
    exact ⟨st', s_for (xs := turns.map encR) (lk := none) (i_seq (op := .d (encT turns)) rfl rfl) e rfl, kvs, v, o3, o4, est, d, t⟩
  subst e1
  -- the dict by other halves
  let st1 : Stt := [some (.val (encW n ties)), some (.val (encT turns)), some (.own (.dict kvs1)), o3, o4, none]
  have dl : ∀ (hs : List Hf) (acc : List (D × D)) (v : Hf → Option D), (∀ h ∈ hs, InH ties.length h) → Dc acc v → acc.length + hs.length < 16777216 → ∃ kvs v', dcompL (dTurn (tab W (k + 1)) [5] (.nm 5) (.var 5) (.ix (.var 2) (.call "other" (.cons (.var 5) (.nil))))) (hs.map encH) acc st1 = some (kvs, st1) ∧ Dc kvs v' ∧ (∀ h, h ∈ hs → v' h = some (encH (ph (ep ties) turns h))) ∧ ∀ h, h ∉ hs → v' h = v h := by
    intro hs
    induction hs with
    | nil => intro acc v _ d _; exact ⟨acc, v, rfl, d, fun h hh => (List.not_mem_nil hh).elim, fun h _ => rfl⟩
    | cons h hs ih =>
      intro acc v hin d hl
      have hh := hin h (List.mem_cons_self ..)
      obtain ⟨kvs, v', e, d', u1, u2⟩ := ih (dput acc (encH h) (encH (ph (ep ties) turns h))) _ (fun x hx => hin x (List.mem_cons_of_mem _ hx)) (d.put h (encH (ph (ep ties) turns h))) (by have := dput_len acc (encH h) (encH (ph (ep ties) turns h)); simp at hl; omega)
      refine ⟨kvs, v', ?_, d', fun g hg => ?_, fun g hg => ?_⟩
      · rw [List.map_cons, dcompL]
        have turn : dTurn (tab W (k + 1)) [5] (.nm 5) (.var 5) (.ix (.var 2) (.call "other" (.cons (.var 5) (.nil)))) (encH h) st1 = some ((encH h, encH (ph (ep ties) turns h)), st1) := by
          unfold dTurn
          rw [asg_nm (o := none) rfl fr_none, Option.bind_some]
          show (nmk (evE (tab W (k + 1)) (.ix (.var 2) (.call "other" (.cons (.var 5) (.nil)))) [some (.val (encW n ties)), some (.val (encT turns)), some (.own (.dict kvs1)), o3, o4, some (.val (encH h))])).map _ = _
          rw [n_d (x := encH (ph (ep ties) turns h)) (st1 := [some (.val (encW n ties)), some (.val (encT turns)), some (.own (.dict kvs1)), o3, o4, some (.val (encH h))]) (e_ix (x := .dict kvs1) (y := encH (oth h)) rfl (n_d (e_call (z := (encH (oth h), .none)) (es_cons (n_d rfl) es_nil) (s_other h hh.2))) rfl (ix_dict (d1.kind _) ?_))]
          · rfl
          · rw [d1.look]; exact M.tells t1 (oth_in hh)
        rw [turn, Option.bind_some]
        show (if (kindOk acc (encH h) && decide (acc.length < sizeLine)) = true then _ else none) = _
        have hz : acc.length < sizeLine := by simp at hl; show acc.length < 16777216; omega
        rw [d.kind h, decide_eq_true hz]
        exact e
      · rcases List.mem_cons.mp hg with rfl | hg
        · by_cases q : g ∈ hs
          · exact u1 g q
          · rw [u2 g q, if_pos rfl]
        · exact u1 g hg
      · rw [u2 g fun z => hg (List.mem_cons_of_mem _ z), if_neg fun z => hg (by rw [z]; exact List.mem_cons_self ..)]
  obtain ⟨kvs, v, e, d, u, _⟩ := dl (halvesL ties.length) [] _ (fun h hh => mem_halves.mp hh) Dc.nil (by rw [halves_len]; simp; omega)
  refine ⟨kvs, v, ?_, d, fun h hh => u h (mem_halves.mpr hh)⟩
  rw [t_nexts]
  refine run_rt (ss_nx (s_set (op := .fr (.dict [])) (st2 := [some (.val (encW n ties)), some (.val (encT turns)), some (.own (.dict [])), none, none, none]) rfl rfl) (ss_nx r1 (ss_rt (s_ret (n_fr (e_dcomp (st2 := st1) (i_seq (op := .d (.list ((halvesL ties.length).map encH))) (e_call (z := (_, .none)) (es_cons (n_d rfl) es_nil) (s_all_halves hm)) rfl) e rfl))))))
end
end K95

set_option Elab.async false
set_option linter.all false
set_option maxRecDepth 100000
/-! K95G: the rims, by the program. -/
namespace K95
open PySem PD
theorem c_neH (a b : Hf) : cmpG .ne (encH a) (encH b) = some (.d (.bool (!decide (a = b)))) := by
  show (if (SeqAt.shaped (encH a) && SeqAt.shaped (encH b)) = true then some (!PyData.eqv (encH a) (encH b)) else none).map _ = _
  rw [(sh_H a).ok (by decide), (sh_H b).ok (by decide)]
  have : PyData.eqv (encH a) (encH b) = decide (a = b) := Bool.eq_iff_iff.mpr ((eqv_H a b).trans decide_eq_true_iff.symm)
  rw [this]; rfl
theorem fold_pre (f : Hf → Hf) (K : Nat) : ∀ (hs : List Hf) (rows : List (List Hf)), ∃ t, hs.foldl (addRim f K) rows = rows ++ t
  | [], rows => ⟨[], by simp⟩
  | h :: hs, rows => by
    obtain ⟨t, e⟩ := fold_pre f K hs (addRim f K rows h)
    rw [List.foldl_cons, e]
    unfold addRim
    split
    · exact ⟨t, rfl⟩
    · exact ⟨_, List.append_assoc ..⟩
section
variable {m : Nat} {f : Hf → Hf} {rows : List (List Hf)}
theorem Rims.flat (R : Rims m f rows (halvesL m)) : rows.flatten.Nodup ∧ rows.flatten.length = 2 * m ∧ ∀ h, h ∈ rows.flatten ↔ InH m h := by
  have nd : rows.flatten.Nodup := by
    refine List.pairwise_flatten.mpr ⟨fun r hr => ?_, List.Pairwise.imp ?_ R.dis⟩
    · obtain ⟨a, s, e, c⟩ := R.cyc r hr
      rw [e]; exact c.nd
    · intro r s h a ha b hb e
      subst e
      exact h a ha hb
  have mem : ∀ h, h ∈ rows.flatten ↔ InH m h := fun h => by
    rw [List.mem_flatten]
    constructor
    · rintro ⟨r, hr, hh⟩
      obtain ⟨a, s, rfl, c⟩ := R.cyc r hr
      exact c.sub h hh
    · intro hh
      obtain ⟨r, hr, h2⟩ := R.cov h (mem_halves.mpr hh)
      exact ⟨r, hr, h2⟩
  refine ⟨nd, ?_, mem⟩
  have l1 := pig nd (s := halvesL m) fun h hh => mem_halves.mpr ((mem h).mp hh)
  have l2 := pig (halves_nodup m) (s := rows.flatten) fun h hh => (mem h).mpr (mem_halves.mp hh)
  rw [halves_len] at l1 l2
  omega
end
section
variable {W k n : Nat} {ties : List (Nat × Nat)} {turns : List (List Hf)}
abbrev bRim : Css := .cons (.set 6 (.lst (.cons (.var 5) (.nil)))) (.cons (.whl (.cmp .ne (.ix (.var 2) (.ix (.var 6) (.neg (.con (.int 1))))) (.var 5)) (.cons (.app 6 (.ix (.var 2) (.ix (.var 6) (.neg (.con (.int 1)))))) (.nil))) (.cons (.for_ (.nm 7) (.seq (.var 6)) (.cons (.sset 4 (.var 7) (.con (.bool true))) (.nil))) (.cons (.app 3 (.var 6)) (.nil))))
abbrev bRims : Css := .cons (.ife (.cmp .nin (.var 5) (.var 4)) bRim (.nil)) (.nil)
theorem last_get {p : List Hf} {c : Hf} : ixD (.list ((p ++ [c]).map encH)) (.int (-1)) = some (encH c) := by
  refine ix_list (k := p.length) (by rw [List.length_map, ixN_last (by simp)]; simp) ?_
  rw [List.getElem?_map, List.getElem?_append_right (Nat.le_refl _)]; simp
theorem s_rims (M : Mp n ties.length (ep ties) turns) (hm : ties.length ≤ 1000) (hW : 5000 ≤ W) : tab W (k + 3) "rims" [encW n ties, encT turns] = some (.list ((rimsW ties turns).map encR), .none) := by
  obtain ⟨kvs, v, enx, dn, hv⟩ := s_nexts (W := W) (k := k) M hm
  have P := M.phP
  have R := rimsW_ok M
  obtain ⟨_, flen, _⟩ := R.flat
  -- the state at the loop
  let S : List (List Hf) → List (D × D) → Option SV → Option SV → Option SV → Stt := fun rows sk o5 o6 o7 => [some (.val (encW n ties)), some (.val (encT turns)), some (.val (.dict kvs)), some (.own (.list (rows.map encR))), some (.own (.dict sk)), o5, o6, o7]
  let rowsAt : Nat → List (List Hf) := fun i => ((halvesL ties.length).take i).foldl (addRim (ph (ep ties) turns) (halvesL ties.length).length) []
  have small : ∀ i, (rowsAt i).flatten.length ≤ 2 * ties.length := fun i => by
    obtain ⟨t, e⟩ := fold_pre (ph (ep ties) turns) (halvesL ties.length).length ((halvesL ties.length).drop i) (rowsAt i)
    have : rimsW ties turns = rowsAt i ++ t := by
      rw [← e, ← List.foldl_append, List.take_append_drop]; rfl
    rw [← flen, this, List.flatten_append, List.length_append]; omega
  let I : Nat → Stt → Prop := fun i st => ∃ sk sv o5 o6 o7, Fr o5 ∧ Fr o6 ∧ Fr o7 ∧ st = S (rowsAt i) sk o5 o6 o7 ∧ Dc sk sv ∧ sk.length ≤ (rowsAt i).flatten.length ∧ ∀ h, (sv h).isSome = decide (h ∈ (rowsAt i).flatten)
  obtain ⟨st', e, sk, sv, o5, o6, o7, _, _, _, rfl, _, _, _⟩ := forL_list (xs := halvesL ties.length) (st := S [] [] none none none) (f := fun x st1 => (asg (.nm 5) x st1).bind fun st2 => evSs (tab W (k + 2)) W bRims st2) encH I
    (fun i hi st q => by
      obtain ⟨sk, sv, o5, o6, o7, f5, f6, f7, rfl, d, hl, hs⟩ := q
      have hh : InH ties.length (halvesL ties.length)[i] := mem_halves.mp (List.getElem_mem hi)
      generalize hx : (halvesL ties.length)[i] = h at hh
      have nxt : rowsAt (i + 1) = addRim (ph (ep ties) turns) (halvesL ties.length).length (rowsAt i) h := by
        show List.foldl _ _ ((halvesL ties.length).take (i + 1)) = _
        rw [List.take_succ, List.getElem?_eq_getElem hi, List.foldl_append, hx]; rfl
      have test : tst (evE (tab W (k + 2)) (.cmp .nin (.var 5) (.var 4)) (S (rowsAt i) sk (some (.val (encH h))) o6 o7)) = some (!decide (h ∈ (rowsAt i).flatten), S (rowsAt i) sk (some (.val (encH h))) o6 o7) :=
        t_of (e_cmp (x := encH h) (y := .dict sk) rfl rfl rfl rfl (by rw [c_ninD (d.kind h), d.look, hs]))
      have anyf : ((rowsAt i).any fun r => decide (h ∈ r)) = decide (h ∈ (rowsAt i).flatten) := Bool.eq_iff_iff.mpr (by
        rw [List.any_eq_true, decide_eq_true_eq, List.mem_flatten]
        exact ⟨fun ⟨r, h1, h2⟩ => ⟨r, h1, of_decide_eq_true h2⟩, fun ⟨r, h1, h2⟩ => ⟨r, h1, decide_eq_true h2⟩⟩)
      by_cases q : h ∈ (rowsAt i).flatten
      · have e1 : rowsAt (i + 1) = rowsAt i := by
          rw [nxt]; unfold addRim; rw [anyf, decide_eq_true q, if_pos rfl]
        rw [decide_eq_true q] at test
        refine ⟨S (rowsAt i) sk (some (.val (encH h))) o6 o7, .inl ?_, sk, sv, _, o6, o7, fr_val _, f6, f7, by rw [e1], d, by rw [e1]; exact hl, by rw [e1]; exact hs⟩
        rw [asg_nm (o := o5) rfl f5, Option.bind_some]
        exact ss_nx (s_if false test ss_nil) ss_nil
      · rw [decide_eq_false q] at test
        obtain ⟨r, er, c⟩ := rim_cyc P (hs := halvesL ties.length) (fun g hg => mem_halves.mpr hg) hh
        have e1 : rowsAt (i + 1) = rowsAt i ++ [h :: r] := by
          rw [nxt]; unfold addRim; rw [anyf, decide_eq_false q, if_neg (by decide), er]
        have cap : (rowsAt i).flatten.length + (h :: r).length ≤ 2 * ties.length := by
          have := small (i + 1)
          rw [e1, List.flatten_append, List.length_append, List.flatten_cons, List.flatten_nil, List.append_nil] at this
          exact this
        -- the row grows
        let T : List Hf → Stt := fun row => S (rowsAt i) sk (some (.val (encH h))) (some (.own (.list (row.map encH)))) o7
        have look : ∀ p c', InH ties.length c' → evE (tab W (k + 2)) (.ix (.var 2) (.ix (.var 6) (.neg (.con (.int 1))))) (T (p ++ [c'])) = some (.d (encH (ph (ep ties) turns c')), T (p ++ [c'])) := fun p c' hc =>
          e_ix (x := .dict kvs) (y := encH c') rfl (n_d (e_ix (x := .list ((p ++ [c']).map encH)) (y := .int (-1)) rfl rfl rfl last_get)) rfl (ix_dict (dn.kind _) (by rw [dn.look]; exact hv c' hc))
        let J : Nat → Stt → Prop := fun q st => ∃ p c' kk, p ++ orb (ph (ep ties) turns) h kk c' = h :: r ∧ st = T (p ++ [c']) ∧ q = (orb (ph (ep ties) turns) h kk c').length
        obtain ⟨st2, w1, rfl⟩ := whileL_inv (cf := fun st => tst (evE (tab W (k + 2)) (.cmp .ne (.ix (.var 2) (.ix (.var 6) (.neg (.con (.int 1))))) (.var 5)) st)) (f := fun st => evSs (tab W (k + 2)) W (.cons (.app 6 (.ix (.var 2) (.ix (.var 6) (.neg (.con (.int 1)))))) (.nil)) st) J (fun st => st = T (h :: r))
          (fun q st ⟨p, c', kk, e2, es, eq⟩ => by
            subst es
            obtain ⟨rr, eo⟩ := orb_head (f := ph (ep ties) turns) (h0 := h) (c := c') (k := kk)
            have hc : InH ties.length c' := c.sub c' (by rw [← e2, eo]; simp)
            have cond : tst (evE (tab W (k + 2)) (.cmp .ne (.ix (.var 2) (.ix (.var 6) (.neg (.con (.int 1))))) (.var 5)) (T (p ++ [c']))) = some (!decide (ph (ep ties) turns c' = h), T (p ++ [c'])) :=
              t_of (e_cmp (x := encH (ph (ep ties) turns c')) (y := encH h) (look p c' hc) rfl rfl rfl (c_neH _ _))
            by_cases z : ph (ep ties) turns c' = h
            · refine .inl ⟨T (p ++ [c']), by rw [cond, decide_eq_true z]; rfl, ?_⟩
              have : orb (ph (ep ties) turns) h kk c' = [c'] := by cases kk with | zero => rfl | succ kk => rw [orb, if_pos z]
              rw [this] at e2
              rw [e2]
            · cases kk with
              | zero =>
                exfalso
                have e3 : orb (ph (ep ties) turns) h 0 c' = [c'] := rfl
                rw [e3] at e2
                exact z (c.cl p c' e2.symm)
              | succ kk =>
                have e3 : orb (ph (ep ties) turns) h (kk + 1) c' = c' :: orb (ph (ep ties) turns) h kk (ph (ep ties) turns c') := by rw [orb, if_neg z]
                refine .inr ⟨T (p ++ [c']), T ((p ++ [c']) ++ [ph (ep ties) turns c']), _, by rw [cond, decide_eq_false z]; rfl, ?_, ?_, p ++ [c'], _, kk, by rw [← e2, e3]; simp, rfl, rfl⟩
                · refine ss_nx (s_app (xs := (p ++ [c']).map encH) rfl (n_d (look p c' hc)) rfl ?_ ?_) ss_nil
                  · have : (p ++ [c']).length ≤ (h :: r).length := by rw [← e2, e3]; simp
                    rw [List.length_map]
                    show _ < 16777216
                    omega
                  · have em : ((p ++ [c']) ++ [ph (ep ties) turns c']).map encH = (p ++ [c']).map encH ++ [encH (ph (ep ties) turns c')] := List.map_append
                    exact congrArg (fun l => some (S (rowsAt i) sk (some (.val (encH h))) (some (.own (.list l))) o7)) em.symm
                · rw [eq, e3]; exact Nat.lt_succ_self _) (n := W) (k := (h :: r).length) (st := T [h]) (by omega) ⟨[], h, (halvesL ties.length).length, by rw [er]; rfl, rfl, by rw [er]⟩
        -- all of it is seen
        let B : Nat → Stt → Prop := fun j st => ∃ sk sv o7, Fr o7 ∧ st = S (rowsAt i) sk (some (.val (encH h))) (some (.lck (.list ((h :: r).map encH)))) o7 ∧ Dc sk sv ∧ sk.length ≤ (rowsAt i).flatten.length + j ∧ ∀ g, (sv g).isSome = decide (g ∈ (rowsAt i).flatten ∨ g ∈ (h :: r).take j)
        obtain ⟨st3, w2, sk', sv', o7', f7', rfl, d', hl', hs'⟩ := forL_list (xs := h :: r) (st := S (rowsAt i) sk (some (.val (encH h))) (some (.lck (.list ((h :: r).map encH)))) o7) (f := fun x st1 => (asg (.nm 7) x st1).bind fun st2 => evSs (tab W (k + 2)) W (.cons (.sset 4 (.var 7) (.con (.bool true))) (.nil)) st2) encH B
          (fun j hj st q => by
            obtain ⟨sk, sv, o7, f7, rfl, d, hl, hs⟩ := q
            refine ⟨_, .inl (by
              rw [asg_nm (o := o7) rfl f7, Option.bind_some]
              exact ss_nx (s_ssetD (d := .bool true) (kd := encH (h :: r)[j]) (n_d rfl) rfl (n_d rfl) rfl (d.kind _) (by show sk.length < 16777216; omega) rfl) ss_nil), _, _, _, fr_val _, rfl, d.put _ _, ?_, fun g => ?_⟩
            · have := dput_len sk (encH (h :: r)[j]) (.bool true)
              omega
            · have tk : (h :: r).take (j + 1) = (h :: r).take j ++ [(h :: r)[j]] := by rw [List.take_succ, List.getElem?_eq_getElem hj]; rfl
              rw [tk]
              show (if g = (h :: r)[j] then some (PyData.bool true) else sv g).isSome = _
              by_cases z : g = (h :: r)[j]
              · rw [if_pos z]
                exact (decide_eq_true (.inr (List.mem_append_right _ (List.mem_singleton.mpr z)))).symm
              · rw [if_neg z, hs]
                refine decide_eq_decide.mpr ⟨fun w => w.imp id (List.mem_append_left _), fun w => w.imp id fun w => ?_⟩
                rcases List.mem_append.mp w with w | w
                · exact w
                · exact absurd (List.mem_singleton.mp w) z) ⟨sk, sv, o7, f7, rfl, d, by omega, fun g => by rw [hs]; simp⟩
        refine ⟨S (rowsAt i ++ [h :: r]) sk' (some (.val (encH h))) (some (.val (encR (h :: r)))) o7', .inl ?_, sk', sv', _, _, o7', fr_val _, fr_val _, f7', by rw [e1], d', ?_, fun g => ?_⟩
        · rw [asg_nm (o := o5) rfl f5, Option.bind_some]
          refine ss_nx (s_if true test ?_) ss_nil
          refine ss_nx (s_set (op := .fr (.list [encH h])) (st1 := S (rowsAt i) sk (some (.val (encH h))) o6 o7) (st2 := T [h]) (e_lst (es_cons (n_d rfl) es_nil) (show 1 ≤ 16777216 by decide)) (put_ok (o := o6) rfl f6)) ?_
          refine ss_nx (s_whl w1) ?_
          refine ss_nx (s_for (xs := (h :: r).map encH) (lk := some (6, .own (.list ((h :: r).map encH)))) (i_seq (op := .sl 6) rfl rfl) w2 rfl) ?_
          refine ss_nx (s_app (xs := (rowsAt i).map encR) (d := encR (h :: r)) (st1 := S (rowsAt i) sk' (some (.val (encH h))) (some (.val (encR (h :: r)))) o7') rfl rfl rfl ?_ ?_) ss_nil
          · rw [List.length_map]
            have : (rowsAt i).length ≤ (rimsW ties turns).length := by
              obtain ⟨t, e⟩ := fold_pre (ph (ep ties) turns) (halvesL ties.length).length ((halvesL ties.length).drop i) (rowsAt i)
              have : rimsW ties turns = rowsAt i ++ t := by
                rw [← e, ← List.foldl_append, List.take_append_drop]; rfl
              rw [this, List.length_append]; omega
            have : (rimsW ties turns).length ≤ 2 * ties.length := by
              rw [← flen]
              have : ∀ l : List (List Hf), (∀ r ∈ l, r ≠ []) → l.length ≤ l.flatten.length := by
                intro l
                induction l with
                | nil => intro _; simp
                | cons a l ih =>
                  intro h
                  have := ih fun r hr => h r (List.mem_cons_of_mem _ hr)
                  have : 0 < a.length := List.length_pos_iff.mpr (h a (List.mem_cons_self ..))
                  rw [List.flatten_cons, List.length_append, List.length_cons]; omega
              exact this _ fun r hr => by obtain ⟨a, s, rfl, _⟩ := R.cyc r hr; simp
            show _ < 16777216
            omega
          · have em : (rowsAt i ++ [h :: r]).map encR = (rowsAt i).map encR ++ [encR (h :: r)] := List.map_append
            exact congrArg (fun l => some [some (.val (encW n ties)), some (.val (encT turns)), some (.val (.dict kvs)), some (.own (.list l)), some (.own (.dict sk')), some (.val (encH h)), some (.val (encR (h :: r))), o7']) em.symm
        · rw [e1, List.flatten_append, List.length_append, List.flatten_cons, List.flatten_nil, List.append_nil]; exact hl'
        · rw [hs', List.take_length, e1, List.flatten_append, List.flatten_cons, List.flatten_nil, List.append_nil]
          exact decide_eq_decide.mpr List.mem_append.symm) ⟨[], _, none, none, none, fr_none, fr_none, fr_none, rfl, Dc.nil, Nat.zero_le _, fun h => rfl⟩
  have efin : rowsAt (halvesL ties.length).length = rimsW ties turns := by
    show List.foldl _ _ ((halvesL ties.length).take _) = _
    rw [List.take_length]; rfl
  rw [efin] at e
  rw [t_rims]
  refine run_rt (st := (S (rimsW ties turns) sk o5 o6 o7).set 3 (some (.val (.list ((rimsW ties turns).map encR))))) (ss_nx (s_set (op := .d (.dict kvs)) (st2 := [some (.val (encW n ties)), some (.val (encT turns)), some (.val (.dict kvs)), none, none, none, none, none]) (e_call (z := (.dict kvs, .none)) (es_cons (n_d rfl) (es_cons (n_d rfl) es_nil)) enx) rfl) ?_)
  refine ss_nx (s_set (op := .fr (.list [])) (st2 := [some (.val (encW n ties)), some (.val (encT turns)), some (.val (.dict kvs)), some (.own (.list [])), none, none, none, none]) rfl rfl) ?_
  refine ss_nx (s_set (op := .fr (.dict [])) (st2 := S [] [] none none none) rfl rfl) ?_
  refine ss_nx (s_for (xs := (halvesL ties.length).map encH) (lk := none) (i_seq (op := .d (.list ((halvesL ties.length).map encH))) (e_call (z := (_, .none)) (es_cons (n_d rfl) es_nil) (s_all_halves (k := k + 1) hm)) rfl) e rfl) ?_
  exact ss_rt (s_ret rfl)
end
end K95

set_option Elab.async false
set_option linter.all false
set_option maxRecDepth 100000
/-! K95I: the rims, by the law. -/
namespace K95
open PySem PD
instance (g h : Hf) : Decidable (ltH g h) := by unfold ltH; exact inferInstance
theorem dataLt_H (g h : Hf) : PySem.W.dataLt (encH g) (encH h) = decide (ltH g h) := by
  unfold encH ltH
  rw [PySem.W.dataLt_ii]
  exact decide_eq_decide.mpr (by omega)
theorem not_ltH {g h : Hf} (l : ltH g h) : ¬ ltH h g := by unfold ltH at *; omega
theorem alike_H (g h : Hf) : PySem.W.alike (encH g) (encH h) = true := by
  unfold encH
  simp [PySem.W.alike, PySem.W.alikeAll]
theorem alike_R : ∀ r s : List Hf, PySem.W.alike (encR r) (encR s) = true := by
  intro r s
  unfold encR
  rw [PySem.W.alike]
  induction r generalizing s with
  | nil => simp [PySem.W.alikeAll]
  | cons a r ih =>
    cases s with
    | nil => simp [PySem.W.alikeAll]
    | cons b s => rw [List.map_cons, List.map_cons, PySem.W.alikeAll, alike_H, ih]; rfl
theorem dataLt_R {a b : Hf} {r s : List Hf} (l : ltH a b) : PySem.W.dataLt (encR (b :: s)) (encR (a :: r)) = false := by
  have ne : PyData.eqv (encH b) (encH a) = false := by
    cases q : PyData.eqv (encH b) (encH a) with
    | false => rfl
    | true =>
      have := (eqv_H b a).mp q
      subst this
      exact absurd l (not_ltH l)
  unfold PySem.W.dataLt
  rw [show encR (b :: s) = .list (encH b :: s.map encH) from rfl, show encR (a :: r) = .list (encH a :: r.map encH) from rfl, PySem.W.keyToks, PySem.W.keyToks, PySem.W.dataLt_cons (alike_H b a), ne, if_neg Bool.false_ne_true, dataLt_H]
  exact decide_eq_false (not_ltH l)
theorem sh_R (r : List Hf) : Sh 2 (encR r) := sh_list fun x hx => by
  obtain ⟨h, _, rfl⟩ := List.mem_map.mp hx
  exact sh_H h
section
variable {W k n : Nat} {ties : List (Nat × Nat)} {turns : List (List Hf)}
theorem s_law_halves (hm : ties.length ≤ 1000) : tab W (k + 1) "_law_halves" [encW n ties] = some (.list ((halvesL ties.length).map encH), .none) := by
  let I : Nat → Stt → Prop := fun i st => ∃ o, Fr o ∧ st = [some (.val (encW n ties)), some (.own (.list ((halvesL i).map encH))), o]
  obtain ⟨st', e, o, _, rfl⟩ := forL_range (n := ties.length) (st := [some (.val (encW n ties)), some (.own (.list [])), none]) (f := fun x st1 => (asg (.nm 2) x st1).bind fun st2 => evSs (tab W k) W (.cons (.app 1 (.tup (.cons (.var 2) (.cons (.con (.int 0)) (.nil))))) (.cons (.app 1 (.tup (.cons (.var 2) (.cons (.con (.int 1)) (.nil))))) (.nil))) st2) I
    (fun i hi st ⟨o, f, es⟩ => by
      subst es
      have h1 : (halvesL i).length + 1 < 16777216 := by rw [halves_len]; omega
      refine ⟨[some (.val (encW n ties)), some (.own (.list ((halvesL (i + 1)).map encH))), some (.val (.int (i : Int)))], .inl ?_, _, fr_val _, rfl⟩
      rw [asg_nm (o := o) rfl f, Option.bind_some]
      refine ss_nx (s_app (d := encH (i, 0)) (xs := (halvesL i).map encH) (st2 := [some (.val (encW n ties)), some (.own (.list ((halvesL i).map encH ++ [encH (i, 0)]))), some (.val (.int (i : Int)))]) rfl rfl rfl (by rw [List.length_map]; show _ < 16777216; omega) rfl) ?_
      refine ss_nx (s_app (d := encH (i, 1)) (xs := (halvesL i).map encH ++ [encH (i, 0)]) (st2 := [some (.val (encW n ties)), some (.own (.list (((halvesL i).map encH ++ [encH (i, 0)]) ++ [encH (i, 1)]))), some (.val (.int (i : Int)))]) rfl rfl rfl (by rw [List.length_append, List.length_map]; show _ + 1 < 16777216; omega) rfl) ?_
      have em : (halvesL (i + 1)).map encH = ((halvesL i).map encH ++ [encH (i, 0)]) ++ [encH (i, 1)] := by rw [halvesL]; simp
      rw [em]; exact ss_nil) ⟨none, fr_none, rfl⟩
  rw [t__law_halves]
  refine run_rt (st := [some (.val (encW n ties)), some (.val (.list ((halvesL ties.length).map encH))), o]) (ss_nx (s_set (op := .fr (.list [])) (st2 := [some (.val (encW n ties)), some (.own (.list [])), none]) rfl rfl) (ss_nx (s_for (i_nat (n := ties.length) (n_d (len_ties .none rfl)) (by omega)) e rfl) (ss_rt (s_ret rfl))))
theorem minD_first {h : Hf} : ∀ {r : List Hf}, (∀ g ∈ r, ltH h g) → PySem.W.minD (encH h) (r.map encH) = encH h := by
  intro r
  unfold PySem.W.minD
  induction r with
  | nil => intro _; rfl
  | cons g r ih =>
    intro hl
    rw [List.map_cons, List.foldl_cons, dataLt_H, decide_eq_false (not_ltH (hl g (List.mem_cons_self ..)))]
    exact ih fun x hx => hl x (List.mem_cons_of_mem _ hx)
theorem s_law_least {h : Hf} {r : List Hf} (hl : ∀ g ∈ r, ltH h g) (hz : (h :: r).length ≤ 10000) : tab W (k + 1) "_law_least" [encR (h :: r)] = some (encR (h :: r), .none) := by
  have shs : ∀ y ∈ (h :: r).map encH, Sh 1 y := fun y hy => by
    obtain ⟨g, _, rfl⟩ := List.mem_map.mp hy
    exact sh_H g
  have hmin : b1op .min (encR (h :: r)) = some (.d (encH h)) := by
    show (if (allAlike ((h :: r).map encH) && depthOk ((h :: r).map encH) && ((h :: r).map encH).all (fun y => !isNone y)) = true then some (Op.d (PySem.W.minD (encH h) (r.map encH))) else none) = _
    have a1 : allAlike ((h :: r).map encH) = true := by
      unfold allAlike
      rw [List.all_eq_true]
      intro x hx
      rw [List.all_eq_true]
      intro y hy
      obtain ⟨a, _, rfl⟩ := List.mem_map.mp hx
      obtain ⟨b, _, rfl⟩ := List.mem_map.mp hy
      exact alike_H a b
    have a2 : depthOk ((h :: r).map encH) = true := by
      unfold depthOk
      rw [List.all_eq_true]
      exact fun x hx => (shs x hx).ok (by decide)
    have a3 : ((h :: r).map encH).all (fun y => !isNone y) = true := by
      rw [List.all_eq_true]
      intro x hx
      obtain ⟨a, _, rfl⟩ := List.mem_map.mp hx
      rfl
    rw [a1, a2, a3, minD_first hl]; rfl
  have hix : indexD ((h :: r).map encH) (encH h) = some 0 := by
    unfold indexD
    rw [(sh_H h).ok (by decide), (sh_list shs).ok (by decide)]
    show List.findIdx? _ (encH h :: r.map encH) = _
    rw [List.findIdx?_cons, (eqv_H h h).mpr rfl]; rfl
  have hlen : ((h :: r).map encH).length = (h :: r).length := List.length_map ..
  rw [t__law_least]
  have c0 : decide (((h :: r).length : Int) = 0) = false := decide_eq_false (by simp; omega)
  refine run_rt (st := [some (.val (encR (h :: r))), some (.val (.int 0))]) (ss_nx (s_if false (t_of (e_cmp (x := .int ((h :: r).length : Int)) (y := .int 0) (e_b1 (x := encR (h :: r)) (r := .d (.int ((h :: r).length : Int))) rfl rfl ?_) rfl rfl rfl ?_)) ss_nil) ?_)
  · show some (Op.d (.int (((h :: r).map encH).length : Int))) = _
    rw [hlen]
  · rw [c_eqi, c0]
  · refine ss_nx (s_set (op := .d (.int (0 : Nat))) (st1 := [some (.val (encR (h :: r))), none]) (st2 := [some (.val (encR (h :: r))), some (.val (.int 0))]) (e_index (xs := (h :: r).map encH) (y := encH h) (j := 0) rfl rfl (e_b1 (x := encR (h :: r)) rfl rfl hmin) rfl rfl hix) rfl) ?_
    refine ss_rt (s_ret (n_fr (x := encR (h :: r)) (e_bin (x := encR (h :: r)) (y := .list []) (e_slc (x := encR (h :: r)) (l := some 0) (h := none) (r := .fr (encR (h :: r))) rfl (v_so rfl) v_no rfl ?_) (e_slc (x := encR (h :: r)) (l := none) (h := some 0) (r := .fr (.list [])) rfl v_no (v_so rfl) rfl ?_) rfl rfl ?_)))
    · show some (Op.fr (.list (((((h :: r).map encH)).drop 0).take (((h :: r).map encH).length - 0)))) = _
      rw [List.drop_zero, Nat.sub_zero, List.take_length]; rfl
    · rfl
    · show (if ((h :: r).map encH).length + 0 ≤ sizeLine then some (Op.fr (.list ((h :: r).map encH ++ []))) else none) = _
      rw [if_pos (by rw [hlen]; show _ + 0 ≤ 16777216; omega), List.append_nil]; rfl
abbrev bNext : Css := .cons (.for_ (.nm 7) (.rng (.b1 .len (.var 3))) (.cons (.sset 2 (.ix (.var 3) (.bin .sub (.var 7) (.con (.int 1)))) (.ix (.var 3) (.var 7))) (.nil))) (.nil)
theorem s_next2 (M : Mp n ties.length (ep ties) turns) (hm : ties.length ≤ 1000) (Φ : Tab) : ∃ kvs v o3 o7, evS Φ W (.for_ (.nm 3) (.seq (.var 1)) bNext) [some (.val (encW n ties)), some (.val (encT turns)), some (.own (.dict [])), none, none, none, none, none, none] =
    some (.nx, [some (.val (encW n ties)), some (.val (encT turns)), some (.own (.dict kvs)), o3, none, none, none, o7, none]) ∧ Fr o3 ∧ Fr o7 ∧ Dc kvs v ∧ Tells v turns := by
  obtain ⟨fnd, fmem, flen⟩ := M.flat
  let I : Nat → Stt → Prop := fun i st => ∃ kvs v o3 o7, Fr o3 ∧ Fr o7 ∧ st = [some (.val (encW n ties)), some (.val (encT turns)), some (.own (.dict kvs)), o3, none, none, none, o7, none] ∧ Dc kvs v ∧ kvs.length ≤ (turns.take i).flatten.length ∧ Tells v (turns.take i)
  obtain ⟨st', e, kvs, v, o3, o7, f3, f7, rfl, d, _, t⟩ := forL_list (xs := turns) (st := [some (.val (encW n ties)), some (.val (encT turns)), some (.own (.dict [])), none, none, none, none, none, none]) (f := fun x st1 => (asg (.nm 3) x st1).bind fun st2 => evSs Φ W bNext st2) encR I
    (fun i hi st q => by
      obtain ⟨kvs, v, o3, o7, f3, f7, rfl, d, hl, t⟩ := q
      have tk : turns.take (i + 1) = turns.take i ++ [turns[i]] := by rw [List.take_succ, List.getElem?_eq_getElem hi]; rfl
      have spl : turns.flatten = (turns.take i).flatten ++ (turns[i] ++ (turns.drop (i + 1)).flatten) := by
        conv => lhs; rw [← List.take_append_drop i turns, List.drop_eq_getElem_cons hi]
        rw [List.flatten_append, List.flatten_cons]
      have nd2 := fnd
      rw [spl] at nd2
      obtain ⟨_, n2, n3⟩ := List.nodup_append.mp nd2
      have rnd : (turns[i]).Nodup := (List.nodup_append.mp n2).1
      have lens : (turns.take i).flatten.length + (turns[i]).length ≤ 2 * ties.length := by
        rw [← flen, spl, List.length_append, List.length_append]; omega
      -- which place is written at the turn j
      let J : Nat → Stt → Prop := fun j st => ∃ kvs v o7, Fr o7 ∧ st = [some (.val (encW n ties)), some (.val (encT turns)), some (.own (.dict kvs)), some (.val (encR turns[i])), none, none, none, o7, none] ∧ Dc kvs v ∧ kvs.length ≤ (turns.take i).flatten.length + j ∧ Tells v (turns.take i) ∧ ∀ x (h : x < (turns[i]).length), (if x + 1 < (turns[i]).length then x + 1 else 0) < j → v (turns[i])[x] = (nxR turns[i] (turns[i])[x]).map encH
      obtain ⟨st', e, kvs', v', o7', f7', rfl, d', hl', t', u'⟩ := forL_range (n := (turns[i]).length) (st := [some (.val (encW n ties)), some (.val (encT turns)), some (.own (.dict kvs)), some (.val (encR turns[i])), none, none, none, o7, none]) (f := fun x st1 => (asg (.nm 7) x st1).bind fun st2 => evSs Φ W (.cons (.sset 2 (.ix (.var 3) (.bin .sub (.var 7) (.con (.int 1)))) (.ix (.var 3) (.var 7))) (.nil)) st2) J
        (fun j hj st q => by
          obtain ⟨kvs, v, o7, f7, rfl, d, hl, t, u⟩ := q
          -- the place before j
          obtain ⟨b, hb, eb, nb⟩ : ∃ b, ∃ hb : b < (turns[i]).length, ixD (encR turns[i]) (.int ((j : Int) - 1)) = some (encH (turns[i])[b]) ∧ (if b + 1 < (turns[i]).length then b + 1 else 0) = j := by
            by_cases z : j = 0
            · subst z
              refine ⟨(turns[i]).length - 1, by omega, ?_, by rw [if_neg (by omega)]⟩
              refine ix_list (k := (turns[i]).length - 1) ?_ (by rw [List.getElem?_map, List.getElem?_eq_getElem (by omega)]; rfl)
              rw [List.length_map]
              exact ixN_last (by omega)
            · refine ⟨j - 1, by omega, ?_, by rw [if_pos (by omega)]; omega⟩
              have : (j : Int) - 1 = ((j - 1 : Nat) : Int) := by omega
              rw [this]
              exact ix_map (by omega)
          refine ⟨_, .inl (by
            rw [asg_nm (o := o7) rfl f7, Option.bind_some]
            refine ss_nx (s_ssetD (d := encH (turns[i])[j]) (kd := encH (turns[i])[b]) (st1 := [some (.val (encW n ties)), some (.val (encT turns)), some (.own (.dict kvs)), some (.val (encR turns[i])), none, none, none, some (.val (.int (j : Int))), none]) (n_d (e_ix (x := encR turns[i]) (y := .int (j : Int)) rfl rfl rfl (ix_map hj))) rfl (n_d (e_ix (x := encR turns[i]) (y := .int ((j : Int) - 1)) rfl (n_d (e_bin (x := .int (j : Int)) (y := .int 1) rfl rfl rfl rfl rfl)) rfl eb)) rfl (d.kind _) ?_ rfl) ss_nil
            show kvs.length < 16777216
            omega), _, _, _, fr_val _, rfl, d.put _ _, ?_, fun row hr x hx => ?_, fun x hx lt => ?_⟩
          · have := dput_len kvs (encH (turns[i])[b]) (encH (turns[i])[j])
            omega
          · show (if row[x] = (turns[i])[b] then _ else v row[x]) = _
            rw [if_neg]
            · exact t row hr x hx
            · intro e
              exact n3 row[x] (List.mem_flatten.mpr ⟨row, hr, List.getElem_mem hx⟩) _ (List.mem_append_left _ (List.getElem_mem hb)) e
          · show (if (turns[i])[x] = (turns[i])[b] then _ else v (turns[i])[x]) = _
            by_cases q : x = b
            · subst q
              rw [if_pos rfl, nxR_at rnd hx]
              simp only [nb]
              rfl
            · rw [if_neg fun e => q (nodup_at rnd hx hb e)]
              refine u x hx ?_
              have : (if x + 1 < (turns[i]).length then x + 1 else 0) ≠ j := fun z => by
                rw [← nb] at z
                split at z <;> split at z <;> omega
              omega) ⟨kvs, v, o7, f7, rfl, d, by omega, t, fun x h lt => absurd lt (Nat.not_lt_zero _)⟩
      refine ⟨_, .inl (by
        rw [asg_nm (o := o3) rfl f3, Option.bind_some]
        refine ss_nx (s_for (i_nat (n := (turns[i]).length) (n_d (st1 := [some (.val (encW n ties)), some (.val (encT turns)), some (.own (.dict kvs)), some (.val (encR turns[i])), none, none, none, o7, none]) (e_b1 (x := encR turns[i]) rfl rfl (by show some (Op.d (.int (((turns[i]).map encH).length : Int))) = _; rw [List.length_map]))) (by omega)) e rfl) ss_nil), _, _, _, _, fr_val _, f7', rfl, d', ?_, ?_⟩
      · rw [tk, List.flatten_append, List.length_append, List.flatten_cons, List.flatten_nil, List.append_nil]; exact hl'
      · rw [tk]
        intro row hr x hx
        rcases List.mem_append.mp hr with hr | hr
        · exact t' row hr x hx
        · have := List.mem_singleton.mp hr
          subst this
          exact u' x hx (by split <;> omega)) ⟨[], _, none, none, fr_none, fr_none, rfl, Dc.nil, Nat.zero_le _, fun row hr => by rw [List.take_zero] at hr; exact (List.not_mem_nil hr).elim⟩
  rw [List.take_length] at t
  exact ⟨kvs, v, o3, o7, s_for (xs := turns.map encR) (lk := none) (i_seq (op := .d (encT turns)) rfl rfl) e rfl, f3, f7, d, t⟩
end
end K95

set_option Elab.async false
set_option linter.all false
set_option maxRecDepth 100000
/-! K95J: the law's rims are the program's. -/
namespace K95
open PySem PD
theorem rows_le {m : Nat} {f : Hf → Hf} {rows : List (List Hf)} (R : Rims m f rows (halvesL m)) : rows.length ≤ 2 * m := by
  obtain ⟨_, flen, _⟩ := R.flat
  rw [← flen]
  have : ∀ l : List (List Hf), (∀ r ∈ l, r ≠ []) → l.length ≤ l.flatten.length := by
    intro l
    induction l with
    | nil => intro _; simp
    | cons a l ih =>
      intro h
      have := ih fun r hr => h r (List.mem_cons_of_mem _ hr)
      have : 0 < a.length := List.length_pos_iff.mpr (h a (List.mem_cons_self ..))
      rw [List.flatten_cons, List.length_append, List.length_cons]; omega
  exact this _ fun r hr => by obtain ⟨a, s, rfl, _⟩ := R.cyc r hr; simp
theorem row_len {m : Nat} {f : Hf → Hf} {rows : List (List Hf)} (R : Rims m f rows (halvesL m)) {r : List Hf} (h : r ∈ rows) : r.length ≤ 2 * m := by
  obtain ⟨a, s, rfl, c⟩ := R.cyc r h
  have := pig c.nd (s := halvesL m) fun g hg => mem_halves.mpr (c.sub g hg)
  rwa [halves_len] at this
section
variable {W k n : Nat} {ties : List (Nat × Nat)} {turns : List (List Hf)}
/-- rows in their order are sorted -/
theorem sorted_rows (M : Mp n ties.length (ep ties) turns) (hm : ties.length ≤ 1000) : b1op .sorted (.list ((rimsW ties turns).map encR)) = some (.fr (.list ((rimsW ties turns).map encR))) := by
  have R := rimsW_ok M
  show Option.bind (isSeq (.list ((rimsW ties turns).map encR))) (fun xs => if (allAlike xs && sortable xs && depthOk xs && decide (xs.length ≤ sizeLine)) = true then some (Op.fr (.list (sortD xs))) else none) = _
  have e0 : isSeq (.list ((rimsW ties turns).map encR)) = some ((rimsW ties turns).map encR) := rfl
  rw [e0, Option.bind_some]
  have a1 : allAlike ((rimsW ties turns).map encR) = true := by
    unfold allAlike
    rw [List.all_eq_true]
    intro x hx
    rw [List.all_eq_true]
    intro y hy
    obtain ⟨a, _, rfl⟩ := List.mem_map.mp hx
    obtain ⟨b, _, rfl⟩ := List.mem_map.mp hy
    exact alike_R a b
  have a2 : sortable ((rimsW ties turns).map encR) = true := by
    unfold sortable
    rw [Bool.or_eq_true]
    right
    rw [List.all_eq_true]
    intro x hx
    obtain ⟨a, _, rfl⟩ := List.mem_map.mp hx
    rfl
  have a3 : depthOk ((rimsW ties turns).map encR) = true := by
    unfold depthOk
    rw [List.all_eq_true]
    intro x hx
    obtain ⟨a, _, rfl⟩ := List.mem_map.mp hx
    exact (sh_R a).ok (by decide)
  have a4 : decide (((rimsW ties turns).map encR).length ≤ sizeLine) = true := decide_eq_true (by
    have := rows_le R
    rw [List.length_map]; show _ ≤ 16777216; omega)
  rw [a1, a2, a3, a4]
  show some (Op.fr (.list (sortD ((rimsW ties turns).map encR)))) = _
  have : sortD ((rimsW ties turns).map encR) = (rimsW ties turns).map encR := by
    unfold sortD
    refine List.mergeSort_of_pairwise (List.pairwise_map.mpr (List.Pairwise.imp_of_mem ?_ R.inc))
    intro r s hr hs h
    obtain ⟨a, r', rfl, _⟩ := R.cyc r hr
    obtain ⟨b, s', rfl, _⟩ := R.cyc s hs
    show (!PySem.W.dataLt (encR (b :: s')) (encR (a :: r'))) = true
    rw [dataLt_R (a := a) (b := b) h]; rfl
  rw [this]
abbrev bHere (i : Nat) : Ce := .ix (.var 2) (.tup (.cons (.ix (.var i) (.con (.int 0))) (.cons (.bin .sub (.con (.int 1)) (.ix (.var i) (.con (.int 1)))) (.nil))))
abbrev bRim2 : Css := .cons (.set 3 (.lst (.cons (.var 6) (.nil)))) (.cons (.sset 5 (.var 6) (.con (.bool true))) (.cons (.set 8 (bHere 6)) (.cons (.whl (.cmp .ne (.var 8) (.var 6)) (.cons (.app 3 (.var 8)) (.cons (.sset 5 (.var 8) (.con (.bool true))) (.cons (.set 8 (bHere 8)) (.nil))))) (.cons (.app 4 (.call "_law_least" (.cons (.var 3) (.nil)))) (.nil)))))
abbrev bRims2 : Css := .cons (.ife (.cmp .nin (.var 6) (.var 5)) bRim2 (.nil)) (.nil)
theorem oth_D (h : Hf) (hs : h.2 ≤ 1) : PyData.tuple [.int (h.1 : Int), .int (1 - (h.2 : Int))] = encH (oth h) := by
  have e : (1 : Int) - (h.2 : Int) = ((1 - h.2 : Nat) : Int) := by omega
  rw [e]; rfl
theorem s_law_rims (M : Mp n ties.length (ep ties) turns) (hm : ties.length ≤ 1000) (hW : 5000 ≤ W) : tab W (k + 2) "_law_rims" [encW n ties, encT turns] = some (.list ((rimsW ties turns).map encR), .none) := by
  obtain ⟨kvs, v, p3, p7, enx, g3, g7, dn, tl⟩ := s_next2 M hm (tab W (k + 1)) (W := W)
  have hv : ∀ h, InH ties.length h → v (oth h) = some (encH (ph (ep ties) turns h)) := fun h hh => M.tells tl (oth_in hh)
  have P := M.phP
  have R := rimsW_ok M
  obtain ⟨_, flen, _⟩ := R.flat
  let S : List (List Hf) → List (D × D) → Option SV → Option SV → Option SV → Stt := fun rows sk o3 o6 o8 => [some (.val (encW n ties)), some (.val (encT turns)), some (.own (.dict kvs)), o3, some (.own (.list (rows.map encR))), some (.own (.dict sk)), o6, p7, o8]
  let rowsAt : Nat → List (List Hf) := fun i => ((halvesL ties.length).take i).foldl (addRim (ph (ep ties) turns) (halvesL ties.length).length) []
  have part : ∀ i, ∃ t, rimsW ties turns = rowsAt i ++ t := fun i => by
    obtain ⟨t, e⟩ := fold_pre (ph (ep ties) turns) (halvesL ties.length).length ((halvesL ties.length).drop i) (rowsAt i)
    refine ⟨t, ?_⟩
    rw [← e, ← List.foldl_append, List.take_append_drop]; rfl
  have small : ∀ i, (rowsAt i).flatten.length ≤ 2 * ties.length := fun i => by
    obtain ⟨t, e⟩ := part i
    rw [← flen, e, List.flatten_append, List.length_append]; omega
  let I : Nat → Stt → Prop := fun i st => ∃ sk sv o3 o6 o8, Fr o3 ∧ Fr o6 ∧ Fr o8 ∧ st = S (rowsAt i) sk o3 o6 o8 ∧ Dc sk sv ∧ sk.length ≤ (rowsAt i).flatten.length ∧ ∀ h, (sv h).isSome = decide (h ∈ (rowsAt i).flatten)
  obtain ⟨st', e, sk, sv, o3, o6, o8, _, _, _, rfl, _, _, _⟩ := forL_list (xs := halvesL ties.length) (st := S [] [] p3 none none) (f := fun x st1 => (asg (.nm 6) x st1).bind fun st2 => evSs (tab W (k + 1)) W bRims2 st2) encH I
    (fun i hi st q => by
      obtain ⟨sk, sv, o3, o6, o8, f3, f6, f8, rfl, d, hl, hs⟩ := q
      have hh : InH ties.length (halvesL ties.length)[i] := mem_halves.mp (List.getElem_mem hi)
      generalize hx : (halvesL ties.length)[i] = h at hh
      have nxt : rowsAt (i + 1) = addRim (ph (ep ties) turns) (halvesL ties.length).length (rowsAt i) h := by
        show List.foldl _ _ ((halvesL ties.length).take (i + 1)) = _
        rw [List.take_succ, List.getElem?_eq_getElem hi, List.foldl_append, hx]; rfl
      have test : tst (evE (tab W (k + 1)) (.cmp .nin (.var 6) (.var 5)) (S (rowsAt i) sk o3 (some (.val (encH h))) o8)) = some (!decide (h ∈ (rowsAt i).flatten), S (rowsAt i) sk o3 (some (.val (encH h))) o8) :=
        t_of (e_cmp (x := encH h) (y := .dict sk) rfl rfl rfl rfl (by rw [c_ninD (d.kind h), d.look, hs]))
      have anyf : ((rowsAt i).any fun r => decide (h ∈ r)) = decide (h ∈ (rowsAt i).flatten) := Bool.eq_iff_iff.mpr (by
        rw [List.any_eq_true, decide_eq_true_eq, List.mem_flatten]
        exact ⟨fun ⟨r, h1, h2⟩ => ⟨r, h1, of_decide_eq_true h2⟩, fun ⟨r, h1, h2⟩ => ⟨r, h1, decide_eq_true h2⟩⟩)
      by_cases q : h ∈ (rowsAt i).flatten
      · have e1 : rowsAt (i + 1) = rowsAt i := by
          rw [nxt]; unfold addRim; rw [anyf, decide_eq_true q, if_pos rfl]
        rw [decide_eq_true q] at test
        refine ⟨S (rowsAt i) sk o3 (some (.val (encH h))) o8, .inl ?_, sk, sv, o3, _, o8, f3, fr_val _, f8, by rw [e1], d, by rw [e1]; exact hl, by rw [e1]; exact hs⟩
        rw [asg_nm (o := o6) rfl f6, Option.bind_some]
        exact ss_nx (s_if false test ss_nil) ss_nil
      · rw [decide_eq_false q] at test
        obtain ⟨r, er, c⟩ := rim_cyc P (hs := halvesL ties.length) (fun g hg => mem_halves.mpr hg) hh
        have e1 : rowsAt (i + 1) = rowsAt i ++ [h :: r] := by
          rw [nxt]; unfold addRim; rw [anyf, decide_eq_false q, if_neg (by decide), er]
        have rin : h :: r ∈ rimsW ties turns := by
          obtain ⟨t, e⟩ := part (i + 1)
          rw [e, e1]; simp
        have cap : (rowsAt i).flatten.length + (h :: r).length ≤ 2 * ties.length := by
          have := small (i + 1)
          rw [e1, List.flatten_append, List.length_append, List.flatten_cons, List.flatten_nil, List.append_nil] at this
          exact this
        let T : List (D × D) → List Hf → Hf → Stt := fun sk row c' => S (rowsAt i) sk (some (.own (.list (row.map encH)))) (some (.val (encH h))) (some (.val (encH c')))
        have look : ∀ (st : Stt) (j : Nat) (c' : Hf), InH ties.length c' → st[2]? = some (some (.own (.dict kvs))) → st[j]? = some (some (.val (encH c'))) → evE (tab W (k + 1)) (bHere j) st = some (.d (encH (ph (ep ties) turns c')), st) := fun st j c' hc s2 sj => by
          have vj : evE (tab W (k + 1)) (.var j) st = some (.d (encH c'), st) := by rw [evE, sj]
          have v2 : evE (tab W (k + 1)) (.var 2) st = some (.sl 2, st) := by rw [evE, s2]
          have r2 : rdO (fzO (.sl 2)) st = some (.dict kvs) := by
            show cont st 2 = _
            unfold cont; rw [s2]; rfl
          refine e_ix (x := .dict kvs) (y := encH (oth c')) v2 (n_d (e_tup (ds := [.int (c'.1 : Int), .int (1 - (c'.2 : Int))]) (es_cons (n_d (e_ix (x := encH c') (y := .int 0) vj rfl rfl rfl)) (es_cons (n_d (e_bin (x := .int 1) (y := .int (c'.2 : Int)) (r := .d (.int (1 - (c'.2 : Int)))) rfl (e_ix (x := encH c') (y := .int 1) vj rfl rfl rfl) rfl rfl rfl)) es_nil)) (show 2 ≤ 16777216 by decide)) |>.trans (by rw [oth_D c' hc.2])) r2 (ix_dict (dn.kind _) (by rw [dn.look]; exact hv c' hc))
        let J : Nat → Stt → Prop := fun q st => ∃ sk sv p c' kk, p ++ orb (ph (ep ties) turns) h kk c' = h :: r ∧ st = T sk (p ++ [c']) (ph (ep ties) turns c') ∧ q = (orb (ph (ep ties) turns) h kk c').length ∧ Dc sk sv ∧ sk.length ≤ (rowsAt i).flatten.length + (p ++ [c']).length ∧ ∀ g, (sv g).isSome = decide (g ∈ (rowsAt i).flatten ∨ g ∈ p ++ [c'])
        -- one more is seen
        have more : ∀ {sk : List (D × D)} {sv : Hf → Option D} {p : List Hf} {x : Hf}, (∀ g, (sv g).isSome = decide (g ∈ (rowsAt i).flatten ∨ g ∈ p)) → ∀ g, ((fun g => if g = x then some (PyData.bool true) else sv g) g).isSome = decide (g ∈ (rowsAt i).flatten ∨ g ∈ p ++ [x]) := fun {sk sv p x} hs g => by
          show (if g = x then some (PyData.bool true) else sv g).isSome = _
          by_cases z : g = x
          · rw [if_pos z]
            exact (decide_eq_true (.inr (List.mem_append_right _ (List.mem_singleton.mpr z)))).symm
          · rw [if_neg z, hs]
            refine decide_eq_decide.mpr ⟨fun w => w.imp id (List.mem_append_left _), fun w => w.imp id fun w => ?_⟩
            rcases List.mem_append.mp w with w | w
            · exact w
            · exact absurd (List.mem_singleton.mp w) z
        obtain ⟨st2, w1, sk', sv', c9, rfl, d', hl', hs'⟩ := whileL_inv (cf := fun st => tst (evE (tab W (k + 1)) (.cmp .ne (.var 8) (.var 6)) st)) (f := fun st => evSs (tab W (k + 1)) W (.cons (.app 3 (.var 8)) (.cons (.sset 5 (.var 8) (.con (.bool true))) (.cons (.set 8 (bHere 8)) (.nil)))) st) J
          (fun st => ∃ sk sv c9, st = T sk (h :: r) c9 ∧ Dc sk sv ∧ sk.length ≤ (rowsAt i).flatten.length + (h :: r).length ∧ ∀ g, (sv g).isSome = decide (g ∈ (rowsAt i).flatten ∨ g ∈ h :: r))
          (fun q st ⟨sk, sv, p, c', kk, e2, es, eq, d, hl, hs⟩ => by
            subst es
            obtain ⟨rr, eo⟩ := orb_head (f := ph (ep ties) turns) (h0 := h) (c := c') (k := kk)
            have hc : InH ties.length c' := c.sub c' (by rw [← e2, eo]; simp)
            have cond : tst (evE (tab W (k + 1)) (.cmp .ne (.var 8) (.var 6)) (T sk (p ++ [c']) (ph (ep ties) turns c'))) = some (!decide (ph (ep ties) turns c' = h), T sk (p ++ [c']) (ph (ep ties) turns c')) :=
              t_of (e_cmp (x := encH (ph (ep ties) turns c')) (y := encH h) rfl rfl rfl rfl (c_neH _ _))
            by_cases z : ph (ep ties) turns c' = h
            · have : orb (ph (ep ties) turns) h kk c' = [c'] := by cases kk with | zero => rfl | succ kk => rw [orb, if_pos z]
              rw [this] at e2
              exact .inl ⟨_, by rw [cond, decide_eq_true z]; rfl, sk, sv, _, by rw [e2], d, by rw [← e2]; exact hl, by rw [← e2]; exact hs⟩
            · cases kk with
              | zero =>
                exfalso
                have e3 : orb (ph (ep ties) turns) h 0 c' = [c'] := rfl
                rw [e3] at e2
                exact z (c.cl p c' e2.symm)
              | succ kk =>
                have e3 : orb (ph (ep ties) turns) h (kk + 1) c' = c' :: orb (ph (ep ties) turns) h kk (ph (ep ties) turns c') := by rw [orb, if_neg z]
                have lp : (p ++ [c']).length < (h :: r).length := by
                  obtain ⟨r2, eo2⟩ := orb_head (f := ph (ep ties) turns) (h0 := h) (c := ph (ep ties) turns c') (k := kk)
                  rw [← e2, e3, eo2]; simp
                refine .inr ⟨_, T (dput sk (encH (ph (ep ties) turns c')) (.bool true)) ((p ++ [c']) ++ [ph (ep ties) turns c']) (ph (ep ties) turns (ph (ep ties) turns c')), _, by rw [cond, decide_eq_false z]; rfl, ?_, ?_, _, _, p ++ [c'], _, kk, by rw [← e2, e3]; simp, rfl, rfl, d.put _ _, ?_, more (sk := sk) hs⟩
                · have em : ((p ++ [c']) ++ [ph (ep ties) turns c']).map encH = (p ++ [c']).map encH ++ [encH (ph (ep ties) turns c')] := List.map_append
                  refine ss_nx (s_app (xs := (p ++ [c']).map encH) (d := encH (ph (ep ties) turns c')) (st2 := T sk ((p ++ [c']) ++ [ph (ep ties) turns c']) (ph (ep ties) turns c')) rfl (n_d rfl) rfl ?_ (congrArg (fun l => some (S (rowsAt i) sk (some (.own (.list l))) (some (.val (encH h))) (some (.val (encH (ph (ep ties) turns c')))))) em.symm)) ?_
                  · rw [List.length_map]; show _ < 16777216; omega
                  · refine ss_nx (s_ssetD (d := .bool true) (kd := encH (ph (ep ties) turns c')) (st3 := T (dput sk (encH (ph (ep ties) turns c')) (.bool true)) ((p ++ [c']) ++ [ph (ep ties) turns c']) (ph (ep ties) turns c')) (n_d rfl) rfl (n_d rfl) rfl (d.kind _) (by show sk.length < 16777216; omega) rfl) ?_
                    exact ss_nx (s_set (look _ 8 (ph (ep ties) turns c') (P.to _ hc) rfl rfl) rfl) ss_nil
                · rw [eq, e3]; exact Nat.lt_succ_self _
                · have := dput_len sk (encH (ph (ep ties) turns c')) (.bool true)
                  rw [List.length_append, List.length_singleton]; omega) (n := W) (k := (h :: r).length) (st := T (dput sk (encH h) (.bool true)) [h] (ph (ep ties) turns h)) (by omega)
          ⟨_, _, [], h, (halvesL ties.length).length, by rw [er]; rfl, rfl, by rw [er], d.put h (.bool true), by have := dput_len sk (encH h) (.bool true); show _ ≤ _ + 1; omega, more (sk := sk) (p := []) (by intro g; rw [hs]; simp)⟩
        refine ⟨S (rowsAt i ++ [h :: r]) sk' (some (.val (encR (h :: r)))) (some (.val (encH h))) (some (.val (encH c9))), .inl ?_, sk', sv', _, _, _, fr_val _, fr_val _, fr_val _, by rw [e1], d', ?_, fun g => ?_⟩
        · rw [asg_nm (o := o6) rfl f6, Option.bind_some]
          refine ss_nx (s_if true test ?_) ss_nil
          refine ss_nx (s_set (op := .fr (.list [encH h])) (st1 := S (rowsAt i) sk o3 (some (.val (encH h))) o8) (st2 := S (rowsAt i) sk (some (.own (.list [encH h]))) (some (.val (encH h))) o8) (e_lst (es_cons (n_d rfl) es_nil) (show 1 ≤ 16777216 by decide)) (put_ok (o := o3) rfl f3)) ?_
          refine ss_nx (s_ssetD (d := .bool true) (kd := encH h) (st3 := S (rowsAt i) (dput sk (encH h) (.bool true)) (some (.own (.list [encH h]))) (some (.val (encH h))) o8) (n_d rfl) rfl (n_d rfl) rfl (d.kind _) (by show sk.length < 16777216; omega) rfl) ?_
          refine ss_nx (s_set (st2 := T (dput sk (encH h) (.bool true)) [h] (ph (ep ties) turns h)) (look _ 6 h hh rfl rfl) (put_ok (o := o8) rfl f8)) ?_
          refine ss_nx (s_whl w1) ?_
          have em : (rowsAt i ++ [h :: r]).map encR = (rowsAt i).map encR ++ [encR (h :: r)] := List.map_append
          refine ss_nx (s_app (xs := (rowsAt i).map encR) (d := encR (h :: r)) (st1 := S (rowsAt i) sk' (some (.val (encR (h :: r)))) (some (.val (encH h))) (some (.val (encH c9)))) rfl
            (n_d (e_call (z := (encR (h :: r), .none)) (es_cons (x := encR (h :: r)) rfl es_nil) (s_law_least (R.low _ rin h r rfl).2 (by have := row_len R rin; omega)))) rfl ?_
            (congrArg (fun l => (some [some (.val (encW n ties)), some (.val (encT turns)), some (.own (.dict kvs)), some (.val (encR (h :: r))), some (.own (.list l)), some (.own (.dict sk')), some (.val (encH h)), p7, some (.val (encH c9))] : Option Stt)) em.symm)) ss_nil
          rw [List.length_map]
          have := rows_le R
          obtain ⟨t, e⟩ := part i
          rw [e, List.length_append] at this
          show _ < 16777216
          omega
        · rw [e1, List.flatten_append, List.length_append, List.flatten_cons, List.flatten_nil, List.append_nil]; exact hl'
        · rw [hs', e1, List.flatten_append, List.flatten_cons, List.flatten_nil, List.append_nil]
          exact decide_eq_decide.mpr List.mem_append.symm) ⟨[], _, p3, none, none, g3, fr_none, fr_none, rfl, Dc.nil, Nat.zero_le _, fun h => rfl⟩
  have efin : rowsAt (halvesL ties.length).length = rimsW ties turns := by
    show List.foldl _ _ ((halvesL ties.length).take _) = _
    rw [List.take_length]; rfl
  rw [efin] at e
  rw [t__law_rims]
  refine run_rt (st := S (rimsW ties turns) sk o3 o6 o8) (ss_nx (s_set (op := .fr (.dict [])) (st2 := [some (.val (encW n ties)), some (.val (encT turns)), some (.own (.dict [])), none, none, none, none, none, none]) rfl rfl) ?_)
  refine ss_nx enx ?_
  refine ss_nx (s_set (op := .fr (.list [])) (st2 := [some (.val (encW n ties)), some (.val (encT turns)), some (.own (.dict kvs)), p3, some (.own (.list [])), none, none, p7, none]) rfl rfl) ?_
  refine ss_nx (s_set (op := .fr (.dict [])) (st2 := S [] [] p3 none none) rfl rfl) ?_
  refine ss_nx (s_for (xs := (halvesL ties.length).map encH) (lk := none) (i_seq (op := .d (.list ((halvesL ties.length).map encH))) (e_call (z := (_, .none)) (es_cons (n_d rfl) es_nil) (s_law_halves (k := k) hm)) rfl) e rfl) ?_
  exact ss_rt (s_ret (n_fr (e_b1 (x := .list ((rimsW ties turns).map encR)) rfl rfl (sorted_rows M hm))))
end
end K95

set_option Elab.async false
set_option linter.all false
set_option maxRecDepth 100000
/-! K95K: the rims reached. -/
namespace K95
open PySem PD
def encL (l : List Nat) : D := .list (l.map nI)
/-! ### where each half lies -/
section
variable {Φ : Tab} {W : Nat}
structure Slots (S : List (D × D) → Option SV → Option SV → Stt) (i a b r : Nat) (rows : List (List Hf)) : Prop where
  ga : ∀ d oa ob, (S d oa ob)[a]? = some oa
  sa : ∀ d oa ob x, (S d oa ob).set a (some x) = S d (some x) ob
  gb : ∀ d oa ob, (S d oa ob)[b]? = some ob
  sb : ∀ d oa ob x, (S d oa ob).set b (some x) = S d oa (some x)
  gi : ∀ d oa ob, (S d oa ob)[i]? = some (some (.own (.dict d)))
  si : ∀ d oa ob d', (S d oa ob).set i (some (.own (.dict d'))) = S d' oa ob
  gr : ∀ d oa ob, (S d oa ob)[r]? = some (some (.val (.list (rows.map encR))))
theorem where_loop {S : List (D × D) → Option SV → Option SV → Stt} {i a b r m : Nat} {f : Hf → Hf} {rows : List (List Hf)} (sl : Slots S i a b r rows) (R : Rims m f rows (halvesL m)) (hm : m ≤ 1000) : ∃ dk v oa ob,
    forL (fun x st1 => (asg (.nm a) x st1).bind fun st2 => evSs Φ W (.cons (.for_ (.nm b) (.seq (.ix (.var r) (.var a))) (.cons (.sset i (.var b) (.var a)) (.nil))) (.nil)) st2) ((List.range rows.length).map fun (k : Nat) => .int (k : Int)) (S [] none none) = some (.nx, S dk oa ob) ∧
      Fr oa ∧ Fr ob ∧ Dc dk v ∧ ∀ h, InH m h → v h = some (nI (wh rows h)) := by
  obtain ⟨_, flen, fmem⟩ := R.flat
  let I : Nat → Stt → Prop := fun j st => ∃ dk v oa ob, Fr oa ∧ Fr ob ∧ st = S dk oa ob ∧ Dc dk v ∧ dk.length ≤ (rows.take j).flatten.length ∧ ∀ p (hp : p < rows.length), p < j → ∀ h ∈ rows[p], v h = some (nI p)
  obtain ⟨st', e, dk, v, oa, ob, fa, fb, rfl, d, _, u⟩ := forL_range (n := rows.length) (st := S [] none none) (f := fun x st1 => (asg (.nm a) x st1).bind fun st2 => evSs Φ W (.cons (.for_ (.nm b) (.seq (.ix (.var r) (.var a))) (.cons (.sset i (.var b) (.var a)) (.nil))) (.nil)) st2) I
    (fun j hj st ⟨dk, v, oa, ob, fa, fb, es, d, hl, u⟩ => by
      subst es
      have tk : rows.take (j + 1) = rows.take j ++ [rows[j]] := by rw [List.take_succ, List.getElem?_eq_getElem hj]; rfl
      have cap : (rows.take j).flatten.length + (rows[j]).length ≤ 2 * m := by
        have : rows.flatten = (rows.take j).flatten ++ (rows[j] ++ (rows.drop (j + 1)).flatten) := by
          conv => lhs; rw [← List.take_append_drop j rows, List.drop_eq_getElem_cons hj]
          rw [List.flatten_append, List.flatten_cons]
        rw [← flen, this, List.length_append, List.length_append]; omega
      let J : Nat → Stt → Prop := fun x st => ∃ dk v ob, Fr ob ∧ st = S dk (some (.val (.int (j : Int)))) ob ∧ Dc dk v ∧ dk.length ≤ (rows.take j).flatten.length + x ∧ (∀ p (hp : p < rows.length), p < j → ∀ h ∈ rows[p], v h = some (nI p)) ∧ ∀ h ∈ (rows[j]).take x, v h = some (nI j)
      obtain ⟨st2, e2, dk2, v2, ob2, fb2, rfl, d2, hl2, u2, w2⟩ := forL_list (xs := rows[j]) (st := S dk (some (.val (.int (j : Int)))) ob) (f := fun x st1 => (asg (.nm b) x st1).bind fun st2 => evSs Φ W (.cons (.sset i (.var b) (.var a)) (.nil)) st2) encH J
        (fun x hx st ⟨dk, v, ob, fb, es, d, hl, u, w⟩ => by
          subst es
          have vb : evE Φ (.var b) (S dk (some (.val (.int (j : Int)))) (some (.val (encH (rows[j])[x])))) = some (.d (encH (rows[j])[x]), S dk (some (.val (.int (j : Int)))) (some (.val (encH (rows[j])[x])))) := by rw [evE, sl.gb]
          have va : evE Φ (.var a) (S dk (some (.val (.int (j : Int)))) (some (.val (encH (rows[j])[x])))) = some (.d (.int (j : Int)), S dk (some (.val (.int (j : Int)))) (some (.val (encH (rows[j])[x])))) := by rw [evE, sl.ga]
          have ow : ownC i (S dk (some (.val (.int (j : Int)))) (some (.val (encH (rows[j])[x])))) = some (.dict dk) := by unfold ownC; rw [sl.gi]
          refine ⟨S (dput dk (encH (rows[j])[x]) (.int (j : Int))) (some (.val (.int (j : Int)))) (some (.val (encH (rows[j])[x]))), .inl ?_, _, _, _, fr_val _, rfl, d.put _ _, ?_, fun p hp lt h hh => ?_, fun h hh => ?_⟩
          · rw [asg_nm (sl.gb _ _ _) fb, Option.bind_some, sl.sb]
            refine ss_nx (s_ssetD (n_d va) ow (n_d vb) ow (d.kind _) (by show dk.length < 16777216; omega) ?_) ss_nil
            unfold upC
            rw [sl.gi]
            show some ((S dk (some (.val (.int (j : Int)))) (some (.val (encH (rows[j])[x])))).set i _) = _
            rw [sl.si]
          · have := dput_len dk (encH (rows[j])[x]) (.int (j : Int))
            omega
          · show (if h = (rows[j])[x] then _ else v h) = _
            rw [if_neg]
            · exact u p hp lt h hh
            · rintro rfl
              have := R.only hp hj hh (List.getElem_mem hx)
              omega
          · show (if h = (rows[j])[x] then _ else v h) = _
            rw [List.take_succ, List.getElem?_eq_getElem hx] at hh
            by_cases q : h = (rows[j])[x]
            · rw [if_pos q]; rfl
            · rw [if_neg q]
              rcases List.mem_append.mp hh with hh | hh
              · exact w h hh
              · exact absurd (by simpa using hh) q) ⟨dk, v, ob, fb, rfl, d, by omega, u, fun h hh => by rw [List.take_zero] at hh; exact (List.not_mem_nil hh).elim⟩
      rw [List.take_length] at w2
      refine ⟨_, .inl (by
        rw [asg_nm (sl.ga _ _ _) fa, Option.bind_some, sl.sa]
        refine ss_nx (s_for (xs := (rows[j]).map encH) (lk := none) (i_seq (op := .d (encR rows[j])) (e_ix (x := .list (rows.map encR)) (y := .int (j : Int)) (st1 := S dk (some (.val (.int (j : Int)))) ob) (op := .d (.list (rows.map encR))) (by rw [evE, sl.gr]) (n_d (by rw [evE, sl.ga])) rfl (ix_map hj)) rfl) e2 rfl) ss_nil), dk2, v2, _, ob2, fr_val _, fb2, rfl, d2, ?_, fun p hp lt h hh => ?_⟩
      · rw [tk, List.flatten_append, List.length_append, List.flatten_cons, List.flatten_nil, List.append_nil]; exact hl2
      · by_cases q : p = j
        · subst q; exact w2 h hh
        · exact u2 p hp (by omega) h hh) ⟨[], _, none, none, fr_none, fr_none, rfl, Dc.nil, Nat.zero_le _, fun p hp lt => absurd lt (Nat.not_lt_zero _)⟩
  refine ⟨dk, v, oa, ob, e, fa, fb, d, fun h hh => ?_⟩
  obtain ⟨lt, hm⟩ := R.wh (mem_halves.mpr hh)
  exact u _ lt lt h hm
end
/-! ### the search, one step -/
structure BI (m r s : Nat) (w : Hf → Nat) (ring F : List Nat) : Prop where
  nd : F.Nodup
  last : s ∈ F
  lt : ∀ k ∈ F, k < r
  least : ∀ Q : Nat → Prop, Q s → (∀ t, t < m → t ∉ ring → (Q (w (t, 0)) ↔ Q (w (t, 1)))) → ∀ k ∈ F, Q k
def stepT (w : Hf → Nat) (ring : List Nat) (x : Nat) (F : List Nat) (t : Nat) : List Nat :=
  if decide (t ∉ ring) && decide (x ∈ [w (t, 0), w (t, 1)]) then F ++ [w (t, 0), w (t, 1)].filter (fun k => decide (k ∉ F)) else F
theorem BI.step {m r s : Nat} {w : Hf → Nat} {ring F : List Nat} (b : BI m r s w ring F) (hw : ∀ t, t < m → w (t, 0) < r ∧ w (t, 1) < r) {x t : Nat} (hx : x ∈ F) (ht : t < m) :
    BI m r s w ring (stepT w ring x F t) ∧ (∃ l, stepT w ring x F t = F ++ l) ∧ (t ∉ ring → (x = w (t, 0) ∨ x = w (t, 1)) → w (t, 0) ∈ stepT w ring x F t ∧ w (t, 1) ∈ stepT w ring x F t) := by
  unfold stepT
  by_cases q : (decide (t ∉ ring) && decide (x ∈ [w (t, 0), w (t, 1)])) = true
  · rw [if_pos q]
    rw [Bool.and_eq_true, decide_eq_true_eq, decide_eq_true_eq] at q
    obtain ⟨q1, q2⟩ := q
    have q3 : x = w (t, 0) ∨ x = w (t, 1) := by simpa using q2
    have both : ∀ k, (k = w (t, 0) ∨ k = w (t, 1)) → k ∈ F ++ [w (t, 0), w (t, 1)].filter (fun k => decide (k ∉ F)) := fun k hk => by
      by_cases z : k ∈ F
      · exact List.mem_append_left _ z
      · refine List.mem_append_right _ (List.mem_filter.mpr ⟨?_, decide_eq_true z⟩)
        rcases hk with rfl | rfl <;> simp
    refine ⟨⟨?_, List.mem_append_left _ b.last, fun k hk => ?_, fun Q h0 hc k hk => ?_⟩, ⟨_, rfl⟩, fun _ _ => ⟨both _ (.inl rfl), both _ (.inr rfl)⟩⟩
    · refine List.nodup_append.mpr ⟨b.nd, ?_, fun a ha c hc e => ?_⟩
      · -- at most one of the two is new
        by_cases z0 : w (t, 0) ∈ F
        · by_cases z1 : w (t, 1) ∈ F
          · simp [z0, z1]
          · simp [z0, z1]
        · have z1 : w (t, 1) ∈ F := by
            rcases q3 with h | h
            · exact absurd (h ▸ hx) z0
            · exact h ▸ hx
          simp [z0, z1]
      · subst e
        exact of_decide_eq_true (List.mem_filter.mp hc).2 ha
    · rcases List.mem_append.mp hk with hk | hk
      · exact b.lt k hk
      · have := (List.mem_filter.mp hk).1
        simp at this
        rcases this with rfl | rfl
        · exact (hw t ht).1
        · exact (hw t ht).2
    · rcases List.mem_append.mp hk with hk | hk
      · exact b.least Q h0 hc k hk
      · have := (List.mem_filter.mp hk).1
        have hQx := b.least Q h0 hc x hx
        have e := hc t ht q1
        simp at this
        rcases q3 with rfl | rfl <;> rcases this with rfl | rfl <;> first | exact hQx | exact e.mp hQx | exact e.mpr hQx
  · rw [if_neg q]
    refine ⟨b, ⟨[], by simp⟩, fun q1 q2 => absurd ?_ q⟩
    rw [Bool.and_eq_true, decide_eq_true_eq, decide_eq_true_eq]
    exact ⟨q1, by rcases q2 with h | h <;> simp [h]⟩
/-- what is done: the first `at` ones have been looked at -/
def Done (m : Nat) (w : Hf → Nat) (ring F : List Nat) (at_ : Nat) : Prop := ∀ i (h : i < F.length), i < at_ → ∀ t, t < m → t ∉ ring → (F[i] = w (t, 0) ∨ F[i] = w (t, 1)) → w (t, 0) ∈ F ∧ w (t, 1) ∈ F
theorem BI.bfs {m r : Nat} {w : Hf → Nat} {ring F : List Nat} (b : BI m r (r - 1) w ring F) (d : Done m w ring F F.length) : Bfs m r w ring F := by
  refine ⟨b.last, b.lt, fun t ht hr => ⟨fun h => ?_, fun h => ?_⟩, b.least⟩
  · obtain ⟨i, hi, e⟩ := List.getElem_of_mem h
    exact (d i hi hi t ht hr (.inl e)).2
  · obtain ⟨i, hi, e⟩ := List.getElem_of_mem h
    exact (d i hi hi t ht hr (.inr e)).1
theorem BI.len {m r s : Nat} {w : Hf → Nat} {ring F : List Nat} (b : BI m r s w ring F) : F.length ≤ r := by
  have := pig b.nd (s := List.range r) fun k hk => List.mem_range.mpr (b.lt k hk)
  rwa [List.length_range] at this
theorem in_nats (x : Nat) (l : List Nat) : ((l.map nI).any fun z => PyData.eqv z (nI x)) = decide (x ∈ l) := in_list fun y _ => eqv_n y x
theorem sh_nats (l : List Nat) : ∀ y ∈ l.map nI, Sh 0 y := fun y hy => by
  obtain ⟨k, _, rfl⟩ := List.mem_map.mp hy
  exact sh_n k
theorem c_inL (x : Nat) (l : List Nat) : cmpG .in_ (nI x) (encL l) = some (.d (.bool (decide (x ∈ l)))) := by
  rw [encL, c_in (k := 0) (by decide) (sh_n x) (sh_nats l), in_nats]
theorem c_inTu (x : Nat) (l : List Nat) : cmpG .in_ (nI x) (.tuple (l.map nI)) = some (.d (.bool (decide (x ∈ l)))) := by
  rw [c_inT (k := 0) (by decide) (sh_n x) (sh_nats l), in_nats]
theorem c_ninL (x : Nat) (l : List Nat) : cmpG .nin (nI x) (encL l) = some (.d (.bool (decide (x ∉ l)))) := by
  rw [encL, c_nin (k := 0) (by decide) (sh_n x) (sh_nats l), in_nats]
  by_cases h : x ∈ l <;> simp [h]
theorem add_L {a b : List Nat} (h : a.length + b.length ≤ 16777216) : binop .add (encL a) (encL b) = some (.fr (encL (a ++ b))) := by
  show (if (a.map nI).length + (b.map nI).length ≤ sizeLine then some (Op.fr (.list (a.map nI ++ b.map nI))) else none) = _
  rw [List.length_map, List.length_map, if_pos (show a.length + b.length ≤ sizeLine from h), encL, List.map_append]
end K95

set_option Elab.async false
set_option linter.all false
set_option maxRecDepth 100000
/-! K95L: ring_rims and due. -/
namespace K95
open PySem PD
section
variable {W k n : Nat} {ties : List (Nat × Nat)} {turns : List (List Hf)}
abbrev pr2 (w : Hf → Nat) (t : Nat) : D := .tuple ([w (t, 0), w (t, 1)].map nI)
theorem len_rows {rows : List (List Hf)} {st : Stt} {i : Nat} {Φ : Tab} (h : st[i]? = some (some (.val (.list (rows.map encR))))) : evE Φ (.b1 .len (.var i)) st = some (.d (.int (rows.length : Int)), st) := by
  refine e_b1 (x := .list (rows.map encR)) (by rw [evE, h]) rfl ?_
  show some (Op.d (.int ((rows.map encR).length : Int))) = _
  rw [List.length_map]
theorem s_sides_of (M : Mp n ties.length (ep ties) turns) (hm : ties.length ≤ 1000) (hW : 5000 ≤ W) : tab W (k + 4) "sides_of" [encW n ties, encT turns] = some (.list ((List.range ties.length).map (pr2 (wh (rimsW ties turns)))), .none) := by
  have R := rimsW_ok M
  have hr := rows_le R
  let S : List (D × D) → Option SV → Option SV → Stt := fun d oa ob => [some (.val (encW n ties)), some (.val (encT turns)), some (.own (.dict d)), some (.val (.list ((rimsW ties turns).map encR))), oa, ob, none]
  have sl : Slots S 2 4 5 3 (rimsW ties turns) := ⟨fun _ _ _ => rfl, fun _ _ _ _ => rfl, fun _ _ _ => rfl, fun _ _ _ _ => rfl, fun _ _ _ => rfl, fun _ _ _ _ => rfl, fun _ _ _ => rfl⟩
  obtain ⟨dk, v, oa, ob, e, fa, fb, d, hv⟩ := where_loop (Φ := tab W (k + 3)) (W := W) sl R hm
  rw [t_sides_of]
  refine run_rt (st := S dk oa ob) (ss_nx (s_set (op := .fr (.dict [])) (st2 := [some (.val (encW n ties)), some (.val (encT turns)), some (.own (.dict [])), none, none, none, none]) rfl rfl) ?_)
  refine ss_nx (s_set (op := .d (.list ((rimsW ties turns).map encR))) (st2 := S [] none none) (e_call (z := (_, .none)) (es_cons (n_d rfl) (es_cons (n_d rfl) es_nil)) (s_rims M hm hW)) rfl) ?_
  refine ss_nx (s_for (i_nat (n := (rimsW ties turns).length) (n_d (len_rows rfl)) (by omega)) e rfl) ?_
  refine ss_rt (s_ret (n_fr ?_))
  have := e_comp_typed (Φ := tab W (k + 3)) (st := S dk oa ob) (st1 := S dk oa ob) (st3 := S dk oa ob) (own := [6]) (t := .nm 6) (it := .rng (.b1 .len (.ix (.var 0) (.con (.int 2))))) (c := .no) (e := .tup (.cons (.ix (.var 2) (.tup (.cons (.var 6) (.cons (.con (.int 0)) (.nil))))) (.cons (.ix (.var 2) (.tup (.cons (.var 6) (.cons (.con (.int 1)) (.nil))))) (.nil)))) (xs := List.range ties.length) (lk := none)
    (fun (i : Nat) => PyData.int (i : Int)) (fun _ => true) (pr2 (wh (rimsW ties turns))) (i_nat (n := ties.length) (n_d (len_ties .none rfl)) (by omega)) (by rw [List.length_range]; show _ ≤ 16777216; omega) (fun t ht => by
      have ht := List.mem_range.mp ht
      have z0 : InH ties.length (t, 0) := ⟨ht, Nat.zero_le _⟩
      have z1 : InH ties.length (t, 1) := ⟨ht, Nat.le_refl _⟩
      refine turn_no (st1 := [some (.val (encW n ties)), some (.val (encT turns)), some (.own (.dict dk)), some (.val (.list ((rimsW ties turns).map encR))), oa, ob, some (.val (.int (t : Int)))]) rfl (n_d (e_tup (ds := [nI (wh (rimsW ties turns) (t, 0)), nI (wh (rimsW ties turns) (t, 1))]) (es_cons (n_d (e_ix (x := .dict dk) (y := encH (t, 0)) rfl (n_d rfl) rfl (ix_dict (d.kind (t, 0)) (by rw [d.look]; exact hv _ z0)))) (es_cons (n_d (e_ix (x := .dict dk) (y := encH (t, 1)) rfl (n_d rfl) rfl (ix_dict (d.kind (t, 1)) (by rw [d.look]; exact hv _ z1)))) es_nil)) (show 2 ≤ 16777216 by decide))) rfl) rfl
  rw [List.filter_eq_self.mpr fun _ _ => rfl] at this
  exact this
theorem wh_lt {m : Nat} {f : Hf → Hf} {rows : List (List Hf)} (R : Rims m f rows (halvesL m)) : ∀ t, t < m → wh rows (t, 0) < rows.length ∧ wh rows (t, 1) < rows.length := fun t ht =>
  ⟨(R.wh (mem_halves.mpr ⟨ht, Nat.zero_le _⟩)).1, (R.wh (mem_halves.mpr ⟨ht, Nat.le_refl _⟩)).1⟩
theorem Done.mono {m : Nat} {w : Hf → Nat} {ring F l : List Nat} {a : Nat} (d : Done m w ring F a) (ha : a ≤ F.length) : Done m w ring (F ++ l) a := fun i hi lt t ht hr h => by
  have hi' : i < F.length := by omega
  rw [List.getElem_append_left hi'] at h
  obtain ⟨q1, q2⟩ := d i hi' lt t ht hr h
  exact ⟨List.mem_append_left _ q1, List.mem_append_left _ q2⟩
/-- the inner loop, told by what each turn does -/
theorem inner_loop {m r s : Nat} {w : Hf → Nat} {ring : List Nat} (hw : ∀ t, t < m → w (t, 0) < r ∧ w (t, 1) < r) {f : D → Stt → Option (Fl × Stt)} {S : List Nat → Option SV → Option SV → Stt} {F0 : List Nat} {at_ : Nat} (b0 : BI m r s w ring F0) (d0 : Done m w ring F0 at_) (ha : at_ < F0.length)
    (ok : Option SV → Prop) (ok' : Option SV → Prop) (turn : ∀ F t o p, t < m → BI m r s w ring F → (∃ l, F = F0 ++ l) → ok o → ok' p → ∃ o' p', ok o' ∧ ok' p' ∧ f (.int (t : Int)) (S F o p) = some (.nx, S (stepT w ring F0[at_] F t) o' p')) {o0 p0 : Option SV} (h0 : ok o0) (h0' : ok' p0) :
    ∃ F o p, forL f ((List.range m).map fun (i : Nat) => .int (i : Int)) (S F0 o0 p0) = some (.nx, S F o p) ∧ ok o ∧ ok' p ∧ BI m r s w ring F ∧ Done m w ring F (at_ + 1) ∧ F0.length ≤ F.length := by
  let I : Nat → Stt → Prop := fun j st => ∃ F o p l, ok o ∧ ok' p ∧ st = S F o p ∧ BI m r s w ring F ∧ F = F0 ++ l ∧ ∀ t, t < j → t < m → t ∉ ring → (F0[at_] = w (t, 0) ∨ F0[at_] = w (t, 1)) → w (t, 0) ∈ F ∧ w (t, 1) ∈ F
  obtain ⟨st', e, F, o, p, l, h1, h2, rfl, b, rfl, q⟩ := forL_range (n := m) (f := f) (st := S F0 o0 p0) I
    (fun j hj st ⟨F, o, p, l, h1, h2, es, b, eF, q⟩ => by
      subst es
      obtain ⟨o', p', h1', h2', e⟩ := turn F j o p hj b ⟨l, eF⟩ h1 h2
      have hx : F0[at_] ∈ F := by rw [eF]; exact List.mem_append_left _ (List.getElem_mem ha)
      obtain ⟨b', ⟨l', el⟩, both⟩ := b.step hw hx hj
      refine ⟨_, .inl e, _, o', p', l ++ l', h1', h2', rfl, b', by rw [el, eF, List.append_assoc], fun t lt ht hr h => ?_⟩
      by_cases z : t = j
      · subst z; exact both hr h
      · obtain ⟨q1, q2⟩ := q t (by omega) ht hr h
        rw [el]
        exact ⟨List.mem_append_left _ q1, List.mem_append_left _ q2⟩) ⟨F0, o0, p0, [], h0, h0', rfl, b0, by simp, fun t lt => absurd lt (Nat.not_lt_zero _)⟩
  refine ⟨_, o, p, e, h1, h2, b, fun i hi lt t ht hr h => ?_, by simp⟩
  by_cases z : i = at_
  · subst z
    rw [List.getElem_append_left ha] at h
    exact q t ht ht hr h
  · exact (d0.mono (l := l) (by omega)) i hi (by omega) t ht hr h
/-- the outer loop -/
theorem outer_loop {m r s : Nat} {w : Hf → Nat} {ring : List Nat} {cf : Stt → Option (Bool × Stt)} {f : Stt → Option (Fl × Stt)} {S : List Nat → Nat → Option SV → Option SV → Stt} (ok ok' : Option SV → Prop) (hr : s < r)
    (cond : ∀ F a o p, cf (S F a o p) = some (decide (a < F.length), S F a o p))
    (body : ∀ F a o p, (ha : a < F.length) → BI m r s w ring F → Done m w ring F a → ok o → ok' p → ∃ F' o' p', f (S F a o p) = some (.nx, S F' (a + 1) o' p') ∧ ok o' ∧ ok' p' ∧ BI m r s w ring F' ∧ Done m w ring F' (a + 1) ∧ F.length ≤ F'.length) {o0 p0 : Option SV} (h0 : ok o0) (h0' : ok' p0) {W : Nat} (hW : r < W) :
    ∃ F a o p, whileL cf f W (S [s] 0 o0 p0) = some (.nx, S F a o p) ∧ ok o ∧ ok' p ∧ BI m r s w ring F ∧ Done m w ring F F.length ∧ F.length ≤ r := by
  let I : Nat → Stt → Prop := fun q st => ∃ F a o p, ok o ∧ ok' p ∧ st = S F a o p ∧ BI m r s w ring F ∧ Done m w ring F a ∧ a ≤ F.length ∧ q = r - a
  obtain ⟨st', e, F, a, o, p, rfl, h1, h2, b, d, l⟩ := whileL_inv (cf := cf) (f := f) I (fun st => ∃ F a o p, st = S F a o p ∧ ok o ∧ ok' p ∧ BI m r s w ring F ∧ Done m w ring F F.length ∧ F.length ≤ r)
    (fun q st ⟨F, a, o, p, h1, h2, es, b, d, ha, eq⟩ => by
      subst es
      by_cases z : a < F.length
      · obtain ⟨F', o', p', e, h1', h2', b', d', le⟩ := body F a o p z b d h1 h2
        have := b.len
        exact .inr ⟨_, _, r - (a + 1), by rw [cond, decide_eq_true z], e, by omega, F', a + 1, o', p', h1', h2', rfl, b', d', by omega, rfl⟩
      · have : a = F.length := by omega
        subst this
        exact .inl ⟨_, by rw [cond, decide_eq_false z], F, _, o, p, rfl, h1, h2, b, d, b.len⟩) (n := W) (k := r) (st := S [s] 0 o0 p0) hW
    ⟨[s], 0, o0, p0, h0, h0', rfl, ⟨by simp, by simp, fun k hk => by rw [List.mem_singleton.mp hk]; exact hr, fun Q h _ k hk => by rw [List.mem_singleton.mp hk]; exact h⟩, fun i hi lt => absurd lt (Nat.not_lt_zero _), Nat.zero_le _, rfl⟩
  exact ⟨F, a, o, p, e, h1, h2, b, d, l⟩
theorem rows_pos (G : Good n ties turns) : 0 < (rimsW ties turns).length := by have := G.cnt; have := G.nm; omega
/-- those not reached -/
def inner (r : Nat) (F : List Nat) : List Nat := (List.range r).filter fun k => decide (k ∉ F)
theorem s_ring_rims (G : Good n ties turns) (hm : ties.length ≤ 1000) (hW : 5000 ≤ W) (ring : List Nat) : ∃ F, Bfs ties.length (rimsW ties turns).length (wh (rimsW ties turns)) ring F ∧ tab W (k + 5) "ring_rims" [encW n ties, encT turns, encL ring] = some (encL (inner (rimsW ties turns).length F), .none) := by
  have M := G.M
  have R := rimsW_ok M
  have hr := rows_le R
  have hw := wh_lt R
  let S : List Nat → Nat → Option SV → Option SV → Stt := fun F a o _ => [some (.val (encW n ties)), some (.val (encT turns)), some (.val (encL ring)), some (.val (.list ((List.range ties.length).map (pr2 (wh (rimsW ties turns)))))), some (.own (encL F)), some (.val (nI a)), o, none]
  have cond : ∀ F a o p, tst (evE (tab W (k + 4)) (.cmp .lt (.var 5) (.b1 .len (.var 4))) (S F a o p)) = some (decide (a < F.length), S F a o p) := fun F a o p => by
    refine t_of (e_cmp (x := nI a) (y := .int (F.length : Int)) rfl (e_b1 (x := encL F) (r := .d (.int (F.length : Int))) rfl rfl ?_) rfl rfl ?_)
    · show some (Op.d (.int ((F.map nI).length : Int))) = _
      rw [List.length_map]
    · rw [nI, c_lti]
      have : decide ((a : Int) < (F.length : Int)) = decide (a < F.length) := decide_eq_decide.mpr (by omega)
      rw [this]
  obtain ⟨F, a, o, p, e, fo, _, b, dn, lF⟩ := outer_loop (m := ties.length) (r := (rimsW ties turns).length) (s := (rimsW ties turns).length - 1) (w := wh (rimsW ties turns)) (ring := ring) (S := S) (cf := fun st => tst (evE (tab W (k + 4)) (.cmp .lt (.var 5) (.b1 .len (.var 4))) st)) Fr (fun _ => True) (by have := rows_pos G; omega) cond
    (f := fun st => evSs (tab W (k + 4)) W (.cons (.for_ (.nm 6) (.rng (.b1 .len (.var 3))) (.cons (.ife (.and_ (.cmp .nin (.var 6) (.var 2)) (.cmp .in_ (.ix (.var 4) (.var 5)) (.ix (.var 3) (.var 6)))) (.cons (.set 4 (.bin .add (.var 4) (.comp [7] (.nm 7) (.seq (.ix (.var 3) (.var 6))) (.so (.cmp .nin (.var 7) (.var 4))) (.var 7)))) (.nil)) (.nil)) (.nil))) (.cons (.augI 5 .add (.con (.int 1))) (.nil))) st)
    (fun F0 a o p ha b d fo _ => by
      obtain ⟨F', o', p', e, fo', _, b', d', le⟩ := inner_loop hw (f := fun x st1 => (asg (.nm 6) x st1).bind fun st2 => evSs (tab W (k + 4)) W (.cons (.ife (.and_ (.cmp .nin (.var 6) (.var 2)) (.cmp .in_ (.ix (.var 4) (.var 5)) (.ix (.var 3) (.var 6)))) (.cons (.set 4 (.bin .add (.var 4) (.comp [7] (.nm 7) (.seq (.ix (.var 3) (.var 6))) (.so (.cmp .nin (.var 7) (.var 4))) (.var 7)))) (.nil)) (.nil)) (.nil)) st2) (S := fun F o p => S F a o p) (at_ := a) b d ha Fr (fun _ => True)
        (fun F t o p ht bF ⟨l, eF⟩ fo _ => by
          refine ⟨some (.val (nI t)), none, fr_val _, trivial, ?_⟩
          have la : a < F.length := by rw [eF, List.length_append]; omega
          have xa : F0[a] = F[a] := by subst eF; rw [List.getElem_append_left ha]
          rw [asg_nm (o := o) rfl fo, Option.bind_some]
          have pt : ∀ st : Stt, st[3]? = some (some (.val (.list ((List.range ties.length).map (pr2 (wh (rimsW ties turns))))))) → st[6]? = some (some (.val (nI t))) → evE (tab W (k + 4)) (.ix (.var 3) (.var 6)) st = some (.d (pr2 (wh (rimsW ties turns)) t), st) := fun st h3 h6 =>
            e_ix (x := .list ((List.range ties.length).map (pr2 (wh (rimsW ties turns))))) (y := nI t) (by rw [evE, h3]) (n_d (by rw [evE, h6])) rfl (ix_list (k := t) (by rw [List.length_map, List.length_range]; exact ixN_nat ht) (by rw [List.getElem?_map, List.getElem?_range ht]; rfl))
          have c1 : tst (evE (tab W (k + 4)) (.cmp .nin (.var 6) (.var 2)) (S F a (some (.val (nI t))) none)) = some (decide (t ∉ ring), S F a (some (.val (nI t))) none) := t_of (e_cmp (x := nI t) (y := encL ring) rfl rfl rfl rfl (c_ninL t ring))
          have c2 : evE (tab W (k + 4)) (.cmp .in_ (.ix (.var 4) (.var 5)) (.ix (.var 3) (.var 6))) (S F a (some (.val (nI t))) none) = some (.d (.bool (decide (F[a] ∈ [wh (rimsW ties turns) (t, 0), wh (rimsW ties turns) (t, 1)]))), S F a (some (.val (nI t))) none) :=
            e_cmp (x := nI F[a]) (y := pr2 (wh (rimsW ties turns)) t) (e_ix (x := encL F) (y := nI a) rfl (n_d rfl) rfl (ix_map la)) (pt _ rfl rfl) rfl rfl (c_inTu _ _)
          have c3 := e_and (a := .cmp .nin (.var 6) (.var 2)) c1 (fun _ => c2) (fun _ => rfl)
          refine ss_nx (s_if _ (t_of c3) ?_) ss_nil
          rw [xa]
          unfold stepT
          cases hc : (decide (t ∉ ring) && decide (F[a] ∈ [wh (rimsW ties turns) (t, 0), wh (rimsW ties turns) (t, 1)])) with
          | false => exact ss_nil
          | true =>
            refine ss_nx (s_set (op := .fr (encL (F ++ [wh (rimsW ties turns) (t, 0), wh (rimsW ties turns) (t, 1)].filter (fun k => decide (k ∉ F))))) (st1 := S F a (some (.val (nI t))) none) (e_bin (x := encL F) (y := encL ([wh (rimsW ties turns) (t, 0), wh (rimsW ties turns) (t, 1)].filter (fun k => decide (k ∉ F)))) rfl
              (e_comp_typed (st1 := S F a (some (.val (nI t))) none) (xs := [wh (rimsW ties turns) (t, 0), wh (rimsW ties turns) (t, 1)]) (lk := none) nI (fun k => decide (k ∉ F)) nI (i_seq (op := .d (pr2 (wh (rimsW ties turns)) t)) (pt _ rfl rfl) rfl) (show 2 ≤ 16777216 by decide) (fun x hx => by
                exact turn_so (st1 := [some (.val (encW n ties)), some (.val (encT turns)), some (.val (encL ring)), some (.val (.list ((List.range ties.length).map (pr2 (wh (rimsW ties turns)))))), some (.own (encL F)), some (.val (nI a)), some (.val (nI t)), some (.val (nI x))]) (decide (x ∉ F)) rfl (t_of (e_cmp (x := nI x) (y := encL F) rfl rfl rfl rfl (c_ninL x F))) (fun _ => n_d rfl) (fun _ => rfl) rfl) rfl)
              rfl rfl (add_L (by
                have h1 := bF.len
                have h2 := List.length_filter_le (fun k => decide (k ∉ F)) [wh (rimsW ties turns) (t, 0), wh (rimsW ties turns) (t, 1)]
                simp only [List.length_cons, List.length_nil] at h2
                omega))) rfl) ss_nil) (o0 := o) (p0 := p) fo trivial
      refine ⟨F', o', p', ss_nx (s_for (i_nat (n := ties.length) (n_d (e_b1 (x := .list ((List.range ties.length).map (pr2 (wh (rimsW ties turns))))) (r := .d (.int (ties.length : Int))) rfl rfl (by show some (Op.d (.int (((List.range ties.length).map (pr2 (wh (rimsW ties turns)))).length : Int))) = _; rw [List.length_map, List.length_range]))) (by omega)) e rfl) (ss_nx ?_ ss_nil), fo', trivial, b', d', le⟩
      rfl) (o0 := none) (p0 := none) fr_none trivial (W := W) (by omega)
  refine ⟨F, b.bfs dn, ?_⟩
  rw [t_ring_rims]
  refine run_rt (st := S F a o p) (ss_nx (s_set (op := .d (.list ((List.range ties.length).map (pr2 (wh (rimsW ties turns)))))) (st2 := [some (.val (encW n ties)), some (.val (encT turns)), some (.val (encL ring)), some (.val (.list ((List.range ties.length).map (pr2 (wh (rimsW ties turns)))))), none, none, none, none]) (e_call (z := (_, .none)) (es_cons (n_d rfl) (es_cons (n_d rfl) es_nil)) (s_sides_of M hm hW)) rfl) ?_)
  have lenR : ∀ st : Stt, st[0]? = some (some (.val (encW n ties))) → st[1]? = some (some (.val (encT turns))) → evE (tab W (k + 4)) (.b1 .len (.call "rims" (.cons (.var 0) (.cons (.var 1) (.nil))))) st = some (.d (.int ((rimsW ties turns).length : Int)), st) := fun st h0 h1 => by
    refine e_b1 (x := .list ((rimsW ties turns).map encR)) (e_call (z := (_, .none)) (es_cons (n_d (by rw [evE, h0])) (es_cons (n_d (by rw [evE, h1])) es_nil)) (s_rims (k := k + 1) M hm hW)) rfl ?_
    show some (Op.d (.int (((rimsW ties turns).map encR).length : Int))) = _
    rw [List.length_map]
  have e1 : ((rimsW ties turns).length : Int) - 1 = (((rimsW ties turns).length - 1 : Nat) : Int) := by have := rows_pos G; omega
  refine ss_nx (s_set (op := .fr (encL [(rimsW ties turns).length - 1])) (st1 := [some (.val (encW n ties)), some (.val (encT turns)), some (.val (encL ring)), some (.val (.list ((List.range ties.length).map (pr2 (wh (rimsW ties turns)))))), none, none, none, none]) (st2 := [some (.val (encW n ties)), some (.val (encT turns)), some (.val (encL ring)), some (.val (.list ((List.range ties.length).map (pr2 (wh (rimsW ties turns)))))), some (.own (encL [(rimsW ties turns).length - 1])), none, none, none])
    (e_lst (ds := [nI ((rimsW ties turns).length - 1)]) (es_cons (n_d (e_bin (x := .int ((rimsW ties turns).length : Int)) (y := .int 1) (lenR _ rfl rfl) rfl rfl rfl (by show some (Op.d (.int (((rimsW ties turns).length : Int) - 1))) = _; rw [e1]; rfl))) es_nil) (show 1 ≤ 16777216 by decide)) rfl) ?_
  refine ss_nx (s_set (op := .d (nI 0)) (st2 := S [(rimsW ties turns).length - 1] 0 none none) rfl rfl) ?_
  refine ss_nx (s_whl e) ?_
  refine ss_rt (s_ret (n_fr ?_))
  have := e_comp_typed (Φ := tab W (k + 4)) (st := S F a o p) (st1 := S F a o p) (st3 := S F a o p) (own := [7]) (t := .nm 7) (it := .rng (.b1 .len (.call "rims" (.cons (.var 0) (.cons (.var 1) (.nil)))))) (c := .so (.cmp .nin (.var 7) (.var 4))) (e := .var 7) (xs := List.range (rimsW ties turns).length) (lk := none)
    nI (fun k => decide (k ∉ F)) nI (i_nat (n := (rimsW ties turns).length) (n_d (lenR _ rfl rfl)) (by omega)) (by rw [List.length_range]; show _ ≤ 16777216; omega) (fun x hx =>
      turn_so (st1 := [some (.val (encW n ties)), some (.val (encT turns)), some (.val (encL ring)), some (.val (.list ((List.range ties.length).map (pr2 (wh (rimsW ties turns)))))), some (.own (encL F)), some (.val (nI a)), o, some (.val (nI x))]) (decide (x ∉ F)) rfl (t_of (e_cmp (x := nI x) (y := encL F) rfl rfl rfl rfl (c_ninL x F))) (fun _ => n_d rfl) (fun _ => rfl) rfl) rfl
  exact this
end
end K95

set_option Elab.async false
set_option linter.all false
set_option maxRecDepth 100000
/-! K95U: due, both, shorter. -/
namespace K95
open PySem PD
section
variable {W k n : Nat} {ties : List (Nat × Nat)} {turns : List (List Hf)}
theorem s_law_due (G : Good n ties turns) (hm : ties.length ≤ 1000) (hW : 5000 ≤ W) (ring : List Nat) : ∃ F, Bfs ties.length (rimsW ties turns).length (wh (rimsW ties turns)) ring F ∧ tab W (k + 3) "_law_due" [encW n ties, encT turns, encL ring] = some (encL (inner (rimsW ties turns).length F), .none) := by
  have M := G.M
  have R := rimsW_ok M
  have hr := rows_le R
  have hw := wh_lt R
  let S1 : List (D × D) → Option SV → Option SV → Stt := fun d oa ob => [some (.val (encW n ties)), some (.val (encT turns)), some (.val (encL ring)), some (.val (.list ((rimsW ties turns).map encR))), some (.own (.dict d)), oa, none, none, ob, none, none, none]
  have sl : Slots S1 4 5 8 3 (rimsW ties turns) := ⟨fun _ _ _ => rfl, fun _ _ _ _ => rfl, fun _ _ _ => rfl, fun _ _ _ _ => rfl, fun _ _ _ => rfl, fun _ _ _ _ => rfl, fun _ _ _ => rfl⟩
  obtain ⟨dk, v, oa, ob, e1, fa, fb, d, hv⟩ := where_loop (Φ := tab W (k + 2)) (W := W) sl R hm
  let S : List Nat → Nat → Option SV → Option SV → Stt := fun F a o p => [some (.val (encW n ties)), some (.val (encT turns)), some (.val (encL ring)), some (.val (.list ((rimsW ties turns).map encR))), some (.own (.dict dk)), oa, some (.own (encL F)), some (.val (nI a)), ob, o, p, none]
  have cond : ∀ F a o p, tst (evE (tab W (k + 2)) (.cmp .lt (.var 7) (.b1 .len (.var 6))) (S F a o p)) = some (decide (a < F.length), S F a o p) := fun F a o p => by
    refine t_of (e_cmp (x := nI a) (y := .int (F.length : Int)) rfl (e_b1 (x := encL F) (r := .d (.int (F.length : Int))) rfl rfl ?_) rfl rfl ?_)
    · show some (Op.d (.int ((F.map nI).length : Int))) = _
      rw [List.length_map]
    · rw [nI, c_lti]
      have : decide ((a : Int) < (F.length : Int)) = decide (a < F.length) := decide_eq_decide.mpr (by omega)
      rw [this]
  obtain ⟨F, a, o, p, e, fo, fp, b, dn, lF⟩ := outer_loop (m := ties.length) (r := (rimsW ties turns).length) (s := (rimsW ties turns).length - 1) (w := wh (rimsW ties turns)) (ring := ring) (S := S) (cf := fun st => tst (evE (tab W (k + 2)) (.cmp .lt (.var 7) (.b1 .len (.var 6))) st)) Fr Fr (by have := rows_pos G; omega) cond
    (f := fun st => evSs (tab W (k + 2)) W (.cons (.for_ (.nm 9) (.rng (.b1 .len (.ix (.var 0) (.con (.int 2))))) (.cons (.set 10 (.lst (.cons (.ix (.var 4) (.tup (.cons (.var 9) (.cons (.con (.int 0)) (.nil))))) (.cons (.ix (.var 4) (.tup (.cons (.var 9) (.cons (.con (.int 1)) (.nil))))) (.nil))))) (.cons (.ife (.and_ (.cmp .nin (.var 9) (.var 2)) (.cmp .in_ (.ix (.var 6) (.var 7)) (.var 10))) (.cons (.set 6 (.bin .add (.var 6) (.comp [11] (.nm 11) (.seq (.var 10)) (.so (.cmp .nin (.var 11) (.var 6))) (.var 11)))) (.nil)) (.nil)) (.nil)))) (.cons (.set 7 (.bin .add (.var 7) (.con (.int 1)))) (.nil))) st)
    (fun F0 a o p ha b d0 fo fp => by
      obtain ⟨F', o', p', e, fo', fp', b', d', le⟩ := inner_loop hw (f := fun x st1 => (asg (.nm 9) x st1).bind fun st2 => evSs (tab W (k + 2)) W (.cons (.set 10 (.lst (.cons (.ix (.var 4) (.tup (.cons (.var 9) (.cons (.con (.int 0)) (.nil))))) (.cons (.ix (.var 4) (.tup (.cons (.var 9) (.cons (.con (.int 1)) (.nil))))) (.nil))))) (.cons (.ife (.and_ (.cmp .nin (.var 9) (.var 2)) (.cmp .in_ (.ix (.var 6) (.var 7)) (.var 10))) (.cons (.set 6 (.bin .add (.var 6) (.comp [11] (.nm 11) (.seq (.var 10)) (.so (.cmp .nin (.var 11) (.var 6))) (.var 11)))) (.nil)) (.nil)) (.nil))) st2) (S := fun F o p => S F a o p) (at_ := a) b d0 ha Fr Fr
        (fun F t o p ht bF ⟨l, eF⟩ fo fp => by
          have z0 : InH ties.length (t, 0) := ⟨ht, Nat.zero_le _⟩
          have z1 : InH ties.length (t, 1) := ⟨ht, Nat.le_refl _⟩
          let q2 : Option SV := some (.own (encL [wh (rimsW ties turns) (t, 0), wh (rimsW ties turns) (t, 1)]))
          refine ⟨some (.val (nI t)), q2, fr_val _, fr_own _, ?_⟩
          have la : a < F.length := by rw [eF, List.length_append]; omega
          have xa : F0[a] = F[a] := by subst eF; rw [List.getElem_append_left ha]
          rw [asg_nm (o := o) rfl fo, Option.bind_some]
          refine ss_nx (s_set (op := .fr (encL [wh (rimsW ties turns) (t, 0), wh (rimsW ties turns) (t, 1)])) (st1 := S F a (some (.val (nI t))) p) (st2 := S F a (some (.val (nI t))) q2) (e_lst (ds := [nI (wh (rimsW ties turns) (t, 0)), nI (wh (rimsW ties turns) (t, 1))]) (es_cons (n_d (e_ix (x := .dict dk) (y := encH (t, 0)) rfl (n_d rfl) rfl (ix_dict (d.kind (t, 0)) (by rw [d.look]; exact hv _ z0)))) (es_cons (n_d (e_ix (x := .dict dk) (y := encH (t, 1)) rfl (n_d rfl) rfl (ix_dict (d.kind (t, 1)) (by rw [d.look]; exact hv _ z1)))) es_nil)) (show 2 ≤ 16777216 by decide)) (put_ok (o := p) rfl fp)) ?_
          have c1 : tst (evE (tab W (k + 2)) (.cmp .nin (.var 9) (.var 2)) (S F a (some (.val (nI t))) q2)) = some (decide (t ∉ ring), S F a (some (.val (nI t))) q2) := t_of (e_cmp (x := nI t) (y := encL ring) rfl rfl rfl rfl (c_ninL t ring))
          have c2 : evE (tab W (k + 2)) (.cmp .in_ (.ix (.var 6) (.var 7)) (.var 10)) (S F a (some (.val (nI t))) q2) = some (.d (.bool (decide (F[a] ∈ [wh (rimsW ties turns) (t, 0), wh (rimsW ties turns) (t, 1)]))), S F a (some (.val (nI t))) q2) :=
            e_cmp (x := nI F[a]) (y := encL [wh (rimsW ties turns) (t, 0), wh (rimsW ties turns) (t, 1)]) (e_ix (x := encL F) (y := nI a) rfl (n_d rfl) rfl (ix_map la)) rfl rfl rfl (c_inL _ _)
          have c3 := e_and (a := .cmp .nin (.var 9) (.var 2)) c1 (fun _ => c2) (fun _ => rfl)
          refine ss_nx (s_if _ (t_of c3) ?_) ss_nil
          rw [xa]
          unfold stepT
          cases hc : (decide (t ∉ ring) && decide (F[a] ∈ [wh (rimsW ties turns) (t, 0), wh (rimsW ties turns) (t, 1)])) with
          | false => exact ss_nil
          | true =>
            let S11 : Stt := [some (.val (encW n ties)), some (.val (encT turns)), some (.val (encL ring)), some (.val (.list ((rimsW ties turns).map encR))), some (.own (.dict dk)), oa, some (.own (encL F)), some (.val (nI a)), ob, some (.val (nI t)), some (.lck (encL [wh (rimsW ties turns) (t, 0), wh (rimsW ties turns) (t, 1)])), none]
            refine ss_nx (s_set (op := .fr (encL (F ++ [wh (rimsW ties turns) (t, 0), wh (rimsW ties turns) (t, 1)].filter (fun k => decide (k ∉ F))))) (st1 := S F a (some (.val (nI t))) q2) (e_bin (x := encL F) (y := encL ([wh (rimsW ties turns) (t, 0), wh (rimsW ties turns) (t, 1)].filter (fun k => decide (k ∉ F)))) rfl
              (e_comp_typed (st1 := S11) (xs := [wh (rimsW ties turns) (t, 0), wh (rimsW ties turns) (t, 1)]) (lk := some (10, .own (encL [wh (rimsW ties turns) (t, 0), wh (rimsW ties turns) (t, 1)]))) nI (fun k => decide (k ∉ F)) nI (i_seq (op := .sl 10) rfl rfl) (show 2 ≤ 16777216 by decide) (fun x hx => by
                exact turn_so (st1 := S11.set 11 (some (.val (nI x)))) (decide (x ∉ F)) rfl (t_of (e_cmp (x := nI x) (y := encL F) rfl rfl rfl rfl (c_ninL x F))) (fun _ => n_d rfl) (fun _ => rfl) rfl) rfl)
              rfl rfl (add_L (by
                have h1 := bF.len
                have h2 := List.length_filter_le (fun k => decide (k ∉ F)) [wh (rimsW ties turns) (t, 0), wh (rimsW ties turns) (t, 1)]
                simp only [List.length_cons, List.length_nil] at h2
                omega))) rfl) ss_nil) (o0 := o) (p0 := p) fo fp
      refine ⟨F', o', p', ss_nx (s_for (i_nat (n := ties.length) (n_d (len_ties .none rfl)) (by omega)) e rfl) (ss_nx (s_set (op := .d (nI (a + 1))) (st1 := S F' a o' p') (st2 := S F' (a + 1) o' p') (e_bin (x := nI a) (y := .int 1) rfl rfl rfl rfl rfl) rfl) ss_nil), fo', fp', b', d', le⟩) (o0 := none) (p0 := none) fr_none fr_none (W := W) (by omega)
  refine ⟨F, b.bfs dn, ?_⟩
  rw [t__law_due]
  refine run_rt (st := S F a o p) (ss_nx (s_set (op := .d (.list ((rimsW ties turns).map encR))) (st2 := [some (.val (encW n ties)), some (.val (encT turns)), some (.val (encL ring)), some (.val (.list ((rimsW ties turns).map encR))), none, none, none, none, none, none, none, none]) (e_call (z := (_, .none)) (es_cons (n_d rfl) (es_cons (n_d rfl) es_nil)) (s_law_rims M hm hW)) rfl) ?_)
  refine ss_nx (s_set (op := .fr (.dict [])) (st2 := S1 [] none none) rfl rfl) ?_
  refine ss_nx (s_for (i_nat (n := (rimsW ties turns).length) (n_d (len_rows rfl)) (by omega)) e1 rfl) ?_
  have q1 : ((rimsW ties turns).length : Int) - 1 = (((rimsW ties turns).length - 1 : Nat) : Int) := by have := rows_pos G; omega
  refine ss_nx (s_set (op := .fr (encL [(rimsW ties turns).length - 1])) (st1 := S1 dk oa ob) (st2 := [some (.val (encW n ties)), some (.val (encT turns)), some (.val (encL ring)), some (.val (.list ((rimsW ties turns).map encR))), some (.own (.dict dk)), oa, some (.own (encL [(rimsW ties turns).length - 1])), none, ob, none, none, none])
    (e_lst (ds := [nI ((rimsW ties turns).length - 1)]) (es_cons (n_d (e_bin (x := .int ((rimsW ties turns).length : Int)) (y := .int 1) (len_rows rfl) rfl rfl rfl (by show some (Op.d (.int (((rimsW ties turns).length : Int) - 1))) = _; rw [q1]; rfl))) es_nil) (show 1 ≤ 16777216 by decide)) rfl) ?_
  refine ss_nx (s_set (op := .d (nI 0)) (st2 := S [(rimsW ties turns).length - 1] 0 none none) rfl rfl) ?_
  refine ss_nx (s_whl e) ?_
  refine ss_rt (s_ret (n_fr ?_))
  let S5 : Option SV → Stt := fun o5 => [some (.val (encW n ties)), some (.val (encT turns)), some (.val (encL ring)), some (.val (.list ((rimsW ties turns).map encR))), some (.own (.dict dk)), o5, some (.own (encL F)), some (.val (nI a)), ob, o, p, none]
  have := e_comp_typed (Φ := tab W (k + 2)) (st := S F a o p) (st1 := S F a o p) (st3 := S F a o p) (own := [5]) (t := .nm 5) (it := .rng (.b1 .len (.var 3))) (c := .so (.cmp .nin (.var 5) (.var 6))) (e := .var 5) (xs := List.range (rimsW ties turns).length) (lk := none)
    nI (fun k => decide (k ∉ F)) nI (i_nat (n := (rimsW ties turns).length) (n_d (len_rows rfl)) (by omega)) (by rw [List.length_range]; show _ ≤ 16777216; omega) (fun x hx =>
      turn_so (st := S5 none) (st1 := S5 (some (.val (nI x)))) (decide (x ∉ F)) rfl (t_of (e_cmp (x := nI x) (y := encL F) rfl rfl rfl rfl (c_ninL x F))) (fun _ => n_d rfl) (fun _ => rfl) rfl) rfl
  exact this
theorem forL_two {f : D → Stt → Option (Fl × Stt)} {x y : D} {st st1 st2 : Stt} (h1 : f x st = some (.nx, st1)) (h2 : f y st1 = some (.nx, st2)) : forL f [x, y] st = some (.nx, st2) := by
  rw [forL, h1]
  show forL f [y] st1 = _
  rw [forL, h2]; rfl
/-- the rims of both halves of a tie -/
theorem s_law_both {rows : List (List Hf)} {m : Nat} {f : Hf → Hf} (R : Rims m f rows (halvesL m)) (hm : m ≤ 1000) {t : Nat} (ht : t < m) : tab W (k + 1) "_law_both" [.list (rows.map encR), nI t] = some (encL [wh rows (t, 0), wh rows (t, 1)], .none) := by
  have hr := rows_le R
  let S : List Nat → Option SV → Stt := fun l o => [some (.val (.list (rows.map encR))), some (.val (nI t)), some (.own (encL l)), o, none]
  have one : ∀ (l : List Nat) (s : Nat) (o : Option SV), Fr o → s ≤ 1 → l.length ≤ 2 → ((asg (.nm 3) (nI s) (S l o)).bind fun st2 => evSs (tab W k) W (.cons (.set 2 (.bin .add (.var 2) (.comp [4] (.nm 4) (.rng (.b1 .len (.var 0))) (.so (.cmp .in_ (.tup (.cons (.var 1) (.cons (.var 3) (.nil)))) (.ix (.var 0) (.var 4)))) (.var 4)))) (.nil)) st2) = some (.nx, S (l ++ [wh rows (t, s)]) (some (.val (nI s)))) := fun l s o fo hs hl => by
    have z : InH m (t, s) := ⟨ht, hs⟩
    obtain ⟨lt, mem⟩ := R.wh (mem_halves.mpr z)
    rw [asg_nm (o := o) rfl fo, Option.bind_some]
    have fil : (List.range rows.length).filter (fun x => decide ((t, s) ∈ rows.getD x [])) = [wh rows (t, s)] := by
      have : ∀ x, x < rows.length → (decide ((t, s) ∈ rows.getD x []) = decide (x = wh rows (t, s))) := fun x hx => by
        refine decide_eq_decide.mpr ⟨fun h => ?_, fun h => ?_⟩
        · have : rows.getD x [] = rows[x] := by simp [hx]
          rw [this] at h
          exact R.only hx lt h mem
        · subst h
          have : rows.getD (wh rows (t, s)) [] = rows[wh rows (t, s)] := by simp [lt]
          rw [this]; exact mem
      rw [List.filter_congr fun x hx => this x (List.mem_range.mp hx)]
      have gen : ∀ n, wh rows (t, s) < n → (List.range n).filter (fun x => decide (x = wh rows (t, s))) = [wh rows (t, s)] := by
        intro n
        induction n with
        | zero => intro h; exact absurd h (Nat.not_lt_zero _)
        | succ n ih =>
          intro h
          rw [List.range_succ, List.filter_append]
          by_cases q : wh rows (t, s) = n
          · have : (List.range n).filter (fun x => decide (x = wh rows (t, s))) = [] := List.filter_eq_nil_iff.mpr fun x hx => by
              have := List.mem_range.mp hx
              simp; omega
            rw [this, q]; simp
          · rw [ih (by omega)]
            have : ¬ n = wh rows (t, s) := fun z => q z.symm
            simp [this]
      exact gen _ lt
    refine ss_nx (s_set (op := .fr (encL (l ++ [wh rows (t, s)]))) (st1 := S l (some (.val (nI s)))) (e_bin (x := encL l) (y := encL [wh rows (t, s)]) (oq := .fr (encL [wh rows (t, s)])) rfl ?_ rfl rfl (add_L (by simp; omega))) rfl) ss_nil
    have := e_comp_typed (Φ := tab W k) (st := S l (some (.val (nI s)))) (st1 := S l (some (.val (nI s)))) (st3 := S l (some (.val (nI s)))) (own := [4]) (t := .nm 4) (it := .rng (.b1 .len (.var 0))) (c := .so (.cmp .in_ (.tup (.cons (.var 1) (.cons (.var 3) (.nil)))) (.ix (.var 0) (.var 4)))) (e := .var 4) (xs := List.range rows.length) (lk := none)
      nI (fun x => decide ((t, s) ∈ rows.getD x [])) nI (i_nat (n := rows.length) (n_d (len_rows rfl)) (by omega)) (by rw [List.length_range]; show _ ≤ 16777216; omega) (fun x hx => by
        have hx := List.mem_range.mp hx
        have : rows.getD x [] = rows[x] := by simp [hx]
        refine turn_so (st1 := [some (.val (.list (rows.map encR))), some (.val (nI t)), some (.own (encL l)), some (.val (nI s)), some (.val (nI x))]) (decide ((t, s) ∈ rows.getD x [])) rfl (t_of (e_cmp (x := encH (t, s)) (y := encR rows[x]) (e_tup (es_cons (n_d rfl) (es_cons (n_d rfl) es_nil)) (show 2 ≤ 16777216 by decide)) (e_ix (x := .list (rows.map encR)) (y := nI x) rfl (n_d rfl) rfl (ix_map hx)) rfl rfl ?_)) (fun _ => n_d rfl) (fun _ => rfl) rfl
        rw [encR, c_in (k := 1) (by decide) (sh_H _) (fun y hy => by obtain ⟨g, _, rfl⟩ := List.mem_map.mp hy; exact sh_H g), in_list fun y _ => eqv_H y (t, s), this]
        exact congrArg (fun b => some (Op.d (PyData.bool b))) (decide_eq_decide.mpr Iff.rfl)) rfl
    rw [fil] at this
    exact this
  rw [t__law_both]
  refine run_rt (st := (S [wh rows (t, 0), wh rows (t, 1)] (some (.val (nI 1)))).set 2 (some (.val (encL [wh rows (t, 0), wh rows (t, 1)])))) (ss_nx (s_set (op := .fr (encL [])) (st2 := S [] none) rfl rfl) ?_)
  refine ss_nx (s_for (xs := [nI 0, nI 1]) (lk := none) (st2 := S [wh rows (t, 0), wh rows (t, 1)] (some (.val (nI 1)))) (i_seq (op := .d (.tuple [nI 0, nI 1])) rfl rfl) ?_ rfl) (ss_rt (s_ret rfl))
  exact forL_two (one [] 0 none fr_none (by decide) (by decide)) (one [wh rows (t, 0)] 1 (some (.val (nI 0))) (fr_val _) (by decide) (show 1 ≤ 2 by decide))
end
end K95

set_option Elab.async false
set_option linter.all false
set_option maxRecDepth 100000
/-! K95V: draws, laying. -/
namespace K95
open PySem PD
def Dr (cells : List Int) (a : Nat) (b c : Int) : D := .list [.list (cells.map .int), nI a, .int b, .int c]
def DrawOk (d : D) : Prop := ∃ cells a b c, d = Dr cells a b c
section
variable {W k : Nat}
theorem s_law_draws (ns : List Int) : tab W (k + 1) "_law_draws" [.list (ns.map .int)] = some (Dr ns 0 0 1, .none) := by
  rw [t__law_draws]; rfl
theorem mul_s {i j : Int} (h : small64 j = true) : binop .mul (.int i) (.int j) = some (.d (.int (i * j))) := by
  show (if (small64 i || small64 j) = true then some (Op.d (.int (i * j))) else none) = _
  rw [h, Bool.or_true, if_pos rfl]
theorem s_law_draw {d : D} (hd : DrawOk d) {l : Nat} (h0 : 0 < l) (h1 : l < 1073741824) : ∃ v d', tab W (k + 1) "_law_draw" [d, nI l] = some (nI v, d') ∧ v < l ∧ DrawOk d' := by
  obtain ⟨cells, a, b, c, rfl⟩ := hd
  let S : D → Option SV → Option SV → Stt := fun d o2 o3 => [some (.par d), some (.val (nI l)), o2, o3]
  have modl : ∀ i : Int, ∃ v : Nat, v < l ∧ binop .mod (.int i) (nI l) = some (.d (nI v)) := fun i => by
    have hl : (l : Int) ≠ 0 := by omega
    have hn : 0 ≤ i.fmod l := by rw [Int.fmod_eq_emod_of_nonneg _ (by omega)]; exact Int.emod_nonneg _ hl
    have hlt : i.fmod l < l := by rw [Int.fmod_eq_emod_of_nonneg _ (by omega)]; exact Int.emod_lt_of_pos _ (by omega)
    refine ⟨(i.fmod l).toNat, by omega, ?_⟩
    show (if (l : Int) ≠ 0 then some (Op.d (.int (i.fmod l))) else none) = _
    rw [if_pos hl, nI, Int.toNat_of_nonneg hn]
  -- the first part
  obtain ⟨a', b', c', o2, e1, f2⟩ : ∃ a' b' c' o2, evS (tab W k) W (.ife (.and_ (.cmp .eq (.ix (.var 0) (.con (.int 2))) (.con (.int 0))) (.cmp .lt (.ix (.var 0) (.con (.int 1))) (.b1 .len (.ix (.var 0) (.con (.int 0)))))) (.cons (.set 2 (.ix (.ix (.var 0) (.con (.int 0))) (.ix (.var 0) (.con (.int 1))))) (.cons (.sset 0 (.con (.int 1)) (.bin .add (.ix (.var 0) (.con (.int 1))) (.con (.int 1)))) (.cons (.ife (.cmp .ge (.var 2) (.bin .pow (.con (.int 10)) (.con (.int 18)))) (.cons (.sset 0 (.con (.int 2)) (.var 2)) (.nil)) (.nil)) (.cons (.sset 0 (.con (.int 3)) (.bin .mod (.b1 .int (.bin .add (.bin .add (.bin .mul (.ix (.var 0) (.con (.int 3))) (.con (.int 48271))) (.var 2)) (.con (.int 13)))) (.con (.int 2147483647)))) (.nil))))) (.nil)) (S (Dr cells a b c) none none) = some (.nx, S (Dr cells a' b' c') o2 none) ∧ True := by
    have lenc : evE (tab W k) (.b1 .len (.ix (.var 0) (.con (.int 0)))) (S (Dr cells a b c) none none) = some (.d (.int (cells.length : Int)), S (Dr cells a b c) none none) := by
      refine e_b1 (x := .list (cells.map .int)) rfl rfl ?_
      show some (Op.d (.int ((cells.map PyData.int).length : Int))) = _
      rw [List.length_map]
    have t1 : tst (evE (tab W k) (.cmp .eq (.ix (.var 0) (.con (.int 2))) (.con (.int 0))) (S (Dr cells a b c) none none)) = some (decide (b = 0), S (Dr cells a b c) none none) := t_of (e_cmp (x := .int b) (y := .int 0) rfl rfl rfl rfl (c_eqi _ _))
    have t2 : evE (tab W k) (.cmp .lt (.ix (.var 0) (.con (.int 1))) (.b1 .len (.ix (.var 0) (.con (.int 0))))) (S (Dr cells a b c) none none) = some (.d (.bool (decide ((a : Int) < (cells.length : Int)))), S (Dr cells a b c) none none) := e_cmp (x := .int (a : Int)) (y := .int (cells.length : Int)) rfl lenc rfl rfl (c_lti _ _)
    have t3 := t_of (e_and t1 (fun _ => t2) (fun _ => rfl))
    cases hc : (decide (b = 0) && decide ((a : Int) < (cells.length : Int))) with
    | false =>
      rw [hc] at t3
      exact ⟨a, b, c, none, s_if false t3 ss_nil, trivial⟩
    | true =>
      rw [hc] at t3
      have la : a < cells.length := by
        rw [Bool.and_eq_true, decide_eq_true_eq, decide_eq_true_eq] at hc
        omega
      have rest : ∀ b', ∃ c', evS (tab W k) W (.sset 0 (.con (.int 3)) (.bin .mod (.b1 .int (.bin .add (.bin .add (.bin .mul (.ix (.var 0) (.con (.int 3))) (.con (.int 48271))) (.var 2)) (.con (.int 13)))) (.con (.int 2147483647)))) (S (Dr cells (a + 1) b' c) (some (.val (.int cells[a]))) none) = some (.nx, S (Dr cells (a + 1) b' c') (some (.val (.int cells[a]))) none) := fun b' =>
        ⟨(c * 48271 + cells[a] + 13).fmod 2147483647, s_ssetL (j := 3) (m := 3) (xs := [.list (cells.map .int), nI (a + 1), .int b', .int c]) (n_d (e_bin (x := .int (c * 48271 + cells[a] + 13)) (y := .int 2147483647) (e_b1 (x := .int (c * 48271 + cells[a] + 13)) (e_bin (x := .int (c * 48271 + cells[a])) (y := .int 13) (e_bin (x := .int (c * 48271)) (y := .int cells[a]) (e_bin (x := .int c) (y := .int 48271) rfl rfl rfl rfl (mul_s (by decide))) rfl rfl rfl rfl) rfl rfl rfl rfl) rfl rfl) rfl rfl rfl rfl)) rfl (n_d rfl) rfl rfl rfl⟩
      have gett : evE (tab W k) (.ix (.ix (.var 0) (.con (.int 0))) (.ix (.var 0) (.con (.int 1)))) (S (Dr cells a b c) none none) = some (.d (.int cells[a]), S (Dr cells a b c) none none) :=
        e_ix (x := .list (cells.map .int)) (y := nI a) (e_ix (x := Dr cells a b c) (y := .int 0) rfl (n_d rfl) rfl rfl) (n_d (e_ix (x := Dr cells a b c) (y := .int 1) rfl (n_d rfl) rfl rfl)) rfl (ix_map la)
      have big : tst (evE (tab W k) (.cmp .ge (.var 2) (.bin .pow (.con (.int 10)) (.con (.int 18)))) (S (Dr cells (a + 1) b c) (some (.val (.int cells[a]))) none)) = some (!decide (cells[a] < (10 : Int) ^ (18 : Int).toNat), S (Dr cells (a + 1) b c) (some (.val (.int cells[a]))) none) :=
        t_of (e_cmp (x := .int cells[a]) (y := .int ((10 : Int) ^ (18 : Int).toNat)) rfl (e_bin (x := .int 10) (y := .int 18) rfl rfl rfl rfl (by
          show (if (0 : Int) ≤ 18 ∧ (18 : Int) ≤ 1000000 ∧ (10 : Int).natAbs < 2 ^ 64 then some (Op.d (.int ((10 : Int) ^ (18 : Int).toNat))) else none) = _
          rw [if_pos (by decide)])) rfl rfl (c_gei _ _))
      obtain ⟨b', hb'⟩ : ∃ b', evS (tab W k) W (.ife (.cmp .ge (.var 2) (.bin .pow (.con (.int 10)) (.con (.int 18)))) (.cons (.sset 0 (.con (.int 2)) (.var 2)) (.nil)) (.nil)) (S (Dr cells (a + 1) b c) (some (.val (.int cells[a]))) none) = some (.nx, S (Dr cells (a + 1) b' c) (some (.val (.int cells[a]))) none) := by
        cases hq : (!decide (cells[a] < (10 : Int) ^ (18 : Int).toNat)) with
        | false => rw [hq] at big; exact ⟨b, s_if false big ss_nil⟩
        | true => rw [hq] at big; exact ⟨cells[a], s_if true big (ss_nx (s_ssetL (j := 2) (m := 2) (xs := [.list (cells.map .int), nI (a + 1), .int b, .int c]) (n_d rfl) rfl (n_d rfl) rfl rfl rfl) ss_nil)⟩
      obtain ⟨c', hc'⟩ := rest b'
      exact ⟨a + 1, b', c', some (.val (.int cells[a])), s_if true t3 (ss_nx (s_set gett rfl) (ss_nx (s_ssetL (j := 1) (m := 1) (xs := [.list (cells.map .int), nI a, .int b, .int c]) (st3 := S (Dr cells (a + 1) b c) (some (.val (.int cells[a]))) none) (n_d (e_bin (x := nI a) (y := .int 1) rfl rfl rfl rfl rfl)) rfl (n_d rfl) rfl rfl rfl) (ss_nx hb' (ss_nx hc' ss_nil)))), trivial⟩
  have t4 : tst (evE (tab W k) (.cmp .gt (.ix (.var 0) (.con (.int 2))) (.con (.int 0))) (S (Dr cells a' b' c') o2 none)) = some (decide ((0 : Int) < b'), S (Dr cells a' b' c') o2 none) := t_of (e_cmp (x := .int b') (y := .int 0) rfl rfl rfl rfl (c_gti _ _))
  have hl : (l : Int) ≠ 0 := by omega
  cases hq : decide ((0 : Int) < b') with
  | true =>
    rw [hq] at t4
    obtain ⟨v, hv, ev⟩ := modl b'
    refine ⟨v, Dr cells a' (b'.fdiv l) c', ?_, hv, cells, a', _, c', rfl⟩
    rw [t__law_draw]
    refine run_rt (st := S (Dr cells a' (b'.fdiv l) c') o2 (some (.val (nI v)))) (ss_nx e1 (ss_rt (s_if true t4 ?_)))
    refine ss_nx (s_set (op := .d (nI v)) (st2 := S (Dr cells a' b' c') o2 (some (.val (nI v)))) (e_bin (x := .int b') (y := nI l) (e_b1 (x := .int b') rfl rfl rfl) rfl rfl rfl ev) rfl) ?_
    refine ss_nx (s_ssetL (j := 2) (m := 2) (d := .int (b'.fdiv l)) (xs := [.list (cells.map .int), nI a', .int b', .int c']) (st3 := S (Dr cells a' (b'.fdiv l) c') o2 (some (.val (nI v)))) (n_d (e_bin (x := .int b') (y := nI l) rfl rfl rfl rfl ?_)) rfl (n_d rfl) rfl rfl rfl) (ss_rt (s_ret rfl))
    show (if (l : Int) ≠ 0 ∧ (l : Int).natAbs < 1073741824 then some (Op.d (.int (b'.fdiv l))) else none) = _
    rw [if_pos ⟨hl, by omega⟩]
  | false =>
    rw [hq] at t4
    let c2 : Int := (c' * 69621 + 7).fmod 2147483629
    obtain ⟨v, hv, ev⟩ := modl (c2.fdiv 11)
    refine ⟨v, Dr cells a' b' c2, ?_, hv, cells, a', b', c2, rfl⟩
    rw [t__law_draw]
    refine run_rt (st := S (Dr cells a' b' c2) o2 none) (ss_nx e1 (ss_nx (s_if false t4 ss_nil) (ss_nx (s_ssetL (j := 3) (m := 3) (d := .int c2) (xs := [.list (cells.map .int), nI a', .int b', .int c']) (st3 := S (Dr cells a' b' c2) o2 none) (n_d (e_bin (x := .int (c' * 69621 + 7)) (y := .int 2147483629) (e_b1 (x := .int (c' * 69621 + 7)) (e_bin (x := .int (c' * 69621)) (y := .int 7) (e_bin (x := .int c') (y := .int 69621) rfl rfl rfl rfl (mul_s (by decide))) rfl rfl rfl rfl) rfl rfl) rfl rfl rfl rfl)) rfl (n_d rfl) rfl rfl rfl) (ss_rt (s_ret (n_d (e_bin (x := .int (c2.fdiv 11)) (y := nI l) (e_b1 (x := .int (c2.fdiv 11)) (e_bin (x := .int c2) (y := .int 11) rfl rfl rfl rfl rfl) rfl rfl) rfl rfl rfl ev)))))))
end
/-! ### laying -/
section
variable {W k : Nat}
theorem index_H {row : List Hf} {u : Hf} (hu : u ∈ row) : ∃ j, indexD (row.map encH) (encH u) = some j ∧ ∃ h : j < row.length, row[j] = u ∧ ∀ z, ins row u z = row.take (j + 1) ++ [z] ++ row.drop (j + 1) := by
  have shs : ∀ y ∈ row.map encH, Sh 1 y := fun y hy => by
    obtain ⟨g, _, rfl⟩ := List.mem_map.mp hy
    exact sh_H g
  unfold indexD
  rw [(sh_H u).ok (by decide), (sh_list shs).ok (by decide)]
  show ∃ j, (row.map encH).findIdx? (fun z => PyData.eqv z (encH u)) = some j ∧ _
  induction row with
  | nil => cases hu
  | cons a r ih =>
    rw [List.map_cons, List.findIdx?_cons]
    by_cases q : a = u
    · subst q
      rw [(eqv_H a a).mpr rfl]
      exact ⟨0, rfl, Nat.succ_pos _, rfl, fun z => by rw [ins, if_pos rfl]; rfl⟩
    · have ne : PyData.eqv (encH a) (encH u) = false := by
        cases h : PyData.eqv (encH a) (encH u) with
        | false => rfl
        | true => exact absurd ((eqv_H a u).mp h) q
      obtain ⟨j, e, hj, e2, e3⟩ := ih ((List.mem_cons.mp hu).resolve_left fun e => q e.symm) fun y hy => shs y (List.mem_cons_of_mem _ hy)
      rw [ne]
      refine ⟨j + 1, by rw [e]; rfl, Nat.succ_lt_succ hj, e2, fun z => ?_⟩
      rw [ins, if_neg q, e3 z]; rfl
end
end K95

set_option Elab.async false
set_option linter.all false
set_option maxRecDepth 100000
/-! K95X: laid; parts; genus. -/
namespace K95
open PySem PD
section
variable {W k n : Nat} {ties : List (Nat × Nat)} {turns : List (List Hf)}
theorem encT_set {T : List (List Hf)} {p : Nat} {row : List Hf} : (T.map encR).set p (encR row) = (T.set p row).map encR := by rw [List.map_set]
theorem s_law_laid {t a b : Nat} {one two : Hf} (ha : a < turns.length) (hb : b < turns.length) (h1 : one ∈ rowAt turns a) (h2 : two ∈ rowAt turns b) (hz : turns.length ≤ 1000) (hr : ∀ p, (rowAt turns p).length ≤ 10000) :
    tab W (k + 1) "_law_laid" [encT turns, nI t, nI a, nI b, encH one, encH two] = some (encT (lay turns t a b one two), .none) := by
  let S : List (List Hf) → Option SV → Stt := fun T o7 => [some (.val (encT turns)), some (.val (nI t)), some (.val (nI a)), some (.val (nI b)), some (.val (encH one)), some (.val (encH two)), some (.own (encT T)), o7, none]
  -- one half laid: the row's slot r, the half's slot u
  have half : ∀ (T : List (List Hf)) (o7 : Option SV) (sr su : Nat) (p : Nat) (u : Hf) (s : Nat), Fr o7 → p < T.length → u ∈ rowAt T p → (rowAt T p).length ≤ 20000 → (∀ T o, (S T o)[sr]? = some (some (.val (nI p)))) → (∀ T o, (S T o)[su]? = some (some (.val (encH u)))) → ∀ (cs : Css) (z : Option (Fl × Stt)),
      evSs (tab W k) W cs (S (T.set p (ins (rowAt T p) u (t, s))) (some (.val (nI ((rowAt T p).findIdx (fun x => decide (x = u)) + 1))))) = z →
      evSs (tab W k) W (.cons (.set 7 (.ite (.cmp .isN (.var su) (.con .none)) (.con (.int 0)) (.bin .add (.index (.ix (.var 6) (.var sr)) (.var su)) (.con (.int 1))))) (.cons (.sset 6 (.var sr) (.bin .add (.bin .add (.slc (.ix (.var 6) (.var sr)) (.no) (.so (.var 7))) (.lst (.cons (.tup (.cons (.var 1) (.cons (.con (.int s)) (.nil)))) (.nil)))) (.slc (.ix (.var 6) (.var sr)) (.so (.var 7)) (.no)))) cs)) (S T o7) = z := fun T o7 sr su p u s f7 hp hu hl gr gu cs z hz => by
    obtain ⟨j, ej, hj, eu, ei⟩ := index_H hu
    have hT : rowAt T p = T[p] := by unfold rowAt; simp [hp]
    have rowev : ∀ o, evE (tab W k) (.ix (.var 6) (.var sr)) (S T o) = some (.d (encR (rowAt T p)), S T o) := fun o => by
      rw [hT]
      exact e_ix (x := encT T) (y := nI p) rfl (n_d (by rw [evE, gr])) rfl (ix_map hp)
    have vu : ∀ o, evE (tab W k) (.var su) (S T o) = some (.d (encH u), S T o) := fun o => by rw [evE, gu]
    have jx : (rowAt T p).findIdx (fun x => decide (x = u)) = j := by
      have e1 : (rowAt T p).findIdx? (fun x => decide (x = u)) = some j := by
        have shs : ∀ y ∈ (rowAt T p).map encH, Sh 1 y := fun y hy => by
          obtain ⟨g, _, rfl⟩ := List.mem_map.mp hy
          exact sh_H g
        unfold indexD at ej
        rw [(sh_H u).ok (by decide), (sh_list shs).ok (by decide)] at ej
        have ej : ((rowAt T p).map encH).findIdx? (fun z => PyData.eqv z (encH u)) = some j := ej
        rw [List.findIdx?_map] at ej
        rw [← ej]
        congr 1
        funext x
        exact Bool.eq_iff_iff.mpr (decide_eq_true_iff.trans (eqv_H x u).symm)
      exact (List.findIdx?_eq_some_iff_findIdx_eq.mp e1).2
    rw [jx] at hz
    have v7 : S T (some (.val (nI (j + 1)))) = S T (some (.val (nI (j + 1)))) := rfl
    have sl1 : slD (encR (rowAt T p)) none (some ((j + 1 : Nat) : Int)) = some (.fr (encR ((rowAt T p).take (j + 1)))) := by
      show some (Op.fr (.list ((((rowAt T p).map encH).drop 0).take (HT.sIx ((rowAt T p).map encH).length ((rowAt T p).map encH).length (some ((j + 1 : Nat) : Int)) - 0)))) = _
      rw [HT.sIx_nat, List.drop_zero, Nat.sub_zero, List.length_map, Nat.min_eq_left (by omega), ← List.map_take]; rfl
    have sl2 : slD (encR (rowAt T p)) (some ((j + 1 : Nat) : Int)) none = some (.fr (encR ((rowAt T p).drop (j + 1)))) := by
      show some (Op.fr (.list ((((rowAt T p).map encH).drop (HT.sIx ((rowAt T p).map encH).length 0 (some ((j + 1 : Nat) : Int)))).take (((rowAt T p).map encH).length - HT.sIx ((rowAt T p).map encH).length 0 (some ((j + 1 : Nat) : Int)))))) = _
      rw [HT.sIx_nat, List.length_map, Nat.min_eq_left (by omega), List.take_of_length_le (by simp), ← List.map_drop]; rfl
    have addR : ∀ x y : List Hf, x.length + y.length ≤ 30000 → binop .add (encR x) (encR y) = some (.fr (encR (x ++ y))) := fun x y h => by
      show (if (x.map encH).length + (y.map encH).length ≤ sizeLine then some (Op.fr (.list (x.map encH ++ y.map encH))) else none) = _
      rw [List.length_map, List.length_map, if_pos (show x.length + y.length ≤ sizeLine from (by show _ ≤ 16777216; omega)), encR, List.map_append]
    refine ss_nx (s_set (op := .d (nI (j + 1))) (st1 := S T o7) (st2 := S T (some (.val (nI (j + 1))))) (e_ite false (t_of (e_cmp (x := encH u) (y := .none) (vu o7) rfl rfl rfl rfl)) (e_bin (x := nI j) (y := .int 1) (e_index (xs := (rowAt T p).map encH) (y := encH u) (j := j) (rowev o7) rfl (vu o7) rfl rfl ej) rfl rfl rfl rfl)) (put_ok (o := o7) rfl f7)) ?_
    refine ss_nx (s_ssetL (d := encR (ins (rowAt T p) u (t, s))) (j := (p : Int)) (m := p) (xs := T.map encR) (st1 := S T (some (.val (nI (j + 1))))) (st2 := S T (some (.val (nI (j + 1))))) (st3 := S (T.set p (ins (rowAt T p) u (t, s))) (some (.val (nI (j + 1))))) (n_fr ?_) rfl (n_d (by rw [evE, gr]; rfl)) rfl (by rw [List.length_map]; exact ixN_nat hp) ?_) hz
    · rw [ei]
      refine e_bin (x := encR ((rowAt T p).take (j + 1) ++ [(t, s)])) (y := encR ((rowAt T p).drop (j + 1))) (e_bin (x := encR ((rowAt T p).take (j + 1))) (y := encR [(t, s)]) (e_slc (x := encR (rowAt T p)) (rowev _) v_no (v_so (i := ((j + 1 : Nat) : Int)) (n_d rfl)) rfl sl1) (e_lst (ds := [encH (t, s)]) (es_cons (n_d (e_tup (ds := [nI t, nI s]) (es_cons (n_d rfl) (es_cons (n_d rfl) es_nil)) (show 2 ≤ 16777216 by decide))) es_nil) (show 1 ≤ 16777216 by decide)) rfl rfl (addR _ _ (by rw [List.length_take]; simp; omega))) (e_slc (x := encR (rowAt T p)) (rowev _) (v_so (i := ((j + 1 : Nat) : Int)) (n_d rfl)) v_no rfl sl2) rfl rfl (addR _ _ (by rw [List.length_append, List.length_take, List.length_drop]; simp; omega))
    · exact congrArg (fun l => some ([some (.val (encT turns)), some (.val (nI t)), some (.val (nI a)), some (.val (nI b)), some (.val (encH one)), some (.val (encH two)), some (.own (.list l)), some (.val (nI (j + 1))), none] : Stt)) encT_set
  have copy : evE (tab W k) (.comp [8] (.nm 8) (.seq (.var 0)) (.no) (.b1 .list (.var 8))) [some (.val (encT turns)), some (.val (nI t)), some (.val (nI a)), some (.val (nI b)), some (.val (encH one)), some (.val (encH two)), none, none, none] = some (.fr (encT turns), [some (.val (encT turns)), some (.val (nI t)), some (.val (nI a)), some (.val (nI b)), some (.val (encH one)), some (.val (encH two)), none, none, none]) := by
    have := e_comp_typed (Φ := tab W k) (st := [some (.val (encT turns)), some (.val (nI t)), some (.val (nI a)), some (.val (nI b)), some (.val (encH one)), some (.val (encH two)), none, none, none]) (st1 := [some (.val (encT turns)), some (.val (nI t)), some (.val (nI a)), some (.val (nI b)), some (.val (encH one)), some (.val (encH two)), none, none, none]) (st3 := [some (.val (encT turns)), some (.val (nI t)), some (.val (nI a)), some (.val (nI b)), some (.val (encH one)), some (.val (encH two)), none, none, none]) (own := [8]) (t := .nm 8) (it := .seq (.var 0)) (c := .no) (e := .b1 .list (.var 8)) (xs := turns) (lk := none) encR (fun _ => true) encR (i_seq (op := .d (encT turns)) rfl rfl) (by show _ ≤ 16777216; omega) (fun row _ => turn_no (st1 := [some (.val (encT turns)), some (.val (nI t)), some (.val (nI a)), some (.val (nI b)), some (.val (encH one)), some (.val (encH two)), none, none, some (.val (encR row))]) rfl (n_fr (e_b1 (x := encR row) rfl rfl rfl)) rfl) rfl
    rw [List.filter_eq_self.mpr fun _ _ => rfl] at this
    exact this
  rw [t__law_laid]
  have h1' : one ∈ rowAt (turns.set b (ins (rowAt turns b) two (t, 1))) a := by
    rw [rowAt_set hb]; split
    · rename_i q; subst q; exact (mem_ins h2).mpr (.inl h1)
    · exact h1
  have insl : ∀ (row : List Hf) (u z : Hf), (ins row u z).length ≤ row.length + 1 := fun row u z => by
    induction row with
    | nil => exact Nat.zero_le _
    | cons a r ih =>
      rw [ins]
      split
      · simp
      · simp only [List.length_cons]; omega
  have hr' : (rowAt (turns.set b (ins (rowAt turns b) two (t, 1))) a).length ≤ 20000 := by
    rw [rowAt_set hb]; split
    · have := insl (rowAt turns b) two (t, 1); have := hr b; omega
    · have := hr a; omega
  refine run_rt (st := (S (lay turns t a b one two) (some (.val (nI ((rowAt (turns.set b (ins (rowAt turns b) two (t, 1))) a).findIdx (fun x => decide (x = one)) + 1))))).set 6 (some (.val (encT (lay turns t a b one two))))) (ss_nx (s_set (st2 := S turns none) copy rfl) ?_)
  refine half turns none 3 5 b two 1 fr_none hb h2 (by have := hr b; omega) (fun _ _ => rfl) (fun _ _ => rfl) _ _ ?_
  refine half _ (some (.val _)) 2 4 a one 0 (fr_val _) (by rw [List.length_set]; exact ha) h1' hr' (fun _ _ => rfl) (fun _ _ => rfl) _ _ ?_
  exact ss_rt (s_ret rfl)
end
end K95

set_option Elab.async false
set_option linter.all false
set_option maxRecDepth 100000
/-! K95Y: parts and genus. -/
namespace K95
open PySem PD
def unI : D → Nat
  | .int i => i.toNat
  | _ => 0
theorem sort_nats (l : List Nat) (hz : l.length ≤ 100000) : ∃ l', l'.Perm l ∧ b1op .sorted (encL l) = some (.fr (encL l')) := by
  have p : (sortD (l.map nI)).Perm (l.map nI) := List.mergeSort_perm _ _
  refine ⟨(sortD (l.map nI)).map unI, ?_, ?_⟩
  · have := p.map unI
    rw [List.map_map] at this
    have e : (unI ∘ nI) = id := by funext x; show ((x : Int)).toNat = x; omega
    rw [e, List.map_id] at this
    exact this
  · show Option.bind (isSeq (encL l)) (fun xs => if (allAlike xs && sortable xs && depthOk xs && decide (xs.length ≤ sizeLine)) = true then some (Op.fr (.list (sortD xs))) else none) = _
    have e0 : isSeq (encL l) = some (l.map nI) := rfl
    rw [e0, Option.bind_some]
    have a1 : allAlike (l.map nI) = true := by
      unfold allAlike
      rw [List.all_eq_true]
      intro x hx
      rw [List.all_eq_true]
      intro y hy
      obtain ⟨a, _, rfl⟩ := List.mem_map.mp hx
      obtain ⟨b, _, rfl⟩ := List.mem_map.mp hy
      unfold nI
      rw [PySem.W.alike]
    have a2 : sortable (l.map nI) = true := by
      unfold sortable
      rw [Bool.or_eq_true]
      right
      rw [List.all_eq_true]
      intro x hx
      obtain ⟨a, _, rfl⟩ := List.mem_map.mp hx
      rfl
    have a3 : depthOk (l.map nI) = true := by
      unfold depthOk
      rw [List.all_eq_true]
      intro x hx
      exact (sh_nats l x hx).ok (by decide)
    have a4 : decide ((l.map nI).length ≤ sizeLine) = true := decide_eq_true (by rw [List.length_map]; show _ ≤ 16777216; omega)
    rw [a1, a2, a3, a4]
    show some (Op.fr (.list (sortD (l.map nI)))) = _
    have : ((sortD (l.map nI)).map unI).map nI = sortD (l.map nI) := by
      rw [List.map_map]
      have : ∀ x ∈ sortD (l.map nI), (nI ∘ unI) x = x := fun x hx => by
        obtain ⟨a, _, rfl⟩ := List.mem_map.mp (p.mem_iff.mp hx)
        show PyData.int ((((a : Int)).toNat : Nat) : Int) = .int (a : Int)
        congr 1
      exact (List.map_congr_left this).trans (List.map_id _)
    rw [encL, this]
section
variable {W k n : Nat} {ties : List (Nat × Nat)} {turns : List (List Hf)}
def addP (F : List Nat) (x : Nat) : List Nat := if decide (x ∉ F) then F ++ [x] else F
theorem addP_two {F : List Nat} {x y z : Nat} (hz : z ∈ F) (h : z ∈ [x, y]) : addP (addP F x) y = F ++ [x, y].filter (fun k => decide (k ∉ F)) := by
  unfold addP
  have h : z = x ∨ z = y := by simpa using h
  rcases h with rfl | rfl
  · by_cases q : y ∈ F <;> simp [hz, q]
  · by_cases q : x ∈ F <;> simp [hz, q]
theorem s_law_parts (M : Mp n ties.length (ep ties) turns) (n2 : 2 ≤ n) (nm : n ≤ ties.length) (ring : ∀ k, k < n → ties.getD k (0, 0) = (k, (k + 1) % n)) (hm : ties.length ≤ 1000) (hW : 5000 ≤ W) :
    ∃ P : List Nat, P.length = n ∧ (∀ x, x ∈ P ↔ x < n) ∧ tab W (k + 1) "_law_parts" [encW n ties, .list [], .list []] = some (.list [encL P], .none) := by
  let S : List Nat → Nat → Option SV → Option SV → Stt := fun F a o p => [some (.val (encW n ties)), some (.val (.list [])), some (.val (.list [])), some (.own (.list [])), some (.val (nI 0)), some (.own (encL F)), some (.val (nI a)), o, p]
  have hw : ∀ t, t < ties.length → ep ties (t, 0) < n ∧ ep ties (t, 1) < n := fun t ht => ⟨M.en _ ⟨ht, Nat.zero_le _⟩, M.en _ ⟨ht, Nat.le_refl _⟩⟩
  have cond : ∀ F a o p, tst (evE (tab W k) (.cmp .lt (.var 6) (.b1 .len (.var 5))) (S F a o p)) = some (decide (a < F.length), S F a o p) := fun F a o p => by
    refine t_of (e_cmp (x := nI a) (y := .int (F.length : Int)) rfl (e_b1 (x := encL F) (r := .d (.int (F.length : Int))) rfl rfl ?_) rfl rfl ?_)
    · show some (Op.d (.int ((F.map nI).length : Int))) = _
      rw [List.length_map]
    · rw [nI, c_lti]
      have : decide ((a : Int) < (F.length : Int)) = decide (a < F.length) := decide_eq_decide.mpr (by omega)
      rw [this]
  obtain ⟨F, a, o, p, e, fo, fp, b, dn, lF⟩ := outer_loop (m := ties.length) (r := n) (s := 0) (w := ep ties) (ring := []) (S := S) (cf := fun st => tst (evE (tab W k) (.cmp .lt (.var 6) (.b1 .len (.var 5))) st)) Fr Fr (by omega) cond
    (f := fun st => evSs (tab W k) W (.cons (.for_ (.nm 7) (.rng (.b1 .len (.ix (.var 0) (.con (.int 2))))) (.cons (.ife (.and_ (.cmp .nin (.var 7) (.var 1)) (.cmp .in_ (.ix (.var 5) (.var 6)) (.ix (.ix (.var 0) (.con (.int 2))) (.var 7)))) (.cons (.for_ (.nm 8) (.seq (.ix (.ix (.var 0) (.con (.int 2))) (.var 7))) (.cons (.ife (.and_ (.cmp .nin (.var 8) (.var 5)) (.cmp .nin (.var 8) (.var 2))) (.cons (.app 5 (.var 8)) (.nil)) (.nil)) (.nil))) (.nil)) (.nil)) (.nil))) (.cons (.set 6 (.bin .add (.var 6) (.con (.int 1)))) (.nil))) st)
    (fun F0 a o p ha b d0 fo fp => by
      obtain ⟨F', o', p', e, fo', fp', b', d', le⟩ := inner_loop hw (f := fun x st1 => (asg (.nm 7) x st1).bind fun st2 => evSs (tab W k) W (.cons (.ife (.and_ (.cmp .nin (.var 7) (.var 1)) (.cmp .in_ (.ix (.var 5) (.var 6)) (.ix (.ix (.var 0) (.con (.int 2))) (.var 7)))) (.cons (.for_ (.nm 8) (.seq (.ix (.ix (.var 0) (.con (.int 2))) (.var 7))) (.cons (.ife (.and_ (.cmp .nin (.var 8) (.var 5)) (.cmp .nin (.var 8) (.var 2))) (.cons (.app 5 (.var 8)) (.nil)) (.nil)) (.nil))) (.nil)) (.nil)) (.nil)) st2) (S := fun F o p => S F a o p) (at_ := a) b d0 ha Fr Fr
        (fun F t o p ht bF ⟨l, eF⟩ fo fp => by
          have la : a < F.length := by rw [eF, List.length_append]; omega
          have xa : F0[a] = F[a] := by subst eF; rw [List.getElem_append_left ha]
          have w0 : ep ties (t, 0) = (ties[t]).1 := by unfold ep; simp [ht]
          have w1 : ep ties (t, 1) = (ties[t]).2 := by unfold ep; simp [ht]
          have tie : ∀ F p, evE (tab W k) (.ix (.ix (.var 0) (.con (.int 2))) (.var 7)) (S F a (some (.val (nI t))) p) = some (.d (encH ties[t]), S F a (some (.val (nI t))) p) := fun F p =>
            e_ix (x := .list (ties.map encH)) (y := nI t) (e_ix (x := encW n ties) (y := .int 2) rfl (n_d rfl) rfl rfl) (n_d rfl) rfl (ix_map ht)
          have tt : encH ties[t] = .tuple ([ep ties (t, 0), ep ties (t, 1)].map nI) := by rw [w0, w1]; rfl
          have c1 : tst (evE (tab W k) (.cmp .nin (.var 7) (.var 1)) (S F a (some (.val (nI t))) p)) = some (decide (t ∉ ([] : List Nat)), S F a (some (.val (nI t))) p) := t_of (e_cmp (x := nI t) (y := encL []) rfl rfl rfl rfl (c_ninL t []))
          have c2 : evE (tab W k) (.cmp .in_ (.ix (.var 5) (.var 6)) (.ix (.ix (.var 0) (.con (.int 2))) (.var 7))) (S F a (some (.val (nI t))) p) = some (.d (.bool (decide (F[a] ∈ [ep ties (t, 0), ep ties (t, 1)]))), S F a (some (.val (nI t))) p) :=
            e_cmp (x := nI F[a]) (y := .tuple ([ep ties (t, 0), ep ties (t, 1)].map nI)) (e_ix (x := encL F) (y := nI a) rfl (n_d rfl) rfl (ix_map la)) (tie F p) rfl (by rw [← tt]; rfl) (c_inTu _ _)
          have c3 := e_and (a := .cmp .nin (.var 7) (.var 1)) c1 (fun _ => c2) (fun _ => rfl)
          rw [asg_nm (o := o) rfl fo, Option.bind_some, xa]
          unfold stepT
          cases hc : (decide (t ∉ ([] : List Nat)) && decide (F[a] ∈ [ep ties (t, 0), ep ties (t, 1)])) with
          | false =>
            rw [hc] at c3
            exact ⟨some (.val (nI t)), p, fr_val _, fp, ss_nx (s_if false (t_of c3) ss_nil) ss_nil⟩
          | true =>
            rw [hc] at c3
            have hz : F[a] ∈ [ep ties (t, 0), ep ties (t, 1)] := of_decide_eq_true (Bool.and_eq_true_iff.mp hc).2
            refine ⟨some (.val (nI t)), some (.val (nI (ep ties (t, 1)))), fr_val _, fr_val _, ?_⟩
            have point : ∀ (F : List Nat) (x : Nat) (p : Option SV), Fr p → F.length ≤ 2000 → ((asg (.nm 8) (nI x) (S F a (some (.val (nI t))) p)).bind fun st2 => evSs (tab W k) W (.cons (.ife (.and_ (.cmp .nin (.var 8) (.var 5)) (.cmp .nin (.var 8) (.var 2))) (.cons (.app 5 (.var 8)) (.nil)) (.nil)) (.nil)) st2) = some (.nx, S (addP F x) a (some (.val (nI t))) (some (.val (nI x)))) := fun F x p fp hl => by
              rw [asg_nm (o := p) rfl fp, Option.bind_some]
              have d1 : tst (evE (tab W k) (.cmp .nin (.var 8) (.var 5)) (S F a (some (.val (nI t))) (some (.val (nI x))))) = some (decide (x ∉ F), S F a (some (.val (nI t))) (some (.val (nI x)))) := t_of (e_cmp (x := nI x) (y := encL F) rfl rfl rfl rfl (c_ninL x F))
              have d2 : evE (tab W k) (.cmp .nin (.var 8) (.var 2)) (S F a (some (.val (nI t))) (some (.val (nI x)))) = some (.d (.bool (decide (x ∉ ([] : List Nat)))), S F a (some (.val (nI t))) (some (.val (nI x)))) := e_cmp (x := nI x) (y := encL []) rfl rfl rfl rfl (c_ninL x [])
              have d3 := t_of (e_and (a := .cmp .nin (.var 8) (.var 5)) d1 (fun _ => d2) (fun _ => rfl))
              have en : decide (x ∉ ([] : List Nat)) = true := decide_eq_true (by simp)
              rw [en, Bool.and_true] at d3
              unfold addP
              cases hq : decide (x ∉ F) with
              | false => rw [hq] at d3; exact ss_nx (s_if false d3 ss_nil) ss_nil
              | true =>
                rw [hq] at d3
                have em : (F ++ [x]).map nI = F.map nI ++ [nI x] := List.map_append
                exact ss_nx (s_if true d3 (ss_nx (s_app (xs := F.map nI) (d := nI x) rfl (n_d rfl) rfl (by rw [List.length_map]; show _ < 16777216; omega) (congrArg (fun l => some ([some (.val (encW n ties)), some (.val (.list [])), some (.val (.list [])), some (.own (.list [])), some (.val (nI 0)), some (.own (.list l)), some (.val (nI a)), some (.val (nI t)), some (.val (nI x))] : Stt)) em.symm)) ss_nil)) ss_nil
            have lenF := bF.len
            have nn : n ≤ 1000 := by omega
            have l1 : (addP F (ep ties (t, 0))).length ≤ 2000 := by
              unfold addP
              split
              · rw [List.length_append, List.length_singleton]; omega
              · omega
            have two := forL_two (f := fun x st1 => (asg (.nm 8) x st1).bind fun st2 => evSs (tab W k) W (.cons (.ife (.and_ (.cmp .nin (.var 8) (.var 5)) (.cmp .nin (.var 8) (.var 2))) (.cons (.app 5 (.var 8)) (.nil)) (.nil)) (.nil)) st2) (point F (ep ties (t, 0)) p fp (by omega)) (point (addP F (ep ties (t, 0))) (ep ties (t, 1)) (some (.val (nI (ep ties (t, 0))))) (fr_val _) l1)
            rw [addP_two (List.getElem_mem la) hz] at two
            exact ss_nx (s_if true (t_of c3) (ss_nx (s_for (xs := [nI (ep ties (t, 0)), nI (ep ties (t, 1))]) (lk := none) (i_seq (op := .d (encH ties[t])) (tie F p) (by rw [tt]; rfl)) two rfl) ss_nil)) ss_nil) (o0 := o) (p0 := p) fo fp
      refine ⟨F', o', p', ss_nx (s_for (i_nat (n := ties.length) (n_d (len_ties .none rfl)) (by omega)) e rfl) (ss_nx (s_set (op := .d (nI (a + 1))) (st1 := S F' a o' p') (st2 := S F' (a + 1) o' p') (e_bin (x := nI a) (y := .int 1) rfl rfl rfl rfl rfl) rfl) ss_nil), fo', fp', b', d', le⟩) (o0 := none) (p0 := none) fr_none fr_none (W := W) (by omega)
  -- all points are there
  have all : ∀ x, x < n → x ∈ F := by
    intro x
    induction x with
    | zero => intro _; exact b.last
    | succ x ih =>
      intro h
      obtain ⟨i, hi, ei⟩ := List.getElem_of_mem (ih (by omega))
      have r := ring x (by omega)
      have e0 : ep ties (x, 0) = x := by unfold ep; rw [r]; rfl
      have e1 : ep ties (x, 1) = x + 1 := by unfold ep; rw [r]; exact Nat.mod_eq_of_lt h
      have := (dn i hi hi x (by omega) (by simp) (.inl (by rw [e0]; exact ei))).2
      rwa [e1] at this
  have mem : ∀ x, x ∈ F ↔ x < n := fun x => ⟨b.lt x, all x⟩
  have lenF : F.length = n := by
    have l1 := b.len
    have l2 := pig (List.nodup_range (n := n)) (s := F) fun x hx => all x (List.mem_range.mp hx)
    rw [List.length_range] at l2
    omega
  obtain ⟨P, perm, es⟩ := sort_nats F (by omega)
  refine ⟨P, by rw [perm.length_eq, lenF], fun x => by rw [perm.mem_iff, mem], ?_⟩
  -- the first point
  let T : List D → Option SV → Option SV → Option SV → Option SV → Option SV → Stt := fun fd o4 o5 o6 o7 o8 => [some (.val (encW n ties)), some (.val (.list [])), some (.val (.list [])), some (.own (.list fd)), o4, o5, o6, o7, o8]
  let body : Css := .cons (.ife (.or_ (.cmp .in_ (.var 4) (.var 2)) (.b1 .any (.comp [5] (.nm 5) (.seq (.var 3)) (.no) (.cmp .in_ (.var 4) (.var 5))))) (.cons (.cnt) (.nil)) (.nil)) (.cons (.set 5 (.lst (.cons (.var 4) (.nil)))) (.cons (.set 6 (.con (.int 0))) (.cons (.whl (.cmp .lt (.var 6) (.b1 .len (.var 5))) (.cons (.for_ (.nm 7) (.rng (.b1 .len (.ix (.var 0) (.con (.int 2))))) (.cons (.ife (.and_ (.cmp .nin (.var 7) (.var 1)) (.cmp .in_ (.ix (.var 5) (.var 6)) (.ix (.ix (.var 0) (.con (.int 2))) (.var 7)))) (.cons (.for_ (.nm 8) (.seq (.ix (.ix (.var 0) (.con (.int 2))) (.var 7))) (.cons (.ife (.and_ (.cmp .nin (.var 8) (.var 5)) (.cmp .nin (.var 8) (.var 2))) (.cons (.app 5 (.var 8)) (.nil)) (.nil)) (.nil))) (.nil)) (.nil)) (.nil))) (.cons (.set 6 (.bin .add (.var 6) (.con (.int 1)))) (.nil)))) (.cons (.app 3 (.b1 .sorted (.var 5))) (.nil)))))
  have test : ∀ (x : Nat) (ps : List (List Nat)) (o5 o6 o7 o8 : Option SV), ps.length ≤ 1 → tst (evE (tab W k) (.or_ (.cmp .in_ (.var 4) (.var 2)) (.b1 .any (.comp [5] (.nm 5) (.seq (.var 3)) (.no) (.cmp .in_ (.var 4) (.var 5))))) (T (ps.map encL) (some (.val (nI x))) o5 o6 o7 o8)) = some (ps.any fun p => decide (x ∈ p), T (ps.map encL) (some (.val (nI x))) o5 o6 o7 o8) := fun x ps o5 o6 o7 o8 hp => by
    have d1 : tst (evE (tab W k) (.cmp .in_ (.var 4) (.var 2)) (T (ps.map encL) (some (.val (nI x))) o5 o6 o7 o8)) = some (decide (x ∈ ([] : List Nat)), T (ps.map encL) (some (.val (nI x))) o5 o6 o7 o8) := t_of (e_cmp (x := nI x) (y := encL []) rfl rfl rfl rfl (c_inL x []))
    have d2 : evE (tab W k) (.comp [5] (.nm 5) (.seq (.var 3)) (.no) (.cmp .in_ (.var 4) (.var 5))) (T (ps.map encL) (some (.val (nI x))) o5 o6 o7 o8) = some (.fr (.list (ps.map fun p => .bool (decide (x ∈ p)))), T (ps.map encL) (some (.val (nI x))) o5 o6 o7 o8) := by
      let L : Option SV → Stt := fun o5 => [some (.val (encW n ties)), some (.val (.list [])), some (.val (.list [])), some (.lck (.list (ps.map encL))), some (.val (nI x)), o5, o6, o7, o8]
      have := e_comp_typed (Φ := tab W k) (st := T (ps.map encL) (some (.val (nI x))) o5 o6 o7 o8) (st1 := L o5) (st3 := T (ps.map encL) (some (.val (nI x))) o5 o6 o7 o8) (own := [5]) (t := .nm 5) (it := .seq (.var 3)) (c := .no) (e := .cmp .in_ (.var 4) (.var 5)) (xs := ps) (lk := some (3, .own (.list (ps.map encL)))) encL (fun _ => true) (fun p => .bool (decide (x ∈ p))) (i_seq (op := .sl 3) rfl rfl) (by show _ ≤ 16777216; omega) (fun p _ => turn_no (st := L none) (st1 := L (some (.val (encL p)))) rfl (n_d (e_cmp (x := nI x) (y := encL p) rfl rfl rfl rfl (c_inL x p))) rfl) rfl
      rw [List.filter_eq_self.mpr fun _ _ => rfl] at this
      exact this
    have d3 : evE (tab W k) (.b1 .any (.comp [5] (.nm 5) (.seq (.var 3)) (.no) (.cmp .in_ (.var 4) (.var 5)))) (T (ps.map encL) (some (.val (nI x))) o5 o6 o7 o8) = some (.d (.bool (ps.any fun p => decide (x ∈ p))), T (ps.map encL) (some (.val (nI x))) o5 o6 o7 o8) := by
      refine e_b1 (x := .list (ps.map fun p => .bool (decide (x ∈ p)))) d2 rfl ?_
      have bl : boolsD (ps.map fun p => PyData.bool (decide (x ∈ p))) = some (ps.map fun p => decide (x ∈ p)) := by
        clear d2 d1 hp
        induction ps with
        | nil => rfl
        | cons p ps ih => rw [List.map_cons, List.map_cons, boolsD, ih]; rfl
      show (boolsD (ps.map fun p => PyData.bool (decide (x ∈ p)))).map (fun bs => Op.d (.bool (bs.any id))) = _
      rw [bl, Option.map_some, List.any_map]; rfl
    have := t_of (e_or d1 (fun _ => d3) (fun h => by simp at h))
    have en : decide (x ∈ ([] : List Nat)) = false := decide_eq_false (by simp)
    rw [en, Bool.false_or] at this
    exact this
  let I : Nat → Stt → Prop := fun i st => (i = 0 ∧ st = T [] none none none none none) ∨ (0 < i ∧ ∃ o4 o5 o6 o7 o8, Fr o4 ∧ st = T [encL P] o4 o5 o6 o7 o8)
  obtain ⟨st', el, q⟩ := forL_range (n := n) (st := T [] none none none none none) (f := fun x st1 => (asg (.nm 4) x st1).bind fun st2 => evSs (tab W k) W body st2) I
    (fun i hi st q => by
      rcases q with ⟨rfl, rfl⟩ | ⟨pos, o4, o5, o6, o7, o8, f4, rfl⟩
      · refine ⟨T [encL P] (some (.val (nI 0))) (some (.own (encL F))) (some (.val (nI a))) o p, .inl ?_, .inr ⟨Nat.succ_pos _, _, _, _, _, _, fr_val _, rfl⟩⟩
        rw [asg_nm (o := none) rfl fr_none, Option.bind_some]
        refine ss_nx (s_if false (test 0 [] none none none none (by decide)) ss_nil) ?_
        refine ss_nx (s_set (op := .fr (encL [0])) (st1 := T [] (some (.val (nI 0))) none none none none) (st2 := T [] (some (.val (nI 0))) (some (.own (encL [0]))) none none none) (e_lst (ds := [nI 0]) (es_cons (n_d rfl) es_nil) (show 1 ≤ 16777216 by decide)) rfl) ?_
        refine ss_nx (s_set (op := .d (nI 0)) (st2 := S [0] 0 none none) rfl rfl) ?_
        refine ss_nx (s_whl e) ?_
        exact ss_nx (s_app (xs := []) (d := encL P) (st1 := S F a o p) rfl (n_fr (e_b1 (x := encL F) rfl rfl es)) rfl (by show 0 < 16777216; decide) rfl) ss_nil
      · refine ⟨T [encL P] (some (.val (nI i))) o5 o6 o7 o8, .inr ?_, .inr ⟨Nat.succ_pos _, _, _, _, _, _, fr_val _, rfl⟩⟩
        rw [asg_nm (o := o4) rfl f4, Option.bind_some]
        have tr := test i [P] o5 o6 o7 o8 (Nat.le_refl _)
        have : ([P].any fun p => decide (i ∈ p)) = true := by
          rw [List.any_cons, decide_eq_true ((perm.mem_iff).mpr (all i hi))]; rfl
        rw [this] at tr
        exact ss_ct (s_if true tr (ss_ct (by rw [evS]; rfl)))) (.inl ⟨rfl, rfl⟩)
  rcases q with ⟨h, _⟩ | ⟨_, o4, o5, o6, o7, o8, _, rfl⟩
  · omega
  · rw [t__law_parts]
    refine run_rt (st := (T [encL P] o4 o5 o6 o7 o8).set 3 (some (.val (.list [encL P])))) (ss_nx (s_set (op := .fr (.list [])) (st2 := T [] none none none none none) rfl rfl) ?_)
    exact ss_nx (s_for (i_nat (n := n) (n_d (e_ix (x := encW n ties) (y := .int 1) rfl (n_d rfl) rfl rfl)) (by omega)) el rfl) (ss_rt (s_ret rfl))
theorem s_law_genus (M : Mp n ties.length (ep ties) turns) (n2 : 2 ≤ n) (nm : n ≤ ties.length) (ring : ∀ k, k < n → ties.getD k (0, 0) = (k, (k + 1) % n)) (hm : ties.length ≤ 1000) (hW : 5000 ≤ W) :
    tab W (k + 3) "_law_genus" [encW n ties, encT turns] = some (.int ((2 - (n : Int) + (ties.length : Int) - ((rimsW ties turns).length : Int)).fdiv 2), .none) := by
  have R := rimsW_ok M
  have hr := rows_le R
  obtain ⟨P, lP, mP, eP⟩ := s_law_parts (W := W) (k := k + 1) M n2 nm ring hm hW
  let S : D → Option SV → Option SV → Option SV → Stt := fun f o4 o5 o6 => [some (.val (encW n ties)), some (.val (encT turns)), some (.val (.list ((rimsW ties turns).map encR))), some (.val f), o4, o5, o6, none, none]
  have c5 : evE (tab W (k + 2)) (.comp [7] (.nm 7) (.rng (.b1 .len (.ix (.var 0) (.con (.int 2))))) (.so (.cmp .in_ (.ix (.ix (.ix (.var 0) (.con (.int 2))) (.var 7)) (.con (.int 0))) (.var 4))) (.var 7)) (S (.int 0) (some (.val (encL P))) none none) = some (.fr (encL (List.range ties.length)), S (.int 0) (some (.val (encL P))) none none) := by
    have := e_comp_typed (Φ := tab W (k + 2)) (st := S (.int 0) (some (.val (encL P))) none none) (st1 := S (.int 0) (some (.val (encL P))) none none) (st3 := S (.int 0) (some (.val (encL P))) none none) (own := [7]) (t := .nm 7) (it := .rng (.b1 .len (.ix (.var 0) (.con (.int 2))))) (c := .so (.cmp .in_ (.ix (.ix (.ix (.var 0) (.con (.int 2))) (.var 7)) (.con (.int 0))) (.var 4))) (e := .var 7) (xs := List.range ties.length) (lk := none)
      nI (fun _ => true) nI (i_nat (n := ties.length) (n_d (len_ties .none rfl)) (by omega)) (by rw [List.length_range]; show _ ≤ 16777216; omega) (fun t ht => by
        have ht := List.mem_range.mp ht
        have w0 : ep ties (t, 0) = (ties[t]).1 := by unfold ep; simp [ht]
        have lt : (ties[t]).1 < n := by rw [← w0]; exact M.en _ ⟨ht, Nat.zero_le _⟩
        have yes : decide ((ties[t]).1 ∈ P) = true := decide_eq_true ((mP _).mpr lt)
        have := turn_so (Φ := tab W (k + 2)) (st := S (.int 0) (some (.val (encL P))) none none) (own := [7]) (t := .nm 7) (x := nI t) (y := nI t) (k := .cmp .in_ (.ix (.ix (.ix (.var 0) (.con (.int 2))) (.var 7)) (.con (.int 0))) (.var 4)) (e := .var 7) (st1 := [some (.val (encW n ties)), some (.val (encT turns)), some (.val (.list ((rimsW ties turns).map encR))), some (.val (.int 0)), some (.val (encL P)), none, none, some (.val (nI t)), none]) (decide ((ties[t]).1 ∈ P)) rfl
          (t_of (e_cmp (x := nI (ties[t]).1) (y := encL P) (e_ix (x := encH ties[t]) (y := .int 0) (e_ix (x := .list (ties.map encH)) (y := nI t) (e_ix (x := encW n ties) (y := .int 2) rfl (n_d rfl) rfl rfl) (n_d rfl) rfl (ix_map ht)) (n_d rfl) rfl rfl) rfl rfl rfl (c_inL _ P))) (fun _ => n_d rfl) (fun _ => rfl) rfl
        rw [yes] at this
        exact this) rfl
    rw [List.filter_eq_self.mpr fun _ _ => rfl] at this
    exact this
  let o5 : Option SV := some (.own (encL (List.range ties.length)))
  have c6 : evE (tab W (k + 2)) (.comp [8] (.nm 8) (.seq (.var 2)) (.so (.cmp .in_ (.ix (.ix (.var 8) (.con (.int 0))) (.con (.int 0))) (.var 5))) (.var 8)) (S (.int 0) (some (.val (encL P))) o5 none) = some (.fr (.list ((rimsW ties turns).map encR)), S (.int 0) (some (.val (encL P))) o5 none) := by
    have := e_comp_typed (Φ := tab W (k + 2)) (st := S (.int 0) (some (.val (encL P))) o5 none) (st1 := S (.int 0) (some (.val (encL P))) o5 none) (st3 := S (.int 0) (some (.val (encL P))) o5 none) (own := [8]) (t := .nm 8) (it := .seq (.var 2)) (c := .so (.cmp .in_ (.ix (.ix (.var 8) (.con (.int 0))) (.con (.int 0))) (.var 5))) (e := .var 8) (xs := rimsW ties turns) (lk := none)
      encR (fun _ => true) encR (i_seq (op := .d (.list ((rimsW ties turns).map encR))) rfl rfl) (by show _ ≤ 16777216; omega) (fun row hrow => by
        obtain ⟨x, r, rfl, c⟩ := R.cyc row hrow
        have lt : x.1 < ties.length := (c.sub x (List.mem_cons_self ..)).1
        have yes : decide (x.1 ∈ List.range ties.length) = true := decide_eq_true (List.mem_range.mpr lt)
        have := turn_so (Φ := tab W (k + 2)) (st := S (.int 0) (some (.val (encL P))) o5 none) (own := [8]) (t := .nm 8) (x := encR (x :: r)) (y := encR (x :: r)) (k := .cmp .in_ (.ix (.ix (.var 8) (.con (.int 0))) (.con (.int 0))) (.var 5)) (e := .var 8) (st1 := [some (.val (encW n ties)), some (.val (encT turns)), some (.val (.list ((rimsW ties turns).map encR))), some (.val (.int 0)), some (.val (encL P)), o5, none, none, some (.val (encR (x :: r)))]) (decide (x.1 ∈ List.range ties.length)) rfl
          (t_of (e_cmp (x := nI x.1) (y := encL (List.range ties.length)) (e_ix (x := encH x) (y := .int 0) (e_ix (x := encR (x :: r)) (y := .int 0) rfl (n_d rfl) rfl (ix_list (k := 0) (ixN_nat (k := 0) (by simp)) rfl)) (n_d rfl) rfl rfl) rfl rfl rfl (c_inL _ _))) (fun _ => n_d rfl) (fun _ => rfl) rfl
        rw [yes] at this
        exact this) rfl
    rw [List.filter_eq_self.mpr fun _ _ => rfl] at this
    exact this
  have g0 : decide ((0 : Int) < (ties.length : Int)) = true := decide_eq_true (by omega)
  let v : Int := 2 - (n : Int) + (ties.length : Int) - ((rimsW ties turns).length : Int)
  let o6 : Option SV := some (.own (.list ((rimsW ties turns).map encR)))
  rw [t__law_genus]
  refine run_rt (st := S (.int (0 + v.fdiv 2)) (some (.val (encL P))) o5 o6) (ss_nx (s_set (op := .d (.list ((rimsW ties turns).map encR))) (st2 := [some (.val (encW n ties)), some (.val (encT turns)), some (.val (.list ((rimsW ties turns).map encR))), none, none, none, none, none, none]) (e_call (z := (_, .none)) (es_cons (n_d rfl) (es_cons (n_d rfl) es_nil)) (s_law_rims M hm hW)) rfl) ?_)
  refine ss_nx (s_set (op := .d (.int 0)) (st2 := S (.int 0) none none none) rfl rfl) ?_
  refine ss_nx (s_for (xs := [encL P]) (lk := none) (st2 := S (.int (0 + v.fdiv 2)) (some (.val (encL P))) o5 o6) (i_seq (op := .d (.list [encL P])) (e_call (z := (.list [encL P], .none)) (es_cons (n_d rfl) (es_cons (n_fr (e_lst es_nil (show 0 ≤ 16777216 by decide))) (es_cons (n_fr (e_lst es_nil (show 0 ≤ 16777216 by decide))) es_nil))) eP) rfl) ?_ rfl) ?_
  · have one : ∀ {f : D → Stt → Option (Fl × Stt)} {x : D} {st st1 : Stt}, f x st = some (.nx, st1) → forL f [x] st = some (.nx, st1) := fun {f x st st1} h => by rw [forL, h]; rfl
    refine one ?_
    rw [asg_nm (o := none) rfl fr_none, Option.bind_some]
    refine ss_nx (s_set (st2 := S (.int 0) (some (.val (encL P))) o5 none) c5 rfl) ?_
    have len5 : ∀ o6, evE (tab W (k + 2)) (.b1 .len (.var 5)) (S (.int 0) (some (.val (encL P))) o5 o6) = some (.d (.int (ties.length : Int)), S (.int 0) (some (.val (encL P))) o5 o6) := fun o6 => by
      refine e_b1 (x := encL (List.range ties.length)) rfl rfl ?_
      show some (Op.d (.int (((List.range ties.length).map nI).length : Int))) = _
      rw [List.length_map, List.length_range]
    refine ss_nx (s_if true (t_of (e_cmp (x := .int (ties.length : Int)) (y := .int 0) (len5 none) rfl rfl rfl (by rw [c_gti, g0]))) ?_) ss_nil
    refine ss_nx (s_set (st2 := S (.int 0) (some (.val (encL P))) o5 o6) c6 rfl) ?_
    refine ss_nx (s_set (op := .d (.int (0 + v.fdiv 2))) (st1 := S (.int 0) (some (.val (encL P))) o5 o6) (e_bin (x := .int 0) (y := .int (v.fdiv 2)) rfl (e_bin (x := .int v) (y := .int 2) (r := .d (.int (v.fdiv 2))) (e_bin (x := .int (2 - (n : Int) + (ties.length : Int))) (y := .int ((rimsW ties turns).length : Int)) (e_bin (x := .int (2 - (n : Int))) (y := .int (ties.length : Int)) (e_bin (x := .int 2) (y := .int (n : Int)) rfl (e_b1 (x := encL P) (r := .d (.int (n : Int))) rfl rfl ?_) rfl rfl rfl) (len5 _) rfl rfl rfl) (e_b1 (x := .list ((rimsW ties turns).map encR)) (r := .d (.int ((rimsW ties turns).length : Int))) rfl rfl ?_) rfl rfl rfl) rfl rfl rfl rfl) rfl rfl rfl) rfl) ss_nil
    · show some (Op.d (.int ((P.map nI).length : Int))) = _
      rw [List.length_map, lP]
    · show some (Op.d (.int (((rimsW ties turns).map encR).length : Int))) = _
      rw [List.length_map]
  · refine ss_rt (s_ret (n_d ?_))
    show some (Op.d (.int (0 + v.fdiv 2)), _) = _
    rw [Int.zero_add]
    rfl
end
end K95

set_option Elab.async false
set_option linter.all false
set_option maxRecDepth 100000
/-! K95Z: the webs that the law makes. -/
namespace K95
open PySem PD
def Ov (o : Option SV) (x : D) : Prop := o = some (.own x) ∨ o = some (.val x)
theorem Ov.fr {o : Option SV} {x : D} (h : Ov o x) : Fr o := by
  rcases h with rfl | rfl
  · exact fr_own x
  · exact fr_val x
theorem ov_var {Φ : Tab} {st : Stt} {i : Nat} {o : Option SV} {x : D} (h : st[i]? = some o) (ov : Ov o x) : ∃ op, evE Φ (.var i) st = some (op, st) ∧ fzO op = op ∧ rdO op st = some x ∧ nmk (evE Φ (.var i) st) = some (x, st.set i (some (.val x))) := by
  rcases ov with rfl | rfl
  · refine ⟨.sl i, by rw [evE, h], rfl, ?_, ?_⟩
    · show cont st i = _
      unfold cont; rw [h]; rfl
    · rw [evE, h]
      show fz (.sl i) st = _
      simp [fz, h]
  · refine ⟨.d x, by rw [evE, h], rfl, rfl, ?_⟩
    rw [evE, h]
    show some (x, st) = some (x, st.set i (some (.val x)))
    have : st.set i (some (.val x)) = st := by
      apply List.ext_getElem?
      intro j
      by_cases q : i = j
      · subst q
        rw [List.getElem?_set_self (List.getElem?_eq_some_iff.mp h).1, h]
      · rw [List.getElem?_set_ne q]
    rw [this]
section
variable {W k : Nat}
abbrev St (d : D) (n : Nat) (o2 o3 o4 o5 o6 o7 o8 o9 o10 o11 : Option SV) : Stt := [some (.par d), some (.val (nI n)), o2, o3, o4, o5, o6, o7, o8, o9, o10, o11]
def encTs (l : List (Nat × Nat)) : D := .list (l.map encH)
theorem ties_enc (n : Nat) : encTs (ties0 n) = .list ((List.range n).map fun i => .tuple [nI i, nI ((i + 1) % n)]) := by
  unfold encTs ties0
  rw [List.map_map]; rfl
theorem turns_enc (n : Nat) : encT (turns0 n) = .list ((List.range n).map fun i => .list [.tuple [nI i, nI 0], .tuple [nI ((i + n - 1) % n), nI 1]]) := by
  unfold encT turns0
  rw [List.map_map]; rfl
theorem mod_n {x n : Nat} (h : 0 < n) : binop .mod (.int (x : Int)) (nI n) = some (.d (nI (x % n))) := by
  show (if (n : Int) ≠ 0 then some (Op.d (.int ((x : Int).fmod n))) else none) = _
  rw [if_pos (by omega), Int.fmod_eq_emod_of_nonneg _ (by omega)]; rfl
theorem genus_zero {n m r r' : Nat} (hr : r + n = m + 2) (h : (2 - (n : Int) + ((m + 1 : Nat) : Int) - (r' : Int)).fdiv 2 = 0) : r ≤ r' ∧ r' ≤ r + 1 := by
  rw [Int.fdiv_eq_ediv_of_nonneg _ (by decide)] at h
  omega
abbrev bTwo : Css := .cons (.set 11 (.call "_law_laid" (.cons (.var 3) (.cons (.b1 .len (.var 2)) (.cons (.var 8) (.cons (.var 9) (.cons (.var 7) (.cons (.var 10) (.nil))))))))) (.cons (.ife (.cmp .eq (.call "_law_genus" (.cons (.var 5) (.cons (.var 11) (.nil)))) (.con (.int 0))) (.cons (.app 6 (.var 11)) (.nil)) (.nil)) (.nil))
abbrev bMore : Css := .cons (.par2 8 9 (.callM "_law_draw" 0 (.cons (.var 1) (.nil))) (.callM "_law_draw" 0 (.cons (.var 1) (.nil)))) (.cons (.set 5 (.tup (.cons (.con (.str "web")) (.cons (.var 1) (.cons (.bin .add (.var 2) (.lst (.cons (.tup (.cons (.var 8) (.cons (.var 9) (.nil)))) (.nil)))) (.nil)))))) (.cons (.set 6 (.lst (.nil))) (.cons (.for_ (.nm 7) (.seq (.ix (.var 3) (.var 8))) (.cons (.for_ (.nm 10) (.seq (.ix (.var 3) (.var 9))) bTwo) (.nil))) (.cons (.ife (.cmp .gt (.b1 .len (.var 6)) (.con (.int 0))) (.cons (.set 2 (.ix (.var 5) (.con (.int 2)))) (.cons (.set 3 (.ix (.var 6) (.callM "_law_draw" 0 (.cons (.b1 .len (.var 6)) (.nil))))) (.nil))) (.nil)) (.nil)))))
theorem Good.row_le {n : Nat} {ties : List (Nat × Nat)} {turns : List (List Hf)} (G : Good n ties turns) (p : Nat) : (rowAt turns p).length ≤ 2 * ties.length := by
  by_cases h : p < n
  · have := pig (G.M.nd p h) (s := halvesL ties.length) fun g hg => mem_halves.mpr ((G.M.row p h g).mp hg).1
    rwa [halves_len] at this
  · have : rowAt turns p = [] := by
      unfold rowAt
      rw [List.getD_eq_getElem?_getD, List.getElem?_eq_none (by rw [G.M.len]; omega)]; rfl
    rw [this]; exact Nat.zero_le _
theorem s_more {n i : Nat} {ties : List (Nat × Nat)} {turns : List (List Hf)} {d : D} {o2 o3 o4 o5 o6 o7 o8 o9 o10 o11 : Option SV} (hd : DrawOk d) (G : Good n ties turns) (hn : n ≤ 8) (hi : i < 9) (hl : ties.length ≤ n + i) (v2 : Ov o2 (encTs ties)) (v3 : Ov o3 (encT turns))
    (f5 : Fr o5) (f6 : Fr o6) (f7 : Fr o7) (f8 : Fr o8) (f9 : Fr o9) (f10 : Fr o10) (f11 : Fr o11) (hW : 5000 ≤ W) :
    ∃ d' ties' turns' o2' o3' o5' o6' o7' o8' o9' o10' o11', evSs (tab W (k + 3)) W bMore (St d n o2 o3 o4 o5 o6 o7 o8 o9 o10 o11) = some (.nx, St d' n o2' o3' o4 o5' o6' o7' o8' o9' o10' o11') ∧ DrawOk d' ∧ Good n ties' turns' ∧ ties'.length ≤ n + (i + 1) ∧ Ov o2' (encTs ties') ∧ Ov o3' (encT turns') ∧ Fr o5' ∧ Fr o6' ∧ Fr o7' ∧ Fr o8' ∧ Fr o9' ∧ Fr o10' ∧ Fr o11' := by
  have n2 := G.n2
  obtain ⟨a, d1, ea, an, hd1⟩ := s_law_draw (W := W) (k := k + 2) hd (l := n) (by omega) (by omega)
  obtain ⟨b, d2, eb, bn, hd2⟩ := s_law_draw (W := W) (k := k + 2) hd1 (l := n) (by omega) (by omega)
  let ties' := ties ++ [(a, b)]
  have len' : ties'.length = ties.length + 1 := by simp [ties']
  let o5' : Option SV := some (.val (encW n ties'))
  let U : List (List (List Hf)) → Option SV → Option SV → Option SV → Option SV → Stt := fun fine o3 o7 o10 o11 => St d2 n o2 o3 o4 o5' (some (.own (.list (fine.map encT)))) o7 (some (.val (nI a))) (some (.val (nI b))) o10 o11
  -- one pair of corners
  have pair : ∀ (fine : List (List (List Hf))) (o3 o10 o11 : Option SV) (one two : Hf), Ov o3 (encT turns) → Fr o10 → Fr o11 → one ∈ rowAt turns a → two ∈ rowAt turns b → fine.length ≤ 100000 → (∀ T ∈ fine, Good n ties' T) →
      ∃ fine', ((asg (.nm 10) (encH two) (U fine o3 (some (.val (encH one))) o10 o11)).bind fun st2 => evSs (tab W (k + 3)) W bTwo st2) = some (.nx, U fine' (some (.val (encT turns))) (some (.val (encH one))) (some (.val (encH two))) (some (.val (encT (lay turns ties.length a b one two))))) ∧ (∀ T ∈ fine', Good n ties' T) ∧ fine'.length ≤ fine.length + 1 := fun fine o3 o10 o11 one two v3 f10 f11 h1 h2 hf hg => by
    have y := G.lay an bn h1 h2
    have M' : Mp n ties'.length (ep ties') (lay turns ties.length a b one two) := by rw [len']; exact y.map
    have ring' : ∀ k, k < n → ties'.getD k (0, 0) = (k, (k + 1) % n) := fun k hk => by
      rw [List.getD_eq_getElem?_getD, List.getElem?_append_left (Nat.lt_of_lt_of_le hk G.nm), ← List.getD_eq_getElem?_getD]
      exact G.ring k hk
    have gen := s_law_genus (W := W) (k := k) M' n2 (by rw [len']; have := G.nm; omega) ring' (by rw [len']; omega) hW
    obtain ⟨p3, q1, q2, q3, q4⟩ := ov_var (Φ := tab W (k + 3)) (st := U fine o3 (some (.val (encH one))) (some (.val (encH two))) o11) (i := 3) rfl v3
    have lent : ∀ o3, evE (tab W (k + 3)) (.b1 .len (.var 2)) (U fine o3 (some (.val (encH one))) (some (.val (encH two))) o11) = some (.d (nI ties.length), U fine o3 (some (.val (encH one))) (some (.val (encH two))) o11) := fun o3 => by
      obtain ⟨p2, r1, r2, r3, _⟩ := ov_var (Φ := tab W (k + 3)) (st := U fine o3 (some (.val (encH one))) (some (.val (encH two))) o11) (i := 2) rfl v2
      refine e_b1 (x := encTs ties) r1 (by rw [r2]; exact r3) ?_
      show some (Op.d (.int ((ties.map encH).length : Int))) = _
      rw [List.length_map]; rfl
    have laid := s_law_laid (W := W) (k := k + 2) (turns := turns) (t := ties.length) (a := a) (b := b) (one := one) (two := two) (by rw [G.M.len]; exact an) (by rw [G.M.len]; exact bn) h1 h2 (by rw [G.M.len]; omega) (fun p => by have := G.row_le p; omega)
    rw [asg_nm (o := o10) rfl f10, Option.bind_some]
    have first : evS (tab W (k + 3)) W (.set 11 (.call "_law_laid" (.cons (.var 3) (.cons (.b1 .len (.var 2)) (.cons (.var 8) (.cons (.var 9) (.cons (.var 7) (.cons (.var 10) (.nil))))))))) (U fine o3 (some (.val (encH one))) (some (.val (encH two))) o11) = some (.nx, U fine (some (.val (encT turns))) (some (.val (encH one))) (some (.val (encH two))) (some (.val (encT (lay turns ties.length a b one two))))) :=
      s_set (op := .d (encT (lay turns ties.length a b one two))) (st1 := U fine (some (.val (encT turns))) (some (.val (encH one))) (some (.val (encH two))) o11) (e_call (z := (_, .none)) (es_cons q4 (es_cons (n_d (lent _)) (es_cons (n_d rfl) (es_cons (n_d rfl) (es_cons (n_d rfl) (es_cons (n_d rfl) es_nil)))))) laid) (put_ok (o := o11) rfl f11)
    have test := t_of (e_cmp (o := .eq) (a := .call "_law_genus" (.cons (.var 5) (.cons (.var 11) (.nil)))) (b := .con (.int 0)) (Φ := tab W (k + 3)) (st := U fine (some (.val (encT turns))) (some (.val (encH one))) (some (.val (encH two))) (some (.val (encT (lay turns ties.length a b one two))))) (e_call (z := (_, .none)) (es_cons (n_d rfl) (es_cons (n_d rfl) es_nil)) gen) rfl rfl rfl (c_eqi _ 0))
    cases hc : decide ((2 - (n : Int) + (ties'.length : Int) - ((rimsW ties' (lay turns ties.length a b one two)).length : Int)).fdiv 2 = 0) with
    | false =>
      rw [hc] at test
      exact ⟨fine, ss_nx first (ss_nx (s_if false test ss_nil) ss_nil), hg, Nat.le_succ _⟩
    | true =>
      rw [hc] at test
      have z := of_decide_eq_true hc
      rw [len'] at z
      obtain ⟨lo, hi⟩ := genus_zero G.cnt z
      have G' := G.step an bn h1 h2 lo hi
      have em : (fine ++ [lay turns ties.length a b one two]).map encT = fine.map encT ++ [encT (lay turns ties.length a b one two)] := List.map_append
      refine ⟨fine ++ [lay turns ties.length a b one two], ss_nx first (ss_nx (s_if true test (ss_nx (s_app (xs := fine.map encT) (d := encT (lay turns ties.length a b one two)) rfl (n_d rfl) rfl (by rw [List.length_map]; show _ < 16777216; omega) ?_) ss_nil)) ss_nil), fun T hT => ?_, by simp⟩
      · exact congrArg (fun l => some (St d2 n o2 (some (.val (encT turns))) o4 o5' (some (.own (.list l))) (some (.val (encH one))) (some (.val (nI a))) (some (.val (nI b))) (some (.val (encH two))) (some (.val (encT (lay turns ties.length a b one two)))))) em.symm
      · rcases List.mem_append.mp hT with h | h
        · exact hg T h
        · rw [List.mem_singleton.mp h]; exact G'
  have rowEv : ∀ (fine : List (List (List Hf))) (o3 o7 o10 o11 : Option SV) (s p : Nat), Ov o3 (encT turns) → p < n → (U fine o3 o7 o10 o11)[s]? = some (some (.val (nI p))) → evE (tab W (k + 3)) (.ix (.var 3) (.var s)) (U fine o3 o7 o10 o11) = some (.d (encR (rowAt turns p)), U fine o3 o7 o10 o11) := fun fine o3 o7 o10 o11 s p v3 hp hs => by
    obtain ⟨p3, q1, q2, q3, _⟩ := ov_var (Φ := tab W (k + 3)) (st := U fine o3 o7 o10 o11) (i := 3) rfl v3
    have hp' : p < turns.length := by rw [G.M.len]; exact hp
    have : rowAt turns p = turns[p] := by unfold rowAt; simp [hp']
    rw [this]
    exact e_ix (x := encT turns) (y := nI p) q1 (n_d (by rw [evE, hs])) (by rw [q2]; exact q3) (ix_map hp')
  have lena := G.row_le a
  have lenb := G.row_le b
  -- all pairs
  let I : Nat → Stt → Prop := fun j st => ∃ fine o3 o7 o10 o11, Ov o3 (encT turns) ∧ Fr o7 ∧ Fr o10 ∧ Fr o11 ∧ st = U fine o3 o7 o10 o11 ∧ (∀ T ∈ fine, Good n ties' T) ∧ fine.length ≤ j * 100
  obtain ⟨st', e1, fine, o3', o7', o10', o11', v3', f7', f10', f11', rfl, hg, hlen⟩ := forL_list (xs := rowAt turns a) (st := U [] o3 o7 o10 o11) (f := fun x st1 => (asg (.nm 7) x st1).bind fun st2 => evSs (tab W (k + 3)) W (.cons (.for_ (.nm 10) (.seq (.ix (.var 3) (.var 9))) bTwo) (.nil)) st2) encH I
    (fun j hj st ⟨fine, o3, o7, o10, o11, v3, f7, f10, f11, es, hg, hlen⟩ => by
      subst es
      let J : Nat → Stt → Prop := fun x st => ∃ fine o3 o10 o11, Ov o3 (encT turns) ∧ Fr o10 ∧ Fr o11 ∧ st = U fine o3 (some (.val (encH (rowAt turns a)[j]))) o10 o11 ∧ (∀ T ∈ fine, Good n ties' T) ∧ fine.length ≤ j * 100 + x
      obtain ⟨st2, e2, fine2, o3', o10', o11', v3', f10', f11', rfl, hg2, hl2⟩ := forL_list (xs := rowAt turns b) (st := U fine o3 (some (.val (encH (rowAt turns a)[j]))) o10 o11) (f := fun x st1 => (asg (.nm 10) x st1).bind fun st2 => evSs (tab W (k + 3)) W bTwo st2) encH J
        (fun x hx st ⟨fine, o3, o10, o11, v3, f10, f11, es, hg, hlen⟩ => by
          subst es
          obtain ⟨fine', e, hg', hl'⟩ := pair fine o3 o10 o11 (rowAt turns a)[j] (rowAt turns b)[x] v3 f10 f11 (List.getElem_mem hj) (List.getElem_mem hx) (by omega) hg
          exact ⟨_, .inl e, fine', _, _, _, .inr rfl, fr_val _, fr_val _, rfl, hg', by omega⟩) ⟨fine, o3, o10, o11, v3, f10, f11, rfl, hg, by omega⟩
      refine ⟨_, .inl (by
        rw [asg_nm (o := o7) rfl f7, Option.bind_some]
        exact ss_nx (s_for (xs := (rowAt turns b).map encH) (lk := none) (i_seq (op := .d (encR (rowAt turns b))) (rowEv fine o3 (some (.val (encH (rowAt turns a)[j]))) o10 o11 9 b v3 bn rfl) rfl) e2 rfl) ss_nil), fine2, o3', _, o10', o11', v3', fr_val _, f10', f11', rfl, hg2, by omega⟩) ⟨[], o3, o7, o10, o11, v3, f7, f10, f11, rfl, fun T h => (List.not_mem_nil h).elim, Nat.zero_le _⟩
  -- the statements ahead
  have call1 : nmk (evE (tab W (k + 3)) (.callM "_law_draw" 0 (.cons (.var 1) (.nil))) (St d n o2 o3 o4 o5 o6 o7 o8 o9 o10 o11)) = some (nI a, St d1 n o2 o3 o4 o5 o6 o7 o8 o9 o10 o11) := n_d (e_callM (z := (nI a, d1)) rfl (es_cons (n_d rfl) es_nil) rfl ea rfl)
  have call2 : nmk (evE (tab W (k + 3)) (.callM "_law_draw" 0 (.cons (.var 1) (.nil))) (St d1 n o2 o3 o4 o5 o6 o7 o8 o9 o10 o11)) = some (nI b, St d2 n o2 o3 o4 o5 o6 o7 o8 o9 o10 o11) := n_d (e_callM (z := (nI b, d2)) rfl (es_cons (n_d rfl) es_nil) rfl eb rfl)
  have s1 : evS (tab W (k + 3)) W (.par2 8 9 (.callM "_law_draw" 0 (.cons (.var 1) (.nil))) (.callM "_law_draw" 0 (.cons (.var 1) (.nil)))) (St d n o2 o3 o4 o5 o6 o7 o8 o9 o10 o11) = some (.nx, St d2 n o2 o3 o4 o5 o6 o7 (some (.val (nI a))) (some (.val (nI b))) o10 o11) :=
    s_par (st3 := St d2 n o2 o3 o4 o5 o6 o7 (some (.val (nI a))) o9 o10 o11) call1 call2 (put_ok (o := o8) rfl f8) (put_ok (o := o9) rfl f9)
  have s2 : evS (tab W (k + 3)) W (.set 5 (.tup (.cons (.con (.str "web")) (.cons (.var 1) (.cons (.bin .add (.var 2) (.lst (.cons (.tup (.cons (.var 8) (.cons (.var 9) (.nil)))) (.nil)))) (.nil)))))) (St d2 n o2 o3 o4 o5 o6 o7 (some (.val (nI a))) (some (.val (nI b))) o10 o11) = some (.nx, St d2 n o2 o3 o4 o5' o6 o7 (some (.val (nI a))) (some (.val (nI b))) o10 o11) := by
    obtain ⟨p2, r1, r2, r3, _⟩ := ov_var (Φ := tab W (k + 3)) (st := St d2 n o2 o3 o4 o5 o6 o7 (some (.val (nI a))) (some (.val (nI b))) o10 o11) (i := 2) rfl v2
    refine s_set (op := .d (encW n ties')) (e_tup (ds := [.str "web", nI n, encTs ties']) (es_cons (n_d rfl) (es_cons (n_d rfl) (es_cons (n_fr (e_bin (x := encTs ties) (y := .list [encH (a, b)]) r1 (e_lst (es_cons (n_d (e_tup (ds := [nI a, nI b]) (es_cons (n_d rfl) (es_cons (n_d rfl) es_nil)) (show 2 ≤ 16777216 by decide))) es_nil) (show 1 ≤ 16777216 by decide)) (by rw [r2]; exact r3) rfl ?_)) es_nil))) (show 3 ≤ 16777216 by decide)) (put_ok (o := o5) rfl f5)
    show (if (ties.map encH).length + 1 ≤ sizeLine then some (Op.fr (.list (ties.map encH ++ [encH (a, b)]))) else none) = _
    rw [List.length_map, if_pos (show ties.length + 1 ≤ sizeLine from (by show _ ≤ 16777216; omega))]
    have : encTs ties' = .list (ties.map encH ++ [encH (a, b)]) := by show PyData.list ((ties ++ [(a, b)]).map encH) = _; rw [List.map_append]; rfl
    rw [this]
  have s3 : evS (tab W (k + 3)) W (.set 6 (.lst (.nil))) (St d2 n o2 o3 o4 o5' o6 o7 (some (.val (nI a))) (some (.val (nI b))) o10 o11) = some (.nx, U [] o3 o7 o10 o11) := s_set (op := .fr (.list [])) (e_lst es_nil (show 0 ≤ 16777216 by decide)) (put_ok (o := o6) rfl f6)
  have s4 : evS (tab W (k + 3)) W (.for_ (.nm 7) (.seq (.ix (.var 3) (.var 8))) (.cons (.for_ (.nm 10) (.seq (.ix (.var 3) (.var 9))) bTwo) (.nil))) (U [] o3 o7 o10 o11) = some (.nx, U fine o3' o7' o10' o11') := s_for (xs := (rowAt turns a).map encH) (lk := none) (i_seq (op := .d (encR (rowAt turns a))) (rowEv [] o3 o7 o10 o11 8 a v3 an rfl) rfl) e1 rfl
  have lenf : ∀ d o2, evE (tab W (k + 3)) (.b1 .len (.var 6)) (St d n o2 o3' o4 o5' (some (.own (.list (fine.map encT)))) o7' (some (.val (nI a))) (some (.val (nI b))) o10' o11') = some (.d (nI fine.length), St d n o2 o3' o4 o5' (some (.own (.list (fine.map encT)))) o7' (some (.val (nI a))) (some (.val (nI b))) o10' o11') := fun d o2 => by
    refine e_b1 (x := .list (fine.map encT)) rfl rfl ?_
    show some (Op.d (.int ((fine.map encT).length : Int))) = _
    rw [List.length_map]; rfl
  have t5 := t_of (e_cmp (o := .gt) (a := .b1 .len (.var 6)) (b := .con (.int 0)) (lenf d2 o2) rfl rfl rfl (c_gti _ 0))
  by_cases q : 0 < fine.length
  · have c1 : decide ((0 : Int) < (fine.length : Int)) = true := decide_eq_true (by omega)
    rw [c1] at t5
    obtain ⟨c, d3, ec, cn, hd3⟩ := s_law_draw (W := W) (k := k + 2) hd2 (l := fine.length) q (by omega)
    let X : D → Option SV → Stt := fun d o3 => St d n (some (.val (encTs ties'))) o3 o4 o5' (some (.own (.list (fine.map encT)))) o7' (some (.val (nI a))) (some (.val (nI b))) o10' o11'
    have callc : nmk (evE (tab W (k + 3)) (.callM "_law_draw" 0 (.cons (.b1 .len (.var 6)) (.nil))) (X d2 o3')) = some (nI c, X d3 o3') := n_d (e_callM (z := (nI c, d3)) rfl (es_cons (n_d (lenf d2 _)) es_nil) rfl ec rfl)
    have s6 : evS (tab W (k + 3)) W (.set 2 (.ix (.var 5) (.con (.int 2)))) (U fine o3' o7' o10' o11') = some (.nx, X d2 o3') := s_set (op := .d (encTs ties')) (e_ix (x := encW n ties') (y := .int 2) rfl (n_d rfl) rfl rfl) (put_ok (o := o2) rfl v2.fr)
    have s7 : evS (tab W (k + 3)) W (.set 3 (.ix (.var 6) (.callM "_law_draw" 0 (.cons (.b1 .len (.var 6)) (.nil))))) (X d2 o3') = some (.nx, X d3 (some (.val (encT fine[c])))) := s_set (op := .d (encT fine[c])) (e_ix (x := .list (fine.map encT)) (y := nI c) rfl callc rfl (ix_map cn)) (put_ok (o := o3') rfl v3'.fr)
    exact ⟨d3, ties', fine[c], _, _, o5', _, o7', _, _, o10', o11', ss_nx s1 (ss_nx s2 (ss_nx s3 (ss_nx s4 (ss_nx (s_if true t5 (ss_nx s6 (ss_nx s7 ss_nil))) ss_nil)))), hd3, hg _ (List.getElem_mem cn), by rw [len']; omega, .inr rfl, .inr rfl, fr_val _, fr_own _, f7', fr_val _, fr_val _, f10', f11'⟩
  · have c1 : decide ((0 : Int) < (fine.length : Int)) = false := decide_eq_false (by omega)
    rw [c1] at t5
    exact ⟨d2, ties, turns, o2, o3', o5', _, o7', _, _, o10', o11', ss_nx s1 (ss_nx s2 (ss_nx s3 (ss_nx s4 (ss_nx (s_if false t5 ss_nil) ss_nil)))), hd2, G, by omega, v2, v3', fr_val _, fr_own _, f7', fr_val _, fr_val _, f10', f11'⟩
end
end K95

set_option Elab.async false
set_option linter.all false
set_option maxRecDepth 100000
/-! K95ZA: ringed. -/
namespace K95
open PySem PD
section
variable {W k : Nat}
theorem s_law_ringed {d : D} (hd : DrawOk d) (hW : 5000 ≤ W) : ∃ n ties turns d', Good n ties turns ∧ n ≤ 8 ∧ ties.length ≤ 17 ∧ DrawOk d' ∧ tab W (k + 4) "_law_ringed" [d] = some (.tuple [encW n ties, encT turns, encL (List.range n)], d') := by
  obtain ⟨c, d1, ec, cn, hd1⟩ := s_law_draw (W := W) (k := k + 2) hd (l := 7) (by decide) (by decide)
  obtain ⟨q, d2, eq, qn, hd2⟩ := s_law_draw (W := W) (k := k + 2) hd1 (l := 9) (by decide) (by decide)
  generalize hn : 2 + c = n
  have n2 : 2 ≤ n := by omega
  have n8 : n ≤ 8 := by omega
  have G0 := good0 n2
  let E2 : Option SV := some (.own (encTs (ties0 n)))
  let E3 : Option SV := some (.own (encT (turns0 n)))
  have s1 : evS (tab W (k + 3)) W (.set 1 (.bin .add (.con (.int 2)) (.callM "_law_draw" 0 (.cons (.con (.int 7)) (.nil))))) [some (.par d), none, none, none, none, none, none, none, none, none, none, none] = some (.nx, St d1 n none none none none none none none none none none) := by
    refine s_set (op := .d (nI n)) (st1 := [some (.par d1), none, none, none, none, none, none, none, none, none, none, none]) (e_bin (x := .int 2) (y := nI c) rfl (e_callM (z := (nI c, d1)) rfl (es_cons (n_d rfl) es_nil) rfl ec rfl) rfl rfl ?_) rfl
    rw [← hn]; rfl
  have s2 : evS (tab W (k + 3)) W (.set 2 (.comp [4] (.nm 4) (.rng (.var 1)) (.no) (.tup (.cons (.var 4) (.cons (.bin .mod (.b1 .int (.bin .add (.var 4) (.con (.int 1)))) (.var 1)) (.nil)))))) (St d1 n none none none none none none none none none none) = some (.nx, St d1 n E2 none none none none none none none none none) := by
    have := e_comp_typed (Φ := tab W (k + 3)) (st := St d1 n none none none none none none none none none none) (st1 := St d1 n none none none none none none none none none none) (st3 := St d1 n none none none none none none none none none none) (own := [4]) (t := .nm 4) (it := .rng (.var 1)) (c := .no) (e := .tup (.cons (.var 4) (.cons (.bin .mod (.b1 .int (.bin .add (.var 4) (.con (.int 1)))) (.var 1)) (.nil)))) (xs := List.range n) (lk := none)
      nI (fun _ => true) (fun i => .tuple [nI i, nI ((i + 1) % n)]) (i_nat (n := n) (n_d rfl) (by omega)) (by rw [List.length_range]; show _ ≤ 16777216; omega) (fun i _ => turn_no (st1 := St d1 n none none (some (.val (nI i))) none none none none none none none) rfl
        (n_d (e_tup (ds := [nI i, nI ((i + 1) % n)]) (es_cons (n_d rfl) (es_cons (n_d (e_bin (x := .int ((i + 1 : Nat) : Int)) (y := nI n) (e_b1 (x := .int ((i + 1 : Nat) : Int)) (e_bin (x := nI i) (y := .int 1) rfl rfl rfl rfl rfl) rfl rfl) rfl rfl rfl (mod_n (by omega)))) es_nil)) (show 2 ≤ 16777216 by decide))) rfl) rfl
    rw [List.filter_eq_self.mpr fun _ _ => rfl, ← ties_enc] at this
    exact s_set this rfl
  have s3 : evS (tab W (k + 3)) W (.set 3 (.comp [4] (.nm 4) (.rng (.var 1)) (.no) (.lst (.cons (.tup (.cons (.var 4) (.cons (.con (.int 0)) (.nil)))) (.cons (.tup (.cons (.bin .mod (.b1 .int (.bin .sub (.bin .add (.var 4) (.var 1)) (.con (.int 1)))) (.var 1)) (.cons (.con (.int 1)) (.nil)))) (.nil)))))) (St d1 n E2 none none none none none none none none none) = some (.nx, St d1 n E2 E3 none none none none none none none none) := by
    have := e_comp_typed (Φ := tab W (k + 3)) (st := St d1 n E2 none none none none none none none none none) (st1 := St d1 n E2 none none none none none none none none none) (st3 := St d1 n E2 none none none none none none none none none) (own := [4]) (t := .nm 4) (it := .rng (.var 1)) (c := .no) (e := .lst (.cons (.tup (.cons (.var 4) (.cons (.con (.int 0)) (.nil)))) (.cons (.tup (.cons (.bin .mod (.b1 .int (.bin .sub (.bin .add (.var 4) (.var 1)) (.con (.int 1)))) (.var 1)) (.cons (.con (.int 1)) (.nil)))) (.nil)))) (xs := List.range n) (lk := none)
      nI (fun _ => true) (fun i => .list [.tuple [nI i, nI 0], .tuple [nI ((i + n - 1) % n), nI 1]]) (i_nat (n := n) (n_d rfl) (by omega)) (by rw [List.length_range]; show _ ≤ 16777216; omega) (fun i _ => by
        have e : (i : Int) + (n : Int) - 1 = ((i + n - 1 : Nat) : Int) := by omega
        refine turn_no (st1 := St d1 n E2 none (some (.val (nI i))) none none none none none none none) rfl (n_fr (e_lst (ds := [.tuple [nI i, nI 0], .tuple [nI ((i + n - 1) % n), nI 1]]) (es_cons (n_d (e_tup (ds := [nI i, nI 0]) (es_cons (n_d rfl) (es_cons (n_d rfl) es_nil)) (show 2 ≤ 16777216 by decide))) (es_cons (n_d (e_tup (ds := [nI ((i + n - 1) % n), nI 1]) (es_cons (n_d (e_bin (x := .int ((i + n - 1 : Nat) : Int)) (y := nI n) (e_b1 (x := .int ((i + n - 1 : Nat) : Int)) (e_bin (r := .d (.int ((i + n - 1 : Nat) : Int))) (x := .int ((i : Int) + (n : Int))) (y := .int 1) (e_bin (x := nI i) (y := nI n) rfl rfl rfl rfl rfl) rfl rfl rfl ?_) rfl rfl) rfl rfl rfl (mod_n (by omega)))) (es_cons (n_d rfl) es_nil)) (show 2 ≤ 16777216 by decide))) es_nil)) (show 2 ≤ 16777216 by decide))) rfl
        show some (Op.d (.int ((i : Int) + (n : Int) - 1))) = _
        rw [e]) rfl
    rw [List.filter_eq_self.mpr fun _ _ => rfl, ← turns_enc] at this
    exact s_set this rfl
  let I : Nat → Stt → Prop := fun i st => ∃ d ties turns o2 o3 o4 o5 o6 o7 o8 o9 o10 o11, st = St d n o2 o3 o4 o5 o6 o7 o8 o9 o10 o11 ∧ DrawOk d ∧ Good n ties turns ∧ ties.length ≤ n + i ∧ Ov o2 (encTs ties) ∧ Ov o3 (encT turns) ∧ Fr o4 ∧ Fr o5 ∧ Fr o6 ∧ Fr o7 ∧ Fr o8 ∧ Fr o9 ∧ Fr o10 ∧ Fr o11
  obtain ⟨st', e4, d', ties, turns, o2, o3, o4, o5, o6, o7, o8, o9, o10, o11, rfl, hd', G, hl, v2, v3, f4, _⟩ := forL_range (n := q) (st := St d2 n E2 E3 none none none none none none none none) (f := fun x st1 => (asg (.nm 4) x st1).bind fun st2 => evSs (tab W (k + 3)) W bMore st2) I
    (fun i hi st ⟨d, ties, turns, o2, o3, o4, o5, o6, o7, o8, o9, o10, o11, es, hd, G, hl, v2, v3, f4, f5, f6, f7, f8, f9, f10, f11⟩ => by
      subst es
      obtain ⟨d', ties', turns', o2', o3', o5', o6', o7', o8', o9', o10', o11', e, hd', G', hl', v2', v3', g5, g6, g7, g8, g9, g10, g11⟩ := s_more (W := W) (k := k) (o4 := some (.val (.int (i : Int)))) hd G n8 (by omega) hl v2 v3 f5 f6 f7 f8 f9 f10 f11 hW
      refine ⟨_, .inl ?_, d', ties', turns', o2', o3', _, o5', o6', o7', o8', o9', o10', o11', rfl, hd', G', hl', v2', v3', fr_val (.int (i : Int)), g5, g6, g7, g8, g9, g10, g11⟩
      rw [asg_nm (o := o4) rfl f4, Option.bind_some]
      exact e) ⟨d2, ties0 n, turns0 n, E2, E3, none, none, none, none, none, none, none, none, rfl, hd2, G0, by rw [ties0_len]; omega, .inl rfl, .inl rfl, fr_none, fr_none, fr_none, fr_none, fr_none, fr_none, fr_none, fr_none⟩
  have s4 := s_for (Φ := tab W (k + 3)) (W := W) (t := .nm 4) (it := .rng (.callM "_law_draw" 0 (.cons (.con (.int 9)) (.nil)))) (b := bMore) (st := St d1 n E2 E3 none none none none none none none none) (lk := none) (i_nat (n := q) (n_d (e_callM (z := (nI q, d2)) rfl (es_cons (n_d rfl) es_nil) rfl eq rfl)) (by omega)) e4 rfl
  obtain ⟨p2, r1, r2, r3, r4⟩ := ov_var (Φ := tab W (k + 3)) (st := St d' n o2 o3 o4 o5 o6 o7 o8 o9 o10 o11) (i := 2) rfl v2
  let V : Stt := St d' n (some (.val (encTs ties))) o3 o4 o5 o6 o7 o8 o9 o10 o11
  let V' : Stt := St d' n (some (.val (encTs ties))) (some (.val (encT turns))) o4 o5 o6 o7 o8 o9 o10 o11
  obtain ⟨p3, u1, u2, u3, u4⟩ := ov_var (Φ := tab W (k + 3)) (st := V) (i := 3) rfl v3
  have s5 : evE (tab W (k + 3)) (.comp [4] (.nm 4) (.rng (.var 1)) (.no) (.var 4)) V' = some (.fr (encL (List.range n)), V') := by
    have := e_comp_typed (Φ := tab W (k + 3)) (st := V') (st1 := V') (st3 := V') (own := [4]) (t := .nm 4) (it := .rng (.var 1)) (c := .no) (e := .var 4) (xs := List.range n) (lk := none)
      nI (fun _ => true) nI (i_nat (n := n) (n_d rfl) (by omega)) (by rw [List.length_range]; show _ ≤ 16777216; omega) (fun i _ => turn_no (st1 := St d' n (some (.val (encTs ties))) (some (.val (encT turns))) (some (.val (nI i))) o5 o6 o7 o8 o9 o10 o11) rfl (n_d rfl) rfl) rfl
    rw [List.filter_eq_self.mpr fun _ _ => rfl] at this
    exact this
  refine ⟨n, ties, turns, d', G, n8, by omega, hd', ?_⟩
  rw [t__law_ringed]
  exact run_rt (st := V') (ss_nx s1 (ss_nx s2 (ss_nx s3 (ss_nx s4 (ss_rt (s_ret (n_d (e_tup (ds := [encW n ties, encT turns, encL (List.range n)]) (es_cons (n_d (e_tup (ds := [.str "web", nI n, encTs ties]) (es_cons (n_d rfl) (es_cons (n_d rfl) (es_cons r4 es_nil))) (show 3 ≤ 16777216 by decide))) (es_cons u4 (es_cons (n_fr s5) es_nil))) (show 3 ≤ 16777216 by decide)))))))))
/-! ### shorter rings -/
def lo2 (p : Nat × Nat) : Nat := min p.1 p.2
def hi2 (p : Nat × Nat) : Nat := max p.1 p.2
def shortR (ties : List (Nat × Nat)) (t : Nat) : List Nat := (List.range (hi2 (ties.getD t (0, 0)) - lo2 (ties.getD t (0, 0)))).map (fun i => lo2 (ties.getD t (0, 0)) + i) ++ [t]
theorem sort_two (x y : Nat) : b1op .sorted (encH (x, y)) = some (.fr (encL [min x y, max x y])) := by
  show Option.bind (isSeq (encH (x, y))) (fun xs => if (allAlike xs && sortable xs && depthOk xs && decide (xs.length ≤ sizeLine)) = true then some (Op.fr (.list (sortD xs))) else none) = _
  have e0 : isSeq (encH (x, y)) = some [nI x, nI y] := rfl
  rw [e0, Option.bind_some]
  have al : ∀ a b : Nat, PySem.W.alike (nI a) (nI b) = true := fun a b => by unfold nI; rw [PySem.W.alike]
  have a1 : allAlike [nI x, nI y] = true := by unfold allAlike; simp [al]
  have a3 : depthOk [nI x, nI y] = true := by
    unfold depthOk
    simp [(sh_n x).ok (by decide), (sh_n y).ok (by decide)]
  have a4 : decide ([nI x, nI y].length ≤ sizeLine) = true := decide_eq_true (show 2 ≤ 16777216 by decide)
  have a2 : sortable [nI x, nI y] = true := rfl
  rw [a1, a2, a3, a4]
  show some (Op.fr (.list (sortD [nI x, nI y]))) = _
  have le : ∀ a b : Nat, PySem.W.dataLe false id (nI a) (nI b) = decide (a ≤ b) := fun a b => by
    show (!PySem.W.dataLt (nI b) (nI a)) = _
    unfold nI
    rw [PySem.W.dataLt_int]
    by_cases h : a ≤ b
    · rw [decide_eq_true h, decide_eq_false (by omega)]; rfl
    · rw [decide_eq_false h, decide_eq_true (by omega)]; rfl
  by_cases h : x ≤ y
  · have : sortD [nI x, nI y] = [nI x, nI y] := List.mergeSort_of_pairwise (by simp [le, h])
    rw [this, Nat.min_eq_left h, Nat.max_eq_right h]; rfl
  · have this : sortD [nI x, nI y] = [nI y, nI x] := by
      simp [sortD, List.mergeSort, List.MergeSort.Internal.splitInTwo, List.merge, le, h]
    rw [this, Nat.min_eq_right (by omega), Nat.max_eq_left (by omega)]; rfl
end
end K95

set_option Elab.async false
set_option linter.all false
set_option maxRecDepth 100000
/-! K95ZB: shorter; copies; the room rule. -/
namespace K95
open PySem PD
section
variable {W k n : Nat} {ties : List (Nat × Nat)} {turns : List (List Hf)}
theorem i_rngZ {Φ : Tab} {st st1 st2 : Stt} {a b : Ce} {i j : Int} (h : nmk (evE Φ a st) = some (.int i, st1)) (h2 : nmk (evE Φ b st1) = some (.int j, st2)) (hn : -(2 ^ 62) ≤ i ∧ i < 2 ^ 62 ∧ -(2 ^ 62) ≤ j ∧ j < 2 ^ 62) : evI Φ (.rng2 a b) st = some ((List.range (j - i).toNat).map (fun (q : Nat) => PyData.int (i + (q : Int))), none, st2) := by
  rw [evI, h, Option.bind_some, h2, Option.bind_some]
  simp only [intOf, Option.bind_some]
  rw [if_pos hn]
theorem shift_n (x y : Nat) : (List.range ((y : Int) - (x : Int)).toNat).map (fun (q : Nat) => PyData.int ((x : Int) + (q : Int))) = (List.range (y - x)).map (fun i => nI (x + i)) := by
  have e : ((y : Int) - (x : Int)).toNat = y - x := by omega
  rw [e]
  apply List.map_congr_left
  intro i _
  exact congrArg PyData.int (Int.natCast_add x i).symm
theorem i_rng2 {Φ : Tab} {st st1 st2 : Stt} {a b : Ce} {x y : Nat} (h : nmk (evE Φ a st) = some (nI x, st1)) (h2 : nmk (evE Φ b st1) = some (nI y, st2)) (hx : x < 100000) (hy : y < 100000) : evI Φ (.rng2 a b) st = some ((List.range (y - x)).map (fun i => nI (x + i)), none, st2) := by
  rw [← shift_n]
  exact i_rngZ h h2 (by omega)
theorem s_law_shorter (hm : ties.length ≤ 1000) (hb : ∀ p ∈ ties, p.1 ≤ 1000 ∧ p.2 ≤ 1000) (hnm : n ≤ ties.length) : tab W (k + 1) "_law_shorter" [encW n ties, encL (List.range n)] = some (.list ((List.range (ties.length - n)).map fun i => encL (shortR ties (n + i))), .none) := by
  let S : List (List Nat) → Option SV → Option SV → Option SV → Stt := fun l o3 o4 o5 => [some (.val (encW n ties)), some (.val (encL (List.range n))), some (.own (.list (l.map encL))), o3, o4, o5, none]
  let I : Nat → Stt → Prop := fun i st => ∃ o3 o4 o5, Fr o3 ∧ Fr o4 ∧ Fr o5 ∧ st = S ((List.range i).map fun j => shortR ties (n + j)) o3 o4 o5
  obtain ⟨st', e, o3, o4, o5, _, _, _, rfl⟩ := forL_list (xs := List.range (ties.length - n)) (st := S [] none none none) (f := fun x st1 => (asg (.nm 3) x st1).bind fun st2 => evSs (tab W k) W (.cons (.unp (.tp (.cons (.nm 4) (.cons (.nm 5) (.nil)))) (.b1 .sorted (.ix (.ix (.var 0) (.con (.int 2))) (.var 3)))) (.cons (.app 2 (.bin .add (.comp [6] (.nm 6) (.rng2 (.var 4) (.var 5)) (.no) (.var 6)) (.lst (.cons (.var 3) (.nil))))) (.nil))) st2) (fun i => nI (n + i)) I
    (fun i hi st ⟨o3, o4, o5, f3, f4, f5, es⟩ => by
      subst es
      rw [List.length_range] at hi
      rw [List.getElem_range]
      have ht : n + i < ties.length := by omega
      have gt : ties.getD (n + i) (0, 0) = ties[n + i] := by simp [ht]
      obtain ⟨b1, b2⟩ := hb _ (List.getElem_mem ht)
      let lo := lo2 (ties.getD (n + i) (0, 0))
      let hi' := hi2 (ties.getD (n + i) (0, 0))
      have l1 : lo ≤ 1000 := by show min _ _ ≤ _; rw [gt]; omega
      have l2 : hi' ≤ 1000 := by show max _ _ ≤ _; rw [gt]; omega
      let l := (List.range i).map fun j => shortR ties (n + j)
      have unp : evS (tab W k) W (.unp (.tp (.cons (.nm 4) (.cons (.nm 5) (.nil)))) (.b1 .sorted (.ix (.ix (.var 0) (.con (.int 2))) (.var 3)))) (S l (some (.val (nI (n + i)))) o4 o5) = some (.nx, S l (some (.val (nI (n + i)))) (some (.val (nI lo))) (some (.val (nI hi')))) := by
        refine s_unp (d := encL [lo, hi']) (n_fr (e_b1 (x := encH ties[n + i]) (e_ix (x := .list (ties.map encH)) (y := nI (n + i)) (e_ix (x := encW n ties) (y := .int 2) rfl (n_d rfl) rfl rfl) (n_d rfl) rfl (ix_map ht)) rfl ?_)) ?_
        · show b1op .sorted (encH (ties[n + i].1, ties[n + i].2)) = some (.fr (encL [lo2 (ties.getD (n + i) (0, 0)), hi2 (ties.getD (n + i) (0, 0))]))
          rw [sort_two, gt]; rfl
        · show (put 4 (.val (nI lo)) (S l (some (.val (nI (n + i)))) o4 o5)).bind (fun st1 => asgs (.cons (.nm 5) .nil) [nI hi'] st1) = _
          rw [put_ok (o := o4) rfl f4, Option.bind_some]
          show (put 5 (.val (nI hi')) (S l (some (.val (nI (n + i)))) (some (.val (nI lo))) o5)).bind (fun st1 => asgs .nil [] st1) = _
          rw [put_ok (o := o5) rfl f5]; rfl
      let V : Stt := S l (some (.val (nI (n + i)))) (some (.val (nI lo))) (some (.val (nI hi')))
      have cmp : evE (tab W k) (.comp [6] (.nm 6) (.rng2 (.var 4) (.var 5)) (.no) (.var 6)) V = some (.fr (encL ((List.range (hi' - lo)).map fun i => lo + i)), V) := by
        have := e_comp_typed (Φ := tab W k) (st := V) (st1 := V) (st3 := V) (own := [6]) (t := .nm 6) (it := .rng2 (.var 4) (.var 5)) (c := .no) (e := .var 6) (xs := List.range (hi' - lo)) (lk := none)
          (fun i => nI (lo + i)) (fun _ => true) (fun i => nI (lo + i)) (i_rng2 (x := lo) (y := hi') (n_d rfl) (n_d rfl) (by omega) (by omega)) (by rw [List.length_range]; show _ ≤ 16777216; omega) (fun i _ => turn_no (st1 := V.set 6 (some (.val (nI (lo + i))))) rfl (n_d rfl) rfl) rfl
        rw [List.filter_eq_self.mpr fun _ _ => rfl] at this
        rw [encL, List.map_map]
        exact this
      have em : ((List.range (i + 1)).map fun j => shortR ties (n + j)).map encL = l.map encL ++ [encL (shortR ties (n + i))] := by
        rw [List.range_succ, List.map_append, List.map_append]; rfl
      refine ⟨S ((List.range (i + 1)).map fun j => shortR ties (n + j)) (some (.val (nI (n + i)))) (some (.val (nI lo))) (some (.val (nI hi'))), .inl ?_, _, _, _, fr_val _, fr_val _, fr_val _, rfl⟩
      rw [asg_nm (o := o3) rfl f3, Option.bind_some]
      refine ss_nx unp (ss_nx (s_app (xs := l.map encL) (d := encL (shortR ties (n + i))) (st1 := V) rfl (n_fr (e_bin (x := encL ((List.range (hi' - lo)).map fun i => lo + i)) (y := encL [n + i]) cmp (e_lst (ds := [nI (n + i)]) (es_cons (n_d rfl) es_nil) (show 1 ≤ 16777216 by decide)) rfl rfl (add_L (by simp; omega)))) rfl ?_ ?_) ss_nil)
      · rw [List.length_map]
        show ((List.range i).map fun j => shortR ties (n + j)).length < 16777216
        rw [List.length_map, List.length_range]; omega
      · exact congrArg (fun z => some ([some (.val (encW n ties)), some (.val (encL (List.range n))), some (.own (.list z)), some (.val (nI (n + i))), some (.val (nI lo)), some (.val (nI hi')), none] : Stt)) em.symm) ⟨none, none, none, fr_none, fr_none, fr_none, rfl⟩
  rw [List.length_range] at e
  rw [t__law_shorter]
  have lenr : evE (tab W k) (.b1 .len (.var 1)) (S [] none none none) = some (.d (nI n), S [] none none none) := by
    refine e_b1 (x := encL (List.range n)) rfl rfl ?_
    show some (Op.d (.int (((List.range n).map nI).length : Int))) = _
    rw [List.length_map, List.length_range]; rfl
  let F : List (List Nat) := (List.range (ties.length - n)).map fun j => shortR ties (n + j)
  have fin : (.list ((List.range (ties.length - n)).map fun i => encL (shortR ties (n + i))) : D) = .list (F.map encL) := by rw [List.map_map]; rfl
  rw [fin]
  exact run_rt (st := (S F o3 o4 o5).set 2 (some (.val (.list (F.map encL))))) (ss_nx (s_set (op := .fr (.list [])) (st2 := S [] none none none) rfl rfl) (ss_nx (s_for (i_rng2 (x := n) (y := ties.length) (n_d lenr) (n_d (len_ties .none rfl)) (by omega) (by omega)) e rfl) (ss_rt (s_ret rfl))))
/-! ### copies, sameness -/
/-- plain data of depth at most k: numbers, texts, lists and tuples of such -/
inductive Pl : Nat → D → Prop
  | int {j : Nat} (i : Int) : Pl j (.int i)
  | str {j : Nat} (s : Str) (h : SeqAt.shaped (.str s) = true) (e : PyData.eqv (.str s) (.str s) = true) : Pl j (.str s)
  | list {j : Nat} {xs : List D} (h : ∀ x ∈ xs, Pl j x) (l : xs.length ≤ 100000) : Pl (j + 1) (.list xs)
  | tuple {j : Nat} {xs : List D} (h : ∀ x ∈ xs, Pl j x) (l : xs.length ≤ 100000) : Pl (j + 1) (.tuple xs)
theorem s_law_copy : ∀ {j : Nat} {d : D}, Pl j d → tab W (k + 1 + j) "_law_copy" [d] = some (d, .none) := by
  intro j
  induction j with
  | zero =>
    intro d h
    rw [t__law_copy]
    cases h with
    | int i => exact run_rt (st := [some (.val (.int i)), none, none, none]) (ss_nx (s_if false rfl ss_nil) (ss_nx (s_if false rfl ss_nil) (ss_nx (s_if false rfl ss_nil) (ss_rt (s_ret (n_d rfl))))))
    | str s h e => exact run_rt (st := [some (.val (.str s)), none, none, none]) (ss_nx (s_if false rfl ss_nil) (ss_nx (s_if false rfl ss_nil) (ss_nx (s_if false rfl ss_nil) (ss_rt (s_ret (n_d rfl))))))
  | succ j ih =>
    intro d h
    have hk : k + 1 + (j + 1) = (k + 1 + j) + 1 := by omega
    rw [hk, t__law_copy]
    have items : ∀ (xs : List D) (d : D), (∀ x ∈ xs, Pl j x) → xs.length ≤ 100000 → isSeq d = some xs → evE (tab W (k + 1 + j)) (.comp [3] (.nm 3) (.seq (.var 0)) (.no) (.call "_law_copy" (.cons (.var 3) (.nil)))) [some (.val d), none, none, none] = some (.fr (.list xs), [some (.val d), none, none, none]) := fun xs d hx hl hs => by
      have := e_comp_typed (Φ := tab W (k + 1 + j)) (st := [some (.val d), none, none, none]) (st1 := [some (.val d), none, none, none]) (st3 := [some (.val d), none, none, none]) (own := [3]) (t := .nm 3) (it := .seq (.var 0)) (c := .no) (e := .call "_law_copy" (.cons (.var 3) (.nil))) (xs := xs) (lk := none) id (fun _ => true) id
        (i_seq (op := .d d) rfl (by show (isSeq d).map _ = _; rw [hs, List.map_id]; rfl)) (by show _ ≤ 16777216; omega) (fun x hx' => turn_no (st1 := [some (.val d), none, none, some (.val x)]) rfl (n_d (e_call (z := (x, .none)) (es_cons (n_d rfl) es_nil) (ih (hx x hx')))) rfl) rfl
      rw [List.filter_eq_self.mpr fun _ _ => rfl, List.map_id] at this
      exact this
    cases h with
    | int i => exact run_rt (st := [some (.val (.int i)), none, none, none]) (ss_nx (s_if false rfl ss_nil) (ss_nx (s_if false rfl ss_nil) (ss_nx (s_if false rfl ss_nil) (ss_rt (s_ret (n_d rfl))))))
    | str s h e => exact run_rt (st := [some (.val (.str s)), none, none, none]) (ss_nx (s_if false rfl ss_nil) (ss_nx (s_if false rfl ss_nil) (ss_nx (s_if false rfl ss_nil) (ss_rt (s_ret (n_d rfl))))))
    | @list _ xs h l => exact run_rt (st := [some (.val (.list xs)), none, none, none]) (ss_rt (s_if true rfl (ss_rt (s_ret (n_fr (items xs (.list xs) h l rfl))))))
    | @tuple _ xs h l => exact run_rt (st := [some (.val (.tuple xs)), none, none, none]) (ss_nx (s_if false rfl ss_nil) (ss_rt (s_if true rfl (ss_rt (s_ret (n_d (e_b1 (x := .list xs) (r := .d (.tuple xs)) (items xs (.tuple xs) h l rfl) rfl rfl)))))))
theorem s_law_same : ∀ {j : Nat} {d : D}, Pl j d → tab W (k + 1 + j) "_law_same" [d, d] = some (.bool true, .none) := by
  have one : ∀ (i : Int) (Φ : Tab), runF Φ W fn__law_same [.int i, .int i] = some (.bool true, .none) := fun i Φ => by
    have c0 := t_of (e_cmp (o := .isN) (a := .var 1) (b := .con .none) (Φ := Φ) (st := [some (.val (.int i)), some (.val (.int i)), none, none, none]) (x := .int i) (y := .none) rfl rfl rfl rfl rfl)
    have eq1 : evE Φ (.cmp .eq (.var 0) (.var 1)) [some (.val (.int i)), some (.val (.int i)), none, none, none] = some (.d (.bool true), [some (.val (.int i)), some (.val (.int i)), none, none, none]) := e_cmp (x := .int i) (y := .int i) rfl rfl rfl rfl (by rw [c_eqi, decide_eq_true rfl])
    refine run_rt (f := fn__law_same) (st := [some (.val (.int i)), some (.val (.int i)), none, none, none]) (ss_nx (s_if false c0 ss_nil) (ss_nx (s_if false rfl ss_nil) (ss_rt (s_if true rfl (ss_rt (s_ret (n_d (e_and (v := true) (u := true) rfl (fun _ => e_and (v := true) (u := true) rfl (fun _ => eq1) (fun h => by cases h)) (fun h => by cases h)))))))))
  have two : ∀ (s : Str) (Φ : Tab), SeqAt.shaped (.str s) = true → PyData.eqv (.str s) (.str s) = true → runF Φ W fn__law_same [.str s, .str s] = some (.bool true, .none) := fun s Φ hs he => by
    have c0 := t_of (e_cmp (o := .isN) (a := .var 1) (b := .con .none) (Φ := Φ) (st := [some (.val (.str s)), some (.val (.str s)), none, none, none]) (x := .str s) (y := .none) rfl rfl rfl rfl rfl)
    have eq1 : evE Φ (.cmp .eq (.var 0) (.var 1)) [some (.val (.str s)), some (.val (.str s)), none, none, none] = some (.d (.bool true), [some (.val (.str s)), some (.val (.str s)), none, none, none]) := e_cmp (x := .str s) (y := .str s) rfl rfl rfl rfl (by
      show (if (SeqAt.shaped (.str s) && SeqAt.shaped (.str s)) = true then some (PyData.eqv (.str s) (.str s)) else none).map _ = _
      rw [hs, he]; rfl)
    refine run_rt (f := fn__law_same) (st := [some (.val (.str s)), some (.val (.str s)), none, none, none]) (ss_nx (s_if false c0 ss_nil) (ss_nx (s_if false rfl ss_nil) (ss_nx (s_if false rfl ss_nil) (ss_rt (s_if true rfl (ss_rt (s_ret (n_d (e_and (v := true) (u := true) rfl (fun _ => eq1) (fun h => by cases h)))))))))) 
  intro j
  induction j with
  | zero =>
    intro d h
    rw [t__law_same]
    cases h with
    | int i => exact one i _
    | str s h e => exact two s _ h e
  | succ j ih =>
    intro d h
    have hk : k + 1 + (j + 1) = (k + 1 + j) + 1 := by omega
    rw [hk, t__law_same]
    have items : ∀ (xs : List D) (d : D) (o2 : Option SV), (∀ x ∈ xs, Pl j x) → xs.length ≤ 100000 → b1op .len d = some (.d (.int (xs.length : Int))) → (∀ i (h : i < xs.length), ixD d (.int (i : Int)) = some xs[i]) →
        evE (tab W (k + 1 + j)) (.and_ (.cmp .eq (.b1 .len (.var 0)) (.b1 .len (.var 1))) (.b1 .all (.comp [4] (.nm 4) (.rng (.b1 .len (.var 1))) (.no) (.call "_law_same" (.cons (.ix (.var 0) (.var 4)) (.cons (.ix (.var 1) (.var 4)) (.nil))))))) [some (.val d), some (.val d), o2, none, none] = some (.d (.bool true), [some (.val d), some (.val d), o2, none, none]) := fun xs d o2 hx hl hlen hix => by
      let V : Stt := [some (.val d), some (.val d), o2, none, none]
      have l0 : ∀ i, i < 2 → evE (tab W (k + 1 + j)) (.b1 .len (.var i)) V = some (.d (.int (xs.length : Int)), V) := fun i hi => by
        have : i = 0 ∨ i = 1 := by omega
        rcases this with rfl | rfl <;> exact e_b1 (x := d) rfl rfl hlen
      have c1 : tst (evE (tab W (k + 1 + j)) (.cmp .eq (.b1 .len (.var 0)) (.b1 .len (.var 1))) V) = some (true, V) := t_of (e_cmp (l0 0 (by decide)) (l0 1 (by decide)) rfl rfl (by rw [c_eqi, decide_eq_true rfl]))
      have c2 := e_comp_typed (Φ := tab W (k + 1 + j)) (st := V) (st1 := V) (st3 := V) (own := [4]) (t := .nm 4) (it := .rng (.b1 .len (.var 1))) (c := .no) (e := .call "_law_same" (.cons (.ix (.var 0) (.var 4)) (.cons (.ix (.var 1) (.var 4)) (.nil)))) (xs := List.range xs.length) (lk := none) nI (fun _ => true) (fun _ => .bool true)
        (i_nat (n := xs.length) (n_d (l0 1 (by decide))) (by omega)) (by rw [List.length_range]; show _ ≤ 16777216; omega) (fun i hi => by
          have hi := List.mem_range.mp hi
          exact turn_no (st1 := [some (.val d), some (.val d), o2, none, some (.val (nI i))]) rfl (n_d (e_call (z := (.bool true, .none)) (es_cons (n_d (e_ix (x := d) (y := nI i) rfl (n_d rfl) rfl (hix i hi))) (es_cons (n_d (e_ix (x := d) (y := nI i) rfl (n_d rfl) rfl (hix i hi))) es_nil)) (ih (hx _ (List.getElem_mem hi))))) rfl) rfl
      rw [List.filter_eq_self.mpr fun _ _ => rfl] at c2
      refine e_and (v := true) (u := true) c1 (fun _ => e_b1 c2 rfl ?_) (fun h => by cases h)
      have bl : ∀ l : List Nat, boolsD (l.map fun _ => PyData.bool true) = some (l.map fun _ => true) := by
        intro l
        induction l with
        | nil => rfl
        | cons a l ih => rw [List.map_cons, boolsD, ih]; rfl
      show (boolsD ((List.range xs.length).map fun _ => PyData.bool true)).map (fun bs => Op.d (.bool (bs.all id))) = _
      rw [bl, Option.map_some]
      have : ((List.range xs.length).map fun _ => true).all id = true := by rw [List.all_map]; simp
      rw [this]
    cases h with
    | int i => exact one i _
    | str s h e => exact two s _ h e
    | @list _ xs h l =>
      have it := items xs (.list xs) (some (.val (.bool true))) h l rfl (fun i hi => ix_list (ixN_nat hi) (List.getElem?_eq_getElem hi))
      exact run_rt (f := fn__law_same) (st := [some (.val (.list xs)), some (.val (.list xs)), some (.val (.bool true)), none, none]) (ss_nx (s_if false rfl ss_nil) (ss_nx (s_if false rfl ss_nil) (ss_nx (s_if false rfl ss_nil) (ss_nx (s_if false rfl ss_nil) (ss_nx (s_if false rfl ss_nil) (ss_nx (s_if true rfl (ss_nx (s_set (op := .d (.bool true)) rfl rfl) ss_nil)) (ss_rt (s_ret (n_d (e_and (v := true) (u := true) rfl (fun _ => it) (fun h => by cases h)))))))))))
    | @tuple _ xs h l =>
      have it := items xs (.tuple xs) (some (.val (.bool true))) h l rfl (fun i hi => by show L2.atI xs (i : Int) = _; unfold L2.atI; rw [ixN_nat hi]; exact List.getElem?_eq_getElem hi)
      exact run_rt (f := fn__law_same) (st := [some (.val (.tuple xs)), some (.val (.tuple xs)), some (.val (.bool true)), none, none]) (ss_nx (s_if false rfl ss_nil) (ss_nx (s_if false rfl ss_nil) (ss_nx (s_if false rfl ss_nil) (ss_nx (s_if false rfl ss_nil) (ss_nx (s_if false rfl ss_nil) (ss_nx (s_if false rfl (ss_nx (s_set (op := .d (.bool true)) rfl rfl) ss_nil)) (ss_rt (s_ret (n_d (e_and (v := true) (u := true) rfl (fun _ => it) (fun h => by cases h)))))))))))
end
end K95

set_option Elab.async false
set_option linter.all false
set_option maxRecDepth 100000
/-! K95ZC: the room rule; the rings that the law takes. -/
namespace K95
open PySem PD
theorem s_aug {Φ : Tab} {W i : Nat} {st st1 st2 : Stt} {e : Ce} {x y : Int} (h : st[i]? = some (some (.val (.int x)))) (he : evE Φ e st = some (.d (.int y), st1)) (h2 : put i (.val (.int (x + y))) st1 = some st2) : evS Φ W (.augI i .add e) st = some (.nx, st2) := by
  rw [evS, h, Option.bind_some]
  show (nmk (evE Φ e st)).bind _ = _
  rw [n_d he, Option.bind_some]
  show (put i (.val (.int (x + y))) st1).map _ = _
  rw [h2]; rfl
/-- what a rim adds -/
def gain (rows : List (List Hf)) (ins : List Nat) (j : Nat) : Int := (((rows.getD j []).length : Int) - 2) * (if j ∈ ins then 1 else -1)
section
variable {W k n : Nat} {ties : List (Nat × Nat)} {turns : List (List Hf)}
theorem enum_items {Φ : Tab} {st st1 : Stt} {a : Ce} {xs : List D} (h : nmk (evE Φ a st) = some (.list xs, st1)) : evI Φ (.enum a) st = some ((List.range xs.length).map (fun i => .tuple [nI i, xs.getD i .none]), none, st1) := by
  rw [evI, h, Option.bind_some]; rfl
theorem inner_idem (r : Nat) (F : List Nat) : (List.range r).filter (fun j => decide (j ∈ inner r F)) = inner r F := by
  unfold inner
  refine List.filter_congr fun j hj => decide_eq_decide.mpr ?_
  rw [List.mem_filter, decide_eq_true_eq]
  exact ⟨fun h => h.2, fun h => ⟨hj, h⟩⟩
theorem s_room_rule (G : Good n ties turns) (hm : ties.length ≤ 1000) (hW : 5000 ≤ W) (ring : List Nat) {F : List Nat} (hF : tab W (k + 5) "ring_rims" [encW n ties, encT turns, encL ring] = some (encL (inner (rimsW ties turns).length F), .none)) :
    tab W (k + 6) "room_rule" [encW n ties, encT turns, encL ring] = some (.int ((List.range (rimsW ties turns).length).map (gain (rimsW ties turns) (inner (rimsW ties turns).length F))).sum, .none) := by
  have M := G.M
  have R := rimsW_ok M
  have hr := rows_le R
  let r := (rimsW ties turns).length
  let ins := inner r F
  let S : Option SV → Option SV → Option SV → Option SV → Stt := fun o3 o4 o5 o6 => [some (.val (encW n ties)), some (.val (encT turns)), some (.val (encL ring)), o3, o4, o5, o6]
  let f : Nat → D := fun i => .tuple [nI i, ((rimsW ties turns).map encR).getD i .none]
  have rimsE : ∀ o3 o4 o5 o6, nmk (evE (tab W (k + 5)) (.call "rims" (.cons (.var 0) (.cons (.var 1) (.nil)))) (S o3 o4 o5 o6)) = some (.list ((rimsW ties turns).map encR), S o3 o4 o5 o6) := fun o3 o4 o5 o6 =>
    n_d (e_call (z := (_, .none)) (es_cons (n_d rfl) (es_cons (n_d rfl) es_nil)) (s_rims (k := k + 2) M hm hW))
  have items : ∀ o3 o4 o5 o6, evI (tab W (k + 5)) (.enum (.call "rims" (.cons (.var 0) (.cons (.var 1) (.nil))))) (S o3 o4 o5 o6) = some ((List.range r).map f, none, S o3 o4 o5 o6) := fun o3 o4 o5 o6 => by
    rw [enum_items (rimsE o3 o4 o5 o6), List.length_map]
  have getR : ∀ i, i < r → ((rimsW ties turns).map encR).getD i .none = encR ((rimsW ties turns).getD i []) := fun i hi => by
    have : i < (rimsW ties turns).length := hi
    simp [this]
  have both : ∀ (i : Nat) (o3 o4 o5 o6 : Option SV), Fr o5 → Fr o6 → asg (.tp (.cons (.nm 5) (.cons (.nm 6) (.nil)))) (f i) (S o3 o4 o5 o6) = some (S o3 o4 (some (.val (nI i))) (some (.val (((rimsW ties turns).map encR).getD i .none)))) := fun i o3 o4 o5 o6 f5 f6 => by
    show (put 5 (.val (nI i)) (S o3 o4 o5 o6)).bind (fun st1 => asgs (.cons (.nm 6) .nil) [((rimsW ties turns).map encR).getD i .none] st1) = _
    rw [put_ok (o := o5) rfl f5, Option.bind_some]
    show (put 6 (.val (((rimsW ties turns).map encR).getD i .none)) (S o3 o4 (some (.val (nI i))) o6)).bind (fun st1 => asgs .nil [] st1) = _
    rw [put_ok (o := o6) rfl f6]; rfl
  let E3 : Option SV := some (.own (encL ins))
  have c3 : evE (tab W (k + 5)) (.comp [5, 6] (.tp (.cons (.nm 5) (.cons (.nm 6) (.nil)))) (.enum (.call "rims" (.cons (.var 0) (.cons (.var 1) (.nil))))) (.so (.cmp .in_ (.var 5) (.call "ring_rims" (.cons (.var 0) (.cons (.var 1) (.cons (.var 2) (.nil))))))) (.var 5)) (S none none none none) = some (.fr (encL ins), S none none none none) := by
    have := e_comp_typed (Φ := tab W (k + 5)) (st := S none none none none) (st1 := S none none none none) (st3 := S none none none none) (own := [5, 6]) (t := .tp (.cons (.nm 5) (.cons (.nm 6) (.nil)))) (it := .enum (.call "rims" (.cons (.var 0) (.cons (.var 1) (.nil))))) (c := .so (.cmp .in_ (.var 5) (.call "ring_rims" (.cons (.var 0) (.cons (.var 1) (.cons (.var 2) (.nil))))))) (e := .var 5) (xs := List.range r) (lk := none) f (fun j => decide (j ∈ ins)) nI
      (items none none none none) (by rw [List.length_range]; show _ ≤ 16777216; omega) (fun i _ => turn_so (st1 := S none none (some (.val (nI i))) (some (.val (((rimsW ties turns).map encR).getD i .none)))) (decide (i ∈ ins)) (both i none none none none fr_none fr_none) (t_of (e_cmp (x := nI i) (y := encL ins) rfl (e_call (z := (encL ins, .none)) (es_cons (n_d rfl) (es_cons (n_d rfl) (es_cons (n_d rfl) es_nil))) hF) rfl rfl (c_inL i ins))) (fun _ => n_d rfl) (fun _ => rfl) rfl) rfl
    rw [inner_idem] at this
    exact this
  let I : Nat → Stt → Prop := fun i st => ∃ o5 o6, Fr o5 ∧ Fr o6 ∧ st = S E3 (some (.val (.int ((List.range i).map (gain (rimsW ties turns) ins)).sum))) o5 o6
  obtain ⟨st', e, o5, o6, _, _, rfl⟩ := forL_list (xs := List.range r) (st := S E3 (some (.val (.int 0))) none none) (f := fun x st1 => (asg (.tp (.cons (.nm 5) (.cons (.nm 6) (.nil)))) x st1).bind fun st2 => evSs (tab W (k + 5)) W (.cons (.augI 4 .add (.ite (.cmp .in_ (.var 5) (.var 3)) (.bin .sub (.b1 .len (.var 6)) (.con (.int 2))) (.bin .sub (.con (.int 2)) (.b1 .len (.var 6))))) (.nil)) st2) f I
    (fun i hi st ⟨o5, o6, f5, f6, es⟩ => by
      subst es
      rw [List.length_range] at hi
      rw [List.getElem_range]
      let s : Int := ((List.range i).map (gain (rimsW ties turns) ins)).sum
      let V : Stt := S E3 (some (.val (.int s))) (some (.val (nI i))) (some (.val (((rimsW ties turns).map encR).getD i .none)))
      have len6 : evE (tab W (k + 5)) (.b1 .len (.var 6)) V = some (.d (.int (((rimsW ties turns).getD i []).length : Int)), V) := by
        refine e_b1 (x := encR ((rimsW ties turns).getD i [])) rfl (by show some (((rimsW ties turns).map encR).getD i .none) = _; rw [getR i hi]) ?_
        show some (Op.d (.int ((((rimsW ties turns).getD i []).map encH).length : Int))) = _
        rw [List.length_map]
      have cin : tst (evE (tab W (k + 5)) (.cmp .in_ (.var 5) (.var 3)) V) = some (decide (i ∈ ins), V) := t_of (e_cmp (x := nI i) (y := encL ins) rfl rfl rfl rfl (c_inL i ins))
      have val : evE (tab W (k + 5)) (.ite (.cmp .in_ (.var 5) (.var 3)) (.bin .sub (.b1 .len (.var 6)) (.con (.int 2))) (.bin .sub (.con (.int 2)) (.b1 .len (.var 6)))) V = some (.d (.int (gain (rimsW ties turns) ins i)), V) := by
        refine e_ite _ cin ?_
        unfold gain
        by_cases q : i ∈ ins
        · rw [decide_eq_true q, if_pos q, Int.mul_one]
          exact e_bin (x := .int (((rimsW ties turns).getD i []).length : Int)) (y := .int 2) len6 rfl rfl rfl rfl
        · rw [decide_eq_false q, if_neg q]
          have : (((rimsW ties turns).getD i []).length : Int) * 1 = (((rimsW ties turns).getD i []).length : Int) := Int.mul_one _
          rw [show ((((rimsW ties turns).getD i []).length : Int) - 2) * (-1) = 2 - (((rimsW ties turns).getD i []).length : Int) by omega]
          exact e_bin (x := .int 2) (y := .int (((rimsW ties turns).getD i []).length : Int)) rfl len6 rfl rfl rfl
      refine ⟨S E3 (some (.val (.int (s + gain (rimsW ties turns) ins i)))) (some (.val (nI i))) (some (.val (((rimsW ties turns).map encR).getD i .none))), .inl ?_, _, _, fr_val (nI i), fr_val (((rimsW ties turns).map encR).getD i .none), ?_⟩
      · rw [both i _ _ _ _ f5 f6, Option.bind_some]
        exact ss_nx (s_aug rfl val rfl) ss_nil
      · rw [List.range_succ, List.map_append, List.sum_append]
        simp [s]) ⟨none, none, fr_none, fr_none, rfl⟩
  rw [List.length_range] at e
  rw [t_room_rule]
  exact run_rt (st := S E3 (some (.val (.int ((List.range r).map (gain (rimsW ties turns) ins)).sum))) o5 o6) (ss_nx (s_set (op := .fr (encL ins)) (st1 := S none none none none) (st2 := S E3 none none none) c3 rfl) (ss_nx (s_set (op := .d (.int 0)) (st2 := S E3 (some (.val (.int 0))) none none) rfl rfl) (ss_nx (s_for (items E3 (some (.val (.int 0))) none none) e rfl) (ss_rt (s_ret (n_d rfl))))))
/-! ### the rings taken -/
structure RingOk (n : Nat) (ties : List (Nat × Nat)) (turns : List (List Hf)) (one : List Nat) : Prop where
  srt : one.Pairwise (· < ·)
  lt : ∀ t ∈ one, t < ties.length
  ne : ∃ u, u ∈ one
  ev : Ev n turns fun t => decide (t ∈ one)
  mn : ∀ T, Ev n turns T → (∀ t, t < ties.length → T t = true → t ∈ one) → (∀ t, t < ties.length → T t = false) ∨ ∀ t, t < ties.length → t ∈ one → T t = true
theorem eq_sorted : ∀ {l s : List Nat}, l.Pairwise (· < ·) → s.Pairwise (· < ·) → (∀ x, x ∈ l ↔ x ∈ s) → l = s
  | [], [], _, _, _ => rfl
  | [], b :: s, _, _, h => absurd ((h b).mpr (List.mem_cons_self ..)) (List.not_mem_nil)
  | a :: l, [], _, _, h => absurd ((h a).mp (List.mem_cons_self ..)) (List.not_mem_nil)
  | a :: l, b :: s, hl, hs, h => by
    obtain ⟨l1, l2⟩ := List.pairwise_cons.mp hl
    obtain ⟨s1, s2⟩ := List.pairwise_cons.mp hs
    have e : a = b := by
      rcases List.mem_cons.mp ((h a).mp (List.mem_cons_self ..)) with e | e
      · exact e
      · rcases List.mem_cons.mp ((h b).mpr (List.mem_cons_self ..)) with e' | e'
        · exact e'.symm
        · have := s1 a e
          have := l1 b e'
          omega
    subst e
    rw [eq_sorted l2 s2 fun x => ⟨fun hx => ?_, fun hx => ?_⟩]
    · rcases List.mem_cons.mp ((h x).mp (List.mem_cons_of_mem _ hx)) with e | e
      · subst e; exact absurd (l1 x hx) (Nat.lt_irrefl _)
      · exact e
    · rcases List.mem_cons.mp ((h x).mpr (List.mem_cons_of_mem _ hx)) with e | e
      · subst e; exact absurd (s1 x hx) (Nat.lt_irrefl _)
      · exact e
theorem range_sorted (m : Nat) : (List.range m).Pairwise (· < ·) := List.pairwise_lt_range
theorem RingOk.filter {one : List Nat} (h : RingOk n ties turns one) : (List.range ties.length).filter (fun t => decide (t ∈ one)) = one := by
  refine eq_sorted ((range_sorted _).filter _) h.srt fun x => ?_
  rw [List.mem_filter, List.mem_range, decide_eq_true_eq]
  exact ⟨fun z => z.2, fun z => ⟨h.lt x z, z⟩⟩
theorem RingOk.sorted {one : List Nat} (h : RingOk n ties turns one) (hm : ties.length ≤ 1000) : b1op .sorted (encL one) = some (.fr (encL one)) := by
  have nd : one.Nodup := h.srt.imp fun h => Nat.ne_of_lt h
  have len : one.length ≤ 1000 := by
    have := pig nd (s := List.range ties.length) fun x hx => List.mem_range.mpr (h.lt x hx)
    rw [List.length_range] at this
    omega
  obtain ⟨l', p, e⟩ := sort_nats one (by omega)
  rw [e]
  have : sortD (one.map nI) = one.map nI := List.mergeSort_of_pairwise (List.pairwise_map.mpr (h.srt.imp fun {a b} hab => by
    show (!PySem.W.dataLt (nI b) (nI a)) = true
    unfold nI
    rw [PySem.W.dataLt_int, decide_eq_false (by omega)]; rfl))
  have e2 : b1op .sorted (encL one) = some (.fr (.list (sortD (one.map nI)))) := by
    have e3 := e
    show b1op .sorted (encL one) = _
    change Option.bind (isSeq (encL one)) (fun xs => if (allAlike xs && sortable xs && depthOk xs && decide (xs.length ≤ sizeLine)) = true then some (Op.fr (.list (sortD xs))) else none) = _ at e3
    show Option.bind (isSeq (encL one)) (fun xs => if (allAlike xs && sortable xs && depthOk xs && decide (xs.length ≤ sizeLine)) = true then some (Op.fr (.list (sortD xs))) else none) = _
    have e0 : isSeq (encL one) = some (one.map nI) := rfl
    rw [e0, Option.bind_some] at e3 ⊢
    split at e3
    · rename_i hq; rw [if_pos hq]
    · cases e3
  rw [e] at e2
  rw [e2, this]; rfl
theorem Good.ring0 (G : Good n ties turns) : RingOk n ties turns (List.range n) := by
  obtain ⟨ev, mn⟩ := G.whole
  have n2 := G.n2
  have nm := G.nm
  exact ⟨range_sorted _, fun t ht => by have := List.mem_range.mp ht; omega, ⟨0, List.mem_range.mpr (by omega)⟩, ev, mn⟩
theorem Good.ringS (G : Good n ties turns) {t : Nat} (h1 : n ≤ t) (h2 : t < ties.length) : RingOk n ties turns (shortR ties t) := by
  have e0 : ep ties (t, 0) = (ties.getD t (0, 0)).1 := rfl
  have e1 : ep ties (t, 1) = (ties.getD t (0, 0)).2 := rfl
  have b0 := G.M.en (t, 0) ⟨h2, Nat.zero_le _⟩
  have b1 := G.M.en (t, 1) ⟨h2, Nat.le_refl _⟩
  rw [e0] at b0
  rw [e1] at b1
  have hlo : lo2 (ties.getD t (0, 0)) ≤ hi2 (ties.getD t (0, 0)) := by unfold lo2 hi2; omega
  have hhi : hi2 (ties.getD t (0, 0)) < n := by unfold hi2; omega
  have pr : ties.getD t (0, 0) = (lo2 (ties.getD t (0, 0)), hi2 (ties.getD t (0, 0))) ∨ ties.getD t (0, 0) = (hi2 (ties.getD t (0, 0)), lo2 (ties.getD t (0, 0))) := by
    unfold lo2 hi2
    by_cases q : (ties.getD t (0, 0)).1 ≤ (ties.getD t (0, 0)).2
    · left; exact Prod.ext (by show _ = min _ _; omega) (by show _ = max _ _; omega)
    · right; exact Prod.ext (by show _ = max _ _; omega) (by show _ = min _ _; omega)
  obtain ⟨ev, mn⟩ := G.short hlo hhi h2 h1 pr
  have mem : ∀ x, x ∈ shortR ties t ↔ (lo2 (ties.getD t (0, 0)) ≤ x ∧ x < hi2 (ties.getD t (0, 0))) ∨ x = t := fun x => by
    unfold shortR
    rw [List.mem_append, List.mem_map, List.mem_singleton]
    constructor
    · rintro (⟨i, hi, rfl⟩ | h)
      · have := List.mem_range.mp hi
        exact .inl ⟨by omega, by omega⟩
      · exact .inr h
    · rintro (⟨q1, q2⟩ | h)
      · exact .inl ⟨x - lo2 (ties.getD t (0, 0)), List.mem_range.mpr (by omega), by omega⟩
      · exact .inr h
  have fe : (fun x => decide (x ∈ shortR ties t)) = fun x => decide ((lo2 (ties.getD t (0, 0)) ≤ x ∧ x < hi2 (ties.getD t (0, 0))) ∨ x = t) := by
    funext x
    exact decide_eq_decide.mpr (mem x)
  refine ⟨?_, fun x hx => ?_, ⟨t, (mem t).mpr (.inr rfl)⟩, by rw [fe]; exact ev, fun T hT hs => ?_⟩
  · unfold shortR
    refine List.pairwise_append.mpr ⟨List.pairwise_map.mpr ((range_sorted _).imp fun h => by omega), by simp, fun a ha b hb => ?_⟩
    obtain ⟨i, hi, rfl⟩ := List.mem_map.mp ha
    have := List.mem_range.mp hi
    rw [List.mem_singleton.mp hb]
    omega
  · rcases (mem x).mp hx with h | h <;> omega
  · rcases mn T hT fun x hx q => (mem x).mp (hs x hx q) with h | h
    · exact .inl h
    · exact .inr fun x hx q => h x hx ((mem x).mp q)
end
end K95

set_option Elab.async false
set_option linter.all false
set_option maxRecDepth 100000
/-! K95ZD: the law, one ring. -/
namespace K95
open PySem PD
theorem c_neB (a b : Bool) : cmpG .ne (.bool a) (.bool b) = some (.d (.bool (!decide (a = b)))) := by
  show (if (SeqAt.shaped (.bool a) && SeqAt.shaped (.bool b)) = true then some (!PyData.eqv (.bool a) (.bool b)) else none).map _ = _
  rw [(sh_bool a).ok (by decide), (sh_bool b).ok (by decide), eqv_bool]; rfl
theorem eqv_L (a b : List Nat) : PyData.eqv (encL a) (encL b) = decide (a = b) := Bool.eq_iff_iff.mpr ((eqv_list fun x _ y _ => eqv_n x y).trans decide_eq_true_iff.symm)
theorem sh_L (a : List Nat) : Sh 1 (encL a) := sh_list (sh_nats a)
theorem c_neL (a b : List Nat) : cmpG .ne (encL a) (encL b) = some (.d (.bool (!decide (a = b)))) := by
  show (if (SeqAt.shaped (encL a) && SeqAt.shaped (encL b)) = true then some (!PyData.eqv (encL a) (encL b)) else none).map _ = _
  rw [(sh_L a).ok (by decide), (sh_L b).ok (by decide), eqv_L]; rfl
theorem c_eqL (a b : List Nat) : cmpG .eq (encL a) (encL b) = some (.d (.bool (decide (a = b)))) := by
  show (if (SeqAt.shaped (encL a) && SeqAt.shaped (encL b)) = true then some (PyData.eqv (encL a) (encL b)) else none).map _ = _
  rw [(sh_L a).ok (by decide), (sh_L b).ok (by decide), eqv_L]; rfl
theorem pl_L (a : List Nat) (h : a.length ≤ 100000) : Pl 1 (encL a) := .list (fun x hx => by obtain ⟨j, _, rfl⟩ := List.mem_map.mp hx; exact .int _) (by rw [List.length_map]; exact h)
theorem intsD_map {α : Type} (g : α → Int) : ∀ l : List α, intsD (l.map fun x => PyData.int (g x)) = some (l.map g)
  | [] => rfl
  | a :: l => by rw [List.map_cons, List.map_cons, intsD, intsD_map g l]; rfl
abbrev bSide : Css := .cons (.set 14 (.call "_law_both" (.cons (.var 4) (.cons (.var 13) (.nil))))) (.cons (.ife (.cmp .ne (.cmp .in_ (.ix (.var 14) (.con (.int 0))) (.var 10)) (.cmp .in_ (.ix (.var 14) (.con (.int 1))) (.var 10))) (.cons (.app 12 (.var 13)) (.nil)) (.nil)) (.nil))
abbrev bOne : Css := .cons (.set 10 (.call "_law_due" (.cons (.var 7) (.cons (.var 8) (.cons (.var 6) (.nil)))))) (.cons (.set 11 (.b1 .sum (.comp [15] (.nm 15) (.rng (.b1 .len (.var 4))) (.no) (.bin .mul (.bin .sub (.b1 .len (.ix (.var 4) (.var 15))) (.con (.int 2))) (.ite (.cmp .in_ (.var 15) (.var 10)) (.con (.int 1)) (.neg (.con (.int 1)))))))) (.cons (.ife (.not_ (.call "_law_same" (.cons (.call "ring_rims" (.cons (.ix (.var 3) (.con (.int 0))) (.cons (.ix (.var 3) (.con (.int 1))) (.cons (.b1 .list (.var 6)) (.nil))))) (.cons (.var 10) (.nil))))) (.cons (.ret (.con (.bool false))) (.nil)) (.nil)) (.cons (.ife (.or_ (.not_ (.call "_law_same" (.cons (.call "room_rule" (.cons (.ix (.var 3) (.con (.int 0))) (.cons (.ix (.var 3) (.con (.int 1))) (.cons (.b1 .list (.var 6)) (.nil))))) (.cons (.var 11) (.nil))))) (.and_ (.cmp .eq (.var 6) (.var 9)) (.cmp .ne (.var 11) (.con (.int 0))))) (.cons (.ret (.con (.bool false))) (.nil)) (.nil)) (.cons (.set 12 (.lst (.nil))) (.cons (.for_ (.nm 13) (.rng (.b1 .len (.ix (.var 7) (.con (.int 2))))) bSide) (.cons (.ife (.cmp .ne (.var 12) (.b1 .sorted (.var 6))) (.cons (.ret (.con (.bool false))) (.nil)) (.nil)) (.nil)))))))
section
variable {W n : Nat} {ties : List (Nat × Nat)} {turns : List (List Hf)}
abbrev Zs (sc d : D) (n : Nat) (ties : List (Nat × Nat)) (turns : List (List Hf)) (o2 o5 o6 o10 o11 o12 o13 o14 : Option SV) : Stt :=
  [some (.val sc), some (.own d), o2, some (.val (.list [encW n ties, encT turns])), some (.val (.list ((rimsW ties turns).map encR))), o5, o6, some (.val (encW n ties)), some (.val (encT turns)), some (.val (encL (List.range n))), o10, o11, o12, o13, o14, none]
theorem s_one (G : Good n ties turns) (hm : ties.length ≤ 1000) (hW : 5000 ≤ W) {one : List Nat} (ok : RingOk n ties turns one) (sc d : D) {o2 o5 o6 o10 o11 o12 o13 o14 : Option SV} (f6 : Fr o6) (f10 : Fr o10) (f11 : Fr o11) (f12 : Fr o12) (f13 : Fr o13) (f14 : Fr o14) :
    ∃ o10' o11' o12' o13' o14', ((asg (.nm 6) (encL one) (Zs sc d n ties turns o2 o5 o6 o10 o11 o12 o13 o14)).bind fun st2 => evSs (tab W 20) W bOne st2) = some (.nx, Zs sc d n ties turns o2 o5 (some (.val (encL one))) o10' o11' o12' o13' o14') ∧ Fr o10' ∧ Fr o11' ∧ Fr o12' ∧ Fr o13' ∧ Fr o14' := by
  have M := G.M
  have R := rimsW_ok M
  have hr := rows_le R
  obtain ⟨F, B, eDue⟩ := s_law_due (W := W) (k := 17) G hm hW one
  obtain ⟨F', B', eRR⟩ := s_ring_rims (W := W) (k := 14) G hm hW one
  obtain ⟨F'', B'', eRR2⟩ := s_ring_rims (W := W) (k := 15) G hm hW one
  have same : ∀ F', Bfs ties.length (rimsW ties turns).length (wh (rimsW ties turns)) one F' → inner (rimsW ties turns).length F' = inner (rimsW ties turns).length F := fun F' B' => by
    unfold inner
    exact List.filter_congr fun j _ => decide_eq_decide.mpr (not_congr (B'.unique B j))
  rw [same F'' B''] at eRR2
  have eRoom := s_room_rule (W := W) (k := 14) G hm hW one eRR
  rw [same F' B'] at eRoom
  generalize hins : inner (rimsW ties turns).length F = ins at eDue eRR2 eRoom
  generalize htot : ((List.range (rimsW ties turns).length).map (gain (rimsW ties turns) ins)).sum = tot at eRoom
  have insLen : ins.length ≤ 100000 := by
    have : ins.length ≤ (List.range (rimsW ties turns).length).length := by rw [← hins]; exact List.length_filter_le _ _
    rw [List.length_range] at this
    omega
  have imem : ∀ j, j < (rimsW ties turns).length → decide (j ∈ ins) = !decide (j ∈ F) := fun j hj => by
    rw [← hins]
    unfold inner
    by_cases q : j ∈ F <;> simp [q, hj]
  let Z := fun (o10 o11 o12 o13 o14 : Option SV) => Zs sc d n ties turns o2 o5 (some (.val (encL one))) o10 o11 o12 o13 o14
  let E10 : Option SV := some (.val (encL ins))
  let E11 : Option SV := some (.val (.int tot))
  have s10 : evS (tab W 20) W (.set 10 (.call "_law_due" (.cons (.var 7) (.cons (.var 8) (.cons (.var 6) (.nil)))))) (Z o10 o11 o12 o13 o14) = some (.nx, Z E10 o11 o12 o13 o14) := s_set (op := .d (encL ins)) (e_call (z := (_, .none)) (es_cons (n_d rfl) (es_cons (n_d rfl) (es_cons (n_d rfl) es_nil))) eDue) (put_ok (o := o10) rfl f10)
  have s11 : evS (tab W 20) W (.set 11 (.b1 .sum (.comp [15] (.nm 15) (.rng (.b1 .len (.var 4))) (.no) (.bin .mul (.bin .sub (.b1 .len (.ix (.var 4) (.var 15))) (.con (.int 2))) (.ite (.cmp .in_ (.var 15) (.var 10)) (.con (.int 1)) (.neg (.con (.int 1)))))))) (Z E10 o11 o12 o13 o14) = some (.nx, Z E10 E11 o12 o13 o14) := by
    have := e_comp_typed (Φ := tab W 20) (st := Z E10 o11 o12 o13 o14) (st1 := Z E10 o11 o12 o13 o14) (st3 := Z E10 o11 o12 o13 o14) (own := [15]) (t := .nm 15) (it := .rng (.b1 .len (.var 4))) (c := .no) (e := .bin .mul (.bin .sub (.b1 .len (.ix (.var 4) (.var 15))) (.con (.int 2))) (.ite (.cmp .in_ (.var 15) (.var 10)) (.con (.int 1)) (.neg (.con (.int 1))))) (xs := List.range (rimsW ties turns).length) (lk := none)
      nI (fun _ => true) (fun j => .int (gain (rimsW ties turns) ins j)) (i_nat (n := (rimsW ties turns).length) (n_d (len_rows rfl)) (by omega)) (by rw [List.length_range]; show _ ≤ 16777216; omega) (fun j hj => by
        have hj := List.mem_range.mp hj
        have gd : (rimsW ties turns).getD j [] = (rimsW ties turns)[j] := by simp [hj]
        let V : Stt := (Z E10 o11 o12 o13 o14).set 15 (some (.val (nI j)))
        have lenj : evE (tab W 20) (.b1 .len (.ix (.var 4) (.var 15))) V = some (.d (.int (((rimsW ties turns)[j]).length : Int)), V) := by
          refine e_b1 (x := encR (rimsW ties turns)[j]) (e_ix (x := .list ((rimsW ties turns).map encR)) (y := nI j) rfl (n_d rfl) rfl (ix_map hj)) rfl ?_
          show some (Op.d (.int ((((rimsW ties turns)[j]).map encH).length : Int))) = _
          rw [List.length_map]
        have cin : tst (evE (tab W 20) (.cmp .in_ (.var 15) (.var 10)) V) = some (decide (j ∈ ins), V) := t_of (e_cmp (x := nI j) (y := encL ins) rfl rfl rfl rfl (c_inL j ins))
        have sgn : evE (tab W 20) (.ite (.cmp .in_ (.var 15) (.var 10)) (.con (.int 1)) (.neg (.con (.int 1)))) V = some (.d (.int (if j ∈ ins then 1 else -1)), V) := by
          refine e_ite _ cin ?_
          by_cases q : j ∈ ins
          · rw [decide_eq_true q, if_pos q]; rfl
          · rw [decide_eq_false q, if_neg q]; rfl
        refine turn_no (st1 := V) rfl (n_d (e_bin (x := .int ((((rimsW ties turns)[j]).length : Int) - 2)) (y := .int (if j ∈ ins then 1 else -1)) (e_bin (x := .int (((rimsW ties turns)[j]).length : Int)) (y := .int 2) lenj rfl rfl rfl rfl) sgn rfl rfl ?_)) rfl
        rw [mul_s (by split <;> decide)]
        unfold gain
        rw [gd]) rfl
    rw [List.filter_eq_self.mpr fun _ _ => rfl] at this
    refine s_set (op := .d (.int tot)) (e_b1 this rfl ?_) (put_ok (o := o11) rfl f11)
    show (intsD ((List.range (rimsW ties turns).length).map fun j => PyData.int (gain (rimsW ties turns) ins j))).map (fun ns => Op.d (.int ns.sum)) = _
    rw [intsD_map, Option.map_some, htot]
  have giv : ∀ i, (i = 0 ∨ i = 1) → ∀ o12 o13 o14, nmk (evE (tab W 20) (.ix (.var 3) (.con (.int (i : Nat)))) (Z E10 E11 o12 o13 o14)) = some (if i = 0 then encW n ties else encT turns, Z E10 E11 o12 o13 o14) := fun i hi o12 o13 o14 => by
    rcases hi with rfl | rfl <;> exact n_d (e_ix (x := .list [encW n ties, encT turns]) rfl (n_d rfl) rfl rfl)
  have lst6 : nmk (evE (tab W 20) (.b1 .list (.var 6)) (Z E10 E11 o12 o13 o14)) = some (encL one, Z E10 E11 o12 o13 o14) := n_fr (e_b1 (x := encL one) rfl rfl rfl)
  have args : evEs (tab W 20) (.cons (.ix (.var 3) (.con (.int 0))) (.cons (.ix (.var 3) (.con (.int 1))) (.cons (.b1 .list (.var 6)) (.nil)))) (Z E10 E11 o12 o13 o14) = some ([encW n ties, encT turns, encL one], Z E10 E11 o12 o13 o14) := es_cons (giv 0 (.inl rfl) _ _ _) (es_cons (giv 1 (.inr rfl) _ _ _) (es_cons lst6 es_nil))
  have t12 : tst (evE (tab W 20) (.not_ (.call "_law_same" (.cons (.call "ring_rims" (.cons (.ix (.var 3) (.con (.int 0))) (.cons (.ix (.var 3) (.con (.int 1))) (.cons (.b1 .list (.var 6)) (.nil))))) (.cons (.var 10) (.nil))))) (Z E10 E11 o12 o13 o14)) = some (false, Z E10 E11 o12 o13 o14) :=
    t_of (e_not (v := true) (t_of (e_call (z := (.bool true, .none)) (es_cons (n_d (e_call (z := (encL ins, .none)) args eRR2)) (es_cons (n_d rfl) es_nil)) (s_law_same (W := W) (k := 18) (pl_L ins insLen)))))
  have t13 : tst (evE (tab W 20) (.or_ (.not_ (.call "_law_same" (.cons (.call "room_rule" (.cons (.ix (.var 3) (.con (.int 0))) (.cons (.ix (.var 3) (.con (.int 1))) (.cons (.b1 .list (.var 6)) (.nil))))) (.cons (.var 11) (.nil))))) (.and_ (.cmp .eq (.var 6) (.var 9)) (.cmp .ne (.var 11) (.con (.int 0))))) (Z E10 E11 o12 o13 o14)) = some (false, Z E10 E11 o12 o13 o14) := by
    have a1 : tst (evE (tab W 20) (.not_ (.call "_law_same" (.cons (.call "room_rule" (.cons (.ix (.var 3) (.con (.int 0))) (.cons (.ix (.var 3) (.con (.int 1))) (.cons (.b1 .list (.var 6)) (.nil))))) (.cons (.var 11) (.nil))))) (Z E10 E11 o12 o13 o14)) = some (false, Z E10 E11 o12 o13 o14) :=
      t_of (e_not (v := true) (t_of (e_call (z := (.bool true, .none)) (es_cons (n_d (e_call (z := (.int tot, .none)) args eRoom)) (es_cons (n_d rfl) es_nil)) (s_law_same (W := W) (k := 19) (j := 0) (.int tot)))))
    have b1 : tst (evE (tab W 20) (.cmp .eq (.var 6) (.var 9)) (Z E10 E11 o12 o13 o14)) = some (decide (one = List.range n), Z E10 E11 o12 o13 o14) := t_of (e_cmp (x := encL one) (y := encL (List.range n)) rfl rfl rfl rfl (c_eqL _ _))
    have b2 : evE (tab W 20) (.cmp .ne (.var 11) (.con (.int 0))) (Z E10 E11 o12 o13 o14) = some (.d (.bool (!decide (tot = 0))), Z E10 E11 o12 o13 o14) := e_cmp (x := .int tot) (y := .int 0) rfl rfl rfl rfl (c_nei _ _)
    have b3 := e_and (a := .cmp .eq (.var 6) (.var 9)) b1 (fun _ => b2) (fun _ => rfl)
    have zero : (decide (one = List.range n) && !decide (tot = 0)) = false := by
      by_cases q : one = List.range n
      · subst q
        have r0 := G.room0 B
        have : tot = 0 := by
          rw [← htot, ← r0]
          refine congrArg List.sum (List.map_congr_left fun j hj => ?_)
          have hj := List.mem_range.mp hj
          unfold gain
          have := imem j hj
          by_cases z : j ∈ F
          · rw [decide_eq_true z] at this
            rw [if_pos z, if_neg (of_decide_eq_false this)]
          · rw [decide_eq_false z] at this
            rw [if_neg z, if_pos (of_decide_eq_true this)]
        rw [decide_eq_true this]; simp
      · rw [decide_eq_false q]; rfl
    rw [zero] at b3
    exact t_of (e_or a1 (fun _ => b3) (fun h => by cases h))
  have s14 : evS (tab W 20) W (.set 12 (.lst (.nil))) (Z E10 E11 o12 o13 o14) = some (.nx, Z E10 E11 (some (.own (encL []))) o13 o14) := s_set (op := .fr (encL [])) (e_lst es_nil (show 0 ≤ 16777216 by decide)) (put_ok (o := o12) rfl f12)
  obtain ⟨u, hu⟩ := ok.ne
  have sides := G.sides B ok.ev ok.mn (ok.lt u hu) hu
  let I : Nat → Stt → Prop := fun i st => ∃ o13 o14, Fr o13 ∧ Fr o14 ∧ st = Z E10 E11 (some (.own (encL ((List.range i).filter fun t => decide (t ∈ one))))) o13 o14
  obtain ⟨st', e15, o13', o14', f13', f14', rfl⟩ := forL_range (n := ties.length) (st := Z E10 E11 (some (.own (encL []))) o13 o14) (f := fun x st1 => (asg (.nm 13) x st1).bind fun st2 => evSs (tab W 20) W bSide st2) I
    (fun t ht st ⟨o13, o14, f13, f14, es⟩ => by
      subst es
      let sd := (List.range t).filter fun t => decide (t ∈ one)
      let w0 := wh (rimsW ties turns) (t, 0)
      let w1 := wh (rimsW ties turns) (t, 1)
      obtain ⟨lw0, lw1⟩ := wh_lt R t ht
      let V := Z E10 E11 (some (.own (encL sd))) (some (.val (nI t))) (some (.val (encL [w0, w1])))
      have s1 : evS (tab W 20) W (.set 14 (.call "_law_both" (.cons (.var 4) (.cons (.var 13) (.nil))))) (Z E10 E11 (some (.own (encL sd))) (some (.val (nI t))) o14) = some (.nx, V) := s_set (op := .d (encL [w0, w1])) (e_call (z := (_, .none)) (es_cons (n_d rfl) (es_cons (n_d rfl) es_nil)) (s_law_both (k := 19) R hm ht)) (put_ok (o := o14) rfl f14)
      have g0 : evE (tab W 20) (.cmp .in_ (.ix (.var 14) (.con (.int 0))) (.var 10)) V = some (.d (.bool (decide (w0 ∈ ins))), V) := e_cmp (x := nI w0) (y := encL ins) (e_ix (x := encL [w0, w1]) (y := .int 0) rfl (n_d rfl) rfl rfl) rfl rfl rfl (c_inL _ _)
      have g1 : evE (tab W 20) (.cmp .in_ (.ix (.var 14) (.con (.int 1))) (.var 10)) V = some (.d (.bool (decide (w1 ∈ ins))), V) := e_cmp (x := nI w1) (y := encL ins) (e_ix (x := encL [w0, w1]) (y := .int 1) rfl (n_d rfl) rfl rfl) rfl rfl rfl (c_inL _ _)
      have tt := t_of (e_cmp (o := .ne) g0 g1 rfl rfl (c_neB _ _))
      have val : (!decide (decide (w0 ∈ ins) = decide (w1 ∈ ins))) = decide (t ∈ one) := by
        rw [← sides t ht, imem w0 lw0, imem w1 lw1]
        unfold bd inW
        cases decide (w0 ∈ F) <;> cases decide (w1 ∈ F) <;> rfl
      rw [val] at tt
      have nx : (List.range (t + 1)).filter (fun t => decide (t ∈ one)) = if t ∈ one then sd ++ [t] else sd := by
        rw [List.range_succ, List.filter_append]
        by_cases q : t ∈ one
        · simp [q, sd]
        · simp [q, sd]
      have sdl : sd.length ≤ 1000 := by
        have := List.length_filter_le (fun t => decide (t ∈ one)) (List.range t)
        rw [List.length_range] at this
        show (List.filter _ _).length ≤ 1000
        omega
      refine ⟨Z E10 E11 (some (.own (encL ((List.range (t + 1)).filter fun t => decide (t ∈ one))))) (some (.val (nI t))) (some (.val (encL [w0, w1]))), .inl ?_, _, _, fr_val _, fr_val _, rfl⟩
      rw [asg_nm (o := o13) rfl f13, Option.bind_some, nx]
      by_cases q : t ∈ one
      · rw [decide_eq_true q] at tt
        rw [if_pos q]
        have em : (sd ++ [t]).map nI = sd.map nI ++ [nI t] := List.map_append
        exact ss_nx s1 (ss_nx (s_if true tt (ss_nx (s_app (xs := sd.map nI) (d := nI t) (st1 := V) rfl (n_d rfl) rfl (by rw [List.length_map]; show _ < 16777216; omega) (congrArg (fun l => some (Z E10 E11 (some (.own (.list l))) (some (.val (nI t))) (some (.val (encL [w0, w1]))))) em.symm)) ss_nil)) ss_nil)
      · rw [decide_eq_false q] at tt
        rw [if_neg q]
        exact ss_nx s1 (ss_nx (s_if false tt ss_nil) ss_nil)) ⟨o13, o14, f13, f14, rfl⟩
  rw [ok.filter] at e15
  have t16 : tst (evE (tab W 20) (.cmp .ne (.var 12) (.b1 .sorted (.var 6))) (Z E10 E11 (some (.own (encL one))) o13' o14')) = some (false, Z E10 E11 (some (.own (encL one))) o13' o14') := t_of (e_cmp (x := encL one) (y := encL one) rfl (e_b1 (x := encL one) rfl rfl (ok.sorted hm)) rfl rfl (by rw [c_neL, decide_eq_true rfl]; rfl))
  refine ⟨E10, E11, some (.own (encL one)), o13', o14', ?_, fr_val _, fr_val _, fr_own _, f13', f14'⟩
  rw [asg_nm (o := o6) rfl f6, Option.bind_some]
  refine ss_nx s10 (ss_nx s11 (ss_nx (s_if false t12 ss_nil) (ss_nx (s_if false t13 ss_nil) (ss_nx s14 (ss_nx (s_for (i_nat (n := ties.length) (n_d (e_b1 (x := .list (ties.map encH)) (r := .d (.int (ties.length : Int))) (e_ix (x := encW n ties) (y := .int 2) rfl (n_d rfl) rfl rfl) rfl ?_)) (by omega)) e15 rfl) (ss_nx (s_if false t16 ss_nil) ss_nil))))))
  show some (Op.d (.int ((ties.map encH).length : Int))) = _
  rw [List.length_map]
end
end K95

set_option Elab.async false
set_option linter.all false
set_option maxRecDepth 100000
set_option maxHeartbeats 2000000
/-! K95ZE: the law. -/
namespace K95
open PySem PD
theorem pl_H {j : Nat} (h : Hf) : Pl (j + 1) (encH h) := .tuple (fun x hx => by
  simp at hx
  rcases hx with rfl | rfl <;> exact .int _) (by show 2 ≤ 100000; decide)
theorem compL_two {f : D → Stt → Option (Option D × Stt)} {x y a b : D} {st st1 st2 : Stt} (h1 : f x st = some (some a, st1)) (h2 : f y st1 = some (some b, st2)) : compL f [x, y] [] st = some ([a, b], st2) := by
  have l0 : ([] : List D).length < sizeLine := show 0 < 16777216 by decide
  have l1 : ([a] : List D).length < sizeLine := show 1 < 16777216 by decide
  rw [compL, h1, Option.bind_some]
  show (if ([] : List D).length < sizeLine then compL f [y] [a] st1 else none) = _
  rw [if_pos l0, compL, h2, Option.bind_some]
  show (if ([a] : List D).length < sizeLine then compL f [] [a, b] st2 else none) = _
  rw [if_pos l1]; rfl
abbrev bPick : Ce := .ix (.var 5) (.callM "_law_draw" 1 (.cons (.b1 .len (.var 5)) (.nil)))
abbrev bTurn : Css := .cons (.unp (.tp (.cons (.nm 7) (.cons (.nm 8) (.cons (.nm 9) (.nil))))) (.callM "_law_ringed" 1 (.nil))) (.cons (.set 3 (.call "_law_copy" (.cons (.lst (.cons (.var 7) (.cons (.var 8) (.nil)))) (.nil)))) (.cons (.set 4 (.call "_law_rims" (.cons (.var 7) (.cons (.var 8) (.nil))))) (.cons (.set 5 (.bin .add (.lst (.cons (.var 9) (.nil))) (.call "_law_shorter" (.cons (.var 7) (.cons (.var 9) (.nil)))))) (.cons (.for_ (.nm 6) (.seq (.bin .add (.slc (.var 5) (.no) (.so (.con (.int 1)))) (.comp [15] (.nm 15) (.rng (.con (.int 2))) (.no) bPick))) bOne) (.cons (.ife (.not_ (.call "_law_same" (.cons (.var 3) (.cons (.lst (.cons (.var 7) (.cons (.var 8) (.nil)))) (.nil))))) (.cons (.ret (.con (.bool false))) (.nil)) (.nil)) (.nil))))))
section
variable {W : Nat}
abbrev Ys (sc d : D) (o2 o3 o4 o5 o6 o7 o8 o9 o10 o11 o12 o13 o14 : Option SV) : Stt := [some (.val sc), some (.own d), o2, o3, o4, o5, o6, o7, o8, o9, o10, o11, o12, o13, o14, none]
theorem s_turn (hW : 5000 ≤ W) (sc : D) {d : D} (hd : DrawOk d) {o2 o3 o4 o5 o6 o7 o8 o9 o10 o11 o12 o13 o14 : Option SV} (f3 : Fr o3) (f4 : Fr o4) (f5 : Fr o5) (f6 : Fr o6) (f7 : Fr o7) (f8 : Fr o8) (f9 : Fr o9) (f10 : Fr o10) (f11 : Fr o11) (f12 : Fr o12) (f13 : Fr o13) (f14 : Fr o14) :
    ∃ d' o3' o4' o5' o6' o7' o8' o9' o10' o11' o12' o13' o14', evSs (tab W 20) W bTurn (Ys sc d o2 o3 o4 o5 o6 o7 o8 o9 o10 o11 o12 o13 o14) = some (.nx, Ys sc d' o2 o3' o4' o5' o6' o7' o8' o9' o10' o11' o12' o13' o14') ∧ DrawOk d' ∧ Fr o3' ∧ Fr o4' ∧ Fr o5' ∧ Fr o6' ∧ Fr o7' ∧ Fr o8' ∧ Fr o9' ∧ Fr o10' ∧ Fr o11' ∧ Fr o12' ∧ Fr o13' ∧ Fr o14' := by
  obtain ⟨n, ties, turns, d1, G, n8, m17, hd1, eR⟩ := s_law_ringed (W := W) (k := 16) hd hW
  have hm : ties.length ≤ 1000 := by omega
  have nm := G.nm
  have n2 := G.n2
  have M := G.M
  let gv : D := .list [encW n ties, encT turns]
  let rd : D := .list ((rimsW ties turns).map encR)
  let R0 := List.range n
  let shorts : List (List Nat) := (List.range (ties.length - n)).map fun i => shortR ties (n + i)
  let someL : List (List Nat) := R0 :: shorts
  let someD : D := .list (someL.map encL)
  have plg : Pl 4 gv := by
    refine .list (fun x hx => ?_) (by show 2 ≤ 100000; decide)
    simp at hx
    rcases hx with rfl | rfl
    · refine .tuple (fun y hy => ?_) (by show 3 ≤ 100000; decide)
      simp at hy
      rcases hy with rfl | rfl | rfl
      · exact .str _ (by decide +kernel) (by decide +kernel)
      · exact .int _
      · exact .list (fun z hz => by obtain ⟨p, _, rfl⟩ := List.mem_map.mp hz; exact pl_H p) (by rw [List.length_map]; omega)
    · refine .list (fun y hy => ?_) (by rw [List.length_map, M.len]; omega)
      obtain ⟨row, hrow, rfl⟩ := List.mem_map.mp hy
      obtain ⟨p, hp, rfl⟩ := M.row_of hrow
      exact .list (fun z hz => by obtain ⟨q, _, rfl⟩ := List.mem_map.mp hz; exact pl_H q) (by rw [List.length_map]; have := G.row_le p; omega)
  have s1 : evS (tab W 20) W (.unp (.tp (.cons (.nm 7) (.cons (.nm 8) (.cons (.nm 9) (.nil))))) (.callM "_law_ringed" 1 (.nil))) (Ys sc d o2 o3 o4 o5 o6 o7 o8 o9 o10 o11 o12 o13 o14) = some (.nx, Ys sc d1 o2 o3 o4 o5 o6 (some (.val (encW n ties))) (some (.val (encT turns))) (some (.val (encL R0))) o10 o11 o12 o13 o14) := by
    refine s_unp (d := .tuple [encW n ties, encT turns, encL R0]) (st1 := Ys sc d1 o2 o3 o4 o5 o6 o7 o8 o9 o10 o11 o12 o13 o14) (n_d (e_callM (z := (.tuple [encW n ties, encT turns, encL R0], d1)) rfl es_nil rfl eR rfl)) ?_
    show (put 7 (.val (encW n ties)) (Ys sc d1 o2 o3 o4 o5 o6 o7 o8 o9 o10 o11 o12 o13 o14)).bind (fun st1 => asgs (.cons (.nm 8) (.cons (.nm 9) .nil)) [encT turns, encL R0] st1) = _
    rw [put_ok (o := o7) rfl f7, Option.bind_some]
    show (put 8 (.val (encT turns)) (Ys sc d1 o2 o3 o4 o5 o6 (some (.val (encW n ties))) o8 o9 o10 o11 o12 o13 o14)).bind (fun st1 => asgs (.cons (.nm 9) .nil) [encL R0] st1) = _
    rw [put_ok (o := o8) rfl f8, Option.bind_some]
    show (put 9 (.val (encL R0)) (Ys sc d1 o2 o3 o4 o5 o6 (some (.val (encW n ties))) (some (.val (encT turns))) o9 o10 o11 o12 o13 o14)).bind (fun st1 => asgs .nil [] st1) = _
    rw [put_ok (o := o9) rfl f9]; rfl
  let X := fun (o3 o4 o5 : Option SV) => Ys sc d1 o2 o3 o4 o5 o6 (some (.val (encW n ties))) (some (.val (encT turns))) (some (.val (encL R0))) o10 o11 o12 o13 o14
  have pairE : ∀ (st : Stt), st[7]? = some (some (.val (encW n ties))) → st[8]? = some (some (.val (encT turns))) → nmk (evE (tab W 20) (.lst (.cons (.var 7) (.cons (.var 8) (.nil)))) st) = some (gv, st) := fun st h7 h8 =>
    n_fr (e_lst (ds := [encW n ties, encT turns]) (es_cons (n_d (by rw [evE, h7])) (es_cons (n_d (by rw [evE, h8])) es_nil)) (show 2 ≤ 16777216 by decide))
  have s2 : evS (tab W 20) W (.set 3 (.call "_law_copy" (.cons (.lst (.cons (.var 7) (.cons (.var 8) (.nil)))) (.nil)))) (X o3 o4 o5) = some (.nx, X (some (.val gv)) o4 o5) := s_set (op := .d gv) (e_call (z := (gv, .none)) (es_cons (pairE _ rfl rfl) es_nil) (s_law_copy (W := W) (k := 15) (j := 4) plg)) (put_ok (o := o3) rfl f3)
  have s3 : evS (tab W 20) W (.set 4 (.call "_law_rims" (.cons (.var 7) (.cons (.var 8) (.nil))))) (X (some (.val gv)) o4 o5) = some (.nx, X (some (.val gv)) (some (.val rd)) o5) := s_set (op := .d rd) (e_call (z := (rd, .none)) (es_cons (n_d rfl) (es_cons (n_d rfl) es_nil)) (s_law_rims (W := W) (k := 18) M hm hW)) (put_ok (o := o4) rfl f4)
  have hb : ∀ p ∈ ties, p.1 ≤ 1000 ∧ p.2 ≤ 1000 := fun p hp => by
    obtain ⟨t, ht, rfl⟩ := List.getElem_of_mem hp
    have b0 := M.en (t, 0) ⟨ht, Nat.zero_le _⟩
    have b1 := M.en (t, 1) ⟨ht, Nat.le_refl _⟩
    unfold ep at b0 b1
    simp [ht] at b0 b1
    omega
  have shl : shorts.length = ties.length - n := by show ((List.range _).map _).length = _; rw [List.length_map, List.length_range]
  have s4 : evS (tab W 20) W (.set 5 (.bin .add (.lst (.cons (.var 9) (.nil))) (.call "_law_shorter" (.cons (.var 7) (.cons (.var 9) (.nil)))))) (X (some (.val gv)) (some (.val rd)) o5) = some (.nx, X (some (.val gv)) (some (.val rd)) (some (.own someD))) := by
    refine s_set (op := .fr someD) (st1 := X (some (.val gv)) (some (.val rd)) o5) (e_bin (x := .list [encL R0]) (y := .list (shorts.map encL)) (oq := .d (.list (shorts.map encL))) (e_lst (ds := [encL R0]) (es_cons (n_d rfl) es_nil) (show 1 ≤ 16777216 by decide)) ?_ rfl rfl ?_) (put_ok (o := o5) rfl f5)
    · have := s_law_shorter (W := W) (k := 19) (n := n) hm hb nm
      have e := e_call (Φ := tab W 20) (f := "_law_shorter") (es := .cons (.var 7) (.cons (.var 9) (.nil))) (st := X (some (.val gv)) (some (.val rd)) o5) (es_cons (n_d rfl) (es_cons (n_d rfl) es_nil)) this
      have q : (.list (shorts.map encL) : D) = .list ((List.range (ties.length - n)).map fun i => encL (shortR ties (n + i))) := by
        show PyData.list (((List.range _).map _).map encL) = _
        rw [List.map_map]; rfl
      rw [q]; exact e
    · show (if 1 + (shorts.map encL).length ≤ sizeLine then some (Op.fr (.list ([encL R0] ++ shorts.map encL))) else none) = _
      rw [List.length_map, shl, if_pos (show 1 + (ties.length - n) ≤ sizeLine from (by show _ ≤ 16777216; omega))]; rfl
  -- the three rings
  have okAll : ∀ i (h : i < someL.length), RingOk n ties turns someL[i] := fun i h => by
    cases i with
    | zero => exact G.ring0
    | succ i =>
      have hi : i < ties.length - n := by
        have h : i + 1 < shorts.length + 1 := h
        rw [shl] at h; omega
      have e : someL[i + 1] = shortR ties (n + i) := by
        show shorts[i]'(by rw [shl]; exact hi) = _
        simp [shorts]
      rw [e]
      exact G.ringS (by omega) (by omega)
  have slen : someL.length = ties.length - n + 1 := by show shorts.length + 1 = _; rw [shl]
  let Z5 := fun (d : D) (o15 : Option SV) => ([some (.val sc), some (.own d), o2, some (.val gv), some (.val rd), some (.own someD), o6, some (.val (encW n ties)), some (.val (encT turns)), some (.val (encL R0)), o10, o11, o12, o13, o14, o15] : Stt)
  obtain ⟨v1, d2, ev1, lt1, hd2⟩ := s_law_draw (W := W) (k := 19) hd1 (l := someL.length) (by omega) (by omega)
  obtain ⟨v2, d3, ev2, lt2, hd3⟩ := s_law_draw (W := W) (k := 19) hd2 (l := someL.length) (by omega) (by omega)
  have pick : ∀ (x : D) (d d' : D) (v : Nat) (lt : v < someL.length), tab W 20 "_law_draw" [d, nI someL.length] = some (nI v, d') → cTurn (tab W 20) [15] (.nm 15) .no bPick x (Z5 d none) = some (some (encL someL[v]), Z5 d' none) := fun x d d' v lt e => by
    have lenS : evE (tab W 20) (.b1 .len (.var 5)) (Z5 d (some (.val x))) = some (.d (nI someL.length), Z5 d (some (.val x))) := by
      refine e_b1 (x := someD) rfl rfl ?_
      show some (Op.d (.int ((someL.map encL).length : Int))) = _
      rw [List.length_map]; rfl
    have cal : nmk (evE (tab W 20) (.callM "_law_draw" 1 (.cons (.b1 .len (.var 5)) (.nil))) (Z5 d (some (.val x)))) = some (nI v, Z5 d' (some (.val x))) := n_d (e_callM (z := (nI v, d')) rfl (es_cons (n_d lenS) es_nil) rfl e rfl)
    exact turn_no (st1 := Z5 d (some (.val x))) (st2 := Z5 d' (some (.val x))) rfl (n_d (e_ix (x := someD) (y := nI v) rfl cal rfl (ix_map lt))) rfl
  have cmp : evE (tab W 20) (.comp [15] (.nm 15) (.rng (.con (.int 2))) (.no) bPick) (Z5 d1 none) = some (.fr (.list [encL someL[v1], encL someL[v2]]), Z5 d3 none) :=
    e_comp (xs := [.int 0, .int 1]) (lk := none) (st1 := Z5 d1 none) (i_nat (n := 2) (n_d rfl) (by decide)) (compL_two (pick _ d1 d2 v1 lt1 ev1) (pick _ d2 d3 v2 lt2 ev2)) rfl
  let three : List (List Nat) := [R0, someL[v1], someL[v2]]
  have it : evI (tab W 20) (.seq (.bin .add (.slc (.var 5) (.no) (.so (.con (.int 1)))) (.comp [15] (.nm 15) (.rng (.con (.int 2))) (.no) bPick))) (Z5 d1 none) = some (three.map encL, none, Z5 d3 none) := by
    refine i_seq (op := .fr (.list (three.map encL))) (e_bin (x := .list [encL R0]) (y := .list [encL someL[v1], encL someL[v2]]) (op := .fr (.list [encL R0])) (oq := .fr (.list [encL someL[v1], encL someL[v2]])) (e_slc (x := someD) (l := none) (h := some 1) (st1 := Z5 d1 none) rfl v_no (v_so (n_d rfl)) rfl ?_) cmp rfl rfl ?_) rfl
    · show some (Op.fr (.list (((someL.map encL).drop 0).take (HT.sIx (someL.map encL).length (someL.map encL).length (some ((1 : Nat) : Int)) - 0)))) = _
      rw [HT.sIx_nat, List.length_map, Nat.min_eq_left (by omega)]; rfl
    · show (if ([encL R0] : List D).length + ([encL someL[v1], encL someL[v2]] : List D).length ≤ sizeLine then some (Op.fr (.list ([encL R0] ++ [encL someL[v1], encL someL[v2]]))) else none) = _
      rw [if_pos (show ([encL R0] : List D).length + ([encL someL[v1], encL someL[v2]] : List D).length ≤ sizeLine from (show 3 ≤ 16777216 by decide))]; rfl
  have ok3 : ∀ i (h : i < three.length), RingOk n ties turns three[i] := fun i h => by
    match i, h with
    | 0, _ => exact G.ring0
    | 1, _ => exact okAll v1 lt1
    | 2, _ => exact okAll v2 lt2
  let I : Nat → Stt → Prop := fun i st => ∃ o6 o10 o11 o12 o13 o14, Fr o6 ∧ Fr o10 ∧ Fr o11 ∧ Fr o12 ∧ Fr o13 ∧ Fr o14 ∧ st = Zs sc d3 n ties turns o2 (some (.own someD)) o6 o10 o11 o12 o13 o14
  obtain ⟨st', e5, p6, p10, p11, p12, p13, p14, q6, q10, q11, q12, q13, q14, rfl⟩ := forL_list (xs := three) (st := Z5 d3 none) (f := fun x st1 => (asg (.nm 6) x st1).bind fun st2 => evSs (tab W 20) W bOne st2) encL I
    (fun i hi st ⟨o6, o10, o11, o12, o13, o14, f6, f10, f11, f12, f13, f14, es⟩ => by
      subst es
      obtain ⟨o10', o11', o12', o13', o14', e, g10, g11, g12, g13, g14⟩ := s_one (W := W) G hm hW (ok3 i hi) sc d3 (o2 := o2) (o5 := some (.own someD)) f6 f10 f11 f12 f13 f14
      exact ⟨_, .inl e, _, o10', o11', o12', o13', o14', fr_val (encL three[i]), g10, g11, g12, g13, g14, rfl⟩) ⟨o6, o10, o11, o12, o13, o14, f6, f10, f11, f12, f13, f14, rfl⟩
  let V : Stt := Zs sc d3 n ties turns o2 (some (.own someD)) p6 p10 p11 p12 p13 p14
  have h3 : V[3]? = some (some (.val gv)) := rfl
  have h7 : V[7]? = some (some (.val (encW n ties))) := rfl
  have h8 : V[8]? = some (some (.val (encT turns))) := rfl
  have v3 : nmk (evE (tab W 20) (.var 3) V) = some (gv, V) := n_d (by rw [evE, h3])
  have as2 : evEs (tab W 20) (.cons (.var 3) (.cons (.lst (.cons (.var 7) (.cons (.var 8) (.nil)))) (.nil))) V = some ([gv, gv], V) := es_cons v3 (es_cons (pairE V h7 h8) es_nil)
  have sm : tab W 20 "_law_same" [gv, gv] = some (.bool true, .none) := s_law_same (W := W) (k := 15) (j := 4) plg
  have c6 : evE (tab W 20) (.call "_law_same" (.cons (.var 3) (.cons (.lst (.cons (.var 7) (.cons (.var 8) (.nil)))) (.nil)))) V = some (.d (.bool true), V) := e_call (z := (.bool true, .none)) as2 sm
  have t6 : tst (evE (tab W 20) (.not_ (.call "_law_same" (.cons (.var 3) (.cons (.lst (.cons (.var 7) (.cons (.var 8) (.nil)))) (.nil))))) V) = some (false, V) := t_of (e_not (v := true) (t_of c6))
  exact ⟨d3, some (.val gv), some (.val rd), some (.own someD), p6, some (.val (encW n ties)), some (.val (encT turns)), some (.val (encL R0)), p10, p11, p12, p13, p14,
    ss_nx s1 (ss_nx s2 (ss_nx s3 (ss_nx s4 (ss_nx (s_for it e5 rfl) (ss_nx (s_if false t6 ss_nil) ss_nil))))), hd3, fr_val _, fr_val _, fr_own _, q6, fr_val _, fr_val _, fr_val _, q10, q11, q12, q13, q14⟩
theorem law_any (hW : 5000 ≤ W) (ns : List Int) : tab W 21 "law" [.list (ns.map PyData.int)] = some (.bool true, .none) := by
  let sc : D := .list (ns.map PyData.int)
  let I : Nat → Stt → Prop := fun i st => ∃ d o2 o3 o4 o5 o6 o7 o8 o9 o10 o11 o12 o13 o14, DrawOk d ∧ Fr o2 ∧ Fr o3 ∧ Fr o4 ∧ Fr o5 ∧ Fr o6 ∧ Fr o7 ∧ Fr o8 ∧ Fr o9 ∧ Fr o10 ∧ Fr o11 ∧ Fr o12 ∧ Fr o13 ∧ Fr o14 ∧ st = Ys sc d o2 o3 o4 o5 o6 o7 o8 o9 o10 o11 o12 o13 o14
  obtain ⟨st', e, d', o2, o3, o4, o5, o6, o7, o8, o9, o10, o11, o12, o13, o14, _, _, _, _, _, _, _, _, _, _, _, _, _, _, rfl⟩ := forL_range (n := 3) (st := Ys sc (Dr ns 0 0 1) none none none none none none none none none none none none none) (f := fun x st1 => (asg (.nm 2) x st1).bind fun st2 => evSs (tab W 20) W bTurn st2) I
    (fun i hi st ⟨d, o2, o3, o4, o5, o6, o7, o8, o9, o10, o11, o12, o13, o14, hd, f2, f3, f4, f5, f6, f7, f8, f9, f10, f11, f12, f13, f14, es⟩ => by
      subst es
      obtain ⟨d', o3', o4', o5', o6', o7', o8', o9', o10', o11', o12', o13', o14', e, hd', g3, g4, g5, g6, g7, g8, g9, g10, g11, g12, g13, g14⟩ := s_turn hW sc (o2 := some (.val (.int (i : Int)))) hd f3 f4 f5 f6 f7 f8 f9 f10 f11 f12 f13 f14
      refine ⟨_, .inl ?_, d', some (.val (.int (i : Int))), o3', o4', o5', o6', o7', o8', o9', o10', o11', o12', o13', o14', hd', fr_val (.int (i : Int)), g3, g4, g5, g6, g7, g8, g9, g10, g11, g12, g13, g14, rfl⟩
      rw [asg_nm (o := o2) rfl f2, Option.bind_some]
      exact e) ⟨Dr ns 0 0 1, none, none, none, none, none, none, none, none, none, none, none, none, none, ⟨ns, 0, 0, 1, rfl⟩, fr_none, fr_none, fr_none, fr_none, fr_none, fr_none, fr_none, fr_none, fr_none, fr_none, fr_none, fr_none, fr_none, rfl⟩
  rw [t_law]
  exact run_rt (st := Ys sc d' o2 o3 o4 o5 o6 o7 o8 o9 o10 o11 o12 o13 o14) (ss_nx (s_set (op := .fr (Dr ns 0 0 1)) (st1 := [some (.val sc), none, none, none, none, none, none, none, none, none, none, none, none, none, none, none]) (st2 := Ys sc (Dr ns 0 0 1) none none none none none none none none none none none none none) (e_callF (z := (Dr ns 0 0 1, .none)) (es_cons (n_d rfl) es_nil) (s_law_draws (W := W) (k := 19) ns)) rfl) (ss_nx (s_for (i_nat (n := 3) (n_d rfl) (by decide)) e rfl) (ss_rt (s_ret (n_d rfl)))))
end
end K95

set_option Elab.async false
set_option linter.all false
set_option maxRecDepth 100000
set_option maxHeartbeats 0
namespace K95
open PySem L2 PySem.Spec PyProof.Rows PD
/-! ### the text -/
def at_ (i : Nat) : Stmt := PySem.Challenge.pw_uncrossed_k95_rings_through_all_points.main.body.getD i (.Pass ⟨0, 0, 0, 0⟩)
abbrev top_all_halves : Stmt := at_ 1
abbrev top_other : Stmt := at_ 2
abbrev top_nexts : Stmt := at_ 4
abbrev top_rims : Stmt := at_ 5
abbrev top_sides_of : Stmt := at_ 7
abbrev top_room_rule : Stmt := at_ 8
abbrev top_ring_rims : Stmt := at_ 9
abbrev top__law_draws : Stmt := at_ 11
abbrev top__law_draw : Stmt := at_ 12
abbrev top__law_same : Stmt := at_ 13
abbrev top__law_copy : Stmt := at_ 14
abbrev top__law_halves : Stmt := at_ 15
abbrev top__law_parts : Stmt := at_ 16
abbrev top__law_least : Stmt := at_ 17
abbrev top__law_rims : Stmt := at_ 18
abbrev top__law_genus : Stmt := at_ 19
abbrev top__law_laid : Stmt := at_ 20
abbrev top__law_ringed : Stmt := at_ 21
abbrev top__law_due : Stmt := at_ 22
abbrev top__law_shorter : Stmt := at_ 23
abbrev top__law_both : Stmt := at_ 24
abbrev top_law : Stmt := at_ 25
abbrev FnP (K : PySem.W.Frag) (x : Str) (st : Stmt) (f : Addr) (fd : FuncData) : Prop := FunD K x x (defArgs st) (defBody st) (defScope st) [] [] f fd
theorem sc_all_halves : FnScope ["web", "t", "s"] ["web"] (defScope top_all_halves) := ⟨rfl, rfl, rfl, by decide +kernel, rfl, by decide +kernel, by decide +kernel⟩
theorem sc_other : FnScope ["half"] ["half"] (defScope top_other) := ⟨rfl, rfl, rfl, by decide +kernel, rfl, by decide +kernel, by decide +kernel⟩
theorem sc_nexts : FnScope ["web", "turns", "follow", "row", "at", "half"] ["web", "turns"] (defScope top_nexts) := ⟨rfl, rfl, rfl, by decide +kernel, rfl, by decide +kernel, by decide +kernel⟩
theorem sc_rims : FnScope ["web", "turns", "follow", "found", "seen", "half", "row", "one"] ["web", "turns"] (defScope top_rims) := ⟨rfl, rfl, rfl, by decide +kernel, rfl, by decide +kernel, by decide +kernel⟩
theorem sc_sides_of : FnScope ["web", "turns", "where", "rows", "at", "half", "t"] ["web", "turns"] (defScope top_sides_of) := ⟨rfl, rfl, rfl, by decide +kernel, rfl, by decide +kernel, by decide +kernel⟩
theorem sc_room_rule : FnScope ["web", "turns", "ring", "inside", "total", "at", "row"] ["web", "turns", "ring"] (defScope top_room_rule) := ⟨rfl, rfl, rfl, by decide +kernel, rfl, by decide +kernel, by decide +kernel⟩
theorem sc_ring_rims : FnScope ["web", "turns", "ring", "pairs", "found", "at", "t", "one"] ["web", "turns", "ring"] (defScope top_ring_rims) := ⟨rfl, rfl, rfl, by decide +kernel, rfl, by decide +kernel, by decide +kernel⟩
theorem sc__law_draws : FnScope ["script"] ["script"] (defScope top__law_draws) := ⟨rfl, rfl, rfl, by decide +kernel, rfl, by decide +kernel, by decide +kernel⟩
theorem sc__law_draw : FnScope ["draws", "limit", "cell", "value"] ["draws", "limit"] (defScope top__law_draw) := ⟨rfl, rfl, rfl, by decide +kernel, rfl, by decide +kernel, by decide +kernel⟩
theorem sc__law_same : FnScope ["x", "due", "right", "key", "at"] ["x", "due"] (defScope top__law_same) := ⟨rfl, rfl, rfl, by decide +kernel, rfl, by decide +kernel, by decide +kernel⟩
theorem sc__law_copy : FnScope ["thing", "found", "key", "part"] ["thing"] (defScope top__law_copy) := ⟨rfl, rfl, rfl, by decide +kernel, rfl, by decide +kernel, by decide +kernel⟩
theorem sc__law_halves : FnScope ["web", "found", "t"] ["web"] (defScope top__law_halves) := ⟨rfl, rfl, rfl, by decide +kernel, rfl, by decide +kernel, by decide +kernel⟩
theorem sc__law_parts : FnScope ["web", "gone", "barred", "found", "first", "part", "at", "t", "point"] ["web", "gone", "barred"] (defScope top__law_parts) := ⟨rfl, rfl, rfl, by decide +kernel, rfl, by decide +kernel, by decide +kernel⟩
theorem sc__law_least : FnScope ["row", "at"] ["row"] (defScope top__law_least) := ⟨rfl, rfl, rfl, by decide +kernel, rfl, by decide +kernel, by decide +kernel⟩
theorem sc__law_rims : FnScope ["web", "turns", "follow", "row", "found", "seen", "half", "at", "here"] ["web", "turns"] (defScope top__law_rims) := ⟨rfl, rfl, rfl, by decide +kernel, rfl, by decide +kernel, by decide +kernel⟩
theorem sc__law_genus : FnScope ["web", "turns", "rows", "found", "part", "ties", "mine", "t", "row"] ["web", "turns"] (defScope top__law_genus) := ⟨rfl, rfl, rfl, by decide +kernel, rfl, by decide +kernel, by decide +kernel⟩
theorem sc__law_laid : FnScope ["turns", "t", "a", "b", "one", "two", "found", "at", "row"] ["turns", "t", "a", "b", "one", "two"] (defScope top__law_laid) := ⟨rfl, rfl, rfl, by decide +kernel, rfl, by decide +kernel, by decide +kernel⟩
theorem sc__law_ringed : FnScope ["draws", "points", "ties", "turns", "k", "made", "fine", "one", "a", "b", "two", "tried"] ["draws"] (defScope top__law_ringed) := ⟨rfl, rfl, rfl, by decide +kernel, rfl, by decide +kernel, by decide +kernel⟩
theorem sc__law_due : FnScope ["web", "turns", "ring", "rows", "where", "k", "found", "at", "half", "t", "both", "one"] ["web", "turns", "ring"] (defScope top__law_due) := ⟨rfl, rfl, rfl, by decide +kernel, rfl, by decide +kernel, by decide +kernel⟩
theorem sc__law_shorter : FnScope ["web", "ring", "rings", "t", "a", "b", "k"] ["web", "ring"] (defScope top__law_shorter) := ⟨rfl, rfl, rfl, by decide +kernel, rfl, by decide +kernel, by decide +kernel⟩
theorem sc__law_both : FnScope ["rows", "t", "found", "s", "k"] ["rows", "t"] (defScope top__law_both) := ⟨rfl, rfl, rfl, by decide +kernel, rfl, by decide +kernel, by decide +kernel⟩
theorem sc_law : FnScope ["script", "draws", "turn", "given", "rows", "some", "one", "web", "turns", "ring", "inside", "total", "sides", "t", "both", "k"] ["script"] (defScope top_law) := ⟨rfl, rfl, rfl, by decide +kernel, rfl, by decide +kernel, by decide +kernel⟩
def retE : List Stmt → Expr
  | [.Return (some e) _] => e
  | _ => .Constant .none 0 ⟨0, 0, 0, 0⟩
/-- what the bodies take: the defs called, the names of the builtins free -/
structure Fx (P : Program) (w : World) (K : PySem.W.Frag) (mg : Str → Option Value) (base : Heap) (k : Nat) (Φ : Tab) : Prop where
  c_all_halves : CbP P w K mg base k "all_halves" (spP K Φ "all_halves" 1)
  c_other : CbP P w K mg base k "other" (spP K Φ "other" 1)
  c_nexts : CbP P w K mg base k "nexts" (spP K Φ "nexts" 2)
  c_rims : CbP P w K mg base k "rims" (spP K Φ "rims" 2)
  c_sides_of : CbP P w K mg base k "sides_of" (spP K Φ "sides_of" 2)
  c_room_rule : CbP P w K mg base k "room_rule" (spP K Φ "room_rule" 3)
  c_ring_rims : CbP P w K mg base k "ring_rims" (spP K Φ "ring_rims" 3)
  c__law_draws : CbP P w K mg base k "_law_draws" (spF K Φ "_law_draws" 1)
  c__law_draw : CbP P w K mg base k "_law_draw" (spM K Φ "_law_draw" 2)
  c__law_same : CbP P w K mg base k "_law_same" (spP K Φ "_law_same" 2)
  c__law_copy : CbP P w K mg base k "_law_copy" (spP K Φ "_law_copy" 1)
  c__law_halves : CbP P w K mg base k "_law_halves" (spP K Φ "_law_halves" 1)
  c__law_parts : CbP P w K mg base k "_law_parts" (spP K Φ "_law_parts" 3)
  c__law_least : CbP P w K mg base k "_law_least" (spP K Φ "_law_least" 1)
  c__law_rims : CbP P w K mg base k "_law_rims" (spP K Φ "_law_rims" 2)
  c__law_genus : CbP P w K mg base k "_law_genus" (spP K Φ "_law_genus" 2)
  c__law_laid : CbP P w K mg base k "_law_laid" (spP K Φ "_law_laid" 6)
  c__law_ringed : CbP P w K mg base k "_law_ringed" (spM K Φ "_law_ringed" 1)
  c__law_due : CbP P w K mg base k "_law_due" (spP K Φ "_law_due" 3)
  c__law_shorter : CbP P w K mg base k "_law_shorter" (spP K Φ "_law_shorter" 2)
  c__law_both : CbP P w K mg base k "_law_both" (spP K Φ "_law_both" 2)
  c_law : CbP P w K mg base k "law" (spP K Φ "law" 1)
  m_all : mg "all" = none
  m_any : mg "any" = none
  m_bool : mg "bool" = none
  m_dict : mg "dict" = none
  m_enumerate : mg "enumerate" = none
  m_int : mg "int" = none
  m_isinstance : mg "isinstance" = none
  m_len : mg "len" = none
  m_list : mg "list" = none
  m_min : mg "min" = none
  m_range : mg "range" = none
  m_sorted : mg "sorted" = none
  m_str : mg "str" = none
  m_sum : mg "sum" = none
  m_tuple : mg "tuple" = none
section
variable {P : Program} {w : World} {K : PySem.W.Frag} {mg : Str → Option Value} {base : Heap} {f : Addr} {k W : Nat} {Φ : Tab}
theorem b_all_halves (F : Fx P w K mg base k Φ) (cdv : Value) (A : Around) (outer : List Env) (s : Shared) (H : Hp) (E : XK) (hr : Room k (A.deeper (envOfC "all_halves" (defScope top_all_halves) s.heap.objs.size f cdv))) :
    PSs (cxOf CX0 P w K mg base ["web", "t", "s"] "all_halves" (defScope top_all_halves) f cdv A outer s H E).nox (defBody top_all_halves) (tCs K Φ W fn_all_halves.code) := by
  have nd := (sc_all_halves).nd
  have hu := hr.u65
  have hv := hr.u100
  exact cSs_cons (cS_ret (cE_comp2 (vs1 := [2]) rfl nd (cI_rng (by exact rfl) F.m_range (cE_b1B k_len (by exact rfl) F.m_len bt_len (cE_ix (cE_var 0) (cE_int) hu))) (blkOk_by (own := [("t", 1), ("s", 2)]) (by first | kernel_rfl | rfl)) (fun _ _ _ _ _ => cG_nm 1 nd) (fun _ _ _ _ _ => cI_seq (cE_tup (cA_cons (cE_int) (cA_cons (cE_int) (cA_nil))))) (fun _ _ _ _ _ => cG_nm 2 nd) (fun _ _ _ _ _ => cC_no) (fun _ _ _ _ _ => cE_tup (cA_cons (cE_var 1) (cA_cons (cE_var 2) (cA_nil))))))
    (cSs_nil)
theorem b_other (F : Fx P w K mg base k Φ) (cdv : Value) (A : Around) (outer : List Env) (s : Shared) (H : Hp) (E : XK) (hr : Room k (A.deeper (envOfC "other" (defScope top_other) s.heap.objs.size f cdv))) :
    PSs (cxOf CX0 P w K mg base ["half"] "other" (defScope top_other) f cdv A outer s H E).nox (defBody top_other) (tCs K Φ W fn_other.code) := by
  have nd := (sc_other).nd
  have hu := hr.u65
  have hv := hr.u100
  exact cSs_cons (cS_ret (cE_tup (cA_cons (cE_ix (cE_var 0) (cE_int) hu) (cA_cons (cE_bin o_sub (cE_int) (cE_ix (cE_var 0) (cE_int) hu)) (cA_nil)))))
    (cSs_nil)
theorem b_nexts (F : Fx P w K mg base k Φ) (cdv : Value) (A : Around) (outer : List Env) (s : Shared) (H : Hp) (E : XK) (hr : Room k (A.deeper (envOfC "nexts" (defScope top_nexts) s.heap.objs.size f cdv))) :
    PSs (cxOf CX0 P w K mg base ["web", "turns", "follow", "row", "at", "half"] "nexts" (defScope top_nexts) f cdv A outer s H E).nox (defBody top_nexts) (tCs K Φ W fn_nexts.code) := by
  have nd := (sc_nexts).nd
  have hu := hr.u65
  have hv := hr.u100
  exact cSs_cons (cS_set 2 nd (cE_dict0))
    (cSs_cons (cS_for PassesOwn.never rfl (cI_seq (cE_var 1)) (cG_nm 3 nd) (cSs_cons (cS_for PassesOwn.never rfl (cI_rng (by exact rfl) F.m_range (cE_b1B k_len (by exact rfl) F.m_len bt_len (cE_var 3))) (cG_nm 4 nd) (cSs_cons (cS_sset (pv 2) (cE_ix (cE_var 3) (cE_var 4) hu) (cE_ix (cE_var 3) (cE_ite (cT_cmp (o_lt hu) (cE_bin o_add (cE_var 4) (cE_int)) (cE_b1B k_len (by exact rfl) F.m_len bt_len (cE_var 3)) (by first | rfl | exact nobehind _ (by decide) (by decide))) (cE_bin o_add (cE_var 4) (cE_int)) (cE_int)) hu) hu)
    (cSs_nil)))
    (cSs_nil)))
    (cSs_cons (cS_ret (cE_dcomp rfl nd hu (cI_seq (cE_cal F.c_all_halves hr (by exact rfl) (cA_cons (cE_var 0) (cA_nil)))) (blkOk_by (own := [("half", 5)]) (by first | kernel_rfl | rfl)) (fun _ _ _ _ _ => cG_nm 5 nd) (fun _ _ _ _ _ => cE_var 5) (fun _ _ _ _ _ => cE_ix (cE_var 2) (cE_cal F.c_other hr (by exact rfl) (cA_cons (cE_var 5) (cA_nil))) hu)))
    (cSs_nil)))
theorem b_rims (F : Fx P w K mg base k Φ) (cdv : Value) (A : Around) (outer : List Env) (s : Shared) (H : Hp) (E : XK) (hr : Room k (A.deeper (envOfC "rims" (defScope top_rims) s.heap.objs.size f cdv))) :
    PSs (cxOf CX0 P w K mg base ["web", "turns", "follow", "found", "seen", "half", "row", "one"] "rims" (defScope top_rims) f cdv A outer s H E).nox (defBody top_rims) (tCs K Φ W fn_rims.code) := by
  have nd := (sc_rims).nd
  have hu := hr.u65
  have hv := hr.u100
  exact cSs_cons (cS_set 2 nd (cE_cal F.c_nexts hr (by exact rfl) (cA_cons (cE_var 0) (cA_cons (cE_var 1) (cA_nil)))))
    (cSs_cons (cS_set 3 nd (cE_lst (cA_nil)))
    (cSs_cons (cS_set 4 nd (cE_dict0))
    (cSs_cons (cS_for PassesOwn.never rfl (cI_seq (cE_cal F.c_all_halves hr (by exact rfl) (cA_cons (cE_var 0) (cA_nil)))) (cG_nm 5 nd) (cSs_cons (cS_if (cT_cmp (o_nin hu) (cE_var 5) (cE_var 4) (by first | rfl | exact nobehind _ (by decide) (by decide))) (cSs_cons (cS_set 6 nd (cE_lst (cA_cons (cE_var 5) (cA_nil))))
    (cSs_cons (cS_while PassesOwn.never (cT_cmp (o_ne hu) (cE_ix (cE_var 2) (cE_ix (cE_var 6) (cE_neg (cE_int)) hu) hu) (cE_var 5) (by first | rfl | exact nobehind _ (by decide) (by decide))) (cSs_cons (cS_app (pv 6) (cE_ix (cE_var 2) (cE_ix (cE_var 6) (cE_neg (cE_int)) hu) hu))
    (cSs_nil)))
    (cSs_cons (cS_for PassesOwn.never rfl (cI_seq (cE_var 6)) (cG_nm 7 nd) (cSs_cons (cS_sset (pv 4) (cE_var 7) (cE_bl) hu)
    (cSs_nil)))
    (cSs_cons (cS_app (pv 3) (cE_var 6))
    (cSs_nil))))) (cSs_nil))
    (cSs_nil)))
    (cSs_cons (cS_ret (cE_var 3))
    (cSs_nil)))))
theorem b_sides_of (F : Fx P w K mg base k Φ) (cdv : Value) (A : Around) (outer : List Env) (s : Shared) (H : Hp) (E : XK) (hr : Room k (A.deeper (envOfC "sides_of" (defScope top_sides_of) s.heap.objs.size f cdv))) :
    PSs (cxOf CX0 P w K mg base ["web", "turns", "where", "rows", "at", "half", "t"] "sides_of" (defScope top_sides_of) f cdv A outer s H E).nox (defBody top_sides_of) (tCs K Φ W fn_sides_of.code) := by
  have nd := (sc_sides_of).nd
  have hu := hr.u65
  have hv := hr.u100
  exact cSs_cons (cS_set 2 nd (cE_dict0))
    (cSs_cons (cS_set 3 nd (cE_cal F.c_rims hr (by exact rfl) (cA_cons (cE_var 0) (cA_cons (cE_var 1) (cA_nil)))))
    (cSs_cons (cS_for PassesOwn.never rfl (cI_rng (by exact rfl) F.m_range (cE_b1B k_len (by exact rfl) F.m_len bt_len (cE_var 3))) (cG_nm 4 nd) (cSs_cons (cS_for PassesOwn.never rfl (cI_seq (cE_ix (cE_var 3) (cE_var 4) hu)) (cG_nm 5 nd) (cSs_cons (cS_sset (pv 2) (cE_var 5) (cE_var 4) hu)
    (cSs_nil)))
    (cSs_nil)))
    (cSs_cons (cS_ret (cE_comp rfl nd (cI_rng (by exact rfl) F.m_range (cE_b1B k_len (by exact rfl) F.m_len bt_len (cE_ix (cE_var 0) (cE_int) hu))) (blkOk_by (own := [("t", 6)]) (by first | kernel_rfl | rfl)) (fun _ _ _ _ _ => cG_nm 6 nd) (fun _ _ _ _ _ => cC_no) (fun _ _ _ _ _ => cE_tup (cA_cons (cE_ix (cE_var 2) (cE_tup (cA_cons (cE_var 6) (cA_cons (cE_int) (cA_nil)))) hu) (cA_cons (cE_ix (cE_var 2) (cE_tup (cA_cons (cE_var 6) (cA_cons (cE_int) (cA_nil)))) hu) (cA_nil))))))
    (cSs_nil))))
theorem b_room_rule (F : Fx P w K mg base k Φ) (cdv : Value) (A : Around) (outer : List Env) (s : Shared) (H : Hp) (E : XK) (hr : Room k (A.deeper (envOfC "room_rule" (defScope top_room_rule) s.heap.objs.size f cdv))) :
    PSs (cxOf CX0 P w K mg base ["web", "turns", "ring", "inside", "total", "at", "row"] "room_rule" (defScope top_room_rule) f cdv A outer s H E).nox (defBody top_room_rule) (tCs K Φ W fn_room_rule.code) := by
  have nd := (sc_room_rule).nd
  have hu := hr.u65
  have hv := hr.u100
  exact cSs_cons (cS_setComp (i := 3) rfl nd rfl rfl (by rfl) (cI_enum (by exact rfl) F.m_enumerate (cE_cal F.c_rims hr (by exact rfl) (cA_cons (cE_var 0) (cA_cons (cE_var 1) (cA_nil))))) (blkOk_by (own := [("at", 5), ("row", 6)]) (by first | kernel_rfl | rfl)) (fun _ _ _ _ _ => cG_tup rfl (cGs_cons (cG_nm 5 nd) (cGs_cons (cG_nm 6 nd) (cGs_nil)))) (fun _ _ _ _ _ => cC_so (cT_cmp (o_in hu) (cE_var 5) (cE_cal F.c_ring_rims hr (by exact rfl) (cA_cons (cE_var 0) (cA_cons (cE_var 1) (cA_cons (cE_var 2) (cA_nil))))) (by first | rfl | exact nobehind _ (by decide) (by decide)))) (fun _ _ _ _ _ => cE_var 5))
    (cSs_cons (cS_set 4 nd (cE_int))
    (cSs_cons (cS_for PassesOwn.never rfl (cI_enum (by exact rfl) F.m_enumerate (cE_cal F.c_rims hr (by exact rfl) (cA_cons (cE_var 0) (cA_cons (cE_var 1) (cA_nil))))) (cG_tup rfl (cGs_cons (cG_nm 5 nd) (cGs_cons (cG_nm 6 nd) (cGs_nil)))) (cSs_cons (cS_augI (o := .add) 4 ip_add nd (cE_ite (cT_cmp (o_in hu) (cE_var 5) (cE_var 3) (by first | rfl | exact nobehind _ (by decide) (by decide))) (cE_bin o_sub (cE_b1B k_len (by exact rfl) F.m_len bt_len (cE_var 6)) (cE_int)) (cE_bin o_sub (cE_int) (cE_b1B k_len (by exact rfl) F.m_len bt_len (cE_var 6)))) (by intro a b z h; cases h; rfl))
    (cSs_nil)))
    (cSs_cons (cS_ret (cE_var 4))
    (cSs_nil))))
theorem b_ring_rims (F : Fx P w K mg base k Φ) (cdv : Value) (A : Around) (outer : List Env) (s : Shared) (H : Hp) (E : XK) (hr : Room k (A.deeper (envOfC "ring_rims" (defScope top_ring_rims) s.heap.objs.size f cdv))) :
    PSs (cxOf CX0 P w K mg base ["web", "turns", "ring", "pairs", "found", "at", "t", "one"] "ring_rims" (defScope top_ring_rims) f cdv A outer s H E).nox (defBody top_ring_rims) (tCs K Φ W fn_ring_rims.code) := by
  have nd := (sc_ring_rims).nd
  have hu := hr.u65
  have hv := hr.u100
  exact cSs_cons (cS_set 3 nd (cE_cal F.c_sides_of hr (by exact rfl) (cA_cons (cE_var 0) (cA_cons (cE_var 1) (cA_nil)))))
    (cSs_cons (cS_set 4 nd (cE_lst (cA_cons (cE_bin o_sub (cE_b1B k_len (by exact rfl) F.m_len bt_len (cE_cal F.c_rims hr (by exact rfl) (cA_cons (cE_var 0) (cA_cons (cE_var 1) (cA_nil))))) (cE_int)) (cA_nil))))
    (cSs_cons (cS_set 5 nd (cE_int))
    (cSs_cons (cS_while PassesOwn.never (cT_cmp (o_lt hu) (cE_var 5) (cE_b1B k_len (by exact rfl) F.m_len bt_len (cE_var 4)) (by first | rfl | exact nobehind _ (by decide) (by decide))) (cSs_cons (cS_for PassesOwn.never rfl (cI_rng (by exact rfl) F.m_range (cE_b1B k_len (by exact rfl) F.m_len bt_len (cE_var 3))) (cG_nm 6 nd) (cSs_cons (cS_if ((cW_and (cT_cmp (o_nin hu) (cE_var 6) (cE_var 2) (by first | rfl | exact nobehind _ (by decide) (by decide))) (cW_and1 (cT_cmp (o_in hu) (cE_ix (cE_var 4) (cE_var 5) hu) (cE_ix (cE_var 3) (cE_var 6) hu) (by first | rfl | exact nobehind _ (by decide) (by decide))))).pt) (cSs_cons (cS_set 4 nd (cE_bin o_add (cE_var 4) (cE_comp rfl nd (cI_seq (cE_ix (cE_var 3) (cE_var 6) hu)) (blkOk_by (own := [("one", 7)]) (by first | kernel_rfl | rfl)) (fun _ _ _ _ _ => cG_nm 7 nd) (fun _ _ _ _ _ => cC_so (cT_cmp (o_nin hu) (cE_var 7) (cE_var 4) (by first | rfl | exact nobehind _ (by decide) (by decide)))) (fun _ _ _ _ _ => cE_var 7))))
    (cSs_nil)) (cSs_nil))
    (cSs_nil)))
    (cSs_cons (cS_augI (o := .add) 5 ip_add nd (cE_int) (by intro a b z h; cases h; rfl))
    (cSs_nil))))
    (cSs_cons (cS_ret (cE_comp rfl nd (cI_rng (by exact rfl) F.m_range (cE_b1B k_len (by exact rfl) F.m_len bt_len (cE_cal F.c_rims hr (by exact rfl) (cA_cons (cE_var 0) (cA_cons (cE_var 1) (cA_nil)))))) (blkOk_by (own := [("one", 7)]) (by first | kernel_rfl | rfl)) (fun _ _ _ _ _ => cG_nm 7 nd) (fun _ _ _ _ _ => cC_so (cT_cmp (o_nin hu) (cE_var 7) (cE_var 4) (by first | rfl | exact nobehind _ (by decide) (by decide)))) (fun _ _ _ _ _ => cE_var 7)))
    (cSs_nil)))))
theorem b__law_draws (F : Fx P w K mg base k Φ) (cdv : Value) (A : Around) (outer : List Env) (s : Shared) (H : Hp) (E : XK) (hr : Room k (A.deeper (envOfC "_law_draws" (defScope top__law_draws) s.heap.objs.size f cdv))) :
    PE (cxOf CX0 P w K mg base ["script"] "_law_draws" (defScope top__law_draws) f cdv A outer s H E).nox (retE (defBody top__law_draws)) (tE K Φ (.lst (.cons (.b1 .list (.var 0)) (.cons (.con (.int 0)) (.cons (.con (.int 0)) (.cons (.con (.int 1)) (.nil))))))) := by
  have nd := (sc__law_draws).nd
  have hu := hr.u65
  have hv := hr.u100
  exact cE_lst (cA_cons (cE_b1T k_list (by exact rfl) F.m_list bt_list (cE_var 0)) (cA_cons (cE_int) (cA_cons (cE_int) (cA_cons (cE_int) (cA_nil)))))
theorem b__law_draw (F : Fx P w K mg base k Φ) (cdv : Value) (A : Around) (outer : List Env) (s : Shared) (H : Hp) (E : XK) (hr : Room k (A.deeper (envOfC "_law_draw" (defScope top__law_draw) s.heap.objs.size f cdv))) :
    PSs (cxOf CX0 P w K mg base ["draws", "limit", "cell", "value"] "_law_draw" (defScope top__law_draw) f cdv A outer s H E).nox (defBody top__law_draw) (tCs K Φ W fn__law_draw.code) := by
  have nd := (sc__law_draw).nd
  have hu := hr.u65
  have hv := hr.u100
  exact cSs_cons (cS_if ((cW_and (cT_cmp (o_eq hu) (cE_ix (cE_var 0) (cE_int) hu) (cE_int) (by first | rfl | exact nobehind _ (by decide) (by decide))) (cW_and1 (cT_cmp (o_lt hu) (cE_ix (cE_var 0) (cE_int) hu) (cE_b1B k_len (by exact rfl) F.m_len bt_len (cE_ix (cE_var 0) (cE_int) hu)) (by first | rfl | exact nobehind _ (by decide) (by decide))))).pt) (cSs_cons (cS_set 2 nd (cE_ix (cE_ix (cE_var 0) (cE_int) hu) (cE_ix (cE_var 0) (cE_int) hu) hu))
    (cSs_cons (cS_sset (pv 0) (cE_int) (cE_bin o_add (cE_ix (cE_var 0) (cE_int) hu) (cE_int)) hu)
    (cSs_cons (cS_if (cT_cmp (o_ge hu) (cE_var 2) (cE_bin o_pow (cE_int) (cE_int)) (by first | rfl | exact nobehind _ (by decide) (by decide))) (cSs_cons (cS_sset (pv 0) (cE_int) (cE_var 2) hu)
    (cSs_nil)) (cSs_nil))
    (cSs_cons (cS_sset (pv 0) (cE_int) (cE_bin o_mod (cE_b1T k_int (by exact rfl) F.m_int bt_int (cE_bin o_add (cE_bin o_add (cE_bin o_mul (cE_ix (cE_var 0) (cE_int) hu) (cE_int)) (cE_var 2)) (cE_int))) (cE_int)) hu)
    (cSs_nil))))) (cSs_nil))
    (cSs_cons (cS_if (cT_cmp (o_gt hu) (cE_ix (cE_var 0) (cE_int) hu) (cE_int) (by first | rfl | exact nobehind _ (by decide) (by decide))) (cSs_cons (cS_set 3 nd (cE_bin o_mod (cE_b1T k_int (by exact rfl) F.m_int bt_int (cE_ix (cE_var 0) (cE_int) hu)) (cE_var 1)))
    (cSs_cons (cS_sset (pv 0) (cE_int) (cE_bin o_fdiv (cE_ix (cE_var 0) (cE_int) hu) (cE_var 1)) hu)
    (cSs_cons (cS_ret (cE_var 3))
    (cSs_nil)))) (cSs_nil))
    (cSs_cons (cS_sset (pv 0) (cE_int) (cE_bin o_mod (cE_b1T k_int (by exact rfl) F.m_int bt_int (cE_bin o_add (cE_bin o_mul (cE_ix (cE_var 0) (cE_int) hu) (cE_int)) (cE_int))) (cE_int)) hu)
    (cSs_cons (cS_ret (cE_bin o_mod (cE_b1T k_int (by exact rfl) F.m_int bt_int (cE_bin o_fdiv (cE_ix (cE_var 0) (cE_int) hu) (cE_int))) (cE_var 1)))
    (cSs_nil))))
theorem b__law_same (F : Fx P w K mg base k Φ) (cdv : Value) (A : Around) (outer : List Env) (s : Shared) (H : Hp) (E : XK) (hr : Room k (A.deeper (envOfC "_law_same" (defScope top__law_same) s.heap.objs.size f cdv))) :
    PSs (cxOf CX0 P w K mg base ["x", "due", "right", "key", "at"] "_law_same" (defScope top__law_same) f cdv A outer s H E).nox (defBody top__law_same) (tCs K Φ W fn__law_same.code) := by
  have nd := (sc__law_same).nd
  have hu := hr.u65
  have hv := hr.u100
  exact cSs_cons (cS_if (cT_cmp o_isN (cE_var 1) (cE_non) (by first | rfl | exact nobehind _ (by decide) (by decide))) (cSs_cons (cS_ret (cE_cmp o_isN (cE_var 0) (cE_non) (by first | rfl | exact nobehind _ (by decide) (by decide))))
    (cSs_nil)) (cSs_nil))
    (cSs_cons (cS_if (cT_v (cE_isi1 (t := .bool) (by exact rfl) F.m_isinstance bt_isinstance (cE_var 1) (cE_ty (by exact rfl) F.m_bool bt_bool))) (cSs_cons (cS_ret (cE_and (cE_isi1 (t := .bool) (by exact rfl) F.m_isinstance bt_isinstance (cE_var 0) (cE_ty (by exact rfl) F.m_bool bt_bool)) (cE_one (cE_cmp (o_eq hu) (cE_var 0) (cE_var 1) (by first | rfl | exact nobehind _ (by decide) (by decide))))))
    (cSs_nil)) (cSs_nil))
    (cSs_cons (cS_if (cT_v (cE_isi1 (t := .int) (by exact rfl) F.m_isinstance bt_isinstance (cE_var 1) (cE_ty (by exact rfl) F.m_int bt_int))) (cSs_cons (cS_ret (cE_and (cE_isi1 (t := .int) (by exact rfl) F.m_isinstance bt_isinstance (cE_var 0) (cE_ty (by exact rfl) F.m_int bt_int)) (cE_and (cE_not (cE_isi1 (t := .bool) (by exact rfl) F.m_isinstance bt_isinstance (cE_var 0) (cE_ty (by exact rfl) F.m_bool bt_bool))) (cE_one (cE_cmp (o_eq hu) (cE_var 0) (cE_var 1) (by first | rfl | exact nobehind _ (by decide) (by decide)))))))
    (cSs_nil)) (cSs_nil))
    (cSs_cons (cS_if (cT_v (cE_isi1 (t := .str) (by exact rfl) F.m_isinstance bt_isinstance (cE_var 1) (cE_ty (by exact rfl) F.m_str bt_str))) (cSs_cons (cS_ret (cE_and (cE_isi1 (t := .str) (by exact rfl) F.m_isinstance bt_isinstance (cE_var 0) (cE_ty (by exact rfl) F.m_str bt_str)) (cE_one (cE_cmp (o_eq hu) (cE_var 0) (cE_var 1) (by first | rfl | exact nobehind _ (by decide) (by decide))))))
    (cSs_nil)) (cSs_nil))
    (cSs_cons (cS_if (cT_v (cE_isi1 (t := .dict) (by exact rfl) F.m_isinstance bt_isinstance (cE_var 1) (cE_ty (by exact rfl) F.m_dict bt_dict))) (cSs_cons (cS_if ((cW_or (cT_not (cT_v (cE_isi1 (t := .dict) (by exact rfl) F.m_isinstance bt_isinstance (cE_var 0) (cE_ty (by exact rfl) F.m_dict bt_dict)))) (cW_or (cT_cmp (o_ne hu) (cE_b1B k_len (by exact rfl) F.m_len bt_len (cE_var 0)) (cE_b1B k_len (by exact rfl) F.m_len bt_len (cE_var 1)) (by first | rfl | exact nobehind _ (by decide) (by decide))) (cW_or1 (cT_not (cT_v (cE_b1B (k_all rfl) (by exact rfl) F.m_all bt_all (cE_comp rfl nd (cI_seq (cE_var 1)) (blkOk_by (own := [("key", 3)]) (by first | kernel_rfl | rfl)) (fun _ _ _ _ _ => cG_nm 3 nd) (fun _ _ _ _ _ => cC_no) (fun _ _ _ _ _ => cE_cmp (o_in hu) (cE_var 3) (cE_var 0) (by first | rfl | exact nobehind _ (by decide) (by decide)))))))))).pt) (cSs_cons (cS_ret (cE_bl))
    (cSs_nil)) (cSs_nil))
    (cSs_cons (cS_ret (cE_b1B (k_all rfl) (by exact rfl) F.m_all bt_all (cE_comp rfl nd (cI_seq (cE_var 1)) (blkOk_by (own := [("key", 3)]) (by first | kernel_rfl | rfl)) (fun _ _ _ _ _ => cG_nm 3 nd) (fun _ _ _ _ _ => cC_no) (fun _ _ _ _ _ => cE_cal F.c__law_same hr (by exact rfl) (cA_cons (cE_ix (cE_var 0) (cE_var 3) hu) (cA_cons (cE_ix (cE_var 1) (cE_var 3) hu) (cA_nil)))))))
    (cSs_nil))) (cSs_nil))
    (cSs_cons (cS_if (cT_v (cE_isi1 (t := .list) (by exact rfl) F.m_isinstance bt_isinstance (cE_var 1) (cE_ty (by exact rfl) F.m_list bt_list))) (cSs_cons (cS_set 2 nd (cE_isi1 (t := .list) (by exact rfl) F.m_isinstance bt_isinstance (cE_var 0) (cE_ty (by exact rfl) F.m_list bt_list)))
    (cSs_nil)) (cSs_cons (cS_set 2 nd (cE_isi1 (t := .tuple) (by exact rfl) F.m_isinstance bt_isinstance (cE_var 0) (cE_ty (by exact rfl) F.m_tuple bt_tuple)))
    (cSs_nil)))
    (cSs_cons (cS_ret (cE_and (cE_var 2) (cE_and (cE_cmp (o_eq hu) (cE_b1B k_len (by exact rfl) F.m_len bt_len (cE_var 0)) (cE_b1B k_len (by exact rfl) F.m_len bt_len (cE_var 1)) (by first | rfl | exact nobehind _ (by decide) (by decide))) (cE_one (cE_b1B (k_all rfl) (by exact rfl) F.m_all bt_all (cE_comp rfl nd (cI_rng (by exact rfl) F.m_range (cE_b1B k_len (by exact rfl) F.m_len bt_len (cE_var 1))) (blkOk_by (own := [("at", 4)]) (by first | kernel_rfl | rfl)) (fun _ _ _ _ _ => cG_nm 4 nd) (fun _ _ _ _ _ => cC_no) (fun _ _ _ _ _ => cE_cal F.c__law_same hr (by exact rfl) (cA_cons (cE_ix (cE_var 0) (cE_var 4) hu) (cA_cons (cE_ix (cE_var 1) (cE_var 4) hu) (cA_nil))))))))))
    (cSs_nil)))))))
theorem b__law_copy (F : Fx P w K mg base k Φ) (cdv : Value) (A : Around) (outer : List Env) (s : Shared) (H : Hp) (E : XK) (hr : Room k (A.deeper (envOfC "_law_copy" (defScope top__law_copy) s.heap.objs.size f cdv))) :
    PSs (cxOf CX0 P w K mg base ["thing", "found", "key", "part"] "_law_copy" (defScope top__law_copy) f cdv A outer s H E).nox (defBody top__law_copy) (tCs K Φ W fn__law_copy.code) := by
  have nd := (sc__law_copy).nd
  have hu := hr.u65
  have hv := hr.u100
  exact cSs_cons (cS_if (cT_v (cE_isi1 (t := .list) (by exact rfl) F.m_isinstance bt_isinstance (cE_var 0) (cE_ty (by exact rfl) F.m_list bt_list))) (cSs_cons (cS_ret (cE_comp rfl nd (cI_seq (cE_var 0)) (blkOk_by (own := [("part", 3)]) (by first | kernel_rfl | rfl)) (fun _ _ _ _ _ => cG_nm 3 nd) (fun _ _ _ _ _ => cC_no) (fun _ _ _ _ _ => cE_cal F.c__law_copy hr (by exact rfl) (cA_cons (cE_var 3) (cA_nil)))))
    (cSs_nil)) (cSs_nil))
    (cSs_cons (cS_if (cT_v (cE_isi1 (t := .tuple) (by exact rfl) F.m_isinstance bt_isinstance (cE_var 0) (cE_ty (by exact rfl) F.m_tuple bt_tuple))) (cSs_cons (cS_ret (cE_b1T k_tuple (by exact rfl) F.m_tuple bt_tuple (cE_comp rfl nd (cI_seq (cE_var 0)) (blkOk_by (own := [("part", 3)]) (by first | kernel_rfl | rfl)) (fun _ _ _ _ _ => cG_nm 3 nd) (fun _ _ _ _ _ => cC_no) (fun _ _ _ _ _ => cE_cal F.c__law_copy hr (by exact rfl) (cA_cons (cE_var 3) (cA_nil))))))
    (cSs_nil)) (cSs_nil))
    (cSs_cons (cS_if (cT_v (cE_isi1 (t := .dict) (by exact rfl) F.m_isinstance bt_isinstance (cE_var 0) (cE_ty (by exact rfl) F.m_dict bt_dict))) (cSs_cons (cS_set 1 nd (cE_dict0))
    (cSs_cons (cS_for PassesOwn.never rfl (cI_seq (cE_var 0)) (cG_nm 2 nd) (cSs_cons (cS_sset (pv 1) (cE_var 2) (cE_cal F.c__law_copy hr (by exact rfl) (cA_cons (cE_ix (cE_var 0) (cE_var 2) hu) (cA_nil))) hu)
    (cSs_nil)))
    (cSs_cons (cS_ret (cE_var 1))
    (cSs_nil)))) (cSs_nil))
    (cSs_cons (cS_ret (cE_var 0))
    (cSs_nil))))
theorem b__law_halves (F : Fx P w K mg base k Φ) (cdv : Value) (A : Around) (outer : List Env) (s : Shared) (H : Hp) (E : XK) (hr : Room k (A.deeper (envOfC "_law_halves" (defScope top__law_halves) s.heap.objs.size f cdv))) :
    PSs (cxOf CX0 P w K mg base ["web", "found", "t"] "_law_halves" (defScope top__law_halves) f cdv A outer s H E).nox (defBody top__law_halves) (tCs K Φ W fn__law_halves.code) := by
  have nd := (sc__law_halves).nd
  have hu := hr.u65
  have hv := hr.u100
  exact cSs_cons (cS_set 1 nd (cE_lst (cA_nil)))
    (cSs_cons (cS_for PassesOwn.never rfl (cI_rng (by exact rfl) F.m_range (cE_b1B k_len (by exact rfl) F.m_len bt_len (cE_ix (cE_var 0) (cE_int) hu))) (cG_nm 2 nd) (cSs_cons (cS_app (pv 1) (cE_tup (cA_cons (cE_var 2) (cA_cons (cE_int) (cA_nil)))))
    (cSs_cons (cS_app (pv 1) (cE_tup (cA_cons (cE_var 2) (cA_cons (cE_int) (cA_nil)))))
    (cSs_nil))))
    (cSs_cons (cS_ret (cE_var 1))
    (cSs_nil)))
theorem b__law_parts (F : Fx P w K mg base k Φ) (cdv : Value) (A : Around) (outer : List Env) (s : Shared) (H : Hp) (E : XK) (hr : Room k (A.deeper (envOfC "_law_parts" (defScope top__law_parts) s.heap.objs.size f cdv))) :
    PSs (cxOf CX0 P w K mg base ["web", "gone", "barred", "found", "first", "part", "at", "t", "point"] "_law_parts" (defScope top__law_parts) f cdv A outer s H E).nox (defBody top__law_parts) (tCs K Φ W fn__law_parts.code) := by
  have nd := (sc__law_parts).nd
  have hu := hr.u65
  have hv := hr.u100
  exact cSs_cons (cS_set 3 nd (cE_lst (cA_nil)))
    (cSs_cons (cS_for PassesOwn.never rfl (cI_rng (by exact rfl) F.m_range (cE_ix (cE_var 0) (cE_int) hu)) (cG_nm 4 nd) (cSs_cons (cS_if ((cW_or (cT_cmp (o_in hu) (cE_var 4) (cE_var 2) (by first | rfl | exact nobehind _ (by decide) (by decide))) (cW_or1 (cT_v (cE_b1B (k_any rfl) (by exact rfl) F.m_any bt_any (cE_comp rfl nd (cI_seq (cE_var 3)) (blkOk_by (own := [("part", 5)]) (by first | kernel_rfl | rfl)) (fun _ _ _ _ _ => cG_nm 5 nd) (fun _ _ _ _ _ => cC_no) (fun _ _ _ _ _ => cE_cmp (o_in hu) (cE_var 4) (cE_var 5) (by first | rfl | exact nobehind _ (by decide) (by decide)))))))).pt) (cSs_cons (cS_cnt)
    (cSs_nil)) (cSs_nil))
    (cSs_cons (cS_set 5 nd (cE_lst (cA_cons (cE_var 4) (cA_nil))))
    (cSs_cons (cS_set 6 nd (cE_int))
    (cSs_cons (cS_while PassesOwn.never (cT_cmp (o_lt hu) (cE_var 6) (cE_b1B k_len (by exact rfl) F.m_len bt_len (cE_var 5)) (by first | rfl | exact nobehind _ (by decide) (by decide))) (cSs_cons (cS_for PassesOwn.never rfl (cI_rng (by exact rfl) F.m_range (cE_b1B k_len (by exact rfl) F.m_len bt_len (cE_ix (cE_var 0) (cE_int) hu))) (cG_nm 7 nd) (cSs_cons (cS_if ((cW_and (cT_cmp (o_nin hu) (cE_var 7) (cE_var 1) (by first | rfl | exact nobehind _ (by decide) (by decide))) (cW_and1 (cT_cmp (o_in hu) (cE_ix (cE_var 5) (cE_var 6) hu) (cE_ix (cE_ix (cE_var 0) (cE_int) hu) (cE_var 7) hu) (by first | rfl | exact nobehind _ (by decide) (by decide))))).pt) (cSs_cons (cS_for PassesOwn.never rfl (cI_seq (cE_ix (cE_ix (cE_var 0) (cE_int) hu) (cE_var 7) hu)) (cG_nm 8 nd) (cSs_cons (cS_if ((cW_and (cT_cmp (o_nin hu) (cE_var 8) (cE_var 5) (by first | rfl | exact nobehind _ (by decide) (by decide))) (cW_and1 (cT_cmp (o_nin hu) (cE_var 8) (cE_var 2) (by first | rfl | exact nobehind _ (by decide) (by decide))))).pt) (cSs_cons (cS_app (pv 5) (cE_var 8))
    (cSs_nil)) (cSs_nil))
    (cSs_nil)))
    (cSs_nil)) (cSs_nil))
    (cSs_nil)))
    (cSs_cons (cS_set 6 nd (cE_bin o_add (cE_var 6) (cE_int)))
    (cSs_nil))))
    (cSs_cons (cS_app (pv 3) (cE_b1B (k_sorted hv) (by exact rfl) F.m_sorted bt_sorted (cE_var 5)))
    (cSs_nil)))))))
    (cSs_cons (cS_ret (cE_var 3))
    (cSs_nil)))
theorem b__law_least (F : Fx P w K mg base k Φ) (cdv : Value) (A : Around) (outer : List Env) (s : Shared) (H : Hp) (E : XK) (hr : Room k (A.deeper (envOfC "_law_least" (defScope top__law_least) s.heap.objs.size f cdv))) :
    PSs (cxOf CX0 P w K mg base ["row", "at"] "_law_least" (defScope top__law_least) f cdv A outer s H E).nox (defBody top__law_least) (tCs K Φ W fn__law_least.code) := by
  have nd := (sc__law_least).nd
  have hu := hr.u65
  have hv := hr.u100
  exact cSs_cons (cS_if (cT_cmp (o_eq hu) (cE_b1B k_len (by exact rfl) F.m_len bt_len (cE_var 0)) (cE_int) (by first | rfl | exact nobehind _ (by decide) (by decide))) (cSs_cons (cS_ret (cE_lst (cA_nil)))
    (cSs_nil)) (cSs_nil))
    (cSs_cons (cS_set 1 nd (cE_index hu (cE_var 0) (cE_b1B (k_min rfl hv) (by exact rfl) F.m_min bt_min (cE_var 0))))
    (cSs_cons (cS_ret (cE_bin o_add (cE_slc (cE_var 0) (cO_so (cE_var 1)) (cO_no)) (cE_slc (cE_var 0) (cO_no) (cO_so (cE_var 1)))))
    (cSs_nil)))
theorem b__law_rims (F : Fx P w K mg base k Φ) (cdv : Value) (A : Around) (outer : List Env) (s : Shared) (H : Hp) (E : XK) (hr : Room k (A.deeper (envOfC "_law_rims" (defScope top__law_rims) s.heap.objs.size f cdv))) :
    PSs (cxOf CX0 P w K mg base ["web", "turns", "follow", "row", "found", "seen", "half", "at", "here"] "_law_rims" (defScope top__law_rims) f cdv A outer s H E).nox (defBody top__law_rims) (tCs K Φ W fn__law_rims.code) := by
  have nd := (sc__law_rims).nd
  have hu := hr.u65
  have hv := hr.u100
  exact cSs_cons (cS_set 2 nd (cE_dict0))
    (cSs_cons (cS_for PassesOwn.never rfl (cI_seq (cE_var 1)) (cG_nm 3 nd) (cSs_cons (cS_for PassesOwn.never rfl (cI_rng (by exact rfl) F.m_range (cE_b1B k_len (by exact rfl) F.m_len bt_len (cE_var 3))) (cG_nm 7 nd) (cSs_cons (cS_sset (pv 2) (cE_ix (cE_var 3) (cE_bin o_sub (cE_var 7) (cE_int)) hu) (cE_ix (cE_var 3) (cE_var 7) hu) hu)
    (cSs_nil)))
    (cSs_nil)))
    (cSs_cons (cS_set 4 nd (cE_lst (cA_nil)))
    (cSs_cons (cS_set 5 nd (cE_dict0))
    (cSs_cons (cS_for PassesOwn.never rfl (cI_seq (cE_cal F.c__law_halves hr (by exact rfl) (cA_cons (cE_var 0) (cA_nil)))) (cG_nm 6 nd) (cSs_cons (cS_if (cT_cmp (o_nin hu) (cE_var 6) (cE_var 5) (by first | rfl | exact nobehind _ (by decide) (by decide))) (cSs_cons (cS_set 3 nd (cE_lst (cA_cons (cE_var 6) (cA_nil))))
    (cSs_cons (cS_sset (pv 5) (cE_var 6) (cE_bl) hu)
    (cSs_cons (cS_set 8 nd (cE_ix (cE_var 2) (cE_tup (cA_cons (cE_ix (cE_var 6) (cE_int) hu) (cA_cons (cE_bin o_sub (cE_int) (cE_ix (cE_var 6) (cE_int) hu)) (cA_nil)))) hu))
    (cSs_cons (cS_while PassesOwn.never (cT_cmp (o_ne hu) (cE_var 8) (cE_var 6) (by first | rfl | exact nobehind _ (by decide) (by decide))) (cSs_cons (cS_app (pv 3) (cE_var 8))
    (cSs_cons (cS_sset (pv 5) (cE_var 8) (cE_bl) hu)
    (cSs_cons (cS_set 8 nd (cE_ix (cE_var 2) (cE_tup (cA_cons (cE_ix (cE_var 8) (cE_int) hu) (cA_cons (cE_bin o_sub (cE_int) (cE_ix (cE_var 8) (cE_int) hu)) (cA_nil)))) hu))
    (cSs_nil)))))
    (cSs_cons (cS_app (pv 4) (cE_cal F.c__law_least hr (by exact rfl) (cA_cons (cE_var 3) (cA_nil))))
    (cSs_nil)))))) (cSs_nil))
    (cSs_nil)))
    (cSs_cons (cS_ret (cE_b1B (k_sorted hv) (by exact rfl) F.m_sorted bt_sorted (cE_var 4)))
    (cSs_nil))))))
theorem b__law_genus (F : Fx P w K mg base k Φ) (cdv : Value) (A : Around) (outer : List Env) (s : Shared) (H : Hp) (E : XK) (hr : Room k (A.deeper (envOfC "_law_genus" (defScope top__law_genus) s.heap.objs.size f cdv))) :
    PSs (cxOf CX0 P w K mg base ["web", "turns", "rows", "found", "part", "ties", "mine", "t", "row"] "_law_genus" (defScope top__law_genus) f cdv A outer s H E).nox (defBody top__law_genus) (tCs K Φ W fn__law_genus.code) := by
  have nd := (sc__law_genus).nd
  have hu := hr.u65
  have hv := hr.u100
  exact cSs_cons (cS_set 2 nd (cE_cal F.c__law_rims hr (by exact rfl) (cA_cons (cE_var 0) (cA_cons (cE_var 1) (cA_nil)))))
    (cSs_cons (cS_set 3 nd (cE_int))
    (cSs_cons (cS_for PassesOwn.never rfl (cI_seq (cE_cal F.c__law_parts hr (by exact rfl) (cA_cons (cE_var 0) (cA_cons (cE_lst (cA_nil)) (cA_cons (cE_lst (cA_nil)) (cA_nil)))))) (cG_nm 4 nd) (cSs_cons (cS_set 5 nd (cE_comp rfl nd (cI_rng (by exact rfl) F.m_range (cE_b1B k_len (by exact rfl) F.m_len bt_len (cE_ix (cE_var 0) (cE_int) hu))) (blkOk_by (own := [("t", 7)]) (by first | kernel_rfl | rfl)) (fun _ _ _ _ _ => cG_nm 7 nd) (fun _ _ _ _ _ => cC_so (cT_cmp (o_in hu) (cE_ix (cE_ix (cE_ix (cE_var 0) (cE_int) hu) (cE_var 7) hu) (cE_int) hu) (cE_var 4) (by first | rfl | exact nobehind _ (by decide) (by decide)))) (fun _ _ _ _ _ => cE_var 7)))
    (cSs_cons (cS_if (cT_cmp (o_gt hu) (cE_b1B k_len (by exact rfl) F.m_len bt_len (cE_var 5)) (cE_int) (by first | rfl | exact nobehind _ (by decide) (by decide))) (cSs_cons (cS_setComp (i := 6) rfl nd rfl rfl (by rfl) (cI_seq (cE_var 2)) (blkOk_by (own := [("row", 8)]) (by first | kernel_rfl | rfl)) (fun _ _ _ _ _ => cG_nm 8 nd) (fun _ _ _ _ _ => cC_so (cT_cmp (o_in hu) (cE_ix (cE_ix (cE_var 8) (cE_int) hu) (cE_int) hu) (cE_var 5) (by first | rfl | exact nobehind _ (by decide) (by decide)))) (fun _ _ _ _ _ => cE_var 8))
    (cSs_cons (cS_set 3 nd (cE_bin o_add (cE_var 3) (cE_bin o_fdiv (cE_bin o_sub (cE_bin o_add (cE_bin o_sub (cE_int) (cE_b1B k_len (by exact rfl) F.m_len bt_len (cE_var 4))) (cE_b1B k_len (by exact rfl) F.m_len bt_len (cE_var 5))) (cE_b1B k_len (by exact rfl) F.m_len bt_len (cE_var 6))) (cE_int))))
    (cSs_nil))) (cSs_nil))
    (cSs_nil))))
    (cSs_cons (cS_ret (cE_var 3))
    (cSs_nil))))
theorem b__law_laid (F : Fx P w K mg base k Φ) (cdv : Value) (A : Around) (outer : List Env) (s : Shared) (H : Hp) (E : XK) (hr : Room k (A.deeper (envOfC "_law_laid" (defScope top__law_laid) s.heap.objs.size f cdv))) :
    PSs (cxOf CX0 P w K mg base ["turns", "t", "a", "b", "one", "two", "found", "at", "row"] "_law_laid" (defScope top__law_laid) f cdv A outer s H E).nox (defBody top__law_laid) (tCs K Φ W fn__law_laid.code) := by
  have nd := (sc__law_laid).nd
  have hu := hr.u65
  have hv := hr.u100
  exact cSs_cons (cS_setComp (i := 6) rfl nd rfl rfl (by rfl) (cI_seq (cE_var 0)) (blkOk_by (own := [("row", 8)]) (by first | kernel_rfl | rfl)) (fun _ _ _ _ _ => cG_nm 8 nd) (fun _ _ _ _ _ => cC_no) (fun _ _ _ _ _ => cE_b1T k_list (by exact rfl) F.m_list bt_list (cE_var 8)))
    (cSs_cons (cS_set 7 nd (cE_ite (cT_cmp o_isN (cE_var 5) (cE_non) (by first | rfl | exact nobehind _ (by decide) (by decide))) (cE_int) (cE_bin o_add (cE_index hu (cE_ix (cE_var 6) (cE_var 3) hu) (cE_var 5)) (cE_int))))
    (cSs_cons (cS_sset (pv 6) (cE_var 3) (cE_bin o_add (cE_bin o_add (cE_slc (cE_ix (cE_var 6) (cE_var 3) hu) (cO_no) (cO_so (cE_var 7))) (cE_lst (cA_cons (cE_tup (cA_cons (cE_var 1) (cA_cons (cE_int) (cA_nil)))) (cA_nil)))) (cE_slc (cE_ix (cE_var 6) (cE_var 3) hu) (cO_so (cE_var 7)) (cO_no))) hu)
    (cSs_cons (cS_set 7 nd (cE_ite (cT_cmp o_isN (cE_var 4) (cE_non) (by first | rfl | exact nobehind _ (by decide) (by decide))) (cE_int) (cE_bin o_add (cE_index hu (cE_ix (cE_var 6) (cE_var 2) hu) (cE_var 4)) (cE_int))))
    (cSs_cons (cS_sset (pv 6) (cE_var 2) (cE_bin o_add (cE_bin o_add (cE_slc (cE_ix (cE_var 6) (cE_var 2) hu) (cO_no) (cO_so (cE_var 7))) (cE_lst (cA_cons (cE_tup (cA_cons (cE_var 1) (cA_cons (cE_int) (cA_nil)))) (cA_nil)))) (cE_slc (cE_ix (cE_var 6) (cE_var 2) hu) (cO_so (cE_var 7)) (cO_no))) hu)
    (cSs_cons (cS_ret (cE_var 6))
    (cSs_nil))))))
theorem b__law_ringed (F : Fx P w K mg base k Φ) (cdv : Value) (A : Around) (outer : List Env) (s : Shared) (H : Hp) (E : XK) (hr : Room k (A.deeper (envOfC "_law_ringed" (defScope top__law_ringed) s.heap.objs.size f cdv))) :
    PSs (cxOf CX0 P w K mg base ["draws", "points", "ties", "turns", "k", "made", "fine", "one", "a", "b", "two", "tried"] "_law_ringed" (defScope top__law_ringed) f cdv A outer s H E).nox (defBody top__law_ringed) (tCs K Φ W fn__law_ringed.code) := by
  have nd := (sc__law_ringed).nd
  have hu := hr.u65
  have hv := hr.u100
  exact cSs_cons (cS_set 1 nd (cE_bin o_add (cE_int) (cE_calM 0 F.c__law_draw hr (by exact rfl) (pv 0) (cA_cons (cE_int) (cA_nil)))))
    (cSs_cons (cS_setComp (i := 2) rfl nd rfl rfl (by rfl) (cI_rng (by exact rfl) F.m_range (cE_var 1)) (blkOk_by (own := [("k", 4)]) (by first | kernel_rfl | rfl)) (fun _ _ _ _ _ => cG_nm 4 nd) (fun _ _ _ _ _ => cC_no) (fun _ _ _ _ _ => cE_tup (cA_cons (cE_var 4) (cA_cons (cE_bin o_mod (cE_b1T k_int (by exact rfl) F.m_int bt_int (cE_bin o_add (cE_var 4) (cE_int))) (cE_var 1)) (cA_nil)))))
    (cSs_cons (cS_setComp (i := 3) rfl nd rfl rfl (by rfl) (cI_rng (by exact rfl) F.m_range (cE_var 1)) (blkOk_by (own := [("k", 4)]) (by first | kernel_rfl | rfl)) (fun _ _ _ _ _ => cG_nm 4 nd) (fun _ _ _ _ _ => cC_no) (fun _ _ _ _ _ => cE_lst (cA_cons (cE_tup (cA_cons (cE_var 4) (cA_cons (cE_int) (cA_nil)))) (cA_cons (cE_tup (cA_cons (cE_bin o_mod (cE_b1T k_int (by exact rfl) F.m_int bt_int (cE_bin o_sub (cE_bin o_add (cE_var 4) (cE_var 1)) (cE_int))) (cE_var 1)) (cA_cons (cE_int) (cA_nil)))) (cA_nil)))))
    (cSs_cons (cS_for PassesOwn.never rfl (cI_rng (by exact rfl) F.m_range (cE_calM 0 F.c__law_draw hr (by exact rfl) (pv 0) (cA_cons (cE_int) (cA_nil)))) (cG_nm 4 nd) (cSs_cons (cS_par2 8 9 rfl nd (cE_calM 0 F.c__law_draw hr (by exact rfl) (pv 0) (cA_cons (cE_var 1) (cA_nil))) (cE_calM 0 F.c__law_draw hr (by exact rfl) (pv 0) (cA_cons (cE_var 1) (cA_nil))))
    (cSs_cons (cS_set 5 nd (cE_tup (cA_cons (cE_str) (cA_cons (cE_var 1) (cA_cons (cE_bin o_add (cE_var 2) (cE_lst (cA_cons (cE_tup (cA_cons (cE_var 8) (cA_cons (cE_var 9) (cA_nil)))) (cA_nil)))) (cA_nil))))))
    (cSs_cons (cS_set 6 nd (cE_lst (cA_nil)))
    (cSs_cons (cS_for PassesOwn.never rfl (cI_seq (cE_ix (cE_var 3) (cE_var 8) hu)) (cG_nm 7 nd) (cSs_cons (cS_for PassesOwn.never rfl (cI_seq (cE_ix (cE_var 3) (cE_var 9) hu)) (cG_nm 10 nd) (cSs_cons (cS_set 11 nd (cE_cal F.c__law_laid hr (by exact rfl) (cA_cons (cE_var 3) (cA_cons (cE_b1B k_len (by exact rfl) F.m_len bt_len (cE_var 2)) (cA_cons (cE_var 8) (cA_cons (cE_var 9) (cA_cons (cE_var 7) (cA_cons (cE_var 10) (cA_nil)))))))))
    (cSs_cons (cS_if (cT_cmp (o_eq hu) (cE_cal F.c__law_genus hr (by exact rfl) (cA_cons (cE_var 5) (cA_cons (cE_var 11) (cA_nil)))) (cE_int) (by first | rfl | exact nobehind _ (by decide) (by decide))) (cSs_cons (cS_app (pv 6) (cE_var 11))
    (cSs_nil)) (cSs_nil))
    (cSs_nil))))
    (cSs_nil)))
    (cSs_cons (cS_if (cT_cmp (o_gt hu) (cE_b1B k_len (by exact rfl) F.m_len bt_len (cE_var 6)) (cE_int) (by first | rfl | exact nobehind _ (by decide) (by decide))) (cSs_cons (cS_set 2 nd (cE_ix (cE_var 5) (cE_int) hu))
    (cSs_cons (cS_set 3 nd (cE_ix (cE_var 6) (cE_calM 0 F.c__law_draw hr (by exact rfl) (pv 0) (cA_cons (cE_b1B k_len (by exact rfl) F.m_len bt_len (cE_var 6)) (cA_nil))) hu))
    (cSs_nil))) (cSs_nil))
    (cSs_nil)))))))
    (cSs_cons (cS_ret (cE_tup (cA_cons (cE_tup (cA_cons (cE_str) (cA_cons (cE_var 1) (cA_cons (cE_var 2) (cA_nil))))) (cA_cons (cE_var 3) (cA_cons (cE_comp rfl nd (cI_rng (by exact rfl) F.m_range (cE_var 1)) (blkOk_by (own := [("k", 4)]) (by first | kernel_rfl | rfl)) (fun _ _ _ _ _ => cG_nm 4 nd) (fun _ _ _ _ _ => cC_no) (fun _ _ _ _ _ => cE_var 4)) (cA_nil))))))
    (cSs_nil)))))
theorem b__law_due (F : Fx P w K mg base k Φ) (cdv : Value) (A : Around) (outer : List Env) (s : Shared) (H : Hp) (E : XK) (hr : Room k (A.deeper (envOfC "_law_due" (defScope top__law_due) s.heap.objs.size f cdv))) :
    PSs (cxOf CX0 P w K mg base ["web", "turns", "ring", "rows", "where", "k", "found", "at", "half", "t", "both", "one"] "_law_due" (defScope top__law_due) f cdv A outer s H E).nox (defBody top__law_due) (tCs K Φ W fn__law_due.code) := by
  have nd := (sc__law_due).nd
  have hu := hr.u65
  have hv := hr.u100
  exact cSs_cons (cS_set 3 nd (cE_cal F.c__law_rims hr (by exact rfl) (cA_cons (cE_var 0) (cA_cons (cE_var 1) (cA_nil)))))
    (cSs_cons (cS_set 4 nd (cE_dict0))
    (cSs_cons (cS_for PassesOwn.never rfl (cI_rng (by exact rfl) F.m_range (cE_b1B k_len (by exact rfl) F.m_len bt_len (cE_var 3))) (cG_nm 5 nd) (cSs_cons (cS_for PassesOwn.never rfl (cI_seq (cE_ix (cE_var 3) (cE_var 5) hu)) (cG_nm 8 nd) (cSs_cons (cS_sset (pv 4) (cE_var 8) (cE_var 5) hu)
    (cSs_nil)))
    (cSs_nil)))
    (cSs_cons (cS_set 6 nd (cE_lst (cA_cons (cE_bin o_sub (cE_b1B k_len (by exact rfl) F.m_len bt_len (cE_var 3)) (cE_int)) (cA_nil))))
    (cSs_cons (cS_set 7 nd (cE_int))
    (cSs_cons (cS_while PassesOwn.never (cT_cmp (o_lt hu) (cE_var 7) (cE_b1B k_len (by exact rfl) F.m_len bt_len (cE_var 6)) (by first | rfl | exact nobehind _ (by decide) (by decide))) (cSs_cons (cS_for PassesOwn.never rfl (cI_rng (by exact rfl) F.m_range (cE_b1B k_len (by exact rfl) F.m_len bt_len (cE_ix (cE_var 0) (cE_int) hu))) (cG_nm 9 nd) (cSs_cons (cS_set 10 nd (cE_lst (cA_cons (cE_ix (cE_var 4) (cE_tup (cA_cons (cE_var 9) (cA_cons (cE_int) (cA_nil)))) hu) (cA_cons (cE_ix (cE_var 4) (cE_tup (cA_cons (cE_var 9) (cA_cons (cE_int) (cA_nil)))) hu) (cA_nil)))))
    (cSs_cons (cS_if ((cW_and (cT_cmp (o_nin hu) (cE_var 9) (cE_var 2) (by first | rfl | exact nobehind _ (by decide) (by decide))) (cW_and1 (cT_cmp (o_in hu) (cE_ix (cE_var 6) (cE_var 7) hu) (cE_var 10) (by first | rfl | exact nobehind _ (by decide) (by decide))))).pt) (cSs_cons (cS_set 6 nd (cE_bin o_add (cE_var 6) (cE_comp rfl nd (cI_seq (cE_var 10)) (blkOk_by (own := [("one", 11)]) (by first | kernel_rfl | rfl)) (fun _ _ _ _ _ => cG_nm 11 nd) (fun _ _ _ _ _ => cC_so (cT_cmp (o_nin hu) (cE_var 11) (cE_var 6) (by first | rfl | exact nobehind _ (by decide) (by decide)))) (fun _ _ _ _ _ => cE_var 11))))
    (cSs_nil)) (cSs_nil))
    (cSs_nil))))
    (cSs_cons (cS_set 7 nd (cE_bin o_add (cE_var 7) (cE_int)))
    (cSs_nil))))
    (cSs_cons (cS_ret (cE_comp rfl nd (cI_rng (by exact rfl) F.m_range (cE_b1B k_len (by exact rfl) F.m_len bt_len (cE_var 3))) (blkOk_by (own := [("k", 5)]) (by first | kernel_rfl | rfl)) (fun _ _ _ _ _ => cG_nm 5 nd) (fun _ _ _ _ _ => cC_so (cT_cmp (o_nin hu) (cE_var 5) (cE_var 6) (by first | rfl | exact nobehind _ (by decide) (by decide)))) (fun _ _ _ _ _ => cE_var 5)))
    (cSs_nil)))))))
theorem b__law_shorter (F : Fx P w K mg base k Φ) (cdv : Value) (A : Around) (outer : List Env) (s : Shared) (H : Hp) (E : XK) (hr : Room k (A.deeper (envOfC "_law_shorter" (defScope top__law_shorter) s.heap.objs.size f cdv))) :
    PSs (cxOf CX0 P w K mg base ["web", "ring", "rings", "t", "a", "b", "k"] "_law_shorter" (defScope top__law_shorter) f cdv A outer s H E).nox (defBody top__law_shorter) (tCs K Φ W fn__law_shorter.code) := by
  have nd := (sc__law_shorter).nd
  have hu := hr.u65
  have hv := hr.u100
  exact cSs_cons (cS_set 2 nd (cE_lst (cA_nil)))
    (cSs_cons (cS_for PassesOwn.never rfl (cI_rng2 (by exact rfl) F.m_range (cE_b1B k_len (by exact rfl) F.m_len bt_len (cE_var 1)) (cE_b1B k_len (by exact rfl) F.m_len bt_len (cE_ix (cE_var 0) (cE_int) hu))) (cG_nm 3 nd) (cSs_cons (cS_unp (cE_b1B (k_sorted hv) (by exact rfl) F.m_sorted bt_sorted (cE_ix (cE_ix (cE_var 0) (cE_int) hu) (cE_var 3) hu)) (cG_tup rfl (cGs_cons (cG_nm 4 nd) (cGs_cons (cG_nm 5 nd) (cGs_nil)))))
    (cSs_cons (cS_app (pv 2) (cE_bin o_add (cE_comp rfl nd (cI_rng2 (by exact rfl) F.m_range (cE_var 4) (cE_var 5)) (blkOk_by (own := [("k", 6)]) (by first | kernel_rfl | rfl)) (fun _ _ _ _ _ => cG_nm 6 nd) (fun _ _ _ _ _ => cC_no) (fun _ _ _ _ _ => cE_var 6)) (cE_lst (cA_cons (cE_var 3) (cA_nil)))))
    (cSs_nil))))
    (cSs_cons (cS_ret (cE_var 2))
    (cSs_nil)))
theorem b__law_both (F : Fx P w K mg base k Φ) (cdv : Value) (A : Around) (outer : List Env) (s : Shared) (H : Hp) (E : XK) (hr : Room k (A.deeper (envOfC "_law_both" (defScope top__law_both) s.heap.objs.size f cdv))) :
    PSs (cxOf CX0 P w K mg base ["rows", "t", "found", "s", "k"] "_law_both" (defScope top__law_both) f cdv A outer s H E).nox (defBody top__law_both) (tCs K Φ W fn__law_both.code) := by
  have nd := (sc__law_both).nd
  have hu := hr.u65
  have hv := hr.u100
  exact cSs_cons (cS_set 2 nd (cE_lst (cA_nil)))
    (cSs_cons (cS_for PassesOwn.never rfl (cI_seq (cE_tup (cA_cons (cE_int) (cA_cons (cE_int) (cA_nil))))) (cG_nm 3 nd) (cSs_cons (cS_set 2 nd (cE_bin o_add (cE_var 2) (cE_comp rfl nd (cI_rng (by exact rfl) F.m_range (cE_b1B k_len (by exact rfl) F.m_len bt_len (cE_var 0))) (blkOk_by (own := [("k", 4)]) (by first | kernel_rfl | rfl)) (fun _ _ _ _ _ => cG_nm 4 nd) (fun _ _ _ _ _ => cC_so (cT_cmp (o_in hu) (cE_tup (cA_cons (cE_var 1) (cA_cons (cE_var 3) (cA_nil)))) (cE_ix (cE_var 0) (cE_var 4) hu) (by first | rfl | exact nobehind _ (by decide) (by decide)))) (fun _ _ _ _ _ => cE_var 4))))
    (cSs_nil)))
    (cSs_cons (cS_ret (cE_var 2))
    (cSs_nil)))
theorem b_law (F : Fx P w K mg base k Φ) (cdv : Value) (A : Around) (outer : List Env) (s : Shared) (H : Hp) (E : XK) (hr : Room k (A.deeper (envOfC "law" (defScope top_law) s.heap.objs.size f cdv))) :
    PSs (cxOf CX0 P w K mg base ["script", "draws", "turn", "given", "rows", "some", "one", "web", "turns", "ring", "inside", "total", "sides", "t", "both", "k"] "law" (defScope top_law) f cdv A outer s H E).nox (defBody top_law) (tCs K Φ W fn_law.code) := by
  have nd := (sc_law).nd
  have hu := hr.u65
  have hv := hr.u100
  exact cSs_cons (cS_set 1 nd (cE_calF F.c__law_draws hr (by exact rfl) (cA_cons (cE_var 0) (cA_nil))))
    (cSs_cons (cS_for PassesOwn.never rfl (cI_rng (by exact rfl) F.m_range (cE_int)) (cG_nm 2 nd) (cSs_cons (cS_unp (cE_calM 1 F.c__law_ringed hr (by exact rfl) (pv 1) (cA_nil)) (cG_tup rfl (cGs_cons (cG_nm 7 nd) (cGs_cons (cG_nm 8 nd) (cGs_cons (cG_nm 9 nd) (cGs_nil))))))
    (cSs_cons (cS_set 3 nd (cE_cal F.c__law_copy hr (by exact rfl) (cA_cons (cE_lst (cA_cons (cE_var 7) (cA_cons (cE_var 8) (cA_nil)))) (cA_nil))))
    (cSs_cons (cS_set 4 nd (cE_cal F.c__law_rims hr (by exact rfl) (cA_cons (cE_var 7) (cA_cons (cE_var 8) (cA_nil)))))
    (cSs_cons (cS_set 5 nd (cE_bin o_add (cE_lst (cA_cons (cE_var 9) (cA_nil))) (cE_cal F.c__law_shorter hr (by exact rfl) (cA_cons (cE_var 7) (cA_cons (cE_var 9) (cA_nil))))))
    (cSs_cons (cS_for PassesOwn.never rfl (cI_seq (cE_bin o_add (cE_slc (cE_var 5) (cO_no) (cO_so (cE_int))) (cE_comp rfl nd (cI_rng (by exact rfl) F.m_range (cE_int)) (blkOk_by (own := [("k", 15)]) (by first | kernel_rfl | rfl)) (fun _ _ _ _ _ => cG_nm 15 nd) (fun _ _ _ _ _ => cC_no) (fun _ _ _ _ _ => cE_ix (cE_var 5) (cE_calM 1 F.c__law_draw hr (by exact rfl) (pv 1) (cA_cons (cE_b1B k_len (by exact rfl) F.m_len bt_len (cE_var 5)) (cA_nil))) hu)))) (cG_nm 6 nd) (cSs_cons (cS_set 10 nd (cE_cal F.c__law_due hr (by exact rfl) (cA_cons (cE_var 7) (cA_cons (cE_var 8) (cA_cons (cE_var 6) (cA_nil))))))
    (cSs_cons (cS_set 11 nd (cE_b1B (k_sum rfl) (by exact rfl) F.m_sum bt_sum (cE_comp rfl nd (cI_rng (by exact rfl) F.m_range (cE_b1B k_len (by exact rfl) F.m_len bt_len (cE_var 4))) (blkOk_by (own := [("k", 15)]) (by first | kernel_rfl | rfl)) (fun _ _ _ _ _ => cG_nm 15 nd) (fun _ _ _ _ _ => cC_no) (fun _ _ _ _ _ => cE_bin o_mul (cE_bin o_sub (cE_b1B k_len (by exact rfl) F.m_len bt_len (cE_ix (cE_var 4) (cE_var 15) hu)) (cE_int)) (cE_ite (cT_cmp (o_in hu) (cE_var 15) (cE_var 10) (by first | rfl | exact nobehind _ (by decide) (by decide))) (cE_int) (cE_neg (cE_int)))))))
    (cSs_cons (cS_if (cT_not (cT_v (cE_cal F.c__law_same hr (by exact rfl) (cA_cons (cE_cal F.c_ring_rims hr (by exact rfl) (cA_cons (cE_ix (cE_var 3) (cE_int) hu) (cA_cons (cE_ix (cE_var 3) (cE_int) hu) (cA_cons (cE_b1T k_list (by exact rfl) F.m_list bt_list (cE_var 6)) (cA_nil))))) (cA_cons (cE_var 10) (cA_nil)))))) (cSs_cons (cS_ret (cE_bl))
    (cSs_nil)) (cSs_nil))
    (cSs_cons (cS_if ((cW_or (cT_not (cT_v (cE_cal F.c__law_same hr (by exact rfl) (cA_cons (cE_cal F.c_room_rule hr (by exact rfl) (cA_cons (cE_ix (cE_var 3) (cE_int) hu) (cA_cons (cE_ix (cE_var 3) (cE_int) hu) (cA_cons (cE_b1T k_list (by exact rfl) F.m_list bt_list (cE_var 6)) (cA_nil))))) (cA_cons (cE_var 11) (cA_nil)))))) (cW_or1 ((cW_and (cT_cmp (o_eq hu) (cE_var 6) (cE_var 9) (by first | rfl | exact nobehind _ (by decide) (by decide))) (cW_and1 (cT_cmp (o_ne hu) (cE_var 11) (cE_int) (by first | rfl | exact nobehind _ (by decide) (by decide))))).pt))).pt) (cSs_cons (cS_ret (cE_bl))
    (cSs_nil)) (cSs_nil))
    (cSs_cons (cS_set 12 nd (cE_lst (cA_nil)))
    (cSs_cons (cS_for PassesOwn.never rfl (cI_rng (by exact rfl) F.m_range (cE_b1B k_len (by exact rfl) F.m_len bt_len (cE_ix (cE_var 7) (cE_int) hu))) (cG_nm 13 nd) (cSs_cons (cS_set 14 nd (cE_cal F.c__law_both hr (by exact rfl) (cA_cons (cE_var 4) (cA_cons (cE_var 13) (cA_nil)))))
    (cSs_cons (cS_if (cT_cmp (o_ne hu) (cE_cmp (o_in hu) (cE_ix (cE_var 14) (cE_int) hu) (cE_var 10) (by first | rfl | exact nobehind _ (by decide) (by decide))) (cE_cmp (o_in hu) (cE_ix (cE_var 14) (cE_int) hu) (cE_var 10) (by first | rfl | exact nobehind _ (by decide) (by decide))) (by first | rfl | exact nobehind _ (by decide) (by decide))) (cSs_cons (cS_app (pv 12) (cE_var 13))
    (cSs_nil)) (cSs_nil))
    (cSs_nil))))
    (cSs_cons (cS_if (cT_cmp (o_ne hu) (cE_var 12) (cE_b1B (k_sorted hv) (by exact rfl) F.m_sorted bt_sorted (cE_var 6)) (by first | rfl | exact nobehind _ (by decide) (by decide))) (cSs_cons (cS_ret (cE_bl))
    (cSs_nil)) (cSs_nil))
    (cSs_nil)))))))))
    (cSs_cons (cS_if (cT_not (cT_v (cE_cal F.c__law_same hr (by exact rfl) (cA_cons (cE_var 3) (cA_cons (cE_lst (cA_cons (cE_var 7) (cA_cons (cE_var 8) (cA_nil)))) (cA_nil)))))) (cSs_cons (cS_ret (cE_bl))
    (cSs_nil)) (cSs_nil))
    (cSs_nil))))))))
    (cSs_cons (cS_ret (cE_bl))
    (cSs_nil)))
end
/-! ### every level -/
structure Gx (K : PySem.W.Frag) (mg : Str → Option Value) : Prop where
  d_all_halves : ∃ f fd, FnP K "all_halves" top_all_halves f fd ∧ mg "all_halves" = some (.ref f)
  d_other : ∃ f fd, FnP K "other" top_other f fd ∧ mg "other" = some (.ref f)
  d_nexts : ∃ f fd, FnP K "nexts" top_nexts f fd ∧ mg "nexts" = some (.ref f)
  d_rims : ∃ f fd, FnP K "rims" top_rims f fd ∧ mg "rims" = some (.ref f)
  d_sides_of : ∃ f fd, FnP K "sides_of" top_sides_of f fd ∧ mg "sides_of" = some (.ref f)
  d_room_rule : ∃ f fd, FnP K "room_rule" top_room_rule f fd ∧ mg "room_rule" = some (.ref f)
  d_ring_rims : ∃ f fd, FnP K "ring_rims" top_ring_rims f fd ∧ mg "ring_rims" = some (.ref f)
  d__law_draws : ∃ f fd, FnP K "_law_draws" top__law_draws f fd ∧ mg "_law_draws" = some (.ref f)
  d__law_draw : ∃ f fd, FnP K "_law_draw" top__law_draw f fd ∧ mg "_law_draw" = some (.ref f)
  d__law_same : ∃ f fd, FnP K "_law_same" top__law_same f fd ∧ mg "_law_same" = some (.ref f)
  d__law_copy : ∃ f fd, FnP K "_law_copy" top__law_copy f fd ∧ mg "_law_copy" = some (.ref f)
  d__law_halves : ∃ f fd, FnP K "_law_halves" top__law_halves f fd ∧ mg "_law_halves" = some (.ref f)
  d__law_parts : ∃ f fd, FnP K "_law_parts" top__law_parts f fd ∧ mg "_law_parts" = some (.ref f)
  d__law_least : ∃ f fd, FnP K "_law_least" top__law_least f fd ∧ mg "_law_least" = some (.ref f)
  d__law_rims : ∃ f fd, FnP K "_law_rims" top__law_rims f fd ∧ mg "_law_rims" = some (.ref f)
  d__law_genus : ∃ f fd, FnP K "_law_genus" top__law_genus f fd ∧ mg "_law_genus" = some (.ref f)
  d__law_laid : ∃ f fd, FnP K "_law_laid" top__law_laid f fd ∧ mg "_law_laid" = some (.ref f)
  d__law_ringed : ∃ f fd, FnP K "_law_ringed" top__law_ringed f fd ∧ mg "_law_ringed" = some (.ref f)
  d__law_due : ∃ f fd, FnP K "_law_due" top__law_due f fd ∧ mg "_law_due" = some (.ref f)
  d__law_shorter : ∃ f fd, FnP K "_law_shorter" top__law_shorter f fd ∧ mg "_law_shorter" = some (.ref f)
  d__law_both : ∃ f fd, FnP K "_law_both" top__law_both f fd ∧ mg "_law_both" = some (.ref f)
  d_law : ∃ f fd, FnP K "law" top_law f fd ∧ mg "law" = some (.ref f)
  m_all : mg "all" = none
  m_any : mg "any" = none
  m_bool : mg "bool" = none
  m_dict : mg "dict" = none
  m_enumerate : mg "enumerate" = none
  m_int : mg "int" = none
  m_isinstance : mg "isinstance" = none
  m_len : mg "len" = none
  m_list : mg "list" = none
  m_min : mg "min" = none
  m_range : mg "range" = none
  m_sorted : mg "sorted" = none
  m_str : mg "str" = none
  m_sum : mg "sum" = none
  m_tuple : mg "tuple" = none
section
variable {P : Program} {w : World} {K : PySem.W.Frag} {mg : Str → Option Value} {base : Heap} {W : Nat}
theorem ok_all_halves {f : Addr} {fd : FuncData} {n : Nat} (D : FnP K "all_halves" top_all_halves f fd) (F : Fx P w K mg base n (tab W n)) : FnOk P w K mg base CX0 (n + 1) f fd ["web"] (spP K (tab W (n + 1)) "all_halves" 1) :=
  fn_okP D sc_all_halves rfl rfl (t_all_halves W n) fun cdv A outer s H E hr => b_all_halves F cdv A outer s H E hr
theorem bi_all_halves {f : Addr} {fd : FuncData} (D : FnP K "all_halves" top_all_halves f fd) : Binds K fd ["web"] [] := D.bindsN fun _ _ _ _ _ _ us hl => match us, hl with | [_], _ => rfl
theorem ok_other {f : Addr} {fd : FuncData} {n : Nat} (D : FnP K "other" top_other f fd) (F : Fx P w K mg base n (tab W n)) : FnOk P w K mg base CX0 (n + 1) f fd ["half"] (spP K (tab W (n + 1)) "other" 1) :=
  fn_okP D sc_other rfl rfl (t_other W n) fun cdv A outer s H E hr => b_other F cdv A outer s H E hr
theorem bi_other {f : Addr} {fd : FuncData} (D : FnP K "other" top_other f fd) : Binds K fd ["half"] [] := D.bindsN fun _ _ _ _ _ _ us hl => match us, hl with | [_], _ => rfl
theorem ok_nexts {f : Addr} {fd : FuncData} {n : Nat} (D : FnP K "nexts" top_nexts f fd) (F : Fx P w K mg base n (tab W n)) : FnOk P w K mg base CX0 (n + 1) f fd ["web", "turns"] (spP K (tab W (n + 1)) "nexts" 2) :=
  fn_okP D sc_nexts rfl rfl (t_nexts W n) fun cdv A outer s H E hr => b_nexts F cdv A outer s H E hr
theorem bi_nexts {f : Addr} {fd : FuncData} (D : FnP K "nexts" top_nexts f fd) : Binds K fd ["web", "turns"] [] := D.bindsN fun _ _ _ _ _ _ us hl => match us, hl with | [_, _], _ => rfl
theorem ok_rims {f : Addr} {fd : FuncData} {n : Nat} (D : FnP K "rims" top_rims f fd) (F : Fx P w K mg base n (tab W n)) : FnOk P w K mg base CX0 (n + 1) f fd ["web", "turns"] (spP K (tab W (n + 1)) "rims" 2) :=
  fn_okP D sc_rims rfl rfl (t_rims W n) fun cdv A outer s H E hr => b_rims F cdv A outer s H E hr
theorem bi_rims {f : Addr} {fd : FuncData} (D : FnP K "rims" top_rims f fd) : Binds K fd ["web", "turns"] [] := D.bindsN fun _ _ _ _ _ _ us hl => match us, hl with | [_, _], _ => rfl
theorem ok_sides_of {f : Addr} {fd : FuncData} {n : Nat} (D : FnP K "sides_of" top_sides_of f fd) (F : Fx P w K mg base n (tab W n)) : FnOk P w K mg base CX0 (n + 1) f fd ["web", "turns"] (spP K (tab W (n + 1)) "sides_of" 2) :=
  fn_okP D sc_sides_of rfl rfl (t_sides_of W n) fun cdv A outer s H E hr => b_sides_of F cdv A outer s H E hr
theorem bi_sides_of {f : Addr} {fd : FuncData} (D : FnP K "sides_of" top_sides_of f fd) : Binds K fd ["web", "turns"] [] := D.bindsN fun _ _ _ _ _ _ us hl => match us, hl with | [_, _], _ => rfl
theorem ok_room_rule {f : Addr} {fd : FuncData} {n : Nat} (D : FnP K "room_rule" top_room_rule f fd) (F : Fx P w K mg base n (tab W n)) : FnOk P w K mg base CX0 (n + 1) f fd ["web", "turns", "ring"] (spP K (tab W (n + 1)) "room_rule" 3) :=
  fn_okP D sc_room_rule rfl rfl (t_room_rule W n) fun cdv A outer s H E hr => b_room_rule F cdv A outer s H E hr
theorem bi_room_rule {f : Addr} {fd : FuncData} (D : FnP K "room_rule" top_room_rule f fd) : Binds K fd ["web", "turns", "ring"] [] := D.bindsN fun _ _ _ _ _ _ us hl => match us, hl with | [_, _, _], _ => rfl
theorem ok_ring_rims {f : Addr} {fd : FuncData} {n : Nat} (D : FnP K "ring_rims" top_ring_rims f fd) (F : Fx P w K mg base n (tab W n)) : FnOk P w K mg base CX0 (n + 1) f fd ["web", "turns", "ring"] (spP K (tab W (n + 1)) "ring_rims" 3) :=
  fn_okP D sc_ring_rims rfl rfl (t_ring_rims W n) fun cdv A outer s H E hr => b_ring_rims F cdv A outer s H E hr
theorem bi_ring_rims {f : Addr} {fd : FuncData} (D : FnP K "ring_rims" top_ring_rims f fd) : Binds K fd ["web", "turns", "ring"] [] := D.bindsN fun _ _ _ _ _ _ us hl => match us, hl with | [_, _, _], _ => rfl
theorem ok__law_draws {f : Addr} {fd : FuncData} {n : Nat} (D : FnP K "_law_draws" top__law_draws f fd) (F : Fx P w K mg base n (tab W n)) : FnOk P w K mg base CX0 (n + 1) f fd ["script"] (spF K (tab W (n + 1)) "_law_draws" 1) :=
  fn_okF D sc__law_draws rfl rfl rfl (fresh_lst _) (t__law_draws W n) fun cdv A outer s H E hr => b__law_draws F cdv A outer s H E hr
theorem bi__law_draws {f : Addr} {fd : FuncData} (D : FnP K "_law_draws" top__law_draws f fd) : Binds K fd ["script"] [] := D.bindsN fun _ _ _ _ _ _ us hl => match us, hl with | [_], _ => rfl
theorem ok__law_draw {f : Addr} {fd : FuncData} {n : Nat} (D : FnP K "_law_draw" top__law_draw f fd) (F : Fx P w K mg base n (tab W n)) : FnOk P w K mg base CX0 (n + 1) f fd ["draws", "limit"] (spM K (tab W (n + 1)) "_law_draw" 2) :=
  fn_okM D sc__law_draw rfl rfl (t__law_draw W n) fun cdv A outer s H E hr => b__law_draw F cdv A outer s H E hr
theorem bi__law_draw {f : Addr} {fd : FuncData} (D : FnP K "_law_draw" top__law_draw f fd) : Binds K fd ["draws", "limit"] [] := D.bindsN fun _ _ _ _ _ _ us hl => match us, hl with | [_, _], _ => rfl
theorem ok__law_same {f : Addr} {fd : FuncData} {n : Nat} (D : FnP K "_law_same" top__law_same f fd) (F : Fx P w K mg base n (tab W n)) : FnOk P w K mg base CX0 (n + 1) f fd ["x", "due"] (spP K (tab W (n + 1)) "_law_same" 2) :=
  fn_okP D sc__law_same rfl rfl (t__law_same W n) fun cdv A outer s H E hr => b__law_same F cdv A outer s H E hr
theorem bi__law_same {f : Addr} {fd : FuncData} (D : FnP K "_law_same" top__law_same f fd) : Binds K fd ["x", "due"] [] := D.bindsN fun _ _ _ _ _ _ us hl => match us, hl with | [_, _], _ => rfl
theorem ok__law_copy {f : Addr} {fd : FuncData} {n : Nat} (D : FnP K "_law_copy" top__law_copy f fd) (F : Fx P w K mg base n (tab W n)) : FnOk P w K mg base CX0 (n + 1) f fd ["thing"] (spP K (tab W (n + 1)) "_law_copy" 1) :=
  fn_okP D sc__law_copy rfl rfl (t__law_copy W n) fun cdv A outer s H E hr => b__law_copy F cdv A outer s H E hr
theorem bi__law_copy {f : Addr} {fd : FuncData} (D : FnP K "_law_copy" top__law_copy f fd) : Binds K fd ["thing"] [] := D.bindsN fun _ _ _ _ _ _ us hl => match us, hl with | [_], _ => rfl
theorem ok__law_halves {f : Addr} {fd : FuncData} {n : Nat} (D : FnP K "_law_halves" top__law_halves f fd) (F : Fx P w K mg base n (tab W n)) : FnOk P w K mg base CX0 (n + 1) f fd ["web"] (spP K (tab W (n + 1)) "_law_halves" 1) :=
  fn_okP D sc__law_halves rfl rfl (t__law_halves W n) fun cdv A outer s H E hr => b__law_halves F cdv A outer s H E hr
theorem bi__law_halves {f : Addr} {fd : FuncData} (D : FnP K "_law_halves" top__law_halves f fd) : Binds K fd ["web"] [] := D.bindsN fun _ _ _ _ _ _ us hl => match us, hl with | [_], _ => rfl
theorem ok__law_parts {f : Addr} {fd : FuncData} {n : Nat} (D : FnP K "_law_parts" top__law_parts f fd) (F : Fx P w K mg base n (tab W n)) : FnOk P w K mg base CX0 (n + 1) f fd ["web", "gone", "barred"] (spP K (tab W (n + 1)) "_law_parts" 3) :=
  fn_okP D sc__law_parts rfl rfl (t__law_parts W n) fun cdv A outer s H E hr => b__law_parts F cdv A outer s H E hr
theorem bi__law_parts {f : Addr} {fd : FuncData} (D : FnP K "_law_parts" top__law_parts f fd) : Binds K fd ["web", "gone", "barred"] [] := D.bindsN fun _ _ _ _ _ _ us hl => match us, hl with | [_, _, _], _ => rfl
theorem ok__law_least {f : Addr} {fd : FuncData} {n : Nat} (D : FnP K "_law_least" top__law_least f fd) (F : Fx P w K mg base n (tab W n)) : FnOk P w K mg base CX0 (n + 1) f fd ["row"] (spP K (tab W (n + 1)) "_law_least" 1) :=
  fn_okP D sc__law_least rfl rfl (t__law_least W n) fun cdv A outer s H E hr => b__law_least F cdv A outer s H E hr
theorem bi__law_least {f : Addr} {fd : FuncData} (D : FnP K "_law_least" top__law_least f fd) : Binds K fd ["row"] [] := D.bindsN fun _ _ _ _ _ _ us hl => match us, hl with | [_], _ => rfl
theorem ok__law_rims {f : Addr} {fd : FuncData} {n : Nat} (D : FnP K "_law_rims" top__law_rims f fd) (F : Fx P w K mg base n (tab W n)) : FnOk P w K mg base CX0 (n + 1) f fd ["web", "turns"] (spP K (tab W (n + 1)) "_law_rims" 2) :=
  fn_okP D sc__law_rims rfl rfl (t__law_rims W n) fun cdv A outer s H E hr => b__law_rims F cdv A outer s H E hr
theorem bi__law_rims {f : Addr} {fd : FuncData} (D : FnP K "_law_rims" top__law_rims f fd) : Binds K fd ["web", "turns"] [] := D.bindsN fun _ _ _ _ _ _ us hl => match us, hl with | [_, _], _ => rfl
theorem ok__law_genus {f : Addr} {fd : FuncData} {n : Nat} (D : FnP K "_law_genus" top__law_genus f fd) (F : Fx P w K mg base n (tab W n)) : FnOk P w K mg base CX0 (n + 1) f fd ["web", "turns"] (spP K (tab W (n + 1)) "_law_genus" 2) :=
  fn_okP D sc__law_genus rfl rfl (t__law_genus W n) fun cdv A outer s H E hr => b__law_genus F cdv A outer s H E hr
theorem bi__law_genus {f : Addr} {fd : FuncData} (D : FnP K "_law_genus" top__law_genus f fd) : Binds K fd ["web", "turns"] [] := D.bindsN fun _ _ _ _ _ _ us hl => match us, hl with | [_, _], _ => rfl
theorem ok__law_laid {f : Addr} {fd : FuncData} {n : Nat} (D : FnP K "_law_laid" top__law_laid f fd) (F : Fx P w K mg base n (tab W n)) : FnOk P w K mg base CX0 (n + 1) f fd ["turns", "t", "a", "b", "one", "two"] (spP K (tab W (n + 1)) "_law_laid" 6) :=
  fn_okP D sc__law_laid rfl rfl (t__law_laid W n) fun cdv A outer s H E hr => b__law_laid F cdv A outer s H E hr
theorem bi__law_laid {f : Addr} {fd : FuncData} (D : FnP K "_law_laid" top__law_laid f fd) : Binds K fd ["turns", "t", "a", "b", "one", "two"] [] := D.bindsN fun _ _ _ _ _ _ us hl => match us, hl with | [_, _, _, _, _, _], _ => rfl
theorem ok__law_ringed {f : Addr} {fd : FuncData} {n : Nat} (D : FnP K "_law_ringed" top__law_ringed f fd) (F : Fx P w K mg base n (tab W n)) : FnOk P w K mg base CX0 (n + 1) f fd ["draws"] (spM K (tab W (n + 1)) "_law_ringed" 1) :=
  fn_okM D sc__law_ringed rfl rfl (t__law_ringed W n) fun cdv A outer s H E hr => b__law_ringed F cdv A outer s H E hr
theorem bi__law_ringed {f : Addr} {fd : FuncData} (D : FnP K "_law_ringed" top__law_ringed f fd) : Binds K fd ["draws"] [] := D.bindsN fun _ _ _ _ _ _ us hl => match us, hl with | [_], _ => rfl
theorem ok__law_due {f : Addr} {fd : FuncData} {n : Nat} (D : FnP K "_law_due" top__law_due f fd) (F : Fx P w K mg base n (tab W n)) : FnOk P w K mg base CX0 (n + 1) f fd ["web", "turns", "ring"] (spP K (tab W (n + 1)) "_law_due" 3) :=
  fn_okP D sc__law_due rfl rfl (t__law_due W n) fun cdv A outer s H E hr => b__law_due F cdv A outer s H E hr
theorem bi__law_due {f : Addr} {fd : FuncData} (D : FnP K "_law_due" top__law_due f fd) : Binds K fd ["web", "turns", "ring"] [] := D.bindsN fun _ _ _ _ _ _ us hl => match us, hl with | [_, _, _], _ => rfl
theorem ok__law_shorter {f : Addr} {fd : FuncData} {n : Nat} (D : FnP K "_law_shorter" top__law_shorter f fd) (F : Fx P w K mg base n (tab W n)) : FnOk P w K mg base CX0 (n + 1) f fd ["web", "ring"] (spP K (tab W (n + 1)) "_law_shorter" 2) :=
  fn_okP D sc__law_shorter rfl rfl (t__law_shorter W n) fun cdv A outer s H E hr => b__law_shorter F cdv A outer s H E hr
theorem bi__law_shorter {f : Addr} {fd : FuncData} (D : FnP K "_law_shorter" top__law_shorter f fd) : Binds K fd ["web", "ring"] [] := D.bindsN fun _ _ _ _ _ _ us hl => match us, hl with | [_, _], _ => rfl
theorem ok__law_both {f : Addr} {fd : FuncData} {n : Nat} (D : FnP K "_law_both" top__law_both f fd) (F : Fx P w K mg base n (tab W n)) : FnOk P w K mg base CX0 (n + 1) f fd ["rows", "t"] (spP K (tab W (n + 1)) "_law_both" 2) :=
  fn_okP D sc__law_both rfl rfl (t__law_both W n) fun cdv A outer s H E hr => b__law_both F cdv A outer s H E hr
theorem bi__law_both {f : Addr} {fd : FuncData} (D : FnP K "_law_both" top__law_both f fd) : Binds K fd ["rows", "t"] [] := D.bindsN fun _ _ _ _ _ _ us hl => match us, hl with | [_, _], _ => rfl
theorem ok_law {f : Addr} {fd : FuncData} {n : Nat} (D : FnP K "law" top_law f fd) (F : Fx P w K mg base n (tab W n)) : FnOk P w K mg base CX0 (n + 1) f fd ["script"] (spP K (tab W (n + 1)) "law" 1) :=
  fn_okP D sc_law rfl rfl (t_law W n) fun cdv A outer s H E hr => b_law F cdv A outer s H E hr
theorem bi_law {f : Addr} {fd : FuncData} (D : FnP K "law" top_law f fd) : Binds K fd ["script"] [] := D.bindsN fun _ _ _ _ _ _ us hl => match us, hl with | [_], _ => rfl
theorem every (G : Gx K mg) : ∀ n, Fx P w K mg base n (tab W n)
  | 0 => by
    obtain ⟨f_all_halves, fd_all_halves, D_all_halves, g_all_halves⟩ := G.d_all_halves
    obtain ⟨f_other, fd_other, D_other, g_other⟩ := G.d_other
    obtain ⟨f_nexts, fd_nexts, D_nexts, g_nexts⟩ := G.d_nexts
    obtain ⟨f_rims, fd_rims, D_rims, g_rims⟩ := G.d_rims
    obtain ⟨f_sides_of, fd_sides_of, D_sides_of, g_sides_of⟩ := G.d_sides_of
    obtain ⟨f_room_rule, fd_room_rule, D_room_rule, g_room_rule⟩ := G.d_room_rule
    obtain ⟨f_ring_rims, fd_ring_rims, D_ring_rims, g_ring_rims⟩ := G.d_ring_rims
    obtain ⟨f__law_draws, fd__law_draws, D__law_draws, g__law_draws⟩ := G.d__law_draws
    obtain ⟨f__law_draw, fd__law_draw, D__law_draw, g__law_draw⟩ := G.d__law_draw
    obtain ⟨f__law_same, fd__law_same, D__law_same, g__law_same⟩ := G.d__law_same
    obtain ⟨f__law_copy, fd__law_copy, D__law_copy, g__law_copy⟩ := G.d__law_copy
    obtain ⟨f__law_halves, fd__law_halves, D__law_halves, g__law_halves⟩ := G.d__law_halves
    obtain ⟨f__law_parts, fd__law_parts, D__law_parts, g__law_parts⟩ := G.d__law_parts
    obtain ⟨f__law_least, fd__law_least, D__law_least, g__law_least⟩ := G.d__law_least
    obtain ⟨f__law_rims, fd__law_rims, D__law_rims, g__law_rims⟩ := G.d__law_rims
    obtain ⟨f__law_genus, fd__law_genus, D__law_genus, g__law_genus⟩ := G.d__law_genus
    obtain ⟨f__law_laid, fd__law_laid, D__law_laid, g__law_laid⟩ := G.d__law_laid
    obtain ⟨f__law_ringed, fd__law_ringed, D__law_ringed, g__law_ringed⟩ := G.d__law_ringed
    obtain ⟨f__law_due, fd__law_due, D__law_due, g__law_due⟩ := G.d__law_due
    obtain ⟨f__law_shorter, fd__law_shorter, D__law_shorter, g__law_shorter⟩ := G.d__law_shorter
    obtain ⟨f__law_both, fd__law_both, D__law_both, g__law_both⟩ := G.d__law_both
    obtain ⟨f_law, fd_law, D_law, g_law⟩ := G.d_law
    exact ⟨⟨_, _, _, ok0P, g_all_halves, D_all_halves.kp, bi_all_halves D_all_halves⟩, ⟨_, _, _, ok0P, g_other, D_other.kp, bi_other D_other⟩, ⟨_, _, _, ok0P, g_nexts, D_nexts.kp, bi_nexts D_nexts⟩, ⟨_, _, _, ok0P, g_rims, D_rims.kp, bi_rims D_rims⟩, ⟨_, _, _, ok0P, g_sides_of, D_sides_of.kp, bi_sides_of D_sides_of⟩, ⟨_, _, _, ok0P, g_room_rule, D_room_rule.kp, bi_room_rule D_room_rule⟩, ⟨_, _, _, ok0P, g_ring_rims, D_ring_rims.kp, bi_ring_rims D_ring_rims⟩, ⟨_, _, _, ok0F, g__law_draws, D__law_draws.kp, bi__law_draws D__law_draws⟩, ⟨_, _, _, ok0M, g__law_draw, D__law_draw.kp, bi__law_draw D__law_draw⟩, ⟨_, _, _, ok0P, g__law_same, D__law_same.kp, bi__law_same D__law_same⟩, ⟨_, _, _, ok0P, g__law_copy, D__law_copy.kp, bi__law_copy D__law_copy⟩, ⟨_, _, _, ok0P, g__law_halves, D__law_halves.kp, bi__law_halves D__law_halves⟩, ⟨_, _, _, ok0P, g__law_parts, D__law_parts.kp, bi__law_parts D__law_parts⟩, ⟨_, _, _, ok0P, g__law_least, D__law_least.kp, bi__law_least D__law_least⟩, ⟨_, _, _, ok0P, g__law_rims, D__law_rims.kp, bi__law_rims D__law_rims⟩, ⟨_, _, _, ok0P, g__law_genus, D__law_genus.kp, bi__law_genus D__law_genus⟩, ⟨_, _, _, ok0P, g__law_laid, D__law_laid.kp, bi__law_laid D__law_laid⟩, ⟨_, _, _, ok0M, g__law_ringed, D__law_ringed.kp, bi__law_ringed D__law_ringed⟩, ⟨_, _, _, ok0P, g__law_due, D__law_due.kp, bi__law_due D__law_due⟩, ⟨_, _, _, ok0P, g__law_shorter, D__law_shorter.kp, bi__law_shorter D__law_shorter⟩, ⟨_, _, _, ok0P, g__law_both, D__law_both.kp, bi__law_both D__law_both⟩, ⟨_, _, _, ok0P, g_law, D_law.kp, bi_law D_law⟩, G.m_all, G.m_any, G.m_bool, G.m_dict, G.m_enumerate, G.m_int, G.m_isinstance, G.m_len, G.m_list, G.m_min, G.m_range, G.m_sorted, G.m_str, G.m_sum, G.m_tuple⟩
  | n + 1 => by
    have F := every G n
    obtain ⟨f_all_halves, fd_all_halves, D_all_halves, g_all_halves⟩ := G.d_all_halves
    obtain ⟨f_other, fd_other, D_other, g_other⟩ := G.d_other
    obtain ⟨f_nexts, fd_nexts, D_nexts, g_nexts⟩ := G.d_nexts
    obtain ⟨f_rims, fd_rims, D_rims, g_rims⟩ := G.d_rims
    obtain ⟨f_sides_of, fd_sides_of, D_sides_of, g_sides_of⟩ := G.d_sides_of
    obtain ⟨f_room_rule, fd_room_rule, D_room_rule, g_room_rule⟩ := G.d_room_rule
    obtain ⟨f_ring_rims, fd_ring_rims, D_ring_rims, g_ring_rims⟩ := G.d_ring_rims
    obtain ⟨f__law_draws, fd__law_draws, D__law_draws, g__law_draws⟩ := G.d__law_draws
    obtain ⟨f__law_draw, fd__law_draw, D__law_draw, g__law_draw⟩ := G.d__law_draw
    obtain ⟨f__law_same, fd__law_same, D__law_same, g__law_same⟩ := G.d__law_same
    obtain ⟨f__law_copy, fd__law_copy, D__law_copy, g__law_copy⟩ := G.d__law_copy
    obtain ⟨f__law_halves, fd__law_halves, D__law_halves, g__law_halves⟩ := G.d__law_halves
    obtain ⟨f__law_parts, fd__law_parts, D__law_parts, g__law_parts⟩ := G.d__law_parts
    obtain ⟨f__law_least, fd__law_least, D__law_least, g__law_least⟩ := G.d__law_least
    obtain ⟨f__law_rims, fd__law_rims, D__law_rims, g__law_rims⟩ := G.d__law_rims
    obtain ⟨f__law_genus, fd__law_genus, D__law_genus, g__law_genus⟩ := G.d__law_genus
    obtain ⟨f__law_laid, fd__law_laid, D__law_laid, g__law_laid⟩ := G.d__law_laid
    obtain ⟨f__law_ringed, fd__law_ringed, D__law_ringed, g__law_ringed⟩ := G.d__law_ringed
    obtain ⟨f__law_due, fd__law_due, D__law_due, g__law_due⟩ := G.d__law_due
    obtain ⟨f__law_shorter, fd__law_shorter, D__law_shorter, g__law_shorter⟩ := G.d__law_shorter
    obtain ⟨f__law_both, fd__law_both, D__law_both, g__law_both⟩ := G.d__law_both
    obtain ⟨f_law, fd_law, D_law, g_law⟩ := G.d_law
    exact ⟨⟨_, _, _, ok_all_halves D_all_halves F, g_all_halves, D_all_halves.kp, bi_all_halves D_all_halves⟩, ⟨_, _, _, ok_other D_other F, g_other, D_other.kp, bi_other D_other⟩, ⟨_, _, _, ok_nexts D_nexts F, g_nexts, D_nexts.kp, bi_nexts D_nexts⟩, ⟨_, _, _, ok_rims D_rims F, g_rims, D_rims.kp, bi_rims D_rims⟩, ⟨_, _, _, ok_sides_of D_sides_of F, g_sides_of, D_sides_of.kp, bi_sides_of D_sides_of⟩, ⟨_, _, _, ok_room_rule D_room_rule F, g_room_rule, D_room_rule.kp, bi_room_rule D_room_rule⟩, ⟨_, _, _, ok_ring_rims D_ring_rims F, g_ring_rims, D_ring_rims.kp, bi_ring_rims D_ring_rims⟩, ⟨_, _, _, ok__law_draws D__law_draws F, g__law_draws, D__law_draws.kp, bi__law_draws D__law_draws⟩, ⟨_, _, _, ok__law_draw D__law_draw F, g__law_draw, D__law_draw.kp, bi__law_draw D__law_draw⟩, ⟨_, _, _, ok__law_same D__law_same F, g__law_same, D__law_same.kp, bi__law_same D__law_same⟩, ⟨_, _, _, ok__law_copy D__law_copy F, g__law_copy, D__law_copy.kp, bi__law_copy D__law_copy⟩, ⟨_, _, _, ok__law_halves D__law_halves F, g__law_halves, D__law_halves.kp, bi__law_halves D__law_halves⟩, ⟨_, _, _, ok__law_parts D__law_parts F, g__law_parts, D__law_parts.kp, bi__law_parts D__law_parts⟩, ⟨_, _, _, ok__law_least D__law_least F, g__law_least, D__law_least.kp, bi__law_least D__law_least⟩, ⟨_, _, _, ok__law_rims D__law_rims F, g__law_rims, D__law_rims.kp, bi__law_rims D__law_rims⟩, ⟨_, _, _, ok__law_genus D__law_genus F, g__law_genus, D__law_genus.kp, bi__law_genus D__law_genus⟩, ⟨_, _, _, ok__law_laid D__law_laid F, g__law_laid, D__law_laid.kp, bi__law_laid D__law_laid⟩, ⟨_, _, _, ok__law_ringed D__law_ringed F, g__law_ringed, D__law_ringed.kp, bi__law_ringed D__law_ringed⟩, ⟨_, _, _, ok__law_due D__law_due F, g__law_due, D__law_due.kp, bi__law_due D__law_due⟩, ⟨_, _, _, ok__law_shorter D__law_shorter F, g__law_shorter, D__law_shorter.kp, bi__law_shorter D__law_shorter⟩, ⟨_, _, _, ok__law_both D__law_both F, g__law_both, D__law_both.kp, bi__law_both D__law_both⟩, ⟨_, _, _, ok_law D_law F, g_law, D_law.kp, bi_law D_law⟩, G.m_all, G.m_any, G.m_bool, G.m_dict, G.m_enumerate, G.m_int, G.m_isinstance, G.m_len, G.m_list, G.m_min, G.m_range, G.m_sorted, G.m_str, G.m_sum, G.m_tuple⟩
end
end K95

set_option Elab.async false
set_option linter.all false
set_option maxRecDepth 100000
set_option maxHeartbeats 0
namespace K95
open PySem L2 PySem.Spec PyProof.Rows PD
/-! ### the head -/
abbrev STEPS : Nat := 2000
def D_all_halves : He.DefD := ⟨("all_halves", none), "all_halves", "all_halves", defArgs top_all_halves, defBody top_all_halves, defScope top_all_halves, [], []⟩
def D_other : He.DefD := ⟨("other", none), "other", "other", defArgs top_other, defBody top_other, defScope top_other, [], []⟩
def D_nexts : He.DefD := ⟨("nexts", none), "nexts", "nexts", defArgs top_nexts, defBody top_nexts, defScope top_nexts, [], []⟩
def D_rims : He.DefD := ⟨("rims", none), "rims", "rims", defArgs top_rims, defBody top_rims, defScope top_rims, [], []⟩
def D_sides_of : He.DefD := ⟨("sides_of", none), "sides_of", "sides_of", defArgs top_sides_of, defBody top_sides_of, defScope top_sides_of, [], []⟩
def D_room_rule : He.DefD := ⟨("room_rule", none), "room_rule", "room_rule", defArgs top_room_rule, defBody top_room_rule, defScope top_room_rule, [], []⟩
def D_ring_rims : He.DefD := ⟨("ring_rims", none), "ring_rims", "ring_rims", defArgs top_ring_rims, defBody top_ring_rims, defScope top_ring_rims, [], []⟩
def D__law_draws : He.DefD := ⟨("_law_draws", none), "_law_draws", "_law_draws", defArgs top__law_draws, defBody top__law_draws, defScope top__law_draws, [], []⟩
def D__law_draw : He.DefD := ⟨("_law_draw", none), "_law_draw", "_law_draw", defArgs top__law_draw, defBody top__law_draw, defScope top__law_draw, [], []⟩
def D__law_same : He.DefD := ⟨("_law_same", none), "_law_same", "_law_same", defArgs top__law_same, defBody top__law_same, defScope top__law_same, [], []⟩
def D__law_copy : He.DefD := ⟨("_law_copy", none), "_law_copy", "_law_copy", defArgs top__law_copy, defBody top__law_copy, defScope top__law_copy, [], []⟩
def D__law_halves : He.DefD := ⟨("_law_halves", none), "_law_halves", "_law_halves", defArgs top__law_halves, defBody top__law_halves, defScope top__law_halves, [], []⟩
def D__law_parts : He.DefD := ⟨("_law_parts", none), "_law_parts", "_law_parts", defArgs top__law_parts, defBody top__law_parts, defScope top__law_parts, [], []⟩
def D__law_least : He.DefD := ⟨("_law_least", none), "_law_least", "_law_least", defArgs top__law_least, defBody top__law_least, defScope top__law_least, [], []⟩
def D__law_rims : He.DefD := ⟨("_law_rims", none), "_law_rims", "_law_rims", defArgs top__law_rims, defBody top__law_rims, defScope top__law_rims, [], []⟩
def D__law_genus : He.DefD := ⟨("_law_genus", none), "_law_genus", "_law_genus", defArgs top__law_genus, defBody top__law_genus, defScope top__law_genus, [], []⟩
def D__law_laid : He.DefD := ⟨("_law_laid", none), "_law_laid", "_law_laid", defArgs top__law_laid, defBody top__law_laid, defScope top__law_laid, [], []⟩
def D__law_ringed : He.DefD := ⟨("_law_ringed", none), "_law_ringed", "_law_ringed", defArgs top__law_ringed, defBody top__law_ringed, defScope top__law_ringed, [], []⟩
def D__law_due : He.DefD := ⟨("_law_due", none), "_law_due", "_law_due", defArgs top__law_due, defBody top__law_due, defScope top__law_due, [], []⟩
def D__law_shorter : He.DefD := ⟨("_law_shorter", none), "_law_shorter", "_law_shorter", defArgs top__law_shorter, defBody top__law_shorter, defScope top__law_shorter, [], []⟩
def D__law_both : He.DefD := ⟨("_law_both", none), "_law_both", "_law_both", defArgs top__law_both, defBody top__law_both, defScope top__law_both, [], []⟩
def D_law : He.DefD := ⟨("law", none), "law", "law", defArgs top_law, defBody top_law, defScope top_law, [], []⟩
def fn : List He.DefD := [D_all_halves, D_other, D_nexts, D_rims, D_sides_of, D_room_rule, D_ring_rims, D__law_draws, D__law_draw, D__law_same, D__law_copy, D__law_halves, D__law_parts, D__law_least, D__law_rims, D__law_genus, D__law_laid, D__law_ringed, D__law_due, D__law_shorter, D__law_both, D_law]
def fa : List He.Fa := [.glo "all_halves", .glo "other", .glo "nexts", .glo "rims", .glo "sides_of", .glo "room_rule", .glo "ring_rims", .glo "_law_draws", .glo "_law_draw", .glo "_law_same", .glo "_law_copy", .glo "_law_halves", .glo "_law_parts", .glo "_law_least", .glo "_law_rims", .glo "_law_genus", .glo "_law_laid", .glo "_law_ringed", .glo "_law_due", .glo "_law_shorter", .glo "_law_both", .glo "law", .free "all", .free "any", .free "bool", .free "dict", .free "enumerate", .free "int", .free "isinstance", .free "len", .free "list", .free "min", .free "range", .free "sorted", .free "str", .free "sum", .free "tuple"]
abbrev R : PySem.W.OpenRow := PySem.W.OpenLaw.row PySem.Challenge.rw_uncrossed_k95_rings_through_all_points
abbrev hk : PySem.W.Hook := He.hookD 4 fa fn
def ob (s : PySem.W.SharedT) : He.AlD := He.obsDG 4 fa fn (HandSHeadRun.getT s)
theorem ob_eq (s : PySem.W.SharedT) : ob s = hk.obs s.abs := He.obsDG_eq (HandSHeadRun.getT_eq s)
def loose : List Str := ["all_halves", "other", "nexts", "rims", "sides_of", "room_rule", "ring_rims", "_law_draws", "_law_draw", "_law_same", "_law_copy", "_law_halves", "_law_parts", "_law_least", "_law_rims", "_law_genus", "_law_laid", "_law_ringed", "_law_due", "_law_shorter", "_law_both", "__name__"]
theorem run (w : World) : HandSHeadRun.RunEq R (PySem.W.view R.prog [25]) hk ob STEPS loose w := by
  intro os
  kernel_rfl
abbrev WW : Nat := 1000000
abbrev LL : Nat := 20
theorem facts {P : Program} {w : World} {K : PySem.W.Frag} {h : Heap} {mg : Str → Option Value} {f : Addr} (X : K.In h) (G : h.Ns mainGlobals mg) (hfa : mg ("law" : Str) = some (.ref f)) (c : He.SaysD fa fn K)
    (h : ∀ ns : List Int, ns.length ≤ 63 → ∃ d, tab WW (LL + 1) "law" [.list (ns.map PyData.int)] = some (.bool true, d)) :
    ∃ fd : FuncData, (∀ (s : Shared) (v : Value), BindsTo s fd ⟨[v], []⟩ [("script", v)]) ∧ ∀ base : Heap, K.In base → base.Ns mainGlobals mg → FnOk P w K mg base CX0 (LL + 1) f fd ["script"] (spLaw K 63) := by
  obtain ⟨fd_all_halves, F_all_halves⟩ := c.def_ 0 (d := D_all_halves) rfl
  obtain ⟨fd_other, F_other⟩ := c.def_ 1 (d := D_other) rfl
  obtain ⟨fd_nexts, F_nexts⟩ := c.def_ 2 (d := D_nexts) rfl
  obtain ⟨fd_rims, F_rims⟩ := c.def_ 3 (d := D_rims) rfl
  obtain ⟨fd_sides_of, F_sides_of⟩ := c.def_ 4 (d := D_sides_of) rfl
  obtain ⟨fd_room_rule, F_room_rule⟩ := c.def_ 5 (d := D_room_rule) rfl
  obtain ⟨fd_ring_rims, F_ring_rims⟩ := c.def_ 6 (d := D_ring_rims) rfl
  obtain ⟨fd__law_draws, F__law_draws⟩ := c.def_ 7 (d := D__law_draws) rfl
  obtain ⟨fd__law_draw, F__law_draw⟩ := c.def_ 8 (d := D__law_draw) rfl
  obtain ⟨fd__law_same, F__law_same⟩ := c.def_ 9 (d := D__law_same) rfl
  obtain ⟨fd__law_copy, F__law_copy⟩ := c.def_ 10 (d := D__law_copy) rfl
  obtain ⟨fd__law_halves, F__law_halves⟩ := c.def_ 11 (d := D__law_halves) rfl
  obtain ⟨fd__law_parts, F__law_parts⟩ := c.def_ 12 (d := D__law_parts) rfl
  obtain ⟨fd__law_least, F__law_least⟩ := c.def_ 13 (d := D__law_least) rfl
  obtain ⟨fd__law_rims, F__law_rims⟩ := c.def_ 14 (d := D__law_rims) rfl
  obtain ⟨fd__law_genus, F__law_genus⟩ := c.def_ 15 (d := D__law_genus) rfl
  obtain ⟨fd__law_laid, F__law_laid⟩ := c.def_ 16 (d := D__law_laid) rfl
  obtain ⟨fd__law_ringed, F__law_ringed⟩ := c.def_ 17 (d := D__law_ringed) rfl
  obtain ⟨fd__law_due, F__law_due⟩ := c.def_ 18 (d := D__law_due) rfl
  obtain ⟨fd__law_shorter, F__law_shorter⟩ := c.def_ 19 (d := D__law_shorter) rfl
  obtain ⟨fd__law_both, F__law_both⟩ := c.def_ 20 (d := D__law_both) rfl
  obtain ⟨fd_law, F_law⟩ := c.def_ 21 (d := D_law) rfl
  have e := hfa.symm.trans (He.glo_ok X G (c.fact 21 (f := .glo "law") rfl))
  cases e
  have b := FunD.bindsA (ps := ["script"]) F_law fun _ _ _ _ _ _ us hl => match us, hl with | [_], _ => rfl
  have gx : Gx K mg := ⟨⟨_, _, F_all_halves, He.glo_ok X G (c.fact 0 (f := .glo "all_halves") rfl)⟩, ⟨_, _, F_other, He.glo_ok X G (c.fact 1 (f := .glo "other") rfl)⟩, ⟨_, _, F_nexts, He.glo_ok X G (c.fact 2 (f := .glo "nexts") rfl)⟩, ⟨_, _, F_rims, He.glo_ok X G (c.fact 3 (f := .glo "rims") rfl)⟩, ⟨_, _, F_sides_of, He.glo_ok X G (c.fact 4 (f := .glo "sides_of") rfl)⟩, ⟨_, _, F_room_rule, He.glo_ok X G (c.fact 5 (f := .glo "room_rule") rfl)⟩, ⟨_, _, F_ring_rims, He.glo_ok X G (c.fact 6 (f := .glo "ring_rims") rfl)⟩, ⟨_, _, F__law_draws, He.glo_ok X G (c.fact 7 (f := .glo "_law_draws") rfl)⟩, ⟨_, _, F__law_draw, He.glo_ok X G (c.fact 8 (f := .glo "_law_draw") rfl)⟩, ⟨_, _, F__law_same, He.glo_ok X G (c.fact 9 (f := .glo "_law_same") rfl)⟩, ⟨_, _, F__law_copy, He.glo_ok X G (c.fact 10 (f := .glo "_law_copy") rfl)⟩, ⟨_, _, F__law_halves, He.glo_ok X G (c.fact 11 (f := .glo "_law_halves") rfl)⟩, ⟨_, _, F__law_parts, He.glo_ok X G (c.fact 12 (f := .glo "_law_parts") rfl)⟩, ⟨_, _, F__law_least, He.glo_ok X G (c.fact 13 (f := .glo "_law_least") rfl)⟩, ⟨_, _, F__law_rims, He.glo_ok X G (c.fact 14 (f := .glo "_law_rims") rfl)⟩, ⟨_, _, F__law_genus, He.glo_ok X G (c.fact 15 (f := .glo "_law_genus") rfl)⟩, ⟨_, _, F__law_laid, He.glo_ok X G (c.fact 16 (f := .glo "_law_laid") rfl)⟩, ⟨_, _, F__law_ringed, He.glo_ok X G (c.fact 17 (f := .glo "_law_ringed") rfl)⟩, ⟨_, _, F__law_due, He.glo_ok X G (c.fact 18 (f := .glo "_law_due") rfl)⟩, ⟨_, _, F__law_shorter, He.glo_ok X G (c.fact 19 (f := .glo "_law_shorter") rfl)⟩, ⟨_, _, F__law_both, He.glo_ok X G (c.fact 20 (f := .glo "_law_both") rfl)⟩, ⟨_, _, F_law, He.glo_ok X G (c.fact 21 (f := .glo "law") rfl)⟩, He.free_ok X G (c.fact 22 (f := .free "all") rfl), He.free_ok X G (c.fact 23 (f := .free "any") rfl), He.free_ok X G (c.fact 24 (f := .free "bool") rfl), He.free_ok X G (c.fact 25 (f := .free "dict") rfl), He.free_ok X G (c.fact 26 (f := .free "enumerate") rfl), He.free_ok X G (c.fact 27 (f := .free "int") rfl), He.free_ok X G (c.fact 28 (f := .free "isinstance") rfl), He.free_ok X G (c.fact 29 (f := .free "len") rfl), He.free_ok X G (c.fact 30 (f := .free "list") rfl), He.free_ok X G (c.fact 31 (f := .free "min") rfl), He.free_ok X G (c.fact 32 (f := .free "range") rfl), He.free_ok X G (c.fact 33 (f := .free "sorted") rfl), He.free_ok X G (c.fact 34 (f := .free "str") rfl), He.free_ok X G (c.fact 35 (f := .free "sum") rfl), He.free_ok X G (c.fact 36 (f := .free "tuple") rfl)⟩
  exact ⟨fd_law, fun s v => b s [v] rfl, fun base _ _ => law_of (ok_law F_law (every gx LL)) h⟩
end K95

namespace K95
theorem law_plain : ∀ ns : List Int, ns.length ≤ 63 → ∃ d, tab WW (LL + 1) "law" [.list (ns.map PySem.PyData.int)] = some (.bool true, d) := fun ns _ => ⟨_, law_any (by show 5000 ≤ 1000000; decide) ns⟩
end K95

open PySem PySem.W PySem.Calls PyProof.Rows
theorem PySem.Challenge.cw_uncrossed_k95_rings_through_all_points_holds : PySem.Challenge.rw_uncrossed_k95_rings_through_all_points.Holds := by
  w_on; o_law
  refine HandSHeadRun.head_any (r := OpenLaw.row PySem.Challenge.rw_uncrossed_k95_rings_through_all_points) (q := view (OpenLaw.row PySem.Challenge.rw_uncrossed_k95_rings_through_all_points).prog [25]) (H := K95.hk) (ob := K95.ob) (M := K95.STEPS) (loose := K95.loose) (d := HandSHeadRun.topDef (OpenLaw.row PySem.Challenge.rw_uncrossed_k95_rings_through_all_points).prog 25) (kwd := []) K95.ob_eq
    (by kernel_rfl) (fun s => by kernel_rfl) K95.run (by kernel_rfl) (by kernel_rfl) (by kernel_rfl) (by rfl) (by first | assumption | decide +kernel) (by decide +kernel) ⟨rfl, rfl, rfl, rfl, rfl, by decide +kernel⟩ ?hw ?hc
  case hw => w_witness2
  case hc =>
    refine L2.walk_ofE (l := PySem.Challenge.rw_uncrossed_k95_rings_through_all_points) (n := 63) (k := K95.LL + 1) (x := "script") (CX := L2.CX0) rfl (by decide) (by kernel_rfl) ⟨rfl, by decide, by decide⟩ ?F (fun _ _ _ _ z => z)
    intro w mg fa h Y G hmg0
    obtain ⟨K, KX, c⟩ := Y
    have hmg : mg ("law" : PySem.Str) = some (.ref fa) := by
      have e : (HandSHeadRun.topDef (OpenLaw.row PySem.Challenge.rw_uncrossed_k95_rings_through_all_points).prog 25).name = ("law" : PySem.Str) := by kernel_rfl
      rw [← e]
      exact hmg0
    obtain ⟨fd, hb, hF⟩ := K95.facts (P := (PySem.Challenge.rw_uncrossed_k95_rings_through_all_points).prog) (w := w) KX G hmg c K95.law_plain
    exact ⟨K, fd, PD.spLaw K 63, KX, hb, fun H a ns hl hle hS => ⟨a, ns, rfl, hS, by first | exact hl | exact hle | omega, fun _ => rfl⟩, hF⟩

